/- Part 4 of the proof that RollTrue answers true: contracts and laws, merged by a program. -/
import Derived.Test.YthgjedagbgmgmaaDoorRollTrueA3
namespace Go.Proofs.YthgjedagbgmgmaaDoor.Pr
open Go.RowKit Go.Proofs.YthgjedagbgmgmaaDoorW.PrintWords Go.Proofs.YthgjedagbgmgmaaDoorW.PrintLast Go.Proofs.YthgjedagbgmgmaaDoorW.PrintMore
attribute [local go_sem] max2_int min2_int max_two min_two -- for this text's walks alone
set_option linter.unusedVariables false
set_option linter.unusedSimpArgs false
mutual
def roll_Check.j0 : Nat → Bool → List (S92) → List (S90) → List (S43) → Option (Int)
  | 0, _, _, _, _ => none
  | k + 1, x3, x108000, x108001, x108002 => roll_Check.l0 k x3 x108000 (x108000.length : Int) 0 x108000 x108001 x108002
def roll_Check.l0 : Nat → Bool → List (S92) → Int → Int → List (S92) → List (S90) → List (S43) → Option (Int)
  | 0, _, _, _, _, _, _, _ => none
  | k + 1, x3, x28, x29, x30, x108000, x108001, x108002 => if x30 < x29 then (if 0 ≤ x30 then (if x30 < (x28.length : Int) then (if x3 = true then ((roll_within.f ((rd_T92 x28 x30).f0) 1 30).bind fun t112 => (if t112 = true then ((roll_within.f ((rd_T92 x28 x30).f1) 1 50).bind fun t113 => (roll_Check.l0 k t113 x28 x29 (wrap64 (x30 + 1)) x108000 x108001 x108002)) else (roll_Check.l0 k false x28 x29 (wrap64 (x30 + 1)) x108000 x108001 x108002))) else (roll_Check.l0 k false x28 x29 (wrap64 (x30 + 1)) x108000 x108001 x108002)) else (none)) else (none)) else (roll_Check.l1 k x3 x108001 (x108001.length : Int) 0 x108000 x108001 x108002)
def roll_Check.l1 : Nat → Bool → List (S90) → Int → Int → List (S92) → List (S90) → List (S43) → Option (Int)
  | 0, _, _, _, _, _, _, _ => none
  | k + 1, x3, x47, x48, x49, x108000, x108001, x108002 => if x49 < x48 then (if 0 ≤ x49 then (if x49 < (x47.length : Int) then (if x3 = true then (if 0 ≤ ((rd_T90 x47 x49).f0.f0) then (if ((rd_T90 x47 x49).f0.f0) ≤ ((rd_T90 x47 x49).f0.f1) then (if ((rd_T90 x47 x49).f0.f1) ≤ 20 then (if (wrap64 (((rd_T90 x47 x49).f0.f1) - ((rd_T90 x47 x49).f0.f0))) ≤ 1 then ((roll_within.f ((rd_T90 x47 x49).f1) 1 7).bind fun t117 => (roll_Check.l1 k t117 x47 x48 (wrap64 (x49 + 1)) x108000 x108001 x108002)) else (roll_Check.l1 k false x47 x48 (wrap64 (x49 + 1)) x108000 x108001 x108002)) else (roll_Check.l1 k false x47 x48 (wrap64 (x49 + 1)) x108000 x108001 x108002)) else (roll_Check.l1 k false x47 x48 (wrap64 (x49 + 1)) x108000 x108001 x108002)) else (roll_Check.l1 k false x47 x48 (wrap64 (x49 + 1)) x108000 x108001 x108002)) else (roll_Check.l1 k false x47 x48 (wrap64 (x49 + 1)) x108000 x108001 x108002)) else (none)) else (none)) else (roll_Check.l2 k x3 x108002 (x108002.length : Int) 0 x108000 x108001 x108002)
def roll_Check.l2 : Nat → Bool → List (S43) → Int → Int → List (S92) → List (S90) → List (S43) → Option (Int)
  | 0, _, _, _, _, _, _, _ => none
  | k + 1, x3, x88, x89, x90, x108000, x108001, x108002 => if x90 < x89 then (if 0 ≤ x90 then (if x90 < (x88.length : Int) then (if x3 = true then ((roll_isLook.f x108000 x108001 x108002 ((rd_T43 x88 x90).f0) ((rd_T43 x88 x90).f1)).bind fun t120 => (roll_Check.l2 k t120 x88 x89 (wrap64 (x90 + 1)) x108000 x108001 x108002)) else (roll_Check.l2 k false x88 x89 (wrap64 (x90 + 1)) x108000 x108001 x108002)) else (none)) else (none)) else (if x3 = true then (some 0) else (some 70))
end
def roll_Check.f (k : Nat) (l0_0 : List (S92)) (l0_1 : List (S90)) (l0_2 : List (S43)) : Option (Int) := (roll_within.f (l0_0.length : Int) 1 4).bind fun t108 => (if t108 = true then ((roll_within.f (l0_1.length : Int) 1 5).bind fun t109 => (if t109 = true then (roll_Check.j0 k (decide ((l0_2.length : Int) ≤ 4)) l0_0 l0_1 l0_2) else (roll_Check.j0 k false l0_0 l0_1 l0_2))) else (roll_Check.j0 k false l0_0 l0_1 l0_2))
set_option maxHeartbeats 8000000 in
set_option maxRecDepth 100000 in
theorem roll_Check.calls (k : Nat) (A0_0 : Option Addr) (c0_0 : Nat) (l0_0 : List (S92)) (A0_1 : Option Addr) (c0_1 : Nat) (l0_1 : List (S90)) (A0_2 : Option Addr) (c0_2 : Nat) (l0_2 : List (S43)) (r : Int) (w : World) (hr0_0 : Kd.C k92 w A0_0 l0_0.length l0_0) (hc0_0 : l0_0.length ≤ c0_0) (hr0_1 : Kd.C k90 w A0_1 l0_1.length l0_1) (hc0_1 : l0_1.length ≤ c0_1) (hr0_2 : Kd.C k43 w A0_2 l0_2.length l0_2) (hc0_2 : l0_2.length ≤ c0_2) (h : roll_Check.f k l0_0 l0_1 l0_2 = some r) :
    Calls Tryd.prog 19 #[.agg #[.slice A0_0 l0_0.length c0_0, .slice A0_1 l0_1.length c0_1, .slice A0_2 l0_2.length c0_2]] w fun e w' => e = .returned (.int .i64 r) ∧ Below w.heap.size w w' := by
  have hu26 := Tryd.underlying26
  have hu92 := Tryd.underlying92
  have hu90 := Tryd.underlying90
  have hu32 := Tryd.underlying32
  have hu43 := Tryd.underlying43
  have HR0_0 := Aside0.mk hr0_0
  have HC0_0 := Aside0.mk hc0_0
  clear hr0_0 hc0_0
  have HR0_1 := Aside0.mk hr0_1
  have HC0_1 := Aside0.mk hc0_1
  clear hr0_1 hc0_1
  have HR0_2 := Aside0.mk hr0_2
  have HC0_2 := Aside0.mk hc0_2
  clear hr0_2 hc0_2
  have HB := Aside0.mk (Below.refl w.heap.size w)
  have H : ((roll_within.f (l0_0.length : Int) 1 4).bind fun t108 => (if t108 = true then ((roll_within.f (l0_1.length : Int) 1 5).bind fun t109 => (if t109 = true then (roll_Check.j0 k (decide ((l0_2.length : Int) ≤ 4)) l0_0 l0_1 l0_2) else (roll_Check.j0 k false l0_0 l0_1 l0_2))) else (roll_Check.j0 k false l0_0 l0_1 l0_2))) = some r := h
  clear h
  have HC2 := Aside0.mk H
  clear H
  go_enter Tryd.func19, Tryd.ntmps19
  go_upto_region 1 with (first | ((with_reducible refine gate_dst (N := 1) rfl ?_); (try (refine gate_guard (by rfl) ?_; dsimp only)); refine box_event ?hg (N := 1) ?hd (cs := #[.slice A0_0 l0_0.length c0_0, .slice A0_1 l0_1.length c0_1, .slice A0_2 l0_2.length c0_2]) (t := 26) ?hr ?_; (case hd => rfl); (case hg => rfl); (case hr => first | (go_simp; done) | (go_simp; rfl)); intro gb107 hg w3 hbox hb; have n0_ := Aside0.mk (below_step (by repeat (first | (with_reducible first | exact HB.out | apply below_alloc | apply pw_below_drewN | apply below_drew1) | exact HB.out)) hb); have n1_ := Aside0.mk (hbox); have n2_ := Aside0.mk ((by rw [hg]; exact (below_size (by repeat (first | (with_reducible first | exact HB.out | apply below_alloc | apply pw_below_drewN | apply below_drew1) | exact HB.out))) : w.heap.size ≤ gb107)); have n3_ := Aside0.mk ((by rw [hg]; exact (below_size (by repeat (first | (with_reducible first | exact HB.out | apply below_alloc | apply pw_below_drewN | apply below_drew1) | exact HB.out))) : w.heap.size ≤ gb107)); clear HB; have HB := n0_; have BK107 := n1_; have GW107 := n2_; have GE107 := n3_; clear n0_ n1_ n2_ n3_; clear hb hbox hg))
  (try simp only [Act.put, List.setIfInBounds_toArray, List.set_cons_zero, List.set_cons_succ])
  go_cut [3] (fun v3 wc => ∃ (kq : Nat) (x3_1 : Bool), v3 = .bool x3_1 ∧ Aside0 (roll_Check.j0 kq x3_1 l0_0 l0_1 l0_2 = some r) ∧ Aside0 (kq ≤ k) ∧ Aside0 (wc.heap[gb107]? = some (.cells #[(.slice A0_0 l0_0.length c0_0), (.slice A0_1 l0_1.length c0_1), (.slice A0_2 l0_2.length c0_2)] 26 (0, 0))) ∧ Aside0 (Below w.heap.size w wc))
  case first =>
    have H := HC2.out
    clear HC2
    replace H := Option.bind_eq_some_iff.mp H
    obtain ⟨t108, A40, H⟩ := H
    replace H : (if t108 = true then ((roll_within.f (l0_1.length : Int) 1 5).bind fun t109 => (if t109 = true then (roll_Check.j0 k (decide ((l0_2.length : Int) ≤ 4)) l0_0 l0_1 l0_2) else (roll_Check.j0 k false l0_0 l0_1 l0_2))) else (roll_Check.j0 k false l0_0 l0_1 l0_2)) = some r := H
    have A4 := Aside0.mk A40
    clear A40
    by_cases c5 : t108 = true
    · subst c5
      have H1 : ((roll_within.f (l0_1.length : Int) 1 5).bind fun t109 => (if t109 = true then (roll_Check.j0 k (decide ((l0_2.length : Int) ≤ 4)) l0_0 l0_1 l0_2) else (roll_Check.j0 k false l0_0 l0_1 l0_2))) = some r := by rw [if_pos rfl] at H; exact H
      clear H
      have H := H1
      clear H1
      replace H := Option.bind_eq_some_iff.mp H
      obtain ⟨t109, A60, H⟩ := H
      replace H : (if t109 = true then (roll_Check.j0 k (decide ((l0_2.length : Int) ≤ 4)) l0_0 l0_1 l0_2) else (roll_Check.j0 k false l0_0 l0_1 l0_2)) = some r := H
      have A6 := Aside0.mk A60
      clear A60
      by_cases c7 : t109 = true
      · subst c7
        have H1 : (roll_Check.j0 k (decide ((l0_2.length : Int) ≤ 4)) l0_0 l0_1 l0_2) = some r := by rw [if_pos rfl] at H; exact H
        clear H
        have H := H1
        clear H1
        have H' := Aside0.mk H
        clear H
        have hcz8_0 : w3.cell? ⟨gb107, 0, none⟩ = some (.slice A0_0 l0_0.length c0_0) := (blk_cell BK107.out 0).trans rfl
        have hcz8_1 : w3.cell? ⟨gb107, 1, none⟩ = some (.slice A0_1 l0_1.length c0_1) := (blk_cell BK107.out 1).trans rfl
        have hcz8_2 : w3.cell? ⟨gb107, 2, none⟩ = some (.slice A0_2 l0_2.length c0_2) := (blk_cell BK107.out 2).trans rfl
        have hfz8_0 := blk_frozen BK107.out 0
        have hfz8_1 := blk_frozen BK107.out 1
        have hfz8_2 := blk_frozen BK107.out 2
        go_wp2_with (first | ((with_reducible refine gate_callee (f := 77) rfl ?_); refine goesL_ (some 14) rfl rfl Tryd.func77 (by kernel_rfl) rfl #[.int .i64 (l0_0.length : Int), .int .i64 1, .int .i64 4] rfl (by (try simp only [List.map_toArray, List.map_cons, List.map_nil]); first | done | rfl | (simp only [List.length_drop, List.length_take]; rfl)) ?_; (with_reducible refine (roll_within.calls (l0_0.length : Int) 1 4 true _ A4.out).mono ?_); rintro e w' ⟨rfl, ⟨nd, rfl⟩⟩; refine ⟨_, rfl, ?_⟩) | (go_at_call 77; (with_reducible refine (roll_within.calls (l0_1.length : Int) 1 5 true _ A6.out).mono ?_); rintro e w' ⟨rfl, ⟨nd, rfl⟩⟩))
        go_meet
        case rel => exact ⟨_, (decide ((l0_2.length : Int) ≤ 4)), (by first | rfl | (simp; done) | (simp [*]; done)), H', ⟨by first | omega | exact Nat.le_refl _⟩, ⟨by (with_reducible repeat (first | refine blk_drewN ?_ _ | refine blk_drew ?_ | refine blk_alloc ?_ _)); exact BK107.out⟩, ⟨by repeat (first | (with_reducible first | exact HB.out | apply below_alloc | apply pw_below_drewN | apply below_drew1 | refine below_set ?_ GE107.out) | exact HB.out)⟩⟩
      · replace c7 := Bool.eq_false_iff.mpr c7
        subst c7
        have H1 : (roll_Check.j0 k false l0_0 l0_1 l0_2) = some r := by rw [if_neg (show ¬ (false = true) by decide)] at H; exact H
        clear H
        have H := H1
        clear H1
        have H' := Aside0.mk H
        clear H
        have hcz9_0 : w3.cell? ⟨gb107, 0, none⟩ = some (.slice A0_0 l0_0.length c0_0) := (blk_cell BK107.out 0).trans rfl
        have hcz9_1 : w3.cell? ⟨gb107, 1, none⟩ = some (.slice A0_1 l0_1.length c0_1) := (blk_cell BK107.out 1).trans rfl
        have hcz9_2 : w3.cell? ⟨gb107, 2, none⟩ = some (.slice A0_2 l0_2.length c0_2) := (blk_cell BK107.out 2).trans rfl
        have hfz9_0 := blk_frozen BK107.out 0
        have hfz9_1 := blk_frozen BK107.out 1
        have hfz9_2 := blk_frozen BK107.out 2
        go_wp2_with (first | ((with_reducible refine gate_callee (f := 77) rfl ?_); refine goesL_ (some 14) rfl rfl Tryd.func77 (by kernel_rfl) rfl #[.int .i64 (l0_0.length : Int), .int .i64 1, .int .i64 4] rfl (by (try simp only [List.map_toArray, List.map_cons, List.map_nil]); first | done | rfl | (simp only [List.length_drop, List.length_take]; rfl)) ?_; (with_reducible refine (roll_within.calls (l0_0.length : Int) 1 4 true _ A4.out).mono ?_); rintro e w' ⟨rfl, ⟨nd, rfl⟩⟩; refine ⟨_, rfl, ?_⟩) | (go_at_call 77; (with_reducible refine (roll_within.calls (l0_1.length : Int) 1 5 false _ A6.out).mono ?_); rintro e w' ⟨rfl, ⟨nd, rfl⟩⟩))
        go_meet
        case rel => exact ⟨_, (false), (by first | rfl | (simp; done) | (simp [*]; done)), H', ⟨by first | omega | exact Nat.le_refl _⟩, ⟨by (with_reducible repeat (first | refine blk_drewN ?_ _ | refine blk_drew ?_ | refine blk_alloc ?_ _)); exact BK107.out⟩, ⟨by repeat (first | (with_reducible first | exact HB.out | apply below_alloc | apply pw_below_drewN | apply below_drew1 | refine below_set ?_ GE107.out) | exact HB.out)⟩⟩
    · replace c5 := Bool.eq_false_iff.mpr c5
      subst c5
      have H1 : (roll_Check.j0 k false l0_0 l0_1 l0_2) = some r := by rw [if_neg (show ¬ (false = true) by decide)] at H; exact H
      clear H
      have H := H1
      clear H1
      have H' := Aside0.mk H
      clear H
      have hcz10_0 : w3.cell? ⟨gb107, 0, none⟩ = some (.slice A0_0 l0_0.length c0_0) := (blk_cell BK107.out 0).trans rfl
      have hcz10_1 : w3.cell? ⟨gb107, 1, none⟩ = some (.slice A0_1 l0_1.length c0_1) := (blk_cell BK107.out 1).trans rfl
      have hcz10_2 : w3.cell? ⟨gb107, 2, none⟩ = some (.slice A0_2 l0_2.length c0_2) := (blk_cell BK107.out 2).trans rfl
      have hfz10_0 := blk_frozen BK107.out 0
      have hfz10_1 := blk_frozen BK107.out 1
      have hfz10_2 := blk_frozen BK107.out 2
      go_wp2_with (first | ((with_reducible refine gate_callee (f := 77) rfl ?_); refine goesL_ (some 14) rfl rfl Tryd.func77 (by kernel_rfl) rfl #[.int .i64 (l0_0.length : Int), .int .i64 1, .int .i64 4] rfl (by (try simp only [List.map_toArray, List.map_cons, List.map_nil]); first | done | rfl | (simp only [List.length_drop, List.length_take]; rfl)) ?_; (with_reducible refine (roll_within.calls (l0_0.length : Int) 1 4 false _ A4.out).mono ?_); rintro e w' ⟨rfl, ⟨nd, rfl⟩⟩; refine ⟨_, rfl, ?_⟩))
      go_meet
      case rel => exact ⟨_, (false), (by first | rfl | (simp; done) | (simp [*]; done)), H', ⟨by first | omega | exact Nat.le_refl _⟩, ⟨by (with_reducible repeat (first | refine blk_drewN ?_ _ | refine blk_drew ?_ | refine blk_alloc ?_ _)); exact BK107.out⟩, ⟨by repeat (first | (with_reducible first | exact HB.out | apply below_alloc | apply pw_below_drewN | apply below_drew1 | refine below_set ?_ GE107.out) | exact HB.out)⟩⟩
  case rest =>
    clear HC2
    try clear c1
    try clear p2
    try clear c5
    try clear c7
    try clear hcz10_0
    try clear hcz10_1
    try clear hcz10_2
    try clear hcz8_0
    try clear hcz8_1
    try clear hcz8_2
    try clear hcz9_0
    try clear hcz9_1
    try clear hcz9_2
    try clear hfz10_0
    try clear hfz10_1
    try clear hfz10_2
    try clear hfz8_0
    try clear hfz8_1
    try clear hfz8_2
    try clear hfz9_0
    try clear hfz9_1
    try clear hfz9_2
    obtain ⟨kq, x3_1, rfl, HA, HJ1, BK107, HB⟩ := hcut
    cases kq with
    | zero => exact absurd HA.out (by simp [roll_Check.j0])
    | succ kj1 =>
      have H := HA.out
      clear HA
      simp only [roll_Check.j0] at H
      have H' := Aside0.mk H
      clear H
      have hcz11_0 : wc.cell? ⟨gb107, 0, none⟩ = some (.slice A0_0 l0_0.length c0_0) := (blk_cell BK107.out 0).trans rfl
      have hcz11_1 : wc.cell? ⟨gb107, 1, none⟩ = some (.slice A0_1 l0_1.length c0_1) := (blk_cell BK107.out 1).trans rfl
      have hcz11_2 : wc.cell? ⟨gb107, 2, none⟩ = some (.slice A0_2 l0_2.length c0_2) := (blk_cell BK107.out 2).trans rfl
      have hfz11_0 := blk_frozen BK107.out 0
      have hfz11_1 := blk_frozen BK107.out 1
      have hfz11_2 := blk_frozen BK107.out 2
      go_wp2
      go_loopg [3, 30] kj1 (fun kq v3 v30 w' => ∃ (x3_2 : Bool) (x30_2 : Int), v3 = .bool x3_2 ∧ v30 = .int .i64 x30_2 ∧ Aside0 (roll_Check.l0 kq x3_2 l0_0 (l0_0.length : Int) x30_2 l0_0 l0_1 l0_2 = some r) ∧ Aside0 (kq ≤ kj1) ∧ Aside0 (w'.heap[gb107]? = some (.cells #[(.slice A0_0 l0_0.length c0_0), (.slice A0_1 l0_1.length c0_1), (.slice A0_2 l0_2.length c0_2)] 26 (0, 0))) ∧ Aside0 (Below w.heap.size w w'))
      case atStart => exact ⟨(x3_1), (0), (by first | rfl | (simp; done) | (simp [*]; done)), (by first | rfl | (simp; done) | (simp [*]; done)), H', ⟨Nat.le_refl _⟩, ⟨by (with_reducible repeat (first | refine blk_drewN ?_ _ | refine blk_drew ?_ | refine blk_alloc ?_ _)); exact BK107.out⟩, ⟨by repeat (first | (with_reducible first | exact HB.out | apply below_alloc | apply pw_below_drewN | apply below_drew1 | refine below_set ?_ GE107.out) | exact HB.out)⟩⟩
      case round =>
        clear H'
        try clear c1
        try clear p2
        try clear c5
        try clear c7
        try clear hcz10_0
        try clear hcz10_1
        try clear hcz10_2
        try clear hcz11_0
        try clear hcz11_1
        try clear hcz11_2
        try clear hcz8_0
        try clear hcz8_1
        try clear hcz8_2
        try clear hcz9_0
        try clear hcz9_1
        try clear hcz9_2
        try clear hfz10_0
        try clear hfz10_1
        try clear hfz10_2
        try clear hfz11_0
        try clear hfz11_1
        try clear hfz11_2
        try clear hfz8_0
        try clear hfz8_1
        try clear hfz8_2
        try clear hfz9_0
        try clear hfz9_1
        try clear hfz9_2
        try clear p2
        obtain ⟨x3_2, x30_2, rfl, rfl, HA, HK2, BK107, HB⟩ := hrel
        cases gk with
        | zero => exact absurd HA.out (by simp [roll_Check.l0])
        | succ k2 =>
          have H := HA.out
          clear HA
          simp only [roll_Check.l0] at H
          by_cases c12 : x30_2 < (l0_0.length : Int)
          · rw [if_pos c12] at H
            have c12b0 : decide (x30_2 < (l0_0.length : Int)) = true := decide_eq_true c12
            clear c12
            by_cases c13 : 0 ≤ x30_2
            · rw [if_pos c13] at H
              have c13b0 : decide (0 ≤ x30_2) = true := decide_eq_true c13
              clear c13
              by_cases c14 : x30_2 < (l0_0.length : Int)
              · rw [if_pos c14] at H
                have c14b0 : decide (x30_2 < (l0_0.length : Int)) = true := decide_eq_true c14
                clear c14
                by_cases c15 : x3_2 = true
                · subst c15
                  have H1 : ((roll_within.f ((rd_T92 l0_0 x30_2).f0) 1 30).bind fun t112 => (if t112 = true then ((roll_within.f ((rd_T92 l0_0 x30_2).f1) 1 50).bind fun t113 => (roll_Check.l0 k2 t113 l0_0 (l0_0.length : Int) (wrap64 (x30_2 + 1)) l0_0 l0_1 l0_2)) else (roll_Check.l0 k2 false l0_0 (l0_0.length : Int) (wrap64 (x30_2 + 1)) l0_0 l0_1 l0_2))) = some r := by rw [if_pos rfl] at H; exact H
                  clear H
                  have H := H1
                  clear H1
                  replace H := Option.bind_eq_some_iff.mp H
                  obtain ⟨t112, A160, H⟩ := H
                  replace H : (if t112 = true then ((roll_within.f ((rd_T92 l0_0 x30_2).f1) 1 50).bind fun t113 => (roll_Check.l0 k2 t113 l0_0 (l0_0.length : Int) (wrap64 (x30_2 + 1)) l0_0 l0_1 l0_2)) else (roll_Check.l0 k2 false l0_0 (l0_0.length : Int) (wrap64 (x30_2 + 1)) l0_0 l0_1 l0_2)) = some r := H
                  have A16 := Aside0.mk A160
                  clear A160
                  by_cases c17 : t112 = true
                  · subst c17
                    have H1 : ((roll_within.f ((rd_T92 l0_0 x30_2).f1) 1 50).bind fun t113 => (roll_Check.l0 k2 t113 l0_0 (l0_0.length : Int) (wrap64 (x30_2 + 1)) l0_0 l0_1 l0_2)) = some r := by rw [if_pos rfl] at H; exact H
                    clear H
                    have H := H1
                    clear H1
                    replace H := Option.bind_eq_some_iff.mp H
                    obtain ⟨t113, A180, H⟩ := H
                    replace H : (roll_Check.l0 k2 t113 l0_0 (l0_0.length : Int) (wrap64 (x30_2 + 1)) l0_0 l0_1 l0_2) = some r := H
                    have A18 := Aside0.mk A180
                    clear A180
                    have H' := Aside0.mk H
                    clear H
                    have p110 : 0 ≤ (x30_2 : Int) := of_decide_eq_true (by first | (with_reducible assumption) | assumption)
                    have q110 : x30_2 < (l0_0.length : Int) := of_decide_eq_true (by first | (with_reducible assumption) | assumption)
                    obtain ⟨ad110, e110, hx110_0, hx110_1⟩ := at_T92 HR0_0.out x30_2 p110 q110
                    cases e110
                    replace hx110_0 := (HB.out.cell (World.block_lt_of_cell? w _ hx110_0)).trans hx110_0
                    replace hx110_1 := (HB.out.cell (World.block_lt_of_cell? w _ hx110_1)).trans hx110_1
                    replace p110 := eq_true p110
                    replace q110 := eq_true q110
                    go_wp2_with (first | ((with_reducible refine gate_dst (N := 5) rfl ?_); (try (refine gate_guard (by rfl) ?_; dsimp only)); refine box_event ?hg (N := 5) ?hd (cs := #[.int .i64 0, .int .i64 0]) (t := 92) ?hr ?_; (case hd => rfl); (case hg => rfl); (case hr => first | (go_simp; done) | (go_simp; rfl)); intro gb111 hg w19 hbox hb; have n0_ := Aside0.mk (blk_below (g := gb107) (o := .cells #[.slice (some ad110) l0_0.length c0_0, .slice A0_1 l0_1.length c0_1, .slice A0_2 l0_2.length c0_2] 26 (0, 0)) (by (with_reducible repeat (first | refine blk_drewN ?_ _ | refine blk_drew ?_ | refine blk_alloc ?_ _)); exact BK107.out) hb); have n1_ := Aside0.mk (below_step (by repeat (first | (with_reducible first | exact HB.out | apply below_alloc | apply pw_below_drewN | apply below_drew1 | refine below_set ?_ GE107.out) | exact HB.out)) hb); have n2_ := Aside0.mk (hbox); have n3_ := Aside0.mk ((by rw [hg]; exact (below_size (by repeat (first | (with_reducible first | exact HB.out | apply below_alloc | apply pw_below_drewN | apply below_drew1 | refine below_set ?_ GE107.out) | exact HB.out))) : w.heap.size ≤ gb111)); have n4_ := Aside0.mk ((by rw [hg]; exact (below_size (by repeat (first | (with_reducible first | exact HB.out | apply below_alloc | apply pw_below_drewN | apply below_drew1 | refine below_set ?_ GE107.out) | exact HB.out))) : w.heap.size ≤ gb111)); have n5_ := Aside0.mk ((by rw [hg]; exact Nat.ne_of_lt (blk_lt (g := gb107) (o := .cells #[.slice (some ad110) l0_0.length c0_0, .slice A0_1 l0_1.length c0_1, .slice A0_2 l0_2.length c0_2] 26 (0, 0)) (by (with_reducible repeat (first | refine blk_drewN ?_ _ | refine blk_drew ?_ | refine blk_alloc ?_ _)); exact BK107.out)) : gb107 ≠ gb111)); have n6_ := Aside0.mk ((by rw [hg]; exact Nat.ne_of_gt (blk_lt (g := gb107) (o := .cells #[.slice (some ad110) l0_0.length c0_0, .slice A0_1 l0_1.length c0_1, .slice A0_2 l0_2.length c0_2] 26 (0, 0)) (by (with_reducible repeat (first | refine blk_drewN ?_ _ | refine blk_drew ?_ | refine blk_alloc ?_ _)); exact BK107.out)) : gb111 ≠ gb107)); clear BK107; clear HB; have BK107 := n0_; have HB := n1_; have BK111 := n2_; have GW111 := n3_; have GE111 := n4_; have NB107_111 := n5_; have NB111_107 := n6_; clear n0_ n1_ n2_ n3_ n4_ n5_ n6_; clear hb hbox hg; have hnb20 := NB111_107.out; have hnc20 := NB107_111.out; have hcz21_0 : w19.cell? ⟨gb111, 0, none⟩ = some (.int .i64 0) := (blk_cell BK111.out 0).trans rfl; have hcz21_1 : w19.cell? ⟨gb111, 1, none⟩ = some (.int .i64 0) := (blk_cell BK111.out 1).trans rfl; have hfz21_0 := blk_frozen BK111.out 0; have hfz21_1 := blk_frozen BK111.out 1) | (go_at_call 77; (with_reducible refine (roll_within.calls ((rd_T92 l0_0 x30_2).f0) 1 30 true _ A16.out).mono ?_); rintro e w' ⟨rfl, ⟨nd, rfl⟩⟩) | (go_at_call 77; (with_reducible refine (roll_within.calls ((rd_T92 l0_0 x30_2).f1) 1 50 t113 _ A18.out).mono ?_); rintro e w' ⟨rfl, ⟨nd, rfl⟩⟩))
                    go_roundg k2
                    case measure => have := HJ1.out; have := HK2.out; omega
                    case rel => exact ⟨(t113), (wrap64 (x30_2 + 1)), (by first | rfl | (simp; done) | (simp [*]; done)), (by first | rfl | (simp; done) | (simp [*]; done)), H', ⟨by have := HJ1.out; have := HK2.out; omega⟩, ⟨by (with_reducible repeat (first | refine blk_drewN ?_ _ | refine blk_drew ?_ | refine blk_alloc ?_ _)); refine blk_far ?_ NB107_111.out _; (with_reducible repeat (first | refine blk_drewN ?_ _ | refine blk_drew ?_ | refine blk_alloc ?_ _)); refine blk_far ?_ NB107_111.out _; (with_reducible repeat (first | refine blk_drewN ?_ _ | refine blk_drew ?_ | refine blk_alloc ?_ _)); exact BK107.out⟩, ⟨by repeat (first | (with_reducible first | exact HB.out | apply below_alloc | apply pw_below_drewN | apply below_drew1 | refine below_set ?_ GE107.out | refine below_set ?_ GE111.out) | exact HB.out)⟩⟩
                  · replace c17 := Bool.eq_false_iff.mpr c17
                    subst c17
                    have H1 : (roll_Check.l0 k2 false l0_0 (l0_0.length : Int) (wrap64 (x30_2 + 1)) l0_0 l0_1 l0_2) = some r := by rw [if_neg (show ¬ (false = true) by decide)] at H; exact H
                    clear H
                    have H := H1
                    clear H1
                    have H' := Aside0.mk H
                    clear H
                    have p110 : 0 ≤ (x30_2 : Int) := of_decide_eq_true (by first | (with_reducible assumption) | assumption)
                    have q110 : x30_2 < (l0_0.length : Int) := of_decide_eq_true (by first | (with_reducible assumption) | assumption)
                    obtain ⟨ad110, e110, hx110_0, hx110_1⟩ := at_T92 HR0_0.out x30_2 p110 q110
                    cases e110
                    replace hx110_0 := (HB.out.cell (World.block_lt_of_cell? w _ hx110_0)).trans hx110_0
                    replace hx110_1 := (HB.out.cell (World.block_lt_of_cell? w _ hx110_1)).trans hx110_1
                    replace p110 := eq_true p110
                    replace q110 := eq_true q110
                    go_wp2_with (first | ((with_reducible refine gate_dst (N := 5) rfl ?_); (try (refine gate_guard (by rfl) ?_; dsimp only)); refine box_event ?hg (N := 5) ?hd (cs := #[.int .i64 0, .int .i64 0]) (t := 92) ?hr ?_; (case hd => rfl); (case hg => rfl); (case hr => first | (go_simp; done) | (go_simp; rfl)); intro gb111 hg w22 hbox hb; have n0_ := Aside0.mk (blk_below (g := gb107) (o := .cells #[.slice (some ad110) l0_0.length c0_0, .slice A0_1 l0_1.length c0_1, .slice A0_2 l0_2.length c0_2] 26 (0, 0)) (by (with_reducible repeat (first | refine blk_drewN ?_ _ | refine blk_drew ?_ | refine blk_alloc ?_ _)); exact BK107.out) hb); have n1_ := Aside0.mk (below_step (by repeat (first | (with_reducible first | exact HB.out | apply below_alloc | apply pw_below_drewN | apply below_drew1 | refine below_set ?_ GE107.out) | exact HB.out)) hb); have n2_ := Aside0.mk (hbox); have n3_ := Aside0.mk ((by rw [hg]; exact (below_size (by repeat (first | (with_reducible first | exact HB.out | apply below_alloc | apply pw_below_drewN | apply below_drew1 | refine below_set ?_ GE107.out) | exact HB.out))) : w.heap.size ≤ gb111)); have n4_ := Aside0.mk ((by rw [hg]; exact (below_size (by repeat (first | (with_reducible first | exact HB.out | apply below_alloc | apply pw_below_drewN | apply below_drew1 | refine below_set ?_ GE107.out) | exact HB.out))) : w.heap.size ≤ gb111)); have n5_ := Aside0.mk ((by rw [hg]; exact Nat.ne_of_lt (blk_lt (g := gb107) (o := .cells #[.slice (some ad110) l0_0.length c0_0, .slice A0_1 l0_1.length c0_1, .slice A0_2 l0_2.length c0_2] 26 (0, 0)) (by (with_reducible repeat (first | refine blk_drewN ?_ _ | refine blk_drew ?_ | refine blk_alloc ?_ _)); exact BK107.out)) : gb107 ≠ gb111)); have n6_ := Aside0.mk ((by rw [hg]; exact Nat.ne_of_gt (blk_lt (g := gb107) (o := .cells #[.slice (some ad110) l0_0.length c0_0, .slice A0_1 l0_1.length c0_1, .slice A0_2 l0_2.length c0_2] 26 (0, 0)) (by (with_reducible repeat (first | refine blk_drewN ?_ _ | refine blk_drew ?_ | refine blk_alloc ?_ _)); exact BK107.out)) : gb111 ≠ gb107)); clear BK107; clear HB; have BK107 := n0_; have HB := n1_; have BK111 := n2_; have GW111 := n3_; have GE111 := n4_; have NB107_111 := n5_; have NB111_107 := n6_; clear n0_ n1_ n2_ n3_ n4_ n5_ n6_; clear hb hbox hg; have hnb23 := NB111_107.out; have hnc23 := NB107_111.out; have hcz24_0 : w22.cell? ⟨gb111, 0, none⟩ = some (.int .i64 0) := (blk_cell BK111.out 0).trans rfl; have hcz24_1 : w22.cell? ⟨gb111, 1, none⟩ = some (.int .i64 0) := (blk_cell BK111.out 1).trans rfl; have hfz24_0 := blk_frozen BK111.out 0; have hfz24_1 := blk_frozen BK111.out 1) | (go_at_call 77; (with_reducible refine (roll_within.calls ((rd_T92 l0_0 x30_2).f0) 1 30 false _ A16.out).mono ?_); rintro e w' ⟨rfl, ⟨nd, rfl⟩⟩))
                    go_roundg k2
                    case measure => have := HJ1.out; have := HK2.out; omega
                    case rel => exact ⟨(false), (wrap64 (x30_2 + 1)), (by first | rfl | (simp; done) | (simp [*]; done)), (by first | rfl | (simp; done) | (simp [*]; done)), H', ⟨by have := HJ1.out; have := HK2.out; omega⟩, ⟨by (with_reducible repeat (first | refine blk_drewN ?_ _ | refine blk_drew ?_ | refine blk_alloc ?_ _)); refine blk_far ?_ NB107_111.out _; (with_reducible repeat (first | refine blk_drewN ?_ _ | refine blk_drew ?_ | refine blk_alloc ?_ _)); refine blk_far ?_ NB107_111.out _; (with_reducible repeat (first | refine blk_drewN ?_ _ | refine blk_drew ?_ | refine blk_alloc ?_ _)); exact BK107.out⟩, ⟨by repeat (first | (with_reducible first | exact HB.out | apply below_alloc | apply pw_below_drewN | apply below_drew1 | refine below_set ?_ GE107.out | refine below_set ?_ GE111.out) | exact HB.out)⟩⟩
                · replace c15 := Bool.eq_false_iff.mpr c15
                  subst c15
                  have H1 : (roll_Check.l0 k2 false l0_0 (l0_0.length : Int) (wrap64 (x30_2 + 1)) l0_0 l0_1 l0_2) = some r := by rw [if_neg (show ¬ (false = true) by decide)] at H; exact H
                  clear H
                  have H := H1
                  clear H1
                  have H' := Aside0.mk H
                  clear H
                  have p110 : 0 ≤ (x30_2 : Int) := of_decide_eq_true (by first | (with_reducible assumption) | assumption)
                  have q110 : x30_2 < (l0_0.length : Int) := of_decide_eq_true (by first | (with_reducible assumption) | assumption)
                  obtain ⟨ad110, e110, hx110_0, hx110_1⟩ := at_T92 HR0_0.out x30_2 p110 q110
                  cases e110
                  replace hx110_0 := (HB.out.cell (World.block_lt_of_cell? w _ hx110_0)).trans hx110_0
                  replace hx110_1 := (HB.out.cell (World.block_lt_of_cell? w _ hx110_1)).trans hx110_1
                  replace p110 := eq_true p110
                  replace q110 := eq_true q110
                  go_wp2_with (first | ((with_reducible refine gate_dst (N := 5) rfl ?_); (try (refine gate_guard (by rfl) ?_; dsimp only)); refine box_event ?hg (N := 5) ?hd (cs := #[.int .i64 0, .int .i64 0]) (t := 92) ?hr ?_; (case hd => rfl); (case hg => rfl); (case hr => first | (go_simp; done) | (go_simp; rfl)); intro gb111 hg w25 hbox hb; have n0_ := Aside0.mk (blk_below (g := gb107) (o := .cells #[.slice (some ad110) l0_0.length c0_0, .slice A0_1 l0_1.length c0_1, .slice A0_2 l0_2.length c0_2] 26 (0, 0)) (by (with_reducible repeat (first | refine blk_drewN ?_ _ | refine blk_drew ?_ | refine blk_alloc ?_ _)); exact BK107.out) hb); have n1_ := Aside0.mk (below_step (by repeat (first | (with_reducible first | exact HB.out | apply below_alloc | apply pw_below_drewN | apply below_drew1 | refine below_set ?_ GE107.out) | exact HB.out)) hb); have n2_ := Aside0.mk (hbox); have n3_ := Aside0.mk ((by rw [hg]; exact (below_size (by repeat (first | (with_reducible first | exact HB.out | apply below_alloc | apply pw_below_drewN | apply below_drew1 | refine below_set ?_ GE107.out) | exact HB.out))) : w.heap.size ≤ gb111)); have n4_ := Aside0.mk ((by rw [hg]; exact (below_size (by repeat (first | (with_reducible first | exact HB.out | apply below_alloc | apply pw_below_drewN | apply below_drew1 | refine below_set ?_ GE107.out) | exact HB.out))) : w.heap.size ≤ gb111)); have n5_ := Aside0.mk ((by rw [hg]; exact Nat.ne_of_lt (blk_lt (g := gb107) (o := .cells #[.slice (some ad110) l0_0.length c0_0, .slice A0_1 l0_1.length c0_1, .slice A0_2 l0_2.length c0_2] 26 (0, 0)) (by (with_reducible repeat (first | refine blk_drewN ?_ _ | refine blk_drew ?_ | refine blk_alloc ?_ _)); exact BK107.out)) : gb107 ≠ gb111)); have n6_ := Aside0.mk ((by rw [hg]; exact Nat.ne_of_gt (blk_lt (g := gb107) (o := .cells #[.slice (some ad110) l0_0.length c0_0, .slice A0_1 l0_1.length c0_1, .slice A0_2 l0_2.length c0_2] 26 (0, 0)) (by (with_reducible repeat (first | refine blk_drewN ?_ _ | refine blk_drew ?_ | refine blk_alloc ?_ _)); exact BK107.out)) : gb111 ≠ gb107)); clear BK107; clear HB; have BK107 := n0_; have HB := n1_; have BK111 := n2_; have GW111 := n3_; have GE111 := n4_; have NB107_111 := n5_; have NB111_107 := n6_; clear n0_ n1_ n2_ n3_ n4_ n5_ n6_; clear hb hbox hg; have hnb26 := NB111_107.out; have hnc26 := NB107_111.out; have hcz27_0 : w25.cell? ⟨gb111, 0, none⟩ = some (.int .i64 0) := (blk_cell BK111.out 0).trans rfl; have hcz27_1 : w25.cell? ⟨gb111, 1, none⟩ = some (.int .i64 0) := (blk_cell BK111.out 1).trans rfl; have hfz27_0 := blk_frozen BK111.out 0; have hfz27_1 := blk_frozen BK111.out 1))
                  go_roundg k2
                  case measure => have := HJ1.out; have := HK2.out; omega
                  case rel => exact ⟨(false), (wrap64 (x30_2 + 1)), (by first | rfl | (simp; done) | (simp [*]; done)), (by first | rfl | (simp; done) | (simp [*]; done)), H', ⟨by have := HJ1.out; have := HK2.out; omega⟩, ⟨by (with_reducible repeat (first | refine blk_drewN ?_ _ | refine blk_drew ?_ | refine blk_alloc ?_ _)); refine blk_far ?_ NB107_111.out _; (with_reducible repeat (first | refine blk_drewN ?_ _ | refine blk_drew ?_ | refine blk_alloc ?_ _)); refine blk_far ?_ NB107_111.out _; (with_reducible repeat (first | refine blk_drewN ?_ _ | refine blk_drew ?_ | refine blk_alloc ?_ _)); exact BK107.out⟩, ⟨by repeat (first | (with_reducible first | exact HB.out | apply below_alloc | apply pw_below_drewN | apply below_drew1 | refine below_set ?_ GE107.out | refine below_set ?_ GE111.out) | exact HB.out)⟩⟩
              · rw [if_neg c14] at H
                exact absurd H (by simp)
            · rw [if_neg c13] at H
              exact absurd H (by simp)
          · rw [if_neg c12] at H
            have c12b0 : decide (x30_2 < (l0_0.length : Int)) = false := decide_eq_false c12
            clear c12
            have H' := Aside0.mk H
            clear H
            have hcz28_0 : wr.cell? ⟨gb107, 0, none⟩ = some (.slice A0_0 l0_0.length c0_0) := (blk_cell BK107.out 0).trans rfl
            have hcz28_1 : wr.cell? ⟨gb107, 1, none⟩ = some (.slice A0_1 l0_1.length c0_1) := (blk_cell BK107.out 1).trans rfl
            have hcz28_2 : wr.cell? ⟨gb107, 2, none⟩ = some (.slice A0_2 l0_2.length c0_2) := (blk_cell BK107.out 2).trans rfl
            have hfz28_0 := blk_frozen BK107.out 0
            have hfz28_1 := blk_frozen BK107.out 1
            have hfz28_2 := blk_frozen BK107.out 2
            go_wp2
            go_loopg [3, 49] k2 (fun kq v3 v49 w' => ∃ (x3_3 : Bool) (x49_3 : Int), v3 = .bool x3_3 ∧ v49 = .int .i64 x49_3 ∧ Aside0 (roll_Check.l1 kq x3_3 l0_1 (l0_1.length : Int) x49_3 l0_0 l0_1 l0_2 = some r) ∧ Aside0 (kq ≤ k2) ∧ Aside0 (w'.heap[gb107]? = some (.cells #[(.slice A0_0 l0_0.length c0_0), (.slice A0_1 l0_1.length c0_1), (.slice A0_2 l0_2.length c0_2)] 26 (0, 0))) ∧ Aside0 (Below w.heap.size w w'))
            case atStart => exact ⟨(x3_2), (0), (by first | rfl | (simp; done) | (simp [*]; done)), (by first | rfl | (simp; done) | (simp [*]; done)), H', ⟨Nat.le_refl _⟩, ⟨by (with_reducible repeat (first | refine blk_drewN ?_ _ | refine blk_drew ?_ | refine blk_alloc ?_ _)); exact BK107.out⟩, ⟨by repeat (first | (with_reducible first | exact HB.out | apply below_alloc | apply pw_below_drewN | apply below_drew1 | refine below_set ?_ GE107.out) | exact HB.out)⟩⟩
            case round =>
              clear H'
              try clear c1
              try clear p1
              try clear q1
              try clear hx1
              try clear c2
              try clear p2
              try clear c5
              try clear p6
              try clear c7
              try clear p11
              try clear q11
              try clear hx11
              try clear c12
              try clear c12b0
              try clear c13
              try clear c13b0
              try clear c14
              try clear c14b0
              try clear c15
              try clear c17
              try clear c19
              try clear c20
              try clear c23
              try clear c26
              try clear hcz10_0
              try clear hcz10_1
              try clear hcz10_2
              try clear hcz11_0
              try clear hcz11_1
              try clear hcz11_2
              try clear hcz21_0
              try clear hcz21_1
              try clear hcz24_0
              try clear hcz24_1
              try clear hcz27_0
              try clear hcz27_1
              try clear hcz28_0
              try clear hcz28_1
              try clear hcz28_2
              try clear hcz8_0
              try clear hcz8_1
              try clear hcz8_2
              try clear hcz9_0
              try clear hcz9_1
              try clear hcz9_2
              try clear hfz10_0
              try clear hfz10_1
              try clear hfz10_2
              try clear hfz11_0
              try clear hfz11_1
              try clear hfz11_2
              try clear hfz21_0
              try clear hfz21_1
              try clear hfz24_0
              try clear hfz24_1
              try clear hfz27_0
              try clear hfz27_1
              try clear hfz28_0
              try clear hfz28_1
              try clear hfz28_2
              try clear hfz8_0
              try clear hfz8_1
              try clear hfz8_2
              try clear hfz9_0
              try clear hfz9_1
              try clear hfz9_2
              try clear hx110_0
              try clear hx110_1
              try clear p110
              try clear p2
              try clear q110
              obtain ⟨x3_3, x49_3, rfl, rfl, HA, HK3, BK107, HB⟩ := hrel
              cases gk with
              | zero => exact absurd HA.out (by simp [roll_Check.l1])
              | succ k3 =>
                have H := HA.out
                clear HA
                simp only [roll_Check.l1] at H
                by_cases c29 : x49_3 < (l0_1.length : Int)
                · rw [if_pos c29] at H
                  have c29b0 : decide (x49_3 < (l0_1.length : Int)) = true := decide_eq_true c29
                  clear c29
                  by_cases c30 : 0 ≤ x49_3
                  · rw [if_pos c30] at H
                    have c30b0 : decide (0 ≤ x49_3) = true := decide_eq_true c30
                    clear c30
                    by_cases c31 : x49_3 < (l0_1.length : Int)
                    · rw [if_pos c31] at H
                      have c31b0 : decide (x49_3 < (l0_1.length : Int)) = true := decide_eq_true c31
                      clear c31
                      by_cases c32 : x3_3 = true
                      · subst c32
                        have H1 : (if 0 ≤ ((rd_T90 l0_1 x49_3).f0.f0) then (if ((rd_T90 l0_1 x49_3).f0.f0) ≤ ((rd_T90 l0_1 x49_3).f0.f1) then (if ((rd_T90 l0_1 x49_3).f0.f1) ≤ 20 then (if (wrap64 (((rd_T90 l0_1 x49_3).f0.f1) - ((rd_T90 l0_1 x49_3).f0.f0))) ≤ 1 then ((roll_within.f ((rd_T90 l0_1 x49_3).f1) 1 7).bind fun t117 => (roll_Check.l1 k3 t117 l0_1 (l0_1.length : Int) (wrap64 (x49_3 + 1)) l0_0 l0_1 l0_2)) else (roll_Check.l1 k3 false l0_1 (l0_1.length : Int) (wrap64 (x49_3 + 1)) l0_0 l0_1 l0_2)) else (roll_Check.l1 k3 false l0_1 (l0_1.length : Int) (wrap64 (x49_3 + 1)) l0_0 l0_1 l0_2)) else (roll_Check.l1 k3 false l0_1 (l0_1.length : Int) (wrap64 (x49_3 + 1)) l0_0 l0_1 l0_2)) else (roll_Check.l1 k3 false l0_1 (l0_1.length : Int) (wrap64 (x49_3 + 1)) l0_0 l0_1 l0_2)) = some r := by rw [if_pos rfl] at H; exact H
                        clear H
                        have H := H1
                        clear H1
                        by_cases c33 : 0 ≤ ((rd_T90 l0_1 x49_3).f0.f0)
                        · rw [if_pos c33] at H
                          have c33b0 : decide (0 ≤ ((rd_T90 l0_1 x49_3).f0.f0)) = true := decide_eq_true c33
                          clear c33
                          by_cases c34 : ((rd_T90 l0_1 x49_3).f0.f0) ≤ ((rd_T90 l0_1 x49_3).f0.f1)
                          · rw [if_pos c34] at H
                            have c34b0 : decide (((rd_T90 l0_1 x49_3).f0.f0) ≤ ((rd_T90 l0_1 x49_3).f0.f1)) = true := decide_eq_true c34
                            clear c34
                            by_cases c35 : ((rd_T90 l0_1 x49_3).f0.f1) ≤ 20
                            · rw [if_pos c35] at H
                              have c35b0 : decide (((rd_T90 l0_1 x49_3).f0.f1) ≤ 20) = true := decide_eq_true c35
                              clear c35
                              by_cases c36 : (wrap64 (((rd_T90 l0_1 x49_3).f0.f1) - ((rd_T90 l0_1 x49_3).f0.f0))) ≤ 1
                              · rw [if_pos c36] at H
                                have c36b0 : decide ((wrap64 (((rd_T90 l0_1 x49_3).f0.f1) - ((rd_T90 l0_1 x49_3).f0.f0))) ≤ 1) = true := decide_eq_true c36
                                clear c36
                                replace H := Option.bind_eq_some_iff.mp H
                                obtain ⟨t117, A370, H⟩ := H
                                replace H : (roll_Check.l1 k3 t117 l0_1 (l0_1.length : Int) (wrap64 (x49_3 + 1)) l0_0 l0_1 l0_2) = some r := H
                                have A37 := Aside0.mk A370
                                clear A370
                                have H' := Aside0.mk H
                                clear H
                                have p114 : 0 ≤ (x49_3 : Int) := of_decide_eq_true (by first | (with_reducible assumption) | assumption)
                                have q114 : x49_3 < (l0_1.length : Int) := of_decide_eq_true (by first | (with_reducible assumption) | assumption)
                                obtain ⟨ad114, e114, hx114_0, hx114_1, hx114_2⟩ := at_T90 HR0_1.out x49_3 p114 q114
                                cases e114
                                replace hx114_0 := (HB.out.cell (World.block_lt_of_cell? w _ hx114_0)).trans hx114_0
                                replace hx114_1 := (HB.out.cell (World.block_lt_of_cell? w _ hx114_1)).trans hx114_1
                                replace hx114_2 := (HB.out.cell (World.block_lt_of_cell? w _ hx114_2)).trans hx114_2
                                replace p114 := eq_true p114
                                replace q114 := eq_true q114
                                go_wp2_with (first | ((with_reducible refine gate_dst (N := 7) rfl ?_); (try (refine gate_guard (by rfl) ?_; dsimp only)); refine box_event ?hg (N := 7) ?hd (cs := #[.int .i64 0, .int .i64 0, .int .i64 0]) (t := 90) ?hr ?_; (case hd => rfl); (case hg => rfl); (case hr => first | (go_simp; done) | (go_simp; rfl)); intro gb115 hg w38 hbox hb; have n0_ := Aside0.mk (blk_below (g := gb107) (o := .cells #[.slice A0_0 l0_0.length c0_0, .slice (some ad114) l0_1.length c0_1, .slice A0_2 l0_2.length c0_2] 26 (0, 0)) (by (with_reducible repeat (first | refine blk_drewN ?_ _ | refine blk_drew ?_ | refine blk_alloc ?_ _)); exact BK107.out) hb); have n1_ := Aside0.mk (below_step (by repeat (first | (with_reducible first | exact HB.out | apply below_alloc | apply pw_below_drewN | apply below_drew1 | refine below_set ?_ GE107.out) | exact HB.out)) hb); have n2_ := Aside0.mk (hbox); have n3_ := Aside0.mk ((by rw [hg]; exact (below_size (by repeat (first | (with_reducible first | exact HB.out | apply below_alloc | apply pw_below_drewN | apply below_drew1 | refine below_set ?_ GE107.out) | exact HB.out))) : w.heap.size ≤ gb115)); have n4_ := Aside0.mk ((by rw [hg]; exact (below_size (by repeat (first | (with_reducible first | exact HB.out | apply below_alloc | apply pw_below_drewN | apply below_drew1 | refine below_set ?_ GE107.out) | exact HB.out))) : w.heap.size ≤ gb115)); have n5_ := Aside0.mk ((by rw [hg]; exact Nat.ne_of_lt (blk_lt (g := gb107) (o := .cells #[.slice A0_0 l0_0.length c0_0, .slice (some ad114) l0_1.length c0_1, .slice A0_2 l0_2.length c0_2] 26 (0, 0)) (by (with_reducible repeat (first | refine blk_drewN ?_ _ | refine blk_drew ?_ | refine blk_alloc ?_ _)); exact BK107.out)) : gb107 ≠ gb115)); have n6_ := Aside0.mk ((by rw [hg]; exact Nat.ne_of_gt (blk_lt (g := gb107) (o := .cells #[.slice A0_0 l0_0.length c0_0, .slice (some ad114) l0_1.length c0_1, .slice A0_2 l0_2.length c0_2] 26 (0, 0)) (by (with_reducible repeat (first | refine blk_drewN ?_ _ | refine blk_drew ?_ | refine blk_alloc ?_ _)); exact BK107.out)) : gb115 ≠ gb107)); clear BK107; clear HB; have BK107 := n0_; have HB := n1_; have BK115 := n2_; have GW115 := n3_; have GE115 := n4_; have NB107_115 := n5_; have NB115_107 := n6_; clear n0_ n1_ n2_ n3_ n4_ n5_ n6_; clear hb hbox hg; have hnb39 := NB115_107.out; have hnc39 := NB107_115.out; have hcz40_0 : w38.cell? ⟨gb115, 0, none⟩ = some (.int .i64 0) := (blk_cell BK115.out 0).trans rfl; have hcz40_1 : w38.cell? ⟨gb115, 1, none⟩ = some (.int .i64 0) := (blk_cell BK115.out 1).trans rfl; have hcz40_2 : w38.cell? ⟨gb115, 2, none⟩ = some (.int .i64 0) := (blk_cell BK115.out 2).trans rfl; have hfz40_0 := blk_frozen BK115.out 0; have hfz40_1 := blk_frozen BK115.out 1; have hfz40_2 := blk_frozen BK115.out 2) | ((with_reducible refine gate_dst (N := 8) rfl ?_); (try (refine gate_guard (by rfl) ?_; dsimp only)); refine box_event ?hg (N := 8) ?hd (cs := #[.int .i64 0, .int .i64 0]) (t := 32) ?hr ?_; (case hd => rfl); (case hg => rfl); (case hr => first | (go_simp; done) | (go_simp; rfl)); intro gb116 hg w41 hbox hb; have n0_ := Aside0.mk (blk_below (g := gb107) (o := .cells #[.slice A0_0 l0_0.length c0_0, .slice (some ad114) l0_1.length c0_1, .slice A0_2 l0_2.length c0_2] 26 (0, 0)) (by (with_reducible repeat (first | refine blk_drewN ?_ _ | refine blk_drew ?_ | refine blk_alloc ?_ _)); refine blk_far ?_ NB107_115.out _; (with_reducible repeat (first | refine blk_drewN ?_ _ | refine blk_drew ?_ | refine blk_alloc ?_ _)); refine blk_far ?_ NB107_115.out _; (with_reducible repeat (first | refine blk_drewN ?_ _ | refine blk_drew ?_ | refine blk_alloc ?_ _)); refine blk_far ?_ NB107_115.out _; (with_reducible repeat (first | refine blk_drewN ?_ _ | refine blk_drew ?_ | refine blk_alloc ?_ _)); exact BK107.out) hb); have n1_ := Aside0.mk (blk_below (g := gb115) (o := .cells #[.int .i64 ((rd_T90 l0_1 x49_3).f0.f0), .int .i64 ((rd_T90 l0_1 x49_3).f0.f1), .int .i64 ((rd_T90 l0_1 x49_3).f1)] 90 (0, 0)) (by (with_reducible repeat (first | refine blk_drewN ?_ _ | refine blk_drew ?_ | refine blk_alloc ?_ _)); refine blk_put (cs := #[.int .i64 ((rd_T90 l0_1 x49_3).f0.f0), .int .i64 ((rd_T90 l0_1 x49_3).f0.f1), .int .i64 0]) ?_ 2 _ rfl; (with_reducible repeat (first | refine blk_drewN ?_ _ | refine blk_drew ?_ | refine blk_alloc ?_ _)); refine blk_put (cs := #[.int .i64 ((rd_T90 l0_1 x49_3).f0.f0), .int .i64 0, .int .i64 0]) ?_ 1 _ rfl; (with_reducible repeat (first | refine blk_drewN ?_ _ | refine blk_drew ?_ | refine blk_alloc ?_ _)); refine blk_put (cs := #[.int .i64 0, .int .i64 0, .int .i64 0]) ?_ 0 _ rfl; (with_reducible repeat (first | refine blk_drewN ?_ _ | refine blk_drew ?_ | refine blk_alloc ?_ _)); exact BK115.out) hb); have n2_ := Aside0.mk (below_step (by repeat (first | (with_reducible first | exact HB.out | apply below_alloc | apply pw_below_drewN | apply below_drew1 | refine below_set ?_ GE107.out | refine below_set ?_ GE115.out) | exact HB.out)) hb); have n3_ := Aside0.mk (hbox); have n4_ := Aside0.mk ((by rw [hg]; exact (below_size (by repeat (first | (with_reducible first | exact HB.out | apply below_alloc | apply pw_below_drewN | apply below_drew1 | refine below_set ?_ GE107.out | refine below_set ?_ GE115.out) | exact HB.out))) : w.heap.size ≤ gb116)); have n5_ := Aside0.mk ((by rw [hg]; exact (below_size (by repeat (first | (with_reducible first | exact HB.out | apply below_alloc | apply pw_below_drewN | apply below_drew1 | refine below_set ?_ GE107.out | refine below_set ?_ GE115.out) | exact HB.out))) : w.heap.size ≤ gb116)); have n6_ := Aside0.mk ((by rw [hg]; exact Nat.ne_of_lt (blk_lt (g := gb107) (o := .cells #[.slice A0_0 l0_0.length c0_0, .slice (some ad114) l0_1.length c0_1, .slice A0_2 l0_2.length c0_2] 26 (0, 0)) (by (with_reducible repeat (first | refine blk_drewN ?_ _ | refine blk_drew ?_ | refine blk_alloc ?_ _)); refine blk_far ?_ NB107_115.out _; (with_reducible repeat (first | refine blk_drewN ?_ _ | refine blk_drew ?_ | refine blk_alloc ?_ _)); refine blk_far ?_ NB107_115.out _; (with_reducible repeat (first | refine blk_drewN ?_ _ | refine blk_drew ?_ | refine blk_alloc ?_ _)); refine blk_far ?_ NB107_115.out _; (with_reducible repeat (first | refine blk_drewN ?_ _ | refine blk_drew ?_ | refine blk_alloc ?_ _)); exact BK107.out)) : gb107 ≠ gb116)); have n7_ := Aside0.mk ((by rw [hg]; exact Nat.ne_of_gt (blk_lt (g := gb107) (o := .cells #[.slice A0_0 l0_0.length c0_0, .slice (some ad114) l0_1.length c0_1, .slice A0_2 l0_2.length c0_2] 26 (0, 0)) (by (with_reducible repeat (first | refine blk_drewN ?_ _ | refine blk_drew ?_ | refine blk_alloc ?_ _)); refine blk_far ?_ NB107_115.out _; (with_reducible repeat (first | refine blk_drewN ?_ _ | refine blk_drew ?_ | refine blk_alloc ?_ _)); refine blk_far ?_ NB107_115.out _; (with_reducible repeat (first | refine blk_drewN ?_ _ | refine blk_drew ?_ | refine blk_alloc ?_ _)); refine blk_far ?_ NB107_115.out _; (with_reducible repeat (first | refine blk_drewN ?_ _ | refine blk_drew ?_ | refine blk_alloc ?_ _)); exact BK107.out)) : gb116 ≠ gb107)); have n8_ := Aside0.mk ((by rw [hg]; exact Nat.ne_of_lt (blk_lt (g := gb115) (o := .cells #[.int .i64 ((rd_T90 l0_1 x49_3).f0.f0), .int .i64 ((rd_T90 l0_1 x49_3).f0.f1), .int .i64 ((rd_T90 l0_1 x49_3).f1)] 90 (0, 0)) (by (with_reducible repeat (first | refine blk_drewN ?_ _ | refine blk_drew ?_ | refine blk_alloc ?_ _)); refine blk_put (cs := #[.int .i64 ((rd_T90 l0_1 x49_3).f0.f0), .int .i64 ((rd_T90 l0_1 x49_3).f0.f1), .int .i64 0]) ?_ 2 _ rfl; (with_reducible repeat (first | refine blk_drewN ?_ _ | refine blk_drew ?_ | refine blk_alloc ?_ _)); refine blk_put (cs := #[.int .i64 ((rd_T90 l0_1 x49_3).f0.f0), .int .i64 0, .int .i64 0]) ?_ 1 _ rfl; (with_reducible repeat (first | refine blk_drewN ?_ _ | refine blk_drew ?_ | refine blk_alloc ?_ _)); refine blk_put (cs := #[.int .i64 0, .int .i64 0, .int .i64 0]) ?_ 0 _ rfl; (with_reducible repeat (first | refine blk_drewN ?_ _ | refine blk_drew ?_ | refine blk_alloc ?_ _)); exact BK115.out)) : gb115 ≠ gb116)); have n9_ := Aside0.mk ((by rw [hg]; exact Nat.ne_of_gt (blk_lt (g := gb115) (o := .cells #[.int .i64 ((rd_T90 l0_1 x49_3).f0.f0), .int .i64 ((rd_T90 l0_1 x49_3).f0.f1), .int .i64 ((rd_T90 l0_1 x49_3).f1)] 90 (0, 0)) (by (with_reducible repeat (first | refine blk_drewN ?_ _ | refine blk_drew ?_ | refine blk_alloc ?_ _)); refine blk_put (cs := #[.int .i64 ((rd_T90 l0_1 x49_3).f0.f0), .int .i64 ((rd_T90 l0_1 x49_3).f0.f1), .int .i64 0]) ?_ 2 _ rfl; (with_reducible repeat (first | refine blk_drewN ?_ _ | refine blk_drew ?_ | refine blk_alloc ?_ _)); refine blk_put (cs := #[.int .i64 ((rd_T90 l0_1 x49_3).f0.f0), .int .i64 0, .int .i64 0]) ?_ 1 _ rfl; (with_reducible repeat (first | refine blk_drewN ?_ _ | refine blk_drew ?_ | refine blk_alloc ?_ _)); refine blk_put (cs := #[.int .i64 0, .int .i64 0, .int .i64 0]) ?_ 0 _ rfl; (with_reducible repeat (first | refine blk_drewN ?_ _ | refine blk_drew ?_ | refine blk_alloc ?_ _)); exact BK115.out)) : gb116 ≠ gb115)); clear BK107; clear BK115; clear HB; have BK107 := n0_; have BK115 := n1_; have HB := n2_; have BK116 := n3_; have GW116 := n4_; have GE116 := n5_; have NB107_116 := n6_; have NB116_107 := n7_; have NB115_116 := n8_; have NB116_115 := n9_; clear n0_ n1_ n2_ n3_ n4_ n5_ n6_ n7_ n8_ n9_; clear hb hbox hg; have hnb42 := NB116_107.out; have hnc42 := NB107_116.out; have hnb43 := NB116_115.out; have hnc43 := NB115_116.out; have hcz44_0 : w41.cell? ⟨gb116, 0, none⟩ = some (.int .i64 0) := (blk_cell BK116.out 0).trans rfl; have hcz44_1 : w41.cell? ⟨gb116, 1, none⟩ = some (.int .i64 0) := (blk_cell BK116.out 1).trans rfl; have hfz44_0 := blk_frozen BK116.out 0; have hfz44_1 := blk_frozen BK116.out 1; have hcz45_0 : w41.cell? ⟨gb115, 0, none⟩ = some (.int .i64 ((rd_T90 l0_1 x49_3).f0.f0)) := (blk_cell BK115.out 0).trans rfl; have hcz45_1 : w41.cell? ⟨gb115, 1, none⟩ = some (.int .i64 ((rd_T90 l0_1 x49_3).f0.f1)) := (blk_cell BK115.out 1).trans rfl; have hcz45_2 : w41.cell? ⟨gb115, 2, none⟩ = some (.int .i64 ((rd_T90 l0_1 x49_3).f1)) := (blk_cell BK115.out 2).trans rfl; have hfz45_0 := blk_frozen BK115.out 0; have hfz45_1 := blk_frozen BK115.out 1; have hfz45_2 := blk_frozen BK115.out 2) | (go_at_call 77; (with_reducible refine (roll_within.calls ((rd_T90 l0_1 x49_3).f1) 1 7 t117 _ A37.out).mono ?_); rintro e w' ⟨rfl, ⟨nd, rfl⟩⟩))
                                go_roundg k3
                                case measure => have := HJ1.out; have := HK2.out; have := HK3.out; omega
                                case rel => exact ⟨(t117), (wrap64 (x49_3 + 1)), (by first | rfl | (simp; done) | (simp [*]; done)), (by first | rfl | (simp; done) | (simp [*]; done)), H', ⟨by have := HJ1.out; have := HK2.out; have := HK3.out; omega⟩, ⟨by (with_reducible repeat (first | refine blk_drewN ?_ _ | refine blk_drew ?_ | refine blk_alloc ?_ _)); refine blk_far ?_ NB107_116.out _; (with_reducible repeat (first | refine blk_drewN ?_ _ | refine blk_drew ?_ | refine blk_alloc ?_ _)); refine blk_far ?_ NB107_116.out _; (with_reducible repeat (first | refine blk_drewN ?_ _ | refine blk_drew ?_ | refine blk_alloc ?_ _)); exact BK107.out⟩, ⟨by repeat (first | (with_reducible first | exact HB.out | apply below_alloc | apply pw_below_drewN | apply below_drew1 | refine below_set ?_ GE107.out | refine below_set ?_ GE115.out | refine below_set ?_ GE116.out) | exact HB.out)⟩⟩
                              · rw [if_neg c36] at H
                                have c36b0 : decide ((wrap64 (((rd_T90 l0_1 x49_3).f0.f1) - ((rd_T90 l0_1 x49_3).f0.f0))) ≤ 1) = false := decide_eq_false c36
                                clear c36
                                have H' := Aside0.mk H
                                clear H
                                have p114 : 0 ≤ (x49_3 : Int) := of_decide_eq_true (by first | (with_reducible assumption) | assumption)
                                have q114 : x49_3 < (l0_1.length : Int) := of_decide_eq_true (by first | (with_reducible assumption) | assumption)
                                obtain ⟨ad114, e114, hx114_0, hx114_1, hx114_2⟩ := at_T90 HR0_1.out x49_3 p114 q114
                                cases e114
                                replace hx114_0 := (HB.out.cell (World.block_lt_of_cell? w _ hx114_0)).trans hx114_0
                                replace hx114_1 := (HB.out.cell (World.block_lt_of_cell? w _ hx114_1)).trans hx114_1
                                replace hx114_2 := (HB.out.cell (World.block_lt_of_cell? w _ hx114_2)).trans hx114_2
                                replace p114 := eq_true p114
                                replace q114 := eq_true q114
                                go_wp2_with (first | ((with_reducible refine gate_dst (N := 7) rfl ?_); (try (refine gate_guard (by rfl) ?_; dsimp only)); refine box_event ?hg (N := 7) ?hd (cs := #[.int .i64 0, .int .i64 0, .int .i64 0]) (t := 90) ?hr ?_; (case hd => rfl); (case hg => rfl); (case hr => first | (go_simp; done) | (go_simp; rfl)); intro gb115 hg w46 hbox hb; have n0_ := Aside0.mk (blk_below (g := gb107) (o := .cells #[.slice A0_0 l0_0.length c0_0, .slice (some ad114) l0_1.length c0_1, .slice A0_2 l0_2.length c0_2] 26 (0, 0)) (by (with_reducible repeat (first | refine blk_drewN ?_ _ | refine blk_drew ?_ | refine blk_alloc ?_ _)); exact BK107.out) hb); have n1_ := Aside0.mk (below_step (by repeat (first | (with_reducible first | exact HB.out | apply below_alloc | apply pw_below_drewN | apply below_drew1 | refine below_set ?_ GE107.out) | exact HB.out)) hb); have n2_ := Aside0.mk (hbox); have n3_ := Aside0.mk ((by rw [hg]; exact (below_size (by repeat (first | (with_reducible first | exact HB.out | apply below_alloc | apply pw_below_drewN | apply below_drew1 | refine below_set ?_ GE107.out) | exact HB.out))) : w.heap.size ≤ gb115)); have n4_ := Aside0.mk ((by rw [hg]; exact (below_size (by repeat (first | (with_reducible first | exact HB.out | apply below_alloc | apply pw_below_drewN | apply below_drew1 | refine below_set ?_ GE107.out) | exact HB.out))) : w.heap.size ≤ gb115)); have n5_ := Aside0.mk ((by rw [hg]; exact Nat.ne_of_lt (blk_lt (g := gb107) (o := .cells #[.slice A0_0 l0_0.length c0_0, .slice (some ad114) l0_1.length c0_1, .slice A0_2 l0_2.length c0_2] 26 (0, 0)) (by (with_reducible repeat (first | refine blk_drewN ?_ _ | refine blk_drew ?_ | refine blk_alloc ?_ _)); exact BK107.out)) : gb107 ≠ gb115)); have n6_ := Aside0.mk ((by rw [hg]; exact Nat.ne_of_gt (blk_lt (g := gb107) (o := .cells #[.slice A0_0 l0_0.length c0_0, .slice (some ad114) l0_1.length c0_1, .slice A0_2 l0_2.length c0_2] 26 (0, 0)) (by (with_reducible repeat (first | refine blk_drewN ?_ _ | refine blk_drew ?_ | refine blk_alloc ?_ _)); exact BK107.out)) : gb115 ≠ gb107)); clear BK107; clear HB; have BK107 := n0_; have HB := n1_; have BK115 := n2_; have GW115 := n3_; have GE115 := n4_; have NB107_115 := n5_; have NB115_107 := n6_; clear n0_ n1_ n2_ n3_ n4_ n5_ n6_; clear hb hbox hg; have hnb47 := NB115_107.out; have hnc47 := NB107_115.out; have hcz48_0 : w46.cell? ⟨gb115, 0, none⟩ = some (.int .i64 0) := (blk_cell BK115.out 0).trans rfl; have hcz48_1 : w46.cell? ⟨gb115, 1, none⟩ = some (.int .i64 0) := (blk_cell BK115.out 1).trans rfl; have hcz48_2 : w46.cell? ⟨gb115, 2, none⟩ = some (.int .i64 0) := (blk_cell BK115.out 2).trans rfl; have hfz48_0 := blk_frozen BK115.out 0; have hfz48_1 := blk_frozen BK115.out 1; have hfz48_2 := blk_frozen BK115.out 2) | ((with_reducible refine gate_dst (N := 8) rfl ?_); (try (refine gate_guard (by rfl) ?_; dsimp only)); refine box_event ?hg (N := 8) ?hd (cs := #[.int .i64 0, .int .i64 0]) (t := 32) ?hr ?_; (case hd => rfl); (case hg => rfl); (case hr => first | (go_simp; done) | (go_simp; rfl)); intro gb116 hg w49 hbox hb; have n0_ := Aside0.mk (blk_below (g := gb107) (o := .cells #[.slice A0_0 l0_0.length c0_0, .slice (some ad114) l0_1.length c0_1, .slice A0_2 l0_2.length c0_2] 26 (0, 0)) (by (with_reducible repeat (first | refine blk_drewN ?_ _ | refine blk_drew ?_ | refine blk_alloc ?_ _)); refine blk_far ?_ NB107_115.out _; (with_reducible repeat (first | refine blk_drewN ?_ _ | refine blk_drew ?_ | refine blk_alloc ?_ _)); refine blk_far ?_ NB107_115.out _; (with_reducible repeat (first | refine blk_drewN ?_ _ | refine blk_drew ?_ | refine blk_alloc ?_ _)); refine blk_far ?_ NB107_115.out _; (with_reducible repeat (first | refine blk_drewN ?_ _ | refine blk_drew ?_ | refine blk_alloc ?_ _)); exact BK107.out) hb); have n1_ := Aside0.mk (blk_below (g := gb115) (o := .cells #[.int .i64 ((rd_T90 l0_1 x49_3).f0.f0), .int .i64 ((rd_T90 l0_1 x49_3).f0.f1), .int .i64 ((rd_T90 l0_1 x49_3).f1)] 90 (0, 0)) (by (with_reducible repeat (first | refine blk_drewN ?_ _ | refine blk_drew ?_ | refine blk_alloc ?_ _)); refine blk_put (cs := #[.int .i64 ((rd_T90 l0_1 x49_3).f0.f0), .int .i64 ((rd_T90 l0_1 x49_3).f0.f1), .int .i64 0]) ?_ 2 _ rfl; (with_reducible repeat (first | refine blk_drewN ?_ _ | refine blk_drew ?_ | refine blk_alloc ?_ _)); refine blk_put (cs := #[.int .i64 ((rd_T90 l0_1 x49_3).f0.f0), .int .i64 0, .int .i64 0]) ?_ 1 _ rfl; (with_reducible repeat (first | refine blk_drewN ?_ _ | refine blk_drew ?_ | refine blk_alloc ?_ _)); refine blk_put (cs := #[.int .i64 0, .int .i64 0, .int .i64 0]) ?_ 0 _ rfl; (with_reducible repeat (first | refine blk_drewN ?_ _ | refine blk_drew ?_ | refine blk_alloc ?_ _)); exact BK115.out) hb); have n2_ := Aside0.mk (below_step (by repeat (first | (with_reducible first | exact HB.out | apply below_alloc | apply pw_below_drewN | apply below_drew1 | refine below_set ?_ GE107.out | refine below_set ?_ GE115.out) | exact HB.out)) hb); have n3_ := Aside0.mk (hbox); have n4_ := Aside0.mk ((by rw [hg]; exact (below_size (by repeat (first | (with_reducible first | exact HB.out | apply below_alloc | apply pw_below_drewN | apply below_drew1 | refine below_set ?_ GE107.out | refine below_set ?_ GE115.out) | exact HB.out))) : w.heap.size ≤ gb116)); have n5_ := Aside0.mk ((by rw [hg]; exact (below_size (by repeat (first | (with_reducible first | exact HB.out | apply below_alloc | apply pw_below_drewN | apply below_drew1 | refine below_set ?_ GE107.out | refine below_set ?_ GE115.out) | exact HB.out))) : w.heap.size ≤ gb116)); have n6_ := Aside0.mk ((by rw [hg]; exact Nat.ne_of_lt (blk_lt (g := gb107) (o := .cells #[.slice A0_0 l0_0.length c0_0, .slice (some ad114) l0_1.length c0_1, .slice A0_2 l0_2.length c0_2] 26 (0, 0)) (by (with_reducible repeat (first | refine blk_drewN ?_ _ | refine blk_drew ?_ | refine blk_alloc ?_ _)); refine blk_far ?_ NB107_115.out _; (with_reducible repeat (first | refine blk_drewN ?_ _ | refine blk_drew ?_ | refine blk_alloc ?_ _)); refine blk_far ?_ NB107_115.out _; (with_reducible repeat (first | refine blk_drewN ?_ _ | refine blk_drew ?_ | refine blk_alloc ?_ _)); refine blk_far ?_ NB107_115.out _; (with_reducible repeat (first | refine blk_drewN ?_ _ | refine blk_drew ?_ | refine blk_alloc ?_ _)); exact BK107.out)) : gb107 ≠ gb116)); have n7_ := Aside0.mk ((by rw [hg]; exact Nat.ne_of_gt (blk_lt (g := gb107) (o := .cells #[.slice A0_0 l0_0.length c0_0, .slice (some ad114) l0_1.length c0_1, .slice A0_2 l0_2.length c0_2] 26 (0, 0)) (by (with_reducible repeat (first | refine blk_drewN ?_ _ | refine blk_drew ?_ | refine blk_alloc ?_ _)); refine blk_far ?_ NB107_115.out _; (with_reducible repeat (first | refine blk_drewN ?_ _ | refine blk_drew ?_ | refine blk_alloc ?_ _)); refine blk_far ?_ NB107_115.out _; (with_reducible repeat (first | refine blk_drewN ?_ _ | refine blk_drew ?_ | refine blk_alloc ?_ _)); refine blk_far ?_ NB107_115.out _; (with_reducible repeat (first | refine blk_drewN ?_ _ | refine blk_drew ?_ | refine blk_alloc ?_ _)); exact BK107.out)) : gb116 ≠ gb107)); have n8_ := Aside0.mk ((by rw [hg]; exact Nat.ne_of_lt (blk_lt (g := gb115) (o := .cells #[.int .i64 ((rd_T90 l0_1 x49_3).f0.f0), .int .i64 ((rd_T90 l0_1 x49_3).f0.f1), .int .i64 ((rd_T90 l0_1 x49_3).f1)] 90 (0, 0)) (by (with_reducible repeat (first | refine blk_drewN ?_ _ | refine blk_drew ?_ | refine blk_alloc ?_ _)); refine blk_put (cs := #[.int .i64 ((rd_T90 l0_1 x49_3).f0.f0), .int .i64 ((rd_T90 l0_1 x49_3).f0.f1), .int .i64 0]) ?_ 2 _ rfl; (with_reducible repeat (first | refine blk_drewN ?_ _ | refine blk_drew ?_ | refine blk_alloc ?_ _)); refine blk_put (cs := #[.int .i64 ((rd_T90 l0_1 x49_3).f0.f0), .int .i64 0, .int .i64 0]) ?_ 1 _ rfl; (with_reducible repeat (first | refine blk_drewN ?_ _ | refine blk_drew ?_ | refine blk_alloc ?_ _)); refine blk_put (cs := #[.int .i64 0, .int .i64 0, .int .i64 0]) ?_ 0 _ rfl; (with_reducible repeat (first | refine blk_drewN ?_ _ | refine blk_drew ?_ | refine blk_alloc ?_ _)); exact BK115.out)) : gb115 ≠ gb116)); have n9_ := Aside0.mk ((by rw [hg]; exact Nat.ne_of_gt (blk_lt (g := gb115) (o := .cells #[.int .i64 ((rd_T90 l0_1 x49_3).f0.f0), .int .i64 ((rd_T90 l0_1 x49_3).f0.f1), .int .i64 ((rd_T90 l0_1 x49_3).f1)] 90 (0, 0)) (by (with_reducible repeat (first | refine blk_drewN ?_ _ | refine blk_drew ?_ | refine blk_alloc ?_ _)); refine blk_put (cs := #[.int .i64 ((rd_T90 l0_1 x49_3).f0.f0), .int .i64 ((rd_T90 l0_1 x49_3).f0.f1), .int .i64 0]) ?_ 2 _ rfl; (with_reducible repeat (first | refine blk_drewN ?_ _ | refine blk_drew ?_ | refine blk_alloc ?_ _)); refine blk_put (cs := #[.int .i64 ((rd_T90 l0_1 x49_3).f0.f0), .int .i64 0, .int .i64 0]) ?_ 1 _ rfl; (with_reducible repeat (first | refine blk_drewN ?_ _ | refine blk_drew ?_ | refine blk_alloc ?_ _)); refine blk_put (cs := #[.int .i64 0, .int .i64 0, .int .i64 0]) ?_ 0 _ rfl; (with_reducible repeat (first | refine blk_drewN ?_ _ | refine blk_drew ?_ | refine blk_alloc ?_ _)); exact BK115.out)) : gb116 ≠ gb115)); clear BK107; clear BK115; clear HB; have BK107 := n0_; have BK115 := n1_; have HB := n2_; have BK116 := n3_; have GW116 := n4_; have GE116 := n5_; have NB107_116 := n6_; have NB116_107 := n7_; have NB115_116 := n8_; have NB116_115 := n9_; clear n0_ n1_ n2_ n3_ n4_ n5_ n6_ n7_ n8_ n9_; clear hb hbox hg; have hnb50 := NB116_107.out; have hnc50 := NB107_116.out; have hnb51 := NB116_115.out; have hnc51 := NB115_116.out; have hcz52_0 : w49.cell? ⟨gb116, 0, none⟩ = some (.int .i64 0) := (blk_cell BK116.out 0).trans rfl; have hcz52_1 : w49.cell? ⟨gb116, 1, none⟩ = some (.int .i64 0) := (blk_cell BK116.out 1).trans rfl; have hfz52_0 := blk_frozen BK116.out 0; have hfz52_1 := blk_frozen BK116.out 1))
                                go_roundg k3
                                case measure => have := HJ1.out; have := HK2.out; have := HK3.out; omega
                                case rel => exact ⟨(false), (wrap64 (x49_3 + 1)), (by first | rfl | (simp; done) | (simp [*]; done)), (by first | rfl | (simp; done) | (simp [*]; done)), H', ⟨by have := HJ1.out; have := HK2.out; have := HK3.out; omega⟩, ⟨by (with_reducible repeat (first | refine blk_drewN ?_ _ | refine blk_drew ?_ | refine blk_alloc ?_ _)); refine blk_far ?_ NB107_116.out _; (with_reducible repeat (first | refine blk_drewN ?_ _ | refine blk_drew ?_ | refine blk_alloc ?_ _)); refine blk_far ?_ NB107_116.out _; (with_reducible repeat (first | refine blk_drewN ?_ _ | refine blk_drew ?_ | refine blk_alloc ?_ _)); exact BK107.out⟩, ⟨by repeat (first | (with_reducible first | exact HB.out | apply below_alloc | apply pw_below_drewN | apply below_drew1 | refine below_set ?_ GE107.out | refine below_set ?_ GE115.out | refine below_set ?_ GE116.out) | exact HB.out)⟩⟩
                            · rw [if_neg c35] at H
                              have c35b0 : decide (((rd_T90 l0_1 x49_3).f0.f1) ≤ 20) = false := decide_eq_false c35
                              clear c35
                              have H' := Aside0.mk H
                              clear H
                              have p114 : 0 ≤ (x49_3 : Int) := of_decide_eq_true (by first | (with_reducible assumption) | assumption)
                              have q114 : x49_3 < (l0_1.length : Int) := of_decide_eq_true (by first | (with_reducible assumption) | assumption)
                              obtain ⟨ad114, e114, hx114_0, hx114_1, hx114_2⟩ := at_T90 HR0_1.out x49_3 p114 q114
                              cases e114
                              replace hx114_0 := (HB.out.cell (World.block_lt_of_cell? w _ hx114_0)).trans hx114_0
                              replace hx114_1 := (HB.out.cell (World.block_lt_of_cell? w _ hx114_1)).trans hx114_1
                              replace hx114_2 := (HB.out.cell (World.block_lt_of_cell? w _ hx114_2)).trans hx114_2
                              replace p114 := eq_true p114
                              replace q114 := eq_true q114
                              go_wp2_with (first | ((with_reducible refine gate_dst (N := 7) rfl ?_); (try (refine gate_guard (by rfl) ?_; dsimp only)); refine box_event ?hg (N := 7) ?hd (cs := #[.int .i64 0, .int .i64 0, .int .i64 0]) (t := 90) ?hr ?_; (case hd => rfl); (case hg => rfl); (case hr => first | (go_simp; done) | (go_simp; rfl)); intro gb115 hg w53 hbox hb; have n0_ := Aside0.mk (blk_below (g := gb107) (o := .cells #[.slice A0_0 l0_0.length c0_0, .slice (some ad114) l0_1.length c0_1, .slice A0_2 l0_2.length c0_2] 26 (0, 0)) (by (with_reducible repeat (first | refine blk_drewN ?_ _ | refine blk_drew ?_ | refine blk_alloc ?_ _)); exact BK107.out) hb); have n1_ := Aside0.mk (below_step (by repeat (first | (with_reducible first | exact HB.out | apply below_alloc | apply pw_below_drewN | apply below_drew1 | refine below_set ?_ GE107.out) | exact HB.out)) hb); have n2_ := Aside0.mk (hbox); have n3_ := Aside0.mk ((by rw [hg]; exact (below_size (by repeat (first | (with_reducible first | exact HB.out | apply below_alloc | apply pw_below_drewN | apply below_drew1 | refine below_set ?_ GE107.out) | exact HB.out))) : w.heap.size ≤ gb115)); have n4_ := Aside0.mk ((by rw [hg]; exact (below_size (by repeat (first | (with_reducible first | exact HB.out | apply below_alloc | apply pw_below_drewN | apply below_drew1 | refine below_set ?_ GE107.out) | exact HB.out))) : w.heap.size ≤ gb115)); have n5_ := Aside0.mk ((by rw [hg]; exact Nat.ne_of_lt (blk_lt (g := gb107) (o := .cells #[.slice A0_0 l0_0.length c0_0, .slice (some ad114) l0_1.length c0_1, .slice A0_2 l0_2.length c0_2] 26 (0, 0)) (by (with_reducible repeat (first | refine blk_drewN ?_ _ | refine blk_drew ?_ | refine blk_alloc ?_ _)); exact BK107.out)) : gb107 ≠ gb115)); have n6_ := Aside0.mk ((by rw [hg]; exact Nat.ne_of_gt (blk_lt (g := gb107) (o := .cells #[.slice A0_0 l0_0.length c0_0, .slice (some ad114) l0_1.length c0_1, .slice A0_2 l0_2.length c0_2] 26 (0, 0)) (by (with_reducible repeat (first | refine blk_drewN ?_ _ | refine blk_drew ?_ | refine blk_alloc ?_ _)); exact BK107.out)) : gb115 ≠ gb107)); clear BK107; clear HB; have BK107 := n0_; have HB := n1_; have BK115 := n2_; have GW115 := n3_; have GE115 := n4_; have NB107_115 := n5_; have NB115_107 := n6_; clear n0_ n1_ n2_ n3_ n4_ n5_ n6_; clear hb hbox hg; have hnb54 := NB115_107.out; have hnc54 := NB107_115.out; have hcz55_0 : w53.cell? ⟨gb115, 0, none⟩ = some (.int .i64 0) := (blk_cell BK115.out 0).trans rfl; have hcz55_1 : w53.cell? ⟨gb115, 1, none⟩ = some (.int .i64 0) := (blk_cell BK115.out 1).trans rfl; have hcz55_2 : w53.cell? ⟨gb115, 2, none⟩ = some (.int .i64 0) := (blk_cell BK115.out 2).trans rfl; have hfz55_0 := blk_frozen BK115.out 0; have hfz55_1 := blk_frozen BK115.out 1; have hfz55_2 := blk_frozen BK115.out 2) | ((with_reducible refine gate_dst (N := 8) rfl ?_); (try (refine gate_guard (by rfl) ?_; dsimp only)); refine box_event ?hg (N := 8) ?hd (cs := #[.int .i64 0, .int .i64 0]) (t := 32) ?hr ?_; (case hd => rfl); (case hg => rfl); (case hr => first | (go_simp; done) | (go_simp; rfl)); intro gb116 hg w56 hbox hb; have n0_ := Aside0.mk (blk_below (g := gb107) (o := .cells #[.slice A0_0 l0_0.length c0_0, .slice (some ad114) l0_1.length c0_1, .slice A0_2 l0_2.length c0_2] 26 (0, 0)) (by (with_reducible repeat (first | refine blk_drewN ?_ _ | refine blk_drew ?_ | refine blk_alloc ?_ _)); refine blk_far ?_ NB107_115.out _; (with_reducible repeat (first | refine blk_drewN ?_ _ | refine blk_drew ?_ | refine blk_alloc ?_ _)); refine blk_far ?_ NB107_115.out _; (with_reducible repeat (first | refine blk_drewN ?_ _ | refine blk_drew ?_ | refine blk_alloc ?_ _)); refine blk_far ?_ NB107_115.out _; (with_reducible repeat (first | refine blk_drewN ?_ _ | refine blk_drew ?_ | refine blk_alloc ?_ _)); exact BK107.out) hb); have n1_ := Aside0.mk (blk_below (g := gb115) (o := .cells #[.int .i64 ((rd_T90 l0_1 x49_3).f0.f0), .int .i64 ((rd_T90 l0_1 x49_3).f0.f1), .int .i64 ((rd_T90 l0_1 x49_3).f1)] 90 (0, 0)) (by (with_reducible repeat (first | refine blk_drewN ?_ _ | refine blk_drew ?_ | refine blk_alloc ?_ _)); refine blk_put (cs := #[.int .i64 ((rd_T90 l0_1 x49_3).f0.f0), .int .i64 ((rd_T90 l0_1 x49_3).f0.f1), .int .i64 0]) ?_ 2 _ rfl; (with_reducible repeat (first | refine blk_drewN ?_ _ | refine blk_drew ?_ | refine blk_alloc ?_ _)); refine blk_put (cs := #[.int .i64 ((rd_T90 l0_1 x49_3).f0.f0), .int .i64 0, .int .i64 0]) ?_ 1 _ rfl; (with_reducible repeat (first | refine blk_drewN ?_ _ | refine blk_drew ?_ | refine blk_alloc ?_ _)); refine blk_put (cs := #[.int .i64 0, .int .i64 0, .int .i64 0]) ?_ 0 _ rfl; (with_reducible repeat (first | refine blk_drewN ?_ _ | refine blk_drew ?_ | refine blk_alloc ?_ _)); exact BK115.out) hb); have n2_ := Aside0.mk (below_step (by repeat (first | (with_reducible first | exact HB.out | apply below_alloc | apply pw_below_drewN | apply below_drew1 | refine below_set ?_ GE107.out | refine below_set ?_ GE115.out) | exact HB.out)) hb); have n3_ := Aside0.mk (hbox); have n4_ := Aside0.mk ((by rw [hg]; exact (below_size (by repeat (first | (with_reducible first | exact HB.out | apply below_alloc | apply pw_below_drewN | apply below_drew1 | refine below_set ?_ GE107.out | refine below_set ?_ GE115.out) | exact HB.out))) : w.heap.size ≤ gb116)); have n5_ := Aside0.mk ((by rw [hg]; exact (below_size (by repeat (first | (with_reducible first | exact HB.out | apply below_alloc | apply pw_below_drewN | apply below_drew1 | refine below_set ?_ GE107.out | refine below_set ?_ GE115.out) | exact HB.out))) : w.heap.size ≤ gb116)); have n6_ := Aside0.mk ((by rw [hg]; exact Nat.ne_of_lt (blk_lt (g := gb107) (o := .cells #[.slice A0_0 l0_0.length c0_0, .slice (some ad114) l0_1.length c0_1, .slice A0_2 l0_2.length c0_2] 26 (0, 0)) (by (with_reducible repeat (first | refine blk_drewN ?_ _ | refine blk_drew ?_ | refine blk_alloc ?_ _)); refine blk_far ?_ NB107_115.out _; (with_reducible repeat (first | refine blk_drewN ?_ _ | refine blk_drew ?_ | refine blk_alloc ?_ _)); refine blk_far ?_ NB107_115.out _; (with_reducible repeat (first | refine blk_drewN ?_ _ | refine blk_drew ?_ | refine blk_alloc ?_ _)); refine blk_far ?_ NB107_115.out _; (with_reducible repeat (first | refine blk_drewN ?_ _ | refine blk_drew ?_ | refine blk_alloc ?_ _)); exact BK107.out)) : gb107 ≠ gb116)); have n7_ := Aside0.mk ((by rw [hg]; exact Nat.ne_of_gt (blk_lt (g := gb107) (o := .cells #[.slice A0_0 l0_0.length c0_0, .slice (some ad114) l0_1.length c0_1, .slice A0_2 l0_2.length c0_2] 26 (0, 0)) (by (with_reducible repeat (first | refine blk_drewN ?_ _ | refine blk_drew ?_ | refine blk_alloc ?_ _)); refine blk_far ?_ NB107_115.out _; (with_reducible repeat (first | refine blk_drewN ?_ _ | refine blk_drew ?_ | refine blk_alloc ?_ _)); refine blk_far ?_ NB107_115.out _; (with_reducible repeat (first | refine blk_drewN ?_ _ | refine blk_drew ?_ | refine blk_alloc ?_ _)); refine blk_far ?_ NB107_115.out _; (with_reducible repeat (first | refine blk_drewN ?_ _ | refine blk_drew ?_ | refine blk_alloc ?_ _)); exact BK107.out)) : gb116 ≠ gb107)); have n8_ := Aside0.mk ((by rw [hg]; exact Nat.ne_of_lt (blk_lt (g := gb115) (o := .cells #[.int .i64 ((rd_T90 l0_1 x49_3).f0.f0), .int .i64 ((rd_T90 l0_1 x49_3).f0.f1), .int .i64 ((rd_T90 l0_1 x49_3).f1)] 90 (0, 0)) (by (with_reducible repeat (first | refine blk_drewN ?_ _ | refine blk_drew ?_ | refine blk_alloc ?_ _)); refine blk_put (cs := #[.int .i64 ((rd_T90 l0_1 x49_3).f0.f0), .int .i64 ((rd_T90 l0_1 x49_3).f0.f1), .int .i64 0]) ?_ 2 _ rfl; (with_reducible repeat (first | refine blk_drewN ?_ _ | refine blk_drew ?_ | refine blk_alloc ?_ _)); refine blk_put (cs := #[.int .i64 ((rd_T90 l0_1 x49_3).f0.f0), .int .i64 0, .int .i64 0]) ?_ 1 _ rfl; (with_reducible repeat (first | refine blk_drewN ?_ _ | refine blk_drew ?_ | refine blk_alloc ?_ _)); refine blk_put (cs := #[.int .i64 0, .int .i64 0, .int .i64 0]) ?_ 0 _ rfl; (with_reducible repeat (first | refine blk_drewN ?_ _ | refine blk_drew ?_ | refine blk_alloc ?_ _)); exact BK115.out)) : gb115 ≠ gb116)); have n9_ := Aside0.mk ((by rw [hg]; exact Nat.ne_of_gt (blk_lt (g := gb115) (o := .cells #[.int .i64 ((rd_T90 l0_1 x49_3).f0.f0), .int .i64 ((rd_T90 l0_1 x49_3).f0.f1), .int .i64 ((rd_T90 l0_1 x49_3).f1)] 90 (0, 0)) (by (with_reducible repeat (first | refine blk_drewN ?_ _ | refine blk_drew ?_ | refine blk_alloc ?_ _)); refine blk_put (cs := #[.int .i64 ((rd_T90 l0_1 x49_3).f0.f0), .int .i64 ((rd_T90 l0_1 x49_3).f0.f1), .int .i64 0]) ?_ 2 _ rfl; (with_reducible repeat (first | refine blk_drewN ?_ _ | refine blk_drew ?_ | refine blk_alloc ?_ _)); refine blk_put (cs := #[.int .i64 ((rd_T90 l0_1 x49_3).f0.f0), .int .i64 0, .int .i64 0]) ?_ 1 _ rfl; (with_reducible repeat (first | refine blk_drewN ?_ _ | refine blk_drew ?_ | refine blk_alloc ?_ _)); refine blk_put (cs := #[.int .i64 0, .int .i64 0, .int .i64 0]) ?_ 0 _ rfl; (with_reducible repeat (first | refine blk_drewN ?_ _ | refine blk_drew ?_ | refine blk_alloc ?_ _)); exact BK115.out)) : gb116 ≠ gb115)); clear BK107; clear BK115; clear HB; have BK107 := n0_; have BK115 := n1_; have HB := n2_; have BK116 := n3_; have GW116 := n4_; have GE116 := n5_; have NB107_116 := n6_; have NB116_107 := n7_; have NB115_116 := n8_; have NB116_115 := n9_; clear n0_ n1_ n2_ n3_ n4_ n5_ n6_ n7_ n8_ n9_; clear hb hbox hg; have hnb57 := NB116_107.out; have hnc57 := NB107_116.out; have hnb58 := NB116_115.out; have hnc58 := NB115_116.out; have hcz59_0 : w56.cell? ⟨gb116, 0, none⟩ = some (.int .i64 0) := (blk_cell BK116.out 0).trans rfl; have hcz59_1 : w56.cell? ⟨gb116, 1, none⟩ = some (.int .i64 0) := (blk_cell BK116.out 1).trans rfl; have hfz59_0 := blk_frozen BK116.out 0; have hfz59_1 := blk_frozen BK116.out 1))
                              go_roundg k3
                              case measure => have := HJ1.out; have := HK2.out; have := HK3.out; omega
                              case rel => exact ⟨(false), (wrap64 (x49_3 + 1)), (by first | rfl | (simp; done) | (simp [*]; done)), (by first | rfl | (simp; done) | (simp [*]; done)), H', ⟨by have := HJ1.out; have := HK2.out; have := HK3.out; omega⟩, ⟨by (with_reducible repeat (first | refine blk_drewN ?_ _ | refine blk_drew ?_ | refine blk_alloc ?_ _)); refine blk_far ?_ NB107_116.out _; (with_reducible repeat (first | refine blk_drewN ?_ _ | refine blk_drew ?_ | refine blk_alloc ?_ _)); refine blk_far ?_ NB107_116.out _; (with_reducible repeat (first | refine blk_drewN ?_ _ | refine blk_drew ?_ | refine blk_alloc ?_ _)); exact BK107.out⟩, ⟨by repeat (first | (with_reducible first | exact HB.out | apply below_alloc | apply pw_below_drewN | apply below_drew1 | refine below_set ?_ GE107.out | refine below_set ?_ GE115.out | refine below_set ?_ GE116.out) | exact HB.out)⟩⟩
                          · rw [if_neg c34] at H
                            have c34b0 : decide (((rd_T90 l0_1 x49_3).f0.f0) ≤ ((rd_T90 l0_1 x49_3).f0.f1)) = false := decide_eq_false c34
                            clear c34
                            have H' := Aside0.mk H
                            clear H
                            have p114 : 0 ≤ (x49_3 : Int) := of_decide_eq_true (by first | (with_reducible assumption) | assumption)
                            have q114 : x49_3 < (l0_1.length : Int) := of_decide_eq_true (by first | (with_reducible assumption) | assumption)
                            obtain ⟨ad114, e114, hx114_0, hx114_1, hx114_2⟩ := at_T90 HR0_1.out x49_3 p114 q114
                            cases e114
                            replace hx114_0 := (HB.out.cell (World.block_lt_of_cell? w _ hx114_0)).trans hx114_0
                            replace hx114_1 := (HB.out.cell (World.block_lt_of_cell? w _ hx114_1)).trans hx114_1
                            replace hx114_2 := (HB.out.cell (World.block_lt_of_cell? w _ hx114_2)).trans hx114_2
                            replace p114 := eq_true p114
                            replace q114 := eq_true q114
                            go_wp2_with (first | ((with_reducible refine gate_dst (N := 7) rfl ?_); (try (refine gate_guard (by rfl) ?_; dsimp only)); refine box_event ?hg (N := 7) ?hd (cs := #[.int .i64 0, .int .i64 0, .int .i64 0]) (t := 90) ?hr ?_; (case hd => rfl); (case hg => rfl); (case hr => first | (go_simp; done) | (go_simp; rfl)); intro gb115 hg w60 hbox hb; have n0_ := Aside0.mk (blk_below (g := gb107) (o := .cells #[.slice A0_0 l0_0.length c0_0, .slice (some ad114) l0_1.length c0_1, .slice A0_2 l0_2.length c0_2] 26 (0, 0)) (by (with_reducible repeat (first | refine blk_drewN ?_ _ | refine blk_drew ?_ | refine blk_alloc ?_ _)); exact BK107.out) hb); have n1_ := Aside0.mk (below_step (by repeat (first | (with_reducible first | exact HB.out | apply below_alloc | apply pw_below_drewN | apply below_drew1 | refine below_set ?_ GE107.out) | exact HB.out)) hb); have n2_ := Aside0.mk (hbox); have n3_ := Aside0.mk ((by rw [hg]; exact (below_size (by repeat (first | (with_reducible first | exact HB.out | apply below_alloc | apply pw_below_drewN | apply below_drew1 | refine below_set ?_ GE107.out) | exact HB.out))) : w.heap.size ≤ gb115)); have n4_ := Aside0.mk ((by rw [hg]; exact (below_size (by repeat (first | (with_reducible first | exact HB.out | apply below_alloc | apply pw_below_drewN | apply below_drew1 | refine below_set ?_ GE107.out) | exact HB.out))) : w.heap.size ≤ gb115)); have n5_ := Aside0.mk ((by rw [hg]; exact Nat.ne_of_lt (blk_lt (g := gb107) (o := .cells #[.slice A0_0 l0_0.length c0_0, .slice (some ad114) l0_1.length c0_1, .slice A0_2 l0_2.length c0_2] 26 (0, 0)) (by (with_reducible repeat (first | refine blk_drewN ?_ _ | refine blk_drew ?_ | refine blk_alloc ?_ _)); exact BK107.out)) : gb107 ≠ gb115)); have n6_ := Aside0.mk ((by rw [hg]; exact Nat.ne_of_gt (blk_lt (g := gb107) (o := .cells #[.slice A0_0 l0_0.length c0_0, .slice (some ad114) l0_1.length c0_1, .slice A0_2 l0_2.length c0_2] 26 (0, 0)) (by (with_reducible repeat (first | refine blk_drewN ?_ _ | refine blk_drew ?_ | refine blk_alloc ?_ _)); exact BK107.out)) : gb115 ≠ gb107)); clear BK107; clear HB; have BK107 := n0_; have HB := n1_; have BK115 := n2_; have GW115 := n3_; have GE115 := n4_; have NB107_115 := n5_; have NB115_107 := n6_; clear n0_ n1_ n2_ n3_ n4_ n5_ n6_; clear hb hbox hg; have hnb61 := NB115_107.out; have hnc61 := NB107_115.out; have hcz62_0 : w60.cell? ⟨gb115, 0, none⟩ = some (.int .i64 0) := (blk_cell BK115.out 0).trans rfl; have hcz62_1 : w60.cell? ⟨gb115, 1, none⟩ = some (.int .i64 0) := (blk_cell BK115.out 1).trans rfl; have hcz62_2 : w60.cell? ⟨gb115, 2, none⟩ = some (.int .i64 0) := (blk_cell BK115.out 2).trans rfl; have hfz62_0 := blk_frozen BK115.out 0; have hfz62_1 := blk_frozen BK115.out 1; have hfz62_2 := blk_frozen BK115.out 2) | ((with_reducible refine gate_dst (N := 8) rfl ?_); (try (refine gate_guard (by rfl) ?_; dsimp only)); refine box_event ?hg (N := 8) ?hd (cs := #[.int .i64 0, .int .i64 0]) (t := 32) ?hr ?_; (case hd => rfl); (case hg => rfl); (case hr => first | (go_simp; done) | (go_simp; rfl)); intro gb116 hg w63 hbox hb; have n0_ := Aside0.mk (blk_below (g := gb107) (o := .cells #[.slice A0_0 l0_0.length c0_0, .slice (some ad114) l0_1.length c0_1, .slice A0_2 l0_2.length c0_2] 26 (0, 0)) (by (with_reducible repeat (first | refine blk_drewN ?_ _ | refine blk_drew ?_ | refine blk_alloc ?_ _)); refine blk_far ?_ NB107_115.out _; (with_reducible repeat (first | refine blk_drewN ?_ _ | refine blk_drew ?_ | refine blk_alloc ?_ _)); refine blk_far ?_ NB107_115.out _; (with_reducible repeat (first | refine blk_drewN ?_ _ | refine blk_drew ?_ | refine blk_alloc ?_ _)); refine blk_far ?_ NB107_115.out _; (with_reducible repeat (first | refine blk_drewN ?_ _ | refine blk_drew ?_ | refine blk_alloc ?_ _)); exact BK107.out) hb); have n1_ := Aside0.mk (blk_below (g := gb115) (o := .cells #[.int .i64 ((rd_T90 l0_1 x49_3).f0.f0), .int .i64 ((rd_T90 l0_1 x49_3).f0.f1), .int .i64 ((rd_T90 l0_1 x49_3).f1)] 90 (0, 0)) (by (with_reducible repeat (first | refine blk_drewN ?_ _ | refine blk_drew ?_ | refine blk_alloc ?_ _)); refine blk_put (cs := #[.int .i64 ((rd_T90 l0_1 x49_3).f0.f0), .int .i64 ((rd_T90 l0_1 x49_3).f0.f1), .int .i64 0]) ?_ 2 _ rfl; (with_reducible repeat (first | refine blk_drewN ?_ _ | refine blk_drew ?_ | refine blk_alloc ?_ _)); refine blk_put (cs := #[.int .i64 ((rd_T90 l0_1 x49_3).f0.f0), .int .i64 0, .int .i64 0]) ?_ 1 _ rfl; (with_reducible repeat (first | refine blk_drewN ?_ _ | refine blk_drew ?_ | refine blk_alloc ?_ _)); refine blk_put (cs := #[.int .i64 0, .int .i64 0, .int .i64 0]) ?_ 0 _ rfl; (with_reducible repeat (first | refine blk_drewN ?_ _ | refine blk_drew ?_ | refine blk_alloc ?_ _)); exact BK115.out) hb); have n2_ := Aside0.mk (below_step (by repeat (first | (with_reducible first | exact HB.out | apply below_alloc | apply pw_below_drewN | apply below_drew1 | refine below_set ?_ GE107.out | refine below_set ?_ GE115.out) | exact HB.out)) hb); have n3_ := Aside0.mk (hbox); have n4_ := Aside0.mk ((by rw [hg]; exact (below_size (by repeat (first | (with_reducible first | exact HB.out | apply below_alloc | apply pw_below_drewN | apply below_drew1 | refine below_set ?_ GE107.out | refine below_set ?_ GE115.out) | exact HB.out))) : w.heap.size ≤ gb116)); have n5_ := Aside0.mk ((by rw [hg]; exact (below_size (by repeat (first | (with_reducible first | exact HB.out | apply below_alloc | apply pw_below_drewN | apply below_drew1 | refine below_set ?_ GE107.out | refine below_set ?_ GE115.out) | exact HB.out))) : w.heap.size ≤ gb116)); have n6_ := Aside0.mk ((by rw [hg]; exact Nat.ne_of_lt (blk_lt (g := gb107) (o := .cells #[.slice A0_0 l0_0.length c0_0, .slice (some ad114) l0_1.length c0_1, .slice A0_2 l0_2.length c0_2] 26 (0, 0)) (by (with_reducible repeat (first | refine blk_drewN ?_ _ | refine blk_drew ?_ | refine blk_alloc ?_ _)); refine blk_far ?_ NB107_115.out _; (with_reducible repeat (first | refine blk_drewN ?_ _ | refine blk_drew ?_ | refine blk_alloc ?_ _)); refine blk_far ?_ NB107_115.out _; (with_reducible repeat (first | refine blk_drewN ?_ _ | refine blk_drew ?_ | refine blk_alloc ?_ _)); refine blk_far ?_ NB107_115.out _; (with_reducible repeat (first | refine blk_drewN ?_ _ | refine blk_drew ?_ | refine blk_alloc ?_ _)); exact BK107.out)) : gb107 ≠ gb116)); have n7_ := Aside0.mk ((by rw [hg]; exact Nat.ne_of_gt (blk_lt (g := gb107) (o := .cells #[.slice A0_0 l0_0.length c0_0, .slice (some ad114) l0_1.length c0_1, .slice A0_2 l0_2.length c0_2] 26 (0, 0)) (by (with_reducible repeat (first | refine blk_drewN ?_ _ | refine blk_drew ?_ | refine blk_alloc ?_ _)); refine blk_far ?_ NB107_115.out _; (with_reducible repeat (first | refine blk_drewN ?_ _ | refine blk_drew ?_ | refine blk_alloc ?_ _)); refine blk_far ?_ NB107_115.out _; (with_reducible repeat (first | refine blk_drewN ?_ _ | refine blk_drew ?_ | refine blk_alloc ?_ _)); refine blk_far ?_ NB107_115.out _; (with_reducible repeat (first | refine blk_drewN ?_ _ | refine blk_drew ?_ | refine blk_alloc ?_ _)); exact BK107.out)) : gb116 ≠ gb107)); have n8_ := Aside0.mk ((by rw [hg]; exact Nat.ne_of_lt (blk_lt (g := gb115) (o := .cells #[.int .i64 ((rd_T90 l0_1 x49_3).f0.f0), .int .i64 ((rd_T90 l0_1 x49_3).f0.f1), .int .i64 ((rd_T90 l0_1 x49_3).f1)] 90 (0, 0)) (by (with_reducible repeat (first | refine blk_drewN ?_ _ | refine blk_drew ?_ | refine blk_alloc ?_ _)); refine blk_put (cs := #[.int .i64 ((rd_T90 l0_1 x49_3).f0.f0), .int .i64 ((rd_T90 l0_1 x49_3).f0.f1), .int .i64 0]) ?_ 2 _ rfl; (with_reducible repeat (first | refine blk_drewN ?_ _ | refine blk_drew ?_ | refine blk_alloc ?_ _)); refine blk_put (cs := #[.int .i64 ((rd_T90 l0_1 x49_3).f0.f0), .int .i64 0, .int .i64 0]) ?_ 1 _ rfl; (with_reducible repeat (first | refine blk_drewN ?_ _ | refine blk_drew ?_ | refine blk_alloc ?_ _)); refine blk_put (cs := #[.int .i64 0, .int .i64 0, .int .i64 0]) ?_ 0 _ rfl; (with_reducible repeat (first | refine blk_drewN ?_ _ | refine blk_drew ?_ | refine blk_alloc ?_ _)); exact BK115.out)) : gb115 ≠ gb116)); have n9_ := Aside0.mk ((by rw [hg]; exact Nat.ne_of_gt (blk_lt (g := gb115) (o := .cells #[.int .i64 ((rd_T90 l0_1 x49_3).f0.f0), .int .i64 ((rd_T90 l0_1 x49_3).f0.f1), .int .i64 ((rd_T90 l0_1 x49_3).f1)] 90 (0, 0)) (by (with_reducible repeat (first | refine blk_drewN ?_ _ | refine blk_drew ?_ | refine blk_alloc ?_ _)); refine blk_put (cs := #[.int .i64 ((rd_T90 l0_1 x49_3).f0.f0), .int .i64 ((rd_T90 l0_1 x49_3).f0.f1), .int .i64 0]) ?_ 2 _ rfl; (with_reducible repeat (first | refine blk_drewN ?_ _ | refine blk_drew ?_ | refine blk_alloc ?_ _)); refine blk_put (cs := #[.int .i64 ((rd_T90 l0_1 x49_3).f0.f0), .int .i64 0, .int .i64 0]) ?_ 1 _ rfl; (with_reducible repeat (first | refine blk_drewN ?_ _ | refine blk_drew ?_ | refine blk_alloc ?_ _)); refine blk_put (cs := #[.int .i64 0, .int .i64 0, .int .i64 0]) ?_ 0 _ rfl; (with_reducible repeat (first | refine blk_drewN ?_ _ | refine blk_drew ?_ | refine blk_alloc ?_ _)); exact BK115.out)) : gb116 ≠ gb115)); clear BK107; clear BK115; clear HB; have BK107 := n0_; have BK115 := n1_; have HB := n2_; have BK116 := n3_; have GW116 := n4_; have GE116 := n5_; have NB107_116 := n6_; have NB116_107 := n7_; have NB115_116 := n8_; have NB116_115 := n9_; clear n0_ n1_ n2_ n3_ n4_ n5_ n6_ n7_ n8_ n9_; clear hb hbox hg; have hnb64 := NB116_107.out; have hnc64 := NB107_116.out; have hnb65 := NB116_115.out; have hnc65 := NB115_116.out; have hcz66_0 : w63.cell? ⟨gb116, 0, none⟩ = some (.int .i64 0) := (blk_cell BK116.out 0).trans rfl; have hcz66_1 : w63.cell? ⟨gb116, 1, none⟩ = some (.int .i64 0) := (blk_cell BK116.out 1).trans rfl; have hfz66_0 := blk_frozen BK116.out 0; have hfz66_1 := blk_frozen BK116.out 1))
                            go_roundg k3
                            case measure => have := HJ1.out; have := HK2.out; have := HK3.out; omega
                            case rel => exact ⟨(false), (wrap64 (x49_3 + 1)), (by first | rfl | (simp; done) | (simp [*]; done)), (by first | rfl | (simp; done) | (simp [*]; done)), H', ⟨by have := HJ1.out; have := HK2.out; have := HK3.out; omega⟩, ⟨by (with_reducible repeat (first | refine blk_drewN ?_ _ | refine blk_drew ?_ | refine blk_alloc ?_ _)); refine blk_far ?_ NB107_116.out _; (with_reducible repeat (first | refine blk_drewN ?_ _ | refine blk_drew ?_ | refine blk_alloc ?_ _)); refine blk_far ?_ NB107_116.out _; (with_reducible repeat (first | refine blk_drewN ?_ _ | refine blk_drew ?_ | refine blk_alloc ?_ _)); exact BK107.out⟩, ⟨by repeat (first | (with_reducible first | exact HB.out | apply below_alloc | apply pw_below_drewN | apply below_drew1 | refine below_set ?_ GE107.out | refine below_set ?_ GE115.out | refine below_set ?_ GE116.out) | exact HB.out)⟩⟩
                        · rw [if_neg c33] at H
                          have c33b0 : decide (0 ≤ ((rd_T90 l0_1 x49_3).f0.f0)) = false := decide_eq_false c33
                          clear c33
                          have H' := Aside0.mk H
                          clear H
                          have p114 : 0 ≤ (x49_3 : Int) := of_decide_eq_true (by first | (with_reducible assumption) | assumption)
                          have q114 : x49_3 < (l0_1.length : Int) := of_decide_eq_true (by first | (with_reducible assumption) | assumption)
                          obtain ⟨ad114, e114, hx114_0, hx114_1, hx114_2⟩ := at_T90 HR0_1.out x49_3 p114 q114
                          cases e114
                          replace hx114_0 := (HB.out.cell (World.block_lt_of_cell? w _ hx114_0)).trans hx114_0
                          replace hx114_1 := (HB.out.cell (World.block_lt_of_cell? w _ hx114_1)).trans hx114_1
                          replace hx114_2 := (HB.out.cell (World.block_lt_of_cell? w _ hx114_2)).trans hx114_2
                          replace p114 := eq_true p114
                          replace q114 := eq_true q114
                          go_wp2_with (first | ((with_reducible refine gate_dst (N := 7) rfl ?_); (try (refine gate_guard (by rfl) ?_; dsimp only)); refine box_event ?hg (N := 7) ?hd (cs := #[.int .i64 0, .int .i64 0, .int .i64 0]) (t := 90) ?hr ?_; (case hd => rfl); (case hg => rfl); (case hr => first | (go_simp; done) | (go_simp; rfl)); intro gb115 hg w67 hbox hb; have n0_ := Aside0.mk (blk_below (g := gb107) (o := .cells #[.slice A0_0 l0_0.length c0_0, .slice (some ad114) l0_1.length c0_1, .slice A0_2 l0_2.length c0_2] 26 (0, 0)) (by (with_reducible repeat (first | refine blk_drewN ?_ _ | refine blk_drew ?_ | refine blk_alloc ?_ _)); exact BK107.out) hb); have n1_ := Aside0.mk (below_step (by repeat (first | (with_reducible first | exact HB.out | apply below_alloc | apply pw_below_drewN | apply below_drew1 | refine below_set ?_ GE107.out) | exact HB.out)) hb); have n2_ := Aside0.mk (hbox); have n3_ := Aside0.mk ((by rw [hg]; exact (below_size (by repeat (first | (with_reducible first | exact HB.out | apply below_alloc | apply pw_below_drewN | apply below_drew1 | refine below_set ?_ GE107.out) | exact HB.out))) : w.heap.size ≤ gb115)); have n4_ := Aside0.mk ((by rw [hg]; exact (below_size (by repeat (first | (with_reducible first | exact HB.out | apply below_alloc | apply pw_below_drewN | apply below_drew1 | refine below_set ?_ GE107.out) | exact HB.out))) : w.heap.size ≤ gb115)); have n5_ := Aside0.mk ((by rw [hg]; exact Nat.ne_of_lt (blk_lt (g := gb107) (o := .cells #[.slice A0_0 l0_0.length c0_0, .slice (some ad114) l0_1.length c0_1, .slice A0_2 l0_2.length c0_2] 26 (0, 0)) (by (with_reducible repeat (first | refine blk_drewN ?_ _ | refine blk_drew ?_ | refine blk_alloc ?_ _)); exact BK107.out)) : gb107 ≠ gb115)); have n6_ := Aside0.mk ((by rw [hg]; exact Nat.ne_of_gt (blk_lt (g := gb107) (o := .cells #[.slice A0_0 l0_0.length c0_0, .slice (some ad114) l0_1.length c0_1, .slice A0_2 l0_2.length c0_2] 26 (0, 0)) (by (with_reducible repeat (first | refine blk_drewN ?_ _ | refine blk_drew ?_ | refine blk_alloc ?_ _)); exact BK107.out)) : gb115 ≠ gb107)); clear BK107; clear HB; have BK107 := n0_; have HB := n1_; have BK115 := n2_; have GW115 := n3_; have GE115 := n4_; have NB107_115 := n5_; have NB115_107 := n6_; clear n0_ n1_ n2_ n3_ n4_ n5_ n6_; clear hb hbox hg; have hnb68 := NB115_107.out; have hnc68 := NB107_115.out; have hcz69_0 : w67.cell? ⟨gb115, 0, none⟩ = some (.int .i64 0) := (blk_cell BK115.out 0).trans rfl; have hcz69_1 : w67.cell? ⟨gb115, 1, none⟩ = some (.int .i64 0) := (blk_cell BK115.out 1).trans rfl; have hcz69_2 : w67.cell? ⟨gb115, 2, none⟩ = some (.int .i64 0) := (blk_cell BK115.out 2).trans rfl; have hfz69_0 := blk_frozen BK115.out 0; have hfz69_1 := blk_frozen BK115.out 1; have hfz69_2 := blk_frozen BK115.out 2) | ((with_reducible refine gate_dst (N := 8) rfl ?_); (try (refine gate_guard (by rfl) ?_; dsimp only)); refine box_event ?hg (N := 8) ?hd (cs := #[.int .i64 0, .int .i64 0]) (t := 32) ?hr ?_; (case hd => rfl); (case hg => rfl); (case hr => first | (go_simp; done) | (go_simp; rfl)); intro gb116 hg w70 hbox hb; have n0_ := Aside0.mk (blk_below (g := gb107) (o := .cells #[.slice A0_0 l0_0.length c0_0, .slice (some ad114) l0_1.length c0_1, .slice A0_2 l0_2.length c0_2] 26 (0, 0)) (by (with_reducible repeat (first | refine blk_drewN ?_ _ | refine blk_drew ?_ | refine blk_alloc ?_ _)); refine blk_far ?_ NB107_115.out _; (with_reducible repeat (first | refine blk_drewN ?_ _ | refine blk_drew ?_ | refine blk_alloc ?_ _)); refine blk_far ?_ NB107_115.out _; (with_reducible repeat (first | refine blk_drewN ?_ _ | refine blk_drew ?_ | refine blk_alloc ?_ _)); refine blk_far ?_ NB107_115.out _; (with_reducible repeat (first | refine blk_drewN ?_ _ | refine blk_drew ?_ | refine blk_alloc ?_ _)); exact BK107.out) hb); have n1_ := Aside0.mk (blk_below (g := gb115) (o := .cells #[.int .i64 ((rd_T90 l0_1 x49_3).f0.f0), .int .i64 ((rd_T90 l0_1 x49_3).f0.f1), .int .i64 ((rd_T90 l0_1 x49_3).f1)] 90 (0, 0)) (by (with_reducible repeat (first | refine blk_drewN ?_ _ | refine blk_drew ?_ | refine blk_alloc ?_ _)); refine blk_put (cs := #[.int .i64 ((rd_T90 l0_1 x49_3).f0.f0), .int .i64 ((rd_T90 l0_1 x49_3).f0.f1), .int .i64 0]) ?_ 2 _ rfl; (with_reducible repeat (first | refine blk_drewN ?_ _ | refine blk_drew ?_ | refine blk_alloc ?_ _)); refine blk_put (cs := #[.int .i64 ((rd_T90 l0_1 x49_3).f0.f0), .int .i64 0, .int .i64 0]) ?_ 1 _ rfl; (with_reducible repeat (first | refine blk_drewN ?_ _ | refine blk_drew ?_ | refine blk_alloc ?_ _)); refine blk_put (cs := #[.int .i64 0, .int .i64 0, .int .i64 0]) ?_ 0 _ rfl; (with_reducible repeat (first | refine blk_drewN ?_ _ | refine blk_drew ?_ | refine blk_alloc ?_ _)); exact BK115.out) hb); have n2_ := Aside0.mk (below_step (by repeat (first | (with_reducible first | exact HB.out | apply below_alloc | apply pw_below_drewN | apply below_drew1 | refine below_set ?_ GE107.out | refine below_set ?_ GE115.out) | exact HB.out)) hb); have n3_ := Aside0.mk (hbox); have n4_ := Aside0.mk ((by rw [hg]; exact (below_size (by repeat (first | (with_reducible first | exact HB.out | apply below_alloc | apply pw_below_drewN | apply below_drew1 | refine below_set ?_ GE107.out | refine below_set ?_ GE115.out) | exact HB.out))) : w.heap.size ≤ gb116)); have n5_ := Aside0.mk ((by rw [hg]; exact (below_size (by repeat (first | (with_reducible first | exact HB.out | apply below_alloc | apply pw_below_drewN | apply below_drew1 | refine below_set ?_ GE107.out | refine below_set ?_ GE115.out) | exact HB.out))) : w.heap.size ≤ gb116)); have n6_ := Aside0.mk ((by rw [hg]; exact Nat.ne_of_lt (blk_lt (g := gb107) (o := .cells #[.slice A0_0 l0_0.length c0_0, .slice (some ad114) l0_1.length c0_1, .slice A0_2 l0_2.length c0_2] 26 (0, 0)) (by (with_reducible repeat (first | refine blk_drewN ?_ _ | refine blk_drew ?_ | refine blk_alloc ?_ _)); refine blk_far ?_ NB107_115.out _; (with_reducible repeat (first | refine blk_drewN ?_ _ | refine blk_drew ?_ | refine blk_alloc ?_ _)); refine blk_far ?_ NB107_115.out _; (with_reducible repeat (first | refine blk_drewN ?_ _ | refine blk_drew ?_ | refine blk_alloc ?_ _)); refine blk_far ?_ NB107_115.out _; (with_reducible repeat (first | refine blk_drewN ?_ _ | refine blk_drew ?_ | refine blk_alloc ?_ _)); exact BK107.out)) : gb107 ≠ gb116)); have n7_ := Aside0.mk ((by rw [hg]; exact Nat.ne_of_gt (blk_lt (g := gb107) (o := .cells #[.slice A0_0 l0_0.length c0_0, .slice (some ad114) l0_1.length c0_1, .slice A0_2 l0_2.length c0_2] 26 (0, 0)) (by (with_reducible repeat (first | refine blk_drewN ?_ _ | refine blk_drew ?_ | refine blk_alloc ?_ _)); refine blk_far ?_ NB107_115.out _; (with_reducible repeat (first | refine blk_drewN ?_ _ | refine blk_drew ?_ | refine blk_alloc ?_ _)); refine blk_far ?_ NB107_115.out _; (with_reducible repeat (first | refine blk_drewN ?_ _ | refine blk_drew ?_ | refine blk_alloc ?_ _)); refine blk_far ?_ NB107_115.out _; (with_reducible repeat (first | refine blk_drewN ?_ _ | refine blk_drew ?_ | refine blk_alloc ?_ _)); exact BK107.out)) : gb116 ≠ gb107)); have n8_ := Aside0.mk ((by rw [hg]; exact Nat.ne_of_lt (blk_lt (g := gb115) (o := .cells #[.int .i64 ((rd_T90 l0_1 x49_3).f0.f0), .int .i64 ((rd_T90 l0_1 x49_3).f0.f1), .int .i64 ((rd_T90 l0_1 x49_3).f1)] 90 (0, 0)) (by (with_reducible repeat (first | refine blk_drewN ?_ _ | refine blk_drew ?_ | refine blk_alloc ?_ _)); refine blk_put (cs := #[.int .i64 ((rd_T90 l0_1 x49_3).f0.f0), .int .i64 ((rd_T90 l0_1 x49_3).f0.f1), .int .i64 0]) ?_ 2 _ rfl; (with_reducible repeat (first | refine blk_drewN ?_ _ | refine blk_drew ?_ | refine blk_alloc ?_ _)); refine blk_put (cs := #[.int .i64 ((rd_T90 l0_1 x49_3).f0.f0), .int .i64 0, .int .i64 0]) ?_ 1 _ rfl; (with_reducible repeat (first | refine blk_drewN ?_ _ | refine blk_drew ?_ | refine blk_alloc ?_ _)); refine blk_put (cs := #[.int .i64 0, .int .i64 0, .int .i64 0]) ?_ 0 _ rfl; (with_reducible repeat (first | refine blk_drewN ?_ _ | refine blk_drew ?_ | refine blk_alloc ?_ _)); exact BK115.out)) : gb115 ≠ gb116)); have n9_ := Aside0.mk ((by rw [hg]; exact Nat.ne_of_gt (blk_lt (g := gb115) (o := .cells #[.int .i64 ((rd_T90 l0_1 x49_3).f0.f0), .int .i64 ((rd_T90 l0_1 x49_3).f0.f1), .int .i64 ((rd_T90 l0_1 x49_3).f1)] 90 (0, 0)) (by (with_reducible repeat (first | refine blk_drewN ?_ _ | refine blk_drew ?_ | refine blk_alloc ?_ _)); refine blk_put (cs := #[.int .i64 ((rd_T90 l0_1 x49_3).f0.f0), .int .i64 ((rd_T90 l0_1 x49_3).f0.f1), .int .i64 0]) ?_ 2 _ rfl; (with_reducible repeat (first | refine blk_drewN ?_ _ | refine blk_drew ?_ | refine blk_alloc ?_ _)); refine blk_put (cs := #[.int .i64 ((rd_T90 l0_1 x49_3).f0.f0), .int .i64 0, .int .i64 0]) ?_ 1 _ rfl; (with_reducible repeat (first | refine blk_drewN ?_ _ | refine blk_drew ?_ | refine blk_alloc ?_ _)); refine blk_put (cs := #[.int .i64 0, .int .i64 0, .int .i64 0]) ?_ 0 _ rfl; (with_reducible repeat (first | refine blk_drewN ?_ _ | refine blk_drew ?_ | refine blk_alloc ?_ _)); exact BK115.out)) : gb116 ≠ gb115)); clear BK107; clear BK115; clear HB; have BK107 := n0_; have BK115 := n1_; have HB := n2_; have BK116 := n3_; have GW116 := n4_; have GE116 := n5_; have NB107_116 := n6_; have NB116_107 := n7_; have NB115_116 := n8_; have NB116_115 := n9_; clear n0_ n1_ n2_ n3_ n4_ n5_ n6_ n7_ n8_ n9_; clear hb hbox hg; have hnb71 := NB116_107.out; have hnc71 := NB107_116.out; have hnb72 := NB116_115.out; have hnc72 := NB115_116.out; have hcz73_0 : w70.cell? ⟨gb116, 0, none⟩ = some (.int .i64 0) := (blk_cell BK116.out 0).trans rfl; have hcz73_1 : w70.cell? ⟨gb116, 1, none⟩ = some (.int .i64 0) := (blk_cell BK116.out 1).trans rfl; have hfz73_0 := blk_frozen BK116.out 0; have hfz73_1 := blk_frozen BK116.out 1))
                          go_roundg k3
                          case measure => have := HJ1.out; have := HK2.out; have := HK3.out; omega
                          case rel => exact ⟨(false), (wrap64 (x49_3 + 1)), (by first | rfl | (simp; done) | (simp [*]; done)), (by first | rfl | (simp; done) | (simp [*]; done)), H', ⟨by have := HJ1.out; have := HK2.out; have := HK3.out; omega⟩, ⟨by (with_reducible repeat (first | refine blk_drewN ?_ _ | refine blk_drew ?_ | refine blk_alloc ?_ _)); refine blk_far ?_ NB107_116.out _; (with_reducible repeat (first | refine blk_drewN ?_ _ | refine blk_drew ?_ | refine blk_alloc ?_ _)); refine blk_far ?_ NB107_116.out _; (with_reducible repeat (first | refine blk_drewN ?_ _ | refine blk_drew ?_ | refine blk_alloc ?_ _)); exact BK107.out⟩, ⟨by repeat (first | (with_reducible first | exact HB.out | apply below_alloc | apply pw_below_drewN | apply below_drew1 | refine below_set ?_ GE107.out | refine below_set ?_ GE115.out | refine below_set ?_ GE116.out) | exact HB.out)⟩⟩
                      · replace c32 := Bool.eq_false_iff.mpr c32
                        subst c32
                        have H1 : (roll_Check.l1 k3 false l0_1 (l0_1.length : Int) (wrap64 (x49_3 + 1)) l0_0 l0_1 l0_2) = some r := by rw [if_neg (show ¬ (false = true) by decide)] at H; exact H
                        clear H
                        have H := H1
                        clear H1
                        have H' := Aside0.mk H
                        clear H
                        have p114 : 0 ≤ (x49_3 : Int) := of_decide_eq_true (by first | (with_reducible assumption) | assumption)
                        have q114 : x49_3 < (l0_1.length : Int) := of_decide_eq_true (by first | (with_reducible assumption) | assumption)
                        obtain ⟨ad114, e114, hx114_0, hx114_1, hx114_2⟩ := at_T90 HR0_1.out x49_3 p114 q114
                        cases e114
                        replace hx114_0 := (HB.out.cell (World.block_lt_of_cell? w _ hx114_0)).trans hx114_0
                        replace hx114_1 := (HB.out.cell (World.block_lt_of_cell? w _ hx114_1)).trans hx114_1
                        replace hx114_2 := (HB.out.cell (World.block_lt_of_cell? w _ hx114_2)).trans hx114_2
                        replace p114 := eq_true p114
                        replace q114 := eq_true q114
                        go_wp2_with (first | ((with_reducible refine gate_dst (N := 7) rfl ?_); (try (refine gate_guard (by rfl) ?_; dsimp only)); refine box_event ?hg (N := 7) ?hd (cs := #[.int .i64 0, .int .i64 0, .int .i64 0]) (t := 90) ?hr ?_; (case hd => rfl); (case hg => rfl); (case hr => first | (go_simp; done) | (go_simp; rfl)); intro gb115 hg w74 hbox hb; have n0_ := Aside0.mk (blk_below (g := gb107) (o := .cells #[.slice A0_0 l0_0.length c0_0, .slice (some ad114) l0_1.length c0_1, .slice A0_2 l0_2.length c0_2] 26 (0, 0)) (by (with_reducible repeat (first | refine blk_drewN ?_ _ | refine blk_drew ?_ | refine blk_alloc ?_ _)); exact BK107.out) hb); have n1_ := Aside0.mk (below_step (by repeat (first | (with_reducible first | exact HB.out | apply below_alloc | apply pw_below_drewN | apply below_drew1 | refine below_set ?_ GE107.out) | exact HB.out)) hb); have n2_ := Aside0.mk (hbox); have n3_ := Aside0.mk ((by rw [hg]; exact (below_size (by repeat (first | (with_reducible first | exact HB.out | apply below_alloc | apply pw_below_drewN | apply below_drew1 | refine below_set ?_ GE107.out) | exact HB.out))) : w.heap.size ≤ gb115)); have n4_ := Aside0.mk ((by rw [hg]; exact (below_size (by repeat (first | (with_reducible first | exact HB.out | apply below_alloc | apply pw_below_drewN | apply below_drew1 | refine below_set ?_ GE107.out) | exact HB.out))) : w.heap.size ≤ gb115)); have n5_ := Aside0.mk ((by rw [hg]; exact Nat.ne_of_lt (blk_lt (g := gb107) (o := .cells #[.slice A0_0 l0_0.length c0_0, .slice (some ad114) l0_1.length c0_1, .slice A0_2 l0_2.length c0_2] 26 (0, 0)) (by (with_reducible repeat (first | refine blk_drewN ?_ _ | refine blk_drew ?_ | refine blk_alloc ?_ _)); exact BK107.out)) : gb107 ≠ gb115)); have n6_ := Aside0.mk ((by rw [hg]; exact Nat.ne_of_gt (blk_lt (g := gb107) (o := .cells #[.slice A0_0 l0_0.length c0_0, .slice (some ad114) l0_1.length c0_1, .slice A0_2 l0_2.length c0_2] 26 (0, 0)) (by (with_reducible repeat (first | refine blk_drewN ?_ _ | refine blk_drew ?_ | refine blk_alloc ?_ _)); exact BK107.out)) : gb115 ≠ gb107)); clear BK107; clear HB; have BK107 := n0_; have HB := n1_; have BK115 := n2_; have GW115 := n3_; have GE115 := n4_; have NB107_115 := n5_; have NB115_107 := n6_; clear n0_ n1_ n2_ n3_ n4_ n5_ n6_; clear hb hbox hg; have hnb75 := NB115_107.out; have hnc75 := NB107_115.out; have hcz76_0 : w74.cell? ⟨gb115, 0, none⟩ = some (.int .i64 0) := (blk_cell BK115.out 0).trans rfl; have hcz76_1 : w74.cell? ⟨gb115, 1, none⟩ = some (.int .i64 0) := (blk_cell BK115.out 1).trans rfl; have hcz76_2 : w74.cell? ⟨gb115, 2, none⟩ = some (.int .i64 0) := (blk_cell BK115.out 2).trans rfl; have hfz76_0 := blk_frozen BK115.out 0; have hfz76_1 := blk_frozen BK115.out 1; have hfz76_2 := blk_frozen BK115.out 2) | ((with_reducible refine gate_dst (N := 8) rfl ?_); (try (refine gate_guard (by rfl) ?_; dsimp only)); refine box_event ?hg (N := 8) ?hd (cs := #[.int .i64 0, .int .i64 0]) (t := 32) ?hr ?_; (case hd => rfl); (case hg => rfl); (case hr => first | (go_simp; done) | (go_simp; rfl)); intro gb116 hg w77 hbox hb; have n0_ := Aside0.mk (blk_below (g := gb107) (o := .cells #[.slice A0_0 l0_0.length c0_0, .slice (some ad114) l0_1.length c0_1, .slice A0_2 l0_2.length c0_2] 26 (0, 0)) (by (with_reducible repeat (first | refine blk_drewN ?_ _ | refine blk_drew ?_ | refine blk_alloc ?_ _)); refine blk_far ?_ NB107_115.out _; (with_reducible repeat (first | refine blk_drewN ?_ _ | refine blk_drew ?_ | refine blk_alloc ?_ _)); refine blk_far ?_ NB107_115.out _; (with_reducible repeat (first | refine blk_drewN ?_ _ | refine blk_drew ?_ | refine blk_alloc ?_ _)); refine blk_far ?_ NB107_115.out _; (with_reducible repeat (first | refine blk_drewN ?_ _ | refine blk_drew ?_ | refine blk_alloc ?_ _)); exact BK107.out) hb); have n1_ := Aside0.mk (blk_below (g := gb115) (o := .cells #[.int .i64 ((rd_T90 l0_1 x49_3).f0.f0), .int .i64 ((rd_T90 l0_1 x49_3).f0.f1), .int .i64 ((rd_T90 l0_1 x49_3).f1)] 90 (0, 0)) (by (with_reducible repeat (first | refine blk_drewN ?_ _ | refine blk_drew ?_ | refine blk_alloc ?_ _)); refine blk_put (cs := #[.int .i64 ((rd_T90 l0_1 x49_3).f0.f0), .int .i64 ((rd_T90 l0_1 x49_3).f0.f1), .int .i64 0]) ?_ 2 _ rfl; (with_reducible repeat (first | refine blk_drewN ?_ _ | refine blk_drew ?_ | refine blk_alloc ?_ _)); refine blk_put (cs := #[.int .i64 ((rd_T90 l0_1 x49_3).f0.f0), .int .i64 0, .int .i64 0]) ?_ 1 _ rfl; (with_reducible repeat (first | refine blk_drewN ?_ _ | refine blk_drew ?_ | refine blk_alloc ?_ _)); refine blk_put (cs := #[.int .i64 0, .int .i64 0, .int .i64 0]) ?_ 0 _ rfl; (with_reducible repeat (first | refine blk_drewN ?_ _ | refine blk_drew ?_ | refine blk_alloc ?_ _)); exact BK115.out) hb); have n2_ := Aside0.mk (below_step (by repeat (first | (with_reducible first | exact HB.out | apply below_alloc | apply pw_below_drewN | apply below_drew1 | refine below_set ?_ GE107.out | refine below_set ?_ GE115.out) | exact HB.out)) hb); have n3_ := Aside0.mk (hbox); have n4_ := Aside0.mk ((by rw [hg]; exact (below_size (by repeat (first | (with_reducible first | exact HB.out | apply below_alloc | apply pw_below_drewN | apply below_drew1 | refine below_set ?_ GE107.out | refine below_set ?_ GE115.out) | exact HB.out))) : w.heap.size ≤ gb116)); have n5_ := Aside0.mk ((by rw [hg]; exact (below_size (by repeat (first | (with_reducible first | exact HB.out | apply below_alloc | apply pw_below_drewN | apply below_drew1 | refine below_set ?_ GE107.out | refine below_set ?_ GE115.out) | exact HB.out))) : w.heap.size ≤ gb116)); have n6_ := Aside0.mk ((by rw [hg]; exact Nat.ne_of_lt (blk_lt (g := gb107) (o := .cells #[.slice A0_0 l0_0.length c0_0, .slice (some ad114) l0_1.length c0_1, .slice A0_2 l0_2.length c0_2] 26 (0, 0)) (by (with_reducible repeat (first | refine blk_drewN ?_ _ | refine blk_drew ?_ | refine blk_alloc ?_ _)); refine blk_far ?_ NB107_115.out _; (with_reducible repeat (first | refine blk_drewN ?_ _ | refine blk_drew ?_ | refine blk_alloc ?_ _)); refine blk_far ?_ NB107_115.out _; (with_reducible repeat (first | refine blk_drewN ?_ _ | refine blk_drew ?_ | refine blk_alloc ?_ _)); refine blk_far ?_ NB107_115.out _; (with_reducible repeat (first | refine blk_drewN ?_ _ | refine blk_drew ?_ | refine blk_alloc ?_ _)); exact BK107.out)) : gb107 ≠ gb116)); have n7_ := Aside0.mk ((by rw [hg]; exact Nat.ne_of_gt (blk_lt (g := gb107) (o := .cells #[.slice A0_0 l0_0.length c0_0, .slice (some ad114) l0_1.length c0_1, .slice A0_2 l0_2.length c0_2] 26 (0, 0)) (by (with_reducible repeat (first | refine blk_drewN ?_ _ | refine blk_drew ?_ | refine blk_alloc ?_ _)); refine blk_far ?_ NB107_115.out _; (with_reducible repeat (first | refine blk_drewN ?_ _ | refine blk_drew ?_ | refine blk_alloc ?_ _)); refine blk_far ?_ NB107_115.out _; (with_reducible repeat (first | refine blk_drewN ?_ _ | refine blk_drew ?_ | refine blk_alloc ?_ _)); refine blk_far ?_ NB107_115.out _; (with_reducible repeat (first | refine blk_drewN ?_ _ | refine blk_drew ?_ | refine blk_alloc ?_ _)); exact BK107.out)) : gb116 ≠ gb107)); have n8_ := Aside0.mk ((by rw [hg]; exact Nat.ne_of_lt (blk_lt (g := gb115) (o := .cells #[.int .i64 ((rd_T90 l0_1 x49_3).f0.f0), .int .i64 ((rd_T90 l0_1 x49_3).f0.f1), .int .i64 ((rd_T90 l0_1 x49_3).f1)] 90 (0, 0)) (by (with_reducible repeat (first | refine blk_drewN ?_ _ | refine blk_drew ?_ | refine blk_alloc ?_ _)); refine blk_put (cs := #[.int .i64 ((rd_T90 l0_1 x49_3).f0.f0), .int .i64 ((rd_T90 l0_1 x49_3).f0.f1), .int .i64 0]) ?_ 2 _ rfl; (with_reducible repeat (first | refine blk_drewN ?_ _ | refine blk_drew ?_ | refine blk_alloc ?_ _)); refine blk_put (cs := #[.int .i64 ((rd_T90 l0_1 x49_3).f0.f0), .int .i64 0, .int .i64 0]) ?_ 1 _ rfl; (with_reducible repeat (first | refine blk_drewN ?_ _ | refine blk_drew ?_ | refine blk_alloc ?_ _)); refine blk_put (cs := #[.int .i64 0, .int .i64 0, .int .i64 0]) ?_ 0 _ rfl; (with_reducible repeat (first | refine blk_drewN ?_ _ | refine blk_drew ?_ | refine blk_alloc ?_ _)); exact BK115.out)) : gb115 ≠ gb116)); have n9_ := Aside0.mk ((by rw [hg]; exact Nat.ne_of_gt (blk_lt (g := gb115) (o := .cells #[.int .i64 ((rd_T90 l0_1 x49_3).f0.f0), .int .i64 ((rd_T90 l0_1 x49_3).f0.f1), .int .i64 ((rd_T90 l0_1 x49_3).f1)] 90 (0, 0)) (by (with_reducible repeat (first | refine blk_drewN ?_ _ | refine blk_drew ?_ | refine blk_alloc ?_ _)); refine blk_put (cs := #[.int .i64 ((rd_T90 l0_1 x49_3).f0.f0), .int .i64 ((rd_T90 l0_1 x49_3).f0.f1), .int .i64 0]) ?_ 2 _ rfl; (with_reducible repeat (first | refine blk_drewN ?_ _ | refine blk_drew ?_ | refine blk_alloc ?_ _)); refine blk_put (cs := #[.int .i64 ((rd_T90 l0_1 x49_3).f0.f0), .int .i64 0, .int .i64 0]) ?_ 1 _ rfl; (with_reducible repeat (first | refine blk_drewN ?_ _ | refine blk_drew ?_ | refine blk_alloc ?_ _)); refine blk_put (cs := #[.int .i64 0, .int .i64 0, .int .i64 0]) ?_ 0 _ rfl; (with_reducible repeat (first | refine blk_drewN ?_ _ | refine blk_drew ?_ | refine blk_alloc ?_ _)); exact BK115.out)) : gb116 ≠ gb115)); clear BK107; clear BK115; clear HB; have BK107 := n0_; have BK115 := n1_; have HB := n2_; have BK116 := n3_; have GW116 := n4_; have GE116 := n5_; have NB107_116 := n6_; have NB116_107 := n7_; have NB115_116 := n8_; have NB116_115 := n9_; clear n0_ n1_ n2_ n3_ n4_ n5_ n6_ n7_ n8_ n9_; clear hb hbox hg; have hnb78 := NB116_107.out; have hnc78 := NB107_116.out; have hnb79 := NB116_115.out; have hnc79 := NB115_116.out; have hcz80_0 : w77.cell? ⟨gb116, 0, none⟩ = some (.int .i64 0) := (blk_cell BK116.out 0).trans rfl; have hcz80_1 : w77.cell? ⟨gb116, 1, none⟩ = some (.int .i64 0) := (blk_cell BK116.out 1).trans rfl; have hfz80_0 := blk_frozen BK116.out 0; have hfz80_1 := blk_frozen BK116.out 1))
                        go_roundg k3
                        case measure => have := HJ1.out; have := HK2.out; have := HK3.out; omega
                        case rel => exact ⟨(false), (wrap64 (x49_3 + 1)), (by first | rfl | (simp; done) | (simp [*]; done)), (by first | rfl | (simp; done) | (simp [*]; done)), H', ⟨by have := HJ1.out; have := HK2.out; have := HK3.out; omega⟩, ⟨by (with_reducible repeat (first | refine blk_drewN ?_ _ | refine blk_drew ?_ | refine blk_alloc ?_ _)); refine blk_far ?_ NB107_116.out _; (with_reducible repeat (first | refine blk_drewN ?_ _ | refine blk_drew ?_ | refine blk_alloc ?_ _)); refine blk_far ?_ NB107_116.out _; (with_reducible repeat (first | refine blk_drewN ?_ _ | refine blk_drew ?_ | refine blk_alloc ?_ _)); exact BK107.out⟩, ⟨by repeat (first | (with_reducible first | exact HB.out | apply below_alloc | apply pw_below_drewN | apply below_drew1 | refine below_set ?_ GE107.out | refine below_set ?_ GE115.out | refine below_set ?_ GE116.out) | exact HB.out)⟩⟩
                    · rw [if_neg c31] at H
                      exact absurd H (by simp)
                  · rw [if_neg c30] at H
                    exact absurd H (by simp)
                · rw [if_neg c29] at H
                  have c29b0 : decide (x49_3 < (l0_1.length : Int)) = false := decide_eq_false c29
                  clear c29
                  have H' := Aside0.mk H
                  clear H
                  have hcz81_0 : wr.cell? ⟨gb107, 0, none⟩ = some (.slice A0_0 l0_0.length c0_0) := (blk_cell BK107.out 0).trans rfl
                  have hcz81_1 : wr.cell? ⟨gb107, 1, none⟩ = some (.slice A0_1 l0_1.length c0_1) := (blk_cell BK107.out 1).trans rfl
                  have hcz81_2 : wr.cell? ⟨gb107, 2, none⟩ = some (.slice A0_2 l0_2.length c0_2) := (blk_cell BK107.out 2).trans rfl
                  have hfz81_0 := blk_frozen BK107.out 0
                  have hfz81_1 := blk_frozen BK107.out 1
                  have hfz81_2 := blk_frozen BK107.out 2
                  go_wp2
                  go_loopg [3, 90] k3 (fun kq v3 v90 w' => ∃ (x3_4 : Bool) (x90_4 : Int), v3 = .bool x3_4 ∧ v90 = .int .i64 x90_4 ∧ Aside0 (roll_Check.l2 kq x3_4 l0_2 (l0_2.length : Int) x90_4 l0_0 l0_1 l0_2 = some r) ∧ Aside0 (kq ≤ k3) ∧ Aside0 (w'.heap[gb107]? = some (.cells #[(.slice A0_0 l0_0.length c0_0), (.slice A0_1 l0_1.length c0_1), (.slice A0_2 l0_2.length c0_2)] 26 (0, 0))) ∧ Aside0 (Below w.heap.size w w'))
                  case atStart => exact ⟨(x3_3), (0), (by first | rfl | (simp; done) | (simp [*]; done)), (by first | rfl | (simp; done) | (simp [*]; done)), H', ⟨Nat.le_refl _⟩, ⟨by (with_reducible repeat (first | refine blk_drewN ?_ _ | refine blk_drew ?_ | refine blk_alloc ?_ _)); exact BK107.out⟩, ⟨by repeat (first | (with_reducible first | exact HB.out | apply below_alloc | apply pw_below_drewN | apply below_drew1 | refine below_set ?_ GE107.out) | exact HB.out)⟩⟩
                  case round =>
                    clear H'
                    try clear c1
                    try clear p1
                    try clear q1
                    try clear hx1
                    try clear c2
                    try clear p2
                    try clear c3
                    try clear c4
                    try clear c5
                    try clear c6
                    try clear p6
                    try clear c7
                    try clear p11
                    try clear q11
                    try clear hx11
                    try clear c12
                    try clear c12b0
                    try clear c13
                    try clear c13b0
                    try clear c14
                    try clear c14b0
                    try clear c15
                    try clear c17
                    try clear c19
                    try clear c20
                    try clear c23
                    try clear c26
                    try clear c29
                    try clear c29b0
                    try clear c30
                    try clear c30b0
                    try clear c31
                    try clear c31b0
                    try clear c32
                    try clear c33
                    try clear c33b0
                    try clear c34
                    try clear c34b0
                    try clear c35
                    try clear c35b0
                    try clear c36
                    try clear c36b0
                    try clear c39
                    try clear c42
                    try clear c43
                    try clear c47
                    try clear c50
                    try clear c51
                    try clear c54
                    try clear c57
                    try clear c58
                    try clear c61
                    try clear c64
                    try clear p64
                    try clear c65
                    try clear c68
                    try clear c71
                    try clear c72
                    try clear c75
                    try clear c77
                    try clear c78
                    try clear c79
                    try clear hcz10_0
                    try clear hcz10_1
                    try clear hcz10_2
                    try clear hcz11_0
                    try clear hcz11_1
                    try clear hcz11_2
                    try clear hcz21_0
                    try clear hcz21_1
                    try clear hcz24_0
                    try clear hcz24_1
                    try clear hcz27_0
                    try clear hcz27_1
                    try clear hcz28_0
                    try clear hcz28_1
                    try clear hcz28_2
                    try clear hcz40_0
                    try clear hcz40_1
                    try clear hcz40_2
                    try clear hcz44_0
                    try clear hcz44_1
                    try clear hcz45_0
                    try clear hcz45_1
                    try clear hcz45_2
                    try clear hcz48_0
                    try clear hcz48_1
                    try clear hcz48_2
                    try clear hcz52_0
                    try clear hcz52_1
                    try clear hcz55_0
                    try clear hcz55_1
                    try clear hcz55_2
                    try clear hcz59_0
                    try clear hcz59_1
                    try clear hcz62_0
                    try clear hcz62_1
                    try clear hcz62_2
                    try clear hcz66_0
                    try clear hcz66_1
                    try clear hcz69_0
                    try clear hcz69_1
                    try clear hcz69_2
                    try clear hcz73_0
                    try clear hcz73_1
                    try clear hcz76_0
                    try clear hcz76_1
                    try clear hcz76_2
                    try clear hcz80_0
                    try clear hcz80_1
                    try clear hcz81_0
                    try clear hcz81_1
                    try clear hcz81_2
                    try clear hcz8_0
                    try clear hcz8_1
                    try clear hcz8_2
                    try clear hcz9_0
                    try clear hcz9_1
                    try clear hcz9_2
                    try clear hfz10_0
                    try clear hfz10_1
                    try clear hfz10_2
                    try clear hfz11_0
                    try clear hfz11_1
                    try clear hfz11_2
                    try clear hfz21_0
                    try clear hfz21_1
                    try clear hfz24_0
                    try clear hfz24_1
                    try clear hfz27_0
                    try clear hfz27_1
                    try clear hfz28_0
                    try clear hfz28_1
                    try clear hfz28_2
                    try clear hfz40_0
                    try clear hfz40_1
                    try clear hfz40_2
                    try clear hfz44_0
                    try clear hfz44_1
                    try clear hfz45_0
                    try clear hfz45_1
                    try clear hfz45_2
                    try clear hfz48_0
                    try clear hfz48_1
                    try clear hfz48_2
                    try clear hfz52_0
                    try clear hfz52_1
                    try clear hfz55_0
                    try clear hfz55_1
                    try clear hfz55_2
                    try clear hfz59_0
                    try clear hfz59_1
                    try clear hfz62_0
                    try clear hfz62_1
                    try clear hfz62_2
                    try clear hfz66_0
                    try clear hfz66_1
                    try clear hfz69_0
                    try clear hfz69_1
                    try clear hfz69_2
                    try clear hfz73_0
                    try clear hfz73_1
                    try clear hfz76_0
                    try clear hfz76_1
                    try clear hfz76_2
                    try clear hfz80_0
                    try clear hfz80_1
                    try clear hfz81_0
                    try clear hfz81_1
                    try clear hfz81_2
                    try clear hfz8_0
                    try clear hfz8_1
                    try clear hfz8_2
                    try clear hfz9_0
                    try clear hfz9_1
                    try clear hfz9_2
                    try clear hx110_0
                    try clear hx110_1
                    try clear hx114_0
                    try clear hx114_1
                    try clear hx114_2
                    try clear p1
                    try clear p11
                    try clear p110
                    try clear p114
                    try clear p2
                    try clear p6
                    try clear q1
                    try clear q11
                    try clear q110
                    try clear q114
                    obtain ⟨x3_4, x90_4, rfl, rfl, HA, HK4, BK107, HB⟩ := hrel
                    cases gk with
                    | zero => exact absurd HA.out (by simp [roll_Check.l2])
                    | succ k4 =>
                      have H := HA.out
                      clear HA
                      simp only [roll_Check.l2] at H
                      by_cases c82 : x90_4 < (l0_2.length : Int)
                      · rw [if_pos c82] at H
                        have c82b0 : decide (x90_4 < (l0_2.length : Int)) = true := decide_eq_true c82
                        clear c82
                        by_cases c83 : 0 ≤ x90_4
                        · rw [if_pos c83] at H
                          have c83b0 : decide (0 ≤ x90_4) = true := decide_eq_true c83
                          clear c83
                          by_cases c84 : x90_4 < (l0_2.length : Int)
                          · rw [if_pos c84] at H
                            have c84b0 : decide (x90_4 < (l0_2.length : Int)) = true := decide_eq_true c84
                            clear c84
                            by_cases c85 : x3_4 = true
                            · subst c85
                              have H1 : ((roll_isLook.f l0_0 l0_1 l0_2 ((rd_T43 l0_2 x90_4).f0) ((rd_T43 l0_2 x90_4).f1)).bind fun t120 => (roll_Check.l2 k4 t120 l0_2 (l0_2.length : Int) (wrap64 (x90_4 + 1)) l0_0 l0_1 l0_2)) = some r := by rw [if_pos rfl] at H; exact H
                              clear H
                              have H := H1
                              clear H1
                              replace H := Option.bind_eq_some_iff.mp H
                              obtain ⟨t120, A860, H⟩ := H
                              replace H : (roll_Check.l2 k4 t120 l0_2 (l0_2.length : Int) (wrap64 (x90_4 + 1)) l0_0 l0_1 l0_2) = some r := H
                              have A86 := Aside0.mk A860
                              clear A860
                              have H' := Aside0.mk H
                              clear H
                              have p118 : 0 ≤ (x90_4 : Int) := of_decide_eq_true (by first | (with_reducible assumption) | assumption)
                              have q118 : x90_4 < (l0_2.length : Int) := of_decide_eq_true (by first | (with_reducible assumption) | assumption)
                              obtain ⟨ad118, e118, hx118_0, hx118_1⟩ := at_T43 HR0_2.out x90_4 p118 q118
                              cases e118
                              replace hx118_0 := (HB.out.cell (World.block_lt_of_cell? w _ hx118_0)).trans hx118_0
                              replace hx118_1 := (HB.out.cell (World.block_lt_of_cell? w _ hx118_1)).trans hx118_1
                              replace p118 := eq_true p118
                              replace q118 := eq_true q118
                              go_wp2_with (first | ((with_reducible refine gate_dst (N := 10) rfl ?_); (try (refine gate_guard (by rfl) ?_; dsimp only)); refine box_event ?hg (N := 10) ?hd (cs := #[.int .i64 0, .int .i64 0]) (t := 43) ?hr ?_; (case hd => rfl); (case hg => rfl); (case hr => first | (go_simp; done) | (go_simp; rfl)); intro gb119 hg w87 hbox hb; have n0_ := Aside0.mk (blk_below (g := gb107) (o := .cells #[.slice A0_0 l0_0.length c0_0, .slice A0_1 l0_1.length c0_1, .slice (some ad118) l0_2.length c0_2] 26 (0, 0)) (by (with_reducible repeat (first | refine blk_drewN ?_ _ | refine blk_drew ?_ | refine blk_alloc ?_ _)); exact BK107.out) hb); have n1_ := Aside0.mk (below_step (by repeat (first | (with_reducible first | exact HB.out | apply below_alloc | apply pw_below_drewN | apply below_drew1 | refine below_set ?_ GE107.out) | exact HB.out)) hb); have n2_ := Aside0.mk (hbox); have n3_ := Aside0.mk ((by rw [hg]; exact (below_size (by repeat (first | (with_reducible first | exact HB.out | apply below_alloc | apply pw_below_drewN | apply below_drew1 | refine below_set ?_ GE107.out) | exact HB.out))) : w.heap.size ≤ gb119)); have n4_ := Aside0.mk ((by rw [hg]; exact (below_size (by repeat (first | (with_reducible first | exact HB.out | apply below_alloc | apply pw_below_drewN | apply below_drew1 | refine below_set ?_ GE107.out) | exact HB.out))) : w.heap.size ≤ gb119)); have n5_ := Aside0.mk ((by rw [hg]; exact Nat.ne_of_lt (blk_lt (g := gb107) (o := .cells #[.slice A0_0 l0_0.length c0_0, .slice A0_1 l0_1.length c0_1, .slice (some ad118) l0_2.length c0_2] 26 (0, 0)) (by (with_reducible repeat (first | refine blk_drewN ?_ _ | refine blk_drew ?_ | refine blk_alloc ?_ _)); exact BK107.out)) : gb107 ≠ gb119)); have n6_ := Aside0.mk ((by rw [hg]; exact Nat.ne_of_gt (blk_lt (g := gb107) (o := .cells #[.slice A0_0 l0_0.length c0_0, .slice A0_1 l0_1.length c0_1, .slice (some ad118) l0_2.length c0_2] 26 (0, 0)) (by (with_reducible repeat (first | refine blk_drewN ?_ _ | refine blk_drew ?_ | refine blk_alloc ?_ _)); exact BK107.out)) : gb119 ≠ gb107)); clear BK107; clear HB; have BK107 := n0_; have HB := n1_; have BK119 := n2_; have GW119 := n3_; have GE119 := n4_; have NB107_119 := n5_; have NB119_107 := n6_; clear n0_ n1_ n2_ n3_ n4_ n5_ n6_; clear hb hbox hg; have hnb88 := NB119_107.out; have hnc88 := NB107_119.out; have hcz89_0 : w87.cell? ⟨gb119, 0, none⟩ = some (.int .i64 0) := (blk_cell BK119.out 0).trans rfl; have hcz89_1 : w87.cell? ⟨gb119, 1, none⟩ = some (.int .i64 0) := (blk_cell BK119.out 1).trans rfl; have hfz89_0 := blk_frozen BK119.out 0; have hfz89_1 := blk_frozen BK119.out 1; have hcz90_0 : w87.cell? ⟨gb107, 0, none⟩ = some (.slice A0_0 l0_0.length c0_0) := (blk_cell BK107.out 0).trans rfl; have hcz90_1 : w87.cell? ⟨gb107, 1, none⟩ = some (.slice A0_1 l0_1.length c0_1) := (blk_cell BK107.out 1).trans rfl; have hcz90_2 : w87.cell? ⟨gb107, 2, none⟩ = some (.slice (some ad118) l0_2.length c0_2) := (blk_cell BK107.out 2).trans rfl; have hfz90_0 := blk_frozen BK107.out 0; have hfz90_1 := blk_frozen BK107.out 1; have hfz90_2 := blk_frozen BK107.out 2) | (go_at_call 78; (with_reducible refine (roll_isLook.calls _ _ l0_0 _ _ l0_1 _ _ l0_2 ((rd_T43 l0_2 x90_4).f0) ((rd_T43 l0_2 x90_4).f1) t120 _ ?side1 ?side2 ?side3 ?side4 ?side5 ?side6 A86.out).mono ?_); (case side1 => exact Kd.C_below HR0_0.out (by repeat (first | (with_reducible first | exact HB.out | apply below_alloc | apply pw_below_drewN | apply below_drew1 | refine below_set ?_ GE107.out | refine below_set ?_ GE119.out) | exact HB.out))); (case side2 => exact HC0_0.out); (case side3 => exact Kd.C_below HR0_1.out (by repeat (first | (with_reducible first | exact HB.out | apply below_alloc | apply pw_below_drewN | apply below_drew1 | refine below_set ?_ GE107.out | refine below_set ?_ GE119.out) | exact HB.out))); (case side4 => exact HC0_1.out); (case side5 => exact Kd.C_below HR0_2.out (by repeat (first | (with_reducible first | exact HB.out | apply below_alloc | apply pw_below_drewN | apply below_drew1 | refine below_set ?_ GE107.out | refine below_set ?_ GE119.out) | exact HB.out))); (case side6 => exact HC0_2.out); rintro e w91 ⟨rfl, hb⟩; have n0_ := Aside0.mk (blk_below (g := gb107) (o := .cells #[.slice A0_0 l0_0.length c0_0, .slice A0_1 l0_1.length c0_1, .slice (some ad118) l0_2.length c0_2] 26 (0, 0)) (by (with_reducible repeat (first | refine blk_drewN ?_ _ | refine blk_drew ?_ | refine blk_alloc ?_ _)); refine blk_far ?_ NB107_119.out _; (with_reducible repeat (first | refine blk_drewN ?_ _ | refine blk_drew ?_ | refine blk_alloc ?_ _)); refine blk_far ?_ NB107_119.out _; (with_reducible repeat (first | refine blk_drewN ?_ _ | refine blk_drew ?_ | refine blk_alloc ?_ _)); exact BK107.out) hb); have n1_ := Aside0.mk (blk_below (g := gb119) (o := .cells #[.int .i64 ((rd_T43 l0_2 x90_4).f0), .int .i64 ((rd_T43 l0_2 x90_4).f1)] 43 (0, 0)) (by (with_reducible repeat (first | refine blk_drewN ?_ _ | refine blk_drew ?_ | refine blk_alloc ?_ _)); refine blk_put (cs := #[.int .i64 ((rd_T43 l0_2 x90_4).f0), .int .i64 0]) ?_ 1 _ rfl; (with_reducible repeat (first | refine blk_drewN ?_ _ | refine blk_drew ?_ | refine blk_alloc ?_ _)); refine blk_put (cs := #[.int .i64 0, .int .i64 0]) ?_ 0 _ rfl; (with_reducible repeat (first | refine blk_drewN ?_ _ | refine blk_drew ?_ | refine blk_alloc ?_ _)); exact BK119.out) hb); have n2_ := Aside0.mk (below_step (by repeat (first | (with_reducible first | exact HB.out | apply below_alloc | apply pw_below_drewN | apply below_drew1 | refine below_set ?_ GE107.out | refine below_set ?_ GE119.out) | exact HB.out)) hb); clear BK107; clear BK119; clear HB; have BK107 := n0_; have BK119 := n1_; have HB := n2_; clear n0_ n1_ n2_; (try clear hb); (try clear hb2); (try clear hk); (try clear hi)))
                              go_roundg k4
                              case measure => have := HJ1.out; have := HK2.out; have := HK3.out; have := HK4.out; omega
                              case rel => exact ⟨(t120), (wrap64 (x90_4 + 1)), (by first | rfl | (simp; done) | (simp [*]; done)), (by first | rfl | (simp; done) | (simp [*]; done)), H', ⟨by have := HJ1.out; have := HK2.out; have := HK3.out; have := HK4.out; omega⟩, ⟨by (with_reducible repeat (first | refine blk_drewN ?_ _ | refine blk_drew ?_ | refine blk_alloc ?_ _)); exact BK107.out⟩, ⟨by repeat (first | (with_reducible first | exact HB.out | apply below_alloc | apply pw_below_drewN | apply below_drew1 | refine below_set ?_ GE107.out | refine below_set ?_ GE119.out) | exact HB.out)⟩⟩
                            · replace c85 := Bool.eq_false_iff.mpr c85
                              subst c85
                              have H1 : (roll_Check.l2 k4 false l0_2 (l0_2.length : Int) (wrap64 (x90_4 + 1)) l0_0 l0_1 l0_2) = some r := by rw [if_neg (show ¬ (false = true) by decide)] at H; exact H
                              clear H
                              have H := H1
                              clear H1
                              have H' := Aside0.mk H
                              clear H
                              have p118 : 0 ≤ (x90_4 : Int) := of_decide_eq_true (by first | (with_reducible assumption) | assumption)
                              have q118 : x90_4 < (l0_2.length : Int) := of_decide_eq_true (by first | (with_reducible assumption) | assumption)
                              obtain ⟨ad118, e118, hx118_0, hx118_1⟩ := at_T43 HR0_2.out x90_4 p118 q118
                              cases e118
                              replace hx118_0 := (HB.out.cell (World.block_lt_of_cell? w _ hx118_0)).trans hx118_0
                              replace hx118_1 := (HB.out.cell (World.block_lt_of_cell? w _ hx118_1)).trans hx118_1
                              replace p118 := eq_true p118
                              replace q118 := eq_true q118
                              go_wp2_with (first | ((with_reducible refine gate_dst (N := 10) rfl ?_); (try (refine gate_guard (by rfl) ?_; dsimp only)); refine box_event ?hg (N := 10) ?hd (cs := #[.int .i64 0, .int .i64 0]) (t := 43) ?hr ?_; (case hd => rfl); (case hg => rfl); (case hr => first | (go_simp; done) | (go_simp; rfl)); intro gb119 hg w92 hbox hb; have n0_ := Aside0.mk (blk_below (g := gb107) (o := .cells #[.slice A0_0 l0_0.length c0_0, .slice A0_1 l0_1.length c0_1, .slice (some ad118) l0_2.length c0_2] 26 (0, 0)) (by (with_reducible repeat (first | refine blk_drewN ?_ _ | refine blk_drew ?_ | refine blk_alloc ?_ _)); exact BK107.out) hb); have n1_ := Aside0.mk (below_step (by repeat (first | (with_reducible first | exact HB.out | apply below_alloc | apply pw_below_drewN | apply below_drew1 | refine below_set ?_ GE107.out) | exact HB.out)) hb); have n2_ := Aside0.mk (hbox); have n3_ := Aside0.mk ((by rw [hg]; exact (below_size (by repeat (first | (with_reducible first | exact HB.out | apply below_alloc | apply pw_below_drewN | apply below_drew1 | refine below_set ?_ GE107.out) | exact HB.out))) : w.heap.size ≤ gb119)); have n4_ := Aside0.mk ((by rw [hg]; exact (below_size (by repeat (first | (with_reducible first | exact HB.out | apply below_alloc | apply pw_below_drewN | apply below_drew1 | refine below_set ?_ GE107.out) | exact HB.out))) : w.heap.size ≤ gb119)); have n5_ := Aside0.mk ((by rw [hg]; exact Nat.ne_of_lt (blk_lt (g := gb107) (o := .cells #[.slice A0_0 l0_0.length c0_0, .slice A0_1 l0_1.length c0_1, .slice (some ad118) l0_2.length c0_2] 26 (0, 0)) (by (with_reducible repeat (first | refine blk_drewN ?_ _ | refine blk_drew ?_ | refine blk_alloc ?_ _)); exact BK107.out)) : gb107 ≠ gb119)); have n6_ := Aside0.mk ((by rw [hg]; exact Nat.ne_of_gt (blk_lt (g := gb107) (o := .cells #[.slice A0_0 l0_0.length c0_0, .slice A0_1 l0_1.length c0_1, .slice (some ad118) l0_2.length c0_2] 26 (0, 0)) (by (with_reducible repeat (first | refine blk_drewN ?_ _ | refine blk_drew ?_ | refine blk_alloc ?_ _)); exact BK107.out)) : gb119 ≠ gb107)); clear BK107; clear HB; have BK107 := n0_; have HB := n1_; have BK119 := n2_; have GW119 := n3_; have GE119 := n4_; have NB107_119 := n5_; have NB119_107 := n6_; clear n0_ n1_ n2_ n3_ n4_ n5_ n6_; clear hb hbox hg; have hnb93 := NB119_107.out; have hnc93 := NB107_119.out; have hcz94_0 : w92.cell? ⟨gb119, 0, none⟩ = some (.int .i64 0) := (blk_cell BK119.out 0).trans rfl; have hcz94_1 : w92.cell? ⟨gb119, 1, none⟩ = some (.int .i64 0) := (blk_cell BK119.out 1).trans rfl; have hfz94_0 := blk_frozen BK119.out 0; have hfz94_1 := blk_frozen BK119.out 1))
                              go_roundg k4
                              case measure => have := HJ1.out; have := HK2.out; have := HK3.out; have := HK4.out; omega
                              case rel => exact ⟨(false), (wrap64 (x90_4 + 1)), (by first | rfl | (simp; done) | (simp [*]; done)), (by first | rfl | (simp; done) | (simp [*]; done)), H', ⟨by have := HJ1.out; have := HK2.out; have := HK3.out; have := HK4.out; omega⟩, ⟨by (with_reducible repeat (first | refine blk_drewN ?_ _ | refine blk_drew ?_ | refine blk_alloc ?_ _)); refine blk_far ?_ NB107_119.out _; (with_reducible repeat (first | refine blk_drewN ?_ _ | refine blk_drew ?_ | refine blk_alloc ?_ _)); refine blk_far ?_ NB107_119.out _; (with_reducible repeat (first | refine blk_drewN ?_ _ | refine blk_drew ?_ | refine blk_alloc ?_ _)); exact BK107.out⟩, ⟨by repeat (first | (with_reducible first | exact HB.out | apply below_alloc | apply pw_below_drewN | apply below_drew1 | refine below_set ?_ GE107.out | refine below_set ?_ GE119.out) | exact HB.out)⟩⟩
                          · rw [if_neg c84] at H
                            exact absurd H (by simp)
                        · rw [if_neg c83] at H
                          exact absurd H (by simp)
                      · rw [if_neg c82] at H
                        have c82b0 : decide (x90_4 < (l0_2.length : Int)) = false := decide_eq_false c82
                        clear c82
                        by_cases c95 : x3_4 = true
                        · subst c95
                          have H1 : (some 0) = some r := by rw [if_pos rfl] at H; exact H
                          clear H
                          have H := H1
                          clear H1
                          obtain rfl := Option.some.inj H
                          go_wp2
                          go_ret
                          exact ⟨by first | rfl | exact congrArg (fun b_ => Ending.returned (.bool b_)) HT.out | (simp [errW_none, errW_some] <;> rfl) | (simp [*, errW_none, errW_some] <;> rfl), by repeat (first | (with_reducible first | exact HB.out | apply below_alloc | apply pw_below_drewN | apply below_drew1 | refine below_set ?_ GE107.out) | exact HB.out)⟩
                        · replace c95 := Bool.eq_false_iff.mpr c95
                          subst c95
                          have H1 : (some 70) = some r := by rw [if_neg (show ¬ (false = true) by decide)] at H; exact H
                          clear H
                          have H := H1
                          clear H1
                          obtain rfl := Option.some.inj H
                          go_wp2
                          go_ret
                          exact ⟨by first | rfl | exact congrArg (fun b_ => Ending.returned (.bool b_)) HT.out | (simp [errW_none, errW_some] <;> rfl) | (simp [*, errW_none, errW_some] <;> rfl), by repeat (first | (with_reducible first | exact HB.out | apply below_alloc | apply pw_below_drewN | apply below_drew1 | refine below_set ?_ GE107.out) | exact HB.out)⟩
end Go.Proofs.YthgjedagbgmgmaaDoor.Pr
namespace Go.Proofs.YthgjedagbgmgmaaDoor.Pr
open Go.RowKit Go.Proofs.YthgjedagbgmgmaaDoorW.PrintWords Go.Proofs.YthgjedagbgmgmaaDoorW.PrintLast Go.Proofs.YthgjedagbgmgmaaDoorW.PrintMore
set_option linter.unusedVariables false
set_option linter.unusedSimpArgs false
theorem wrap64_id {x : Int} (h0 : -9223372036854775808 ≤ x) (h1 : x ≤ 9223372036854775807) : wrap64 x = x := by unfold wrap64; omega
def okLayer (x : S92) : Bool := decide (1 ≤ x.f0 ∧ x.f0 ≤ 30) && decide (1 ≤ x.f1 ∧ x.f1 ≤ 50)
def okDay (x : S90) : Bool := decide (0 ≤ x.f0.f0 ∧ x.f0.f0 ≤ x.f0.f1 ∧ x.f0.f1 ≤ 20 ∧ x.f0.f1 - x.f0.f0 ≤ 1) && decide (1 ≤ x.f1 ∧ x.f1 ≤ 7)
def okLook (n d : Nat) (x : S43) : Bool := decide (0 ≤ x.f0 ∧ x.f0 ≤ (d : Int) - 1) && decide (0 ≤ x.f1 ∧ x.f1 ≤ n)
/-- Is a book right by itself? -/
def okBook (ls : List S92) (ds : List S90) (ks : List S43) : Bool :=
  decide (1 ≤ ls.length ∧ ls.length ≤ 4) && decide (1 ≤ ds.length ∧ ds.length ≤ 5) && decide (ks.length ≤ 4) && ls.all okLayer && ds.all okDay && ks.all (okLook ls.length ds.length)
theorem within_law (a b c : Int) : roll_within.f a b c = some (decide (b ≤ a ∧ a ≤ c)) := by
  unfold roll_within.f
  by_cases h : b ≤ a
  · rw [if_pos h]; simp [h]
  · rw [if_neg h]; simp [h]
theorem isDay_law (ls : List S92) (ds : List S90) (ks : List S43) (a : Int) (hd : (ds.length : Int) ≤ 9223372036854775807) : roll_isDay.f ls ds ks a = some (decide (0 ≤ a ∧ a ≤ (ds.length : Int) - 1)) := by
  unfold roll_isDay.f
  rw [wrap64_id (by omega) (by omega), within_law]
  rfl
theorem isLook_law (ls : List S92) (ds : List S90) (ks : List S43) (x : S43) (hd : (ds.length : Int) ≤ 9223372036854775807) : roll_isLook.f ls ds ks x.f0 x.f1 = some (okLook ls.length ds.length x) := by
  unfold roll_isLook.f okLook
  rw [isDay_law _ _ _ _ hd]
  simp only [Option.bind_some]
  by_cases h : 0 ≤ x.f0 ∧ x.f0 ≤ (ds.length : Int) - 1
  · rw [if_pos (by simpa using h), within_law]
    simp [h]
  · rw [if_neg (by simpa using h)]
    simp [h]
theorem rd92 {xs : List S92} {i : Nat} (h : i < xs.length) : rd_T92 xs i = xs[i] := by unfold rd_T92; rw [Int.toNat_natCast, List.getD_eq_getElem?_getD, List.getElem?_eq_getElem h]; rfl
theorem rd90 {xs : List S90} {i : Nat} (h : i < xs.length) : rd_T90 xs i = xs[i] := by unfold rd_T90; rw [Int.toNat_natCast, List.getD_eq_getElem?_getD, List.getElem?_eq_getElem h]; rfl
theorem rd43 {xs : List S43} {i : Nat} (h : i < xs.length) : rd_T43 xs i = xs[i] := by unfold rd_T43; rw [Int.toNat_natCast, List.getD_eq_getElem?_getD, List.getElem?_eq_getElem h]; rfl
theorem check_l2 (ls : List S92) (ds : List S90) (ks : List S43) (hd : (ds.length : Int) ≤ 9223372036854775807) (hk : (ks.length : Int) ≤ 9223372036854775807) : ∀ (m i k : Nat) (b : Bool), i + m = ks.length → m < k →
    roll_Check.l2 k b ks (ks.length : Int) i ls ds ks = some (if b && (ks.drop i).all (okLook ls.length ds.length) then 0 else 70) := by
  intro m
  induction m with
  | zero =>
    intro i k b hi hk'
    obtain ⟨k, rfl⟩ : ∃ j, k = j + 1 := ⟨k - 1, by omega⟩
    unfold roll_Check.l2
    rw [if_neg (by omega), List.drop_of_length_le (by omega)]
    cases b <;> rfl
  | succ m ih =>
    intro i k b hi hk'
    obtain ⟨k, rfl⟩ : ∃ j, k = j + 1 := ⟨k - 1, by omega⟩
    have hlt : i < ks.length := by omega
    unfold roll_Check.l2
    rw [if_pos (by omega), if_pos (by omega), if_pos (by omega), rd43 hlt, isLook_law _ _ _ _ hd, wrap64_id (by omega) (by omega), show (i : Int) + 1 = ((i + 1 : Nat) : Int) by omega, List.drop_eq_getElem_cons hlt]
    cases b
    · rw [if_neg (by simp), ih (i + 1) k false (by omega) (by omega)]
      rfl
    · rw [if_pos rfl, Option.bind_some, ih (i + 1) k _ (by omega) (by omega)]
      rfl
theorem check_l1 (ls : List S92) (ds : List S90) (ks : List S43) (hd : (ds.length : Int) ≤ 9223372036854775807) (hk : (ks.length : Int) ≤ 9223372036854775807) : ∀ (m i k : Nat) (b : Bool), i + m = ds.length → m + ks.length + 1 < k →
    roll_Check.l1 k b ds (ds.length : Int) i ls ds ks = some (if b && (ds.drop i).all okDay && ks.all (okLook ls.length ds.length) then 0 else 70) := by
  intro m
  induction m with
  | zero =>
    intro i k b hi hk'
    obtain ⟨k, rfl⟩ : ∃ j, k = j + 1 := ⟨k - 1, by omega⟩
    unfold roll_Check.l1
    rw [if_neg (by omega), List.drop_of_length_le (by omega)]
    have := check_l2 ls ds ks hd hk ks.length 0 k b (by omega) (by omega)
    rw [List.drop_zero] at this
    simpa using this
  | succ m ih =>
    intro i k b hi hk'
    obtain ⟨k, rfl⟩ : ∃ j, k = j + 1 := ⟨k - 1, by omega⟩
    have hlt : i < ds.length := by omega
    unfold roll_Check.l1
    rw [if_pos (by omega), if_pos (by omega), if_pos (by omega), rd90 hlt, wrap64_id (x := (i : Int) + 1) (by omega) (by omega), show (i : Int) + 1 = ((i + 1 : Nat) : Int) by omega, List.drop_eq_getElem_cons hlt]
    obtain ⟨x, hx⟩ : ∃ x, x = ds[i] := ⟨_, rfl⟩
    rw [← hx]
    have hf : ∀ c : Bool, okDay x = c → roll_Check.l1 k c ds (ds.length : Int) ((i + 1 : Nat) : Int) ls ds ks = some (if true && (x :: ds.drop (i + 1)).all okDay && ks.all (okLook ls.length ds.length) then 0 else 70) := by
      intro c hc
      rw [ih (i + 1) k c (by omega) (by omega), List.all_cons, hc]
      rfl
    cases b
    · rw [if_neg (by simp), ih (i + 1) k false (by omega) (by omega)]
      rfl
    · rw [if_pos rfl]
      by_cases h1 : 0 ≤ x.f0.f0
      · rw [if_pos h1]
        by_cases h2 : x.f0.f0 ≤ x.f0.f1
        · rw [if_pos h2]
          by_cases h3 : x.f0.f1 ≤ 20
          · rw [if_pos h3, wrap64_id (by omega) (by omega)]
            by_cases h4 : x.f0.f1 - x.f0.f0 ≤ 1
            · rw [if_pos h4, within_law, Option.bind_some]
              exact hf _ (by unfold okDay; simp [h1, h2, h3, h4])
            · rw [if_neg h4]
              exact hf _ (by unfold okDay; simp [h4])
          · rw [if_neg h3]
            exact hf _ (by unfold okDay; simp [h3])
        · rw [if_neg h2]
          exact hf _ (by unfold okDay; simp [h2])
      · rw [if_neg h1]
        exact hf _ (by unfold okDay; simp [h1])
theorem check_l0 (ls : List S92) (ds : List S90) (ks : List S43) (hl : (ls.length : Int) ≤ 9223372036854775807) (hd : (ds.length : Int) ≤ 9223372036854775807) (hk : (ks.length : Int) ≤ 9223372036854775807) : ∀ (m i k : Nat) (b : Bool), i + m = ls.length → m + ds.length + ks.length + 2 < k →
    roll_Check.l0 k b ls (ls.length : Int) i ls ds ks = some (if b && (ls.drop i).all okLayer && ds.all okDay && ks.all (okLook ls.length ds.length) then 0 else 70) := by
  intro m
  induction m with
  | zero =>
    intro i k b hi hk'
    obtain ⟨k, rfl⟩ : ∃ j, k = j + 1 := ⟨k - 1, by omega⟩
    unfold roll_Check.l0
    rw [if_neg (by omega), List.drop_of_length_le (by omega)]
    have := check_l1 ls ds ks hd hk ds.length 0 k b (by omega) (by omega)
    rw [List.drop_zero] at this
    simpa using this
  | succ m ih =>
    intro i k b hi hk'
    obtain ⟨k, rfl⟩ : ∃ j, k = j + 1 := ⟨k - 1, by omega⟩
    have hlt : i < ls.length := by omega
    unfold roll_Check.l0
    rw [if_pos (by omega), if_pos (by omega), if_pos (by omega), rd92 hlt, wrap64_id (by omega) (by omega), show (i : Int) + 1 = ((i + 1 : Nat) : Int) by omega, List.drop_eq_getElem_cons hlt]
    obtain ⟨x, hx⟩ : ∃ x, x = ls[i] := ⟨_, rfl⟩
    rw [← hx]
    have hf : ∀ c : Bool, okLayer x = c → roll_Check.l0 k c ls (ls.length : Int) ((i + 1 : Nat) : Int) ls ds ks = some (if true && (x :: ls.drop (i + 1)).all okLayer && ds.all okDay && ks.all (okLook ls.length ds.length) then 0 else 70) := by
      intro c hc
      rw [ih (i + 1) k c (by omega) (by omega), List.all_cons, hc]
      rfl
    cases b
    · rw [if_neg (by simp), ih (i + 1) k false (by omega) (by omega)]
      rfl
    · rw [if_pos rfl, within_law, Option.bind_some]
      by_cases h1 : 1 ≤ x.f0 ∧ x.f0 ≤ 30
      · rw [if_pos (by simpa using h1), within_law, Option.bind_some]
        exact hf _ (by unfold okLayer; simp [h1])
      · rw [if_neg (by simpa using h1)]
        exact hf _ (by unfold okLayer; simp [h1])
theorem check_law (ls : List S92) (ds : List S90) (ks : List S43) (hl : (ls.length : Int) ≤ 9223372036854775807) (hd : (ds.length : Int) ≤ 9223372036854775807) (hk : (ks.length : Int) ≤ 9223372036854775807) :
    roll_Check.f (ls.length + ds.length + ks.length + 5) ls ds ks = some (if okBook ls ds ks then 0 else 70) := by
  have hj : ∀ b : Bool, roll_Check.j0 (ls.length + ds.length + ks.length + 5) b ls ds ks = some (if b && ls.all okLayer && ds.all okDay && ks.all (okLook ls.length ds.length) then 0 else 70) := by
    intro b
    unfold roll_Check.j0
    have := check_l0 ls ds ks hl hd hk ls.length 0 (ls.length + ds.length + ks.length + 4) b (by omega) (by omega)
    rw [List.drop_zero] at this
    exact this
  unfold roll_Check.f okBook
  rw [within_law, Option.bind_some]
  by_cases h1 : 1 ≤ (ls.length : Int) ∧ (ls.length : Int) ≤ 4
  · rw [if_pos (by simpa using h1), within_law, Option.bind_some]
    have h1' : 1 ≤ ls.length ∧ ls.length ≤ 4 := by omega
    by_cases h2 : 1 ≤ (ds.length : Int) ∧ (ds.length : Int) ≤ 5
    · have h2' : 1 ≤ ds.length ∧ ds.length ≤ 5 := by omega
      rw [if_pos (by simpa using h2), hj, decide_eq_true h1', decide_eq_true h2', show decide ((ks.length : Int) ≤ 4) = decide (ks.length ≤ 4) from decide_eq_decide.2 (by omega)]
      simp
    · have h2' : ¬ (1 ≤ ds.length ∧ ds.length ≤ 5) := by omega
      rw [if_neg (by simpa using h2), hj, decide_eq_false h2']
      simp
  · have h1' : ¬ (1 ≤ ls.length ∧ ls.length ≤ 4) := by omega
    rw [if_neg (by simpa using h1), hj, decide_eq_false h1']
    simp
end Go.Proofs.YthgjedagbgmgmaaDoor.Pr
namespace Go.Proofs.YthgjedagbgmgmaaDoor.Pr
open Go.RowKit Go.Proofs.YthgjedagbgmgmaaDoorW.PrintWords Go.Proofs.YthgjedagbgmgmaaDoorW.PrintLast Go.Proofs.YthgjedagbgmgmaaDoorW.PrintMore
set_option linter.unusedVariables false
set_option linter.unusedSimpArgs false
theorem own_mono {W : World} {b b' : Nat} {e : TypeId} {s : Nat} {v : Value} {n : Nat} {xs : List Value} (h : W.ownsRow b e s v n xs) (hb : b' ≤ b) : W.ownsRow b' e s v n xs := by
  refine ⟨h.1, ?_⟩
  rcases h.2 with hn | ⟨g, cap, cur, rfl, h1, h2⟩
  · exact .inl hn
  · exact .inr ⟨g, cap, cur, rfl, Nat.le_trans hb h1, h2⟩
theorem ok_facts {ls : List S92} {ds : List S90} {ks : List S43} (h : okBook ls ds ks = true) : 1 ≤ ls.length ∧ ls.length ≤ 4 ∧ ds.length ≤ 5 ∧ 1 ≤ ds.length ∧ ks.length ≤ 4 ∧ (∀ x ∈ ds, 0 ≤ x.f0.f0 ∧ x.f0.f0 ≤ x.f0.f1 ∧ x.f0.f1 ≤ 20 ∧ x.f0.f1 ≤ x.f0.f0 + 1 ∧ 0 ≤ x.f1 ∧ x.f1 ≤ 7) ∧ (∀ x ∈ ls, 1 ≤ x.f0 ∧ x.f0 ≤ 30 ∧ 1 ≤ x.f1 ∧ x.f1 ≤ 50) := by
  unfold okBook at h
  simp only [Bool.and_eq_true, decide_eq_true_eq, List.all_eq_true] at h
  obtain ⟨⟨⟨⟨⟨⟨a1, a2⟩, a3, a4⟩, a5⟩, a6⟩, a7⟩, a8⟩ := h
  refine ⟨a1, a2, a4, a3, a5, fun x hx => ?_, fun x hx => ?_⟩
  · have := a7 x hx
    unfold okDay at this
    simp only [Bool.and_eq_true, decide_eq_true_eq] at this
    obtain ⟨⟨b1, b2, b3, b4⟩, b5, b6⟩ := this
    exact ⟨b1, b2, b3, by omega, by omega, b6⟩
  · have := a6 x hx
    unfold okLayer at this
    simp only [Bool.and_eq_true, decide_eq_true_eq] at this
    exact ⟨this.1.1, this.1.2, this.2.1, this.2.2⟩
theorem check_calls (A0 A1 A2 : Option Addr) (c0 c1 c2 : Nat) (l0 : List S92) (l1 : List S90) (l2 : List S43) (w : World) (hr0 : Kd.C k92 w A0 l0.length l0) (hc0 : l0.length ≤ c0) (hr1 : Kd.C k90 w A1 l1.length l1) (hc1 : l1.length ≤ c1) (hr2 : Kd.C k43 w A2 l2.length l2) (hc2 : l2.length ≤ c2) (h0 : (l0.length : Int) ≤ 9223372036854775807) (h1 : (l1.length : Int) ≤ 9223372036854775807) (h2 : (l2.length : Int) ≤ 9223372036854775807) :
    Calls Tryd.prog 19 #[.agg #[.slice A0 l0.length c0, .slice A1 l1.length c1, .slice A2 l2.length c2]] w fun e w' => e = .returned (.int .i64 (if okBook l0 l1 l2 then 0 else 70)) ∧ Below w.heap.size w w' :=
  roll_Check.calls _ A0 c0 l0 A1 c1 l1 A2 c2 l2 _ w hr0 hc0 hr1 hc1 hr2 hc2 (check_law l0 l1 l2 h0 h1 h2)
/-- What 'asked' answers. -/
def askCode (ls : List S92) (ds : List S90) (ks : List S43) (is : Bool) : Int := if okBook ls ds ks then (if is then (if (truthsAll ls ds ks []).length = 0 then 72 else 0) else 71) else 70
set_option maxHeartbeats 2000000 in
set_option maxRecDepth 100000 in
theorem asked_calls (A0 A1 A2 : Option Addr) (c0 c1 c2 : Nat) (l0 : List S92) (l1 : List S90) (l2 : List S43) (w : World) (hG : GOK w) (hr0 : Kd.C k92 w A0 l0.length l0) (hc0 : l0.length ≤ c0) (hr1 : Kd.C k90 w A1 l1.length l1) (hc1 : l1.length ≤ c1) (hr2 : Kd.C k43 w A2 l2.length l2) (hc2 : l2.length ≤ c2) (h0 : (l0.length : Int) ≤ 9223372036854775807) (h1 : (l1.length : Int) ≤ 9223372036854775807) (h2 : (l2.length : Int) ≤ 9223372036854775807) (is : Bool) :
    Calls Tryd.prog 80 #[.agg #[.slice A0 l0.length c0, .slice A1 l1.length c1, .slice A2 l2.length c2], .bool is] w fun e w' => (∃ B0 n0 d0 B1 n1 d1 B2 n2 d2 mp B3 n3 d3, e = .returned (.tuple #[.agg #[.slice B0 n0 d0, .slice B1 n1 d1, .slice B2 n2 d2, .map mp, .slice B3 n3 d3], .int .i64 (askCode l0 l1 l2 is)]) ∧
      (askCode l0 l1 l2 is = 0 → B0 = A0 ∧ n0 = l0.length ∧ d0 = c0 ∧ B1 = A1 ∧ n1 = l1.length ∧ d1 = c1 ∧ B2 = A2 ∧ n2 = l2.length ∧ d2 = c2 ∧ n3 = (truthsAll l0 l1 l2 []).length ∧ w'.ownsRow w.heap.size 123 60 (.slice B3 n3 d3) (truthsAll l0 l1 l2 []).length ((truthsAll l0 l1 l2 []).flatMap encI) ∧ ∃ m, mp = some m ∧ w.heap.size ≤ m ∧ w'.heap[m]? = some (.map (bareMap l0.length).toArray l0.length))) ∧ Below w.heap.size w w' := by
  have HC := Lib.hid (check_calls A0 A1 A2 c0 c1 c2 l0 l1 l2)
  have HG := Lib.hid hG
  have H0 := Lib.hid hr0
  have H1 := Lib.hid hr1
  have H2 := Lib.hid hr2
  clear hG hr0 hr1 hr2
  obtain ⟨ok, hok⟩ : ∃ b, b = okBook l0 l1 l2 := ⟨_, rfl⟩
  have HOK := Lib.hid hok
  have HCC : ∀ W, Below w.heap.size w W → Calls Tryd.prog 19 #[.agg #[.slice A0 l0.length c0, .slice A1 l1.length c1, .slice A2 l2.length c2]] W fun e w' => e = .returned (.int .i64 (if ok then 0 else 70)) ∧ Below W.heap.size W w' := by
    intro W hW
    rw [hok]
    exact HC.out W (Kd.C_below H0.out hW) hc0 (Kd.C_below H1.out hW) hc1 (Kd.C_below H2.out hW) hc2 h0 h1 h2
  clear hok
  unfold askCode
  rw [← HOK.out]
  cases ok
  · simp only [Bool.false_eq_true, if_false] at HCC ⊢
    go_enter Tryd.func80, Tryd.ntmps80
    go_wp2_with (go_at_call 19; refine (HCC _ ?hw).mono ?_; (case hw => exact by repeat (first | exact Below.refl _ _ | refine Below.alloc ?_ (by simp <;> omega) _ | refine Below.setCell ?_ (by simp <;> omega) _ | apply Below.drew)); rintro e w1 ⟨rfl, hB1⟩; have k2 : w1.heap[w.heap.size]? = some (.cells #[.slice A0 l0.length c0, .slice A1 l1.length c1, .slice A2 l2.length c2] 26 (0, 0)) := blk_below (blk_alloc (blk_new w _) _) hB1; have k4 : w1.heap[w.heap.size + 1]? = some (.cells #[.slice none 0 0, .slice none 0 0, .slice none 0 0, .map none, .slice none 0 0] 107 (0, 0)) := blk_below (blk_at (w.alloc _) _ _ (by simp)) hB1; have k20 := (blk_cell k2 0).trans rfl; have k21 := (blk_cell k2 1).trans rfl; have k22 := (blk_cell k2 2).trans rfl; have k40 := (blk_cell k4 0).trans rfl; have f40 := blk_frozen k4 0; have k41 := (blk_cell k4 1).trans rfl; have f41 := blk_frozen k4 1; have k42 := (blk_cell k4 2).trans rfl; have f42 := blk_frozen k4 2; have k43 := (blk_cell k4 3).trans rfl; have f43 := blk_frozen k4 3; have k44 := (blk_cell k4 4).trans rfl; have f44 := blk_frozen k4 4; have lk2 := blk_lt k2; have lk4 := blk_lt k4; have K4 := Lib.hid k4; have HB1 := Lib.hid hB1; clear k2 k4 hB1)
    have hz := blk_put (blk_set (blk_set (blk_set (blk_set K4.out 0 (.slice none 0 0)) 1 (.slice none 0 0)) 2 (.slice none 0 0)) 3 (.map none)) 4 (.slice none 0 0) rfl
    have hb : Below w.heap.size w _ := (((((((((Below.refl w.heap.size w).alloc (Nat.le_refl _) _).alloc (by simp) _).trans (below_weaken HB1.out (by simp; omega))).setCell (p := ⟨w.heap.size + 1, 0, none⟩) (by simp) (.slice none 0 0)).setCell (p := ⟨w.heap.size + 1, 1, none⟩) (by simp) (.slice none 0 0)).setCell (p := ⟨w.heap.size + 1, 2, none⟩) (by simp) (.slice none 0 0)).setCell (p := ⟨w.heap.size + 1, 3, none⟩) (by simp) (.map none)).setCell (p := ⟨w.heap.size + 1, 4, none⟩) (by simp) (.slice none 0 0))
    refine bodyPost_ret (results_ct rfl _ _ (w.heap.size + 1) 107 #[.slice none 0 0, .slice none 0 0, .slice none 0 0, .map none, .slice none 0 0] (0, 0) _ rfl hz Tryd.underlying107 rfl (by kernel_rfl)) rfl ⟨⟨none, 0, 0, none, 0, 0, none, 0, 0, none, none, 0, 0, rfl, fun h => absurd h (by decide)⟩, hb⟩
  · simp only [if_true] at HCC ⊢
    cases is
    · simp only [Bool.false_eq_true, if_false]
      go_enter Tryd.func80, Tryd.ntmps80
      go_wp2_with (go_at_call 19; refine (HCC _ ?hw).mono ?_; (case hw => exact by repeat (first | exact Below.refl _ _ | refine Below.alloc ?_ (by simp <;> omega) _ | refine Below.setCell ?_ (by simp <;> omega) _ | apply Below.drew)); rintro e w1 ⟨rfl, hB1⟩; have k2 : w1.heap[w.heap.size]? = some (.cells #[.slice A0 l0.length c0, .slice A1 l1.length c1, .slice A2 l2.length c2] 26 (0, 0)) := blk_below (blk_alloc (blk_new w _) _) hB1; have k4 : w1.heap[w.heap.size + 1]? = some (.cells #[.slice none 0 0, .slice none 0 0, .slice none 0 0, .map none, .slice none 0 0] 107 (0, 0)) := blk_below (blk_at (w.alloc _) _ _ (by simp)) hB1; have k20 := (blk_cell k2 0).trans rfl; have k21 := (blk_cell k2 1).trans rfl; have k22 := (blk_cell k2 2).trans rfl; have k40 := (blk_cell k4 0).trans rfl; have f40 := blk_frozen k4 0; have k41 := (blk_cell k4 1).trans rfl; have f41 := blk_frozen k4 1; have k42 := (blk_cell k4 2).trans rfl; have f42 := blk_frozen k4 2; have k43 := (blk_cell k4 3).trans rfl; have f43 := blk_frozen k4 3; have k44 := (blk_cell k4 4).trans rfl; have f44 := blk_frozen k4 4; have lk2 := blk_lt k2; have lk4 := blk_lt k4; have K4 := Lib.hid k4; have HB1 := Lib.hid hB1; clear k2 k4 hB1)
      have hz := blk_put (blk_set (blk_set (blk_set (blk_set K4.out 0 (.slice none 0 0)) 1 (.slice none 0 0)) 2 (.slice none 0 0)) 3 (.map none)) 4 (.slice none 0 0) rfl
      have hb : Below w.heap.size w _ := (((((((((Below.refl w.heap.size w).alloc (Nat.le_refl _) _).alloc (by simp) _).trans (below_weaken HB1.out (by simp; omega))).setCell (p := ⟨w.heap.size + 1, 0, none⟩) (by simp) (.slice none 0 0)).setCell (p := ⟨w.heap.size + 1, 1, none⟩) (by simp) (.slice none 0 0)).setCell (p := ⟨w.heap.size + 1, 2, none⟩) (by simp) (.slice none 0 0)).setCell (p := ⟨w.heap.size + 1, 3, none⟩) (by simp) (.map none)).setCell (p := ⟨w.heap.size + 1, 4, none⟩) (by simp) (.slice none 0 0))
      refine bodyPost_ret (results_ct rfl _ _ (w.heap.size + 1) 107 #[.slice none 0 0, .slice none 0 0, .slice none 0 0, .map none, .slice none 0 0] (0, 0) _ rfl hz Tryd.underlying107 rfl (by kernel_rfl)) rfl ⟨⟨none, 0, 0, none, 0, 0, none, 0, 0, none, none, 0, 0, rfl, fun h => absurd h (by decide)⟩, hb⟩
    · simp only [if_true]
      obtain ⟨o1, o2, o3, o4, o5, o6, _⟩ := ok_facts HOK.out.symm
      have HOP : ∀ W, Below w.heap.size w W → Calls Tryd.prog 75 #[.agg #[.slice A0 l0.length c0, .slice A1 l1.length c1, .slice A2 l2.length c2], .slice none 0 0] W fun e W' => ∃ At ct m, e = .returned (.agg #[.slice A0 l0.length c0, .slice A1 l1.length c1, .slice A2 l2.length c2, .map (some m), .slice At (truthsAll l0 l1 l2 []).length ct]) ∧ W'.ownsRow W.heap.size 123 60 (.slice At (truthsAll l0 l1 l2 []).length ct) (truthsAll l0 l1 l2 []).length ((truthsAll l0 l1 l2 []).flatMap encI) ∧ W.heap.size ≤ m ∧ W'.heap[m]? = some (.map (bareMap l0.length).toArray l0.length) ∧ Below W.heap.size W W' := fun W hW =>
        opened_calls A0 A1 A2 none c0 c1 c2 0 l0 l1 l2 [] W (HG.out.below hW) (row92 (Kd.C_below H0.out hW)) (row90 (Kd.C_below H1.out hW)) (row43 (Kd.C_below H2.out hW)) (.inl rfl) hc0 hc2 (by simp) o1 o2 o3 (by omega) (by simp) o6
      have HP := Lib.hid HOP
      clear HOP o6 o1 o2 o3 o4 o5
      obtain ⟨tl, htl⟩ : ∃ n, n = (truthsAll l0 l1 l2 []).length := ⟨_, rfl⟩
      have HTL := Lib.hid htl
      clear htl
      by_cases ht : (truthsAll l0 l1 l2 []).length = 0
      · rw [if_pos ht]
        have hti : (((truthsAll l0 l1 l2 []).length : Int) == 0) = true := beq_iff_eq.2 (by omega)
        clear ht
        go_enter Tryd.func80, Tryd.ntmps80
        go_wp2_with (first | (go_at_call 19; refine (HCC _ ?hw).mono ?_; (case hw => exact by repeat (first | exact Below.refl _ _ | refine Below.alloc ?_ (by simp <;> omega) _ | refine Below.setCell ?_ (by simp <;> omega) _ | apply Below.drew)); rintro e w1 ⟨rfl, hB1⟩; have k2 : w1.heap[w.heap.size]? = some (.cells #[.slice A0 l0.length c0, .slice A1 l1.length c1, .slice A2 l2.length c2] 26 (0, 0)) := blk_below (blk_alloc (blk_new w _) _) hB1; have k4 : w1.heap[w.heap.size + 1]? = some (.cells #[.slice none 0 0, .slice none 0 0, .slice none 0 0, .map none, .slice none 0 0] 107 (0, 0)) := blk_below (blk_at (w.alloc _) _ _ (by simp)) hB1; have k20 := (blk_cell k2 0).trans rfl; have k21 := (blk_cell k2 1).trans rfl; have k22 := (blk_cell k2 2).trans rfl; have k40 := (blk_cell k4 0).trans rfl; have f40 := blk_frozen k4 0; have k41 := (blk_cell k4 1).trans rfl; have f41 := blk_frozen k4 1; have k42 := (blk_cell k4 2).trans rfl; have f42 := blk_frozen k4 2; have k43 := (blk_cell k4 3).trans rfl; have f43 := blk_frozen k4 3; have k44 := (blk_cell k4 4).trans rfl; have f44 := blk_frozen k4 4; have lk2 := blk_lt k2; have lk4 := blk_lt k4; have K4 := Lib.hid k4; have HB1 := Lib.hid hB1; clear k2 k4 hB1) | (go_at_call 75; refine (HP.out _ ?hw).mono ?_; (case hw => exact ((((Below.refl w.heap.size w).alloc (Nat.le_refl _) _).alloc (by simp) _).trans (below_weaken HB1.out (by simp; omega)))); rintro e w3 ⟨At, ct, m, rfl, hF, hmw, hm, hB3⟩; have k4 := blk_below K4.out hB3; have HB3 := Lib.hid hB3; clear k40 k41 k42 k43 k44 f40 f41 f42 f43 f44; have k40 := (blk_cell k4 0).trans rfl; have f40 := blk_frozen k4 0; have k41 := (blk_cell k4 1).trans rfl; have f41 := blk_frozen k4 1; have k42 := (blk_cell k4 2).trans rfl; have f42 := blk_frozen k4 2; have k43 := (blk_cell k4 3).trans rfl; have f43 := blk_frozen k4 3; have k44 := (blk_cell k4 4).trans rfl; have f44 := blk_frozen k4 4; have l43 := blk_lt k4; have K43 := Lib.hid k4; have HF := Lib.hid hF; have HM := Lib.hid hm; clear k4 hB3 hF hm))
        have hz := blk_alloc (blk_put (blk_set (blk_set (blk_set (blk_set K43.out 0 (.slice A0 l0.length c0)) 1 (.slice A1 l1.length c1)) 2 (.slice A2 l2.length c2)) 3 (.map (some m))) 4 (.slice At (truthsAll l0 l1 l2 []).length ct) rfl) (.cells #[.slice A0 l0.length c0, .slice A1 l1.length c1, .slice A2 l2.length c2, .map (some m), .slice At (truthsAll l0 l1 l2 []).length ct] 107)
        have hb1 : Below w.heap.size w w1 := (((Below.refl w.heap.size w).alloc (Nat.le_refl _) _).alloc (by simp) _).trans (below_weaken HB1.out (by simp; omega))
        have hb3 : Below w.heap.size w w3 := hb1.trans (below_weaken HB3.out hb1.size)
        have hch := (((((Chg.cell (S := fun k => k = w.heap.size + 1) w3 (w.heap.size + 1) 0 (.slice A0 l0.length c0) rfl).trans (Chg.cell _ (w.heap.size + 1) 1 (.slice A1 l1.length c1) rfl)).trans (Chg.cell _ (w.heap.size + 1) 2 (.slice A2 l2.length c2) rfl)).trans (Chg.cell _ (w.heap.size + 1) 3 (.map (some m)) rfl)).trans (Chg.cell _ (w.heap.size + 1) 4 (.slice At (truthsAll l0 l1 l2 []).length ct) rfl)).alloc (.cells #[.slice A0 l0.length c0, .slice A1 l1.length c1, .slice A2 l2.length c2, .map (some m), .slice At (truthsAll l0 l1 l2 []).length ct] 107)
        have hb : Below w.heap.size w _ := hb3.trans ⟨hch.os, hch.tape, hch.output, hch.size, fun k hk => hch.block k (Nat.lt_of_lt_of_le hk hb3.size) (by omega)⟩
        have ho := own_same HF.out fun k hk => hch.block k (own_lt HF.out k hk) (by have := own_base HF.out k hk; omega)
        have hm' := (hch.block _ (Array.getElem?_eq_some_iff.1 HM.out).1 (by omega)).trans HM.out
        refine bodyPost_ret (results_ct rfl _ _ (w.heap.size + 1) 107 #[.slice A0 l0.length c0, .slice A1 l1.length c1, .slice A2 l2.length c2, .map (some m), .slice At (truthsAll l0 l1 l2 []).length ct] (0, 0) _ rfl hz Tryd.underlying107 rfl (by kernel_rfl)) rfl ?_
        refine ⟨⟨A0, l0.length, c0, A1, l1.length, c1, A2, l2.length, c2, some m, At, (truthsAll l0 l1 l2 []).length, ct, rfl, fun _ => ?_⟩, hb⟩
        have hs1 := hb1.size
        exact ⟨rfl, rfl, rfl, rfl, rfl, rfl, rfl, rfl, rfl, rfl, own_mono ho hs1, m, rfl, Nat.le_trans hs1 hmw, hm'⟩
      · rw [if_neg ht]
        have hti : (((truthsAll l0 l1 l2 []).length : Int) == 0) = false := beq_eq_false_iff_ne.2 (by omega)
        clear ht
        go_enter Tryd.func80, Tryd.ntmps80
        go_wp2_with (first | (go_at_call 19; refine (HCC _ ?hw).mono ?_; (case hw => exact by repeat (first | exact Below.refl _ _ | refine Below.alloc ?_ (by simp <;> omega) _ | refine Below.setCell ?_ (by simp <;> omega) _ | apply Below.drew)); rintro e w1 ⟨rfl, hB1⟩; have k2 : w1.heap[w.heap.size]? = some (.cells #[.slice A0 l0.length c0, .slice A1 l1.length c1, .slice A2 l2.length c2] 26 (0, 0)) := blk_below (blk_alloc (blk_new w _) _) hB1; have k4 : w1.heap[w.heap.size + 1]? = some (.cells #[.slice none 0 0, .slice none 0 0, .slice none 0 0, .map none, .slice none 0 0] 107 (0, 0)) := blk_below (blk_at (w.alloc _) _ _ (by simp)) hB1; have k20 := (blk_cell k2 0).trans rfl; have k21 := (blk_cell k2 1).trans rfl; have k22 := (blk_cell k2 2).trans rfl; have k40 := (blk_cell k4 0).trans rfl; have f40 := blk_frozen k4 0; have k41 := (blk_cell k4 1).trans rfl; have f41 := blk_frozen k4 1; have k42 := (blk_cell k4 2).trans rfl; have f42 := blk_frozen k4 2; have k43 := (blk_cell k4 3).trans rfl; have f43 := blk_frozen k4 3; have k44 := (blk_cell k4 4).trans rfl; have f44 := blk_frozen k4 4; have lk2 := blk_lt k2; have lk4 := blk_lt k4; have K4 := Lib.hid k4; have HB1 := Lib.hid hB1; clear k2 k4 hB1) | (go_at_call 75; refine (HP.out _ ?hw).mono ?_; (case hw => exact ((((Below.refl w.heap.size w).alloc (Nat.le_refl _) _).alloc (by simp) _).trans (below_weaken HB1.out (by simp; omega)))); rintro e w3 ⟨At, ct, m, rfl, hF, hmw, hm, hB3⟩; have k4 := blk_below K4.out hB3; have HB3 := Lib.hid hB3; clear k40 k41 k42 k43 k44 f40 f41 f42 f43 f44; have k40 := (blk_cell k4 0).trans rfl; have f40 := blk_frozen k4 0; have k41 := (blk_cell k4 1).trans rfl; have f41 := blk_frozen k4 1; have k42 := (blk_cell k4 2).trans rfl; have f42 := blk_frozen k4 2; have k43 := (blk_cell k4 3).trans rfl; have f43 := blk_frozen k4 3; have k44 := (blk_cell k4 4).trans rfl; have f44 := blk_frozen k4 4; have l43 := blk_lt k4; have K43 := Lib.hid k4; have HF := Lib.hid hF; have HM := Lib.hid hm; clear k4 hB3 hF hm))
        have hz := blk_alloc (blk_put (blk_set (blk_set (blk_set (blk_set K43.out 0 (.slice A0 l0.length c0)) 1 (.slice A1 l1.length c1)) 2 (.slice A2 l2.length c2)) 3 (.map (some m))) 4 (.slice At (truthsAll l0 l1 l2 []).length ct) rfl) (.cells #[.slice A0 l0.length c0, .slice A1 l1.length c1, .slice A2 l2.length c2, .map (some m), .slice At (truthsAll l0 l1 l2 []).length ct] 107)
        have hb1 : Below w.heap.size w w1 := (((Below.refl w.heap.size w).alloc (Nat.le_refl _) _).alloc (by simp) _).trans (below_weaken HB1.out (by simp; omega))
        have hb3 : Below w.heap.size w w3 := hb1.trans (below_weaken HB3.out hb1.size)
        have hch := (((((Chg.cell (S := fun k => k = w.heap.size + 1) w3 (w.heap.size + 1) 0 (.slice A0 l0.length c0) rfl).trans (Chg.cell _ (w.heap.size + 1) 1 (.slice A1 l1.length c1) rfl)).trans (Chg.cell _ (w.heap.size + 1) 2 (.slice A2 l2.length c2) rfl)).trans (Chg.cell _ (w.heap.size + 1) 3 (.map (some m)) rfl)).trans (Chg.cell _ (w.heap.size + 1) 4 (.slice At (truthsAll l0 l1 l2 []).length ct) rfl)).alloc (.cells #[.slice A0 l0.length c0, .slice A1 l1.length c1, .slice A2 l2.length c2, .map (some m), .slice At (truthsAll l0 l1 l2 []).length ct] 107)
        have hb : Below w.heap.size w _ := hb3.trans ⟨hch.os, hch.tape, hch.output, hch.size, fun k hk => hch.block k (Nat.lt_of_lt_of_le hk hb3.size) (by omega)⟩
        have ho := own_same HF.out fun k hk => hch.block k (own_lt HF.out k hk) (by have := own_base HF.out k hk; omega)
        have hm' := (hch.block _ (Array.getElem?_eq_some_iff.1 HM.out).1 (by omega)).trans HM.out
        refine bodyPost_ret (results_ct rfl _ _ (w.heap.size + 1) 107 #[.slice A0 l0.length c0, .slice A1 l1.length c1, .slice A2 l2.length c2, .map (some m), .slice At (truthsAll l0 l1 l2 []).length ct] (0, 0) _ rfl hz Tryd.underlying107 rfl (by kernel_rfl)) rfl ?_
        refine ⟨⟨A0, l0.length, c0, A1, l1.length, c1, A2, l2.length, c2, some m, At, (truthsAll l0 l1 l2 []).length, ct, rfl, fun _ => ?_⟩, hb⟩
        have hs1 := hb1.size
        exact ⟨rfl, rfl, rfl, rfl, rfl, rfl, rfl, rfl, rfl, rfl, own_mono ho hs1, m, rfl, Nat.le_trans hs1 hmw, hm'⟩
end Go.Proofs.YthgjedagbgmgmaaDoor.Pr
namespace Go.Proofs.YthgjedagbgmgmaaDoor.Pr
open Go.RowKit Go.Proofs.YthgjedagbgmgmaaDoorW.PrintWords Go.Proofs.YthgjedagbgmgmaaDoorW.PrintLast Go.Proofs.YthgjedagbgmgmaaDoorW.PrintMore
set_option linter.unusedVariables false
set_option linter.unusedSimpArgs false
attribute [local go_sem] max2_int min2_int max_two min_two
theorem gate_dst {P : Program} {ops : Array Oper} {Q : Exit → Act → World → Prop} {o : Oper} {rest : List Oper} {a : Act} {W : World} {N : Tmp} (_hN : o.dst = some N) (h : wpList P ops Q (o :: rest) a W) : wpList P ops Q (o :: rest) a W := h
theorem gate_store {P : Program} {ops : Array Oper} {Q : Exit → Act → World → Prop} {o : Oper} {rest : List Oper} {a : Act} {W : World} {t : TypeId} {p : Tmp} {v : Operand} (_ho : o.op = .store t (.tmp p) v) (h : wpList P ops Q (o :: rest) a W) : wpList P ops Q (o :: rest) a W := h
theorem goesLV_ {P : Program} {ops : Array Oper} {Q : Exit → Act → World → Prop} {rest : List Oper} {oi : Oper} {a : Act} {w : World} (N : Option Tmp) (hd : oi.dst = N) (hg : oi.guard = none) {f : FuncId} {fn : Func} {x : Operand} {as_ : Array Operand} {ts : Array TypeId} (hf : P.funcs[f]? = some fn) (hname : (fn.name == "runtime.NumGoroutine") = false) (hb : fn.body.isSome = true) (args first cap : Array Value)
    (hop : oi.op = .call { callee := .value x, args := as_, argTypes := ts }) (hx : a.eval x = .func (.func f) first cap) (hargs : first ++ as_.map a.eval ++ cap = args)
    (h : Calls P f args w fun e w' => ∃ v, e = .returned v ∧ wpList P ops Q rest (a.put N v) w') : wpList P ops Q (oi :: rest) a w := by
  refine wpList_plain hg fun K hK => ?_
  have he := enters_ hf hname hb args w
  have hrun : (execOp a.eval oi).run P w = .ok (.enter f args) w := by
    unfold execOp
    simp [hop, resolve, Deferred.ofValue, invoke, hx, hargs, he]
  unfold Oper.wp
  rw [hrun, Oper.upon_enter]
  refine h.mono fun e w'' hh => ?_
  obtain ⟨v, rfl, hk⟩ := hh
  subst hd
  exact hK _ _ hk
/-- The least and the greatest of f over all truths, from a on. -/
def spanF (f : List Int → Int) (T : List (List Int)) (a : Int) : Int × Int := T.foldl (fun s t => (min s.1 (f t), max s.2 (f t))) (a, a)
set_option maxHeartbeats 4000000 in
set_option maxRecDepth 100000 in
theorem span_any (NN : FuncId) (fn : Func) (hfn : Tryd.prog.funcs[NN]? = some fn) (hname : (fn.name == "runtime.NumGoroutine") = false) (hbody : fn.body.isSome = true) (caps : Array Value) (A0 A1 A2 At : Option Addr) (n0 c0 n1 c1 n2 c2 ct : Nat) (mp : Option Nat) (T : List (List Int)) (f : List Int → Int) (w : World) (hT : FRow encI 60 w At T) (h60 : ∀ t ∈ T, t.length = 60) (hne : 0 < T.length) (hct : T.length ≤ ct) (hct2 : T.length ≤ 10000)
    (hF : ∀ W, Below w.heap.size w W → ∀ t ∈ T, Calls Tryd.prog NN (#[.agg (encI t).toArray] ++ caps) W fun e w' => e = .returned (.int .i64 (f t)) ∧ Below W.heap.size W w') :
    Calls Tryd.prog 82 #[.agg #[.slice A0 n0 c0, .slice A1 n1 c1, .slice A2 n2 c2, .map mp, .slice At T.length ct], .func (.func NN) #[] caps] w fun e w' => e = .returned (.agg #[.int .i64 (spanF f T (f (T.headD []))).1, .int .i64 (spanF f T (f (T.headD []))).2]) ∧ Below w.heap.size w w' := by
  obtain ⟨b, o, rfl, hb, hc⟩ : ∃ b o, At = some ⟨b, o, none⟩ ∧ b < w.heap.size ∧ ∀ i x, T[i]? = some x → w.rangeAt b (o + i * 60) (encI x) := by
    rcases hT with h | h
    · rw [h] at hne; simp at hne
    · exact h
  have HC : ∀ W, Below w.heap.size w W → ∀ i x, T[i]? = some x → W.rangeAt b (o + i * 60) (encI x) := fun W hW i x hx j v hj => (hW.cell (p := ⟨b, o + i * 60 + j, none⟩) hb).trans (hc i x hx j v hj)
  have H := Lib.hid HC
  have HF := Lib.hid hF
  have H60 := Lib.hid h60
  clear HC hc hF h60 hT
  obtain ⟨x0, hx0⟩ : ∃ x, T[0]? = some x := ⟨_, List.getElem?_eq_getElem hne⟩
  have hm0 : x0 ∈ T := List.mem_of_getElem? hx0
  have hl0 := H60.out x0 hm0
  have hd0 : T.headD [] = x0 := by
    cases T with
    | nil => simp at hne
    | cons a t => simpa using hx0
  rw [hd0]
  have HX0 := Lib.hid hx0
  have HL0 := Lib.hid hl0
  have HM0 := Lib.hid hm0
  clear hx0 hd0 hl0 hm0
  have hneI : (0 : Int) < (T.length : Int) := by omega
  have B2 : Below w.heap.size w ((w.alloc (.cells #[.slice A0 n0 c0, .slice A1 n1 c1, .slice A2 n2 c2, .map mp, .slice (some ⟨b, o, none⟩) T.length ct] 107)).alloc (.cells #[.int .i64 0, .int .i64 0] 32)) := by repeat (first | exact Below.refl _ _ | refine Below.alloc ?_ (by simp <;> omega) _ | refine Below.setCell ?_ (by simp <;> omega) _ | apply Below.drew)
  have HR0 := Lib.hid (H.out _ B2 0 x0 HX0.out)
  have HB2 := Lib.hid B2
  clear B2
  obtain ⟨y0, hy0⟩ : ∃ y, y = f x0 := ⟨_, rfl⟩
  rw [← hy0]
  have HF0 : ∀ W, Below w.heap.size w W → Calls Tryd.prog NN (#[.agg (encI x0).toArray] ++ caps) W fun e w' => e = .returned (.int .i64 y0) ∧ Below W.heap.size W w' := by
    intro W hW
    rw [hy0]
    exact HF.out W hW x0 HM0.out
  have HFY := Lib.hid HF0
  clear HF0 hy0
  go_enter Tryd.func82, Tryd.ntmps82
  go_wp2_with (first
    | (with_reducible refine gate_dst (N := 14) rfl ?_; refine wpList_load_mid rfl 123 (.tmp 13) rfl b (o + 0 * 60) rfl (encI x0) _ HR0.out Tryd.underlying123 rfl (by rw [encI_length, HL0.out]; kernel_rfl) ?_)
    | ((with_reducible refine gate_dst (N := 15) rfl ?_); refine goesLV_ (some 15) rfl rfl hfn hname hbody (#[.agg (encI x0).toArray] ++ caps) #[] caps rfl rfl (congrArg (fun z : Array Value => z ++ caps) (by simp only [Array.empty_append, List.map_toArray, List.map_cons, List.map_nil]; rfl)) ?_; refine (HFY.out _ HB2.out).mono ?_; rintro e w1 ⟨rfl, hB1⟩; refine ⟨_, rfl, ?_⟩; have k2 : w1.heap[w.heap.size]? = some (.cells #[.slice A0 n0 c0, .slice A1 n1 c1, .slice A2 n2 c2, .map mp, .slice (some ⟨b, o, none⟩) T.length ct] 107 (0, 0)) := blk_below (blk_alloc (blk_new w _) _) hB1; have k4 : w1.heap[w.heap.size + 1]? = some (.cells #[.int .i64 0, .int .i64 0] 32 (0, 0)) := blk_below (blk_at (w.alloc _) _ _ (by simp)) hB1; have k24 := (blk_cell k2 4).trans rfl; have lk2 := blk_lt k2; have lk4 := blk_lt k4; have K4 := Lib.hid k4; have hBw := HB2.out.trans (below_weaken hB1 (by simp; omega)); have HBW := Lib.hid hBw; clear k2 k4 hB1 hBw))
  go_loopg [22] (T.length) (fun gk v22 wr => ∃ (k : Nat) (lo hi : Int), v22 = .int .i64 k ∧ Aside0 (k + gk = T.length) ∧ Aside0 (spanF f T y0 = (T.drop k).foldl (fun s t => (min s.1 (f t), max s.2 (f t))) (lo, hi)) ∧ Aside0 (wr.heap[w1.heap.size]? = some (.cells #[.int .i64 lo, .int .i64 hi] 32 (0, 0))) ∧ Aside0 (wr.heap[w.heap.size + 1]? = some (.cells #[.int .i64 0, .int .i64 0] 32 (0, 0))) ∧ Aside0 (Below w.heap.size w wr))
  case atStart => exact ⟨0, y0, y0, rfl, ⟨by omega⟩, ⟨rfl⟩, ⟨blk_new _ _⟩, ⟨blk_alloc K4.out _⟩, ⟨HBW.out.alloc HBW.out.size _⟩⟩
  case round =>
    obtain ⟨k, lo, hi, rfl, HK, HS, HB6, HB4, HBR⟩ := hrel
    have c60 := (blk_cell HB6.out 0).trans rfl
    have c61 := (blk_cell HB6.out 1).trans rfl
    have l6 := blk_lt HB6.out
    cases gk with
    | zero =>
      have hge : ¬ k < T.length := by have := HK.out; omega
      have c40 := (blk_cell HB4.out 0).trans rfl
      have c41 := (blk_cell HB4.out 1).trans rfl
      have f40 := blk_frozen HB4.out 0
      have f41 := blk_frozen HB4.out 1
      have l4 := blk_lt HB4.out
      go_wp2
      have hz := blk_put (blk_set HB4.out 0 (.int .i64 lo)) 1 (.int .i64 hi) rfl
      refine bodyPost_ret (results_cell_row rfl _ _ (w.heap.size + 1) 32 #[.int .i64 lo, .int .i64 hi] (0, 0) _ rfl hz Tryd.underlying32 rfl (by kernel_rfl)) rfl ⟨?_, (HBR.out.setCell (p := ⟨w.heap.size + 1, 0, none⟩) (by simp) _).setCell (p := ⟨w.heap.size + 1, 1, none⟩) (by simp) _⟩
      rw [HS.out, List.drop_of_length_le (by omega)]
      rfl
    | succ g1 =>
      have hlt : k < T.length := by have := HK.out; omega
      obtain ⟨x, hx⟩ : ∃ x, T[k]? = some x := ⟨_, List.getElem?_eq_getElem hlt⟩
      have hxm : x ∈ T := List.mem_of_getElem? hx
      have hx60 := H60.out x hxm
      have hdr : T.drop k = x :: T.drop (k + 1) := by
        rw [List.drop_eq_getElem_cons hlt]
        rw [List.getElem?_eq_getElem hlt] at hx
        rw [Option.some.inj hx]
      have HRK := Lib.hid (H.out _ (HBR.out.alloc HBR.out.size (.cells #[.int .i64 0, .int .i64 0, .int .i64 0, .int .i64 0, .int .i64 0, .int .i64 0, .int .i64 0, .int .i64 0, .int .i64 0, .int .i64 0, .int .i64 0, .int .i64 0, .int .i64 0, .int .i64 0, .int .i64 0, .int .i64 0, .int .i64 0, .int .i64 0, .int .i64 0, .int .i64 0, .int .i64 0, .int .i64 0, .int .i64 0, .int .i64 0, .int .i64 0, .int .i64 0, .int .i64 0, .int .i64 0, .int .i64 0, .int .i64 0, .int .i64 0, .int .i64 0, .int .i64 0, .int .i64 0, .int .i64 0, .int .i64 0, .int .i64 0, .int .i64 0, .int .i64 0, .int .i64 0, .int .i64 0, .int .i64 0, .int .i64 0, .int .i64 0, .int .i64 0, .int .i64 0, .int .i64 0, .int .i64 0, .int .i64 0, .int .i64 0, .int .i64 0, .int .i64 0, .int .i64 0, .int .i64 0, .int .i64 0, .int .i64 0, .int .i64 0, .int .i64 0, .int .i64 0, .int .i64 0] 123)) k x hx)
      have HRK0 := Lib.hid (H.out _ HBR.out k x hx)
      have HX60 := Lib.hid hx60
      have HDR := Lib.hid hdr
      obtain ⟨y, hy⟩ : ∃ y, y = f x := ⟨_, rfl⟩
      have HF0 : ∀ W, Below w.heap.size w W → Calls Tryd.prog NN (#[.agg (encI x).toArray] ++ caps) W fun e w' => e = .returned (.int .i64 y) ∧ Below W.heap.size W w' := by
        intro W hW
        rw [hy]
        exact HF.out W hW x hxm
      have HFX := Lib.hid HF0
      have HY := Lib.hid hy
      have hz6 : (wr.alloc (.cells #[.int .i64 0, .int .i64 0, .int .i64 0, .int .i64 0, .int .i64 0, .int .i64 0, .int .i64 0, .int .i64 0, .int .i64 0, .int .i64 0, .int .i64 0, .int .i64 0, .int .i64 0, .int .i64 0, .int .i64 0, .int .i64 0, .int .i64 0, .int .i64 0, .int .i64 0, .int .i64 0, .int .i64 0, .int .i64 0, .int .i64 0, .int .i64 0, .int .i64 0, .int .i64 0, .int .i64 0, .int .i64 0, .int .i64 0, .int .i64 0, .int .i64 0, .int .i64 0, .int .i64 0, .int .i64 0, .int .i64 0, .int .i64 0, .int .i64 0, .int .i64 0, .int .i64 0, .int .i64 0, .int .i64 0, .int .i64 0, .int .i64 0, .int .i64 0, .int .i64 0, .int .i64 0, .int .i64 0, .int .i64 0, .int .i64 0, .int .i64 0, .int .i64 0, .int .i64 0, .int .i64 0, .int .i64 0, .int .i64 0, .int .i64 0, .int .i64 0, .int .i64 0, .int .i64 0, .int .i64 0] 123)).heap[wr.heap.size]? = some (.cells (encI t00).toArray 123 (0, 0)) := by rw [t00_enc]; exact blk_new _ _
      have HZ6 := Lib.hid hz6
      clear HF0 hy hx hxm hx60 hdr hz6
      go_wp2_with (first
        | (with_reducible refine gate_dst (N := 25) rfl ?_; refine wpList_load_mid rfl 123 (.tmp 24) rfl b (o + k * 60) rfl (encI x) _ HRK0.out Tryd.underlying123 rfl (by rw [encI_length, HX60.out]; kernel_rfl) ?_)
        | ((with_reducible refine gate_store (t := 123) (p := 8) (v := .tmp 25) rfl ?_); refine store_blk rfl 123 (.tmp 8) (.tmp 25) rfl rfl wr.heap.size 0 (encI t00) (encI x) 123 rfl rfl HZ6.out (by simp [encI_length, HX60.out, t00]) (by rw [encI_length, HX60.out]; kernel_rfl) (encI_one x) ?_; intro W8 h8 hg8 hs8; have H8 := Lib.hid (blk_whole h8 (by simp [encI_length, HX60.out, t00])); have HB8 := Lib.hid ((HBR.out.alloc HBR.out.size (.cells #[.int .i64 0, .int .i64 0, .int .i64 0, .int .i64 0, .int .i64 0, .int .i64 0, .int .i64 0, .int .i64 0, .int .i64 0, .int .i64 0, .int .i64 0, .int .i64 0, .int .i64 0, .int .i64 0, .int .i64 0, .int .i64 0, .int .i64 0, .int .i64 0, .int .i64 0, .int .i64 0, .int .i64 0, .int .i64 0, .int .i64 0, .int .i64 0, .int .i64 0, .int .i64 0, .int .i64 0, .int .i64 0, .int .i64 0, .int .i64 0, .int .i64 0, .int .i64 0, .int .i64 0, .int .i64 0, .int .i64 0, .int .i64 0, .int .i64 0, .int .i64 0, .int .i64 0, .int .i64 0, .int .i64 0, .int .i64 0, .int .i64 0, .int .i64 0, .int .i64 0, .int .i64 0, .int .i64 0, .int .i64 0, .int .i64 0, .int .i64 0, .int .i64 0, .int .i64 0, .int .i64 0, .int .i64 0, .int .i64 0, .int .i64 0, .int .i64 0, .int .i64 0, .int .i64 0, .int .i64 0] 123)).grown hg8 (by have := HBR.out.size; simp; omega) (fun j ej => by have := HBR.out.size; simp at ej; omega)); have H68 := Lib.hid ((hg8.block _ (blk_lt (blk_alloc HB6.out (.cells #[.int .i64 0, .int .i64 0, .int .i64 0, .int .i64 0, .int .i64 0, .int .i64 0, .int .i64 0, .int .i64 0, .int .i64 0, .int .i64 0, .int .i64 0, .int .i64 0, .int .i64 0, .int .i64 0, .int .i64 0, .int .i64 0, .int .i64 0, .int .i64 0, .int .i64 0, .int .i64 0, .int .i64 0, .int .i64 0, .int .i64 0, .int .i64 0, .int .i64 0, .int .i64 0, .int .i64 0, .int .i64 0, .int .i64 0, .int .i64 0, .int .i64 0, .int .i64 0, .int .i64 0, .int .i64 0, .int .i64 0, .int .i64 0, .int .i64 0, .int .i64 0, .int .i64 0, .int .i64 0, .int .i64 0, .int .i64 0, .int .i64 0, .int .i64 0, .int .i64 0, .int .i64 0, .int .i64 0, .int .i64 0, .int .i64 0, .int .i64 0, .int .i64 0, .int .i64 0, .int .i64 0, .int .i64 0, .int .i64 0, .int .i64 0, .int .i64 0, .int .i64 0, .int .i64 0, .int .i64 0] 123))) (fun e => by simp at e; omega)).trans (blk_alloc HB6.out (.cells #[.int .i64 0, .int .i64 0, .int .i64 0, .int .i64 0, .int .i64 0, .int .i64 0, .int .i64 0, .int .i64 0, .int .i64 0, .int .i64 0, .int .i64 0, .int .i64 0, .int .i64 0, .int .i64 0, .int .i64 0, .int .i64 0, .int .i64 0, .int .i64 0, .int .i64 0, .int .i64 0, .int .i64 0, .int .i64 0, .int .i64 0, .int .i64 0, .int .i64 0, .int .i64 0, .int .i64 0, .int .i64 0, .int .i64 0, .int .i64 0, .int .i64 0, .int .i64 0, .int .i64 0, .int .i64 0, .int .i64 0, .int .i64 0, .int .i64 0, .int .i64 0, .int .i64 0, .int .i64 0, .int .i64 0, .int .i64 0, .int .i64 0, .int .i64 0, .int .i64 0, .int .i64 0, .int .i64 0, .int .i64 0, .int .i64 0, .int .i64 0, .int .i64 0, .int .i64 0, .int .i64 0, .int .i64 0, .int .i64 0, .int .i64 0, .int .i64 0, .int .i64 0, .int .i64 0, .int .i64 0] 123))); have H48 := Lib.hid ((hg8.block _ (blk_lt (blk_alloc HB4.out (.cells #[.int .i64 0, .int .i64 0, .int .i64 0, .int .i64 0, .int .i64 0, .int .i64 0, .int .i64 0, .int .i64 0, .int .i64 0, .int .i64 0, .int .i64 0, .int .i64 0, .int .i64 0, .int .i64 0, .int .i64 0, .int .i64 0, .int .i64 0, .int .i64 0, .int .i64 0, .int .i64 0, .int .i64 0, .int .i64 0, .int .i64 0, .int .i64 0, .int .i64 0, .int .i64 0, .int .i64 0, .int .i64 0, .int .i64 0, .int .i64 0, .int .i64 0, .int .i64 0, .int .i64 0, .int .i64 0, .int .i64 0, .int .i64 0, .int .i64 0, .int .i64 0, .int .i64 0, .int .i64 0, .int .i64 0, .int .i64 0, .int .i64 0, .int .i64 0, .int .i64 0, .int .i64 0, .int .i64 0, .int .i64 0, .int .i64 0, .int .i64 0, .int .i64 0, .int .i64 0, .int .i64 0, .int .i64 0, .int .i64 0, .int .i64 0, .int .i64 0, .int .i64 0, .int .i64 0, .int .i64 0] 123))) (fun e => by have := HBR.out.size; have := blk_lt HB4.out; simp at e; omega)).trans (blk_alloc HB4.out (.cells #[.int .i64 0, .int .i64 0, .int .i64 0, .int .i64 0, .int .i64 0, .int .i64 0, .int .i64 0, .int .i64 0, .int .i64 0, .int .i64 0, .int .i64 0, .int .i64 0, .int .i64 0, .int .i64 0, .int .i64 0, .int .i64 0, .int .i64 0, .int .i64 0, .int .i64 0, .int .i64 0, .int .i64 0, .int .i64 0, .int .i64 0, .int .i64 0, .int .i64 0, .int .i64 0, .int .i64 0, .int .i64 0, .int .i64 0, .int .i64 0, .int .i64 0, .int .i64 0, .int .i64 0, .int .i64 0, .int .i64 0, .int .i64 0, .int .i64 0, .int .i64 0, .int .i64 0, .int .i64 0, .int .i64 0, .int .i64 0, .int .i64 0, .int .i64 0, .int .i64 0, .int .i64 0, .int .i64 0, .int .i64 0, .int .i64 0, .int .i64 0, .int .i64 0, .int .i64 0, .int .i64 0, .int .i64 0, .int .i64 0, .int .i64 0, .int .i64 0, .int .i64 0, .int .i64 0, .int .i64 0] 123))); clear h8 hg8 hs8)
        | (with_reducible refine gate_dst (N := 27) rfl ?_; refine load_blk rfl 123 (.tmp 8) rfl wr.heap.size 0 (encI x) (encI x) 123 (0, 0) _ rfl H8.out (by simp) Tryd.underlying123 rfl (by rw [encI_length, HX60.out]; kernel_rfl) ?_)
        | ((with_reducible refine gate_dst (N := 28) rfl ?_); refine goesLV_ (some 28) rfl rfl hfn hname hbody (#[.agg (encI x).toArray] ++ caps) #[] caps rfl rfl (congrArg (fun z : Array Value => z ++ caps) (by simp only [Array.empty_append, List.map_toArray, List.map_cons, List.map_nil]; rfl)) ?_; refine (HFX.out _ HB8.out).mono ?_; rintro e w5 ⟨rfl, hB5⟩; refine ⟨_, rfl, ?_⟩; have h65 := blk_below H68.out hB5; have h45 := blk_below H48.out hB5; have e0 := (blk_cell h65 0).trans rfl; have e1 := (blk_cell h65 1).trans rfl; have g0 := blk_frozen h65 0; have g1' := blk_frozen h65 1; have l65 := blk_lt h65; have H65 := Lib.hid h65; have H45 := Lib.hid h45; have HB5 := Lib.hid (HB8.out.trans (below_weaken hB5 HB8.out.size)); clear h65 h45 hB5))
      all_goals
        go_roundg g1
        case measure => omega
        case rel =>
          refine ⟨k + 1, _, _, by go_num, ⟨by have := HK.out; omega⟩, ⟨?_⟩, ⟨blk_put (blk_set H65.out 0 _) 1 _ rfl⟩, ⟨blk_far (blk_far H45.out (by simp; have := blk_lt HB4.out; omega) _) (by simp; omega) _⟩, ⟨(HB5.out.setCell (p := ⟨w1.heap.size, 0, none⟩) (by simp; omega) _).setCell (p := ⟨w1.heap.size, 1, none⟩) (by simp; omega) _⟩⟩
          rw [HS.out, HDR.out, List.foldl_cons, ← HY.out]
          have e1 : ∀ p q : Int × Int, p = q → List.foldl (fun s t => (min s.1 (f t), max s.2 (f t))) p (T.drop (k + 1)) = List.foldl (fun s t => (min s.1 (f t), max s.2 (f t))) q (T.drop (k + 1)) := fun p q h => by rw [h]
          refine e1 _ _ (Prod.ext ?_ ?_)
          · show min lo y = _
            omega
          · show max hi y = _
            omega
theorem span_83 (A0 A1 A2 At : Option Addr) (n0 c0 n1 c1 n2 c2 ct : Nat) (mp : Option Nat) (T : List (List Int)) (p0 : Value) (f : List Int → Int) (w : World) (hT : FRow encI 60 w At T) (h60 : ∀ t ∈ T, t.length = 60) (hne : 0 < T.length) (hct : T.length ≤ ct) (hct2 : T.length ≤ 10000)
    (hF : ∀ W, Below w.heap.size w W → ∀ t ∈ T, Calls Tryd.prog 83 #[.agg (encI t).toArray, p0] W fun e w' => e = .returned (.int .i64 (f t)) ∧ Below W.heap.size W w') :
    Calls Tryd.prog 82 #[.agg #[.slice A0 n0 c0, .slice A1 n1 c1, .slice A2 n2 c2, .map mp, .slice At T.length ct], .func (.func 83) #[] #[p0]] w fun e w' => e = .returned (.agg #[.int .i64 (spanF f T (f (T.headD []))).1, .int .i64 (spanF f T (f (T.headD []))).2]) ∧ Below w.heap.size w w' :=
  span_any 83 Tryd.f83 Tryd.func83 (by kernel_rfl) rfl #[p0] A0 A1 A2 At n0 c0 n1 c1 n2 c2 ct mp T f w hT h60 hne hct hct2 (fun W hW t ht => by simpa using hF W hW t ht)
theorem span_88 (A0 A1 A2 At : Option Addr) (n0 c0 n1 c1 n2 c2 ct : Nat) (mp : Option Nat) (T : List (List Int)) (p0 : Value) (f : List Int → Int) (w : World) (hT : FRow encI 60 w At T) (h60 : ∀ t ∈ T, t.length = 60) (hne : 0 < T.length) (hct : T.length ≤ ct) (hct2 : T.length ≤ 10000)
    (hF : ∀ W, Below w.heap.size w W → ∀ t ∈ T, Calls Tryd.prog 88 #[.agg (encI t).toArray, p0] W fun e w' => e = .returned (.int .i64 (f t)) ∧ Below W.heap.size W w') :
    Calls Tryd.prog 82 #[.agg #[.slice A0 n0 c0, .slice A1 n1 c1, .slice A2 n2 c2, .map mp, .slice At T.length ct], .func (.func 88) #[] #[p0]] w fun e w' => e = .returned (.agg #[.int .i64 (spanF f T (f (T.headD []))).1, .int .i64 (spanF f T (f (T.headD []))).2]) ∧ Below w.heap.size w w' :=
  span_any 88 Tryd.f88 Tryd.func88 (by kernel_rfl) rfl #[p0] A0 A1 A2 At n0 c0 n1 c1 n2 c2 ct mp T f w hT h60 hne hct hct2 (fun W hW t ht => by simpa using hF W hW t ht)
theorem span_127 (A0 A1 A2 At : Option Addr) (n0 c0 n1 c1 n2 c2 ct : Nat) (mp : Option Nat) (T : List (List Int)) (p0 : Value) (f : List Int → Int) (w : World) (hT : FRow encI 60 w At T) (h60 : ∀ t ∈ T, t.length = 60) (hne : 0 < T.length) (hct : T.length ≤ ct) (hct2 : T.length ≤ 10000)
    (hF : ∀ W, Below w.heap.size w W → ∀ t ∈ T, Calls Tryd.prog 127 #[.agg (encI t).toArray, p0] W fun e w' => e = .returned (.int .i64 (f t)) ∧ Below W.heap.size W w') :
    Calls Tryd.prog 82 #[.agg #[.slice A0 n0 c0, .slice A1 n1 c1, .slice A2 n2 c2, .map mp, .slice At T.length ct], .func (.func 127) #[] #[p0]] w fun e w' => e = .returned (.agg #[.int .i64 (spanF f T (f (T.headD []))).1, .int .i64 (spanF f T (f (T.headD []))).2]) ∧ Below w.heap.size w w' :=
  span_any 127 Tryd.f127 Tryd.func127 (by kernel_rfl) rfl #[p0] A0 A1 A2 At n0 c0 n1 c1 n2 c2 ct mp T f w hT h60 hne hct hct2 (fun W hW t ht => by simpa using hF W hW t ht)
theorem span_89 (A0 A1 A2 At : Option Addr) (n0 c0 n1 c1 n2 c2 ct : Nat) (mp : Option Nat) (T : List (List Int)) (p0 : Value) (f : List Int → Int) (w : World) (hT : FRow encI 60 w At T) (h60 : ∀ t ∈ T, t.length = 60) (hne : 0 < T.length) (hct : T.length ≤ ct) (hct2 : T.length ≤ 10000)
    (hF : ∀ W, Below w.heap.size w W → ∀ t ∈ T, Calls Tryd.prog 89 #[.agg (encI t).toArray, p0] W fun e w' => e = .returned (.int .i64 (f t)) ∧ Below W.heap.size W w') :
    Calls Tryd.prog 82 #[.agg #[.slice A0 n0 c0, .slice A1 n1 c1, .slice A2 n2 c2, .map mp, .slice At T.length ct], .func (.func 89) #[] #[p0]] w fun e w' => e = .returned (.agg #[.int .i64 (spanF f T (f (T.headD []))).1, .int .i64 (spanF f T (f (T.headD []))).2]) ∧ Below w.heap.size w w' :=
  span_any 89 Tryd.f89 Tryd.func89 (by kernel_rfl) rfl #[p0] A0 A1 A2 At n0 c0 n1 c1 n2 c2 ct mp T f w hT h60 hne hct hct2 (fun W hW t ht => by simpa using hF W hW t ht)
theorem span_93 (A0 A1 A2 At : Option Addr) (n0 c0 n1 c1 n2 c2 ct : Nat) (mp : Option Nat) (T : List (List Int)) (p0 : Value) (f : List Int → Int) (w : World) (hT : FRow encI 60 w At T) (h60 : ∀ t ∈ T, t.length = 60) (hne : 0 < T.length) (hct : T.length ≤ ct) (hct2 : T.length ≤ 10000)
    (hF : ∀ W, Below w.heap.size w W → ∀ t ∈ T, Calls Tryd.prog 93 #[.agg (encI t).toArray, p0] W fun e w' => e = .returned (.int .i64 (f t)) ∧ Below W.heap.size W w') :
    Calls Tryd.prog 82 #[.agg #[.slice A0 n0 c0, .slice A1 n1 c1, .slice A2 n2 c2, .map mp, .slice At T.length ct], .func (.func 93) #[] #[p0]] w fun e w' => e = .returned (.agg #[.int .i64 (spanF f T (f (T.headD []))).1, .int .i64 (spanF f T (f (T.headD []))).2]) ∧ Below w.heap.size w w' :=
  span_any 93 Tryd.f93 Tryd.func93 (by kernel_rfl) rfl #[p0] A0 A1 A2 At n0 c0 n1 c1 n2 c2 ct mp T f w hT h60 hne hct hct2 (fun W hW t ht => by simpa using hF W hW t ht)
theorem span_128 (A0 A1 A2 At : Option Addr) (n0 c0 n1 c1 n2 c2 ct : Nat) (mp : Option Nat) (T : List (List Int)) (p0 p1 : Value) (f : List Int → Int) (w : World) (hT : FRow encI 60 w At T) (h60 : ∀ t ∈ T, t.length = 60) (hne : 0 < T.length) (hct : T.length ≤ ct) (hct2 : T.length ≤ 10000)
    (hF : ∀ W, Below w.heap.size w W → ∀ t ∈ T, Calls Tryd.prog 128 #[.agg (encI t).toArray, p0, p1] W fun e w' => e = .returned (.int .i64 (f t)) ∧ Below W.heap.size W w') :
    Calls Tryd.prog 82 #[.agg #[.slice A0 n0 c0, .slice A1 n1 c1, .slice A2 n2 c2, .map mp, .slice At T.length ct], .func (.func 128) #[] #[p0, p1]] w fun e w' => e = .returned (.agg #[.int .i64 (spanF f T (f (T.headD []))).1, .int .i64 (spanF f T (f (T.headD []))).2]) ∧ Below w.heap.size w w' :=
  span_any 128 Tryd.f128 Tryd.func128 (by kernel_rfl) rfl #[p0, p1] A0 A1 A2 At n0 c0 n1 c1 n2 c2 ct mp T f w hT h60 hne hct hct2 (fun W hW t ht => by simpa using hF W hW t ht)
end Go.Proofs.YthgjedagbgmgmaaDoor.Pr
namespace Go.Proofs.YthgjedagbgmgmaaDoor.Pr
open Go.RowKit Go.Proofs.YthgjedagbgmgmaaDoorW.PrintWords Go.Proofs.YthgjedagbgmgmaaDoorW.PrintLast Go.Proofs.YthgjedagbgmgmaaDoorW.PrintMore
set_option linter.unusedVariables false
set_option linter.unusedSimpArgs false
set_option maxRecDepth 100000 in
theorem bound1_calls (t : List Int) (d : Nat) (p : Nat) (w : World) (ht : t.length = 60) (hd : d < 5) (hp : p < w.heap.size) (hc : w.cell? ⟨p, 0, none⟩ = some (.int .i64 (d : Int))) :
    Calls Tryd.prog 83 #[.agg (encI t).toArray, .pointer (some ⟨p, 0, none⟩)] w fun e w' => e = .returned (.int .i64 (t.getD (10 + d * 10) 0)) ∧ Below w.heap.size w w' := by
  obtain ⟨v, hv⟩ : ∃ v, v = t.getD (10 + d * 10) 0 := ⟨_, rfl⟩
  have hcell : (w.alloc (.cells (encI t).toArray 123)).cell? ⟨w.heap.size, 10 + d * 10, none⟩ = some (.int .i64 v) := by
    rw [blk_cell (blk_new _ _)]
    have hl : 10 + d * 10 < t.length := by omega
    rw [hv, List.getD_eq_getElem?_getD, List.getElem?_eq_getElem hl]
    simp [encI, hl]
  have hdi : (d : Int) < 5 := by omega
  rw [← hv]
  have HT := Lib.hid ht
  have HV := Lib.hid hv
  clear hv ht
  go_enter Tryd.func83, Tryd.ntmps83
  go_wp2
  go_ret
  exact ⟨rfl, by repeat (first | exact Below.refl _ _ | refine Below.alloc ?_ (by simp <;> omega) _ | refine Below.setCell ?_ (by simp <;> omega) _ | apply Below.drew)⟩
set_option maxRecDepth 100000 in
theorem first1_calls (t : List Int) (d : Nat) (p : Nat) (w : World) (ht : t.length = 60) (hd : d < 5) (hp : p < w.heap.size) (hc : w.cell? ⟨p, 0, none⟩ = some (.int .i64 (d : Int))) :
    Calls Tryd.prog 127 #[.agg (encI t).toArray, .pointer (some ⟨p, 0, none⟩)] w fun e w' => e = .returned (.int .i64 (t.getD (10 + d * 10) 0)) ∧ Below w.heap.size w w' := by
  obtain ⟨v, hv⟩ : ∃ v, v = t.getD (10 + d * 10) 0 := ⟨_, rfl⟩
  have hcell : (w.alloc (.cells (encI t).toArray 123)).cell? ⟨w.heap.size, 10 + d * 10, none⟩ = some (.int .i64 v) := by
    rw [blk_cell (blk_new _ _)]
    have hl : 10 + d * 10 < t.length := by omega
    rw [hv, List.getD_eq_getElem?_getD, List.getElem?_eq_getElem hl]
    simp [encI, hl]
  have hdi : (d : Int) < 5 := by omega
  rw [← hv]
  have HT := Lib.hid ht
  have HV := Lib.hid hv
  clear hv ht
  go_enter Tryd.func127, Tryd.ntmps127
  go_wp2
  go_ret
  exact ⟨rfl, by repeat (first | exact Below.refl _ _ | refine Below.alloc ?_ (by simp <;> omega) _ | refine Below.setCell ?_ (by simp <;> omega) _ | apply Below.drew)⟩
set_option maxRecDepth 100000 in
theorem wagons1_calls (t : List Int) (d : Nat) (p : Nat) (w : World) (ht : t.length = 60) (hd : d < 5) (hp : p < w.heap.size) (hc : w.cell? ⟨p, 0, none⟩ = some (.int .i64 (d : Int))) :
    Calls Tryd.prog 88 #[.agg (encI t).toArray, .pointer (some ⟨p, 0, none⟩)] w fun e w' => e = .returned (.int .i64 (t.getD (d) 0)) ∧ Below w.heap.size w w' := by
  obtain ⟨v, hv⟩ : ∃ v, v = t.getD (d) 0 := ⟨_, rfl⟩
  have hcell : (w.alloc (.cells (encI t).toArray 123)).cell? ⟨w.heap.size, d, none⟩ = some (.int .i64 v) := by
    rw [blk_cell (blk_new _ _)]
    have hl : d < t.length := by omega
    rw [hv, List.getD_eq_getElem?_getD, List.getElem?_eq_getElem hl]
    simp [encI, hl]
  have hdi : (d : Int) < 5 := by omega
  rw [← hv]
  have HT := Lib.hid ht
  have HV := Lib.hid hv
  clear hv ht
  go_enter Tryd.func88, Tryd.ntmps88
  go_wp2
  go_ret
  exact ⟨rfl, by repeat (first | exact Below.refl _ _ | refine Below.alloc ?_ (by simp <;> omega) _ | refine Below.setCell ?_ (by simp <;> omega) _ | apply Below.drew)⟩
end Go.Proofs.YthgjedagbgmgmaaDoor.Pr
namespace Go.Proofs.YthgjedagbgmgmaaDoor.Pr
open Go.RowKit Go.Proofs.YthgjedagbgmgmaaDoorW.PrintWords Go.Proofs.YthgjedagbgmgmaaDoorW.PrintLast Go.Proofs.YthgjedagbgmgmaaDoorW.PrintMore
set_option linter.unusedVariables false
set_option linter.unusedSimpArgs false
/-- What 'asked' hands back. -/
def AskP (A0 A1 A2 : Option Addr) (c0 c1 c2 : Nat) (l0 : List S92) (l1 : List S90) (l2 : List S43) (base : Nat) (code : Int) (v : Value) (W : World) : Prop :=
  ∃ B0 n0 d0 B1 n1 d1 B2 n2 d2 mp B3 n3 d3, v = .agg #[.slice B0 n0 d0, .slice B1 n1 d1, .slice B2 n2 d2, .map mp, .slice B3 n3 d3] ∧ (code = 0 → B0 = A0 ∧ n0 = l0.length ∧ d0 = c0 ∧ B1 = A1 ∧ n1 = l1.length ∧ d1 = c1 ∧ B2 = A2 ∧ n2 = l2.length ∧ d2 = c2 ∧ n3 = (truthsAll l0 l1 l2 []).length ∧ W.ownsRow base 123 60 (.slice B3 n3 d3) (truthsAll l0 l1 l2 []).length ((truthsAll l0 l1 l2 []).flatMap encI) ∧ ∃ m, mp = some m ∧ base ≤ m ∧ W.heap[m]? = some (.map (bareMap l0.length).toArray l0.length))
theorem AskP.below {A0 A1 A2 : Option Addr} {c0 c1 c2 : Nat} {l0 : List S92} {l1 : List S90} {l2 : List S43} {base : Nat} {code : Int} {v : Value} {W W' : World} (h : AskP A0 A1 A2 c0 c1 c2 l0 l1 l2 base code v W) (hb : Below W.heap.size W W') : AskP A0 A1 A2 c0 c1 c2 l0 l1 l2 base code v W' := by
  obtain ⟨B0, n0, d0, B1, n1, d1, B2, n2, d2, mp, B3, n3, d3, rfl, h⟩ := h
  refine ⟨B0, n0, d0, B1, n1, d1, B2, n2, d2, mp, B3, n3, d3, rfl, fun hc => ?_⟩
  obtain ⟨e1, e2, e3, e4, e5, e6, e7, e8, e9, e10, ho, m, e11, hm, hh⟩ := h hc
  exact ⟨e1, e2, e3, e4, e5, e6, e7, e8, e9, e10, own_same ho (fun k hk => hb.block k (own_lt ho k hk)), m, e11, hm, blk_below' hh hb⟩
theorem ask_calls (A0 A1 A2 : Option Addr) (c0 c1 c2 : Nat) (l0 : List S92) (l1 : List S90) (l2 : List S43) (w : World) (hG : GOK w) (hr0 : Kd.C k92 w A0 l0.length l0) (hc0 : l0.length ≤ c0) (hr1 : Kd.C k90 w A1 l1.length l1) (hc1 : l1.length ≤ c1) (hr2 : Kd.C k43 w A2 l2.length l2) (hc2 : l2.length ≤ c2) (h0 : (l0.length : Int) ≤ 9223372036854775807) (h1 : (l1.length : Int) ≤ 9223372036854775807) (h2 : (l2.length : Int) ≤ 9223372036854775807) (is : Bool) : ∀ W, Below w.heap.size w W →
    Calls Tryd.prog 80 #[.agg #[.slice A0 l0.length c0, .slice A1 l1.length c1, .slice A2 l2.length c2], .bool is] W fun e w' => ∃ v, e = .returned (.tuple #[v, .int .i64 (askCode l0 l1 l2 is)]) ∧ AskP A0 A1 A2 c0 c1 c2 l0 l1 l2 w.heap.size (askCode l0 l1 l2 is) v w' ∧ Below W.heap.size W w' := by
  intro W hW
  refine (asked_calls A0 A1 A2 c0 c1 c2 l0 l1 l2 W (hG.below hW) (Kd.C_below hr0 hW) hc0 (Kd.C_below hr1 hW) hc1 (Kd.C_below hr2 hW) hc2 h0 h1 h2 is).mono ?_
  rintro e w' ⟨⟨B0, n0, d0, B1, n1, d1, B2, n2, d2, mp, B3, n3, d3, rfl, h⟩, hb⟩
  refine ⟨_, rfl, ⟨B0, n0, d0, B1, n1, d1, B2, n2, d2, mp, B3, n3, d3, rfl, fun hc => ?_⟩, hb⟩
  obtain ⟨e1, e2, e3, e4, e5, e6, e7, e8, e9, e10, ho, m, e11, hm, hh⟩ := h hc
  exact ⟨e1, e2, e3, e4, e5, e6, e7, e8, e9, e10, own_mono ho hW.size, m, e11, Nat.le_trans hW.size hm, hh⟩
theorem askCode_zero {ls : List S92} {ds : List S90} {ks : List S43} {is : Bool} (h : askCode ls ds ks is = 0) : okBook ls ds ks = true ∧ is = true ∧ 0 < (truthsAll ls ds ks []).length := by
  unfold askCode at h
  by_cases h1 : okBook ls ds ks = true
  · rw [if_pos h1] at h
    by_cases h2 : is = true
    · rw [if_pos h2] at h
      by_cases h3 : (truthsAll ls ds ks []).length = 0
      · rw [if_pos h3] at h
        exact absurd h (by decide)
      · exact ⟨h1, h2, by omega⟩
    · rw [if_neg h2] at h
      exact absurd h (by decide)
  · rw [if_neg h1] at h
    exact absurd h (by decide)
theorem truthsAll_len {ls : List S92} {ds : List S90} {ks : List S43} (h : okBook ls ds ks = true) : (truthsAll ls ds ks []).length ≤ 10000 := by
  obtain ⟨_, _, h5, _, _, h6, _⟩ := ok_facts h
  have h1 := truthsFrom_len (ls := ls) (looks := ks) (but := []) (fun x hx => (h6 x hx).2.2.2.1) ds.length t00 0 r00
  have h2 : 6 ^ ds.length ≤ 6 ^ 5 := Nat.pow_le_pow_right (by decide) h5
  exact Nat.le_trans h1 (Nat.le_trans h2 (by decide))
def boundF (ls : List S92) (ds : List S90) (ks : List S43) (d : Int) : Int × Int × Int :=
  if askCode ls ds ks (decide (0 ≤ d ∧ d ≤ (ds.length : Int) - 1)) = 0 then ((spanF (fun t => t.getD (10 + d.toNat * 10) 0) (truthsAll ls ds ks []) ((truthsAll ls ds ks []).headD [] |>.getD (10 + d.toNat * 10) 0)).1, (spanF (fun t => t.getD (10 + d.toNat * 10) 0) (truthsAll ls ds ks []) ((truthsAll ls ds ks []).headD [] |>.getD (10 + d.toNat * 10) 0)).2, 0) else (0, 0, askCode ls ds ks (decide (0 ≤ d ∧ d ≤ (ds.length : Int) - 1)))
set_option maxHeartbeats 4000000 in
set_option maxRecDepth 100000 in
theorem bound_calls (A0 A1 A2 : Option Addr) (c0 c1 c2 : Nat) (l0 : List S92) (l1 : List S90) (l2 : List S43) (w : World) (hG : GOK w) (hr0 : Kd.C k92 w A0 l0.length l0) (hc0 : l0.length ≤ c0) (hr1 : Kd.C k90 w A1 l1.length l1) (hc1 : l1.length ≤ c1) (hr2 : Kd.C k43 w A2 l2.length l2) (hc2 : l2.length ≤ c2) (d : Int) :
    Calls Tryd.prog 21 #[.agg #[.slice A0 l0.length c0, .slice A1 l1.length c1, .slice A2 l2.length c2], .int .i64 d] w fun e w' => e = .returned (.tuple #[.agg #[.int .i64 (boundF l0 l1 l2 d).1, .int .i64 (boundF l0 l1 l2 d).2.1], .int .i64 (boundF l0 l1 l2 d).2.2]) ∧ Below w.heap.size w w' := by
  have h0 : (l0.length : Int) ≤ 9223372036854775807 := by have := hr0.2.1; omega
  have h1 : (l1.length : Int) ≤ 9223372036854775807 := by have := hr1.2.1; omega
  have h2 : (l2.length : Int) ≤ 9223372036854775807 := by have := hr2.2.1; omega
  obtain ⟨qd, hqd⟩ : ∃ q, q = decide (0 ≤ d ∧ d ≤ (l1.length : Int) - 1) := ⟨_, rfl⟩
  have HASK := Lib.hid (ask_calls A0 A1 A2 c0 c1 c2 l0 l1 l2 w hG hr0 hc0 hr1 hc1 hr2 hc2 h0 h1 h2 qd)
  have HDAY : Hid (∀ W, Below w.heap.size w W → Calls Tryd.prog 81 #[.agg #[.slice A0 l0.length c0, .slice A1 l1.length c1, .slice A2 l2.length c2], .int .i64 d] W fun e w' => e = .returned (.bool qd) ∧ Below W.heap.size W w') :=
    Lib.hid fun W hW => by
      rw [hqd]
      exact roll_isDay.calls A0 c0 l0 A1 c1 l1 A2 c2 l2 d _ W (Kd.C_below hr0 hW) hc0 (Kd.C_below hr1 hW) hc1 (Kd.C_below hr2 hW) hc2 (isDay_law l0 l1 l2 d h1)
  unfold boundF
  rw [← hqd]
  have HQD := Lib.hid hqd
  obtain ⟨code, hcode⟩ : ∃ c, c = askCode l0 l1 l2 qd := ⟨_, rfl⟩
  rw [← hcode]
  rw [← hcode] at HASK
  have HCODE := Lib.hid hcode
  clear hG hr0 hr1 hr2 hqd hcode h0 h1 h2
  by_cases hz : code = 0
  · rw [if_pos hz]
    have ht : (code != 0) = false := by simpa using hz
    obtain ⟨hok, hq, hT0⟩ := askCode_zero (HCODE.out.symm.trans hz)
    have hdd : 0 ≤ d ∧ d ≤ (l1.length : Int) - 1 := by
      have := HQD.out
      rw [hq] at this
      simpa using this.symm
    have hd5 : l1.length ≤ 5 := (ok_facts hok).2.2.1
    obtain ⟨day, rfl⟩ := Int.eq_ofNat_of_zero_le hdd.1
    have hday : day < 5 := by omega
    obtain ⟨r1, hr1⟩ : ∃ x, x = (spanF (fun t => t.getD (10 + (day : Int).toNat * 10) 0) (truthsAll l0 l1 l2 []) ((truthsAll l0 l1 l2 []).headD [] |>.getD (10 + (day : Int).toNat * 10) 0)).1 := ⟨_, rfl⟩
    obtain ⟨r2, hr2⟩ : ∃ x, x = (spanF (fun t => t.getD (10 + (day : Int).toNat * 10) 0) (truthsAll l0 l1 l2 []) ((truthsAll l0 l1 l2 []).headD [] |>.getD (10 + (day : Int).toNat * 10) 0)).2 := ⟨_, rfl⟩
    rw [← hr1, ← hr2]
    have HR1 := Lib.hid hr1
    have HR2 := Lib.hid hr2
    have HZ := Lib.hid hz
    have HOKB := Lib.hid hok
    clear hr1 hr2 hz hok hq hdd hd5
    go_enter Tryd.func21, Tryd.ntmps21
    go_upto_region 1 with fail
    obtain ⟨wP, hwP⟩ : ∃ W, W = ((w.alloc (.cells #[.slice A0 l0.length c0, .slice A1 l1.length c1, .slice A2 l2.length c2] 26)).alloc (.cells #[.int .i64 (day : Int)] 3)).alloc (.cells #[.int .i64 0, .int .i64 0] 32) := ⟨_, rfl⟩
    rw [← hwP]
    have h2_ : wP.heap[w.heap.size]? = some (.cells #[.slice A0 l0.length c0, .slice A1 l1.length c1, .slice A2 l2.length c2] 26 (0, 0)) := by rw [hwP]; exact blk_alloc (blk_alloc (blk_new _ _) _) _
    have h3_ : wP.heap[w.heap.size + 1]? = some (.cells #[.int .i64 (day : Int)] 3 (0, 0)) := by rw [hwP]; exact blk_alloc (blk_at (w.alloc _) _ _ (by simp)) _
    have h4_ : wP.heap[w.heap.size + 1 + 1]? = some (.cells #[.int .i64 0, .int .i64 0] 32 (0, 0)) := by rw [hwP]; exact blk_at _ _ _ (by simp)
    have hB_ : Below w.heap.size w wP.drew := by rw [hwP]; exact by repeat (first | exact Below.refl _ _ | refine Below.alloc ?_ (by simp <;> omega) _ | refine Below.setCell ?_ (by simp <;> omega) _ | apply Below.drew)
    clear hwP
    refine start_ (n := 11) (S := fun w' => w'.heap[w.heap.size]? = some (.cells #[.slice A0 l0.length c0, .slice A1 l1.length c1, .slice A2 l2.length c2] 26 (0, 0)) ∧ w'.heap[w.heap.size + 1]? = some (.cells #[.int .i64 (day : Int)] 3 (0, 0)) ∧ w'.heap[w.heap.size + 1 + 1]? = some (.cells #[.int .i64 0, .int .i64 0] 32 (0, 0)) ∧ Below w.heap.size w w' ∧ w'.cell? ⟨w.heap.size, 0, none⟩ = some (.slice A0 l0.length c0) ∧ w'.cell? ⟨w.heap.size, 1, none⟩ = some (.slice A1 l1.length c1) ∧ w'.cell? ⟨w.heap.size, 2, none⟩ = some (.slice A2 l2.length c2) ∧ w'.cell? ⟨w.heap.size + 1, 0, none⟩ = some (.int .i64 (day : Int))) (ds := [9]) #[false, false, false, false, false, false, false, false, false, false, false] (by kernel_rfl) rfl rfl ⟨h2_, h3_, h4_, hB_, (blk_cell (h2_) 0).trans rfl, (blk_cell (h2_) 1).trans rfl, (blk_cell (h2_) 2).trans rfl, (blk_cell (h3_) 0).trans rfl⟩ (fun hHeld => ?_)
    refine ta_ 0 (some 9) (s := hHeld) (y := by rintro w' ⟨s0, s1, s2, s3, s4, s5, s6, s7⟩; go_simp; with_reducible rfl) (h := ?_)
    refine ta_ 1 (some 10) (s := hHeld) (y := by rintro w' ⟨s0, s1, s2, s3, s4, s5, s6, s7⟩; go_simp; with_reducible rfl) (h := ?_)
    refine ta_ 2 (some 11) (s := hHeld) (y := by rintro w' ⟨s0, s1, s2, s3, s4, s5, s6, s7⟩; go_simp; with_reducible rfl) (h := ?_)
    refine join_ (σ := Nat × Value) 2 #[true, true, true, true, true, true, true, true, true, false, false] (fun s => [(12, .bool qd), (13, .tuple #[s.2, .int .i64 code]), (8, .tuple #[s.2, .int .i64 code]), (14, s.2), (15, .int .i64 code), (6, .pointer (some ⟨s.1, 0, none⟩))]) (fun s w' => w'.heap[w.heap.size]? = some (.cells #[.slice A0 l0.length c0, .slice A1 l1.length c1, .slice A2 l2.length c2] 26 (0, 0)) ∧ w'.heap[w.heap.size + 1]? = some (.cells #[.int .i64 (day : Int)] 3 (0, 0)) ∧ w'.heap[w.heap.size + 1 + 1]? = some (.cells #[.int .i64 0, .int .i64 0] 32 (0, 0)) ∧ Below w.heap.size w w' ∧ w'.cell? ⟨w.heap.size, 0, none⟩ = some (.slice A0 l0.length c0) ∧ w'.cell? ⟨w.heap.size, 1, none⟩ = some (.slice A1 l1.length c1) ∧ w'.cell? ⟨w.heap.size, 2, none⟩ = some (.slice A2 l2.length c2) ∧ w'.cell? ⟨w.heap.size + 1, 0, none⟩ = some (.int .i64 (day : Int)) ∧ w'.heap[s.1]? = some (.cells #[.slice none 0 0, .slice none 0 0, .slice none 0 0, .map none, .slice none 0 0] 107 (0, 0)) ∧ w.heap.size ≤ s.1 ∧ AskP A0 A1 A2 c0 c1 c2 l0 l1 l2 w.heap.size code s.2 w') ?_ ?_
    rotate_left
    · intro hCont
      refine two_ (i := 3) (j := 8) (Ni := some 12) (Nj := some 6) #[true, true, true, true, false, false, false, false, false, false, false] #[true, true, true, false, false, false, false, false, true, false, false] rfl rfl rfl rfl (by kernel_rfl) (by decide) (by decide) (fun K hK => ?_) (fun K hK => ?_)
      · skip
        refine goes_ Tryd.func81 (by kernel_rfl) rfl #[.agg #[.slice A0 l0.length c0, .slice A1 l1.length c1, .slice A2 l2.length c2], .int .i64 (day : Int)] (by rfl) rfl rfl (by simp only [List.map_toArray, List.map_cons, List.map_nil]; rfl) ?_
        refine (HDAY.out _ hHeld.2.2.2.1).mono ?_
        rintro e w5 ⟨rfl, hb⟩
        refine ⟨_, rfl, ?_⟩
        refine hK.out _ _ ⟨blk_below hHeld.1 hb, blk_below hHeld.2.1 hb, blk_below hHeld.2.2.1 hb, hHeld.2.2.2.1.trans (below_weaken hb hHeld.2.2.2.1.size), (blk_cell (blk_below hHeld.1 hb) 0).trans rfl, (blk_cell (blk_below hHeld.1 hb) 1).trans rfl, (blk_cell (blk_below hHeld.1 hb) 2).trans rfl, (blk_cell (blk_below hHeld.2.1 hb) 0).trans rfl⟩ (fun hHeld => ?_)
        clear hK K
        refine no_ 12 ?_
        refine two_ (i := 4) (j := 8) (Ni := some 13) (Nj := some 6) #[true, true, true, true, true, false, false, false, false, false, false] #[true, true, true, true, false, false, false, false, true, false, false] rfl rfl rfl rfl (by kernel_rfl) (by decide) (by decide) (fun K hK => ?_) (fun K hK => ?_)
        · skip
          refine goes_ Tryd.func80 (by kernel_rfl) rfl #[.agg #[.slice A0 l0.length c0, .slice A1 l1.length c1, .slice A2 l2.length c2], .bool qd] (by rfl) rfl rfl (by simp only [List.map_toArray, List.map_cons, List.map_nil]; rfl) ?_
          refine (HASK.out _ hHeld.2.2.2.1).mono ?_
          rintro e w6 ⟨v, rfl, hP, hb⟩
          refine ⟨_, rfl, ?_⟩
          refine hK.out _ _ ⟨blk_below hHeld.1 hb, blk_below hHeld.2.1 hb, blk_below hHeld.2.2.1 hb, hHeld.2.2.2.1.trans (below_weaken hb hHeld.2.2.2.1.size), (blk_cell (blk_below hHeld.1 hb) 0).trans rfl, (blk_cell (blk_below hHeld.1 hb) 1).trans rfl, (blk_cell (blk_below hHeld.1 hb) 2).trans rfl, (blk_cell (blk_below hHeld.2.1 hb) 0).trans rfl⟩ (fun hHeld => ?_)
          clear hK K
          refine no_ 13 ?_
          refine pu_ 5 (some 8) ?_
          refine pu_ 6 (some 14) ?_
          refine pu_ 7 (some 15) ?_
          refine one_ (i := 8) (N := some 6) #[true, true, true, true, true, true, true, true, true, false, false] rfl rfl (by kernel_rfl) (by decide) (fun K hK => ?_)
          refine value_ (w1 := ?_) (v := ?_) (by rfl) rfl ?_ ?_
          rotate_left 2
          · go_simp
            constructor
            · rfl
            · rfl
          have lz : w.heap.size ≤ (w6).heap.size := hHeld.2.2.2.1.size
          have hal : Below (w6).heap.size (w6) ((w6).alloc (.cells #[.slice none 0 0, .slice none 0 0, .slice none 0 0, .map none, .slice none 0 0] 107)) := (Below.refl _ _).alloc (Nat.le_refl _) _
          have q8 := blk_new (w6) (.cells #[.slice none 0 0, .slice none 0 0, .slice none 0 0, .map none, .slice none 0 0] 107)
          have hP8 := hP.below hal
          refine hK.out _ _ ⟨blk_below hHeld.1 hal, blk_below hHeld.2.1 hal, blk_below hHeld.2.2.1 hal, hHeld.2.2.2.1.trans (below_weaken hal hHeld.2.2.2.1.size), (blk_cell (blk_below hHeld.1 hal) 0).trans rfl, (blk_cell (blk_below hHeld.1 hal) 1).trans rfl, (blk_cell (blk_below hHeld.1 hal) 2).trans rfl, (blk_cell (blk_below hHeld.2.1 hal) 0).trans rfl⟩ (fun hHeld => ?_)
          clear hK K
          refine no_ 6 ?_
          exact norm_ (by first | (simp only [putAll, Act.put, List.setIfInBounds_toArray, List.set_cons_zero, List.set_cons_succ]; done) | (simp only [putAll, Act.put, List.setIfInBounds_toArray, List.set_cons_zero, List.set_cons_succ]; rfl)) (hCont (w6.heap.size, v) _ ⟨hHeld.1, hHeld.2.1, hHeld.2.2.1, hHeld.2.2.2.1, hHeld.2.2.2.2.1, hHeld.2.2.2.2.2.1, hHeld.2.2.2.2.2.2.1, hHeld.2.2.2.2.2.2.2, q8, lz, hP8⟩)
        · skip
          refine value_ (w1 := ?_) (v := ?_) (by rfl) rfl ?_ ?_
          rotate_left 2
          · go_simp
            constructor
            · rfl
            · rfl
          have lz : w.heap.size ≤ (w5).heap.size := hHeld.2.2.2.1.size
          have hal : Below (w5).heap.size (w5) ((w5).alloc (.cells #[.slice none 0 0, .slice none 0 0, .slice none 0 0, .map none, .slice none 0 0] 107)) := (Below.refl _ _).alloc (Nat.le_refl _) _
          have h8_ := blk_new (w5) (.cells #[.slice none 0 0, .slice none 0 0, .slice none 0 0, .map none, .slice none 0 0] 107)
          refine hK.out _ _ ⟨blk_below hHeld.1 hal, blk_below hHeld.2.1 hal, blk_below hHeld.2.2.1 hal, hHeld.2.2.2.1.trans (below_weaken hal hHeld.2.2.2.1.size), (blk_cell (blk_below hHeld.1 hal) 0).trans rfl, (blk_cell (blk_below hHeld.1 hal) 1).trans rfl, (blk_cell (blk_below hHeld.1 hal) 2).trans rfl, (blk_cell (blk_below hHeld.2.1 hal) 0).trans rfl⟩ (fun hHeld => ?_)
          clear hK K
          refine no_ 6 ?_
          refine one_ (i := 4) (N := some 13) #[true, true, true, true, true, false, false, false, true, false, false] rfl rfl (by kernel_rfl) (by decide) (fun K hK => ?_)
          refine goes_ Tryd.func80 (by kernel_rfl) rfl #[.agg #[.slice A0 l0.length c0, .slice A1 l1.length c1, .slice A2 l2.length c2], .bool qd] (by rfl) rfl rfl (by simp only [List.map_toArray, List.map_cons, List.map_nil]; rfl) ?_
          refine (HASK.out _ hHeld.2.2.2.1).mono ?_
          rintro e w6 ⟨v, rfl, hP, hb⟩
          refine ⟨_, rfl, ?_⟩
          have q8 := blk_below h8_ hb
          refine hK.out _ _ ⟨blk_below hHeld.1 hb, blk_below hHeld.2.1 hb, blk_below hHeld.2.2.1 hb, hHeld.2.2.2.1.trans (below_weaken hb hHeld.2.2.2.1.size), (blk_cell (blk_below hHeld.1 hb) 0).trans rfl, (blk_cell (blk_below hHeld.1 hb) 1).trans rfl, (blk_cell (blk_below hHeld.1 hb) 2).trans rfl, (blk_cell (blk_below hHeld.2.1 hb) 0).trans rfl⟩ (fun hHeld => ?_)
          clear hK K
          refine no_ 13 ?_
          refine pu_ 5 (some 8) ?_
          refine pu_ 6 (some 14) ?_
          refine pu_ 7 (some 15) ?_
          exact norm_ (by first | (simp only [putAll, Act.put, List.setIfInBounds_toArray, List.set_cons_zero, List.set_cons_succ]; done) | (simp only [putAll, Act.put, List.setIfInBounds_toArray, List.set_cons_zero, List.set_cons_succ]; rfl)) (hCont (w5.heap.size, v) _ ⟨hHeld.1, hHeld.2.1, hHeld.2.2.1, hHeld.2.2.2.1, hHeld.2.2.2.2.1, hHeld.2.2.2.2.2.1, hHeld.2.2.2.2.2.2.1, hHeld.2.2.2.2.2.2.2, q8, lz, hP⟩)
      · skip
        refine value_ (w1 := ?_) (v := ?_) (by rfl) rfl ?_ ?_
        rotate_left 2
        · go_simp
          constructor
          · rfl
          · rfl
        have lz : w.heap.size ≤ (wP.drew).heap.size := hHeld.2.2.2.1.size
        have hal : Below (wP.drew).heap.size (wP.drew) ((wP.drew).alloc (.cells #[.slice none 0 0, .slice none 0 0, .slice none 0 0, .map none, .slice none 0 0] 107)) := (Below.refl _ _).alloc (Nat.le_refl _) _
        have h8_ := blk_new (wP.drew) (.cells #[.slice none 0 0, .slice none 0 0, .slice none 0 0, .map none, .slice none 0 0] 107)
        refine hK.out _ _ ⟨blk_below hHeld.1 hal, blk_below hHeld.2.1 hal, blk_below hHeld.2.2.1 hal, hHeld.2.2.2.1.trans (below_weaken hal hHeld.2.2.2.1.size), (blk_cell (blk_below hHeld.1 hal) 0).trans rfl, (blk_cell (blk_below hHeld.1 hal) 1).trans rfl, (blk_cell (blk_below hHeld.1 hal) 2).trans rfl, (blk_cell (blk_below hHeld.2.1 hal) 0).trans rfl⟩ (fun hHeld => ?_)
        clear hK K
        refine no_ 6 ?_
        refine one_ (i := 3) (N := some 12) #[true, true, true, true, false, false, false, false, true, false, false] rfl rfl (by kernel_rfl) (by decide) (fun K hK => ?_)
        refine goes_ Tryd.func81 (by kernel_rfl) rfl #[.agg #[.slice A0 l0.length c0, .slice A1 l1.length c1, .slice A2 l2.length c2], .int .i64 (day : Int)] (by rfl) rfl rfl (by simp only [List.map_toArray, List.map_cons, List.map_nil]; rfl) ?_
        refine (HDAY.out _ hHeld.2.2.2.1).mono ?_
        rintro e w5 ⟨rfl, hb⟩
        refine ⟨_, rfl, ?_⟩
        have h8b := blk_below h8_ hb
        refine hK.out _ _ ⟨blk_below hHeld.1 hb, blk_below hHeld.2.1 hb, blk_below hHeld.2.2.1 hb, hHeld.2.2.2.1.trans (below_weaken hb hHeld.2.2.2.1.size), (blk_cell (blk_below hHeld.1 hb) 0).trans rfl, (blk_cell (blk_below hHeld.1 hb) 1).trans rfl, (blk_cell (blk_below hHeld.1 hb) 2).trans rfl, (blk_cell (blk_below hHeld.2.1 hb) 0).trans rfl⟩ (fun hHeld => ?_)
        clear hK K
        refine no_ 12 ?_
        refine one_ (i := 4) (N := some 13) #[true, true, true, true, true, false, false, false, true, false, false] rfl rfl (by kernel_rfl) (by decide) (fun K hK => ?_)
        refine goes_ Tryd.func80 (by kernel_rfl) rfl #[.agg #[.slice A0 l0.length c0, .slice A1 l1.length c1, .slice A2 l2.length c2], .bool qd] (by rfl) rfl rfl (by simp only [List.map_toArray, List.map_cons, List.map_nil]; rfl) ?_
        refine (HASK.out _ hHeld.2.2.2.1).mono ?_
        rintro e w6 ⟨v, rfl, hP, hb⟩
        refine ⟨_, rfl, ?_⟩
        have q8 := blk_below h8b hb
        refine hK.out _ _ ⟨blk_below hHeld.1 hb, blk_below hHeld.2.1 hb, blk_below hHeld.2.2.1 hb, hHeld.2.2.2.1.trans (below_weaken hb hHeld.2.2.2.1.size), (blk_cell (blk_below hHeld.1 hb) 0).trans rfl, (blk_cell (blk_below hHeld.1 hb) 1).trans rfl, (blk_cell (blk_below hHeld.1 hb) 2).trans rfl, (blk_cell (blk_below hHeld.2.1 hb) 0).trans rfl⟩ (fun hHeld => ?_)
        clear hK K
        refine no_ 13 ?_
        refine pu_ 5 (some 8) ?_
        refine pu_ 6 (some 14) ?_
        refine pu_ 7 (some 15) ?_
        exact norm_ (by first | (simp only [putAll, Act.put, List.setIfInBounds_toArray, List.set_cons_zero, List.set_cons_succ]; done) | (simp only [putAll, Act.put, List.setIfInBounds_toArray, List.set_cons_zero, List.set_cons_succ]; rfl)) (hCont (wP.drew.heap.size, v) _ ⟨hHeld.1, hHeld.2.1, hHeld.2.2.1, hHeld.2.2.2.1, hHeld.2.2.2.2.1, hHeld.2.2.2.2.2.1, hHeld.2.2.2.2.2.2.1, hHeld.2.2.2.2.2.2.2, q8, lz, hP⟩)
    rintro ⟨g6, v⟩ w' ⟨s0, s1, s2, s3, s4, s5, s6, s7, h8, hg6, hP⟩
    obtain ⟨B0, n0, d0, B1, n1, d1, B2, n2, d2, mp, B3, n3, d3, rfl, hP⟩ := hP
    have hHeld : w'.heap[w.heap.size]? = some (.cells #[.slice A0 l0.length c0, .slice A1 l1.length c1, .slice A2 l2.length c2] 26 (0, 0)) ∧ w'.heap[w.heap.size + 1]? = some (.cells #[.int .i64 (day : Int)] 3 (0, 0)) ∧ w'.heap[w.heap.size + 1 + 1]? = some (.cells #[.int .i64 0, .int .i64 0] 32 (0, 0)) ∧ Below w.heap.size w w' ∧ w'.cell? ⟨w.heap.size, 0, none⟩ = some (.slice A0 l0.length c0) ∧ w'.cell? ⟨w.heap.size, 1, none⟩ = some (.slice A1 l1.length c1) ∧ w'.cell? ⟨w.heap.size, 2, none⟩ = some (.slice A2 l2.length c2) ∧ w'.cell? ⟨w.heap.size + 1, 0, none⟩ = some (.int .i64 (day : Int)) := ⟨s0, s1, s2, s3, s4, s5, s6, s7⟩
    have k0 := (blk_cell h8 0).trans rfl
    have k1 := (blk_cell h8 1).trans rfl
    have k2 := (blk_cell h8 2).trans rfl
    have k3 := (blk_cell h8 3).trans rfl
    have k4 := (blk_cell h8 4).trans rfl
    have f0 := blk_frozen h8 0
    have f1 := blk_frozen h8 1
    have f2 := blk_frozen h8 2
    have f3 := blk_frozen h8 3
    have f4 := blk_frozen h8 4
    have l8 := blk_lt h8
    have H8 := Lib.hid h8
    have HP := Lib.hid hP
    have HHE := Lib.hid hHeld
    clear h8 hP s0 s1 s2 s3
    refine norm_ (a' := ?_) ?_ ?_
    rotate_left
    · simp only [putAll, Act.put, List.setIfInBounds_toArray, List.set_cons_zero, List.set_cons_succ]
      rfl
    refine last_ (i := 9) (N := none) #[true, true, true, true, true, true, true, true, true, true, false] rfl rfl (by kernel_rfl) (by decide) (fun K hK => ?_)
    refine skip_ (w1 := ?_) (by rfl) rfl ?_ ?_
    rotate_left
    · go_simp
      rfl
    refine hK.out _ _ ?_
    clear hK K
    refine pu_ 10 (some 7) ?_
    refine done_ (by kernel_rfl) ?_
  
    obtain ⟨u2, u3, u4, uB, _⟩ := HHE.out
    have nb2 : w.heap.size ≠ g6 := fun e => by
      have := H8.out
      rw [← e, u2] at this
      simp at this
    have nb3 : w.heap.size + 1 ≠ g6 := fun e => by
      have := H8.out
      rw [← e, u3] at this
      simp at this
    have nb4 : w.heap.size + 1 + 1 ≠ g6 := fun e => by
      have := H8.out
      rw [← e, u4] at this
      simp at this
    obtain ⟨W8, hW8⟩ : ∃ W, W = (((((w'.setCell ⟨g6, 0, none⟩ (.slice B0 n0 d0)).setCell ⟨g6, 1, none⟩ (.slice B1 n1 d1)).setCell ⟨g6, 2, none⟩ (.slice B2 n2 d2)).setCell ⟨g6, 3, none⟩ (.map mp)).setCell ⟨g6, 4, none⟩ (.slice B3 n3 d3)) := ⟨_, rfl⟩
    rw [← hW8]
    have h88 : W8.heap[g6]? = some (.cells #[.slice B0 n0 d0, .slice B1 n1 d1, .slice B2 n2 d2, .map mp, .slice B3 n3 d3] 107 (0, 0)) := by rw [hW8]; exact blk_put (blk_set (blk_set (blk_set (blk_set H8.out 0 _) 1 _) 2 _) 3 _) 4 _ rfl
    have hch : Chg (fun k => k = g6) w' W8 := by rw [hW8]; exact (((((Chg.cell (S := fun k => k = g6) w' g6 0 (.slice B0 n0 d0) rfl).trans (Chg.cell _ g6 1 (.slice B1 n1 d1) rfl)).trans (Chg.cell _ g6 2 (.slice B2 n2 d2) rfl)).trans (Chg.cell _ g6 3 (.map mp) rfl)).trans (Chg.cell _ g6 4 (.slice B3 n3 d3) rfl))
    have h82 := (hch.block _ (blk_lt u2) nb2).trans u2
    have h83 := (hch.block _ (blk_lt u3) nb3).trans u3
    have h84 := (hch.block _ (blk_lt u4) nb4).trans u4
    have hB8 : Below w.heap.size w W8 := uB.trans ⟨hch.os, hch.tape, hch.output, hch.size, fun k hk => hch.block k (Nat.lt_of_lt_of_le hk uB.size) (by omega)⟩
    have HCH := Lib.hid hch
    clear hW8 hch u2 u3 u4 uB HHE k0 k1 k2 k3 k4 f0 f1 f2 f3 f4 l8 s4 s5 s6 s7 hHeld
    have m0 := (blk_cell h84 0).trans rfl
    have m1 := (blk_cell h84 1).trans rfl
    have q0 := blk_frozen h84 0
    have q1 := blk_frozen h84 1
    have l4 := blk_lt h84
    have c80 := (blk_cell h88 0).trans rfl
    have c81 := (blk_cell h88 1).trans rfl
    have c82 := (blk_cell h88 2).trans rfl
    have c83 := (blk_cell h88 3).trans rfl
    have c84 := (blk_cell h88 4).trans rfl
    have l88 := blk_lt h88
    obtain ⟨e1, e2, e3, e4, e5, e6, e7, e8, e9, e10, ho, _⟩ := HP.out HZ.out
    have ho8 := own_same ho fun k hk => HCH.out.block k (own_lt ho k hk) (fun e => row_ne H8.out (show (107 : Nat) ≠ 123 by decide) ho (by rw [hk, e]))
    rw [← e10] at ho8
    obtain ⟨hF, hn, hcd⟩ := frow_own ho8 (truthsAll_60 (ok_facts HOKB.out).2.2.1)
    have hSP := span_83 B0 B1 B2 B3 n0 d0 n1 d1 n2 d2 d3 mp (truthsAll l0 l1 l2 []) (.pointer (some ⟨w.heap.size + 1, 0, none⟩)) (fun t => t.getD (10 + (day : Int).toNat * 10) 0) W8 hF (truthsAll_60 (ok_facts HOKB.out).2.2.1) hT0 (by omega) (truthsAll_len HOKB.out) (fun W hW t ht => bound1_calls t day (w.heap.size + 1) W (truthsAll_60 (ok_facts HOKB.out).2.2.1 t ht) hday (Nat.lt_of_lt_of_le (blk_lt h83) hW.size) ((hW.cell (p := ⟨w.heap.size + 1, 0, none⟩) (blk_lt h83)).trans (blk_cell h83 0)))
    have hSP2 : Calls Tryd.prog 82 #[.agg #[.slice B0 n0 d0, .slice B1 n1 d1, .slice B2 n2 d2, .map mp, .slice B3 n3 d3], .func (.func 83) #[] #[.pointer (some ⟨w.heap.size + 1, 0, none⟩)]] W8 fun e w' => e = .returned (.agg #[.int .i64 r1, .int .i64 r2]) ∧ Below W8.heap.size W8 w' := by
      rw [hn, HR1.out, HR2.out]
      exact hSP
    have HSP := Lib.hid hSP2
    have H84 := Lib.hid h84
    have HB8 := Lib.hid hB8
    clear hSP hSP2 e1 e2 e3 e4 e5 e6 e7 e8 e9 e10 ho ho8 hF hn hcd h84 h82 h83 h88 hB8 hT0 m0 m1 q0 q1 l4
    go_wp2_with (go_at_call 82; refine HSP.out.mono ?_; rintro e w9 ⟨rfl, hB9⟩; have h94 := blk_below H84.out hB9; have m0 := (blk_cell h94 0).trans rfl; have m1 := (blk_cell h94 1).trans rfl; have q0 := blk_frozen h94 0; have q1 := blk_frozen h94 1; have l9 := blk_lt h94; have H94 := Lib.hid h94; have HB9 := Lib.hid (HB8.out.trans (below_weaken hB9 HB8.out.size)); clear h94 hB9)
    refine bodyPost_ret (results_ct rfl _ _ (w.heap.size + 1 + 1) 32 #[.int .i64 r1, .int .i64 r2] (0, 0) _ rfl (blk_put (blk_set H94.out 0 (.int .i64 r1)) 1 (.int .i64 r2) rfl) Tryd.underlying32 rfl (by kernel_rfl)) rfl ⟨rfl, (HB9.out.setCell (p := ⟨w.heap.size + 1 + 1, 0, none⟩) (by simp; omega) _).setCell (p := ⟨w.heap.size + 1 + 1, 1, none⟩) (by simp; omega) _⟩
  · rw [if_neg hz]
    have ht : (code != 0) = true := by simpa using hz
    go_enter Tryd.func21, Tryd.ntmps21
    go_upto_region 1 with fail
    obtain ⟨wP, hwP⟩ : ∃ W, W = ((w.alloc (.cells #[.slice A0 l0.length c0, .slice A1 l1.length c1, .slice A2 l2.length c2] 26)).alloc (.cells #[.int .i64 d] 3)).alloc (.cells #[.int .i64 0, .int .i64 0] 32) := ⟨_, rfl⟩
    rw [← hwP]
    have h2_ : wP.heap[w.heap.size]? = some (.cells #[.slice A0 l0.length c0, .slice A1 l1.length c1, .slice A2 l2.length c2] 26 (0, 0)) := by rw [hwP]; exact blk_alloc (blk_alloc (blk_new _ _) _) _
    have h3_ : wP.heap[w.heap.size + 1]? = some (.cells #[.int .i64 d] 3 (0, 0)) := by rw [hwP]; exact blk_alloc (blk_at (w.alloc _) _ _ (by simp)) _
    have h4_ : wP.heap[w.heap.size + 1 + 1]? = some (.cells #[.int .i64 0, .int .i64 0] 32 (0, 0)) := by rw [hwP]; exact blk_at _ _ _ (by simp)
    have hB_ : Below w.heap.size w wP.drew := by rw [hwP]; exact by repeat (first | exact Below.refl _ _ | refine Below.alloc ?_ (by simp <;> omega) _ | refine Below.setCell ?_ (by simp <;> omega) _ | apply Below.drew)
    clear hwP
    refine start_ (n := 11) (S := fun w' => w'.heap[w.heap.size]? = some (.cells #[.slice A0 l0.length c0, .slice A1 l1.length c1, .slice A2 l2.length c2] 26 (0, 0)) ∧ w'.heap[w.heap.size + 1]? = some (.cells #[.int .i64 d] 3 (0, 0)) ∧ w'.heap[w.heap.size + 1 + 1]? = some (.cells #[.int .i64 0, .int .i64 0] 32 (0, 0)) ∧ Below w.heap.size w w' ∧ w'.cell? ⟨w.heap.size, 0, none⟩ = some (.slice A0 l0.length c0) ∧ w'.cell? ⟨w.heap.size, 1, none⟩ = some (.slice A1 l1.length c1) ∧ w'.cell? ⟨w.heap.size, 2, none⟩ = some (.slice A2 l2.length c2) ∧ w'.cell? ⟨w.heap.size + 1, 0, none⟩ = some (.int .i64 d)) (ds := [9]) #[false, false, false, false, false, false, false, false, false, false, false] (by kernel_rfl) rfl rfl ⟨h2_, h3_, h4_, hB_, (blk_cell (h2_) 0).trans rfl, (blk_cell (h2_) 1).trans rfl, (blk_cell (h2_) 2).trans rfl, (blk_cell (h3_) 0).trans rfl⟩ (fun hHeld => ?_)
    refine ta_ 0 (some 9) (s := hHeld) (y := by rintro w' ⟨s0, s1, s2, s3, s4, s5, s6, s7⟩; go_simp; with_reducible rfl) (h := ?_)
    refine ta_ 1 (some 10) (s := hHeld) (y := by rintro w' ⟨s0, s1, s2, s3, s4, s5, s6, s7⟩; go_simp; with_reducible rfl) (h := ?_)
    refine ta_ 2 (some 11) (s := hHeld) (y := by rintro w' ⟨s0, s1, s2, s3, s4, s5, s6, s7⟩; go_simp; with_reducible rfl) (h := ?_)
    refine join_ (σ := Nat × Value) 2 #[true, true, true, true, true, true, true, true, true, false, false] (fun s => [(12, .bool qd), (13, .tuple #[s.2, .int .i64 code]), (8, .tuple #[s.2, .int .i64 code]), (14, s.2), (15, .int .i64 code), (6, .pointer (some ⟨s.1, 0, none⟩))]) (fun s w' => w'.heap[w.heap.size]? = some (.cells #[.slice A0 l0.length c0, .slice A1 l1.length c1, .slice A2 l2.length c2] 26 (0, 0)) ∧ w'.heap[w.heap.size + 1]? = some (.cells #[.int .i64 d] 3 (0, 0)) ∧ w'.heap[w.heap.size + 1 + 1]? = some (.cells #[.int .i64 0, .int .i64 0] 32 (0, 0)) ∧ Below w.heap.size w w' ∧ w'.cell? ⟨w.heap.size, 0, none⟩ = some (.slice A0 l0.length c0) ∧ w'.cell? ⟨w.heap.size, 1, none⟩ = some (.slice A1 l1.length c1) ∧ w'.cell? ⟨w.heap.size, 2, none⟩ = some (.slice A2 l2.length c2) ∧ w'.cell? ⟨w.heap.size + 1, 0, none⟩ = some (.int .i64 d) ∧ w'.heap[s.1]? = some (.cells #[.slice none 0 0, .slice none 0 0, .slice none 0 0, .map none, .slice none 0 0] 107 (0, 0)) ∧ w.heap.size ≤ s.1 ∧ AskP A0 A1 A2 c0 c1 c2 l0 l1 l2 w.heap.size code s.2 w') ?_ ?_
    rotate_left
    · intro hCont
      refine two_ (i := 3) (j := 8) (Ni := some 12) (Nj := some 6) #[true, true, true, true, false, false, false, false, false, false, false] #[true, true, true, false, false, false, false, false, true, false, false] rfl rfl rfl rfl (by kernel_rfl) (by decide) (by decide) (fun K hK => ?_) (fun K hK => ?_)
      · skip
        refine goes_ Tryd.func81 (by kernel_rfl) rfl #[.agg #[.slice A0 l0.length c0, .slice A1 l1.length c1, .slice A2 l2.length c2], .int .i64 d] (by rfl) rfl rfl (by simp only [List.map_toArray, List.map_cons, List.map_nil]; rfl) ?_
        refine (HDAY.out _ hHeld.2.2.2.1).mono ?_
        rintro e w5 ⟨rfl, hb⟩
        refine ⟨_, rfl, ?_⟩
        refine hK.out _ _ ⟨blk_below hHeld.1 hb, blk_below hHeld.2.1 hb, blk_below hHeld.2.2.1 hb, hHeld.2.2.2.1.trans (below_weaken hb hHeld.2.2.2.1.size), (blk_cell (blk_below hHeld.1 hb) 0).trans rfl, (blk_cell (blk_below hHeld.1 hb) 1).trans rfl, (blk_cell (blk_below hHeld.1 hb) 2).trans rfl, (blk_cell (blk_below hHeld.2.1 hb) 0).trans rfl⟩ (fun hHeld => ?_)
        clear hK K
        refine no_ 12 ?_
        refine two_ (i := 4) (j := 8) (Ni := some 13) (Nj := some 6) #[true, true, true, true, true, false, false, false, false, false, false] #[true, true, true, true, false, false, false, false, true, false, false] rfl rfl rfl rfl (by kernel_rfl) (by decide) (by decide) (fun K hK => ?_) (fun K hK => ?_)
        · skip
          refine goes_ Tryd.func80 (by kernel_rfl) rfl #[.agg #[.slice A0 l0.length c0, .slice A1 l1.length c1, .slice A2 l2.length c2], .bool qd] (by rfl) rfl rfl (by simp only [List.map_toArray, List.map_cons, List.map_nil]; rfl) ?_
          refine (HASK.out _ hHeld.2.2.2.1).mono ?_
          rintro e w6 ⟨v, rfl, hP, hb⟩
          refine ⟨_, rfl, ?_⟩
          refine hK.out _ _ ⟨blk_below hHeld.1 hb, blk_below hHeld.2.1 hb, blk_below hHeld.2.2.1 hb, hHeld.2.2.2.1.trans (below_weaken hb hHeld.2.2.2.1.size), (blk_cell (blk_below hHeld.1 hb) 0).trans rfl, (blk_cell (blk_below hHeld.1 hb) 1).trans rfl, (blk_cell (blk_below hHeld.1 hb) 2).trans rfl, (blk_cell (blk_below hHeld.2.1 hb) 0).trans rfl⟩ (fun hHeld => ?_)
          clear hK K
          refine no_ 13 ?_
          refine pu_ 5 (some 8) ?_
          refine pu_ 6 (some 14) ?_
          refine pu_ 7 (some 15) ?_
          refine one_ (i := 8) (N := some 6) #[true, true, true, true, true, true, true, true, true, false, false] rfl rfl (by kernel_rfl) (by decide) (fun K hK => ?_)
          refine value_ (w1 := ?_) (v := ?_) (by rfl) rfl ?_ ?_
          rotate_left 2
          · go_simp
            constructor
            · rfl
            · rfl
          have lz : w.heap.size ≤ (w6).heap.size := hHeld.2.2.2.1.size
          have hal : Below (w6).heap.size (w6) ((w6).alloc (.cells #[.slice none 0 0, .slice none 0 0, .slice none 0 0, .map none, .slice none 0 0] 107)) := (Below.refl _ _).alloc (Nat.le_refl _) _
          have q8 := blk_new (w6) (.cells #[.slice none 0 0, .slice none 0 0, .slice none 0 0, .map none, .slice none 0 0] 107)
          have hP8 := hP.below hal
          refine hK.out _ _ ⟨blk_below hHeld.1 hal, blk_below hHeld.2.1 hal, blk_below hHeld.2.2.1 hal, hHeld.2.2.2.1.trans (below_weaken hal hHeld.2.2.2.1.size), (blk_cell (blk_below hHeld.1 hal) 0).trans rfl, (blk_cell (blk_below hHeld.1 hal) 1).trans rfl, (blk_cell (blk_below hHeld.1 hal) 2).trans rfl, (blk_cell (blk_below hHeld.2.1 hal) 0).trans rfl⟩ (fun hHeld => ?_)
          clear hK K
          refine no_ 6 ?_
          exact norm_ (by first | (simp only [putAll, Act.put, List.setIfInBounds_toArray, List.set_cons_zero, List.set_cons_succ]; done) | (simp only [putAll, Act.put, List.setIfInBounds_toArray, List.set_cons_zero, List.set_cons_succ]; rfl)) (hCont (w6.heap.size, v) _ ⟨hHeld.1, hHeld.2.1, hHeld.2.2.1, hHeld.2.2.2.1, hHeld.2.2.2.2.1, hHeld.2.2.2.2.2.1, hHeld.2.2.2.2.2.2.1, hHeld.2.2.2.2.2.2.2, q8, lz, hP8⟩)
        · skip
          refine value_ (w1 := ?_) (v := ?_) (by rfl) rfl ?_ ?_
          rotate_left 2
          · go_simp
            constructor
            · rfl
            · rfl
          have lz : w.heap.size ≤ (w5).heap.size := hHeld.2.2.2.1.size
          have hal : Below (w5).heap.size (w5) ((w5).alloc (.cells #[.slice none 0 0, .slice none 0 0, .slice none 0 0, .map none, .slice none 0 0] 107)) := (Below.refl _ _).alloc (Nat.le_refl _) _
          have h8_ := blk_new (w5) (.cells #[.slice none 0 0, .slice none 0 0, .slice none 0 0, .map none, .slice none 0 0] 107)
          refine hK.out _ _ ⟨blk_below hHeld.1 hal, blk_below hHeld.2.1 hal, blk_below hHeld.2.2.1 hal, hHeld.2.2.2.1.trans (below_weaken hal hHeld.2.2.2.1.size), (blk_cell (blk_below hHeld.1 hal) 0).trans rfl, (blk_cell (blk_below hHeld.1 hal) 1).trans rfl, (blk_cell (blk_below hHeld.1 hal) 2).trans rfl, (blk_cell (blk_below hHeld.2.1 hal) 0).trans rfl⟩ (fun hHeld => ?_)
          clear hK K
          refine no_ 6 ?_
          refine one_ (i := 4) (N := some 13) #[true, true, true, true, true, false, false, false, true, false, false] rfl rfl (by kernel_rfl) (by decide) (fun K hK => ?_)
          refine goes_ Tryd.func80 (by kernel_rfl) rfl #[.agg #[.slice A0 l0.length c0, .slice A1 l1.length c1, .slice A2 l2.length c2], .bool qd] (by rfl) rfl rfl (by simp only [List.map_toArray, List.map_cons, List.map_nil]; rfl) ?_
          refine (HASK.out _ hHeld.2.2.2.1).mono ?_
          rintro e w6 ⟨v, rfl, hP, hb⟩
          refine ⟨_, rfl, ?_⟩
          have q8 := blk_below h8_ hb
          refine hK.out _ _ ⟨blk_below hHeld.1 hb, blk_below hHeld.2.1 hb, blk_below hHeld.2.2.1 hb, hHeld.2.2.2.1.trans (below_weaken hb hHeld.2.2.2.1.size), (blk_cell (blk_below hHeld.1 hb) 0).trans rfl, (blk_cell (blk_below hHeld.1 hb) 1).trans rfl, (blk_cell (blk_below hHeld.1 hb) 2).trans rfl, (blk_cell (blk_below hHeld.2.1 hb) 0).trans rfl⟩ (fun hHeld => ?_)
          clear hK K
          refine no_ 13 ?_
          refine pu_ 5 (some 8) ?_
          refine pu_ 6 (some 14) ?_
          refine pu_ 7 (some 15) ?_
          exact norm_ (by first | (simp only [putAll, Act.put, List.setIfInBounds_toArray, List.set_cons_zero, List.set_cons_succ]; done) | (simp only [putAll, Act.put, List.setIfInBounds_toArray, List.set_cons_zero, List.set_cons_succ]; rfl)) (hCont (w5.heap.size, v) _ ⟨hHeld.1, hHeld.2.1, hHeld.2.2.1, hHeld.2.2.2.1, hHeld.2.2.2.2.1, hHeld.2.2.2.2.2.1, hHeld.2.2.2.2.2.2.1, hHeld.2.2.2.2.2.2.2, q8, lz, hP⟩)
      · skip
        refine value_ (w1 := ?_) (v := ?_) (by rfl) rfl ?_ ?_
        rotate_left 2
        · go_simp
          constructor
          · rfl
          · rfl
        have lz : w.heap.size ≤ (wP.drew).heap.size := hHeld.2.2.2.1.size
        have hal : Below (wP.drew).heap.size (wP.drew) ((wP.drew).alloc (.cells #[.slice none 0 0, .slice none 0 0, .slice none 0 0, .map none, .slice none 0 0] 107)) := (Below.refl _ _).alloc (Nat.le_refl _) _
        have h8_ := blk_new (wP.drew) (.cells #[.slice none 0 0, .slice none 0 0, .slice none 0 0, .map none, .slice none 0 0] 107)
        refine hK.out _ _ ⟨blk_below hHeld.1 hal, blk_below hHeld.2.1 hal, blk_below hHeld.2.2.1 hal, hHeld.2.2.2.1.trans (below_weaken hal hHeld.2.2.2.1.size), (blk_cell (blk_below hHeld.1 hal) 0).trans rfl, (blk_cell (blk_below hHeld.1 hal) 1).trans rfl, (blk_cell (blk_below hHeld.1 hal) 2).trans rfl, (blk_cell (blk_below hHeld.2.1 hal) 0).trans rfl⟩ (fun hHeld => ?_)
        clear hK K
        refine no_ 6 ?_
        refine one_ (i := 3) (N := some 12) #[true, true, true, true, false, false, false, false, true, false, false] rfl rfl (by kernel_rfl) (by decide) (fun K hK => ?_)
        refine goes_ Tryd.func81 (by kernel_rfl) rfl #[.agg #[.slice A0 l0.length c0, .slice A1 l1.length c1, .slice A2 l2.length c2], .int .i64 d] (by rfl) rfl rfl (by simp only [List.map_toArray, List.map_cons, List.map_nil]; rfl) ?_
        refine (HDAY.out _ hHeld.2.2.2.1).mono ?_
        rintro e w5 ⟨rfl, hb⟩
        refine ⟨_, rfl, ?_⟩
        have h8b := blk_below h8_ hb
        refine hK.out _ _ ⟨blk_below hHeld.1 hb, blk_below hHeld.2.1 hb, blk_below hHeld.2.2.1 hb, hHeld.2.2.2.1.trans (below_weaken hb hHeld.2.2.2.1.size), (blk_cell (blk_below hHeld.1 hb) 0).trans rfl, (blk_cell (blk_below hHeld.1 hb) 1).trans rfl, (blk_cell (blk_below hHeld.1 hb) 2).trans rfl, (blk_cell (blk_below hHeld.2.1 hb) 0).trans rfl⟩ (fun hHeld => ?_)
        clear hK K
        refine no_ 12 ?_
        refine one_ (i := 4) (N := some 13) #[true, true, true, true, true, false, false, false, true, false, false] rfl rfl (by kernel_rfl) (by decide) (fun K hK => ?_)
        refine goes_ Tryd.func80 (by kernel_rfl) rfl #[.agg #[.slice A0 l0.length c0, .slice A1 l1.length c1, .slice A2 l2.length c2], .bool qd] (by rfl) rfl rfl (by simp only [List.map_toArray, List.map_cons, List.map_nil]; rfl) ?_
        refine (HASK.out _ hHeld.2.2.2.1).mono ?_
        rintro e w6 ⟨v, rfl, hP, hb⟩
        refine ⟨_, rfl, ?_⟩
        have q8 := blk_below h8b hb
        refine hK.out _ _ ⟨blk_below hHeld.1 hb, blk_below hHeld.2.1 hb, blk_below hHeld.2.2.1 hb, hHeld.2.2.2.1.trans (below_weaken hb hHeld.2.2.2.1.size), (blk_cell (blk_below hHeld.1 hb) 0).trans rfl, (blk_cell (blk_below hHeld.1 hb) 1).trans rfl, (blk_cell (blk_below hHeld.1 hb) 2).trans rfl, (blk_cell (blk_below hHeld.2.1 hb) 0).trans rfl⟩ (fun hHeld => ?_)
        clear hK K
        refine no_ 13 ?_
        refine pu_ 5 (some 8) ?_
        refine pu_ 6 (some 14) ?_
        refine pu_ 7 (some 15) ?_
        exact norm_ (by first | (simp only [putAll, Act.put, List.setIfInBounds_toArray, List.set_cons_zero, List.set_cons_succ]; done) | (simp only [putAll, Act.put, List.setIfInBounds_toArray, List.set_cons_zero, List.set_cons_succ]; rfl)) (hCont (wP.drew.heap.size, v) _ ⟨hHeld.1, hHeld.2.1, hHeld.2.2.1, hHeld.2.2.2.1, hHeld.2.2.2.2.1, hHeld.2.2.2.2.2.1, hHeld.2.2.2.2.2.2.1, hHeld.2.2.2.2.2.2.2, q8, lz, hP⟩)
    rintro ⟨g6, v⟩ w' ⟨s0, s1, s2, s3, s4, s5, s6, s7, h8, hg6, hP⟩
    obtain ⟨B0, n0, d0, B1, n1, d1, B2, n2, d2, mp, B3, n3, d3, rfl, hP⟩ := hP
    have hHeld : w'.heap[w.heap.size]? = some (.cells #[.slice A0 l0.length c0, .slice A1 l1.length c1, .slice A2 l2.length c2] 26 (0, 0)) ∧ w'.heap[w.heap.size + 1]? = some (.cells #[.int .i64 d] 3 (0, 0)) ∧ w'.heap[w.heap.size + 1 + 1]? = some (.cells #[.int .i64 0, .int .i64 0] 32 (0, 0)) ∧ Below w.heap.size w w' ∧ w'.cell? ⟨w.heap.size, 0, none⟩ = some (.slice A0 l0.length c0) ∧ w'.cell? ⟨w.heap.size, 1, none⟩ = some (.slice A1 l1.length c1) ∧ w'.cell? ⟨w.heap.size, 2, none⟩ = some (.slice A2 l2.length c2) ∧ w'.cell? ⟨w.heap.size + 1, 0, none⟩ = some (.int .i64 d) := ⟨s0, s1, s2, s3, s4, s5, s6, s7⟩
    have k0 := (blk_cell h8 0).trans rfl
    have k1 := (blk_cell h8 1).trans rfl
    have k2 := (blk_cell h8 2).trans rfl
    have k3 := (blk_cell h8 3).trans rfl
    have k4 := (blk_cell h8 4).trans rfl
    have f0 := blk_frozen h8 0
    have f1 := blk_frozen h8 1
    have f2 := blk_frozen h8 2
    have f3 := blk_frozen h8 3
    have f4 := blk_frozen h8 4
    have l8 := blk_lt h8
    have H8 := Lib.hid h8
    have HP := Lib.hid hP
    have HHE := Lib.hid hHeld
    clear h8 hP s0 s1 s2 s3
    refine norm_ (a' := ?_) ?_ ?_
    rotate_left
    · simp only [putAll, Act.put, List.setIfInBounds_toArray, List.set_cons_zero, List.set_cons_succ]
      rfl
    refine last_ (i := 9) (N := none) #[true, true, true, true, true, true, true, true, true, true, false] rfl rfl (by kernel_rfl) (by decide) (fun K hK => ?_)
    refine skip_ (w1 := ?_) (by rfl) rfl ?_ ?_
    rotate_left
    · go_simp
      rfl
    refine hK.out _ _ ?_
    clear hK K
    refine pu_ 10 (some 7) ?_
    refine done_ (by kernel_rfl) ?_
  
    obtain ⟨u2, u3, u4, uB, _⟩ := HHE.out
    have nb2 : w.heap.size ≠ g6 := fun e => by
      have := H8.out
      rw [← e, u2] at this
      simp at this
    have nb3 : w.heap.size + 1 ≠ g6 := fun e => by
      have := H8.out
      rw [← e, u3] at this
      simp at this
    have nb4 : w.heap.size + 1 + 1 ≠ g6 := fun e => by
      have := H8.out
      rw [← e, u4] at this
      simp at this
    obtain ⟨W8, hW8⟩ : ∃ W, W = (((((w'.setCell ⟨g6, 0, none⟩ (.slice B0 n0 d0)).setCell ⟨g6, 1, none⟩ (.slice B1 n1 d1)).setCell ⟨g6, 2, none⟩ (.slice B2 n2 d2)).setCell ⟨g6, 3, none⟩ (.map mp)).setCell ⟨g6, 4, none⟩ (.slice B3 n3 d3)) := ⟨_, rfl⟩
    rw [← hW8]
    have h88 : W8.heap[g6]? = some (.cells #[.slice B0 n0 d0, .slice B1 n1 d1, .slice B2 n2 d2, .map mp, .slice B3 n3 d3] 107 (0, 0)) := by rw [hW8]; exact blk_put (blk_set (blk_set (blk_set (blk_set H8.out 0 _) 1 _) 2 _) 3 _) 4 _ rfl
    have hch : Chg (fun k => k = g6) w' W8 := by rw [hW8]; exact (((((Chg.cell (S := fun k => k = g6) w' g6 0 (.slice B0 n0 d0) rfl).trans (Chg.cell _ g6 1 (.slice B1 n1 d1) rfl)).trans (Chg.cell _ g6 2 (.slice B2 n2 d2) rfl)).trans (Chg.cell _ g6 3 (.map mp) rfl)).trans (Chg.cell _ g6 4 (.slice B3 n3 d3) rfl))
    have h82 := (hch.block _ (blk_lt u2) nb2).trans u2
    have h83 := (hch.block _ (blk_lt u3) nb3).trans u3
    have h84 := (hch.block _ (blk_lt u4) nb4).trans u4
    have hB8 : Below w.heap.size w W8 := uB.trans ⟨hch.os, hch.tape, hch.output, hch.size, fun k hk => hch.block k (Nat.lt_of_lt_of_le hk uB.size) (by omega)⟩
    have HCH := Lib.hid hch
    clear hW8 hch u2 u3 u4 uB HHE k0 k1 k2 k3 k4 f0 f1 f2 f3 f4 l8 s4 s5 s6 s7 hHeld
    have m0 := (blk_cell h84 0).trans rfl
    have m1 := (blk_cell h84 1).trans rfl
    have q0 := blk_frozen h84 0
    have q1 := blk_frozen h84 1
    have l4 := blk_lt h84
    go_wp2
    refine bodyPost_ret (results_ct rfl _ _ (w.heap.size + 1 + 1) 32 #[.int .i64 0, .int .i64 0] (0, 0) _ rfl (blk_put (blk_set h84 0 (.int .i64 0)) 1 (.int .i64 0) rfl) Tryd.underlying32 rfl (by kernel_rfl)) rfl ⟨rfl, (hB8.setCell (p := ⟨w.heap.size + 1 + 1, 0, none⟩) (by simp; omega) _).setCell (p := ⟨w.heap.size + 1 + 1, 1, none⟩) (by simp; omega) _⟩
def wagonsF (ls : List S92) (ds : List S90) (ks : List S43) (d : Int) : Int × Int × Int :=
  if askCode ls ds ks (decide (0 ≤ d ∧ d ≤ (ds.length : Int) - 1)) = 0 then ((spanF (fun t => t.getD (d.toNat) 0) (truthsAll ls ds ks []) ((truthsAll ls ds ks []).headD [] |>.getD (d.toNat) 0)).1, (spanF (fun t => t.getD (d.toNat) 0) (truthsAll ls ds ks []) ((truthsAll ls ds ks []).headD [] |>.getD (d.toNat) 0)).2, 0) else (0, 0, askCode ls ds ks (decide (0 ≤ d ∧ d ≤ (ds.length : Int) - 1)))
set_option maxHeartbeats 4000000 in
set_option maxRecDepth 100000 in
theorem wagons_calls (A0 A1 A2 : Option Addr) (c0 c1 c2 : Nat) (l0 : List S92) (l1 : List S90) (l2 : List S43) (w : World) (hG : GOK w) (hr0 : Kd.C k92 w A0 l0.length l0) (hc0 : l0.length ≤ c0) (hr1 : Kd.C k90 w A1 l1.length l1) (hc1 : l1.length ≤ c1) (hr2 : Kd.C k43 w A2 l2.length l2) (hc2 : l2.length ≤ c2) (d : Int) :
    Calls Tryd.prog 23 #[.agg #[.slice A0 l0.length c0, .slice A1 l1.length c1, .slice A2 l2.length c2], .int .i64 d] w fun e w' => e = .returned (.tuple #[.agg #[.int .i64 (wagonsF l0 l1 l2 d).1, .int .i64 (wagonsF l0 l1 l2 d).2.1], .int .i64 (wagonsF l0 l1 l2 d).2.2]) ∧ Below w.heap.size w w' := by
  have h0 : (l0.length : Int) ≤ 9223372036854775807 := by have := hr0.2.1; omega
  have h1 : (l1.length : Int) ≤ 9223372036854775807 := by have := hr1.2.1; omega
  have h2 : (l2.length : Int) ≤ 9223372036854775807 := by have := hr2.2.1; omega
  obtain ⟨qd, hqd⟩ : ∃ q, q = decide (0 ≤ d ∧ d ≤ (l1.length : Int) - 1) := ⟨_, rfl⟩
  have HASK := Lib.hid (ask_calls A0 A1 A2 c0 c1 c2 l0 l1 l2 w hG hr0 hc0 hr1 hc1 hr2 hc2 h0 h1 h2 qd)
  have HDAY : Hid (∀ W, Below w.heap.size w W → Calls Tryd.prog 81 #[.agg #[.slice A0 l0.length c0, .slice A1 l1.length c1, .slice A2 l2.length c2], .int .i64 d] W fun e w' => e = .returned (.bool qd) ∧ Below W.heap.size W w') :=
    Lib.hid fun W hW => by
      rw [hqd]
      exact roll_isDay.calls A0 c0 l0 A1 c1 l1 A2 c2 l2 d _ W (Kd.C_below hr0 hW) hc0 (Kd.C_below hr1 hW) hc1 (Kd.C_below hr2 hW) hc2 (isDay_law l0 l1 l2 d h1)
  unfold wagonsF
  rw [← hqd]
  have HQD := Lib.hid hqd
  obtain ⟨code, hcode⟩ : ∃ c, c = askCode l0 l1 l2 qd := ⟨_, rfl⟩
  rw [← hcode]
  rw [← hcode] at HASK
  have HCODE := Lib.hid hcode
  clear hG hr0 hr1 hr2 hqd hcode h0 h1 h2
  by_cases hz : code = 0
  · rw [if_pos hz]
    have ht : (code != 0) = false := by simpa using hz
    obtain ⟨hok, hq, hT0⟩ := askCode_zero (HCODE.out.symm.trans hz)
    have hdd : 0 ≤ d ∧ d ≤ (l1.length : Int) - 1 := by
      have := HQD.out
      rw [hq] at this
      simpa using this.symm
    have hd5 : l1.length ≤ 5 := (ok_facts hok).2.2.1
    obtain ⟨day, rfl⟩ := Int.eq_ofNat_of_zero_le hdd.1
    have hday : day < 5 := by omega
    obtain ⟨r1, hr1⟩ : ∃ x, x = (spanF (fun t => t.getD ((day : Int).toNat) 0) (truthsAll l0 l1 l2 []) ((truthsAll l0 l1 l2 []).headD [] |>.getD ((day : Int).toNat) 0)).1 := ⟨_, rfl⟩
    obtain ⟨r2, hr2⟩ : ∃ x, x = (spanF (fun t => t.getD ((day : Int).toNat) 0) (truthsAll l0 l1 l2 []) ((truthsAll l0 l1 l2 []).headD [] |>.getD ((day : Int).toNat) 0)).2 := ⟨_, rfl⟩
    rw [← hr1, ← hr2]
    have HR1 := Lib.hid hr1
    have HR2 := Lib.hid hr2
    have HZ := Lib.hid hz
    have HOKB := Lib.hid hok
    clear hr1 hr2 hz hok hq hdd hd5
    go_enter Tryd.func23, Tryd.ntmps23
    go_upto_region 1 with fail
    obtain ⟨wP, hwP⟩ : ∃ W, W = ((w.alloc (.cells #[.slice A0 l0.length c0, .slice A1 l1.length c1, .slice A2 l2.length c2] 26)).alloc (.cells #[.int .i64 (day : Int)] 3)).alloc (.cells #[.int .i64 0, .int .i64 0] 32) := ⟨_, rfl⟩
    rw [← hwP]
    have h2_ : wP.heap[w.heap.size]? = some (.cells #[.slice A0 l0.length c0, .slice A1 l1.length c1, .slice A2 l2.length c2] 26 (0, 0)) := by rw [hwP]; exact blk_alloc (blk_alloc (blk_new _ _) _) _
    have h3_ : wP.heap[w.heap.size + 1]? = some (.cells #[.int .i64 (day : Int)] 3 (0, 0)) := by rw [hwP]; exact blk_alloc (blk_at (w.alloc _) _ _ (by simp)) _
    have h4_ : wP.heap[w.heap.size + 1 + 1]? = some (.cells #[.int .i64 0, .int .i64 0] 32 (0, 0)) := by rw [hwP]; exact blk_at _ _ _ (by simp)
    have hB_ : Below w.heap.size w wP.drew := by rw [hwP]; exact by repeat (first | exact Below.refl _ _ | refine Below.alloc ?_ (by simp <;> omega) _ | refine Below.setCell ?_ (by simp <;> omega) _ | apply Below.drew)
    clear hwP
    refine start_ (n := 11) (S := fun w' => w'.heap[w.heap.size]? = some (.cells #[.slice A0 l0.length c0, .slice A1 l1.length c1, .slice A2 l2.length c2] 26 (0, 0)) ∧ w'.heap[w.heap.size + 1]? = some (.cells #[.int .i64 (day : Int)] 3 (0, 0)) ∧ w'.heap[w.heap.size + 1 + 1]? = some (.cells #[.int .i64 0, .int .i64 0] 32 (0, 0)) ∧ Below w.heap.size w w' ∧ w'.cell? ⟨w.heap.size, 0, none⟩ = some (.slice A0 l0.length c0) ∧ w'.cell? ⟨w.heap.size, 1, none⟩ = some (.slice A1 l1.length c1) ∧ w'.cell? ⟨w.heap.size, 2, none⟩ = some (.slice A2 l2.length c2) ∧ w'.cell? ⟨w.heap.size + 1, 0, none⟩ = some (.int .i64 (day : Int))) (ds := [9]) #[false, false, false, false, false, false, false, false, false, false, false] (by kernel_rfl) rfl rfl ⟨h2_, h3_, h4_, hB_, (blk_cell (h2_) 0).trans rfl, (blk_cell (h2_) 1).trans rfl, (blk_cell (h2_) 2).trans rfl, (blk_cell (h3_) 0).trans rfl⟩ (fun hHeld => ?_)
    refine ta_ 0 (some 9) (s := hHeld) (y := by rintro w' ⟨s0, s1, s2, s3, s4, s5, s6, s7⟩; go_simp; with_reducible rfl) (h := ?_)
    refine ta_ 1 (some 10) (s := hHeld) (y := by rintro w' ⟨s0, s1, s2, s3, s4, s5, s6, s7⟩; go_simp; with_reducible rfl) (h := ?_)
    refine ta_ 2 (some 11) (s := hHeld) (y := by rintro w' ⟨s0, s1, s2, s3, s4, s5, s6, s7⟩; go_simp; with_reducible rfl) (h := ?_)
    refine join_ (σ := Nat × Value) 2 #[true, true, true, true, true, true, true, true, true, false, false] (fun s => [(12, .bool qd), (13, .tuple #[s.2, .int .i64 code]), (8, .tuple #[s.2, .int .i64 code]), (14, s.2), (15, .int .i64 code), (6, .pointer (some ⟨s.1, 0, none⟩))]) (fun s w' => w'.heap[w.heap.size]? = some (.cells #[.slice A0 l0.length c0, .slice A1 l1.length c1, .slice A2 l2.length c2] 26 (0, 0)) ∧ w'.heap[w.heap.size + 1]? = some (.cells #[.int .i64 (day : Int)] 3 (0, 0)) ∧ w'.heap[w.heap.size + 1 + 1]? = some (.cells #[.int .i64 0, .int .i64 0] 32 (0, 0)) ∧ Below w.heap.size w w' ∧ w'.cell? ⟨w.heap.size, 0, none⟩ = some (.slice A0 l0.length c0) ∧ w'.cell? ⟨w.heap.size, 1, none⟩ = some (.slice A1 l1.length c1) ∧ w'.cell? ⟨w.heap.size, 2, none⟩ = some (.slice A2 l2.length c2) ∧ w'.cell? ⟨w.heap.size + 1, 0, none⟩ = some (.int .i64 (day : Int)) ∧ w'.heap[s.1]? = some (.cells #[.slice none 0 0, .slice none 0 0, .slice none 0 0, .map none, .slice none 0 0] 107 (0, 0)) ∧ w.heap.size ≤ s.1 ∧ AskP A0 A1 A2 c0 c1 c2 l0 l1 l2 w.heap.size code s.2 w') ?_ ?_
    rotate_left
    · intro hCont
      refine two_ (i := 3) (j := 8) (Ni := some 12) (Nj := some 6) #[true, true, true, true, false, false, false, false, false, false, false] #[true, true, true, false, false, false, false, false, true, false, false] rfl rfl rfl rfl (by kernel_rfl) (by decide) (by decide) (fun K hK => ?_) (fun K hK => ?_)
      · skip
        refine goes_ Tryd.func81 (by kernel_rfl) rfl #[.agg #[.slice A0 l0.length c0, .slice A1 l1.length c1, .slice A2 l2.length c2], .int .i64 (day : Int)] (by rfl) rfl rfl (by simp only [List.map_toArray, List.map_cons, List.map_nil]; rfl) ?_
        refine (HDAY.out _ hHeld.2.2.2.1).mono ?_
        rintro e w5 ⟨rfl, hb⟩
        refine ⟨_, rfl, ?_⟩
        refine hK.out _ _ ⟨blk_below hHeld.1 hb, blk_below hHeld.2.1 hb, blk_below hHeld.2.2.1 hb, hHeld.2.2.2.1.trans (below_weaken hb hHeld.2.2.2.1.size), (blk_cell (blk_below hHeld.1 hb) 0).trans rfl, (blk_cell (blk_below hHeld.1 hb) 1).trans rfl, (blk_cell (blk_below hHeld.1 hb) 2).trans rfl, (blk_cell (blk_below hHeld.2.1 hb) 0).trans rfl⟩ (fun hHeld => ?_)
        clear hK K
        refine no_ 12 ?_
        refine two_ (i := 4) (j := 8) (Ni := some 13) (Nj := some 6) #[true, true, true, true, true, false, false, false, false, false, false] #[true, true, true, true, false, false, false, false, true, false, false] rfl rfl rfl rfl (by kernel_rfl) (by decide) (by decide) (fun K hK => ?_) (fun K hK => ?_)
        · skip
          refine goes_ Tryd.func80 (by kernel_rfl) rfl #[.agg #[.slice A0 l0.length c0, .slice A1 l1.length c1, .slice A2 l2.length c2], .bool qd] (by rfl) rfl rfl (by simp only [List.map_toArray, List.map_cons, List.map_nil]; rfl) ?_
          refine (HASK.out _ hHeld.2.2.2.1).mono ?_
          rintro e w6 ⟨v, rfl, hP, hb⟩
          refine ⟨_, rfl, ?_⟩
          refine hK.out _ _ ⟨blk_below hHeld.1 hb, blk_below hHeld.2.1 hb, blk_below hHeld.2.2.1 hb, hHeld.2.2.2.1.trans (below_weaken hb hHeld.2.2.2.1.size), (blk_cell (blk_below hHeld.1 hb) 0).trans rfl, (blk_cell (blk_below hHeld.1 hb) 1).trans rfl, (blk_cell (blk_below hHeld.1 hb) 2).trans rfl, (blk_cell (blk_below hHeld.2.1 hb) 0).trans rfl⟩ (fun hHeld => ?_)
          clear hK K
          refine no_ 13 ?_
          refine pu_ 5 (some 8) ?_
          refine pu_ 6 (some 14) ?_
          refine pu_ 7 (some 15) ?_
          refine one_ (i := 8) (N := some 6) #[true, true, true, true, true, true, true, true, true, false, false] rfl rfl (by kernel_rfl) (by decide) (fun K hK => ?_)
          refine value_ (w1 := ?_) (v := ?_) (by rfl) rfl ?_ ?_
          rotate_left 2
          · go_simp
            constructor
            · rfl
            · rfl
          have lz : w.heap.size ≤ (w6).heap.size := hHeld.2.2.2.1.size
          have hal : Below (w6).heap.size (w6) ((w6).alloc (.cells #[.slice none 0 0, .slice none 0 0, .slice none 0 0, .map none, .slice none 0 0] 107)) := (Below.refl _ _).alloc (Nat.le_refl _) _
          have q8 := blk_new (w6) (.cells #[.slice none 0 0, .slice none 0 0, .slice none 0 0, .map none, .slice none 0 0] 107)
          have hP8 := hP.below hal
          refine hK.out _ _ ⟨blk_below hHeld.1 hal, blk_below hHeld.2.1 hal, blk_below hHeld.2.2.1 hal, hHeld.2.2.2.1.trans (below_weaken hal hHeld.2.2.2.1.size), (blk_cell (blk_below hHeld.1 hal) 0).trans rfl, (blk_cell (blk_below hHeld.1 hal) 1).trans rfl, (blk_cell (blk_below hHeld.1 hal) 2).trans rfl, (blk_cell (blk_below hHeld.2.1 hal) 0).trans rfl⟩ (fun hHeld => ?_)
          clear hK K
          refine no_ 6 ?_
          exact norm_ (by first | (simp only [putAll, Act.put, List.setIfInBounds_toArray, List.set_cons_zero, List.set_cons_succ]; done) | (simp only [putAll, Act.put, List.setIfInBounds_toArray, List.set_cons_zero, List.set_cons_succ]; rfl)) (hCont (w6.heap.size, v) _ ⟨hHeld.1, hHeld.2.1, hHeld.2.2.1, hHeld.2.2.2.1, hHeld.2.2.2.2.1, hHeld.2.2.2.2.2.1, hHeld.2.2.2.2.2.2.1, hHeld.2.2.2.2.2.2.2, q8, lz, hP8⟩)
        · skip
          refine value_ (w1 := ?_) (v := ?_) (by rfl) rfl ?_ ?_
          rotate_left 2
          · go_simp
            constructor
            · rfl
            · rfl
          have lz : w.heap.size ≤ (w5).heap.size := hHeld.2.2.2.1.size
          have hal : Below (w5).heap.size (w5) ((w5).alloc (.cells #[.slice none 0 0, .slice none 0 0, .slice none 0 0, .map none, .slice none 0 0] 107)) := (Below.refl _ _).alloc (Nat.le_refl _) _
          have h8_ := blk_new (w5) (.cells #[.slice none 0 0, .slice none 0 0, .slice none 0 0, .map none, .slice none 0 0] 107)
          refine hK.out _ _ ⟨blk_below hHeld.1 hal, blk_below hHeld.2.1 hal, blk_below hHeld.2.2.1 hal, hHeld.2.2.2.1.trans (below_weaken hal hHeld.2.2.2.1.size), (blk_cell (blk_below hHeld.1 hal) 0).trans rfl, (blk_cell (blk_below hHeld.1 hal) 1).trans rfl, (blk_cell (blk_below hHeld.1 hal) 2).trans rfl, (blk_cell (blk_below hHeld.2.1 hal) 0).trans rfl⟩ (fun hHeld => ?_)
          clear hK K
          refine no_ 6 ?_
          refine one_ (i := 4) (N := some 13) #[true, true, true, true, true, false, false, false, true, false, false] rfl rfl (by kernel_rfl) (by decide) (fun K hK => ?_)
          refine goes_ Tryd.func80 (by kernel_rfl) rfl #[.agg #[.slice A0 l0.length c0, .slice A1 l1.length c1, .slice A2 l2.length c2], .bool qd] (by rfl) rfl rfl (by simp only [List.map_toArray, List.map_cons, List.map_nil]; rfl) ?_
          refine (HASK.out _ hHeld.2.2.2.1).mono ?_
          rintro e w6 ⟨v, rfl, hP, hb⟩
          refine ⟨_, rfl, ?_⟩
          have q8 := blk_below h8_ hb
          refine hK.out _ _ ⟨blk_below hHeld.1 hb, blk_below hHeld.2.1 hb, blk_below hHeld.2.2.1 hb, hHeld.2.2.2.1.trans (below_weaken hb hHeld.2.2.2.1.size), (blk_cell (blk_below hHeld.1 hb) 0).trans rfl, (blk_cell (blk_below hHeld.1 hb) 1).trans rfl, (blk_cell (blk_below hHeld.1 hb) 2).trans rfl, (blk_cell (blk_below hHeld.2.1 hb) 0).trans rfl⟩ (fun hHeld => ?_)
          clear hK K
          refine no_ 13 ?_
          refine pu_ 5 (some 8) ?_
          refine pu_ 6 (some 14) ?_
          refine pu_ 7 (some 15) ?_
          exact norm_ (by first | (simp only [putAll, Act.put, List.setIfInBounds_toArray, List.set_cons_zero, List.set_cons_succ]; done) | (simp only [putAll, Act.put, List.setIfInBounds_toArray, List.set_cons_zero, List.set_cons_succ]; rfl)) (hCont (w5.heap.size, v) _ ⟨hHeld.1, hHeld.2.1, hHeld.2.2.1, hHeld.2.2.2.1, hHeld.2.2.2.2.1, hHeld.2.2.2.2.2.1, hHeld.2.2.2.2.2.2.1, hHeld.2.2.2.2.2.2.2, q8, lz, hP⟩)
      · skip
        refine value_ (w1 := ?_) (v := ?_) (by rfl) rfl ?_ ?_
        rotate_left 2
        · go_simp
          constructor
          · rfl
          · rfl
        have lz : w.heap.size ≤ (wP.drew).heap.size := hHeld.2.2.2.1.size
        have hal : Below (wP.drew).heap.size (wP.drew) ((wP.drew).alloc (.cells #[.slice none 0 0, .slice none 0 0, .slice none 0 0, .map none, .slice none 0 0] 107)) := (Below.refl _ _).alloc (Nat.le_refl _) _
        have h8_ := blk_new (wP.drew) (.cells #[.slice none 0 0, .slice none 0 0, .slice none 0 0, .map none, .slice none 0 0] 107)
        refine hK.out _ _ ⟨blk_below hHeld.1 hal, blk_below hHeld.2.1 hal, blk_below hHeld.2.2.1 hal, hHeld.2.2.2.1.trans (below_weaken hal hHeld.2.2.2.1.size), (blk_cell (blk_below hHeld.1 hal) 0).trans rfl, (blk_cell (blk_below hHeld.1 hal) 1).trans rfl, (blk_cell (blk_below hHeld.1 hal) 2).trans rfl, (blk_cell (blk_below hHeld.2.1 hal) 0).trans rfl⟩ (fun hHeld => ?_)
        clear hK K
        refine no_ 6 ?_
        refine one_ (i := 3) (N := some 12) #[true, true, true, true, false, false, false, false, true, false, false] rfl rfl (by kernel_rfl) (by decide) (fun K hK => ?_)
        refine goes_ Tryd.func81 (by kernel_rfl) rfl #[.agg #[.slice A0 l0.length c0, .slice A1 l1.length c1, .slice A2 l2.length c2], .int .i64 (day : Int)] (by rfl) rfl rfl (by simp only [List.map_toArray, List.map_cons, List.map_nil]; rfl) ?_
        refine (HDAY.out _ hHeld.2.2.2.1).mono ?_
        rintro e w5 ⟨rfl, hb⟩
        refine ⟨_, rfl, ?_⟩
        have h8b := blk_below h8_ hb
        refine hK.out _ _ ⟨blk_below hHeld.1 hb, blk_below hHeld.2.1 hb, blk_below hHeld.2.2.1 hb, hHeld.2.2.2.1.trans (below_weaken hb hHeld.2.2.2.1.size), (blk_cell (blk_below hHeld.1 hb) 0).trans rfl, (blk_cell (blk_below hHeld.1 hb) 1).trans rfl, (blk_cell (blk_below hHeld.1 hb) 2).trans rfl, (blk_cell (blk_below hHeld.2.1 hb) 0).trans rfl⟩ (fun hHeld => ?_)
        clear hK K
        refine no_ 12 ?_
        refine one_ (i := 4) (N := some 13) #[true, true, true, true, true, false, false, false, true, false, false] rfl rfl (by kernel_rfl) (by decide) (fun K hK => ?_)
        refine goes_ Tryd.func80 (by kernel_rfl) rfl #[.agg #[.slice A0 l0.length c0, .slice A1 l1.length c1, .slice A2 l2.length c2], .bool qd] (by rfl) rfl rfl (by simp only [List.map_toArray, List.map_cons, List.map_nil]; rfl) ?_
        refine (HASK.out _ hHeld.2.2.2.1).mono ?_
        rintro e w6 ⟨v, rfl, hP, hb⟩
        refine ⟨_, rfl, ?_⟩
        have q8 := blk_below h8b hb
        refine hK.out _ _ ⟨blk_below hHeld.1 hb, blk_below hHeld.2.1 hb, blk_below hHeld.2.2.1 hb, hHeld.2.2.2.1.trans (below_weaken hb hHeld.2.2.2.1.size), (blk_cell (blk_below hHeld.1 hb) 0).trans rfl, (blk_cell (blk_below hHeld.1 hb) 1).trans rfl, (blk_cell (blk_below hHeld.1 hb) 2).trans rfl, (blk_cell (blk_below hHeld.2.1 hb) 0).trans rfl⟩ (fun hHeld => ?_)
        clear hK K
        refine no_ 13 ?_
        refine pu_ 5 (some 8) ?_
        refine pu_ 6 (some 14) ?_
        refine pu_ 7 (some 15) ?_
        exact norm_ (by first | (simp only [putAll, Act.put, List.setIfInBounds_toArray, List.set_cons_zero, List.set_cons_succ]; done) | (simp only [putAll, Act.put, List.setIfInBounds_toArray, List.set_cons_zero, List.set_cons_succ]; rfl)) (hCont (wP.drew.heap.size, v) _ ⟨hHeld.1, hHeld.2.1, hHeld.2.2.1, hHeld.2.2.2.1, hHeld.2.2.2.2.1, hHeld.2.2.2.2.2.1, hHeld.2.2.2.2.2.2.1, hHeld.2.2.2.2.2.2.2, q8, lz, hP⟩)
    rintro ⟨g6, v⟩ w' ⟨s0, s1, s2, s3, s4, s5, s6, s7, h8, hg6, hP⟩
    obtain ⟨B0, n0, d0, B1, n1, d1, B2, n2, d2, mp, B3, n3, d3, rfl, hP⟩ := hP
    have hHeld : w'.heap[w.heap.size]? = some (.cells #[.slice A0 l0.length c0, .slice A1 l1.length c1, .slice A2 l2.length c2] 26 (0, 0)) ∧ w'.heap[w.heap.size + 1]? = some (.cells #[.int .i64 (day : Int)] 3 (0, 0)) ∧ w'.heap[w.heap.size + 1 + 1]? = some (.cells #[.int .i64 0, .int .i64 0] 32 (0, 0)) ∧ Below w.heap.size w w' ∧ w'.cell? ⟨w.heap.size, 0, none⟩ = some (.slice A0 l0.length c0) ∧ w'.cell? ⟨w.heap.size, 1, none⟩ = some (.slice A1 l1.length c1) ∧ w'.cell? ⟨w.heap.size, 2, none⟩ = some (.slice A2 l2.length c2) ∧ w'.cell? ⟨w.heap.size + 1, 0, none⟩ = some (.int .i64 (day : Int)) := ⟨s0, s1, s2, s3, s4, s5, s6, s7⟩
    have k0 := (blk_cell h8 0).trans rfl
    have k1 := (blk_cell h8 1).trans rfl
    have k2 := (blk_cell h8 2).trans rfl
    have k3 := (blk_cell h8 3).trans rfl
    have k4 := (blk_cell h8 4).trans rfl
    have f0 := blk_frozen h8 0
    have f1 := blk_frozen h8 1
    have f2 := blk_frozen h8 2
    have f3 := blk_frozen h8 3
    have f4 := blk_frozen h8 4
    have l8 := blk_lt h8
    have H8 := Lib.hid h8
    have HP := Lib.hid hP
    have HHE := Lib.hid hHeld
    clear h8 hP s0 s1 s2 s3
    refine norm_ (a' := ?_) ?_ ?_
    rotate_left
    · simp only [putAll, Act.put, List.setIfInBounds_toArray, List.set_cons_zero, List.set_cons_succ]
      rfl
    refine last_ (i := 9) (N := none) #[true, true, true, true, true, true, true, true, true, true, false] rfl rfl (by kernel_rfl) (by decide) (fun K hK => ?_)
    refine skip_ (w1 := ?_) (by rfl) rfl ?_ ?_
    rotate_left
    · go_simp
      rfl
    refine hK.out _ _ ?_
    clear hK K
    refine pu_ 10 (some 7) ?_
    refine done_ (by kernel_rfl) ?_
  
    obtain ⟨u2, u3, u4, uB, _⟩ := HHE.out
    have nb2 : w.heap.size ≠ g6 := fun e => by
      have := H8.out
      rw [← e, u2] at this
      simp at this
    have nb3 : w.heap.size + 1 ≠ g6 := fun e => by
      have := H8.out
      rw [← e, u3] at this
      simp at this
    have nb4 : w.heap.size + 1 + 1 ≠ g6 := fun e => by
      have := H8.out
      rw [← e, u4] at this
      simp at this
    obtain ⟨W8, hW8⟩ : ∃ W, W = (((((w'.setCell ⟨g6, 0, none⟩ (.slice B0 n0 d0)).setCell ⟨g6, 1, none⟩ (.slice B1 n1 d1)).setCell ⟨g6, 2, none⟩ (.slice B2 n2 d2)).setCell ⟨g6, 3, none⟩ (.map mp)).setCell ⟨g6, 4, none⟩ (.slice B3 n3 d3)) := ⟨_, rfl⟩
    rw [← hW8]
    have h88 : W8.heap[g6]? = some (.cells #[.slice B0 n0 d0, .slice B1 n1 d1, .slice B2 n2 d2, .map mp, .slice B3 n3 d3] 107 (0, 0)) := by rw [hW8]; exact blk_put (blk_set (blk_set (blk_set (blk_set H8.out 0 _) 1 _) 2 _) 3 _) 4 _ rfl
    have hch : Chg (fun k => k = g6) w' W8 := by rw [hW8]; exact (((((Chg.cell (S := fun k => k = g6) w' g6 0 (.slice B0 n0 d0) rfl).trans (Chg.cell _ g6 1 (.slice B1 n1 d1) rfl)).trans (Chg.cell _ g6 2 (.slice B2 n2 d2) rfl)).trans (Chg.cell _ g6 3 (.map mp) rfl)).trans (Chg.cell _ g6 4 (.slice B3 n3 d3) rfl))
    have h82 := (hch.block _ (blk_lt u2) nb2).trans u2
    have h83 := (hch.block _ (blk_lt u3) nb3).trans u3
    have h84 := (hch.block _ (blk_lt u4) nb4).trans u4
    have hB8 : Below w.heap.size w W8 := uB.trans ⟨hch.os, hch.tape, hch.output, hch.size, fun k hk => hch.block k (Nat.lt_of_lt_of_le hk uB.size) (by omega)⟩
    have HCH := Lib.hid hch
    clear hW8 hch u2 u3 u4 uB HHE k0 k1 k2 k3 k4 f0 f1 f2 f3 f4 l8 s4 s5 s6 s7 hHeld
    have m0 := (blk_cell h84 0).trans rfl
    have m1 := (blk_cell h84 1).trans rfl
    have q0 := blk_frozen h84 0
    have q1 := blk_frozen h84 1
    have l4 := blk_lt h84
    have c80 := (blk_cell h88 0).trans rfl
    have c81 := (blk_cell h88 1).trans rfl
    have c82 := (blk_cell h88 2).trans rfl
    have c83 := (blk_cell h88 3).trans rfl
    have c84 := (blk_cell h88 4).trans rfl
    have l88 := blk_lt h88
    obtain ⟨e1, e2, e3, e4, e5, e6, e7, e8, e9, e10, ho, _⟩ := HP.out HZ.out
    have ho8 := own_same ho fun k hk => HCH.out.block k (own_lt ho k hk) (fun e => row_ne H8.out (show (107 : Nat) ≠ 123 by decide) ho (by rw [hk, e]))
    rw [← e10] at ho8
    obtain ⟨hF, hn, hcd⟩ := frow_own ho8 (truthsAll_60 (ok_facts HOKB.out).2.2.1)
    have hSP := span_88 B0 B1 B2 B3 n0 d0 n1 d1 n2 d2 d3 mp (truthsAll l0 l1 l2 []) (.pointer (some ⟨w.heap.size + 1, 0, none⟩)) (fun t => t.getD ((day : Int).toNat) 0) W8 hF (truthsAll_60 (ok_facts HOKB.out).2.2.1) hT0 (by omega) (truthsAll_len HOKB.out) (fun W hW t ht => wagons1_calls t day (w.heap.size + 1) W (truthsAll_60 (ok_facts HOKB.out).2.2.1 t ht) hday (Nat.lt_of_lt_of_le (blk_lt h83) hW.size) ((hW.cell (p := ⟨w.heap.size + 1, 0, none⟩) (blk_lt h83)).trans (blk_cell h83 0)))
    have hSP2 : Calls Tryd.prog 82 #[.agg #[.slice B0 n0 d0, .slice B1 n1 d1, .slice B2 n2 d2, .map mp, .slice B3 n3 d3], .func (.func 88) #[] #[.pointer (some ⟨w.heap.size + 1, 0, none⟩)]] W8 fun e w' => e = .returned (.agg #[.int .i64 r1, .int .i64 r2]) ∧ Below W8.heap.size W8 w' := by
      rw [hn, HR1.out, HR2.out]
      exact hSP
    have HSP := Lib.hid hSP2
    have H84 := Lib.hid h84
    have HB8 := Lib.hid hB8
    clear hSP hSP2 e1 e2 e3 e4 e5 e6 e7 e8 e9 e10 ho ho8 hF hn hcd h84 h82 h83 h88 hB8 hT0 m0 m1 q0 q1 l4
    go_wp2_with (go_at_call 82; refine HSP.out.mono ?_; rintro e w9 ⟨rfl, hB9⟩; have h94 := blk_below H84.out hB9; have m0 := (blk_cell h94 0).trans rfl; have m1 := (blk_cell h94 1).trans rfl; have q0 := blk_frozen h94 0; have q1 := blk_frozen h94 1; have l9 := blk_lt h94; have H94 := Lib.hid h94; have HB9 := Lib.hid (HB8.out.trans (below_weaken hB9 HB8.out.size)); clear h94 hB9)
    refine bodyPost_ret (results_ct rfl _ _ (w.heap.size + 1 + 1) 32 #[.int .i64 r1, .int .i64 r2] (0, 0) _ rfl (blk_put (blk_set H94.out 0 (.int .i64 r1)) 1 (.int .i64 r2) rfl) Tryd.underlying32 rfl (by kernel_rfl)) rfl ⟨rfl, (HB9.out.setCell (p := ⟨w.heap.size + 1 + 1, 0, none⟩) (by simp; omega) _).setCell (p := ⟨w.heap.size + 1 + 1, 1, none⟩) (by simp; omega) _⟩
  · rw [if_neg hz]
    have ht : (code != 0) = true := by simpa using hz
    go_enter Tryd.func23, Tryd.ntmps23
    go_upto_region 1 with fail
    obtain ⟨wP, hwP⟩ : ∃ W, W = ((w.alloc (.cells #[.slice A0 l0.length c0, .slice A1 l1.length c1, .slice A2 l2.length c2] 26)).alloc (.cells #[.int .i64 d] 3)).alloc (.cells #[.int .i64 0, .int .i64 0] 32) := ⟨_, rfl⟩
    rw [← hwP]
    have h2_ : wP.heap[w.heap.size]? = some (.cells #[.slice A0 l0.length c0, .slice A1 l1.length c1, .slice A2 l2.length c2] 26 (0, 0)) := by rw [hwP]; exact blk_alloc (blk_alloc (blk_new _ _) _) _
    have h3_ : wP.heap[w.heap.size + 1]? = some (.cells #[.int .i64 d] 3 (0, 0)) := by rw [hwP]; exact blk_alloc (blk_at (w.alloc _) _ _ (by simp)) _
    have h4_ : wP.heap[w.heap.size + 1 + 1]? = some (.cells #[.int .i64 0, .int .i64 0] 32 (0, 0)) := by rw [hwP]; exact blk_at _ _ _ (by simp)
    have hB_ : Below w.heap.size w wP.drew := by rw [hwP]; exact by repeat (first | exact Below.refl _ _ | refine Below.alloc ?_ (by simp <;> omega) _ | refine Below.setCell ?_ (by simp <;> omega) _ | apply Below.drew)
    clear hwP
    refine start_ (n := 11) (S := fun w' => w'.heap[w.heap.size]? = some (.cells #[.slice A0 l0.length c0, .slice A1 l1.length c1, .slice A2 l2.length c2] 26 (0, 0)) ∧ w'.heap[w.heap.size + 1]? = some (.cells #[.int .i64 d] 3 (0, 0)) ∧ w'.heap[w.heap.size + 1 + 1]? = some (.cells #[.int .i64 0, .int .i64 0] 32 (0, 0)) ∧ Below w.heap.size w w' ∧ w'.cell? ⟨w.heap.size, 0, none⟩ = some (.slice A0 l0.length c0) ∧ w'.cell? ⟨w.heap.size, 1, none⟩ = some (.slice A1 l1.length c1) ∧ w'.cell? ⟨w.heap.size, 2, none⟩ = some (.slice A2 l2.length c2) ∧ w'.cell? ⟨w.heap.size + 1, 0, none⟩ = some (.int .i64 d)) (ds := [9]) #[false, false, false, false, false, false, false, false, false, false, false] (by kernel_rfl) rfl rfl ⟨h2_, h3_, h4_, hB_, (blk_cell (h2_) 0).trans rfl, (blk_cell (h2_) 1).trans rfl, (blk_cell (h2_) 2).trans rfl, (blk_cell (h3_) 0).trans rfl⟩ (fun hHeld => ?_)
    refine ta_ 0 (some 9) (s := hHeld) (y := by rintro w' ⟨s0, s1, s2, s3, s4, s5, s6, s7⟩; go_simp; with_reducible rfl) (h := ?_)
    refine ta_ 1 (some 10) (s := hHeld) (y := by rintro w' ⟨s0, s1, s2, s3, s4, s5, s6, s7⟩; go_simp; with_reducible rfl) (h := ?_)
    refine ta_ 2 (some 11) (s := hHeld) (y := by rintro w' ⟨s0, s1, s2, s3, s4, s5, s6, s7⟩; go_simp; with_reducible rfl) (h := ?_)
    refine join_ (σ := Nat × Value) 2 #[true, true, true, true, true, true, true, true, true, false, false] (fun s => [(12, .bool qd), (13, .tuple #[s.2, .int .i64 code]), (8, .tuple #[s.2, .int .i64 code]), (14, s.2), (15, .int .i64 code), (6, .pointer (some ⟨s.1, 0, none⟩))]) (fun s w' => w'.heap[w.heap.size]? = some (.cells #[.slice A0 l0.length c0, .slice A1 l1.length c1, .slice A2 l2.length c2] 26 (0, 0)) ∧ w'.heap[w.heap.size + 1]? = some (.cells #[.int .i64 d] 3 (0, 0)) ∧ w'.heap[w.heap.size + 1 + 1]? = some (.cells #[.int .i64 0, .int .i64 0] 32 (0, 0)) ∧ Below w.heap.size w w' ∧ w'.cell? ⟨w.heap.size, 0, none⟩ = some (.slice A0 l0.length c0) ∧ w'.cell? ⟨w.heap.size, 1, none⟩ = some (.slice A1 l1.length c1) ∧ w'.cell? ⟨w.heap.size, 2, none⟩ = some (.slice A2 l2.length c2) ∧ w'.cell? ⟨w.heap.size + 1, 0, none⟩ = some (.int .i64 d) ∧ w'.heap[s.1]? = some (.cells #[.slice none 0 0, .slice none 0 0, .slice none 0 0, .map none, .slice none 0 0] 107 (0, 0)) ∧ w.heap.size ≤ s.1 ∧ AskP A0 A1 A2 c0 c1 c2 l0 l1 l2 w.heap.size code s.2 w') ?_ ?_
    rotate_left
    · intro hCont
      refine two_ (i := 3) (j := 8) (Ni := some 12) (Nj := some 6) #[true, true, true, true, false, false, false, false, false, false, false] #[true, true, true, false, false, false, false, false, true, false, false] rfl rfl rfl rfl (by kernel_rfl) (by decide) (by decide) (fun K hK => ?_) (fun K hK => ?_)
      · skip
        refine goes_ Tryd.func81 (by kernel_rfl) rfl #[.agg #[.slice A0 l0.length c0, .slice A1 l1.length c1, .slice A2 l2.length c2], .int .i64 d] (by rfl) rfl rfl (by simp only [List.map_toArray, List.map_cons, List.map_nil]; rfl) ?_
        refine (HDAY.out _ hHeld.2.2.2.1).mono ?_
        rintro e w5 ⟨rfl, hb⟩
        refine ⟨_, rfl, ?_⟩
        refine hK.out _ _ ⟨blk_below hHeld.1 hb, blk_below hHeld.2.1 hb, blk_below hHeld.2.2.1 hb, hHeld.2.2.2.1.trans (below_weaken hb hHeld.2.2.2.1.size), (blk_cell (blk_below hHeld.1 hb) 0).trans rfl, (blk_cell (blk_below hHeld.1 hb) 1).trans rfl, (blk_cell (blk_below hHeld.1 hb) 2).trans rfl, (blk_cell (blk_below hHeld.2.1 hb) 0).trans rfl⟩ (fun hHeld => ?_)
        clear hK K
        refine no_ 12 ?_
        refine two_ (i := 4) (j := 8) (Ni := some 13) (Nj := some 6) #[true, true, true, true, true, false, false, false, false, false, false] #[true, true, true, true, false, false, false, false, true, false, false] rfl rfl rfl rfl (by kernel_rfl) (by decide) (by decide) (fun K hK => ?_) (fun K hK => ?_)
        · skip
          refine goes_ Tryd.func80 (by kernel_rfl) rfl #[.agg #[.slice A0 l0.length c0, .slice A1 l1.length c1, .slice A2 l2.length c2], .bool qd] (by rfl) rfl rfl (by simp only [List.map_toArray, List.map_cons, List.map_nil]; rfl) ?_
          refine (HASK.out _ hHeld.2.2.2.1).mono ?_
          rintro e w6 ⟨v, rfl, hP, hb⟩
          refine ⟨_, rfl, ?_⟩
          refine hK.out _ _ ⟨blk_below hHeld.1 hb, blk_below hHeld.2.1 hb, blk_below hHeld.2.2.1 hb, hHeld.2.2.2.1.trans (below_weaken hb hHeld.2.2.2.1.size), (blk_cell (blk_below hHeld.1 hb) 0).trans rfl, (blk_cell (blk_below hHeld.1 hb) 1).trans rfl, (blk_cell (blk_below hHeld.1 hb) 2).trans rfl, (blk_cell (blk_below hHeld.2.1 hb) 0).trans rfl⟩ (fun hHeld => ?_)
          clear hK K
          refine no_ 13 ?_
          refine pu_ 5 (some 8) ?_
          refine pu_ 6 (some 14) ?_
          refine pu_ 7 (some 15) ?_
          refine one_ (i := 8) (N := some 6) #[true, true, true, true, true, true, true, true, true, false, false] rfl rfl (by kernel_rfl) (by decide) (fun K hK => ?_)
          refine value_ (w1 := ?_) (v := ?_) (by rfl) rfl ?_ ?_
          rotate_left 2
          · go_simp
            constructor
            · rfl
            · rfl
          have lz : w.heap.size ≤ (w6).heap.size := hHeld.2.2.2.1.size
          have hal : Below (w6).heap.size (w6) ((w6).alloc (.cells #[.slice none 0 0, .slice none 0 0, .slice none 0 0, .map none, .slice none 0 0] 107)) := (Below.refl _ _).alloc (Nat.le_refl _) _
          have q8 := blk_new (w6) (.cells #[.slice none 0 0, .slice none 0 0, .slice none 0 0, .map none, .slice none 0 0] 107)
          have hP8 := hP.below hal
          refine hK.out _ _ ⟨blk_below hHeld.1 hal, blk_below hHeld.2.1 hal, blk_below hHeld.2.2.1 hal, hHeld.2.2.2.1.trans (below_weaken hal hHeld.2.2.2.1.size), (blk_cell (blk_below hHeld.1 hal) 0).trans rfl, (blk_cell (blk_below hHeld.1 hal) 1).trans rfl, (blk_cell (blk_below hHeld.1 hal) 2).trans rfl, (blk_cell (blk_below hHeld.2.1 hal) 0).trans rfl⟩ (fun hHeld => ?_)
          clear hK K
          refine no_ 6 ?_
          exact norm_ (by first | (simp only [putAll, Act.put, List.setIfInBounds_toArray, List.set_cons_zero, List.set_cons_succ]; done) | (simp only [putAll, Act.put, List.setIfInBounds_toArray, List.set_cons_zero, List.set_cons_succ]; rfl)) (hCont (w6.heap.size, v) _ ⟨hHeld.1, hHeld.2.1, hHeld.2.2.1, hHeld.2.2.2.1, hHeld.2.2.2.2.1, hHeld.2.2.2.2.2.1, hHeld.2.2.2.2.2.2.1, hHeld.2.2.2.2.2.2.2, q8, lz, hP8⟩)
        · skip
          refine value_ (w1 := ?_) (v := ?_) (by rfl) rfl ?_ ?_
          rotate_left 2
          · go_simp
            constructor
            · rfl
            · rfl
          have lz : w.heap.size ≤ (w5).heap.size := hHeld.2.2.2.1.size
          have hal : Below (w5).heap.size (w5) ((w5).alloc (.cells #[.slice none 0 0, .slice none 0 0, .slice none 0 0, .map none, .slice none 0 0] 107)) := (Below.refl _ _).alloc (Nat.le_refl _) _
          have h8_ := blk_new (w5) (.cells #[.slice none 0 0, .slice none 0 0, .slice none 0 0, .map none, .slice none 0 0] 107)
          refine hK.out _ _ ⟨blk_below hHeld.1 hal, blk_below hHeld.2.1 hal, blk_below hHeld.2.2.1 hal, hHeld.2.2.2.1.trans (below_weaken hal hHeld.2.2.2.1.size), (blk_cell (blk_below hHeld.1 hal) 0).trans rfl, (blk_cell (blk_below hHeld.1 hal) 1).trans rfl, (blk_cell (blk_below hHeld.1 hal) 2).trans rfl, (blk_cell (blk_below hHeld.2.1 hal) 0).trans rfl⟩ (fun hHeld => ?_)
          clear hK K
          refine no_ 6 ?_
          refine one_ (i := 4) (N := some 13) #[true, true, true, true, true, false, false, false, true, false, false] rfl rfl (by kernel_rfl) (by decide) (fun K hK => ?_)
          refine goes_ Tryd.func80 (by kernel_rfl) rfl #[.agg #[.slice A0 l0.length c0, .slice A1 l1.length c1, .slice A2 l2.length c2], .bool qd] (by rfl) rfl rfl (by simp only [List.map_toArray, List.map_cons, List.map_nil]; rfl) ?_
          refine (HASK.out _ hHeld.2.2.2.1).mono ?_
          rintro e w6 ⟨v, rfl, hP, hb⟩
          refine ⟨_, rfl, ?_⟩
          have q8 := blk_below h8_ hb
          refine hK.out _ _ ⟨blk_below hHeld.1 hb, blk_below hHeld.2.1 hb, blk_below hHeld.2.2.1 hb, hHeld.2.2.2.1.trans (below_weaken hb hHeld.2.2.2.1.size), (blk_cell (blk_below hHeld.1 hb) 0).trans rfl, (blk_cell (blk_below hHeld.1 hb) 1).trans rfl, (blk_cell (blk_below hHeld.1 hb) 2).trans rfl, (blk_cell (blk_below hHeld.2.1 hb) 0).trans rfl⟩ (fun hHeld => ?_)
          clear hK K
          refine no_ 13 ?_
          refine pu_ 5 (some 8) ?_
          refine pu_ 6 (some 14) ?_
          refine pu_ 7 (some 15) ?_
          exact norm_ (by first | (simp only [putAll, Act.put, List.setIfInBounds_toArray, List.set_cons_zero, List.set_cons_succ]; done) | (simp only [putAll, Act.put, List.setIfInBounds_toArray, List.set_cons_zero, List.set_cons_succ]; rfl)) (hCont (w5.heap.size, v) _ ⟨hHeld.1, hHeld.2.1, hHeld.2.2.1, hHeld.2.2.2.1, hHeld.2.2.2.2.1, hHeld.2.2.2.2.2.1, hHeld.2.2.2.2.2.2.1, hHeld.2.2.2.2.2.2.2, q8, lz, hP⟩)
      · skip
        refine value_ (w1 := ?_) (v := ?_) (by rfl) rfl ?_ ?_
        rotate_left 2
        · go_simp
          constructor
          · rfl
          · rfl
        have lz : w.heap.size ≤ (wP.drew).heap.size := hHeld.2.2.2.1.size
        have hal : Below (wP.drew).heap.size (wP.drew) ((wP.drew).alloc (.cells #[.slice none 0 0, .slice none 0 0, .slice none 0 0, .map none, .slice none 0 0] 107)) := (Below.refl _ _).alloc (Nat.le_refl _) _
        have h8_ := blk_new (wP.drew) (.cells #[.slice none 0 0, .slice none 0 0, .slice none 0 0, .map none, .slice none 0 0] 107)
        refine hK.out _ _ ⟨blk_below hHeld.1 hal, blk_below hHeld.2.1 hal, blk_below hHeld.2.2.1 hal, hHeld.2.2.2.1.trans (below_weaken hal hHeld.2.2.2.1.size), (blk_cell (blk_below hHeld.1 hal) 0).trans rfl, (blk_cell (blk_below hHeld.1 hal) 1).trans rfl, (blk_cell (blk_below hHeld.1 hal) 2).trans rfl, (blk_cell (blk_below hHeld.2.1 hal) 0).trans rfl⟩ (fun hHeld => ?_)
        clear hK K
        refine no_ 6 ?_
        refine one_ (i := 3) (N := some 12) #[true, true, true, true, false, false, false, false, true, false, false] rfl rfl (by kernel_rfl) (by decide) (fun K hK => ?_)
        refine goes_ Tryd.func81 (by kernel_rfl) rfl #[.agg #[.slice A0 l0.length c0, .slice A1 l1.length c1, .slice A2 l2.length c2], .int .i64 d] (by rfl) rfl rfl (by simp only [List.map_toArray, List.map_cons, List.map_nil]; rfl) ?_
        refine (HDAY.out _ hHeld.2.2.2.1).mono ?_
        rintro e w5 ⟨rfl, hb⟩
        refine ⟨_, rfl, ?_⟩
        have h8b := blk_below h8_ hb
        refine hK.out _ _ ⟨blk_below hHeld.1 hb, blk_below hHeld.2.1 hb, blk_below hHeld.2.2.1 hb, hHeld.2.2.2.1.trans (below_weaken hb hHeld.2.2.2.1.size), (blk_cell (blk_below hHeld.1 hb) 0).trans rfl, (blk_cell (blk_below hHeld.1 hb) 1).trans rfl, (blk_cell (blk_below hHeld.1 hb) 2).trans rfl, (blk_cell (blk_below hHeld.2.1 hb) 0).trans rfl⟩ (fun hHeld => ?_)
        clear hK K
        refine no_ 12 ?_
        refine one_ (i := 4) (N := some 13) #[true, true, true, true, true, false, false, false, true, false, false] rfl rfl (by kernel_rfl) (by decide) (fun K hK => ?_)
        refine goes_ Tryd.func80 (by kernel_rfl) rfl #[.agg #[.slice A0 l0.length c0, .slice A1 l1.length c1, .slice A2 l2.length c2], .bool qd] (by rfl) rfl rfl (by simp only [List.map_toArray, List.map_cons, List.map_nil]; rfl) ?_
        refine (HASK.out _ hHeld.2.2.2.1).mono ?_
        rintro e w6 ⟨v, rfl, hP, hb⟩
        refine ⟨_, rfl, ?_⟩
        have q8 := blk_below h8b hb
        refine hK.out _ _ ⟨blk_below hHeld.1 hb, blk_below hHeld.2.1 hb, blk_below hHeld.2.2.1 hb, hHeld.2.2.2.1.trans (below_weaken hb hHeld.2.2.2.1.size), (blk_cell (blk_below hHeld.1 hb) 0).trans rfl, (blk_cell (blk_below hHeld.1 hb) 1).trans rfl, (blk_cell (blk_below hHeld.1 hb) 2).trans rfl, (blk_cell (blk_below hHeld.2.1 hb) 0).trans rfl⟩ (fun hHeld => ?_)
        clear hK K
        refine no_ 13 ?_
        refine pu_ 5 (some 8) ?_
        refine pu_ 6 (some 14) ?_
        refine pu_ 7 (some 15) ?_
        exact norm_ (by first | (simp only [putAll, Act.put, List.setIfInBounds_toArray, List.set_cons_zero, List.set_cons_succ]; done) | (simp only [putAll, Act.put, List.setIfInBounds_toArray, List.set_cons_zero, List.set_cons_succ]; rfl)) (hCont (wP.drew.heap.size, v) _ ⟨hHeld.1, hHeld.2.1, hHeld.2.2.1, hHeld.2.2.2.1, hHeld.2.2.2.2.1, hHeld.2.2.2.2.2.1, hHeld.2.2.2.2.2.2.1, hHeld.2.2.2.2.2.2.2, q8, lz, hP⟩)
    rintro ⟨g6, v⟩ w' ⟨s0, s1, s2, s3, s4, s5, s6, s7, h8, hg6, hP⟩
    obtain ⟨B0, n0, d0, B1, n1, d1, B2, n2, d2, mp, B3, n3, d3, rfl, hP⟩ := hP
    have hHeld : w'.heap[w.heap.size]? = some (.cells #[.slice A0 l0.length c0, .slice A1 l1.length c1, .slice A2 l2.length c2] 26 (0, 0)) ∧ w'.heap[w.heap.size + 1]? = some (.cells #[.int .i64 d] 3 (0, 0)) ∧ w'.heap[w.heap.size + 1 + 1]? = some (.cells #[.int .i64 0, .int .i64 0] 32 (0, 0)) ∧ Below w.heap.size w w' ∧ w'.cell? ⟨w.heap.size, 0, none⟩ = some (.slice A0 l0.length c0) ∧ w'.cell? ⟨w.heap.size, 1, none⟩ = some (.slice A1 l1.length c1) ∧ w'.cell? ⟨w.heap.size, 2, none⟩ = some (.slice A2 l2.length c2) ∧ w'.cell? ⟨w.heap.size + 1, 0, none⟩ = some (.int .i64 d) := ⟨s0, s1, s2, s3, s4, s5, s6, s7⟩
    have k0 := (blk_cell h8 0).trans rfl
    have k1 := (blk_cell h8 1).trans rfl
    have k2 := (blk_cell h8 2).trans rfl
    have k3 := (blk_cell h8 3).trans rfl
    have k4 := (blk_cell h8 4).trans rfl
    have f0 := blk_frozen h8 0
    have f1 := blk_frozen h8 1
    have f2 := blk_frozen h8 2
    have f3 := blk_frozen h8 3
    have f4 := blk_frozen h8 4
    have l8 := blk_lt h8
    have H8 := Lib.hid h8
    have HP := Lib.hid hP
    have HHE := Lib.hid hHeld
    clear h8 hP s0 s1 s2 s3
    refine norm_ (a' := ?_) ?_ ?_
    rotate_left
    · simp only [putAll, Act.put, List.setIfInBounds_toArray, List.set_cons_zero, List.set_cons_succ]
      rfl
    refine last_ (i := 9) (N := none) #[true, true, true, true, true, true, true, true, true, true, false] rfl rfl (by kernel_rfl) (by decide) (fun K hK => ?_)
    refine skip_ (w1 := ?_) (by rfl) rfl ?_ ?_
    rotate_left
    · go_simp
      rfl
    refine hK.out _ _ ?_
    clear hK K
    refine pu_ 10 (some 7) ?_
    refine done_ (by kernel_rfl) ?_
  
    obtain ⟨u2, u3, u4, uB, _⟩ := HHE.out
    have nb2 : w.heap.size ≠ g6 := fun e => by
      have := H8.out
      rw [← e, u2] at this
      simp at this
    have nb3 : w.heap.size + 1 ≠ g6 := fun e => by
      have := H8.out
      rw [← e, u3] at this
      simp at this
    have nb4 : w.heap.size + 1 + 1 ≠ g6 := fun e => by
      have := H8.out
      rw [← e, u4] at this
      simp at this
    obtain ⟨W8, hW8⟩ : ∃ W, W = (((((w'.setCell ⟨g6, 0, none⟩ (.slice B0 n0 d0)).setCell ⟨g6, 1, none⟩ (.slice B1 n1 d1)).setCell ⟨g6, 2, none⟩ (.slice B2 n2 d2)).setCell ⟨g6, 3, none⟩ (.map mp)).setCell ⟨g6, 4, none⟩ (.slice B3 n3 d3)) := ⟨_, rfl⟩
    rw [← hW8]
    have h88 : W8.heap[g6]? = some (.cells #[.slice B0 n0 d0, .slice B1 n1 d1, .slice B2 n2 d2, .map mp, .slice B3 n3 d3] 107 (0, 0)) := by rw [hW8]; exact blk_put (blk_set (blk_set (blk_set (blk_set H8.out 0 _) 1 _) 2 _) 3 _) 4 _ rfl
    have hch : Chg (fun k => k = g6) w' W8 := by rw [hW8]; exact (((((Chg.cell (S := fun k => k = g6) w' g6 0 (.slice B0 n0 d0) rfl).trans (Chg.cell _ g6 1 (.slice B1 n1 d1) rfl)).trans (Chg.cell _ g6 2 (.slice B2 n2 d2) rfl)).trans (Chg.cell _ g6 3 (.map mp) rfl)).trans (Chg.cell _ g6 4 (.slice B3 n3 d3) rfl))
    have h82 := (hch.block _ (blk_lt u2) nb2).trans u2
    have h83 := (hch.block _ (blk_lt u3) nb3).trans u3
    have h84 := (hch.block _ (blk_lt u4) nb4).trans u4
    have hB8 : Below w.heap.size w W8 := uB.trans ⟨hch.os, hch.tape, hch.output, hch.size, fun k hk => hch.block k (Nat.lt_of_lt_of_le hk uB.size) (by omega)⟩
    have HCH := Lib.hid hch
    clear hW8 hch u2 u3 u4 uB HHE k0 k1 k2 k3 k4 f0 f1 f2 f3 f4 l8 s4 s5 s6 s7 hHeld
    have m0 := (blk_cell h84 0).trans rfl
    have m1 := (blk_cell h84 1).trans rfl
    have q0 := blk_frozen h84 0
    have q1 := blk_frozen h84 1
    have l4 := blk_lt h84
    go_wp2
    refine bodyPost_ret (results_ct rfl _ _ (w.heap.size + 1 + 1) 32 #[.int .i64 0, .int .i64 0] (0, 0) _ rfl (blk_put (blk_set h84 0 (.int .i64 0)) 1 (.int .i64 0) rfl) Tryd.underlying32 rfl (by kernel_rfl)) rfl ⟨rfl, (hB8.setCell (p := ⟨w.heap.size + 1 + 1, 0, none⟩) (by simp; omega) _).setCell (p := ⟨w.heap.size + 1 + 1, 1, none⟩) (by simp; omega) _⟩
end Go.Proofs.YthgjedagbgmgmaaDoor.Pr
