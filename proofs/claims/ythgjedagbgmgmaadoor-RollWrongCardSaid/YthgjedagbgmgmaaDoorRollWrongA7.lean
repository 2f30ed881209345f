/- Part 7 of the proof that RollWrong answers true: contracts and laws, merged by a program. -/
import Derived.Test.YthgjedagbgmgmaaDoorRollWrongA6
namespace Go.Proofs.YthgjedagbgmgmaaDoor.Pr
open Go.RowKit Go.Proofs.YthgjedagbgmgmaaDoorW.PrintWords Go.Proofs.YthgjedagbgmgmaaDoorW.PrintLast Go.Proofs.YthgjedagbgmgmaaDoorW.PrintMore
attribute [local go_sem] max2_int min2_int max_two min_two -- for this text's walks alone
set_option linter.unusedVariables false
set_option linter.unusedSimpArgs false
def macadamref00_In.f (a0 : Int) (a1 : Int) : Option (Bool) := if 0 ≤ a1 then (some ((Go.bits .and .i64 (shr .i64 a0 a1) 1) == 1)) else (none)
set_option maxHeartbeats 8000000 in
set_option maxRecDepth 100000 in
theorem macadamref00_In.calls (a0 : Int) (a1 : Int) (r : Bool) (w : World) (h : macadamref00_In.f a0 a1 = some r) :
    Calls Tryd.prog 61 #[.int .i64 a0, .int .i64 a1] w fun e w' => e = .returned (.bool r) ∧ Drawn0 w w' := by
  have H : (if 0 ≤ a1 then (some ((Go.bits .and .i64 (shr .i64 a0 a1) 1) == 1)) else (none)) = some r := h
  clear h
  by_cases c3 : 0 ≤ a1
  · rw [if_pos c3] at H
    have c3b0 := eq_true c3
    have c3b1 : decide (0 ≤ a1) = true := decide_eq_true c3
    clear c3
    obtain ⟨ji4, hji4⟩ : ∃ j_ : Int, (shr .i64 a0 a1) = j_ := ⟨_, rfl⟩
    replace H : (some ((Go.bits .and .i64 (ji4) 1) == 1)) = some r := by first | (rw [hji4] at H; exact H) | (simp only [hji4] at H ⊢; exact H)
    have hji4_ : (a0 / 2 ^ min a1.toNat 64) = ji4 := hji4
    have hji4z : a1 ≤ 64 → (a0 / 2 ^ a1.toNat) = ji4 := shr_small hji4
    obtain rfl := Option.some.inj H
    go_enter Tryd.func61, Tryd.ntmps61
    go_wp2
    go_ret
    exact ⟨by first | rfl | (simp; done) | (simp only [← hji4] <;> (first | rfl | simp)) | (simp [*]; done), by repeat (first | exact Drawn0.refl _ | apply Drawn0.step)⟩
  · rw [if_neg c3] at H
    exact absurd H (by simp)
def macadamref00_Place.l0 : Nat → List Int → Int → Int → Option (Int)
  | 0, _, _, _ => none
  | k + 1, x0, x1, x5 => if x5 < (x0.length : Int) then (if 0 ≤ x5 then (if (rd x0 x5) = x1 then (some x5) else (macadamref00_Place.l0 k x0 x1 (wrap64 (x5 + 1)))) else (none)) else (some (-1))
def macadamref00_Place.f (k : Nat) (l0 : List Int) (a1 : Int) : Option (Int) := macadamref00_Place.l0 k l0 a1 0
set_option maxHeartbeats 8000000 in
set_option maxRecDepth 100000 in
theorem macadamref00_Place.calls (k : Nat) (A0 : Option Addr) (c0 : Nat) (l0 : List Int) (a1 : Int) (r : Int) (w : World) (hr0 : Kd.C (Kd.int .i64) w A0 l0.length l0) (hc0 : l0.length ≤ c0) (h : macadamref00_Place.f k l0 a1 = some r) :
    Calls Tryd.prog 54 #[.slice A0 l0.length c0, .int .i64 a1] w fun e w' => e = .returned (.int .i64 r) ∧ Drawn0 w w' := by
  have HR0 := Aside0.mk hr0
  have HC0 := Aside0.mk hc0
  clear hr0 hc0
  have H : (macadamref00_Place.l0 k l0 a1 0) = some r := h
  clear h
  have H' := Aside0.mk H
  clear H
  go_enter Tryd.func54, Tryd.ntmps54
  go_wp2
  go_loopg [5] k (fun kq v5 w' => ∃ (x5_1 : Int), v5 = .int .i64 x5_1 ∧ Aside0 (macadamref00_Place.l0 kq l0 a1 x5_1 = some r) ∧ Aside0 (kq ≤ k) ∧ Drawn0 w w')
  case atStart => exact ⟨(0), (by first | rfl | (simp; done) | (simp [*]; done)), H', ⟨Nat.le_refl _⟩, by repeat (first | exact Drawn0.refl _ | apply Drawn0.step)⟩
  case round =>
    clear H'
    try clear p2
    obtain ⟨x5_1, rfl, HA, HK1, ⟨m1, rfl⟩⟩ := hrel
    cases gk with
    | zero => exact absurd HA.out (by simp [macadamref00_Place.l0])
    | succ k1 =>
      have H := HA.out
      clear HA
      simp only [macadamref00_Place.l0] at H
      by_cases c3 : x5_1 < (l0.length : Int)
      · rw [if_pos c3] at H
        have c3b0 : decide (x5_1 < (l0.length : Int)) = true := decide_eq_true c3
        clear c3
        by_cases c4 : 0 ≤ x5_1
        · rw [if_pos c4] at H
          have c4b0 : decide (0 ≤ x5_1) = true := decide_eq_true c4
          clear c4
          by_cases c5 : (rd l0 x5_1) = a1
          · rw [if_pos c5] at H
            have c5b0 : ((rd l0 x5_1) == a1) = true := beq_iff_eq.mpr c5
            have c5b1 : ((rd l0 x5_1) != a1) = false := bne_eq_false_iff_eq.mpr c5
            clear c5
            obtain rfl := Option.some.inj H
            have p224 : 0 ≤ (x5_1 : Int) := of_decide_eq_true (by first | (with_reducible assumption) | assumption)
            have q224 : x5_1 < (l0.length : Int) := of_decide_eq_true (by first | (with_reducible assumption) | assumption)
            obtain ⟨ad224, e224, hx224_0⟩ := Kd.at_int HR0.out x5_1 p224 q224
            cases e224
            replace p224 := eq_true p224
            replace q224 := eq_true q224
            go_wp2
            go_ret
            exact ⟨by first | rfl | (simp; done) | (simp [*]; done), by repeat (first | exact Drawn0.refl _ | apply Drawn0.step)⟩
          · rw [if_neg c5] at H
            have c5b0 : ((rd l0 x5_1) == a1) = false := beq_eq_false_iff_ne.mpr c5
            have c5b1 : ((rd l0 x5_1) != a1) = true := bne_iff_ne.mpr c5
            have H' := Aside0.mk H
            clear H
            have p224 : 0 ≤ (x5_1 : Int) := of_decide_eq_true (by first | (with_reducible assumption) | assumption)
            have q224 : x5_1 < (l0.length : Int) := of_decide_eq_true (by first | (with_reducible assumption) | assumption)
            obtain ⟨ad224, e224, hx224_0⟩ := Kd.at_int HR0.out x5_1 p224 q224
            cases e224
            replace p224 := eq_true p224
            replace q224 := eq_true q224
            go_wp2
            go_roundg k1
            case measure => have := HK1.out; omega
            case rel => exact ⟨(wrap64 (x5_1 + 1)), (by first | rfl | (simp; done) | (simp [*]; done)), H', ⟨by have := HK1.out; omega⟩, by repeat (first | exact Drawn0.refl _ | apply Drawn0.step)⟩
        · rw [if_neg c4] at H
          exact absurd H (by simp)
      · rw [if_neg c3] at H
        have c3b0 : decide (x5_1 < (l0.length : Int)) = false := decide_eq_false c3
        clear c3
        obtain rfl := Option.some.inj H
        go_wp2
        go_ret
        exact ⟨by first | rfl | (simp; done) | (simp [*]; done), by repeat (first | exact Drawn0.refl _ | apply Drawn0.step)⟩
def macadamref00_Rising.l0 : Nat → List Int → Int → Int → Int → Option (Bool)
  | 0, _, _, _, _ => none
  | k + 1, x0, x1, x5, x6 => if x6 < (x0.length : Int) then (if 0 ≤ x6 then (if (rd x0 x6) ≤ x5 then (some false) else (if (rd x0 x6) ≥ x1 then (some false) else (macadamref00_Rising.l0 k x0 x1 (rd x0 x6) (wrap64 (x6 + 1))))) else (none)) else (some true)
def macadamref00_Rising.f (k : Nat) (l0 : List Int) (a1 : Int) : Option (Bool) := macadamref00_Rising.l0 k l0 a1 (-1) 0
set_option maxHeartbeats 8000000 in
set_option maxRecDepth 100000 in
theorem macadamref00_Rising.calls (k : Nat) (A0 : Option Addr) (c0 : Nat) (l0 : List Int) (a1 : Int) (r : Bool) (w : World) (hr0 : Kd.C (Kd.int .i64) w A0 l0.length l0) (hc0 : l0.length ≤ c0) (h : macadamref00_Rising.f k l0 a1 = some r) :
    Calls Tryd.prog 51 #[.slice A0 l0.length c0, .int .i64 a1] w fun e w' => e = .returned (.bool r) ∧ Drawn0 w w' := by
  have HR0 := Aside0.mk hr0
  have HC0 := Aside0.mk hc0
  clear hr0 hc0
  have H : (macadamref00_Rising.l0 k l0 a1 (-1) 0) = some r := h
  clear h
  have H' := Aside0.mk H
  clear H
  go_enter Tryd.func51, Tryd.ntmps51
  go_wp2
  go_loopg [5, 6] k (fun kq v5 v6 w' => ∃ (x5_1 : Int) (x6_1 : Int), v5 = .int .i64 x5_1 ∧ v6 = .int .i64 x6_1 ∧ Aside0 (macadamref00_Rising.l0 kq l0 a1 x5_1 x6_1 = some r) ∧ Aside0 (kq ≤ k) ∧ Drawn0 w w')
  case atStart => exact ⟨((-1)), (0), (by first | rfl | (simp; done) | (simp [*]; done)), (by first | rfl | (simp; done) | (simp [*]; done)), H', ⟨Nat.le_refl _⟩, by repeat (first | exact Drawn0.refl _ | apply Drawn0.step)⟩
  case round =>
    clear H'
    try clear p2
    obtain ⟨x5_1, x6_1, rfl, rfl, HA, HK1, ⟨m1, rfl⟩⟩ := hrel
    cases gk with
    | zero => exact absurd HA.out (by simp [macadamref00_Rising.l0])
    | succ k1 =>
      have H := HA.out
      clear HA
      simp only [macadamref00_Rising.l0] at H
      by_cases c3 : x6_1 < (l0.length : Int)
      · rw [if_pos c3] at H
        have c3b0 : decide (x6_1 < (l0.length : Int)) = true := decide_eq_true c3
        clear c3
        by_cases c4 : 0 ≤ x6_1
        · rw [if_pos c4] at H
          have c4b0 : decide (0 ≤ x6_1) = true := decide_eq_true c4
          clear c4
          by_cases c5 : (rd l0 x6_1) ≤ x5_1
          · rw [if_pos c5] at H
            have c5b0 : decide ((rd l0 x6_1) ≤ x5_1) = true := decide_eq_true c5
            clear c5
            obtain rfl := Option.some.inj H
            have p225 : 0 ≤ (x6_1 : Int) := of_decide_eq_true (by first | (with_reducible assumption) | assumption)
            have q225 : x6_1 < (l0.length : Int) := of_decide_eq_true (by first | (with_reducible assumption) | assumption)
            obtain ⟨ad225, e225, hx225_0⟩ := Kd.at_int HR0.out x6_1 p225 q225
            cases e225
            replace p225 := eq_true p225
            replace q225 := eq_true q225
            go_wp2
            go_ret
            exact ⟨by first | rfl | (simp; done) | (simp [*]; done), by repeat (first | exact Drawn0.refl _ | apply Drawn0.step)⟩
          · rw [if_neg c5] at H
            have c5b0 : decide ((rd l0 x6_1) ≤ x5_1) = false := decide_eq_false c5
            clear c5
            by_cases c6 : (rd l0 x6_1) ≥ a1
            · rw [if_pos c6] at H
              have c6b0 : decide (a1 ≤ (rd l0 x6_1)) = true := decide_eq_true c6
              clear c6
              obtain rfl := Option.some.inj H
              have p225 : 0 ≤ (x6_1 : Int) := of_decide_eq_true (by first | (with_reducible assumption) | assumption)
              have q225 : x6_1 < (l0.length : Int) := of_decide_eq_true (by first | (with_reducible assumption) | assumption)
              obtain ⟨ad225, e225, hx225_0⟩ := Kd.at_int HR0.out x6_1 p225 q225
              cases e225
              replace p225 := eq_true p225
              replace q225 := eq_true q225
              have p226 : 0 ≤ (x6_1 : Int) := of_decide_eq_true (by first | (with_reducible assumption) | assumption)
              have q226 : x6_1 < (l0.length : Int) := of_decide_eq_true (by first | (with_reducible assumption) | assumption)
              obtain ⟨ad226, e226, hx226_0⟩ := Kd.at_int HR0.out x6_1 p226 q226
              obtain rfl : ad225 = ad226 := (by injection e226)
              replace p226 := eq_true p226
              replace q226 := eq_true q226
              go_wp2
              go_ret
              exact ⟨by first | rfl | (simp; done) | (simp [*]; done), by repeat (first | exact Drawn0.refl _ | apply Drawn0.step)⟩
            · rw [if_neg c6] at H
              have c6b0 : decide (a1 ≤ (rd l0 x6_1)) = false := decide_eq_false c6
              clear c6
              have H' := Aside0.mk H
              clear H
              have p225 : 0 ≤ (x6_1 : Int) := of_decide_eq_true (by first | (with_reducible assumption) | assumption)
              have q225 : x6_1 < (l0.length : Int) := of_decide_eq_true (by first | (with_reducible assumption) | assumption)
              obtain ⟨ad225, e225, hx225_0⟩ := Kd.at_int HR0.out x6_1 p225 q225
              cases e225
              replace p225 := eq_true p225
              replace q225 := eq_true q225
              have p226 : 0 ≤ (x6_1 : Int) := of_decide_eq_true (by first | (with_reducible assumption) | assumption)
              have q226 : x6_1 < (l0.length : Int) := of_decide_eq_true (by first | (with_reducible assumption) | assumption)
              obtain ⟨ad226, e226, hx226_0⟩ := Kd.at_int HR0.out x6_1 p226 q226
              obtain rfl : ad225 = ad226 := (by injection e226)
              replace p226 := eq_true p226
              replace q226 := eq_true q226
              have p227 : 0 ≤ (x6_1 : Int) := of_decide_eq_true (by first | (with_reducible assumption) | assumption)
              have q227 : x6_1 < (l0.length : Int) := of_decide_eq_true (by first | (with_reducible assumption) | assumption)
              obtain ⟨ad227, e227, hx227_0⟩ := Kd.at_int HR0.out x6_1 p227 q227
              obtain rfl : ad225 = ad227 := (by injection e227)
              replace p227 := eq_true p227
              replace q227 := eq_true q227
              go_wp2
              go_roundg k1
              case measure => have := HK1.out; omega
              case rel => exact ⟨(rd l0 x6_1), (wrap64 (x6_1 + 1)), (by first | rfl | (simp; done) | (simp [*]; done)), (by first | rfl | (simp; done) | (simp [*]; done)), H', ⟨by have := HK1.out; omega⟩, by repeat (first | exact Drawn0.refl _ | apply Drawn0.step)⟩
        · rw [if_neg c4] at H
          exact absurd H (by simp)
      · rw [if_neg c3] at H
        have c3b0 : decide (x6_1 < (l0.length : Int)) = false := decide_eq_false c3
        clear c3
        obtain rfl := Option.some.inj H
        go_wp2
        go_ret
        exact ⟨by first | rfl | (simp; done) | (simp [*]; done), by repeat (first | exact Drawn0.refl _ | apply Drawn0.step)⟩
end Go.Proofs.YthgjedagbgmgmaaDoor.Pr
namespace Go.Proofs.YthgjedagbgmgmaaDoor.Pr
open Go.RowKit Go.Proofs.YthgjedagbgmgmaaDoorW.PrintWords Go.Proofs.YthgjedagbgmgmaaDoorW.PrintLast Go.Proofs.YthgjedagbgmgmaaDoorW.PrintMore
set_option linter.unusedVariables false
set_option linter.unusedSimpArgs false
theorem reps_lone {α : Type} {R : α → List Value → Prop} {sz : Nat} {p : α} {cs : List Value} (hl : cs.length = sz) (h : R p cs) : Reps R sz [p] cs := by
  refine ⟨by simp [hl], fun i x hx => ?_⟩
  cases i with
  | zero =>
    obtain rfl : p = x := by simpa using hx
    rw [Nat.zero_mul, List.drop_zero, List.take_of_length_le (by omega)]
    exact h
  | succ i => simp at hx
theorem frow_to_C {α : Type} {d : Kd α} {enc : α → List Value} {w : World} {A : Option Addr} {xs : List α} (h : FRow enc d.sz w A xs) (hl : ∀ x, (enc x).length = d.sz) (he : ∀ w x, d.K w x (enc x)) (hm : xs.length ≤ 9223372036854775807) : Kd.C d w A xs.length xs := by
  refine ⟨rfl, hm, fun hn => ?_⟩
  rcases h with h | ⟨b, o, e, hlt, hc⟩
  · rw [h] at hn; exact absurd hn (by simp)
  · refine ⟨⟨b, o, none⟩, e, fun i x hx => ⟨enc x, hl x, he w x, fun j v hv => ?_⟩⟩
    have := hc i x hx j v hv
    rw [Addr.add_mid, ← Nat.add_assoc]
    exact this
theorem sep_new {α : Type} {d : Kd α} {e : Nat} {W : World} {base : Nat} {ok : Nat → Prop} {v v1 : Value} {xs : List α} (h : Kd.R d e W base ok v xs) (hn : ∃ b, v1.ownBlock = some b ∧ W.heap.size ≤ b) : ∀ k, v.ownBlock = some k → v1.ownBlock ≠ some k := by
  intro k hk q
  obtain ⟨_, inner, ho, _⟩ := h
  obtain ⟨b, hb, hle⟩ := hn
  have := own_lt ho k hk
  rw [hb] at q
  injection q with q
  omega
theorem sep_sym {v v1 : Value} (h : ∀ k, v.ownBlock = some k → v1.ownBlock ≠ some k) : ∀ k, v1.ownBlock = some k → v.ownBlock ≠ some k := fun k hk q => h k q hk
theorem below_g {W W' : World} (h : W.grownBy W' none) : Below W.heap.size W W' := ⟨h.os, h.tape, h.output, h.size, fun k hk => h.block k hk (by simp)⟩
theorem g_below {W W' : World} (h : Below W.heap.size W W') : W.grownBy W' none := ⟨h.os, h.tape, h.output, h.size, fun k hk _ => h.block k hk⟩
theorem g_refl (W : World) (row : Option Nat) : W.grownBy W row := ⟨rfl, rfl, rfl, Nat.le_refl _, fun _ _ _ => rfl⟩
theorem g_all {W W' : World} {row : Option Nat} (h : W.grownBy W' row) (o : Obj) : W.grownBy (W'.alloc o) row := h.trans (World.grownBy_alloc W' o row)
theorem g_put {W W' : World} {g : Nat} (h : W.grownBy W' (some g)) (j : Nat) (u : Value) : W.grownBy (W'.setCell ⟨g, j, none⟩ u) (some g) :=
  ⟨h.os, h.tape, h.output, (show (W'.setCell ⟨g, j, none⟩ u).heap.size = W'.heap.size by simp) ▸ h.size, fun k hk hne => (Below.heap_setCell W' ⟨g, j, none⟩ u k (fun e => hne (by rw [e]))).trans (h.block k hk hne)⟩
theorem own_row_typed {α : Type} {d : Kd α} {e : Nat} {W : World} {base : Nat} {ok : Nat → Prop} {v : Value} {xs : List α} (h : Kd.R d e W base ok v xs) (g : Nat) (hg : v.ownBlock = some g) : ∃ cells, W.heap[g]? = some (.cells cells e (0, 0)) := by
  obtain ⟨_, inner, ho, _⟩ := h
  exact own_typed ho g hg
theorem own_ne {α : Type} {d : Kd α} {e : Nat} {W : World} {base : Nat} {ok : Nat → Prop} {v : Value} {xs : List α} (h : Kd.R d e W base ok v xs) {g : Nat} {cs : Array Value} {t : TypeId} (hb : W.heap[g]? = some (.cells cs t (0, 0))) (ht : t ≠ e) : some g ≠ v.ownBlock := by
  intro q
  obtain ⟨cells, hc⟩ := own_row_typed h g q.symm
  rw [hb] at hc
  injection hc with hc
  injection hc with _ hc _
  exact ht hc
theorem R_typed_grown {α : Type} {d : Kd α} {e : Nat} {W W' : World} {base : Nat} {ok : Nat → Prop} {v : Value} {xs : List α} {row : Option Nat} (h : Kd.R d e W base ok v xs) (hg : W.grownBy W' row) (hrow : ∀ g, row = some g → ∃ cells t, W.heap[g]? = some (.cells cells t (0, 0)) ∧ ∀ q, q ∈ e :: d.E → q ≠ t) : Kd.R d e W' base ok v xs := by
  cases row with
  | none => exact Kd.R_step h fun k _ hk => hg.block k hk (by simp)
  | some g =>
    obtain ⟨cells, t, hb, ht⟩ := hrow g rfl
    exact Kd.R_mono (Kd.R_step (Kd.R_types h hb ht) fun k hk hlt => hg.block k hlt (fun q => hk.2 (Option.some.inj q))) (fun _ hk => hk.1)
end Go.Proofs.YthgjedagbgmgmaaDoor.Pr
namespace Go.Proofs.YthgjedagbgmgmaaDoor.Pr
open Go.RowKit Go.Proofs.YthgjedagbgmgmaaDoorW.PrintWords Go.Proofs.YthgjedagbgmgmaaDoorW.PrintLast Go.Proofs.YthgjedagbgmgmaaDoorW.PrintMore
attribute [local go_sem] max2_int min2_int max_two min_two -- for this text's walks alone
set_option linter.unusedVariables false
set_option linter.unusedSimpArgs false
mutual
def macadamref00_Sooner.l0 : Nat → List Int → List Int → Int → Option (Bool)
  | 0, _, _, _ => none
  | k + 1, x0, x1, x5 => if x5 < (x0.length : Int) then (macadamref00_Sooner.j1 k x0 x1 x5 (decide (x5 < (x1.length : Int)))) else (macadamref00_Sooner.j1 k x0 x1 x5 false)
def macadamref00_Sooner.j1 : Nat → List Int → List Int → Int → Bool → Option (Bool)
  | 0, _, _, _, _ => none
  | k + 1, x0, x1, x5, x15 => if x15 = true then (if 0 ≤ x5 then (if x5 < (x0.length : Int) then (if x5 < (x1.length : Int) then (if (rd x0 x5) = (rd x1 x5) then (macadamref00_Sooner.l0 k x0 x1 (wrap64 (x5 + 1))) else (some (decide ((rd x0 x5) < (rd x1 x5))))) else (none)) else (none)) else (none)) else (some (decide ((x0.length : Int) < (x1.length : Int))))
end
def macadamref00_Sooner.f (k : Nat) (l0 : List Int) (l1 : List Int) : Option (Bool) := macadamref00_Sooner.l0 k l0 l1 0
set_option maxHeartbeats 8000000 in
set_option maxRecDepth 100000 in
theorem macadamref00_Sooner.calls (k : Nat) (A0 : Option Addr) (c0 : Nat) (l0 : List Int) (A1 : Option Addr) (c1 : Nat) (l1 : List Int) (r : Bool) (w : World) (hr0 : Kd.C (Kd.int .i64) w A0 l0.length l0) (hc0 : l0.length ≤ c0) (hr1 : Kd.C (Kd.int .i64) w A1 l1.length l1) (hc1 : l1.length ≤ c1) (h : macadamref00_Sooner.f k l0 l1 = some r) :
    Calls Tryd.prog 119 #[.slice A0 l0.length c0, .slice A1 l1.length c1] w fun e w' => e = .returned (.bool r) ∧ Drawn0 w w' := by
  have HR0 := Aside0.mk hr0
  have HC0 := Aside0.mk hc0
  clear hr0 hc0
  have HR1 := Aside0.mk hr1
  have HC1 := Aside0.mk hc1
  clear hr1 hc1
  have H : (macadamref00_Sooner.l0 k l0 l1 0) = some r := h
  clear h
  have H' := Aside0.mk H
  clear H
  go_enter Tryd.func119, Tryd.ntmps119
  go_wp2
  repeat (go_quiet (fail); try go_wp2)
  go_loopg [5] k (fun kq v5 w' => ∃ (x5_1 : Int), v5 = .int .i64 x5_1 ∧ Aside0 (macadamref00_Sooner.l0 kq l0 l1 x5_1 = some r) ∧ Aside0 (kq ≤ k) ∧ Drawn0 w w')
  case atStart => exact ⟨(0), (by first | rfl | (simp; done) | (simp [*]; done)), H', ⟨Nat.le_refl _⟩, by repeat (first | exact Drawn0.refl _ | apply Drawn0.step)⟩
  case round =>
    clear H'
    try clear c1
    try clear p2
    obtain ⟨x5_1, rfl, HA, HK1, ⟨m1, rfl⟩⟩ := hrel
    cases gk with
    | zero => exact absurd HA.out (by simp [macadamref00_Sooner.l0])
    | succ k1 =>
      have H := HA.out
      clear HA
      simp only [macadamref00_Sooner.l0] at H
      have HC3 := Aside0.mk H
      clear H
      go_upto_region 2 with (fail)
      repeat (go_quiet (fail); go_upto_region 2 with (fail))
      go_cut [15] (fun v15 wc => ∃ (kq : Nat) (x15_2 : Bool), v15 = .bool x15_2 ∧ Aside0 (macadamref00_Sooner.j1 kq l0 l1 x5_1 x15_2 = some r) ∧ Aside0 (kq ≤ k1) ∧ Drawn0 w wc)
      case first =>
        have H := HC3.out
        clear HC3
        by_cases c4 : x5_1 < (l0.length : Int)
        · rw [if_pos c4] at H
          have c4b0 : decide (x5_1 < (l0.length : Int)) = true := decide_eq_true c4
          clear c4
          (first | rw [c4b0] | (simp only [i64_w, i32_w]; rw [c4b0]) | skip)
          have H' := Aside0.mk H
          clear H
          go_wp2
          repeat (go_quiet (fail); try go_wp2)
          go_meet
          case rel => exact ⟨_, (decide (x5_1 < (l1.length : Int))), (by first | rfl | (simp; done) | (simp [*]; done)), H', ⟨by have := HK1.out; first | omega | exact Nat.le_refl _⟩, by repeat (first | exact Drawn0.refl _ | apply Drawn0.step)⟩
        · rw [if_neg c4] at H
          have c4b0 : decide (x5_1 < (l0.length : Int)) = false := decide_eq_false c4
          clear c4
          (first | rw [c4b0] | (simp only [i64_w, i32_w]; rw [c4b0]) | skip)
          have H' := Aside0.mk H
          clear H
          go_wp2
          repeat (go_quiet (fail); try go_wp2)
          go_meet
          case rel => exact ⟨_, (false), (by first | rfl | (simp; done) | (simp [*]; done)), H', ⟨by have := HK1.out; first | omega | exact Nat.le_refl _⟩, by repeat (first | exact Drawn0.refl _ | apply Drawn0.step)⟩
      case rest =>
        clear HC3
        try clear c1
        try clear p2
        try clear c4
        try clear c4b0
        try clear p2
        obtain ⟨kq, x15_2, rfl, HA, HJ2, ⟨mc2, rfl⟩⟩ := hcut
        cases kq with
        | zero => exact absurd HA.out (by simp [macadamref00_Sooner.j1])
        | succ kj2 =>
          have H := HA.out
          clear HA
          simp only [macadamref00_Sooner.j1] at H
          by_cases c5 : x15_2 = true
          · subst c5
            have H1 : (if 0 ≤ x5_1 then (if x5_1 < (l0.length : Int) then (if x5_1 < (l1.length : Int) then (if (rd l0 x5_1) = (rd l1 x5_1) then (macadamref00_Sooner.l0 kj2 l0 l1 (wrap64 (x5_1 + 1))) else (some (decide ((rd l0 x5_1) < (rd l1 x5_1))))) else (none)) else (none)) else (none)) = some r := by rw [if_pos rfl] at H; exact H
            clear H
            have H := H1
            clear H1
            by_cases c6 : 0 ≤ x5_1
            · rw [if_pos c6] at H
              have c6b0 : decide (0 ≤ x5_1) = true := decide_eq_true c6
              clear c6
              by_cases c7 : x5_1 < (l0.length : Int)
              · rw [if_pos c7] at H
                have c7b0 : decide (x5_1 < (l0.length : Int)) = true := decide_eq_true c7
                clear c7
                by_cases c8 : x5_1 < (l1.length : Int)
                · rw [if_pos c8] at H
                  have c8b0 : decide (x5_1 < (l1.length : Int)) = true := decide_eq_true c8
                  clear c8
                  by_cases c9 : (rd l0 x5_1) = (rd l1 x5_1)
                  · rw [if_pos c9] at H
                    have c9b0 : ((rd l0 x5_1) == (rd l1 x5_1)) = true := beq_iff_eq.mpr c9
                    have c9b1 : ((rd l0 x5_1) != (rd l1 x5_1)) = false := bne_eq_false_iff_eq.mpr c9
                    clear c9
                    have H' := Aside0.mk H
                    clear H
                    have p265 : 0 ≤ (x5_1 : Int) := of_decide_eq_true (by first | (with_reducible assumption) | assumption)
                    have q265 : x5_1 < (l0.length : Int) := of_decide_eq_true (by first | (with_reducible assumption) | assumption)
                    obtain ⟨ad265, e265, hx265_0⟩ := Kd.at_int HR0.out x5_1 p265 q265
                    cases e265
                    replace p265 := eq_true p265
                    replace q265 := eq_true q265
                    have p266 : 0 ≤ (x5_1 : Int) := of_decide_eq_true (by first | (with_reducible assumption) | assumption)
                    have q266 : x5_1 < (l1.length : Int) := of_decide_eq_true (by first | (with_reducible assumption) | assumption)
                    obtain ⟨ad266, e266, hx266_0⟩ := Kd.at_int HR1.out x5_1 p266 q266
                    cases e266
                    replace p266 := eq_true p266
                    replace q266 := eq_true q266
                    go_wp2
                    repeat (go_quiet (fail); try go_wp2)
                    go_roundg kj2
                    case measure => have := HK1.out; have := HJ2.out; omega
                    case rel => exact ⟨(wrap64 (x5_1 + 1)), (by first | rfl | (simp; done) | (simp [*]; done)), H', ⟨by have := HK1.out; have := HJ2.out; omega⟩, by repeat (first | exact Drawn0.refl _ | apply Drawn0.step)⟩
                  · rw [if_neg c9] at H
                    have c9b0 : ((rd l0 x5_1) == (rd l1 x5_1)) = false := beq_eq_false_iff_ne.mpr c9
                    have c9b1 : ((rd l0 x5_1) != (rd l1 x5_1)) = true := bne_iff_ne.mpr c9
                    obtain rfl := Option.some.inj H
                    have p265 : 0 ≤ (x5_1 : Int) := of_decide_eq_true (by first | (with_reducible assumption) | assumption)
                    have q265 : x5_1 < (l0.length : Int) := of_decide_eq_true (by first | (with_reducible assumption) | assumption)
                    obtain ⟨ad265, e265, hx265_0⟩ := Kd.at_int HR0.out x5_1 p265 q265
                    cases e265
                    replace p265 := eq_true p265
                    replace q265 := eq_true q265
                    have p266 : 0 ≤ (x5_1 : Int) := of_decide_eq_true (by first | (with_reducible assumption) | assumption)
                    have q266 : x5_1 < (l1.length : Int) := of_decide_eq_true (by first | (with_reducible assumption) | assumption)
                    obtain ⟨ad266, e266, hx266_0⟩ := Kd.at_int HR1.out x5_1 p266 q266
                    cases e266
                    replace p266 := eq_true p266
                    replace q266 := eq_true q266
                    have p267 : 0 ≤ (x5_1 : Int) := of_decide_eq_true (by first | (with_reducible assumption) | assumption)
                    have q267 : x5_1 < (l0.length : Int) := of_decide_eq_true (by first | (with_reducible assumption) | assumption)
                    obtain ⟨ad267, e267, hx267_0⟩ := Kd.at_int HR0.out x5_1 p267 q267
                    obtain rfl : ad265 = ad267 := (by injection e267)
                    replace p267 := eq_true p267
                    replace q267 := eq_true q267
                    have p268 : 0 ≤ (x5_1 : Int) := of_decide_eq_true (by first | (with_reducible assumption) | assumption)
                    have q268 : x5_1 < (l1.length : Int) := of_decide_eq_true (by first | (with_reducible assumption) | assumption)
                    obtain ⟨ad268, e268, hx268_0⟩ := Kd.at_int HR1.out x5_1 p268 q268
                    obtain rfl : ad266 = ad268 := (by injection e268)
                    replace p268 := eq_true p268
                    replace q268 := eq_true q268
                    go_wp2
                    repeat (go_quiet (fail); try go_wp2)
                    go_ret
                    exact ⟨by first | rfl | (simp; done) | (simp [*]; done), by repeat (first | exact Drawn0.refl _ | apply Drawn0.step)⟩
                · rw [if_neg c8] at H
                  exact absurd H (by simp)
              · rw [if_neg c7] at H
                exact absurd H (by simp)
            · rw [if_neg c6] at H
              exact absurd H (by simp)
          · replace c5 := Bool.eq_false_iff.mpr c5
            subst c5
            have H1 : (some (decide ((l0.length : Int) < (l1.length : Int)))) = some r := by rw [if_neg (show ¬ (false = true) by decide)] at H; exact H
            clear H
            have H := H1
            clear H1
            obtain rfl := Option.some.inj H
            go_wp2
            repeat (go_quiet (fail); try go_wp2)
            go_ret
            exact ⟨by first | rfl | (simp; done) | (simp [*]; done), by repeat (first | exact Drawn0.refl _ | apply Drawn0.step)⟩
def macadamref00_Fewer.f (k : Nat) (l0 : List Int) (l1 : List Int) : Option (Bool) := if (l0.length : Int) = (l1.length : Int) then ((macadamref00_Sooner.f k l0 l1).bind fun t269 => (some t269)) else (some (decide ((l0.length : Int) < (l1.length : Int))))
set_option maxHeartbeats 8000000 in
set_option maxRecDepth 100000 in
theorem macadamref00_Fewer.calls (k : Nat) (A0 : Option Addr) (c0 : Nat) (l0 : List Int) (A1 : Option Addr) (c1 : Nat) (l1 : List Int) (r : Bool) (w : World) (hr0 : Kd.C (Kd.int .i64) w A0 l0.length l0) (hc0 : l0.length ≤ c0) (hr1 : Kd.C (Kd.int .i64) w A1 l1.length l1) (hc1 : l1.length ≤ c1) (h : macadamref00_Fewer.f k l0 l1 = some r) :
    Calls Tryd.prog 69 #[.slice A0 l0.length c0, .slice A1 l1.length c1] w fun e w' => e = .returned (.bool r) ∧ Drawn0 w w' := by
  have HR0 := Aside0.mk hr0
  have HC0 := Aside0.mk hc0
  clear hr0 hc0
  have HR1 := Aside0.mk hr1
  have HC1 := Aside0.mk hc1
  clear hr1 hc1
  have H : (if (l0.length : Int) = (l1.length : Int) then ((macadamref00_Sooner.f k l0 l1).bind fun t269 => (some t269)) else (some (decide ((l0.length : Int) < (l1.length : Int))))) = some r := h
  clear h
  by_cases c3 : (l0.length : Int) = (l1.length : Int)
  · rw [if_pos c3] at H
    have c3b0 : ((l0.length : Int) == (l1.length : Int)) = true := beq_iff_eq.mpr c3
    have c3b1 : ((l0.length : Int) != (l1.length : Int)) = false := bne_eq_false_iff_eq.mpr c3
    have c3b2 : (l0.length == l1.length) = true := by first | simpa using c3 | (simp at c3 ⊢; omega)
    clear c3
    replace H := Option.bind_eq_some_iff.mp H
    obtain ⟨t269, A40, H⟩ := H
    replace H : (some t269) = some r := H
    have A4 := Aside0.mk A40
    clear A40
    obtain rfl := Option.some.inj H
    go_enter Tryd.func69, Tryd.ntmps69
    go_wp2_with (first | ((with_reducible refine gate_callee (f := 119) rfl ?_); refine goesL_ (some 17) rfl rfl Tryd.func119 (by kernel_rfl) rfl #[.slice A0 l0.length c0, .slice A1 l1.length c1] rfl (by (try simp only [List.map_toArray, List.map_cons, List.map_nil]); first | done | rfl | (simp only [List.length_drop, List.length_take]; rfl)) ?_; (with_reducible refine (macadamref00_Sooner.calls k _ _ l0 _ _ l1 t269 _ ?side1 ?side2 ?side3 ?side4 A4.out).mono ?_); (case side1 => repeat (first | exact HR0.out | (with_reducible refine Kd.C_alloc ?_ _) | (with_reducible refine Kd.C_drewN ?_ _) | (with_reducible refine Kd.C_drew ?_))); (case side2 => exact HC0.out); (case side3 => repeat (first | exact HR1.out | (with_reducible refine Kd.C_alloc ?_ _) | (with_reducible refine Kd.C_drewN ?_ _) | (with_reducible refine Kd.C_drew ?_))); (case side4 => exact HC1.out); rintro e w' ⟨rfl, ⟨nd, rfl⟩⟩; refine ⟨_, rfl, ?_⟩))
    go_ret
    exact ⟨by first | rfl | (simp; done) | (simp [*]; done), by repeat (first | exact Drawn0.refl _ | apply Drawn0.step)⟩
  · rw [if_neg c3] at H
    have c3b0 : ((l0.length : Int) == (l1.length : Int)) = false := beq_eq_false_iff_ne.mpr c3
    have c3b1 : ((l0.length : Int) != (l1.length : Int)) = true := bne_iff_ne.mpr c3
    have c3b2 : (l0.length == l1.length) = false := by first | simpa using c3 | (simp at c3 ⊢; omega)
    obtain rfl := Option.some.inj H
    go_enter Tryd.func69, Tryd.ntmps69
    go_wp2
    go_ret
    exact ⟨by first | rfl | (simp; done) | (simp [*]; done), by repeat (first | exact Drawn0.refl _ | apply Drawn0.step)⟩
end Go.Proofs.YthgjedagbgmgmaaDoor.Pr
namespace Go.Proofs.YthgjedagbgmgmaaDoor.Pr
open Go.RowKit Go.Proofs.YthgjedagbgmgmaaDoorW.PrintWords Go.Proofs.YthgjedagbgmgmaaDoorW.PrintLast Go.Proofs.YthgjedagbgmgmaaDoorW.PrintMore
set_option linter.unusedVariables false
set_option linter.unusedSimpArgs false
theorem rd_at {l : List Int} {i : Nat} (h : i < l.length) : rd l (i : Int) = l[i] := by unfold rd; rw [Int.toNat_natCast, List.getD_eq_getElem?_getD, List.getElem?_eq_getElem h]; rfl
theorem place_aux (l : List Int) (a : Int) (hl : l.length ≤ 1000) : ∀ (m i k : Nat), i + m = l.length → m < k → ∃ r, macadamref00_Place.l0 k l a i = some r ∧ decide (r < 0) = !decide (a ∈ l.drop i) := by
  intro m
  induction m with
  | zero =>
    intro i k hi hk
    obtain ⟨k, rfl⟩ : ∃ j, k = j + 1 := ⟨k - 1, by omega⟩
    unfold macadamref00_Place.l0
    rw [if_neg (by omega), List.drop_of_length_le (by omega)]
    exact ⟨-1, rfl, by simp⟩
  | succ m ih =>
    intro i k hi hk
    obtain ⟨k, rfl⟩ : ∃ j, k = j + 1 := ⟨k - 1, by omega⟩
    have hlt : i < l.length := by omega
    unfold macadamref00_Place.l0
    rw [if_pos (by omega), if_pos (by omega), rd_at hlt, List.drop_eq_getElem_cons hlt]
    by_cases e : l[i] = a
    · rw [if_pos e]
      refine ⟨i, rfl, ?_⟩
      rw [decide_eq_false (by omega)]
      simp [e]
    · rw [if_neg e, wrap64_id (by omega) (by omega), show (i : Int) + 1 = ((i + 1 : Nat) : Int) by omega]
      obtain ⟨r, h1, h2⟩ := ih (i + 1) k (by omega) (by omega)
      refine ⟨r, h1, ?_⟩
      rw [h2]
      congr 1
      exact decide_eq_decide.2 ⟨fun q => List.mem_cons_of_mem _ q, fun q => (List.mem_cons.1 q).resolve_left fun q => e q.symm⟩
theorem place_law (l : List Int) (a : Int) (hl : l.length ≤ 1000) : ∃ r, macadamref00_Place.f (l.length + 1) l a = some r ∧ decide (r < 0) = !decide (a ∈ l) := by
  obtain ⟨r, h1, h2⟩ := place_aux l a hl l.length 0 (l.length + 1) (by omega) (by omega)
  exact ⟨r, h1, by rwa [List.drop_zero] at h2⟩
theorem rising_aux (l : List Int) (n : Nat) (hl : l.length ≤ 1000) : ∀ (m i k : Nat) (last : Int), i + m = l.length → m < k → -1 ≤ last → Ris n (last + 1).toNat (l.drop i) → macadamref00_Rising.l0 k l n last i = some true := by
  intro m
  induction m with
  | zero =>
    intro i k last hi hk h0 hr
    obtain ⟨k, rfl⟩ : ∃ j, k = j + 1 := ⟨k - 1, by omega⟩
    unfold macadamref00_Rising.l0
    rw [if_neg (by omega)]
  | succ m ih =>
    intro i k last hi hk h0 hr
    obtain ⟨k, rfl⟩ : ∃ j, k = j + 1 := ⟨k - 1, by omega⟩
    have hlt : i < l.length := by omega
    rw [List.drop_eq_getElem_cons hlt] at hr
    obtain ⟨h1, h2, h3⟩ := hr
    unfold macadamref00_Rising.l0
    rw [if_pos (by omega), if_pos (by omega), rd_at hlt, if_neg (by omega), if_neg (by omega), wrap64_id (by omega) (by omega), show (i : Int) + 1 = ((i + 1 : Nat) : Int) by omega]
    exact ih (i + 1) k _ (by omega) (by omega) (by omega) h3
theorem rising_law (l : List Int) (n : Nat) (hl : l.length ≤ 1000) (h : Ris n 0 l) : macadamref00_Rising.f (l.length + 1) l n = some true :=
  rising_aux l n hl l.length 0 (l.length + 1) (-1) (by omega) (by omega) (by omega) (by rw [List.drop_zero]; exact h)
theorem sooner_aux (l m : List Int) (hl : l.length ≤ 1000) (hm : m.length ≤ 1000) : ∀ (d i k : Nat), i + d = l.length → 2 * d + 2 ≤ k → i ≤ m.length → macadamref00_Sooner.l0 k l m i = some (soonerL (l.drop i) (m.drop i)) := by
  intro d
  induction d with
  | zero =>
    intro i k hi hk him
    obtain ⟨k, rfl⟩ : ∃ j, k = j + 2 := ⟨k - 2, by omega⟩
    unfold macadamref00_Sooner.l0
    rw [if_neg (by omega)]
    unfold macadamref00_Sooner.j1
    rw [if_neg (by decide), List.drop_of_length_le (show l.length ≤ i by omega)]
    by_cases e : i < m.length
    · rw [decide_eq_true (by omega), List.drop_eq_getElem_cons e]
      rfl
    · rw [decide_eq_false (by omega), List.drop_of_length_le (by omega)]
      rfl
  | succ d ih =>
    intro i k hi hk him
    obtain ⟨k, rfl⟩ : ∃ j, k = j + 2 := ⟨k - 2, by omega⟩
    have hlt : i < l.length := by omega
    unfold macadamref00_Sooner.l0
    rw [if_pos (by omega)]
    unfold macadamref00_Sooner.j1
    rw [List.drop_eq_getElem_cons hlt]
    by_cases e : i < m.length
    · rw [if_pos (decide_eq_true (by omega)), if_pos (by omega), if_pos (by omega), if_pos (by omega), rd_at hlt, rd_at e, List.drop_eq_getElem_cons e]
      unfold soonerL
      by_cases q : l[i] = m[i]
      · rw [if_pos q, if_pos q, wrap64_id (by omega) (by omega), show (i : Int) + 1 = ((i + 1 : Nat) : Int) by omega]
        exact ih (i + 1) k (by omega) (by omega) (by omega)
      · rw [if_neg q, if_neg q]
    · rw [if_neg (by rw [decide_eq_false (by omega)]; decide), List.drop_of_length_le (show m.length ≤ i by omega), decide_eq_false (by omega)]
      rfl
theorem fewer_law (l m : List Int) (hl : l.length ≤ 1000) (hm : m.length ≤ 1000) : macadamref00_Fewer.f (2 * l.length + 2) l m = some (fewerL l m) := by
  unfold macadamref00_Fewer.f fewerL
  by_cases e : l.length = m.length
  · rw [if_pos (by omega), if_pos e]
    unfold macadamref00_Sooner.f
    have := sooner_aux l m hl hm l.length 0 (2 * l.length + 2) (by omega) (by omega) (by omega)
    rw [List.drop_zero, List.drop_zero] at this
    rw [show ((0 : Nat) : Int) = 0 from rfl] at this
    rw [this]
    rfl
  · rw [if_neg (by omega), if_neg e]
    congr 1
    exact decide_eq_decide.2 (by omega)
/-- The numbers of a set. -/
def allL (set : Int) : Nat → Nat → List Int
  | 0, _ => []
  | d + 1, i => if hasSky set i then (i : Int) :: allL set d (i + 1) else allL set d (i + 1)
theorem allL_len (set : Int) : ∀ d i, (allL set d i).length ≤ d := by
  intro d
  induction d with
  | zero => intro i; exact Nat.le_refl _
  | succ d ih =>
    intro i
    have := ih (i + 1)
    unfold allL
    split
    · simp only [List.length_cons]; omega
    · omega
theorem allL_ris (set : Int) : ∀ (d i a : Nat), a ≤ i → Ris (i + d) a (allL set d i) := by
  intro d
  induction d with
  | zero => intro i a _; trivial
  | succ d ih =>
    intro i a h
    unfold allL
    split
    · refine ⟨by omega, by omega, ?_⟩
      have := ih (i + 1) ((i : Int) + 1).toNat (by omega)
      rwa [show i + 1 + d = i + (d + 1) by omega] at this
    · have := ih (i + 1) a (by omega)
      rwa [show i + 1 + d = i + (d + 1) by omega] at this
theorem allL_step (set : Int) (d i : Nat) : allL set (d + 1) i = (if hasSky set i then [(i : Int)] else []) ++ allL set d (i + 1) := by
  conv => lhs; unfold allL
  split <;> simp
theorem in_law' {s : Int} {j : Nat} (h0 : 0 ≤ s) (h7 : s ≤ 15) (j2 : j ≤ 3) : macadamref00_In.f s j = some (hasSky s j) := by
  have hj : j = 0 ∨ j = 1 ∨ j = 2 ∨ j = 3 := by omega
  have hs : s = 0 ∨ s = 1 ∨ s = 2 ∨ s = 3 ∨ s = 4 ∨ s = 5 ∨ s = 6 ∨ s = 7 ∨ s = 8 ∨ s = 9 ∨ s = 10 ∨ s = 11 ∨ s = 12 ∨ s = 13 ∨ s = 14 ∨ s = 15 := by omega
  rcases hj with rfl | rfl | rfl | rfl <;> rcases hs with rfl | rfl | rfl | rfl | rfl | rfl | rfl | rfl | rfl | rfl | rfl | rfl | rfl | rfl | rfl | rfl <;> decide +kernel
theorem in_calls' {s : Int} {j : Nat} (h0 : 0 ≤ s) (h7 : s ≤ 15) (j2 : j ≤ 3) (w : World) : Calls Tryd.prog 61 #[.int .i64 s, .int .i64 (j : Int)] w fun e w' => e = .returned (.bool (hasSky s j)) ∧ Below w.heap.size w w' :=
  (macadamref00_In.calls s j _ w (in_law' h0 h7 j2)).mono (by rintro e w' ⟨rfl, hd⟩; exact ⟨rfl, hd.below⟩)
theorem place_calls {A : Option Addr} {c : Nat} {l : List Int} (a : Int) (hl : l.length ≤ 1000) (w : World) (hr : Kd.C (Kd.int .i64) w A l.length l) (hc : l.length ≤ c) : Calls Tryd.prog 54 #[.slice A l.length c, .int .i64 a] w fun e w' => ∃ r : Int, e = .returned (.int .i64 r) ∧ decide (r < 0) = (!decide (a ∈ l)) ∧ Below w.heap.size w w' := by
  obtain ⟨r, h1, h2⟩ := place_law l a hl
  exact (macadamref00_Place.calls _ A c l a r w hr hc h1).mono (by rintro e w' ⟨rfl, hd⟩; exact ⟨r, rfl, h2, hd.below⟩)
theorem rising_calls {A : Option Addr} {c : Nat} {l : List Int} {n : Nat} (hl : l.length ≤ 1000) (h : Ris n 0 l) (w : World) (hr : Kd.C (Kd.int .i64) w A l.length l) (hc : l.length ≤ c) : Calls Tryd.prog 51 #[.slice A l.length c, .int .i64 (n : Int)] w fun e w' => e = .returned (.bool true) ∧ Below w.heap.size w w' :=
  (macadamref00_Rising.calls _ A c l n true w hr hc (rising_law l n hl h)).mono (by rintro e w' ⟨rfl, hd⟩; exact ⟨rfl, hd.below⟩)
theorem fewer_calls {A B : Option Addr} {c d : Nat} {l m : List Int} (hl : l.length ≤ 1000) (hm : m.length ≤ 1000) (w : World) (hr : Kd.C (Kd.int .i64) w A l.length l) (hc : l.length ≤ c) (hs : Kd.C (Kd.int .i64) w B m.length m) (hd : m.length ≤ d) : Calls Tryd.prog 69 #[.slice A l.length c, .slice B m.length d] w fun e w' => e = .returned (.bool (fewerL l m)) ∧ Below w.heap.size w w' :=
  (macadamref00_Fewer.calls _ A c l B d m _ w hr hc hs hd (fewer_law l m hl hm)).mono (by rintro e w' ⟨rfl, hd⟩; exact ⟨rfl, hd.below⟩)
end Go.Proofs.YthgjedagbgmgmaaDoor.Pr
namespace Go.Proofs.YthgjedagbgmgmaaDoor.Pr
open Go.RowKit Go.Proofs.YthgjedagbgmgmaaDoorW.PrintWords Go.Proofs.YthgjedagbgmgmaaDoorW.PrintLast Go.Proofs.YthgjedagbgmgmaaDoorW.PrintMore
set_option linter.unusedVariables false
set_option linter.unusedSimpArgs false
theorem withoutL_cons (x : S43) (xs : List S43) (l : List Int) (k : Nat) : withoutL (x :: xs) l k = if (k : Int) ∈ l then withoutL xs l (k + 1) else x :: withoutL xs l (k + 1) := rfl
set_option maxHeartbeats 2000000 in
set_option maxRecDepth 100000 in
theorem all_calls (set : Int) (n : Nat) (h0 : 0 ≤ set) (h15 : set ≤ 15) (hn : n ≤ 4) (w : World) :
    Calls Tryd.prog 67 #[.int .i64 set, .int .i64 (n : Int)] w fun e w' => ∃ A c, e = .returned (.slice A (allL set n 0).length c) ∧ Kd.C (Kd.int .i64) w' A (allL set n 0).length (allL set n 0) ∧ (allL set n 0).length ≤ c ∧ Below w.heap.size w w' := by
  go_enter Tryd.func67, Tryd.ntmps67
  have HB := Lib.hid (Below.refl w.heap.size w)
  go_wp2_with ((with_reducible refine gate_dst (N := 7) rfl ?_); refine Kd.R_lit (Kd.int .i64) (w0 := w) w.heap.size 3 ?hg (N := 7) ?hd (xs := ([] : List Int)) (inner := []) (ok := fun _ => True) (okp := fun _ => True) ?hr ?hp (fun _ hk => hk) trivial HB.out HB.out.size (by simp) ?_; (case hd => rfl); (case hg => rfl); (case hr => first | (go_simp; done) | (go_simp; rfl)); (case hp => exact (Reps.none _ _)); intro va W1 ho hb hg hnew_; clear hnew_; replace HB := Lib.hid (hb); have Ra := Lib.hid ho; clear ho hb hg)
  obtain ⟨Aa, ca, ea⟩ := Kd.R_slice Ra.out
  subst ea
  go_loopg [5, 6] (n) (fun gk v5 v6 wr => ∃ (k : Nat) (A : Option Addr) (m c : Nat) (pre : List Int), v5 = .slice A m c ∧ v6 = .int .i64 (k : Int) ∧ Aside0 (k + gk = n) ∧ Aside0 (Kd.R (Kd.int .i64) 3 wr w.heap.size (fun _ => True) (.slice A m c) pre) ∧ Aside0 (allL set n 0 = pre ++ allL set gk k) ∧ Aside0 (Below w.heap.size w wr))
  case atStart => exact ⟨0, Aa, _, ca, [], rfl, rfl, ⟨by omega⟩, ⟨Ra.out⟩, ⟨rfl⟩, ⟨HB.out⟩⟩
  case round =>
    clear HB Ra
    obtain ⟨k, A, m, c, pre, rfl, rfl, HK, Ra, HS, HB⟩ := hrel
    cases gk with
    | zero =>
      have hge : ¬ k < n := by have := HK.out; omega
      go_wp2
      go_ret
      have hp : allL set n 0 = pre := by rw [HS.out]; exact List.append_nil _
      have hr := Kd.R_reads' Ra.out
      rw [hp]
      exact ⟨A, c, by rw [← hr.1]; rfl, hr.2.2, by rw [← hr.1]; exact hr.2.1, HB.out⟩
    | succ g1 =>
      have hlt : k < n := by have := HK.out; omega
      have hpl : pre.length ≤ n := by have := congrArg List.length HS.out; rw [List.length_append] at this; have := allL_len set n 0; omega
      go_wp2_with fail
      refine (in_calls' h0 h15 (by omega) _).mono ?_
      rintro e W1 ⟨rfl, hb⟩
      have hg := g_below hb
      replace Ra := Lib.hid (R_typed_grown Ra.out hg (fun g e => by cases e))
      replace HB := Lib.hid (HB.out.trans (below_weaken hb HB.out.size))
      clear hb hg
      cases hq : hasSky set k with
      | true =>
        go_wp2_with ((with_reducible refine gate_builtin (b := .append) (xs := #[.tmp 16, .tmp 18]) rfl ?_); at_builtin; refine Kd.R_append (Kd.int .i64) (w0 := w) w.heap.size rfl (.tmp 16) (.tmp 18) 45 3 (.int .i64 0) 8 rfl Tryd.underlying45 info3 rfl (by decide) (by omega) (.slice A m c) pre ((k : Int)) [.int .i64 (k : Int)] (fun _ => True) (fun _ => False) rfl rfl (rfl) (fun _ hk => hk.elim) (fun _ _ => trivial) Ra.out HB.out HB.out.size (by omega) ?_; intro vb W2 ho hb hg hat; replace HB := Lib.hid (hb); clear Ra; obtain ⟨xb, hx_⟩ : ∃ l_, l_ = (pre ++ [(k : Int)]) := ⟨_, rfl⟩; rw [← hx_] at ho; have Eb := Lib.hid hx_; clear hx_; have Rb := Lib.hid ho; clear ho hb hg hat; obtain ⟨Ab, cb, eb⟩ := Kd.R_slice Rb.out; subst eb)
        go_roundg g1
        case measure => omega
        case rel => exact ⟨k + 1, Ab, _, cb, _, rfl, by go_num, ⟨by have := HK.out; omega⟩, ⟨Rb.out⟩, ⟨by rw [Eb.out, HS.out, allL_step, hq]; simp⟩, ⟨HB.out⟩⟩

      | false =>
        go_wp2
        go_roundg g1
        case measure => omega
        case rel => exact ⟨k + 1, A, m, c, pre, rfl, by go_num, ⟨by have := HK.out; omega⟩, ⟨Ra.out⟩, ⟨by rw [HS.out, allL_step, hq]; simp⟩, ⟨HB.out⟩⟩
set_option maxHeartbeats 2000000 in
set_option maxRecDepth 100000 in
theorem without_calls (A0 A1 A2 Al : Option Addr) (n0 n1 c0 c1 c2 cl : Nat) (l2 : List S43) (l : List Int) (h4 : l2.length ≤ 4) (h1000 : l.length ≤ 1000) (w : World) (hr2 : Kd.C k43 w A2 l2.length l2) (hrl : Kd.C (Kd.int .i64) w Al l.length l) (hcl : l.length ≤ cl) :
    Calls Tryd.prog 68 #[.agg #[.slice A0 n0 c0, .slice A1 n1 c1, .slice A2 l2.length c2], .slice Al l.length cl] w fun e w' => ∃ A c, e = .returned (.agg #[.slice A0 n0 c0, .slice A1 n1 c1, .slice A (withoutL l2 l 0).length c]) ∧ Kd.C k43 w' A (withoutL l2 l 0).length (withoutL l2 l 0) ∧ (withoutL l2 l 0).length ≤ c ∧ Below w.heap.size w w' := by
  have HAT := Lib.hid (fun (i : Nat) (hi : i < l2.length) => at43 (row43 hr2) i hi)
  have HRL := Lib.hid hrl
  clear hr2 hrl
  go_enter Tryd.func68, Tryd.ntmps68
  have HB := Lib.hid (Below.refl w.heap.size w)
  go_wp2
  obtain ⟨W1, hnw⟩ : ∃ W, W = (((w.alloc (.cells #[.slice A0 n0 c0, .slice A1 n1 c1, .slice A2 l2.length c2] 26)).alloc (.cells #[.slice none 0 0, .slice none 0 0, .slice none 0 0] 26)).alloc (.cells #[.slice A0 n0 c0, .slice A1 n1 c1, .slice none 0 0] 26)) := ⟨_, rfl⟩
  rw [← hnw]
  have hg : w.grownBy W1 (none) := by rw [hnw]; exact (g_all (g_all (g_all (g_refl w (none)) (.cells #[.slice A0 n0 c0, .slice A1 n1 c1, .slice A2 l2.length c2] 26)) (.cells #[.slice none 0 0, .slice none 0 0, .slice none 0 0] 26)) (.cells #[.slice A0 n0 c0, .slice A1 n1 c1, .slice none 0 0] 26))
  have HK := Lib.hid (show W1.heap[w.heap.size]? = some (.cells #[.slice A0 n0 c0, .slice A1 n1 c1, .slice A2 l2.length c2] 26 (0, 0)) by rw [hnw]; exact blk_alloc (blk_alloc (blk_at w (.cells #[.slice A0 n0 c0, .slice A1 n1 c1, .slice A2 l2.length c2] 26) _ (by simp)) (.cells #[.slice none 0 0, .slice none 0 0, .slice none 0 0] 26)) (.cells #[.slice A0 n0 c0, .slice A1 n1 c1, .slice none 0 0] 26))
  have HZ := Lib.hid (show W1.heap[w.heap.size + 1]? = some (.cells #[.slice none 0 0, .slice none 0 0, .slice none 0 0] 26 (0, 0)) by rw [hnw]; exact blk_alloc (blk_at (w.alloc (.cells #[.slice A0 n0 c0, .slice A1 n1 c1, .slice A2 l2.length c2] 26)) (.cells #[.slice none 0 0, .slice none 0 0, .slice none 0 0] 26) _ (by simp)) (.cells #[.slice A0 n0 c0, .slice A1 n1 c1, .slice none 0 0] 26))
  have HX := Lib.hid (show W1.heap[w.heap.size + 1 + 1]? = some (.cells #[.slice A0 n0 c0, .slice A1 n1 c1, .slice none 0 0] 26 (0, 0)) by rw [hnw]; exact blk_at ((w.alloc (.cells #[.slice A0 n0 c0, .slice A1 n1 c1, .slice A2 l2.length c2] 26)).alloc (.cells #[.slice none 0 0, .slice none 0 0, .slice none 0 0] 26)) (.cells #[.slice A0 n0 c0, .slice A1 n1 c1, .slice none 0 0] 26) _ (by simp))
  replace HB := Lib.hid (HB.out.grown hg HB.out.size (fun k e => by cases e))
  clear hg hnw
  go_loopg [6] (l2.length) (fun gk v6 wr => ∃ (k : Nat) (A : Option Addr) (m c : Nat) (pre : List S43), v6 = .int .i64 (k : Int) ∧ Aside0 (k + gk = l2.length) ∧ Aside0 (wr.heap[w.heap.size]? = some (.cells #[.slice A0 n0 c0, .slice A1 n1 c1, .slice A2 l2.length c2] 26 (0, 0))) ∧ Aside0 (wr.heap[w.heap.size + 1]? = some (.cells #[.slice none 0 0, .slice none 0 0, .slice none 0 0] 26 (0, 0))) ∧ Aside0 (wr.heap[w.heap.size + 1 + 1]? = some (.cells #[.slice A0 n0 c0, .slice A1 n1 c1, .slice A m c] 26 (0, 0))) ∧ Aside0 (Kd.R k43 43 wr w.heap.size (fun _ => True) (.slice A m c) pre) ∧ Aside0 (withoutL l2 l 0 = pre ++ withoutL (l2.drop k) l k) ∧ Aside0 (Below w.heap.size w wr))
  case atStart => exact ⟨0, none, 0, 0, [], rfl, ⟨by omega⟩, ⟨HK.out⟩, ⟨HZ.out⟩, ⟨HX.out⟩, ⟨Kd.R_nil _ _ _ _ _⟩, ⟨rfl⟩, ⟨HB.out⟩⟩
  case round =>
    clear HB HK HZ HX
    obtain ⟨k, A, m, c, pre, rfl, HKK, HK, HZ, HX, Ra, HS, HB⟩ := hrel
    cases gk with
    | zero =>
      have hge : ¬ k < l2.length := by have := HKK.out; omega
      have hp : withoutL l2 l 0 = pre := by rw [HS.out, List.drop_of_length_le (by omega)]; exact List.append_nil _
      have HP := Lib.hid hp
      clear hp
      have cK_0 := (blk_cell HK.out 0).trans rfl
      have cK_1 := (blk_cell HK.out 1).trans rfl
      have cK_2 := (blk_cell HK.out 2).trans rfl
      have lK := blk_lt HK.out
      have cZ_0 := (blk_cell HZ.out 0).trans rfl
      have cZ_1 := (blk_cell HZ.out 1).trans rfl
      have cZ_2 := (blk_cell HZ.out 2).trans rfl
      have fZ_0 := blk_frozen HZ.out 0
      have fZ_1 := blk_frozen HZ.out 1
      have fZ_2 := blk_frozen HZ.out 2
      have lZ := blk_lt HZ.out
      have cX_0 := (blk_cell HX.out 0).trans rfl
      have cX_1 := (blk_cell HX.out 1).trans rfl
      have cX_2 := (blk_cell HX.out 2).trans rfl
      have lX := blk_lt HX.out
      go_wp2
      have hz := blk_put (blk_put (blk_put HZ.out 0 (.slice A0 n0 c0) rfl) 1 (.slice A1 n1 c1) rfl) 2 (.slice A m c) rfl
      have hg := g_put (g_put (g_put (g_refl wr (some (w.heap.size + 1))) 0 (.slice A0 n0 c0)) 1 (.slice A1 n1 c1)) 2 (.slice A m c)
      have hr := Kd.R_reads' (R_typed_grown Ra.out hg (fun g e => by injection e with e; subst e; exact ⟨_, _, HZ.out, by decide⟩))
      rw [HP.out]
      refine bodyPost_ret (results_cell_row rfl _ _ (w.heap.size + 1) 26 #[.slice A0 n0 c0, .slice A1 n1 c1, .slice A m c] (0, 0) _ rfl hz Tryd.underlying26 rfl (by kernel_rfl)) rfl ⟨A, c, by rw [← hr.1], hr.2.2, by rw [← hr.1]; exact hr.2.1, ?_⟩
      exact HB.out.grown hg HB.out.size (fun k e => by injection e with e; have := HB.out.size; omega)

    | succ g1 =>
      have hlt : k < l2.length := by have := HKK.out; omega
      have hpl : pre.length ≤ l2.length := by have := congrArg List.length HS.out; rw [List.length_append] at this; have := (withoutL_sub l l2 0).1; omega
      obtain ⟨b, o, eA, hbl, hx0, hx1⟩ := HAT.out k hlt
      obtain ⟨lx, hlx⟩ : ∃ x, x = l2[k] := ⟨_, rfl⟩
      rw [← hlx] at hx0 hx1
      have hdr : l2.drop k = lx :: l2.drop (k + 1) := by rw [List.drop_eq_getElem_cons hlt, hlx]
      have HDR := Lib.hid hdr
      have HX0 := Lib.hid hx0
      have HX1 := Lib.hid hx1
      have HAA := Lib.hid eA
      clear hlx hx0 hx1 hdr eA
      have cK_0 := (blk_cell HK.out 0).trans rfl
      have cK_1 := (blk_cell HK.out 1).trans rfl
      have cK_2 := (blk_cell HK.out 2).trans rfl
      have lK := blk_lt HK.out
      have cZ_0 := (blk_cell HZ.out 0).trans rfl
      have cZ_1 := (blk_cell HZ.out 1).trans rfl
      have cZ_2 := (blk_cell HZ.out 2).trans rfl
      have lZ := blk_lt HZ.out
      have cX_0 := (blk_cell HX.out 0).trans rfl
      have cX_1 := (blk_cell HX.out 1).trans rfl
      have cX_2 := (blk_cell HX.out 2).trans rfl
      have lX := blk_lt HX.out
      go_wp2_with fail
      clear cK_0 cK_1 cK_2 lK cZ_0 cZ_1 cZ_2 lZ cX_0 cX_1 cX_2 lX
      refine (place_calls (k : Int) h1000 _ (Kd.C_below HRL.out HB.out) hcl).mono ?_
      rintro e W1 ⟨pv, rfl, hpv, hb⟩
      have hg := g_below hb
      replace Ra := Lib.hid (R_typed_grown Ra.out hg (fun g e => by cases e))
      replace HK := Lib.hid (blk_grown HK.out hg (by simp))
      replace HZ := Lib.hid (blk_grown HZ.out hg (by simp))
      replace HX := Lib.hid (blk_grown HX.out hg (by simp))
      replace HB := Lib.hid (HB.out.trans (below_weaken hb HB.out.size))
      clear hb hg
      have cK_0 := (blk_cell HK.out 0).trans rfl
      have cK_1 := (blk_cell HK.out 1).trans rfl
      have cK_2 := (blk_cell HK.out 2).trans rfl
      have lK := blk_lt HK.out
      have cZ_0 := (blk_cell HZ.out 0).trans rfl
      have cZ_1 := (blk_cell HZ.out 1).trans rfl
      have cZ_2 := (blk_cell HZ.out 2).trans rfl
      have lZ := blk_lt HZ.out
      have cX_0 := (blk_cell HX.out 0).trans rfl
      have cX_1 := (blk_cell HX.out 1).trans rfl
      have cX_2 := (blk_cell HX.out 2).trans rfl
      have lX := blk_lt HX.out
      cases hq : decide ((k : Int) ∈ l) with
      | false =>
        rw [hq] at hpv
        have hpv : decide (pv < 0) = true := hpv
        have hA := HAA.out
        subst hA
        go_upto_region 7 with fail
        clear cK_0 cK_1 cK_2 lK cZ_0 cZ_1 cZ_2 lZ cX_0 cX_1 cX_2 lX
        have hb : Below W1.heap.size W1 W1.drew := (Below.refl _ _).drew
        have hg := g_below hb
        replace Ra := Lib.hid (R_typed_grown Ra.out hg (fun g e => by cases e))
        replace HK := Lib.hid (blk_grown HK.out hg (by simp))
        replace HZ := Lib.hid (blk_grown HZ.out hg (by simp))
        replace HX := Lib.hid (blk_grown HX.out hg (by simp))
        replace HB := Lib.hid (HB.out.trans (below_weaken hb HB.out.size))
        clear hb hg
        refine start_ (n := 11) (S := fun w' => w'.cell? ⟨w.heap.size, 0, none⟩ = some (.slice A0 n0 c0) ∧ w'.cell? ⟨w.heap.size, 1, none⟩ = some (.slice A1 n1 c1) ∧ w'.cell? ⟨w.heap.size, 2, none⟩ = some (.slice (some ⟨b, o, none⟩) l2.length c2) ∧ w'.cell? ⟨w.heap.size + 1, 0, none⟩ = some (.slice none 0 0) ∧ w'.cell? ⟨w.heap.size + 1, 1, none⟩ = some (.slice none 0 0) ∧ w'.cell? ⟨w.heap.size + 1, 2, none⟩ = some (.slice none 0 0) ∧ w'.cell? ⟨w.heap.size + 1 + 1, 0, none⟩ = some (.slice A0 n0 c0) ∧ w'.cell? ⟨w.heap.size + 1 + 1, 1, none⟩ = some (.slice A1 n1 c1) ∧ w'.cell? ⟨w.heap.size + 1 + 1, 2, none⟩ = some (.slice A m c) ∧ w'.cell? ⟨b, o + k * 2, none⟩ = some (.int .i64 lx.f0) ∧ w'.cell? ⟨b, o + k * 2 + 1, none⟩ = some (.int .i64 lx.f1)) (ds := [10]) #[false, false, false, false, false, false, false, false, false, false, false] (by kernel_rfl) rfl rfl ⟨(blk_cell HK.out 0).trans rfl, (blk_cell HK.out 1).trans rfl, (blk_cell HK.out 2).trans rfl, (blk_cell HZ.out 0).trans rfl, (blk_cell HZ.out 1).trans rfl, (blk_cell HZ.out 2).trans rfl, (blk_cell HX.out 0).trans rfl, (blk_cell HX.out 1).trans rfl, (blk_cell HX.out 2).trans rfl, (HB.out.cell (p := ⟨b, o + k * 2, none⟩) hbl).trans HX0.out, (HB.out.cell (p := ⟨b, o + k * 2 + 1, none⟩) hbl).trans HX1.out⟩ (fun hHeld => ?_)
        refine pu_ 0 (some 20) ?_
        refine pu_ 2 (some 22) ?_
        refine pu_ 4 (some 24) ?_
        refine ta_ 1 (some 21) (s := hHeld) (y := by rintro w' ⟨s0, s1, s2, s3, s4, s5, s6, s7, s8, s9, s10⟩; go_simp; with_reducible rfl) (h := ?_)
        refine ta_ 3 (some 23) (s := hHeld) (y := by rintro w' ⟨s0, s1, s2, s3, s4, s5, s6, s7, s8, s9, s10⟩; go_simp; with_reducible rfl) (h := ?_)
        refine pu_ 5 (some 25) ?_
        refine ta_ 6 (some 26) (s := hHeld) (y := by rintro w' ⟨s0, s1, s2, s3, s4, s5, s6, s7, s8, s9, s10⟩; go_simp; with_reducible rfl) (h := ?_)
        refine one_ (i := 7) (N := some 27) #[true, true, true, true, true, true, true, true, false, false, false] rfl rfl (by kernel_rfl) (by decide) (fun K hK => ?_)
        refine Kd.R_lit_step k43 (w0 := w) (w.heap.size) 43 (by rfl) rfl (xs := ([lx] : List S43)) (inner := [.int .i64 lx.f0, .int .i64 lx.f1]) (ok := fun _ => True) (okp := fun _ => True) ?hr_ ?hp_ (fun _ hk => hk) trivial HB.out HB.out.size (by simp) ?_
        (case hr_ => first | (go_simp; done) | (go_simp; rfl))
        (case hp_ => exact (reps_lone rfl (k43_mkM _ _ _ lx)))
        intro ve W2 ho hb hg hnew_
        have Pa_e := Lib.hid (sep_new Ra.out hnew_)
        have Pe_a := Lib.hid (sep_sym Pa_e.out)
        clear hnew_
        replace Ra := Lib.hid (R_typed_grown Ra.out hg (fun g e => by cases e))
        replace HK := Lib.hid (blk_grown HK.out hg (by simp))
        replace HZ := Lib.hid (blk_grown HZ.out hg (by simp))
        replace HX := Lib.hid (blk_grown HX.out hg (by simp))
        replace HB := Lib.hid (hb)
        have Re := Lib.hid ho
        clear ho hb hg
        refine hK.out _ _ ⟨(blk_cell HK.out 0).trans rfl, (blk_cell HK.out 1).trans rfl, (blk_cell HK.out 2).trans rfl, (blk_cell HZ.out 0).trans rfl, (blk_cell HZ.out 1).trans rfl, (blk_cell HZ.out 2).trans rfl, (blk_cell HX.out 0).trans rfl, (blk_cell HX.out 1).trans rfl, (blk_cell HX.out 2).trans rfl, (HB.out.cell (p := ⟨b, o + k * 2, none⟩) hbl).trans HX0.out, (HB.out.cell (p := ⟨b, o + k * 2 + 1, none⟩) hbl).trans HX1.out⟩ (fun hHeld => ?_)
        clear hK K
        refine no_ 27 ?_
        refine one_ (i := 8) (N := some 28) #[true, true, true, true, true, true, true, true, true, false, false] rfl rfl (by kernel_rfl) (by decide) (fun K hK => ?_)
        obtain ⟨Ay_, cy_, ey_⟩ := Kd.R_slice Re.out
        subst ey_
        refine Kd.R_append_rows_step k43 (w0 := w) (w.heap.size) (by rfl) (.tmp 21) (.tmp 27) 24 43 (.agg #[.int .i64 0, .int .i64 0]) 16 rfl Tryd.underlying24 info43 rfl (by decide) (by omega) (.slice A m c) pre [lx] _ _ _ (fun _ => True) (fun _ => False) rfl rfl Ra.out ((Kd.R_reads' Re.out).2.2) (fun x_ cs_ h_ => by rw [k43_open h_]; exact k43_mkM _ _ _ _) (fun _ h => h.elim) (fun _ _ => trivial) HB.out HB.out.size (by simp only [List.length_cons, List.length_nil]; omega) ?_
        intro vb W3 ho hb hg hat
        replace HK := Lib.hid (blk_grown HK.out hg (own_ne Ra.out HK.out (by decide)))
        replace HZ := Lib.hid (blk_grown HZ.out hg (own_ne Ra.out HZ.out (by decide)))
        replace HX := Lib.hid (blk_grown HX.out hg (own_ne Ra.out HX.out (by decide)))
        replace HB := Lib.hid (hb)
        clear Ra Re
        obtain ⟨xb, hx_⟩ : ∃ l_, l_ = (pre ++ [lx]) := ⟨_, rfl⟩
        rw [← hx_] at ho
        have Eb := Lib.hid hx_
        clear hx_
        have Rb : Hid (Kd.R k43 43 W3 (w.heap.size) (fun _ => True) vb (xb)) := Lib.hid (by first | exact ho | simpa using ho | (rw [HLM.out]; simpa using ho))
        clear ho hb hg hat
        obtain ⟨Ab, cb, eb⟩ := Kd.R_slice Rb.out
        subst eb
        refine hK.out _ _ ⟨(blk_cell HK.out 0).trans rfl, (blk_cell HK.out 1).trans rfl, (blk_cell HK.out 2).trans rfl, (blk_cell HZ.out 0).trans rfl, (blk_cell HZ.out 1).trans rfl, (blk_cell HZ.out 2).trans rfl, (blk_cell HX.out 0).trans rfl, (blk_cell HX.out 1).trans rfl, (blk_cell HX.out 2).trans rfl, (HB.out.cell (p := ⟨b, o + k * 2, none⟩) hbl).trans HX0.out, (HB.out.cell (p := ⟨b, o + k * 2 + 1, none⟩) hbl).trans HX1.out⟩ (fun hHeld => ?_)
        clear hK K
        refine no_ 28 ?_
        refine pu_ 9 (some 29) ?_
        refine last_ (i := 10) (N := none) #[true, true, true, true, true, true, true, true, true, true, true] rfl rfl (by kernel_rfl) (by decide) (fun K hK => ?_)
        have cX_0 := (blk_cell HX.out 0).trans rfl
        have cX_1 := (blk_cell HX.out 1).trans rfl
        have cX_2 := (blk_cell HX.out 2).trans rfl
        have fX_0 := blk_frozen HX.out 0
        have fX_1 := blk_frozen HX.out 1
        have fX_2 := blk_frozen HX.out 2
        have lX := blk_lt HX.out
        refine skip_ (w1 := ?_) (by rfl) rfl ?_ ?_
        rotate_left
        · go_simp
          rfl
        refine hK.out _ _ ?_
        clear hK K
        refine done_ (by kernel_rfl) ?_

        clear cX_0 cX_1 cX_2 fX_0 fX_1 fX_2 lX
        obtain ⟨W4, hnw⟩ : ∃ W, W = (W3.setCell ⟨w.heap.size + 1 + 1, 2, none⟩ (.slice Ab xb.length cb)) := ⟨_, rfl⟩
        rw [← hnw]
        have hg : W3.grownBy W4 (some (w.heap.size + 1 + 1)) := by rw [hnw]; exact (g_put (g_refl W3 (some (w.heap.size + 1 + 1))) 2 (.slice Ab xb.length cb))
        have HXq := Lib.hid (show W4.heap[w.heap.size + 1 + 1]? = some (.cells #[.slice A0 n0 c0, .slice A1 n1 c1, .slice Ab xb.length cb] 26 (0, 0)) by rw [hnw]; exact blk_put (HX.out) 2 (.slice Ab xb.length cb) rfl)
        have HOLD := HX
        replace Rb := Lib.hid (R_typed_grown Rb.out hg (fun g e => by injection e with e; subst e; exact ⟨_, _, HOLD.out, by decide⟩))
        replace HK := Lib.hid (blk_grown HK.out hg (fun e => by injection e with e; omega))
        replace HZ := Lib.hid (blk_grown HZ.out hg (fun e => by injection e with e; omega))
        clear HOLD
        clear HX
        have HX := HXq
        clear HXq
        replace HB := Lib.hid (HB.out.grown hg HB.out.size (fun k e => by injection e with e; have := HB.out.size; omega))
        clear hg hnw
        go_wp2
        go_roundg g1
        case measure => omega
        case rel => exact ⟨k + 1, Ab, _, cb, _, by go_num, ⟨by have := HKK.out; omega⟩, ⟨HK.out⟩, ⟨HZ.out⟩, ⟨HX.out⟩, ⟨Rb.out⟩, ⟨by rw [Eb.out, HS.out, HDR.out, withoutL_cons, if_neg (of_decide_eq_false hq)]; simp⟩, ⟨HB.out⟩⟩

      | true =>
        rw [hq] at hpv
        have hpv : decide (pv < 0) = false := hpv
        go_wp2
        go_roundg g1
        case measure => omega
        case rel => exact ⟨k + 1, A, m, c, pre, by go_num, ⟨by have := HKK.out; omega⟩, ⟨HK.out⟩, ⟨HZ.out⟩, ⟨HX.out⟩, ⟨Ra.out⟩, ⟨by rw [HS.out, HDR.out, withoutL_cons, if_pos (of_decide_eq_true hq)]⟩, ⟨HB.out⟩⟩
end Go.Proofs.YthgjedagbgmgmaaDoor.Pr
namespace Go.Proofs.YthgjedagbgmgmaaDoor.Pr
open Go.RowKit Go.Proofs.YthgjedagbgmgmaaDoorW.PrintWords Go.Proofs.YthgjedagbgmgmaaDoorW.PrintLast Go.Proofs.YthgjedagbgmgmaaDoorW.PrintMore
set_option linter.unusedVariables false
set_option linter.unusedSimpArgs false
set_option maxHeartbeats 8000000 in
set_option maxRecDepth 100000 in
theorem wrong_none (A0 A1 A2 : Option Addr) (c0 c1 c2 : Nat) (l0 : List S92) (l1 : List S90) (l2 : List S43) (n : Int) (w : World) (HWN : Hid (∀ W, Below w.heap.size w W → Calls Tryd.prog 40 #[.agg #[.slice A0 l0.length c0, .slice A1 l1.length c1, .slice A2 l2.length c2]] W fun e w' => ∃ A c, e = .returned (.tuple #[.slice A 0 c, .int .i64 70]) ∧ Below W.heap.size W w')) (HSO : Hid (∀ W, Below w.heap.size w W → Calls Tryd.prog 56 #[.agg #[.slice A0 l0.length c0, .slice A1 l1.length c1, .slice A2 l2.length c2]] W fun e w' => e = .returned (.bool false) ∧ Below W.heap.size W w')) (HRO : Hid (∀ W, Below w.heap.size w W → Calls Tryd.prog 27 #[] W fun e w' => e = .returned (.bool true) ∧ Below W.heap.size W w')) :
    Calls Tryd.prog 15 #[.agg #[.slice A0 l0.length c0, .slice A1 l1.length c1, .slice A2 l2.length c2], .int .i64 n] w fun e w' => e = .returned (.bool true) ∧ Below w.heap.size w w' := by
  go_enter Tryd.func15, Tryd.ntmps15
  have HB := Lib.hid (Below.refl w.heap.size w)
  go_wp2_with fail
  obtain ⟨W1, hnw⟩ : ∃ W, W = (w.alloc (.cells #[.slice A0 l0.length c0, .slice A1 l1.length c1, .slice A2 l2.length c2] 26)) := ⟨_, rfl⟩
  rw [← hnw]
  have hg : w.grownBy W1 (none) := by rw [hnw]; exact (g_all (g_refl w (none)) (.cells #[.slice A0 l0.length c0, .slice A1 l1.length c1, .slice A2 l2.length c2] 26))
  have HK := Lib.hid (show W1.heap[w.heap.size]? = some (.cells #[.slice A0 l0.length c0, .slice A1 l1.length c1, .slice A2 l2.length c2] 26 (0, 0)) by rw [hnw]; exact blk_at w (.cells #[.slice A0 l0.length c0, .slice A1 l1.length c1, .slice A2 l2.length c2] 26) _ (by simp))
  replace HB := Lib.hid (HB.out.grown hg HB.out.size (fun k e => by cases e))
  clear hg hnw
  refine (HWN.out _ HB.out).mono ?_
  rintro e W2 ⟨Aw, cw, rfl, hb⟩
  have hg := g_below hb
  replace HK := Lib.hid (blk_grown HK.out hg (by simp))
  replace HB := Lib.hid (HB.out.trans (below_weaken hb HB.out.size))
  clear hb hg
  have cK_0 := (blk_cell HK.out 0).trans rfl
  have cK_1 := (blk_cell HK.out 1).trans rfl
  have cK_2 := (blk_cell HK.out 2).trans rfl
  have lK := blk_lt HK.out
  go_wp2_with fail
  clear cK_0 cK_1 cK_2 lK
  refine (HSO.out _ HB.out).mono ?_
  rintro e W3 ⟨rfl, hb⟩
  have hg := g_below hb
  replace HK := Lib.hid (blk_grown HK.out hg (by simp))
  replace HB := Lib.hid (HB.out.trans (below_weaken hb HB.out.size))
  clear hb hg
  have cK_0 := (blk_cell HK.out 0).trans rfl
  have cK_1 := (blk_cell HK.out 1).trans rfl
  have cK_2 := (blk_cell HK.out 2).trans rfl
  have lK := blk_lt HK.out
  go_wp2_with fail
  clear cK_0 cK_1 cK_2 lK
  refine (HRO.out _ HB.out).mono ?_
  rintro e W4 ⟨rfl, hb⟩
  have hg := g_below hb
  replace HK := Lib.hid (blk_grown HK.out hg (by simp))
  replace HB := Lib.hid (HB.out.trans (below_weaken hb HB.out.size))
  clear hb hg
  have cK_0 := (blk_cell HK.out 0).trans rfl
  have cK_1 := (blk_cell HK.out 1).trans rfl
  have cK_2 := (blk_cell HK.out 2).trans rfl
  have lK := blk_lt HK.out
  clear cK_0 cK_1 cK_2 lK
  go_wp2
  go_ret
  exact ⟨ret_true (by first | rfl | (simp; done) | (simp; omega)), HB.out⟩
set_option maxHeartbeats 8000000 in
set_option maxRecDepth 100000 in
theorem wrong_walk (A0 A1 A2 : Option Addr) (c0 c1 c2 : Nat) (l0 : List S92) (l1 : List S90) (l2 : List S43) (n : Int) (w : World) (lw lo : List Int) (lwk lok : List S43) (isb less fw : Bool) (o : Nat) (hl2 : l2.length ≤ 4) (hlwz : ((lw.length : Int) == 0) = isb) (HSO : Hid (∀ W, Below w.heap.size w W → Calls Tryd.prog 56 #[.agg #[.slice A0 l0.length c0, .slice A1 l1.length c1, .slice A2 l2.length c2]] W fun e w' => e = .returned (.bool true) ∧ Below W.heap.size W w')) (HRO : Hid (∀ W, Below w.heap.size w W → Calls Tryd.prog 27 #[] W fun e w' => e = .returned (.bool true) ∧ Below W.heap.size W w')) (HWG : Hid (∀ W, Below w.heap.size w W → Calls Tryd.prog 40 #[.agg #[.slice A0 l0.length c0, .slice A1 l1.length c1, .slice A2 l2.length c2]] W fun e w' => ∃ A c, e = .returned (.tuple #[.slice A lw.length c, .int .i64 0]) ∧ Hid (Kd.C (Kd.int .i64) w' A lw.length lw) ∧ lw.length ≤ c ∧ Below W.heap.size W w')) (HRI : Hid (∀ W, Below w.heap.size w W → Calls Tryd.prog 17 #[.agg #[.slice A0 l0.length c0, .slice A1 l1.length c1, .slice A2 l2.length c2]] W fun e w' => e = .returned (.tuple #[.bool isb, .int .i64 0]) ∧ Below W.heap.size W w')) (HWR : Hid (∀ W, Calls Tryd.prog 47 #[.int .i64 n, .int .i64 (wrap64 ((2 : Int) ^ l2.length))] W fun e w' => e = .returned (.int .i64 (o : Int)) ∧ Below W.heap.size W w')) (HRS : Hid (∀ W A c, Kd.C (Kd.int .i64) W A lw.length lw → lw.length ≤ c → Calls Tryd.prog 51 #[.slice A lw.length c, .int .i64 (l2.length : Int)] W fun e w' => e = .returned (.bool true) ∧ Below W.heap.size W w')) (HAL : Hid (∀ W, Below w.heap.size w W → Calls Tryd.prog 67 #[.int .i64 (o : Int), .int .i64 (l2.length : Int)] W fun e w' => ∃ A c, e = .returned (.slice A lo.length c) ∧ Hid (Kd.C (Kd.int .i64) w' A lo.length lo) ∧ lo.length ≤ c ∧ Below W.heap.size W w')) (HX1 : Hid (∀ W A c, Below w.heap.size w W → Kd.C (Kd.int .i64) W A lw.length lw → lw.length ≤ c → Calls Tryd.prog 68 #[.agg #[.slice A0 l0.length c0, .slice A1 l1.length c1, .slice A2 l2.length c2], .slice A lw.length c] W fun e w' => ∃ A' c', e = .returned (.agg #[.slice A0 l0.length c0, .slice A1 l1.length c1, .slice A' lwk.length c']) ∧ Hid (Calls Tryd.prog 17 #[.agg #[.slice A0 l0.length c0, .slice A1 l1.length c1, .slice A' lwk.length c']] w' fun e w'' => e = .returned (.tuple #[.bool true, .int .i64 0]) ∧ Below w'.heap.size w' w'') ∧ Below W.heap.size W w')) (HX2 : Hid (∀ W A c, Below w.heap.size w W → Kd.C (Kd.int .i64) W A lo.length lo → lo.length ≤ c → Calls Tryd.prog 68 #[.agg #[.slice A0 l0.length c0, .slice A1 l1.length c1, .slice A2 l2.length c2], .slice A lo.length c] W fun e w' => ∃ A' c', e = .returned (.agg #[.slice A0 l0.length c0, .slice A1 l1.length c1, .slice A' lok.length c']) ∧ Hid (Calls Tryd.prog 17 #[.agg #[.slice A0 l0.length c0, .slice A1 l1.length c1, .slice A' lok.length c']] w' fun e w'' => e = .returned (.tuple #[.bool less, .int .i64 0]) ∧ Below w'.heap.size w' w'') ∧ Below W.heap.size W w')) (HFE : Hid (∀ W A c B d, Kd.C (Kd.int .i64) W A lo.length lo → lo.length ≤ c → Kd.C (Kd.int .i64) W B lw.length lw → lw.length ≤ d → Calls Tryd.prog 69 #[.slice A lo.length c, .slice B lw.length d] W fun e w' => e = .returned (.bool fw) ∧ Below W.heap.size W w')) (HLE : Hid (fw = true → less = false)) :
    Calls Tryd.prog 15 #[.agg #[.slice A0 l0.length c0, .slice A1 l1.length c1, .slice A2 l2.length c2], .int .i64 n] w fun e w' => e = .returned (.bool true) ∧ Below w.heap.size w w' := by
  go_enter Tryd.func15, Tryd.ntmps15
  have HB := Lib.hid (Below.refl w.heap.size w)
  go_wp2_with fail
  obtain ⟨W1, hnw⟩ : ∃ W, W = (w.alloc (.cells #[.slice A0 l0.length c0, .slice A1 l1.length c1, .slice A2 l2.length c2] 26)) := ⟨_, rfl⟩
  rw [← hnw]
  have hg : w.grownBy W1 (none) := by rw [hnw]; exact (g_all (g_refl w (none)) (.cells #[.slice A0 l0.length c0, .slice A1 l1.length c1, .slice A2 l2.length c2] 26))
  have HK := Lib.hid (show W1.heap[w.heap.size]? = some (.cells #[.slice A0 l0.length c0, .slice A1 l1.length c1, .slice A2 l2.length c2] 26 (0, 0)) by rw [hnw]; exact blk_at w (.cells #[.slice A0 l0.length c0, .slice A1 l1.length c1, .slice A2 l2.length c2] 26) _ (by simp))
  replace HB := Lib.hid (HB.out.grown hg HB.out.size (fun k e => by cases e))
  clear hg hnw
  refine (HWG.out _ HB.out).mono ?_
  rintro e W2 ⟨Aw, cw, rfl, hcw, hlw, hb⟩
  have Cw := Lib.hid hcw.out
  clear hcw
  have hg := g_below hb
  replace HK := Lib.hid (blk_grown HK.out hg (by simp))
  replace HB := Lib.hid (HB.out.trans (below_weaken hb HB.out.size))
  clear hb hg
  have cK_0 := (blk_cell HK.out 0).trans rfl
  have cK_1 := (blk_cell HK.out 1).trans rfl
  have cK_2 := (blk_cell HK.out 2).trans rfl
  have lK := blk_lt HK.out
  go_wp2_with fail
  clear cK_0 cK_1 cK_2 lK
  refine (HSO.out _ HB.out).mono ?_
  rintro e W3 ⟨rfl, hb⟩
  have hg := g_below hb
  replace Cw := Lib.hid (Kd.C_below Cw.out (below_g hg))
  replace HK := Lib.hid (blk_grown HK.out hg (by simp))
  replace HB := Lib.hid (HB.out.trans (below_weaken hb HB.out.size))
  clear hb hg
  have cK_0 := (blk_cell HK.out 0).trans rfl
  have cK_1 := (blk_cell HK.out 1).trans rfl
  have cK_2 := (blk_cell HK.out 2).trans rfl
  have lK := blk_lt HK.out
  go_wp2_with fail
  clear cK_0 cK_1 cK_2 lK
  refine (HRI.out _ HB.out).mono ?_
  rintro e W4 ⟨rfl, hb⟩
  have hg := g_below hb
  replace Cw := Lib.hid (Kd.C_below Cw.out (below_g hg))
  replace HK := Lib.hid (blk_grown HK.out hg (by simp))
  replace HB := Lib.hid (HB.out.trans (below_weaken hb HB.out.size))
  clear hb hg
  have cK_0 := (blk_cell HK.out 0).trans rfl
  have cK_1 := (blk_cell HK.out 1).trans rfl
  have cK_2 := (blk_cell HK.out 2).trans rfl
  have lK := blk_lt HK.out
  go_wp2_with fail
  clear cK_0 cK_1 cK_2 lK
  refine (HRS.out _ _ _ Cw.out hlw).mono ?_
  rintro e W5 ⟨rfl, hb⟩
  have hg := g_below hb
  replace Cw := Lib.hid (Kd.C_below Cw.out (below_g hg))
  replace HK := Lib.hid (blk_grown HK.out hg (by simp))
  replace HB := Lib.hid (HB.out.trans (below_weaken hb HB.out.size))
  clear hb hg
  have cK_0 := (blk_cell HK.out 0).trans rfl
  have cK_1 := (blk_cell HK.out 1).trans rfl
  have cK_2 := (blk_cell HK.out 2).trans rfl
  have lK := blk_lt HK.out
  go_upto_region 7 with fail
  clear cK_0 cK_1 cK_2 lK
  have hb : Below W5.heap.size W5 W5.drew := (Below.refl _ _).drew
  have hg := g_below hb
  replace Cw := Lib.hid (Kd.C_below Cw.out (below_g hg))
  replace HK := Lib.hid (blk_grown HK.out hg (by simp))
  replace HB := Lib.hid (HB.out.trans (below_weaken hb HB.out.size))
  clear hb hg
  refine start_ (n := 11) (S := fun w' => w'.cell? ⟨w.heap.size, 0, none⟩ = some (.slice A0 l0.length c0) ∧ w'.cell? ⟨w.heap.size, 1, none⟩ = some (.slice A1 l1.length c1) ∧ w'.cell? ⟨w.heap.size, 2, none⟩ = some (.slice A2 l2.length c2)) (ds := []) #[false, false, false, false, false, false, false, false, false, false, false] (by kernel_rfl) rfl rfl ⟨(blk_cell HK.out 0).trans rfl, (blk_cell HK.out 1).trans rfl, (blk_cell HK.out 2).trans rfl⟩ (fun hHeld => ?_)
  refine pu_ 0 (some 58) ?_
  refine pu_ 1 (some 59) ?_
  refine pu_ 6 (some 64) ?_
  refine ta_ 2 (some 60) (s := hHeld) (y := by rintro w' ⟨s0, s1, s2⟩; go_simp; with_reducible rfl) (h := ?_)
  refine pu_ 3 (some 61) ?_
  refine pu_ 4 (some 62) ?_
  refine ta_ 7 (some 65) (s := hHeld) (y := by rintro w' ⟨s0, s1, s2⟩; go_simp; with_reducible rfl) (h := ?_)
  refine pu_ 8 (some 66) ?_
  refine one_ (i := 5) (N := some 63) #[true, true, true, true, true, true, true, true, true, false, false] rfl rfl (by kernel_rfl) (by decide) (fun K hK => ?_)
  refine goes_ Tryd.func47 (by kernel_rfl) rfl #[.int .i64 n, .int .i64 (wrap64 ((2 : Int) ^ l2.length))] (by rfl) rfl rfl (by simp only [List.map_toArray, List.map_cons, List.map_nil]; rfl) ?_
  refine (HWR.out _).mono ?_
  rintro e W6 ⟨rfl, hb⟩
  refine ⟨_, rfl, ?_⟩
  have hg := g_below hb
  replace Cw := Lib.hid (Kd.C_below Cw.out (below_g hg))
  replace HK := Lib.hid (blk_grown HK.out hg (by simp))
  replace HB := Lib.hid (HB.out.trans (below_weaken hb HB.out.size))
  clear hb hg
  refine hK.out _ _ ⟨(blk_cell HK.out 0).trans rfl, (blk_cell HK.out 1).trans rfl, (blk_cell HK.out 2).trans rfl⟩ (fun hHeld => ?_)
  clear hK K
  refine no_ 63 ?_
  refine one_ (i := 9) (N := some 67) #[true, true, true, true, true, true, true, true, true, true, false] rfl rfl (by kernel_rfl) (by decide) (fun K hK => ?_)
  refine goes_ Tryd.func67 (by kernel_rfl) rfl #[.int .i64 (o : Int), .int .i64 (l2.length : Int)] (by rfl) rfl rfl (by simp only [List.map_toArray, List.map_cons, List.map_nil]; rfl) ?_
  refine (HAL.out _ HB.out).mono ?_
  rintro e W7 ⟨Ao, co, rfl, hco, hlo, hb⟩
  refine ⟨_, rfl, ?_⟩
  have Co := Lib.hid hco.out
  clear hco
  have hg := g_below hb
  replace Cw := Lib.hid (Kd.C_below Cw.out (below_g hg))
  replace HK := Lib.hid (blk_grown HK.out hg (by simp))
  replace HB := Lib.hid (HB.out.trans (below_weaken hb HB.out.size))
  clear hb hg
  refine hK.out _ _ ⟨(blk_cell HK.out 0).trans rfl, (blk_cell HK.out 1).trans rfl, (blk_cell HK.out 2).trans rfl⟩ (fun hHeld => ?_)
  clear hK K
  refine no_ 67 ?_
  refine pu_ 10 (some 9) ?_
  refine done_ (by kernel_rfl) ?_

  have cK_0 := (blk_cell HK.out 0).trans rfl
  have cK_1 := (blk_cell HK.out 1).trans rfl
  have cK_2 := (blk_cell HK.out 2).trans rfl
  have lK := blk_lt HK.out
  go_wp2_with fail
  clear cK_0 cK_1 cK_2 lK
  refine (HX1.out _ _ _ HB.out Cw.out hlw).mono ?_
  rintro e W8 ⟨A1w, c1w, rfl, HD1, hb⟩
  have hg := g_below hb
  replace Cw := Lib.hid (Kd.C_below Cw.out (below_g hg))
  replace Co := Lib.hid (Kd.C_below Co.out (below_g hg))
  replace HK := Lib.hid (blk_grown HK.out hg (by simp))
  replace HB := Lib.hid (HB.out.trans (below_weaken hb HB.out.size))
  clear hb hg
  have cK_0 := (blk_cell HK.out 0).trans rfl
  have cK_1 := (blk_cell HK.out 1).trans rfl
  have cK_2 := (blk_cell HK.out 2).trans rfl
  have lK := blk_lt HK.out
  go_wp2_with fail
  clear cK_0 cK_1 cK_2 lK
  refine (HD1.out).mono ?_
  rintro e W9 ⟨rfl, hb⟩
  have hg := g_below hb
  replace Cw := Lib.hid (Kd.C_below Cw.out (below_g hg))
  replace Co := Lib.hid (Kd.C_below Co.out (below_g hg))
  replace HK := Lib.hid (blk_grown HK.out hg (by simp))
  replace HB := Lib.hid (HB.out.trans (below_weaken hb HB.out.size))
  clear hb hg
  have cK_0 := (blk_cell HK.out 0).trans rfl
  have cK_1 := (blk_cell HK.out 1).trans rfl
  have cK_2 := (blk_cell HK.out 2).trans rfl
  have lK := blk_lt HK.out
  clear HD1
  go_wp2_with fail
  clear cK_0 cK_1 cK_2 lK
  refine (HX2.out _ _ _ HB.out Co.out hlo).mono ?_
  rintro e W10 ⟨A1o, c1o, rfl, HD2, hb⟩
  have hg := g_below hb
  replace Cw := Lib.hid (Kd.C_below Cw.out (below_g hg))
  replace Co := Lib.hid (Kd.C_below Co.out (below_g hg))
  replace HK := Lib.hid (blk_grown HK.out hg (by simp))
  replace HB := Lib.hid (HB.out.trans (below_weaken hb HB.out.size))
  clear hb hg
  have cK_0 := (blk_cell HK.out 0).trans rfl
  have cK_1 := (blk_cell HK.out 1).trans rfl
  have cK_2 := (blk_cell HK.out 2).trans rfl
  have lK := blk_lt HK.out
  go_wp2_with fail
  clear cK_0 cK_1 cK_2 lK
  refine (HD2.out).mono ?_
  rintro e W11 ⟨rfl, hb⟩
  have hg := g_below hb
  replace Cw := Lib.hid (Kd.C_below Cw.out (below_g hg))
  replace Co := Lib.hid (Kd.C_below Co.out (below_g hg))
  replace HK := Lib.hid (blk_grown HK.out hg (by simp))
  replace HB := Lib.hid (HB.out.trans (below_weaken hb HB.out.size))
  clear hb hg
  have cK_0 := (blk_cell HK.out 0).trans rfl
  have cK_1 := (blk_cell HK.out 1).trans rfl
  have cK_2 := (blk_cell HK.out 2).trans rfl
  have lK := blk_lt HK.out
  clear HD2
  go_wp2_with fail
  clear cK_0 cK_1 cK_2 lK
  refine (HFE.out _ _ _ _ _ Co.out hlo Cw.out hlw).mono ?_
  rintro e W12 ⟨rfl, hb⟩
  have hg := g_below hb
  replace Cw := Lib.hid (Kd.C_below Cw.out (below_g hg))
  replace Co := Lib.hid (Kd.C_below Co.out (below_g hg))
  replace HK := Lib.hid (blk_grown HK.out hg (by simp))
  replace HB := Lib.hid (HB.out.trans (below_weaken hb HB.out.size))
  clear hb hg
  have cK_0 := (blk_cell HK.out 0).trans rfl
  have cK_1 := (blk_cell HK.out 1).trans rfl
  have cK_2 := (blk_cell HK.out 2).trans rfl
  have lK := blk_lt HK.out
  cases fw with
  | true =>
    have hle := HLE.out rfl
    subst hle
    go_wp2_with fail
    clear cK_0 cK_1 cK_2 lK
    refine (HRO.out _ HB.out).mono ?_
    rintro e W13 ⟨rfl, hb⟩
    have hg := g_below hb
    replace Cw := Lib.hid (Kd.C_below Cw.out (below_g hg))
    replace Co := Lib.hid (Kd.C_below Co.out (below_g hg))
    replace HK := Lib.hid (blk_grown HK.out hg (by simp))
    replace HB := Lib.hid (HB.out.trans (below_weaken hb HB.out.size))
    clear hb hg
    have cK_0 := (blk_cell HK.out 0).trans rfl
    have cK_1 := (blk_cell HK.out 1).trans rfl
    have cK_2 := (blk_cell HK.out 2).trans rfl
    have lK := blk_lt HK.out
    clear cK_0 cK_1 cK_2 lK
    go_wp2
    go_ret
    exact ⟨ret_true (by first | rfl | (simp; done) | (simp; omega)), HB.out⟩

  | false =>
    go_wp2_with fail
    clear cK_0 cK_1 cK_2 lK
    refine (HRO.out _ HB.out).mono ?_
    rintro e W13 ⟨rfl, hb⟩
    have hg := g_below hb
    replace Cw := Lib.hid (Kd.C_below Cw.out (below_g hg))
    replace Co := Lib.hid (Kd.C_below Co.out (below_g hg))
    replace HK := Lib.hid (blk_grown HK.out hg (by simp))
    replace HB := Lib.hid (HB.out.trans (below_weaken hb HB.out.size))
    clear hb hg
    have cK_0 := (blk_cell HK.out 0).trans rfl
    have cK_1 := (blk_cell HK.out 1).trans rfl
    have cK_2 := (blk_cell HK.out 2).trans rfl
    have lK := blk_lt HK.out
    clear cK_0 cK_1 cK_2 lK
    go_wp2
    go_ret
    exact ⟨ret_true (by first | rfl | (simp; done) | (simp; omega)), HB.out⟩
end Go.Proofs.YthgjedagbgmgmaaDoor.Pr
namespace Go.Proofs.YthgjedagbgmgmaaDoor.Pr
open Go.RowKit Go.Proofs.YthgjedagbgmgmaaDoorW.PrintWords Go.Proofs.YthgjedagbgmgmaaDoorW.PrintLast Go.Proofs.YthgjedagbgmgmaaDoorW.PrintMore
set_option linter.unusedVariables false
set_option linter.unusedSimpArgs false
theorem rollWrong_calls (A0 A1 A2 : Option Addr) (c0 c1 c2 : Nat) (l0 : List S92) (l1 : List S90) (l2 : List S43) (n : Int) (w : World) (hG : GOK w) (h : BookAt w A0 A1 A2 c0 c1 c2 l0 l1 l2) :
    Calls Tryd.prog 15 #[.agg #[.slice A0 l0.length c0, .slice A1 l1.length c1, .slice A2 l2.length c2], .int .i64 n] w fun e w' => e = .returned (.bool true) ∧ Below w.heap.size w w' := by
  have HSOB := fun W (hW : Below w.heap.size w W) => sound_calls A0 A1 A2 c0 c1 c2 l0 l1 l2 W (h.below hW)
  have HRO := fun W (hW : Below w.heap.size w W) => rolled_calls W (hG.below hW)
  have HWR := fun W (hW : Below w.heap.size w W) => wrong_calls A0 A1 A2 c0 c1 c2 l0 l1 l2 W (hG.below hW) (h.below hW).r0 h.c0 (h.below hW).r1 h.c1 (h.below hW).r2 h.c2
  cases hok : okBook l0 l1 l2 with
  | false =>
    rw [hok] at HSOB
    rw [wrong_bad hok] at HWR
    refine wrong_none A0 A1 A2 c0 c1 c2 l0 l1 l2 n w (Lib.hid fun W hW => (HWR W hW).mono ?_) (Lib.hid HSOB) (Lib.hid HRO)
    rintro e w' ⟨v, rfl, ⟨A, c, rfl, _, _⟩, hb⟩
    exact ⟨A, c, rfl, hb⟩
  | true =>
    rw [hok] at HSOB
    obtain ⟨o1, o2, o3, o4, o5, _⟩ := ok_facts hok
    obtain ⟨L, e1, hL4, hris, e2, e3, hmin⟩ := wrong_law hok
    rw [e1] at HWR
    have hp : 0 < 2 ^ l2.length ∧ 2 ^ l2.length ≤ 16 := by
      have : l2.length = 0 ∨ l2.length = 1 ∨ l2.length = 2 ∨ l2.length = 3 ∨ l2.length = 4 := by omega
      rcases this with q | q | q | q | q <;> rw [q] <;> decide
    obtain ⟨o, ho, hwr⟩ := wrap_calls n (2 ^ l2.length) hp.1 (by omega)
    have hpw : wrap64 ((2 : Int) ^ l2.length) = ((2 ^ l2.length : Nat) : Int) := by
      rw [Int.natCast_pow]
      have : ((2 ^ l2.length : Nat) : Int) = (2 : Int) ^ l2.length := by rw [Int.natCast_pow]; rfl
      rw [show ((2 : Nat) : Int) = 2 from rfl]
      exact wrap64_id (by omega) (by omega)
    have hlo := allL_ris (o : Int) l2.length 0 0 (Nat.le_refl _)
    rw [Nat.zero_add] at hlo
    have hll := allL_len (o : Int) l2.length 0
    obtain ⟨b, e4, hb⟩ := hmin _ hlo
    have FI : ∀ W A (l : List Int), l.length ≤ 1000 → FRow eI 1 W A l → Kd.C (Kd.int .i64) W A l.length l := fun W A l hl hf => frow_to_C (d := Kd.int .i64) hf (fun _ => rfl) (fun w x => rfl) (by omega)
    have HWI : ∀ (l : List Int) (q : Bool), l.length ≤ 1000 → rightF l0 l1 (withoutL l2 l 0) = (q, 0) → ∀ W A c, Below w.heap.size w W → Kd.C (Kd.int .i64) W A l.length l → l.length ≤ c → Calls Tryd.prog 68 #[.agg #[.slice A0 l0.length c0, .slice A1 l1.length c1, .slice A2 l2.length c2], .slice A l.length c] W fun e w' => ∃ A' c', e = .returned (.agg #[.slice A0 l0.length c0, .slice A1 l1.length c1, .slice A' (withoutL l2 l 0).length c']) ∧ Hid (Calls Tryd.prog 17 #[.agg #[.slice A0 l0.length c0, .slice A1 l1.length c1, .slice A' (withoutL l2 l 0).length c']] w' fun e w'' => e = .returned (.tuple #[.bool q, .int .i64 0]) ∧ Below w'.heap.size w' w'') ∧ Below W.heap.size W w' := by
      intro l q hl hq W A c hW hr hc
      refine (without_calls A0 A1 A2 A l0.length l1.length c0 c1 c2 c l2 l o5 hl W (h.below hW).r2 hr hc).mono ?_
      rintro e w' ⟨A', c', rfl, hr', hc', hb'⟩
      refine ⟨A', c', rfl, Lib.hid ?_, hb'⟩
      have hW' := hW.trans (below_weaken hb' hW.size)
      have := rightX_calls A0 A1 A' c0 c1 c' l0 l1 (withoutL l2 l 0) w' (hG.below hW') (h.below hW').r0 h.c0 (h.below hW').r1 h.c1 hr' hc'
      rw [hq] at this
      exact this
    refine wrong_walk A0 A1 A2 c0 c1 c2 l0 l1 l2 n w L (allL (o : Int) l2.length 0) (withoutL l2 L 0) (withoutL l2 (allL (o : Int) l2.length 0) 0) (decide (L.length = 0)) b (fewerL (allL (o : Int) l2.length 0) L) o o5 ?_ (Lib.hid HSOB) (Lib.hid HRO) (Lib.hid fun W hW => (HWR W hW).mono ?_) (Lib.hid fun W hW => ?_) (Lib.hid fun W => ?_) (Lib.hid fun W A c hr hc => rising_calls (by omega) hris W hr hc) (Lib.hid fun W hW => (all_calls (o : Int) l2.length (by omega) (by omega) o5 W).mono ?_)
      (Lib.hid (HWI L true (by omega) e3)) (Lib.hid (HWI _ b (by omega) e4)) (Lib.hid fun W A c B d hr hc hs hd => fewer_calls (by omega) (by omega) W hr hc hs hd) (Lib.hid fun q => ?_)
    · rw [Bool.eq_iff_iff, beq_iff_eq, decide_eq_true_eq]
      omega
    · rintro e w' ⟨v, rfl, ⟨A, c, rfl, hf, hc⟩, hb'⟩
      exact ⟨A, c, rfl, Lib.hid (FI w' A L (by omega) hf), hc, hb'⟩
    · have := rightX_calls A0 A1 A2 c0 c1 c2 l0 l1 l2 W (hG.below hW) (h.below hW).r0 h.c0 (h.below hW).r1 h.c1 (h.below hW).r2 h.c2
      rw [e2] at this
      exact this
    · rw [hpw]
      exact hwr W
    · rintro e w' ⟨A, c, rfl, hr, hc, hb'⟩
      exact ⟨A, c, rfl, Lib.hid hr, hc, hb'⟩
    · cases hbb : b with
      | false => rfl
      | true =>
        rw [hb hbb] at q
        exact absurd q (by decide)
end Go.Proofs.YthgjedagbgmgmaaDoor.Pr
