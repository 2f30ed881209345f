/- Part 5 of the proof that RollTrue answers true: contracts and laws, merged by a program. -/
import Derived.IntWalk
import Derived.Deep.RegionLawGrows
import Derived.Test.YthgjedagbgmgmaaDoorRollTrueA4
namespace Go.Proofs.YthgjedagbgmgmaaDoor.Pr
open Go.RowKit Go.Proofs.YthgjedagbgmgmaaDoorW.PrintWords Go.Proofs.YthgjedagbgmgmaaDoorW.PrintLast Go.Proofs.YthgjedagbgmgmaaDoorW.PrintMore
set_option linter.unusedVariables false
set_option linter.unusedSimpArgs false
/-- Right. -/
def rightF (ls : List S92) (ds : List S90) (ks : List S43) : Bool × Int := if okBook ls ds ks then (decide (0 < (truthsAll ls ds ks []).length), 0) else (false, 70)
theorem field107 (v0 v1 v2 v3 : Option Addr) (n0 c0 n1 c1 n2 c2 n3 c3 : Nat) (mp : Option Nat) (W : World) : (Instr.field 107 (.agg #[.slice v0 n0 c0, .slice v1 n1 c1, .slice v2 n2 c2, .map mp, .slice v3 n3 c3]) 2).run Tryd.prog W = .ok (.slice v3 n3 c3) W := by
  first
    | kernel_rfl
    | rfl
    | (have hu := Tryd.underlying107; simp [Instr.field, Sem.run_bind, run_underlying hu, Result.andThen])
set_option maxHeartbeats 2000000 in
set_option maxRecDepth 100000 in
theorem rightX_calls (A0 A1 A2 : Option Addr) (c0 c1 c2 : Nat) (l0 : List S92) (l1 : List S90) (l2 : List S43) (w : World) (hG : GOK w) (hr0 : Kd.C k92 w A0 l0.length l0) (hc0 : l0.length ≤ c0) (hr1 : Kd.C k90 w A1 l1.length l1) (hc1 : l1.length ≤ c1) (hr2 : Kd.C k43 w A2 l2.length l2) (hc2 : l2.length ≤ c2) :
    Calls Tryd.prog 17 #[.agg #[.slice A0 l0.length c0, .slice A1 l1.length c1, .slice A2 l2.length c2]] w fun e w' => e = .returned (.tuple #[.bool (rightF l0 l1 l2).1, .int .i64 (rightF l0 l1 l2).2]) ∧ Below w.heap.size w w' := by
  have h0 : (l0.length : Int) ≤ 9223372036854775807 := by have := hr0.2.1; omega
  have h1 : (l1.length : Int) ≤ 9223372036854775807 := by have := hr1.2.1; omega
  have h2 : (l2.length : Int) ≤ 9223372036854775807 := by have := hr2.2.1; omega
  obtain ⟨ok, hok⟩ : ∃ b, b = okBook l0 l1 l2 := ⟨_, rfl⟩
  have HCC : ∀ W, Below w.heap.size w W → Calls Tryd.prog 19 #[.agg #[.slice A0 l0.length c0, .slice A1 l1.length c1, .slice A2 l2.length c2]] W fun e w' => e = .returned (.int .i64 (if ok then 0 else 70)) ∧ Below W.heap.size W w' := by
    intro W hW
    rw [hok]
    exact check_calls A0 A1 A2 c0 c1 c2 l0 l1 l2 W (Kd.C_below hr0 hW) hc0 (Kd.C_below hr1 hW) hc1 (Kd.C_below hr2 hW) hc2 h0 h1 h2
  unfold rightF
  rw [← hok]
  have HOK := Lib.hid hok
  have HG := Lib.hid hG
  have H0 := Lib.hid hr0
  have H1 := Lib.hid hr1
  have H2 := Lib.hid hr2
  clear hok hG hr0 hr1 hr2 h0 h1 h2
  cases ok
  · simp only [Bool.false_eq_true, if_false] at HCC ⊢
    go_enter Tryd.func17, Tryd.ntmps17
    go_wp2_with (go_at_call 19; refine (HCC _ ?hw).mono ?_; (case hw => exact by repeat (first | exact Below.refl _ _ | refine Below.alloc ?_ (by simp <;> omega) _ | refine Below.setCell ?_ (by simp <;> omega) _ | apply Below.drew)); rintro e w1 ⟨rfl, hB1⟩)
    go_ret2
    exact ⟨rfl, ((Below.refl w.heap.size w).alloc (Nat.le_refl _) _).trans (below_weaken hB1 (by simp))⟩
  · simp only [if_true] at HCC ⊢
    obtain ⟨o1, o2, o3, o4, o5, o6, _⟩ := ok_facts HOK.out.symm
    have HOP : ∀ W, Below w.heap.size w W → Calls Tryd.prog 75 #[.agg #[.slice A0 l0.length c0, .slice A1 l1.length c1, .slice A2 l2.length c2], .slice none 0 0] W fun e W' => ∃ At ct m, e = .returned (.agg #[.slice A0 l0.length c0, .slice A1 l1.length c1, .slice A2 l2.length c2, .map (some m), .slice At (truthsAll l0 l1 l2 []).length ct]) ∧ Below W.heap.size W W' := fun W hW =>
      (opened_calls A0 A1 A2 none c0 c1 c2 0 l0 l1 l2 [] W (HG.out.below hW) (row92 (Kd.C_below H0.out hW)) (row90 (Kd.C_below H1.out hW)) (row43 (Kd.C_below H2.out hW)) (.inl rfl) hc0 hc2 (by simp) o1 o2 o3 (by omega) (by simp) o6).mono (by
        rintro e W' ⟨At, ct, m, rfl, _, _, _, hb⟩
        exact ⟨At, ct, m, rfl, hb⟩)
    have HP := Lib.hid HOP
    clear HOP o6 o1 o2 o3 o4 o5
    obtain ⟨T, hT⟩ : ∃ T, T = truthsAll l0 l1 l2 [] := ⟨_, rfl⟩
    rw [← hT] at HP ⊢
    clear hT
    obtain ⟨q, hq⟩ : ∃ q, q = decide (0 < T.length) := ⟨_, rfl⟩
    rw [← hq]
    have hqi : decide ((0 : Int) < (T.length : Int)) = q := by rw [hq]; exact decide_eq_decide.2 (by omega)
    have HQ := Lib.hid hq
    clear hq
    have hfl : ∀ A m ct W, (Instr.field 107 (.agg #[.slice A0 l0.length c0, .slice A1 l1.length c1, .slice A2 l2.length c2, .map (some m), .slice A T.length ct]) 2).run Tryd.prog W = .ok (.slice A T.length ct) W := fun _ _ _ _ => field107 _ _ _ _ _ _ _ _ _ _ _ _ _ _
    go_enter Tryd.func17, Tryd.ntmps17
    go_wp2_with (first
      | (go_at_call 19; refine (HCC _ ?hw).mono ?_; (case hw => exact by repeat (first | exact Below.refl _ _ | refine Below.alloc ?_ (by simp <;> omega) _ | refine Below.setCell ?_ (by simp <;> omega) _ | apply Below.drew)); rintro e w1 ⟨rfl, hB1⟩; have k2 : w1.heap[w.heap.size]? = some (.cells #[.slice A0 l0.length c0, .slice A1 l1.length c1, .slice A2 l2.length c2] 26 (0, 0)) := blk_below (blk_new w _) hB1; have k20 := (blk_cell k2 0).trans rfl; have k21 := (blk_cell k2 1).trans rfl; have k22 := (blk_cell k2 2).trans rfl; have lk := blk_lt k2; have hB := ((Below.refl w.heap.size w).alloc (Nat.le_refl _) _).trans (below_weaken hB1 (by simp)); clear k2)
      | (go_at_call 75; refine (HP.out _ hB).mono ?_; rintro e w3 ⟨At, ct, m, rfl, hB3⟩))
    go_ret2
    exact ⟨by simp [HQ.out], hB.trans (below_weaken hB3 hB.size)⟩
end Go.Proofs.YthgjedagbgmgmaaDoor.Pr
namespace Go.Proofs.YthgjedagbgmgmaaDoor.Pr
open Go.RowKit Go.Proofs.YthgjedagbgmgmaaDoorW.PrintWords Go.Proofs.YthgjedagbgmgmaaDoorW.PrintLast Go.Proofs.YthgjedagbgmgmaaDoorW.PrintMore
set_option linter.unusedVariables false
set_option linter.unusedSimpArgs false
set_option maxRecDepth 100000 in
theorem last_calls (A0 A1 A2 At : Option Addr) (n0 c0 n1 c1 n2 c2 nt ct : Nat) (mp : Option Nat) (w : World) (h1 : 1 ≤ n1) (h5 : n1 ≤ 1000) :
    Calls Tryd.prog 91 #[.agg #[.slice A0 n0 c0, .slice A1 n1 c1, .slice A2 n2 c2, .map mp, .slice At nt ct]] w fun e w' => e = .returned (.int .i64 ((n1 : Int) - 1)) ∧ Below w.heap.size w w' := by
  have hi : (n1 : Int) ≤ 1000 := by omega
  go_enter Tryd.func91, Tryd.ntmps91
  go_wp2
  go_ret
  exact ⟨rfl, by repeat (first | exact Below.refl _ _ | refine Below.alloc ?_ (by simp <;> omega) _ | refine Below.setCell ?_ (by simp <;> omega) _ | apply Below.drew)⟩
/-- All numbers together. -/
def sumI (l : List Int) : Int := l.foldl (· + ·) 0
set_option maxHeartbeats 1000000 in
set_option maxRecDepth 100000 in
theorem sum_calls (A : Option Addr) (c : Nat) (l : List Int) (w : World) (hr : FRow eI 1 w A l) (hc : l.length ≤ c) (hm : l.length ≤ 1000) (hb : ∀ x ∈ l, 0 ≤ x ∧ x ≤ 1000000) :
    Calls Tryd.prog 126 #[.slice A l.length c] w fun e w' => e = .returned (.int .i64 (sumI l)) ∧ w = w' := by
  have HR := Lib.hid hr
  have HBD := Lib.hid hb
  clear hr hb
  go_enter Tryd.func126, Tryd.ntmps126
  go_wp2
  go_loopg [3, 8] (l.length) (fun gk v3 v8 wr => ∃ (k : Nat) (s : Int), v3 = .int .i64 s ∧ v8 = .int .i64 k ∧ Aside0 (k + gk = l.length) ∧ Aside0 (sumI l = (l.drop k).foldl (· + ·) s) ∧ 0 ≤ s ∧ s ≤ 1000000 * k ∧ Aside0 (wr = w))
  case atStart => exact ⟨0, 0, rfl, rfl, ⟨by omega⟩, ⟨rfl⟩, by omega, by omega, ⟨rfl⟩⟩
  case round =>
    obtain ⟨k, s, rfl, rfl, HK, HS, h0, h1, HW⟩ := hrel
    have hw := HW.out
    subst hw
    cases gk with
    | zero =>
      have hge : ¬ k < l.length := by have := HK.out; omega
      go_wp2
      go_ret
      refine ⟨?_, rfl⟩
      rw [HS.out, List.drop_of_length_le (by omega)]
      rfl
    | succ g1 =>
      have hlt : k < l.length := by have := HK.out; omega
      obtain ⟨x, hx⟩ : ∃ x, x = l[k] := ⟨_, rfl⟩
      have hxb := HBD.out x (by rw [hx]; exact List.getElem_mem hlt)
      obtain ⟨b, o, rfl, hbl, hcell⟩ : ∃ b o, A = some ⟨b, o, none⟩ ∧ b < wr.heap.size ∧ ∀ i x, l[i]? = some x → wr.rangeAt b (o + i * 1) (eI x) := by
        rcases HR.out with h | h
        · rw [h] at hlt; simp at hlt
        · exact h
      have hcx := hcell k _ (List.getElem?_eq_getElem hlt) 0 _ rfl
      simp only [Nat.mul_one, Nat.add_zero] at hcx
      rw [← hx] at hcx
      have hdr : l.drop k = x :: l.drop (k + 1) := by rw [hx]; exact List.drop_eq_getElem_cons hlt
      have HDR := Lib.hid hdr
      clear hx hcell hdr
      obtain ⟨hx0, hx1⟩ := hxb
      have hk : k ≤ 1000 := by omega
      go_wp2
      go_roundg g1
      case measure => omega
      case rel => exact ⟨k + 1, s + x, rfl, by go_num, ⟨by have := HK.out; omega⟩, ⟨by rw [HS.out, HDR.out]; rfl⟩, by omega, by push_cast; omega, ⟨rfl⟩⟩
end Go.Proofs.YthgjedagbgmgmaaDoor.Pr
namespace Go.Proofs.YthgjedagbgmgmaaDoor.Pr
open Go.RowKit Go.Proofs.YthgjedagbgmgmaaDoorW.PrintWords Go.Proofs.YthgjedagbgmgmaaDoorW.PrintLast Go.Proofs.YthgjedagbgmgmaaDoorW.PrintMore
set_option linter.unusedVariables false
set_option linter.unusedSimpArgs false
theorem eq3 (d : Nat) (w : World) (x y : Int) : (Op.equalIn (d + 1) 3 (.int .i64 x) (.int .i64 y)).run Tryd.prog w = .ok (x == y) w := by
  have hu3 : Tryd.prog.underlying 3 = _ := Tryd.underlying3
  simp [Op.equalIn, Sem.run_bind, run_underlying hu3, Result.andThen]
/-- Two rows of four numbers are compared. -/
theorem eqA118 (k : Nat) (w : World) (a b c d x y z t : Int) : (Op.equalIn (k + 2) 118 (.agg #[.int .i64 a, .int .i64 b, .int .i64 c, .int .i64 d]) (.agg #[.int .i64 x, .int .i64 y, .int .i64 z, .int .i64 t])).run Tryd.prog w = .ok (a == x && (b == y && (c == z && d == t))) w := by
  have hu : Tryd.prog.underlying 118 = _ := Tryd.underlying118
  have hs : (sizeOf 3).run Tryd.prog w = .ok 1 w := by kernel_rfl
  have p0 : ∀ a b c d : Int, (part 3 #[.int .i64 a, .int .i64 b, .int .i64 c, .int .i64 d] 0).run Tryd.prog w = .ok (.int .i64 a) w := fun a b c d => by go_simp
  have p1 : ∀ a b c d : Int, (part 3 #[.int .i64 a, .int .i64 b, .int .i64 c, .int .i64 d] 1).run Tryd.prog w = .ok (.int .i64 b) w := fun a b c d => by go_simp
  have p2 : ∀ a b c d : Int, (part 3 #[.int .i64 a, .int .i64 b, .int .i64 c, .int .i64 d] 2).run Tryd.prog w = .ok (.int .i64 c) w := fun a b c d => by go_simp
  have p3 : ∀ a b c d : Int, (part 3 #[.int .i64 a, .int .i64 b, .int .i64 c, .int .i64 d] 3).run Tryd.prog w = .ok (.int .i64 d) w := fun a b c d => by go_simp
  rw [Op.equalIn]
  simp only [Sem.run_bind, run_underlying hu, Result.andThen, hs]
  by_cases h0 : a = x
  · by_cases h1 : b = y
    · by_cases h2 : c = z
      · by_cases h3 : d = t <;> simp [List.range', Sem.run_bind, Result.andThen, p0, p1, p2, p3, eq3, h0, h1, h2, h3]
      · simp [List.range', Sem.run_bind, Result.andThen, p0, p1, p2, p3, eq3, h0, h1, h2]
    · simp [List.range', Sem.run_bind, Result.andThen, p0, p1, p2, p3, eq3, h0, h1]
  · simp [List.range', Sem.run_bind, Result.andThen, p0, p1, p2, p3, eq3, h0]
end Go.Proofs.YthgjedagbgmgmaaDoor.Pr
namespace Go.Proofs.YthgjedagbgmgmaaDoor.Pr
open Go.RowKit Go.Proofs.YthgjedagbgmgmaaDoorW.PrintWords Go.Proofs.YthgjedagbgmgmaaDoorW.PrintLast Go.Proofs.YthgjedagbgmgmaaDoorW.PrintMore
set_option linter.unusedVariables false
set_option linter.unusedSimpArgs false
/-- The wagons and the sky of each day. -/
abbrev Ch := List (Int × Int)
/-- The roads at the ends of the days. -/
def roadFrom (ls : List S92) : Ch → Rd → List Rd
  | [], _ => []
  | p :: c, r => afterR ls r p.2 p.1 :: roadFrom ls c (afterR ls r p.2 p.1)
/-- What a day can be. -/
def dayCh (x : S90) : Ch := (List.range (x.f0.f1 - x.f0.f0 + 1).toNat).flatMap fun (n : Nat) => [0, 1, 2].flatMap fun (sky : Nat) => if hasSky x.f1 sky then [(x.f0.f0 + n, (sky : Int))] else []
/-- What all days can be. -/
def choices : List S90 → List Ch
  | [] => [[]]
  | x :: ds => (dayCh x).flatMap fun p => (choices ds).map (p :: ·)
/-- Are all looks right? -/
def okRoad (looks : List S43) (but : List Int) : Nat → List Rd → Bool
  | _, [] => true
  | day, r :: rs => rightFrom looks day r.bound but 0 && okRoad looks but (day + 1) rs
/-- A truth as the program keeps it. -/
def encT (ls : List S92) : Ch → List Int → Nat → Rd → List Int
  | [], t, _, _ => t
  | p :: c, t, day, r => encT ls c (setT t day p.1 p.2 (afterR ls r p.2 p.1)) (day + 1) (afterR ls r p.2 p.1)
theorem truthsFrom_choices (ls : List S92) (ds : List S90) (looks : List S43) (but : List Int) : ∀ (d : Nat) (t : List Int) (day : Nat) (r : Rd), day + d = ds.length →
    truthsFrom ls ds looks but d t day r = ((choices (ds.drop day)).filter fun c => okRoad looks but day (roadFrom ls c r)).map fun c => encT ls c t day r := by
  intro d
  induction d with
  | zero =>
    intro t day r h
    rw [List.drop_of_length_le (by omega)]
    rfl
  | succ d ih =>
    intro t day r h
    have hlt : day < ds.length := by omega
    have hx : ds.getD day z90 = ds[day] := by rw [List.getD_eq_getElem?_getD, List.getElem?_eq_getElem hlt]; rfl
    rw [List.drop_eq_getElem_cons hlt]
    unfold truthsFrom
    simp only [hx]
    rw [choices, List.filter_flatMap, List.map_flatMap, dayCh, List.flatMap_assoc]
    congr 1
    funext n
    rw [List.flatMap_assoc]
    congr 1
    funext sky
    split
    · rw [List.flatMap_singleton, List.filter_map, List.map_map]
      split
      · rename_i hr
        rw [ih _ _ _ (by omega)]
        congr 1
        refine List.filter_congr fun c _ => ?_
        show _ = (rightFrom looks day _ but 0 && okRoad looks but (day + 1) _)
        rw [hr, Bool.true_and]
      · rename_i hr
        have : (List.filter ((fun c => okRoad looks but day (roadFrom ls c r)) ∘ fun x => (ds[day].f0.f0 + (n : Int), (sky : Int)) :: x) (choices (ds.drop (day + 1)))) = [] := by
          refine List.filter_eq_nil_iff.2 fun c _ => ?_
          show ¬ ((rightFrom looks day _ but 0 && okRoad looks but (day + 1) _) = true)
          rw [Bool.eq_false_iff.2 hr, Bool.false_and]
          simp
        rw [this]
        rfl
    · rfl
theorem truthsAll_choices (ls : List S92) (ds : List S90) (looks : List S43) (but : List Int) :
    truthsAll ls ds looks but = ((choices ds).filter fun c => okRoad looks but 0 (roadFrom ls c r00)).map fun c => encT ls c t00 0 r00 := by
  have := truthsFrom_choices ls ds looks but ds.length t00 0 r00 (by omega)
  rwa [List.drop_zero] at this
/-- What a choice may be. -/
def OkCh (ds : List S90) (c : Ch) : Prop := c.length = ds.length ∧ ∀ i (h : i < c.length) (h' : i < ds.length), ds[i].f0.f0 ≤ c[i].1 ∧ c[i].1 ≤ ds[i].f0.f1 ∧ 0 ≤ c[i].2 ∧ c[i].2 ≤ 2 ∧ hasSky ds[i].f1 c[i].2.toNat = true
theorem mem_dayCh (x : S90) (p : Int × Int) : p ∈ dayCh x ↔ x.f0.f0 ≤ p.1 ∧ p.1 ≤ x.f0.f1 ∧ 0 ≤ p.2 ∧ p.2 ≤ 2 ∧ hasSky x.f1 p.2.toNat = true := by
  obtain ⟨w, s⟩ := p
  unfold dayCh
  simp only [List.mem_flatMap, List.mem_range]
  constructor
  · rintro ⟨n, hn, sky, hs, h⟩
    split at h
    · rename_i hh
      simp only [List.mem_singleton, Prod.mk.injEq] at h
      obtain ⟨rfl, rfl⟩ := h
      simp only [List.mem_cons, List.not_mem_nil, or_false] at hs
      refine ⟨by omega, by omega, by omega, by omega, ?_⟩
      simpa using hh
    · simp at h
  · rintro ⟨h1, h2, h3, h4, h5⟩
    refine ⟨(w - x.f0.f0).toNat, by omega, s.toNat, by simp; omega, ?_⟩
    rw [if_pos h5]
    simp only [List.mem_singleton, Prod.mk.injEq]
    omega
theorem mem_choices (ds : List S90) : ∀ c : Ch, c ∈ choices ds ↔ OkCh ds c := by
  induction ds with
  | nil =>
    intro c
    constructor
    · intro h
      simp only [choices, List.mem_singleton] at h
      subst h
      exact ⟨rfl, fun i h => absurd h (by simp)⟩
    · rintro ⟨h, _⟩
      simp only [choices, List.mem_singleton]
      exact List.eq_nil_of_length_eq_zero h
  | cons x ds ih =>
    intro c
    simp only [choices, List.mem_flatMap, List.mem_map]
    constructor
    · rintro ⟨p, hp, c', hc', rfl⟩
      obtain ⟨hl, hi⟩ := (ih c').1 hc'
      refine ⟨by simp [hl], fun i h h' => ?_⟩
      cases i with
      | zero => exact (mem_dayCh x p).1 hp
      | succ i => exact hi i (by simpa using h) (by simpa using h')
    · rintro ⟨hl, hi⟩
      cases c with
      | nil => simp at hl
      | cons p c =>
        refine ⟨p, (mem_dayCh x p).2 (hi 0 (by simp) (by simp)), c, (ih c).2 ⟨by simpa using hl, fun i h h' => ?_⟩, rfl⟩
        exact hi (i + 1) (by simpa using h) (by simpa using h')
theorem roadFrom_length (ls : List S92) : ∀ (c : Ch) (r : Rd), (roadFrom ls c r).length = c.length := by
  intro c
  induction c with
  | nil => intro r; rfl
  | cons p c ih => intro r; simp [roadFrom, ih]
theorem okRoad_iff (looks : List S43) (but : List Int) : ∀ (rs : List Rd) (day : Nat), okRoad looks but day rs = true ↔ ∀ i (h : i < rs.length), rightFrom looks ((day + i : Nat) : Int) rs[i].bound but 0 = true := by
  intro rs
  induction rs with
  | nil => intro day; simp [okRoad]
  | cons r rs ih =>
    intro day
    simp only [okRoad, Bool.and_eq_true, ih]
    constructor
    · rintro ⟨h0, h1⟩ i hi
      cases i with
      | zero => exact h0
      | succ i =>
        have := h1 i (by simpa using hi)
        rw [show day + 1 + i = day + (i + 1) by omega] at this
        exact this
    · intro h
      refine ⟨h 0 (by simp), fun i hi => ?_⟩
      have := h (i + 1) (by simpa using hi)
      rw [show day + (i + 1) = day + 1 + i by omega] at this
      exact this
/-- What lies in a truth. -/
theorem encT_old (ls : List S92) : ∀ (c : Ch) (t : List Int) (day : Nat) (r : Rd) (i : Nat), t.length = 60 → day + c.length ≤ 5 →
    (∀ j, day ≤ j → j < 5 → i ≠ j ∧ i ≠ 5 + j ∧ ¬ (10 + j * 10 ≤ i ∧ i < 20 + j * 10)) → (encT ls c t day r)[i]? = t[i]? := by
  intro c
  induction c with
  | nil => intro t day r i _ _ _; rfl
  | cons p c ih =>
    intro t day r i h hd hi
    have hd5 : day < 5 := by simp at hd; omega
    show (encT ls c _ (day + 1) _)[i]? = _
    rw [ih _ _ _ _ (setT_length h hd5 _ _ _) (by simp at hd; omega) (fun j hj hj5 => hi j (by omega) hj5), setT_get h hd5]
    obtain ⟨h1, h2, h3⟩ := hi day (Nat.le_refl _) hd5
    rw [if_neg h3, if_neg h1, if_neg h2]
theorem encT_get (ls : List S92) : ∀ (c : Ch) (t : List Int) (day : Nat) (r : Rd) (i : Nat) (hi : i < c.length) (hi' : i < (roadFrom ls c r).length), t.length = 60 → day + c.length ≤ 5 →
    (encT ls c t day r)[day + i]? = some c[i].1 ∧ (encT ls c t day r)[5 + (day + i)]? = some c[i].2 ∧
      ∀ k, k < 10 → (encT ls c t day r)[10 + (day + i) * 10 + k]? = [((roadFrom ls c r)[i]).bound, ((roadFrom ls c r)[i]).rolled, ((roadFrom ls c r)[i]).a0, ((roadFrom ls c r)[i]).a1, ((roadFrom ls c r)[i]).a2, ((roadFrom ls c r)[i]).a3, ((roadFrom ls c r)[i]).o0, ((roadFrom ls c r)[i]).o1, ((roadFrom ls c r)[i]).o2, ((roadFrom ls c r)[i]).o3][k]? := by
  intro c
  induction c with
  | nil => intro t day r i hi; exact absurd hi (by simp)
  | cons p c ih =>
    intro t day r i hi hi' h hd
    have hd5 : day < 5 := by simp at hd; omega
    have hcl : day + 1 + c.length ≤ 5 := by simp at hd; omega
    cases i with
    | zero =>
      have ho := fun i hh => encT_old ls c (setT t day p.1 p.2 (afterR ls r p.2 p.1)) (day + 1) (afterR ls r p.2 p.1) i (setT_length h hd5 _ _ _) hcl hh
      refine ⟨?_, ?_, fun k hk => ?_⟩
      · show (encT ls c _ (day + 1) _)[day + 0]? = _
        rw [ho _ (fun j hj hj5 => by omega), setT_get h hd5, if_neg (by omega), if_pos (by omega)]
        rfl
      · show (encT ls c _ (day + 1) _)[5 + (day + 0)]? = _
        rw [ho _ (fun j hj hj5 => by omega), setT_get h hd5, if_neg (by omega), if_neg (by omega), if_pos (by omega)]
        rfl
      · show (encT ls c _ (day + 1) _)[10 + (day + 0) * 10 + k]? = _
        rw [ho _ (fun j hj hj5 => by omega), setT_get h hd5, if_pos (by omega), show 10 + (day + 0) * 10 + k - (10 + day * 10) = k by omega]
        rfl
    | succ i =>
      have hh := ih (setT t day p.1 p.2 (afterR ls r p.2 p.1)) (day + 1) (afterR ls r p.2 p.1) i (by simpa using hi) (by rw [roadFrom_length]; simpa using hi) (setT_length h hd5 _ _ _) hcl
      rw [show day + (i + 1) = day + 1 + i by omega]
      exact hh
end Go.Proofs.YthgjedagbgmgmaaDoor.Pr
namespace Go.Proofs.YthgjedagbgmgmaaDoor.Pr
open Go.RowKit Go.Proofs.YthgjedagbgmgmaaDoorW.PrintWords Go.Proofs.YthgjedagbgmgmaaDoorW.PrintLast Go.Proofs.YthgjedagbgmgmaaDoorW.PrintMore
set_option linter.unusedVariables false
set_option linter.unusedSimpArgs false
/-- The choices in which all looks but some are right. -/
def good (ls : List S92) (ds : List S90) (looks : List S43) (but : List Int) : List Ch := (choices ds).filter fun c => okRoad looks but 0 (roadFrom ls c r00)
/-- The road at the end of a day. -/
def rdAt (ls : List S92) (c : Ch) (d : Nat) : Rd := (roadFrom ls c r00).getD d r00
def enc0 (ls : List S92) (c : Ch) : List Int := encT ls c t00 0 r00
theorem truthsAll_good (ls : List S92) (ds : List S90) (looks : List S43) (but : List Int) : truthsAll ls ds looks but = (good ls ds looks but).map (enc0 ls) := truthsAll_choices ls ds looks but
theorem mem_good {ls : List S92} {ds : List S90} {looks : List S43} {but : List Int} {c : Ch} : c ∈ good ls ds looks but ↔ OkCh ds c ∧ okRoad looks but 0 (roadFrom ls c r00) = true := by
  unfold good
  rw [List.mem_filter, mem_choices]
theorem truthsAll_length (ls : List S92) (ds : List S90) (looks : List S43) (but : List Int) : (truthsAll ls ds looks but).length = (good ls ds looks but).length := by rw [truthsAll_good, List.length_map]
theorem enc0_get {ls : List S92} {ds : List S90} {c : Ch} (hc : OkCh ds c) (h5 : ds.length ≤ 5) (d : Nat) (hd : d < ds.length) :
    (enc0 ls c)[d]? = some (c.getD d (0, 0)).1 ∧ (enc0 ls c)[5 + d]? = some (c.getD d (0, 0)).2 ∧
      ∀ k, k < 10 → (enc0 ls c)[10 + d * 10 + k]? = [(rdAt ls c d).bound, (rdAt ls c d).rolled, (rdAt ls c d).a0, (rdAt ls c d).a1, (rdAt ls c d).a2, (rdAt ls c d).a3, (rdAt ls c d).o0, (rdAt ls c d).o1, (rdAt ls c d).o2, (rdAt ls c d).o3][k]? := by
  have hl := hc.1
  have h1 : d < c.length := by omega
  have h2 : d < (roadFrom ls c r00).length := by rw [roadFrom_length]; exact h1
  obtain ⟨g1, g2, g3⟩ := encT_get ls c t00 0 r00 d h1 h2 (by simp [t00]) (by omega)
  simp only [Nat.zero_add] at g1 g2 g3
  have e1 : c.getD d (0, 0) = c[d] := by rw [List.getD_eq_getElem?_getD, List.getElem?_eq_getElem h1]; rfl
  have e2 : rdAt ls c d = (roadFrom ls c r00)[d] := by unfold rdAt; rw [List.getD_eq_getElem?_getD, List.getElem?_eq_getElem h2]; rfl
  rw [e1, e2]
  exact ⟨g1, g2, g3⟩
theorem enc0_bound {ls : List S92} {ds : List S90} {c : Ch} (hc : OkCh ds c) (h5 : ds.length ≤ 5) (d : Nat) (hd : d < ds.length) : (enc0 ls c).getD (10 + d * 10) 0 = (rdAt ls c d).bound := by
  have := (enc0_get (ls := ls) hc h5 d hd).2.2 0 (by omega)
  rw [Nat.add_zero] at this
  rw [List.getD_eq_getElem?_getD, this]
  rfl
theorem enc0_wagons {ls : List S92} {ds : List S90} {c : Ch} (hc : OkCh ds c) (h5 : ds.length ≤ 5) (d : Nat) (hd : d < ds.length) : (enc0 ls c).getD d 0 = (c.getD d (0, 0)).1 := by
  rw [List.getD_eq_getElem?_getD, (enc0_get (ls := ls) hc h5 d hd).1]
  rfl
theorem enc0_sky {ls : List S92} {ds : List S90} {c : Ch} (hc : OkCh ds c) (h5 : ds.length ≤ 5) (d : Nat) (hd : d < ds.length) : (enc0 ls c).getD (5 + d) 0 = (c.getD d (0, 0)).2 := by
  rw [List.getD_eq_getElem?_getD, (enc0_get (ls := ls) hc h5 d hd).2.1]
  rfl
/-- A number of a road's. -/
theorem enc0_road {ls : List S92} {ds : List S90} {c : Ch} (hc : OkCh ds c) (h5 : ds.length ≤ 5) (d : Nat) (hd : d < ds.length) (k : Nat) (hk : k < 10) : (enc0 ls c).getD (10 + d * 10 + k) 0 = [(rdAt ls c d).bound, (rdAt ls c d).rolled, (rdAt ls c d).a0, (rdAt ls c d).a1, (rdAt ls c d).a2, (rdAt ls c d).a3, (rdAt ls c d).o0, (rdAt ls c d).o1, (rdAt ls c d).o2, (rdAt ls c d).o3].getD k 0 := by
  rw [List.getD_eq_getElem?_getD, (enc0_get (ls := ls) hc h5 d hd).2.2 k hk, List.getD_eq_getElem?_getD]
/-- The least and the greatest of some numbers. -/
def ends (l : List Int) (a : Int) : Int × Int := l.foldl (fun s x => (min s.1 x, max s.2 x)) (a, a)
theorem spanF_ends (f : List Int → Int) (T : List (List Int)) (a : Int) : spanF f T a = ends (T.map f) a := by
  unfold spanF ends
  rw [List.foldl_map]
theorem ends_law (l : List Int) : ∀ p : Int × Int, p.1 ≤ p.2 →
    (l.foldl (fun s x => (min s.1 x, max s.2 x)) p).1 ≤ p.1 ∧ p.2 ≤ (l.foldl (fun s x => (min s.1 x, max s.2 x)) p).2 ∧ (∀ x ∈ l, (l.foldl (fun s x => (min s.1 x, max s.2 x)) p).1 ≤ x ∧ x ≤ (l.foldl (fun s x => (min s.1 x, max s.2 x)) p).2) ∧
      ((l.foldl (fun s x => (min s.1 x, max s.2 x)) p).1 = p.1 ∨ (l.foldl (fun s x => (min s.1 x, max s.2 x)) p).1 ∈ l) ∧ ((l.foldl (fun s x => (min s.1 x, max s.2 x)) p).2 = p.2 ∨ (l.foldl (fun s x => (min s.1 x, max s.2 x)) p).2 ∈ l) := by
  induction l with
  | nil => intro p hp; exact ⟨Int.le_refl _, Int.le_refl _, fun x hx => absurd hx (by simp), .inl rfl, .inl rfl⟩
  | cons x l ih =>
    intro p hp
    obtain ⟨h1, h2, h3, h4, h5⟩ := ih (min p.1 x, max p.2 x) (by show min p.1 x ≤ max p.2 x; omega)
    rw [List.foldl_cons]
    simp only at h1 h2 h4 h5
    refine ⟨by omega, by omega, fun y hy => ?_, ?_, ?_⟩
    · rcases List.mem_cons.1 hy with rfl | hy
      · omega
      · exact h3 y hy
    · rcases h4 with h4 | h4
      · by_cases hx : p.1 ≤ x
        · left; omega
        · right; rw [h4, show min p.1 x = x by omega]; exact List.mem_cons_self
      · exact .inr (List.mem_cons_of_mem _ h4)
    · rcases h5 with h5 | h5
      · by_cases hx : x ≤ p.2
        · left; omega
        · right; rw [h5, show max p.2 x = x by omega]; exact List.mem_cons_self
      · exact .inr (List.mem_cons_of_mem _ h5)
/-- Both ends are among the numbers, and the others between them. -/
theorem ends_mem {l : List Int} {a : Int} (ha : a ∈ l) : (ends l a).1 ∈ l ∧ (ends l a).2 ∈ l ∧ ∀ x ∈ l, (ends l a).1 ≤ x ∧ x ≤ (ends l a).2 := by
  obtain ⟨_, _, h3, h4, h5⟩ := ends_law l (a, a) (Int.le_refl _)
  refine ⟨?_, ?_, h3⟩
  · rcases h4 with h | h
    · show (ends l a).1 ∈ l
      rw [show (ends l a).1 = a from h]; exact ha
    · exact h
  · rcases h5 with h | h
    · show (ends l a).2 ∈ l
      rw [show (ends l a).2 = a from h]; exact ha
    · exact h
/-- What is told of a number in all truths: its ends. -/
structure Told (T : List Ch) (f : Ch → Int) (lo hi : Int) : Prop where
  elo : ∃ c ∈ T, f c = lo
  ehi : ∃ c ∈ T, f c = hi
  all : ∀ c ∈ T, lo ≤ f c ∧ f c ≤ hi
theorem Told.eq {T T' : List Ch} {f g : Ch → Int} {lo hi lo' hi' : Int} (h : Told T f lo hi) (h' : Told T' g lo' hi') (h1 : ∀ c ∈ T, ∃ c' ∈ T', g c' = f c) (h2 : ∀ c ∈ T', ∃ c' ∈ T, f c' = g c) : lo = lo' ∧ hi = hi' := by
  obtain ⟨a, ha, ea⟩ := h.elo
  obtain ⟨b, hb, eb⟩ := h.ehi
  obtain ⟨a', ha', ea'⟩ := h'.elo
  obtain ⟨b', hb', eb'⟩ := h'.ehi
  obtain ⟨p, hp, ep⟩ := h1 a ha
  obtain ⟨q, hq, eq⟩ := h1 b hb
  obtain ⟨s, hs, es⟩ := h2 a' ha'
  obtain ⟨u, hu, eu⟩ := h2 b' hb'
  have := h'.all p hp
  have := h'.all q hq
  have := h.all s hs
  have := h.all u hu
  omega
theorem told_span {ls : List S92} {ds : List S90} {looks : List S43} {but : List Int} (hne : 0 < (truthsAll ls ds looks but).length) {f : List Int → Int} {g : Ch → Int} (h : ∀ c ∈ good ls ds looks but, f (enc0 ls c) = g c) :
    Told (good ls ds looks but) g (spanF f (truthsAll ls ds looks but) (f ((truthsAll ls ds looks but).headD []))).1 (spanF f (truthsAll ls ds looks but) (f ((truthsAll ls ds looks but).headD []))).2 := by
  have hm : ∀ x, x ∈ (truthsAll ls ds looks but).map f ↔ ∃ c ∈ good ls ds looks but, g c = x := by
    intro x
    rw [truthsAll_good, List.map_map]
    constructor
    · intro hx
      obtain ⟨c, hc, rfl⟩ := List.mem_map.1 hx
      exact ⟨c, hc, (h c hc).symm⟩
    · rintro ⟨c, hc, rfl⟩
      exact List.mem_map.2 ⟨c, hc, h c hc⟩
  have ha : f ((truthsAll ls ds looks but).headD []) ∈ (truthsAll ls ds looks but).map f := by
    refine List.mem_map_of_mem ?_
    cases hT : truthsAll ls ds looks but with
    | nil => rw [hT] at hne; simp at hne
    | cons a t => simp
  rw [spanF_ends]
  obtain ⟨h1, h2, h3⟩ := ends_mem ha
  exact ⟨(hm _).1 h1, (hm _).1 h2, fun c hc => h3 _ ((hm _).2 ⟨c, hc, rfl⟩)⟩
end Go.Proofs.YthgjedagbgmgmaaDoor.Pr
namespace Go.Proofs.YthgjedagbgmgmaaDoor.Pr
open Go.RowKit Go.Proofs.YthgjedagbgmgmaaDoorW.PrintWords Go.Proofs.YthgjedagbgmgmaaDoorW.PrintLast Go.Proofs.YthgjedagbgmgmaaDoorW.PrintMore
set_option linter.unusedVariables false
set_option linter.unusedSimpArgs false
/-- A sky more in a set. -/
def orI (set s : Int) : Int := if s = 0 then (if set % 2 = 1 then set else set + 1) else if s = 1 then (if set / 2 % 2 = 1 then set else set + 2) else (if set / 4 % 2 = 1 then set else set + 4)
theorem cases8 {x : Int} (h0 : 0 ≤ x) (h7 : x ≤ 7) : x = 0 ∨ x = 1 ∨ x = 2 ∨ x = 3 ∨ x = 4 ∨ x = 5 ∨ x = 6 ∨ x = 7 := by omega
theorem orI_bounds {set s : Int} (h0 : 0 ≤ set) (h7 : set ≤ 7) : 0 ≤ orI set s ∧ orI set s ≤ 7 := by
  unfold orI
  repeat' split
  all_goals omega
theorem bits_or {set s : Int} (h0 : 0 ≤ set) (h7 : set ≤ 7) (s0 : 0 ≤ s) (s2 : s ≤ 2) : bits BinOp.or IntKind.i64 set (wrap64 (2 ^ s.toNat)) = orI set s := by
  have hs : s = 0 ∨ s = 1 ∨ s = 2 := by omega
  rcases hs with rfl | rfl | rfl <;> rcases cases8 h0 h7 with rfl | rfl | rfl | rfl | rfl | rfl | rfl | rfl <;> decide +kernel
/-- The skies of all truths. -/
def skySet (T : List (List Int)) (d : Nat) (s : Int) : Int := T.foldl (fun s t => orI s (t.getD (5 + d) 0)) s
def skyF (ls : List S92) (ds : List S90) (ks : List S43) (d : Int) : Int × Int :=
  if askCode ls ds ks (decide (0 ≤ d ∧ d ≤ (ds.length : Int) - 1)) = 0 then (skySet (truthsAll ls ds ks []) d.toNat 0, 0) else (0, askCode ls ds ks (decide (0 ≤ d ∧ d ≤ (ds.length : Int) - 1)))
theorem truths_sky {ls : List S92} {ds : List S90} {ks : List S43} {but : List Int} (h5 : ds.length ≤ 5) {d : Nat} (hd : d < ds.length) : ∀ x ∈ truthsAll ls ds ks but, 0 ≤ x.getD (5 + d) 0 ∧ x.getD (5 + d) 0 ≤ 2 := by
  intro x hx
  rw [truthsAll_good] at hx
  obtain ⟨c, hc, rfl⟩ := List.mem_map.1 hx
  have ho := (mem_good.1 hc).1
  rw [enc0_sky ho h5 d hd]
  have hl : d < c.length := by rw [ho.1]; exact hd
  rw [List.getD_eq_getElem?_getD, List.getElem?_eq_getElem hl]
  exact ⟨(ho.2 d hl hd).2.2.1, (ho.2 d hl hd).2.2.2.1⟩
set_option maxHeartbeats 4000000 in
set_option maxRecDepth 100000 in
theorem sky_calls (A0 A1 A2 : Option Addr) (c0 c1 c2 : Nat) (l0 : List S92) (l1 : List S90) (l2 : List S43) (w : World) (hG : GOK w) (hr0 : Kd.C k92 w A0 l0.length l0) (hc0 : l0.length ≤ c0) (hr1 : Kd.C k90 w A1 l1.length l1) (hc1 : l1.length ≤ c1) (hr2 : Kd.C k43 w A2 l2.length l2) (hc2 : l2.length ≤ c2) (d : Int) :
    Calls Tryd.prog 25 #[.agg #[.slice A0 l0.length c0, .slice A1 l1.length c1, .slice A2 l2.length c2], .int .i64 d] w fun e w' => e = .returned (.tuple #[.int .i64 (skyF l0 l1 l2 d).1, .int .i64 (skyF l0 l1 l2 d).2]) ∧ Below w.heap.size w w' := by
  have h0 : (l0.length : Int) ≤ 9223372036854775807 := by have := hr0.2.1; omega
  have h1 : (l1.length : Int) ≤ 9223372036854775807 := by have := hr1.2.1; omega
  have h2 : (l2.length : Int) ≤ 9223372036854775807 := by have := hr2.2.1; omega
  obtain ⟨qd, hqd⟩ : ∃ q, q = decide (0 ≤ d ∧ d ≤ (l1.length : Int) - 1) := ⟨_, rfl⟩
  have HASK := Lib.hid (ask_calls A0 A1 A2 c0 c1 c2 l0 l1 l2 w hG hr0 hc0 hr1 hc1 hr2 hc2 h0 h1 h2 qd)
  have HDAY : Hid (∀ W, Below w.heap.size w W → Calls Tryd.prog 81 #[.agg #[.slice A0 l0.length c0, .slice A1 l1.length c1, .slice A2 l2.length c2], .int .i64 d] W fun e w' => e = .returned (.bool qd) ∧ Below W.heap.size W w') :=
    Lib.hid fun W hW => by
      rw [hqd]
      exact roll_isDay.calls A0 c0 l0 A1 c1 l1 A2 c2 l2 d _ W (Kd.C_below hr0 hW) hc0 (Kd.C_below hr1 hW) hc1 (Kd.C_below hr2 hW) hc2 (isDay_law l0 l1 l2 d h1)
  unfold skyF
  rw [← hqd]
  have HQD := Lib.hid hqd
  obtain ⟨code, hcode⟩ : ∃ c, c = askCode l0 l1 l2 qd := ⟨_, rfl⟩
  rw [← hcode]
  rw [← hcode] at HASK
  have HCODE := Lib.hid hcode
  clear hG hr0 hr1 hr2 hqd hcode h0 h1 h2
  by_cases hz : code = 0
  · rw [if_pos hz]
    have ht : (code != 0) = false := by simpa using hz
    obtain ⟨hok, hq, hT0⟩ := askCode_zero (HCODE.out.symm.trans hz)
    have hdd : 0 ≤ d ∧ d ≤ (l1.length : Int) - 1 := by
      have := HQD.out
      rw [hq] at this
      simpa using this.symm
    have hd5 : l1.length ≤ 5 := (ok_facts hok).2.2.1
    obtain ⟨day, rfl⟩ := Int.eq_ofNat_of_zero_le hdd.1
    have hday : day < 5 := by omega
    have hdl : day < l1.length := by omega
    have HTS := Lib.hid (truths_sky (ls := l0) (ks := l2) (but := []) hd5 hdl)
    obtain ⟨T, hT⟩ : ∃ T, T = truthsAll l0 l1 l2 [] := ⟨_, rfl⟩
    rw [Int.toNat_natCast, ← hT]
    rw [← hT] at HTS hT0
    have HTT := Lib.hid hT
    have HZ := Lib.hid hz
    have HOKB := Lib.hid hok
    clear hT hz hok hq hdd hd5
    go_enter Tryd.func25, Tryd.ntmps25
    go_upto_region 1 with fail
    obtain ⟨wP, hwP⟩ : ∃ W, W = (w.alloc (.cells #[.slice A0 l0.length c0, .slice A1 l1.length c1, .slice A2 l2.length c2] 26)) := ⟨_, rfl⟩
    rw [← hwP]
    have h2_ : wP.heap[w.heap.size]? = some (.cells #[.slice A0 l0.length c0, .slice A1 l1.length c1, .slice A2 l2.length c2] 26 (0, 0)) := by rw [hwP]; exact blk_new _ _
    have hB_ : Below w.heap.size w wP.drew := by rw [hwP]; exact by repeat (first | exact Below.refl _ _ | refine Below.alloc ?_ (by simp <;> omega) _ | refine Below.setCell ?_ (by simp <;> omega) _ | apply Below.drew)
    clear hwP
    refine start_ (n := 11) (S := fun w' => w'.heap[w.heap.size]? = some (.cells #[.slice A0 l0.length c0, .slice A1 l1.length c1, .slice A2 l2.length c2] 26 (0, 0)) ∧ Below w.heap.size w w' ∧ w'.cell? ⟨w.heap.size, 0, none⟩ = some (.slice A0 l0.length c0) ∧ w'.cell? ⟨w.heap.size, 1, none⟩ = some (.slice A1 l1.length c1) ∧ w'.cell? ⟨w.heap.size, 2, none⟩ = some (.slice A2 l2.length c2)) (ds := [9]) #[false, false, false, false, false, false, false, false, false, false, false] (by kernel_rfl) rfl rfl ⟨h2_, hB_, (blk_cell (h2_) 0).trans rfl, (blk_cell (h2_) 1).trans rfl, (blk_cell (h2_) 2).trans rfl⟩ (fun hHeld => ?_)
    refine pu_ 2 (some 14) ?_
    refine ta_ 0 (some 12) (s := hHeld) (y := by rintro w' ⟨s0, s1, s2, s3, s4⟩; go_simp; with_reducible rfl) (h := ?_)
    refine ta_ 1 (some 13) (s := hHeld) (y := by rintro w' ⟨s0, s1, s2, s3, s4⟩; go_simp; with_reducible rfl) (h := ?_)
    refine join_ (σ := Nat × Value) 2 #[true, true, true, true, true, true, true, true, true, false, false] (fun s => [(15, .bool qd), (16, .tuple #[s.2, .int .i64 code]), (11, .tuple #[s.2, .int .i64 code]), (17, s.2), (18, .int .i64 code), (6, .pointer (some ⟨s.1, 0, none⟩))]) (fun s w' => w'.heap[w.heap.size]? = some (.cells #[.slice A0 l0.length c0, .slice A1 l1.length c1, .slice A2 l2.length c2] 26 (0, 0)) ∧ Below w.heap.size w w' ∧ w'.cell? ⟨w.heap.size, 0, none⟩ = some (.slice A0 l0.length c0) ∧ w'.cell? ⟨w.heap.size, 1, none⟩ = some (.slice A1 l1.length c1) ∧ w'.cell? ⟨w.heap.size, 2, none⟩ = some (.slice A2 l2.length c2) ∧ w'.heap[s.1]? = some (.cells #[.slice none 0 0, .slice none 0 0, .slice none 0 0, .map none, .slice none 0 0] 107 (0, 0)) ∧ w.heap.size ≤ s.1 ∧ AskP A0 A1 A2 c0 c1 c2 l0 l1 l2 w.heap.size code s.2 w') ?_ ?_
    rotate_left
    · intro hCont
      refine two_ (i := 3) (j := 8) (Ni := some 15) (Nj := some 6) #[true, true, true, true, false, false, false, false, false, false, false] #[true, true, true, false, false, false, false, false, true, false, false] rfl rfl rfl rfl (by kernel_rfl) (by decide) (by decide) (fun K hK => ?_) (fun K hK => ?_)
      · skip
        refine goes_ Tryd.func81 (by kernel_rfl) rfl #[.agg #[.slice A0 l0.length c0, .slice A1 l1.length c1, .slice A2 l2.length c2], .int .i64 (day : Int)] (by rfl) rfl rfl (by simp only [List.map_toArray, List.map_cons, List.map_nil]; rfl) ?_
        refine (HDAY.out _ hHeld.2.1).mono ?_
        rintro e w5 ⟨rfl, hb⟩
        refine ⟨_, rfl, ?_⟩
        refine hK.out _ _ ⟨blk_below hHeld.1 hb, hHeld.2.1.trans (below_weaken hb hHeld.2.1.size), (blk_cell (blk_below hHeld.1 hb) 0).trans rfl, (blk_cell (blk_below hHeld.1 hb) 1).trans rfl, (blk_cell (blk_below hHeld.1 hb) 2).trans rfl⟩ (fun hHeld => ?_)
        clear hK K
        refine no_ 15 ?_
        refine two_ (i := 4) (j := 8) (Ni := some 16) (Nj := some 6) #[true, true, true, true, true, false, false, false, false, false, false] #[true, true, true, true, false, false, false, false, true, false, false] rfl rfl rfl rfl (by kernel_rfl) (by decide) (by decide) (fun K hK => ?_) (fun K hK => ?_)
        · skip
          refine goes_ Tryd.func80 (by kernel_rfl) rfl #[.agg #[.slice A0 l0.length c0, .slice A1 l1.length c1, .slice A2 l2.length c2], .bool qd] (by rfl) rfl rfl (by simp only [List.map_toArray, List.map_cons, List.map_nil]; rfl) ?_
          refine (HASK.out _ hHeld.2.1).mono ?_
          rintro e w6 ⟨v, rfl, hP, hb⟩
          refine ⟨_, rfl, ?_⟩
          refine hK.out _ _ ⟨blk_below hHeld.1 hb, hHeld.2.1.trans (below_weaken hb hHeld.2.1.size), (blk_cell (blk_below hHeld.1 hb) 0).trans rfl, (blk_cell (blk_below hHeld.1 hb) 1).trans rfl, (blk_cell (blk_below hHeld.1 hb) 2).trans rfl⟩ (fun hHeld => ?_)
          clear hK K
          refine no_ 16 ?_
          refine pu_ 5 (some 11) ?_
          refine pu_ 6 (some 17) ?_
          refine pu_ 7 (some 18) ?_
          refine one_ (i := 8) (N := some 6) #[true, true, true, true, true, true, true, true, true, false, false] rfl rfl (by kernel_rfl) (by decide) (fun K hK => ?_)
          refine value_ (w1 := ?_) (v := ?_) (by rfl) rfl ?_ ?_
          rotate_left 2
          · go_simp
            constructor
            · rfl
            · rfl
          have lz : w.heap.size ≤ (w6).heap.size := hHeld.2.1.size
          have hal : Below (w6).heap.size (w6) ((w6).alloc (.cells #[.slice none 0 0, .slice none 0 0, .slice none 0 0, .map none, .slice none 0 0] 107)) := (Below.refl _ _).alloc (Nat.le_refl _) _
          have q8 := blk_new (w6) (.cells #[.slice none 0 0, .slice none 0 0, .slice none 0 0, .map none, .slice none 0 0] 107)
          have hP8 := hP.below hal
          refine hK.out _ _ ⟨blk_below hHeld.1 hal, hHeld.2.1.trans (below_weaken hal hHeld.2.1.size), (blk_cell (blk_below hHeld.1 hal) 0).trans rfl, (blk_cell (blk_below hHeld.1 hal) 1).trans rfl, (blk_cell (blk_below hHeld.1 hal) 2).trans rfl⟩ (fun hHeld => ?_)
          clear hK K
          refine no_ 6 ?_
          exact norm_ (by first | (simp only [putAll, Act.put, List.setIfInBounds_toArray, List.set_cons_zero, List.set_cons_succ]; done) | (simp only [putAll, Act.put, List.setIfInBounds_toArray, List.set_cons_zero, List.set_cons_succ]; rfl)) (hCont (w6.heap.size, v) _ ⟨hHeld.1, hHeld.2.1, hHeld.2.2.1, hHeld.2.2.2.1, hHeld.2.2.2.2, q8, lz, hP8⟩)
        · skip
          refine value_ (w1 := ?_) (v := ?_) (by rfl) rfl ?_ ?_
          rotate_left 2
          · go_simp
            constructor
            · rfl
            · rfl
          have lz : w.heap.size ≤ (w5).heap.size := hHeld.2.1.size
          have hal : Below (w5).heap.size (w5) ((w5).alloc (.cells #[.slice none 0 0, .slice none 0 0, .slice none 0 0, .map none, .slice none 0 0] 107)) := (Below.refl _ _).alloc (Nat.le_refl _) _
          have h8_ := blk_new (w5) (.cells #[.slice none 0 0, .slice none 0 0, .slice none 0 0, .map none, .slice none 0 0] 107)
          refine hK.out _ _ ⟨blk_below hHeld.1 hal, hHeld.2.1.trans (below_weaken hal hHeld.2.1.size), (blk_cell (blk_below hHeld.1 hal) 0).trans rfl, (blk_cell (blk_below hHeld.1 hal) 1).trans rfl, (blk_cell (blk_below hHeld.1 hal) 2).trans rfl⟩ (fun hHeld => ?_)
          clear hK K
          refine no_ 6 ?_
          refine one_ (i := 4) (N := some 16) #[true, true, true, true, true, false, false, false, true, false, false] rfl rfl (by kernel_rfl) (by decide) (fun K hK => ?_)
          refine goes_ Tryd.func80 (by kernel_rfl) rfl #[.agg #[.slice A0 l0.length c0, .slice A1 l1.length c1, .slice A2 l2.length c2], .bool qd] (by rfl) rfl rfl (by simp only [List.map_toArray, List.map_cons, List.map_nil]; rfl) ?_
          refine (HASK.out _ hHeld.2.1).mono ?_
          rintro e w6 ⟨v, rfl, hP, hb⟩
          refine ⟨_, rfl, ?_⟩
          have q8 := blk_below h8_ hb
          refine hK.out _ _ ⟨blk_below hHeld.1 hb, hHeld.2.1.trans (below_weaken hb hHeld.2.1.size), (blk_cell (blk_below hHeld.1 hb) 0).trans rfl, (blk_cell (blk_below hHeld.1 hb) 1).trans rfl, (blk_cell (blk_below hHeld.1 hb) 2).trans rfl⟩ (fun hHeld => ?_)
          clear hK K
          refine no_ 16 ?_
          refine pu_ 5 (some 11) ?_
          refine pu_ 6 (some 17) ?_
          refine pu_ 7 (some 18) ?_
          exact norm_ (by first | (simp only [putAll, Act.put, List.setIfInBounds_toArray, List.set_cons_zero, List.set_cons_succ]; done) | (simp only [putAll, Act.put, List.setIfInBounds_toArray, List.set_cons_zero, List.set_cons_succ]; rfl)) (hCont (w5.heap.size, v) _ ⟨hHeld.1, hHeld.2.1, hHeld.2.2.1, hHeld.2.2.2.1, hHeld.2.2.2.2, q8, lz, hP⟩)
      · skip
        refine value_ (w1 := ?_) (v := ?_) (by rfl) rfl ?_ ?_
        rotate_left 2
        · go_simp
          constructor
          · rfl
          · rfl
        have lz : w.heap.size ≤ (wP.drew).heap.size := hHeld.2.1.size
        have hal : Below (wP.drew).heap.size (wP.drew) ((wP.drew).alloc (.cells #[.slice none 0 0, .slice none 0 0, .slice none 0 0, .map none, .slice none 0 0] 107)) := (Below.refl _ _).alloc (Nat.le_refl _) _
        have h8_ := blk_new (wP.drew) (.cells #[.slice none 0 0, .slice none 0 0, .slice none 0 0, .map none, .slice none 0 0] 107)
        refine hK.out _ _ ⟨blk_below hHeld.1 hal, hHeld.2.1.trans (below_weaken hal hHeld.2.1.size), (blk_cell (blk_below hHeld.1 hal) 0).trans rfl, (blk_cell (blk_below hHeld.1 hal) 1).trans rfl, (blk_cell (blk_below hHeld.1 hal) 2).trans rfl⟩ (fun hHeld => ?_)
        clear hK K
        refine no_ 6 ?_
        refine one_ (i := 3) (N := some 15) #[true, true, true, true, false, false, false, false, true, false, false] rfl rfl (by kernel_rfl) (by decide) (fun K hK => ?_)
        refine goes_ Tryd.func81 (by kernel_rfl) rfl #[.agg #[.slice A0 l0.length c0, .slice A1 l1.length c1, .slice A2 l2.length c2], .int .i64 (day : Int)] (by rfl) rfl rfl (by simp only [List.map_toArray, List.map_cons, List.map_nil]; rfl) ?_
        refine (HDAY.out _ hHeld.2.1).mono ?_
        rintro e w5 ⟨rfl, hb⟩
        refine ⟨_, rfl, ?_⟩
        have h8b := blk_below h8_ hb
        refine hK.out _ _ ⟨blk_below hHeld.1 hb, hHeld.2.1.trans (below_weaken hb hHeld.2.1.size), (blk_cell (blk_below hHeld.1 hb) 0).trans rfl, (blk_cell (blk_below hHeld.1 hb) 1).trans rfl, (blk_cell (blk_below hHeld.1 hb) 2).trans rfl⟩ (fun hHeld => ?_)
        clear hK K
        refine no_ 15 ?_
        refine one_ (i := 4) (N := some 16) #[true, true, true, true, true, false, false, false, true, false, false] rfl rfl (by kernel_rfl) (by decide) (fun K hK => ?_)
        refine goes_ Tryd.func80 (by kernel_rfl) rfl #[.agg #[.slice A0 l0.length c0, .slice A1 l1.length c1, .slice A2 l2.length c2], .bool qd] (by rfl) rfl rfl (by simp only [List.map_toArray, List.map_cons, List.map_nil]; rfl) ?_
        refine (HASK.out _ hHeld.2.1).mono ?_
        rintro e w6 ⟨v, rfl, hP, hb⟩
        refine ⟨_, rfl, ?_⟩
        have q8 := blk_below h8b hb
        refine hK.out _ _ ⟨blk_below hHeld.1 hb, hHeld.2.1.trans (below_weaken hb hHeld.2.1.size), (blk_cell (blk_below hHeld.1 hb) 0).trans rfl, (blk_cell (blk_below hHeld.1 hb) 1).trans rfl, (blk_cell (blk_below hHeld.1 hb) 2).trans rfl⟩ (fun hHeld => ?_)
        clear hK K
        refine no_ 16 ?_
        refine pu_ 5 (some 11) ?_
        refine pu_ 6 (some 17) ?_
        refine pu_ 7 (some 18) ?_
        exact norm_ (by first | (simp only [putAll, Act.put, List.setIfInBounds_toArray, List.set_cons_zero, List.set_cons_succ]; done) | (simp only [putAll, Act.put, List.setIfInBounds_toArray, List.set_cons_zero, List.set_cons_succ]; rfl)) (hCont (wP.drew.heap.size, v) _ ⟨hHeld.1, hHeld.2.1, hHeld.2.2.1, hHeld.2.2.2.1, hHeld.2.2.2.2, q8, lz, hP⟩)
    rintro ⟨g6, v⟩ w' ⟨s0, s1, s2, s3, s4, h8, hg6, hP⟩
    obtain ⟨B0, n0, d0, B1, n1, d1, B2, n2, d2, mp, B3, n3, d3, rfl, hP⟩ := hP
    have hHeld : w'.heap[w.heap.size]? = some (.cells #[.slice A0 l0.length c0, .slice A1 l1.length c1, .slice A2 l2.length c2] 26 (0, 0)) ∧ Below w.heap.size w w' ∧ w'.cell? ⟨w.heap.size, 0, none⟩ = some (.slice A0 l0.length c0) ∧ w'.cell? ⟨w.heap.size, 1, none⟩ = some (.slice A1 l1.length c1) ∧ w'.cell? ⟨w.heap.size, 2, none⟩ = some (.slice A2 l2.length c2) := ⟨s0, s1, s2, s3, s4⟩
    have k0 := (blk_cell h8 0).trans rfl
    have k1 := (blk_cell h8 1).trans rfl
    have k2 := (blk_cell h8 2).trans rfl
    have k3 := (blk_cell h8 3).trans rfl
    have k4 := (blk_cell h8 4).trans rfl
    have f0 := blk_frozen h8 0
    have f1 := blk_frozen h8 1
    have f2 := blk_frozen h8 2
    have f3 := blk_frozen h8 3
    have f4 := blk_frozen h8 4
    have l8 := blk_lt h8
    have H8 := Lib.hid h8
    have HP := Lib.hid hP
    have HHE := Lib.hid hHeld
    clear h8 hP s0 s1
    refine norm_ (a' := ?_) ?_ ?_
    rotate_left
    · simp only [putAll, Act.put, List.setIfInBounds_toArray, List.set_cons_zero, List.set_cons_succ]
      rfl
    refine last_ (i := 9) (N := none) #[true, true, true, true, true, true, true, true, true, true, false] rfl rfl (by kernel_rfl) (by decide) (fun K hK => ?_)
    refine skip_ (w1 := ?_) (by rfl) rfl ?_ ?_
    rotate_left
    · go_simp
      rfl
    refine hK.out _ _ ?_
    clear hK K
    refine pu_ 10 (some 7) ?_
    refine done_ (by kernel_rfl) ?_

    obtain ⟨u2, uB, _⟩ := HHE.out
    have nb2 : w.heap.size ≠ g6 := fun e => by
      have := H8.out
      rw [← e, u2] at this
      simp at this
    obtain ⟨W8, hW8⟩ : ∃ W, W = (((((w'.setCell ⟨g6, 0, none⟩ (.slice B0 n0 d0)).setCell ⟨g6, 1, none⟩ (.slice B1 n1 d1)).setCell ⟨g6, 2, none⟩ (.slice B2 n2 d2)).setCell ⟨g6, 3, none⟩ (.map mp)).setCell ⟨g6, 4, none⟩ (.slice B3 n3 d3)) := ⟨_, rfl⟩
    rw [← hW8]
    have h88 : W8.heap[g6]? = some (.cells #[.slice B0 n0 d0, .slice B1 n1 d1, .slice B2 n2 d2, .map mp, .slice B3 n3 d3] 107 (0, 0)) := by rw [hW8]; exact blk_put (blk_set (blk_set (blk_set (blk_set H8.out 0 _) 1 _) 2 _) 3 _) 4 _ rfl
    have hch : Chg (fun k => k = g6) w' W8 := by rw [hW8]; exact (((((Chg.cell (S := fun k => k = g6) w' g6 0 (.slice B0 n0 d0) rfl).trans (Chg.cell _ g6 1 (.slice B1 n1 d1) rfl)).trans (Chg.cell _ g6 2 (.slice B2 n2 d2) rfl)).trans (Chg.cell _ g6 3 (.map mp) rfl)).trans (Chg.cell _ g6 4 (.slice B3 n3 d3) rfl))
    have h82 := (hch.block _ (blk_lt u2) nb2).trans u2
    have hB8 : Below w.heap.size w W8 := uB.trans ⟨hch.os, hch.tape, hch.output, hch.size, fun k hk => hch.block k (Nat.lt_of_lt_of_le hk uB.size) (by omega)⟩
    have HCH := Lib.hid hch
    have HB8 := Lib.hid hB8
    clear hW8 hch u2 uB HHE k0 k1 k2 k3 k4 f0 f1 f2 f3 f4 l8 s2 s3 s4 hHeld hB8
    have c84 := (blk_cell h88 4).trans rfl
    have l88 := blk_lt h88
    obtain ⟨e1, e2, e3, e4, e5, e6, e7, e8, e9, e10, ho, _⟩ := HP.out HZ.out
    have ho8 := own_same ho fun k hk => HCH.out.block k (own_lt ho k hk) (fun e => row_ne H8.out (show (107 : Nat) ≠ 123 by decide) ho (by rw [hk, e]))
    rw [← e10] at ho8
    obtain ⟨hF, hn, hcd⟩ := frow_own ho8 (truthsAll_60 (ok_facts HOKB.out).2.2.1)
    have h60 := truthsAll_60 (ls := l0) (looks := l2) (but := []) (ok_facts HOKB.out).2.2.1
    have hlen := truthsAll_len HOKB.out
    rw [← HTT.out] at hF hn h60 hlen
    subst hn
    obtain ⟨b, o, rfl, hb, hc⟩ : ∃ b o, B3 = some ⟨b, o, none⟩ ∧ b < W8.heap.size ∧ ∀ i x, T[i]? = some x → W8.rangeAt b (o + i * 60) (encI x) := by
      rcases hF with h | h
      · rw [h] at hT0; simp at hT0
      · exact h
    have HC : ∀ W, Below W8.heap.size W8 W → ∀ i x, T[i]? = some x → W.rangeAt b (o + i * 60) (encI x) := fun W hW i x hx j v hj => (hW.cell (p := ⟨b, o + i * 60 + j, none⟩) hb).trans (hc i x hx j v hj)
    have H := Lib.hid HC
    have H60 := Lib.hid h60
    have HBB := Lib.hid hb
    clear HC hc hF h60 h88 h82 e1 e2 e3 e4 e5 e6 e7 e8 e9 e10 ho ho8 hb
    have hneI : (0 : Int) < (T.length : Int) := by omega
    go_wp2
    go_loopg [8, 25] (T.length) (fun gk v8 v25 wr => ∃ (k : Nat) (s : Int), v8 = .int .i64 s ∧ v25 = .int .i64 k ∧ Aside0 (k + gk = T.length) ∧ Aside0 (skySet T day 0 = skySet (T.drop k) day s) ∧ 0 ≤ s ∧ s ≤ 7 ∧ Aside0 (Below W8.heap.size W8 wr))
    case atStart => exact ⟨0, 0, rfl, rfl, ⟨by omega⟩, ⟨rfl⟩, by omega, by omega, ⟨by repeat (first | exact Below.refl _ _ | refine Below.alloc ?_ (by simp <;> omega) _ | refine Below.setCell ?_ (by simp <;> omega) _ | apply Below.drew)⟩⟩
    case round =>
      obtain ⟨k, s, rfl, rfl, HK, HS, hs0, hs7, HBR⟩ := hrel
      cases gk with
      | zero =>
        have hge : ¬ k < T.length := by have := HK.out; omega
        go_wp2
        go_ret2
        refine ⟨?_, HB8.out.trans (below_weaken HBR.out HB8.out.size)⟩
        rw [HS.out, List.drop_of_length_le (by omega)]
        rfl
      | succ g1 =>
        have hlt : k < T.length := by have := HK.out; omega
        obtain ⟨x, hx⟩ : ∃ x, T[k]? = some x := ⟨_, List.getElem?_eq_getElem hlt⟩
        have hxm : x ∈ T := List.mem_of_getElem? hx
        have hx60 := H60.out x hxm
        obtain ⟨y, hy⟩ : ∃ y, y = x.getD (5 + day) 0 := ⟨_, rfl⟩
        have hy2 := HTS.out x hxm
        rw [← hy] at hy2
        obtain ⟨hy0, hy2⟩ := hy2
        have hdr : T.drop k = x :: T.drop (k + 1) := by
          rw [List.drop_eq_getElem_cons hlt]
          rw [List.getElem?_eq_getElem hlt] at hx
          rw [Option.some.inj hx]
        have hcy : (encI x)[5 + day]? = some (.int .i64 y) := by
          have hl : 5 + day < x.length := by omega
          rw [hy, List.getD_eq_getElem?_getD, List.getElem?_eq_getElem hl]
          simp [encI, hl]
        have HCY := Lib.hid hcy
        have HRK0 := Lib.hid (H.out _ HBR.out k x hx)
        have HX60 := Lib.hid hx60
        have HDR := Lib.hid hdr
        have HY := Lib.hid hy
        have hz6 : (wr.alloc (.cells #[.int .i64 0, .int .i64 0, .int .i64 0, .int .i64 0, .int .i64 0, .int .i64 0, .int .i64 0, .int .i64 0, .int .i64 0, .int .i64 0, .int .i64 0, .int .i64 0, .int .i64 0, .int .i64 0, .int .i64 0, .int .i64 0, .int .i64 0, .int .i64 0, .int .i64 0, .int .i64 0, .int .i64 0, .int .i64 0, .int .i64 0, .int .i64 0, .int .i64 0, .int .i64 0, .int .i64 0, .int .i64 0, .int .i64 0, .int .i64 0, .int .i64 0, .int .i64 0, .int .i64 0, .int .i64 0, .int .i64 0, .int .i64 0, .int .i64 0, .int .i64 0, .int .i64 0, .int .i64 0, .int .i64 0, .int .i64 0, .int .i64 0, .int .i64 0, .int .i64 0, .int .i64 0, .int .i64 0, .int .i64 0, .int .i64 0, .int .i64 0, .int .i64 0, .int .i64 0, .int .i64 0, .int .i64 0, .int .i64 0, .int .i64 0, .int .i64 0, .int .i64 0, .int .i64 0, .int .i64 0] 123)).heap[wr.heap.size]? = some (.cells (encI t00).toArray 123 (0, 0)) := by rw [t00_enc]; exact blk_new _ _
        have HZ6 := Lib.hid hz6
        have HBO := Lib.hid (bits_or hs0 hs7 hy0 hy2)
        have hyo := orI_bounds (s := y) hs0 hs7
        clear hy hx hxm hx60 hdr hz6 hcy
        go_wp2_with (first
          | (with_reducible refine gate_dst (N := 28) rfl ?_; refine wpList_load_mid rfl 123 (.tmp 27) rfl b (o + k * 60) rfl (encI x) _ HRK0.out Tryd.underlying123 rfl (by rw [encI_length, HX60.out]; kernel_rfl) ?_)
          | ((with_reducible refine gate_store (t := 123) (p := 10) (v := .tmp 28) rfl ?_); refine store_blk rfl 123 (.tmp 10) (.tmp 28) rfl rfl wr.heap.size 0 (encI t00) (encI x) 123 rfl rfl HZ6.out (by simp [encI_length, HX60.out, t00]) (by rw [encI_length, HX60.out]; kernel_rfl) (encI_one x) ?_; intro W9 h9 hg9 hs9; have h9w := blk_whole h9 (by simp [encI_length, HX60.out, t00]); have hcs : W9.cell? ⟨wr.heap.size, 5 + day, none⟩ = some (.int .i64 y) := (blk_cell h9w (5 + day)).trans (by rw [List.getElem?_toArray]; exact HCY.out); have l9 := blk_lt h9w; have HB9 := Lib.hid ((HBR.out.alloc HBR.out.size (.cells #[.int .i64 0, .int .i64 0, .int .i64 0, .int .i64 0, .int .i64 0, .int .i64 0, .int .i64 0, .int .i64 0, .int .i64 0, .int .i64 0, .int .i64 0, .int .i64 0, .int .i64 0, .int .i64 0, .int .i64 0, .int .i64 0, .int .i64 0, .int .i64 0, .int .i64 0, .int .i64 0, .int .i64 0, .int .i64 0, .int .i64 0, .int .i64 0, .int .i64 0, .int .i64 0, .int .i64 0, .int .i64 0, .int .i64 0, .int .i64 0, .int .i64 0, .int .i64 0, .int .i64 0, .int .i64 0, .int .i64 0, .int .i64 0, .int .i64 0, .int .i64 0, .int .i64 0, .int .i64 0, .int .i64 0, .int .i64 0, .int .i64 0, .int .i64 0, .int .i64 0, .int .i64 0, .int .i64 0, .int .i64 0, .int .i64 0, .int .i64 0, .int .i64 0, .int .i64 0, .int .i64 0, .int .i64 0, .int .i64 0, .int .i64 0, .int .i64 0, .int .i64 0, .int .i64 0, .int .i64 0] 123)).grown hg9 (by have := HBR.out.size; simp; omega) (fun j ej => by have := HBR.out.size; simp at ej; omega)); clear h9 hg9 hs9 h9w))
        go_roundg g1
        case measure => omega
        case rel =>
          refine ⟨k + 1, orI s y, by rw [HBO.out], by go_num, ⟨by have := HK.out; omega⟩, ⟨?_⟩, hyo.1, hyo.2, ⟨HB9.out⟩⟩
          rw [HS.out, HDR.out]
          unfold skySet
          rw [List.foldl_cons, ← HY.out]
  · rw [if_neg hz]
    have ht : (code != 0) = true := by simpa using hz
    go_enter Tryd.func25, Tryd.ntmps25
    go_upto_region 1 with fail
    obtain ⟨wP, hwP⟩ : ∃ W, W = (w.alloc (.cells #[.slice A0 l0.length c0, .slice A1 l1.length c1, .slice A2 l2.length c2] 26)) := ⟨_, rfl⟩
    rw [← hwP]
    have h2_ : wP.heap[w.heap.size]? = some (.cells #[.slice A0 l0.length c0, .slice A1 l1.length c1, .slice A2 l2.length c2] 26 (0, 0)) := by rw [hwP]; exact blk_new _ _
    have hB_ : Below w.heap.size w wP.drew := by rw [hwP]; exact by repeat (first | exact Below.refl _ _ | refine Below.alloc ?_ (by simp <;> omega) _ | refine Below.setCell ?_ (by simp <;> omega) _ | apply Below.drew)
    clear hwP
    refine start_ (n := 11) (S := fun w' => w'.heap[w.heap.size]? = some (.cells #[.slice A0 l0.length c0, .slice A1 l1.length c1, .slice A2 l2.length c2] 26 (0, 0)) ∧ Below w.heap.size w w' ∧ w'.cell? ⟨w.heap.size, 0, none⟩ = some (.slice A0 l0.length c0) ∧ w'.cell? ⟨w.heap.size, 1, none⟩ = some (.slice A1 l1.length c1) ∧ w'.cell? ⟨w.heap.size, 2, none⟩ = some (.slice A2 l2.length c2)) (ds := [9]) #[false, false, false, false, false, false, false, false, false, false, false] (by kernel_rfl) rfl rfl ⟨h2_, hB_, (blk_cell (h2_) 0).trans rfl, (blk_cell (h2_) 1).trans rfl, (blk_cell (h2_) 2).trans rfl⟩ (fun hHeld => ?_)
    refine pu_ 2 (some 14) ?_
    refine ta_ 0 (some 12) (s := hHeld) (y := by rintro w' ⟨s0, s1, s2, s3, s4⟩; go_simp; with_reducible rfl) (h := ?_)
    refine ta_ 1 (some 13) (s := hHeld) (y := by rintro w' ⟨s0, s1, s2, s3, s4⟩; go_simp; with_reducible rfl) (h := ?_)
    refine join_ (σ := Nat × Value) 2 #[true, true, true, true, true, true, true, true, true, false, false] (fun s => [(15, .bool qd), (16, .tuple #[s.2, .int .i64 code]), (11, .tuple #[s.2, .int .i64 code]), (17, s.2), (18, .int .i64 code), (6, .pointer (some ⟨s.1, 0, none⟩))]) (fun s w' => w'.heap[w.heap.size]? = some (.cells #[.slice A0 l0.length c0, .slice A1 l1.length c1, .slice A2 l2.length c2] 26 (0, 0)) ∧ Below w.heap.size w w' ∧ w'.cell? ⟨w.heap.size, 0, none⟩ = some (.slice A0 l0.length c0) ∧ w'.cell? ⟨w.heap.size, 1, none⟩ = some (.slice A1 l1.length c1) ∧ w'.cell? ⟨w.heap.size, 2, none⟩ = some (.slice A2 l2.length c2) ∧ w'.heap[s.1]? = some (.cells #[.slice none 0 0, .slice none 0 0, .slice none 0 0, .map none, .slice none 0 0] 107 (0, 0)) ∧ w.heap.size ≤ s.1 ∧ AskP A0 A1 A2 c0 c1 c2 l0 l1 l2 w.heap.size code s.2 w') ?_ ?_
    rotate_left
    · intro hCont
      refine two_ (i := 3) (j := 8) (Ni := some 15) (Nj := some 6) #[true, true, true, true, false, false, false, false, false, false, false] #[true, true, true, false, false, false, false, false, true, false, false] rfl rfl rfl rfl (by kernel_rfl) (by decide) (by decide) (fun K hK => ?_) (fun K hK => ?_)
      · skip
        refine goes_ Tryd.func81 (by kernel_rfl) rfl #[.agg #[.slice A0 l0.length c0, .slice A1 l1.length c1, .slice A2 l2.length c2], .int .i64 d] (by rfl) rfl rfl (by simp only [List.map_toArray, List.map_cons, List.map_nil]; rfl) ?_
        refine (HDAY.out _ hHeld.2.1).mono ?_
        rintro e w5 ⟨rfl, hb⟩
        refine ⟨_, rfl, ?_⟩
        refine hK.out _ _ ⟨blk_below hHeld.1 hb, hHeld.2.1.trans (below_weaken hb hHeld.2.1.size), (blk_cell (blk_below hHeld.1 hb) 0).trans rfl, (blk_cell (blk_below hHeld.1 hb) 1).trans rfl, (blk_cell (blk_below hHeld.1 hb) 2).trans rfl⟩ (fun hHeld => ?_)
        clear hK K
        refine no_ 15 ?_
        refine two_ (i := 4) (j := 8) (Ni := some 16) (Nj := some 6) #[true, true, true, true, true, false, false, false, false, false, false] #[true, true, true, true, false, false, false, false, true, false, false] rfl rfl rfl rfl (by kernel_rfl) (by decide) (by decide) (fun K hK => ?_) (fun K hK => ?_)
        · skip
          refine goes_ Tryd.func80 (by kernel_rfl) rfl #[.agg #[.slice A0 l0.length c0, .slice A1 l1.length c1, .slice A2 l2.length c2], .bool qd] (by rfl) rfl rfl (by simp only [List.map_toArray, List.map_cons, List.map_nil]; rfl) ?_
          refine (HASK.out _ hHeld.2.1).mono ?_
          rintro e w6 ⟨v, rfl, hP, hb⟩
          refine ⟨_, rfl, ?_⟩
          refine hK.out _ _ ⟨blk_below hHeld.1 hb, hHeld.2.1.trans (below_weaken hb hHeld.2.1.size), (blk_cell (blk_below hHeld.1 hb) 0).trans rfl, (blk_cell (blk_below hHeld.1 hb) 1).trans rfl, (blk_cell (blk_below hHeld.1 hb) 2).trans rfl⟩ (fun hHeld => ?_)
          clear hK K
          refine no_ 16 ?_
          refine pu_ 5 (some 11) ?_
          refine pu_ 6 (some 17) ?_
          refine pu_ 7 (some 18) ?_
          refine one_ (i := 8) (N := some 6) #[true, true, true, true, true, true, true, true, true, false, false] rfl rfl (by kernel_rfl) (by decide) (fun K hK => ?_)
          refine value_ (w1 := ?_) (v := ?_) (by rfl) rfl ?_ ?_
          rotate_left 2
          · go_simp
            constructor
            · rfl
            · rfl
          have lz : w.heap.size ≤ (w6).heap.size := hHeld.2.1.size
          have hal : Below (w6).heap.size (w6) ((w6).alloc (.cells #[.slice none 0 0, .slice none 0 0, .slice none 0 0, .map none, .slice none 0 0] 107)) := (Below.refl _ _).alloc (Nat.le_refl _) _
          have q8 := blk_new (w6) (.cells #[.slice none 0 0, .slice none 0 0, .slice none 0 0, .map none, .slice none 0 0] 107)
          have hP8 := hP.below hal
          refine hK.out _ _ ⟨blk_below hHeld.1 hal, hHeld.2.1.trans (below_weaken hal hHeld.2.1.size), (blk_cell (blk_below hHeld.1 hal) 0).trans rfl, (blk_cell (blk_below hHeld.1 hal) 1).trans rfl, (blk_cell (blk_below hHeld.1 hal) 2).trans rfl⟩ (fun hHeld => ?_)
          clear hK K
          refine no_ 6 ?_
          exact norm_ (by first | (simp only [putAll, Act.put, List.setIfInBounds_toArray, List.set_cons_zero, List.set_cons_succ]; done) | (simp only [putAll, Act.put, List.setIfInBounds_toArray, List.set_cons_zero, List.set_cons_succ]; rfl)) (hCont (w6.heap.size, v) _ ⟨hHeld.1, hHeld.2.1, hHeld.2.2.1, hHeld.2.2.2.1, hHeld.2.2.2.2, q8, lz, hP8⟩)
        · skip
          refine value_ (w1 := ?_) (v := ?_) (by rfl) rfl ?_ ?_
          rotate_left 2
          · go_simp
            constructor
            · rfl
            · rfl
          have lz : w.heap.size ≤ (w5).heap.size := hHeld.2.1.size
          have hal : Below (w5).heap.size (w5) ((w5).alloc (.cells #[.slice none 0 0, .slice none 0 0, .slice none 0 0, .map none, .slice none 0 0] 107)) := (Below.refl _ _).alloc (Nat.le_refl _) _
          have h8_ := blk_new (w5) (.cells #[.slice none 0 0, .slice none 0 0, .slice none 0 0, .map none, .slice none 0 0] 107)
          refine hK.out _ _ ⟨blk_below hHeld.1 hal, hHeld.2.1.trans (below_weaken hal hHeld.2.1.size), (blk_cell (blk_below hHeld.1 hal) 0).trans rfl, (blk_cell (blk_below hHeld.1 hal) 1).trans rfl, (blk_cell (blk_below hHeld.1 hal) 2).trans rfl⟩ (fun hHeld => ?_)
          clear hK K
          refine no_ 6 ?_
          refine one_ (i := 4) (N := some 16) #[true, true, true, true, true, false, false, false, true, false, false] rfl rfl (by kernel_rfl) (by decide) (fun K hK => ?_)
          refine goes_ Tryd.func80 (by kernel_rfl) rfl #[.agg #[.slice A0 l0.length c0, .slice A1 l1.length c1, .slice A2 l2.length c2], .bool qd] (by rfl) rfl rfl (by simp only [List.map_toArray, List.map_cons, List.map_nil]; rfl) ?_
          refine (HASK.out _ hHeld.2.1).mono ?_
          rintro e w6 ⟨v, rfl, hP, hb⟩
          refine ⟨_, rfl, ?_⟩
          have q8 := blk_below h8_ hb
          refine hK.out _ _ ⟨blk_below hHeld.1 hb, hHeld.2.1.trans (below_weaken hb hHeld.2.1.size), (blk_cell (blk_below hHeld.1 hb) 0).trans rfl, (blk_cell (blk_below hHeld.1 hb) 1).trans rfl, (blk_cell (blk_below hHeld.1 hb) 2).trans rfl⟩ (fun hHeld => ?_)
          clear hK K
          refine no_ 16 ?_
          refine pu_ 5 (some 11) ?_
          refine pu_ 6 (some 17) ?_
          refine pu_ 7 (some 18) ?_
          exact norm_ (by first | (simp only [putAll, Act.put, List.setIfInBounds_toArray, List.set_cons_zero, List.set_cons_succ]; done) | (simp only [putAll, Act.put, List.setIfInBounds_toArray, List.set_cons_zero, List.set_cons_succ]; rfl)) (hCont (w5.heap.size, v) _ ⟨hHeld.1, hHeld.2.1, hHeld.2.2.1, hHeld.2.2.2.1, hHeld.2.2.2.2, q8, lz, hP⟩)
      · skip
        refine value_ (w1 := ?_) (v := ?_) (by rfl) rfl ?_ ?_
        rotate_left 2
        · go_simp
          constructor
          · rfl
          · rfl
        have lz : w.heap.size ≤ (wP.drew).heap.size := hHeld.2.1.size
        have hal : Below (wP.drew).heap.size (wP.drew) ((wP.drew).alloc (.cells #[.slice none 0 0, .slice none 0 0, .slice none 0 0, .map none, .slice none 0 0] 107)) := (Below.refl _ _).alloc (Nat.le_refl _) _
        have h8_ := blk_new (wP.drew) (.cells #[.slice none 0 0, .slice none 0 0, .slice none 0 0, .map none, .slice none 0 0] 107)
        refine hK.out _ _ ⟨blk_below hHeld.1 hal, hHeld.2.1.trans (below_weaken hal hHeld.2.1.size), (blk_cell (blk_below hHeld.1 hal) 0).trans rfl, (blk_cell (blk_below hHeld.1 hal) 1).trans rfl, (blk_cell (blk_below hHeld.1 hal) 2).trans rfl⟩ (fun hHeld => ?_)
        clear hK K
        refine no_ 6 ?_
        refine one_ (i := 3) (N := some 15) #[true, true, true, true, false, false, false, false, true, false, false] rfl rfl (by kernel_rfl) (by decide) (fun K hK => ?_)
        refine goes_ Tryd.func81 (by kernel_rfl) rfl #[.agg #[.slice A0 l0.length c0, .slice A1 l1.length c1, .slice A2 l2.length c2], .int .i64 d] (by rfl) rfl rfl (by simp only [List.map_toArray, List.map_cons, List.map_nil]; rfl) ?_
        refine (HDAY.out _ hHeld.2.1).mono ?_
        rintro e w5 ⟨rfl, hb⟩
        refine ⟨_, rfl, ?_⟩
        have h8b := blk_below h8_ hb
        refine hK.out _ _ ⟨blk_below hHeld.1 hb, hHeld.2.1.trans (below_weaken hb hHeld.2.1.size), (blk_cell (blk_below hHeld.1 hb) 0).trans rfl, (blk_cell (blk_below hHeld.1 hb) 1).trans rfl, (blk_cell (blk_below hHeld.1 hb) 2).trans rfl⟩ (fun hHeld => ?_)
        clear hK K
        refine no_ 15 ?_
        refine one_ (i := 4) (N := some 16) #[true, true, true, true, true, false, false, false, true, false, false] rfl rfl (by kernel_rfl) (by decide) (fun K hK => ?_)
        refine goes_ Tryd.func80 (by kernel_rfl) rfl #[.agg #[.slice A0 l0.length c0, .slice A1 l1.length c1, .slice A2 l2.length c2], .bool qd] (by rfl) rfl rfl (by simp only [List.map_toArray, List.map_cons, List.map_nil]; rfl) ?_
        refine (HASK.out _ hHeld.2.1).mono ?_
        rintro e w6 ⟨v, rfl, hP, hb⟩
        refine ⟨_, rfl, ?_⟩
        have q8 := blk_below h8b hb
        refine hK.out _ _ ⟨blk_below hHeld.1 hb, hHeld.2.1.trans (below_weaken hb hHeld.2.1.size), (blk_cell (blk_below hHeld.1 hb) 0).trans rfl, (blk_cell (blk_below hHeld.1 hb) 1).trans rfl, (blk_cell (blk_below hHeld.1 hb) 2).trans rfl⟩ (fun hHeld => ?_)
        clear hK K
        refine no_ 16 ?_
        refine pu_ 5 (some 11) ?_
        refine pu_ 6 (some 17) ?_
        refine pu_ 7 (some 18) ?_
        exact norm_ (by first | (simp only [putAll, Act.put, List.setIfInBounds_toArray, List.set_cons_zero, List.set_cons_succ]; done) | (simp only [putAll, Act.put, List.setIfInBounds_toArray, List.set_cons_zero, List.set_cons_succ]; rfl)) (hCont (wP.drew.heap.size, v) _ ⟨hHeld.1, hHeld.2.1, hHeld.2.2.1, hHeld.2.2.2.1, hHeld.2.2.2.2, q8, lz, hP⟩)
    rintro ⟨g6, v⟩ w' ⟨s0, s1, s2, s3, s4, h8, hg6, hP⟩
    obtain ⟨B0, n0, d0, B1, n1, d1, B2, n2, d2, mp, B3, n3, d3, rfl, hP⟩ := hP
    have hHeld : w'.heap[w.heap.size]? = some (.cells #[.slice A0 l0.length c0, .slice A1 l1.length c1, .slice A2 l2.length c2] 26 (0, 0)) ∧ Below w.heap.size w w' ∧ w'.cell? ⟨w.heap.size, 0, none⟩ = some (.slice A0 l0.length c0) ∧ w'.cell? ⟨w.heap.size, 1, none⟩ = some (.slice A1 l1.length c1) ∧ w'.cell? ⟨w.heap.size, 2, none⟩ = some (.slice A2 l2.length c2) := ⟨s0, s1, s2, s3, s4⟩
    have k0 := (blk_cell h8 0).trans rfl
    have k1 := (blk_cell h8 1).trans rfl
    have k2 := (blk_cell h8 2).trans rfl
    have k3 := (blk_cell h8 3).trans rfl
    have k4 := (blk_cell h8 4).trans rfl
    have f0 := blk_frozen h8 0
    have f1 := blk_frozen h8 1
    have f2 := blk_frozen h8 2
    have f3 := blk_frozen h8 3
    have f4 := blk_frozen h8 4
    have l8 := blk_lt h8
    have H8 := Lib.hid h8
    have HP := Lib.hid hP
    have HHE := Lib.hid hHeld
    clear h8 hP s0 s1
    refine norm_ (a' := ?_) ?_ ?_
    rotate_left
    · simp only [putAll, Act.put, List.setIfInBounds_toArray, List.set_cons_zero, List.set_cons_succ]
      rfl
    refine last_ (i := 9) (N := none) #[true, true, true, true, true, true, true, true, true, true, false] rfl rfl (by kernel_rfl) (by decide) (fun K hK => ?_)
    refine skip_ (w1 := ?_) (by rfl) rfl ?_ ?_
    rotate_left
    · go_simp
      rfl
    refine hK.out _ _ ?_
    clear hK K
    refine pu_ 10 (some 7) ?_
    refine done_ (by kernel_rfl) ?_

    obtain ⟨u2, uB, _⟩ := HHE.out
    have nb2 : w.heap.size ≠ g6 := fun e => by
      have := H8.out
      rw [← e, u2] at this
      simp at this
    obtain ⟨W8, hW8⟩ : ∃ W, W = (((((w'.setCell ⟨g6, 0, none⟩ (.slice B0 n0 d0)).setCell ⟨g6, 1, none⟩ (.slice B1 n1 d1)).setCell ⟨g6, 2, none⟩ (.slice B2 n2 d2)).setCell ⟨g6, 3, none⟩ (.map mp)).setCell ⟨g6, 4, none⟩ (.slice B3 n3 d3)) := ⟨_, rfl⟩
    rw [← hW8]
    have h88 : W8.heap[g6]? = some (.cells #[.slice B0 n0 d0, .slice B1 n1 d1, .slice B2 n2 d2, .map mp, .slice B3 n3 d3] 107 (0, 0)) := by rw [hW8]; exact blk_put (blk_set (blk_set (blk_set (blk_set H8.out 0 _) 1 _) 2 _) 3 _) 4 _ rfl
    have hch : Chg (fun k => k = g6) w' W8 := by rw [hW8]; exact (((((Chg.cell (S := fun k => k = g6) w' g6 0 (.slice B0 n0 d0) rfl).trans (Chg.cell _ g6 1 (.slice B1 n1 d1) rfl)).trans (Chg.cell _ g6 2 (.slice B2 n2 d2) rfl)).trans (Chg.cell _ g6 3 (.map mp) rfl)).trans (Chg.cell _ g6 4 (.slice B3 n3 d3) rfl))
    have h82 := (hch.block _ (blk_lt u2) nb2).trans u2
    have hB8 : Below w.heap.size w W8 := uB.trans ⟨hch.os, hch.tape, hch.output, hch.size, fun k hk => hch.block k (Nat.lt_of_lt_of_le hk uB.size) (by omega)⟩
    have HCH := Lib.hid hch
    have HB8 := Lib.hid hB8
    clear hW8 hch u2 uB HHE k0 k1 k2 k3 k4 f0 f1 f2 f3 f4 l8 s2 s3 s4 hHeld hB8
    go_wp2
    go_ret2
    exact ⟨rfl, HB8.out⟩
end Go.Proofs.YthgjedagbgmgmaaDoor.Pr
namespace Go.Proofs.YthgjedagbgmgmaaDoor.Pr
open Go.RowKit Go.Proofs.YthgjedagbgmgmaaDoorW.PrintWords Go.Proofs.YthgjedagbgmgmaaDoorW.PrintLast Go.Proofs.YthgjedagbgmgmaaDoorW.PrintMore
set_option linter.unusedVariables false
set_option linter.unusedSimpArgs false
/-- How much stone layers have that were laid so often. -/
def yardsI (ls : List S92) (xs : List Int) : Int := sumI ((List.range ls.length).map fun k => xs.getD k 0 * (ls.getD k z92).f1)
theorem sumI_zero (l : List Int) (h : ∀ x ∈ l, x = 0) : sumI l = 0 := by
  unfold sumI
  have : ∀ s : Int, l.foldl (· + ·) s = s := by
    induction l with
    | nil => intro s; rfl
    | cons a t ih =>
      intro s
      rw [List.foldl_cons, h a (by simp), ih (fun x hx => h x (by simp [hx]))]
      omega
  exact this 0
theorem get4_zero (k : Nat) : ([0, 0, 0, 0] : List Int).getD k 0 = 0 := by
  rcases k with _ | _ | _ | _ | k <;> simp
theorem rowI {w : World} {A : Option Addr} {xs : List Int} (h : Kd.C (Kd.int .i64) w A xs.length xs) : FRow eI 1 w A xs := FRow.of_C h (by decide) fun _ _ hK => hK
theorem mul_wrap {x y : Int} (h0 : 0 ≤ x) (h1 : x ≤ 1000) (g0 : 0 ≤ y) (g1 : y ≤ 50) : 0 ≤ x * y ∧ x * y ≤ 50000 ∧ IntKind.i64.wrap (x * y) = x * y := by
  have a := Int.mul_nonneg h0 g0
  have b : x * y ≤ 1000 * 50 := Int.mul_le_mul h1 g1 g0 (by decide)
  exact ⟨a, by omega, IntWalk.i64_in _ (by omega)⟩
set_option maxHeartbeats 4000000 in
set_option maxRecDepth 100000 in
theorem yards_calls (A0 A1 A2 At : Option Addr) (c0 n1 c1 n2 c2 nt ct : Nat) (mp : Option Nat) (l0 : List S92) (x0 x1 x2 x3 : Int) (w : World) (hr0 : FRow e92 2 w A0 l0) (hc0 : l0.length ≤ c0) (h4 : l0.length ≤ 4) (hy : ∀ x ∈ l0, 1 ≤ x.f1 ∧ x.f1 ≤ 50)
    (hx : ∀ k, 0 ≤ ([x0, x1, x2, x3] : List Int).getD k 0 ∧ ([x0, x1, x2, x3] : List Int).getD k 0 ≤ 1000) :
    Calls Tryd.prog 90 #[.agg #[.slice A0 l0.length c0, .slice A1 n1 c1, .slice A2 n2 c2, .map mp, .slice At nt ct], .agg #[.int .i64 x0, .int .i64 x1, .int .i64 x2, .int .i64 x3]] w fun e w' => e = .returned (.int .i64 (yardsI l0 [x0, x1, x2, x3])) ∧ Below w.heap.size w w' := by
  have HR0 := Lib.hid hr0
  have HY := Lib.hid hy
  have HX := Lib.hid hx
  clear hr0 hy hx
  by_cases hz : x0 = 0 ∧ x1 = 0 ∧ x2 = 0 ∧ x3 = 0
  · obtain ⟨rfl, rfl, rfl, rfl⟩ := hz
    have he : yardsI l0 [0, 0, 0, 0] = 0 := by
      unfold yardsI
      refine sumI_zero _ fun x hx => ?_
      obtain ⟨k, _, rfl⟩ := List.mem_map.1 hx
      simp only [get4_zero]
      omega
    rw [he]
    clear he
    have heq : ∀ w, (Op.equalIn 10000 118 (.agg #[.int .i64 0, .int .i64 0, .int .i64 0, .int .i64 0]) (.agg #[.int .i64 0, .int .i64 0, .int .i64 0, .int .i64 0])).run Tryd.prog w = .ok true w := fun w => eqA118 9998 w 0 0 0 0 0 0 0 0
    go_enter Tryd.func90, Tryd.ntmps90
    go_upto_region 1 with fail
    obtain ⟨wP, hwP⟩ : ∃ W, W = ((w.alloc (.cells #[.slice A0 l0.length c0, .slice A1 n1 c1, .slice A2 n2 c2, .map mp, .slice At nt ct] 107)).alloc (.cells #[.int .i64 0, .int .i64 0, .int .i64 0, .int .i64 0] 118)) := ⟨_, rfl⟩
    rw [← hwP]
    have H2 := Lib.hid (show wP.drew.heap[w.heap.size]? = some (.cells #[.slice A0 l0.length c0, .slice A1 n1 c1, .slice A2 n2 c2, .map mp, .slice At nt ct] 107 (0, 0)) by rw [hwP]; exact blk_alloc (blk_new _ _) _)
    have H3 := Lib.hid (show wP.drew.heap[w.heap.size + 1]? = some (.cells #[.int .i64 0, .int .i64 0, .int .i64 0, .int .i64 0] 118 (0, 0)) by rw [hwP]; exact blk_at _ _ _ (by simp))
    have HBP := Lib.hid (show Below w.heap.size w wP.drew by rw [hwP]; exact by repeat (first | exact Below.refl _ _ | refine Below.alloc ?_ (by simp <;> omega) _ | refine Below.setCell ?_ (by simp <;> omega) _ | apply Below.drew))
    clear hwP
    refine start_ (n := 3) (S := fun w' => w'.cell? ⟨w.heap.size + 1, 0, none⟩ = some (.int .i64 0) ∧ w'.cell? ⟨w.heap.size + 1, 1, none⟩ = some (.int .i64 0) ∧ w'.cell? ⟨w.heap.size + 1, 2, none⟩ = some (.int .i64 0) ∧ w'.cell? ⟨w.heap.size + 1, 3, none⟩ = some (.int .i64 0)) (ds := []) #[false, false, false] (by kernel_rfl) rfl rfl ⟨(blk_cell H3.out 0).trans rfl, (blk_cell H3.out 1).trans rfl, (blk_cell H3.out 2).trans rfl, (blk_cell H3.out 3).trans rfl⟩ (fun hHeld => ?_)
    refine take_ (i := 0) (N := some 8) (v := ?_) (a' := ?_) #[true, false, false] rfl rfl (by kernel_rfl) (fun _ _ _ h => h) (Or.inl ⟨by rfl, ?_⟩) hHeld ?_ ?_
    rotate_left
    · rintro w' ⟨s0, s1, s2, s3⟩
      go_simp
      with_reducible rfl
    rotate_left
    · simp only [Act.put, List.setIfInBounds_toArray, List.set_cons_zero, List.set_cons_succ, i64_w, i32_w]
      rfl
    refine one_ (i := 1) (N := some 9) #[true, true, false] rfl rfl (by kernel_rfl) (by decide) (fun K hK => ?_)
    refine goes_ Tryd.func125 (by kernel_rfl) rfl #[] (by rfl) rfl rfl (by simp only [List.map_toArray, List.map_nil]) ?_
    refine (unlaid_calls _).mono ?_
    rintro e w5 ⟨rfl, hb⟩
    refine ⟨_, rfl, ?_⟩
    have HB5 := Lib.hid (HBP.out.trans (below_weaken hb HBP.out.size))
    have h35 := blk_below H3.out hb
    have h25 := blk_below H2.out hb
    refine hK.out _ _ ⟨(blk_cell h35 0).trans rfl, (blk_cell h35 1).trans rfl, (blk_cell h35 2).trans rfl, (blk_cell h35 3).trans rfl⟩ (fun hHeld => ?_)
    clear hK K
    refine norm_ (a' := ?_) ?_ ?_
    rotate_left
    · show Act.put _ (some 9) _ = _
      simp only [Act.put, List.setIfInBounds_toArray, List.set_cons_zero, List.set_cons_succ, i64_w, i32_w]
      rfl
    refine pure_ (i := 2) (N := some 10) (v := ?_) (a' := ?_) #[true, true, true] rfl rfl (by kernel_rfl) (fun _ _ _ h => h) (Or.inl ⟨by rfl, ?_⟩) ?_ ?_
    rotate_left
    · intro w'
      go_simp
      with_reducible rfl
    rotate_left
    · simp only [Act.put, List.setIfInBounds_toArray, List.set_cons_zero, List.set_cons_succ, i64_w, i32_w]
      rfl
    refine done_ (by kernel_rfl) ?_

    go_wp2
    go_ret
    exact ⟨rfl, HB5.out⟩
  · have hq : (x0 == 0 && (x1 == 0 && (x2 == 0 && x3 == 0))) = false := by
      rw [Bool.eq_false_iff]
      intro h
      simp only [Bool.and_eq_true, beq_iff_eq] at h
      exact hz h
    have heq : ∀ w, (Op.equalIn 10000 118 (.agg #[.int .i64 x0, .int .i64 x1, .int .i64 x2, .int .i64 x3]) (.agg #[.int .i64 0, .int .i64 0, .int .i64 0, .int .i64 0])).run Tryd.prog w = .ok false w := fun w => by
      rw [← hq]
      exact eqA118 9998 w x0 x1 x2 x3 0 0 0 0
    clear hz hq
    go_enter Tryd.func90, Tryd.ntmps90
    go_upto_region 1 with fail
    obtain ⟨wP, hwP⟩ : ∃ W, W = ((w.alloc (.cells #[.slice A0 l0.length c0, .slice A1 n1 c1, .slice A2 n2 c2, .map mp, .slice At nt ct] 107)).alloc (.cells #[.int .i64 x0, .int .i64 x1, .int .i64 x2, .int .i64 x3] 118)) := ⟨_, rfl⟩
    rw [← hwP]
    have H2 := Lib.hid (show wP.drew.heap[w.heap.size]? = some (.cells #[.slice A0 l0.length c0, .slice A1 n1 c1, .slice A2 n2 c2, .map mp, .slice At nt ct] 107 (0, 0)) by rw [hwP]; exact blk_alloc (blk_new _ _) _)
    have H3 := Lib.hid (show wP.drew.heap[w.heap.size + 1]? = some (.cells #[.int .i64 x0, .int .i64 x1, .int .i64 x2, .int .i64 x3] 118 (0, 0)) by rw [hwP]; exact blk_at _ _ _ (by simp))
    have HBP := Lib.hid (show Below w.heap.size w wP.drew by rw [hwP]; exact by repeat (first | exact Below.refl _ _ | refine Below.alloc ?_ (by simp <;> omega) _ | refine Below.setCell ?_ (by simp <;> omega) _ | apply Below.drew))
    clear hwP
    refine start_ (n := 3) (S := fun w' => w'.cell? ⟨w.heap.size + 1, 0, none⟩ = some (.int .i64 x0) ∧ w'.cell? ⟨w.heap.size + 1, 1, none⟩ = some (.int .i64 x1) ∧ w'.cell? ⟨w.heap.size + 1, 2, none⟩ = some (.int .i64 x2) ∧ w'.cell? ⟨w.heap.size + 1, 3, none⟩ = some (.int .i64 x3)) (ds := []) #[false, false, false] (by kernel_rfl) rfl rfl ⟨(blk_cell H3.out 0).trans rfl, (blk_cell H3.out 1).trans rfl, (blk_cell H3.out 2).trans rfl, (blk_cell H3.out 3).trans rfl⟩ (fun hHeld => ?_)
    refine take_ (i := 0) (N := some 8) (v := ?_) (a' := ?_) #[true, false, false] rfl rfl (by kernel_rfl) (fun _ _ _ h => h) (Or.inl ⟨by rfl, ?_⟩) hHeld ?_ ?_
    rotate_left
    · rintro w' ⟨s0, s1, s2, s3⟩
      go_simp
      with_reducible rfl
    rotate_left
    · simp only [Act.put, List.setIfInBounds_toArray, List.set_cons_zero, List.set_cons_succ, i64_w, i32_w]
      rfl
    refine one_ (i := 1) (N := some 9) #[true, true, false] rfl rfl (by kernel_rfl) (by decide) (fun K hK => ?_)
    refine goes_ Tryd.func125 (by kernel_rfl) rfl #[] (by rfl) rfl rfl (by simp only [List.map_toArray, List.map_nil]) ?_
    refine (unlaid_calls _).mono ?_
    rintro e w5 ⟨rfl, hb⟩
    refine ⟨_, rfl, ?_⟩
    have HB5 := Lib.hid (HBP.out.trans (below_weaken hb HBP.out.size))
    have h35 := blk_below H3.out hb
    have h25 := blk_below H2.out hb
    refine hK.out _ _ ⟨(blk_cell h35 0).trans rfl, (blk_cell h35 1).trans rfl, (blk_cell h35 2).trans rfl, (blk_cell h35 3).trans rfl⟩ (fun hHeld => ?_)
    clear hK K
    refine norm_ (a' := ?_) ?_ ?_
    rotate_left
    · show Act.put _ (some 9) _ = _
      simp only [Act.put, List.setIfInBounds_toArray, List.set_cons_zero, List.set_cons_succ, i64_w, i32_w]
      rfl
    refine pure_ (i := 2) (N := some 10) (v := ?_) (a' := ?_) #[true, true, true] rfl rfl (by kernel_rfl) (fun _ _ _ h => h) (Or.inl ⟨by rfl, ?_⟩) ?_ ?_
    rotate_left
    · intro w'
      go_simp
      with_reducible rfl
    rotate_left
    · simp only [Act.put, List.setIfInBounds_toArray, List.set_cons_zero, List.set_cons_succ, i64_w, i32_w]
      rfl
    refine done_ (by kernel_rfl) ?_

    have k0 := (blk_cell h25 0).trans rfl
    have l2 := blk_lt h25
    have H35 := Lib.hid h35
    clear h25 h35 heq hb
    go_wp2
    go_loopg [5, 15] (l0.length) (fun gk v5 v15 wr => ∃ (k : Nat) (xs : List Int), v15 = .int .i64 k ∧ Aside0 (k + gk = l0.length) ∧ Aside0 (xs = (List.range k).map fun k => ([x0, x1, x2, x3] : List Int).getD k 0 * (l0.getD k z92).f1) ∧ Aside0 (Kd.R (Kd.int .i64) 3 wr w.heap.size (fun _ => True) v5 xs) ∧ Aside0 (wr.heap[w.heap.size + 1]? = some (.cells #[.int .i64 x0, .int .i64 x1, .int .i64 x2, .int .i64 x3] 118 (0, 0))) ∧ Aside0 (Below w.heap.size w wr))
    case atStart => exact ⟨0, [], rfl, ⟨by omega⟩, ⟨rfl⟩, ⟨Kd.R_nil _ _ _ _ _⟩, ⟨H35.out⟩, ⟨HB5.out⟩⟩
    case round =>
      obtain ⟨k, xs, rfl, HK, HXS, HR, H3, HB⟩ := hrel
      cases gk with
      | zero =>
        have hge : ¬ k < l0.length := by have := HK.out; omega
        obtain ⟨A, c, e5⟩ := Kd.R_slice HR.out
        subst e5
        obtain ⟨_, hxc, hC⟩ := Kd.R_reads' HR.out
        have hkl : k = l0.length := by have := HK.out; omega
        have hxl : xs.length = k := by rw [HXS.out]; simp
        have hxb : ∀ x ∈ xs, 0 ≤ x ∧ x ≤ 1000000 := by
          intro x hx
          rw [HXS.out] at hx
          obtain ⟨j, hj, rfl⟩ := List.mem_map.1 hx
          have hjl : j < l0.length := by have := List.mem_range.1 hj; omega
          have e : l0.getD j z92 = l0[j] := by rw [List.getD_eq_getElem?_getD, List.getElem?_eq_getElem hjl]; rfl
          have g1 := HY.out l0[j] (List.getElem_mem hjl)
          have g2 := HX.out j
          rw [← e] at g1
          obtain ⟨m0, m1, _⟩ := mul_wrap g2.1 g2.2 (by omega) g1.2
          exact ⟨m0, by omega⟩
        have HS := Lib.hid (sum_calls A c xs wr (rowI hC) hxc (by omega) hxb)
        have hfin : sumI xs = yardsI l0 [x0, x1, x2, x3] := by rw [HXS.out, hkl]; rfl
        have HFIN := Lib.hid hfin
        clear hxc hC hkl hxl hxb hfin
        go_wp2_with (go_at_call 126; refine HS.out.mono ?_; rintro e w' ⟨rfl, rfl⟩)
        go_ret
        exact ⟨by rw [HFIN.out]; rfl, HB.out⟩
      | succ g1 =>
        have hlt : k < l0.length := by have := HK.out; omega
        obtain ⟨b, o, rfl, hbl, q0, q1⟩ := at92 (HR0.out.below HB.out) k hlt
        obtain ⟨y, hyy⟩ : ∃ y, y = l0[k].f1 := ⟨_, rfl⟩
        obtain ⟨n, hnn⟩ : ∃ n, n = l0[k].f0 := ⟨_, rfl⟩
        obtain ⟨x, hxx⟩ : ∃ x, x = ([x0, x1, x2, x3] : List Int).getD k 0 := ⟨_, rfl⟩
        have hyb := HY.out l0[k] (List.getElem_mem hlt)
        have hxb := HX.out k
        rw [← hyy] at q1 hyb
        rw [← hnn] at q0
        rw [← hxx] at hxb
        obtain ⟨m0, m1, hmw⟩ := mul_wrap hxb.1 hxb.2 (by omega) hyb.2
        have HXX := Lib.hid hxx
        have HYY := Lib.hid hyy
        have hk4 : k < 4 := by omega
        have p0 := (blk_cell H3.out k).trans (show (#[.int .i64 x0, .int .i64 x1, .int .i64 x2, .int .i64 x3] : Array Value)[k]? = some (.int .i64 x) by rw [hxx]; rcases k with _ | _ | _ | _ | k <;> first | rfl | omega)
        have HMW := Lib.hid hmw
        clear hxx hyy hnn hmw
        go_upto_region 7 with fail
        obtain ⟨wP, hwP⟩ : ∃ W, W = wr.alloc (.cells #[.int .i64 n, .int .i64 y] 92) := ⟨_, rfl⟩
        rw [← hwP]
        have hBP : Below wr.heap.size wr wP.drew := by rw [hwP]; exact by repeat (first | exact Below.refl _ _ | refine Below.alloc ?_ (by simp <;> omega) _ | refine Below.setCell ?_ (by simp <;> omega) _ | apply Below.drew)
        have H3P := Lib.hid (blk_below H3.out hBP)
        have hcP := (blk_cell H3P.out k).trans (show (#[.int .i64 x0, .int .i64 x1, .int .i64 x2, .int .i64 x3] : Array Value)[k]? = some (.int .i64 x) by rw [HXX.out]; rcases k with _ | _ | _ | _ | k <;> first | rfl | omega)
        have hyP : wP.drew.cell? ⟨wr.heap.size, 1, none⟩ = some (.int .i64 y) := by rw [hwP]; exact (blk_cell (blk_new wr _) 1).trans rfl
        have HRP := Lib.hid (Kd.R_below HR.out hBP)
        have HBP := Lib.hid (HB.out.trans (below_weaken hBP HB.out.size))
        have hk4i : (k : Int) < 4 := by omega
        have hxl : xs.length = k := by rw [HXS.out]; simp
        have HXL := Lib.hid (show xs.length ≤ 4 by omega)
        have hmw := HMW.out
        clear hwP hBP p0 hxl
        refine start_ (n := 10) (S := fun w' => w'.cell? ⟨w.heap.size + 1, k, none⟩ = some (.int .i64 x) ∧ w'.cell? ⟨wr.heap.size, 1, none⟩ = some (.int .i64 y)) (ds := [7, 8]) #[false, false, false, false, false, false, false, false, false, false] (by kernel_rfl) rfl rfl ⟨hcP, hyP⟩ (fun hHeld => ?_)
        refine pure_ (i := 0) (N := some 20) (v := ?_) (a' := ?_) #[true, false, false, false, false, false, false, false, false, false] rfl rfl (by kernel_rfl) (fun _ _ _ h => h) (Or.inl ⟨by rfl, ?_⟩) ?_ ?_
        rotate_left
        · intro w'
          go_simp
          with_reducible rfl
        rotate_left
        · simp only [Act.put, List.setIfInBounds_toArray, List.set_cons_zero, List.set_cons_succ, i64_w, i32_w]
          rfl
        refine pure_ (i := 1) (N := some 21) (v := ?_) (a' := ?_) #[true, true, false, false, false, false, false, false, false, false] rfl rfl (by kernel_rfl) (fun _ _ _ h => h) (Or.inl ⟨by rfl, ?_⟩) ?_ ?_
        rotate_left
        · intro w'
          go_simp
          with_reducible rfl
        rotate_left
        · simp only [Act.put, List.setIfInBounds_toArray, List.set_cons_zero, List.set_cons_succ, i64_w, i32_w]
          rfl
        refine pure_ (i := 2) (N := some 22) (v := ?_) (a' := ?_) #[true, true, true, false, false, false, false, false, false, false] rfl rfl (by kernel_rfl) (fun _ _ _ h => h) (Or.inl ⟨by rfl, ?_⟩) ?_ ?_
        rotate_left
        · intro w'
          go_simp
          with_reducible rfl
        rotate_left
        · simp only [Act.put, List.setIfInBounds_toArray, List.set_cons_zero, List.set_cons_succ, i64_w, i32_w]
          rfl
        refine pure_ (i := 4) (N := some 24) (v := ?_) (a' := ?_) #[true, true, true, false, true, false, false, false, false, false] rfl rfl (by kernel_rfl) (fun _ _ _ h => h) (Or.inl ⟨by rfl, ?_⟩) ?_ ?_
        rotate_left
        · intro w'
          go_simp
          with_reducible rfl
        rotate_left
        · simp only [Act.put, List.setIfInBounds_toArray, List.set_cons_zero, List.set_cons_succ, i64_w, i32_w]
          rfl
        refine take_ (i := 3) (N := some 23) (v := ?_) (a' := ?_) #[true, true, true, true, true, false, false, false, false, false] rfl rfl (by kernel_rfl) (fun _ _ _ h => h) (Or.inl ⟨by rfl, ?_⟩) hHeld ?_ ?_
        rotate_left
        · rintro w' ⟨s0, s1⟩
          go_simp
          with_reducible rfl
        rotate_left
        · simp only [Act.put, List.setIfInBounds_toArray, List.set_cons_zero, List.set_cons_succ, i64_w, i32_w]
          rfl
        refine take_ (i := 5) (N := some 25) (v := ?_) (a' := ?_) #[true, true, true, true, true, true, false, false, false, false] rfl rfl (by kernel_rfl) (fun _ _ _ h => h) (Or.inl ⟨by rfl, ?_⟩) hHeld ?_ ?_
        rotate_left
        · rintro w' ⟨s0, s1⟩
          go_simp
          with_reducible rfl
        rotate_left
        · simp only [Act.put, List.setIfInBounds_toArray, List.set_cons_zero, List.set_cons_succ, i64_w, i32_w]
          rfl
        refine pure_ (i := 6) (N := some 26) (v := ?_) (a' := ?_) #[true, true, true, true, true, true, true, false, false, false] rfl rfl (by kernel_rfl) (fun _ _ _ h => h) (Or.inl ⟨by rfl, ?_⟩) ?_ ?_
        rotate_left
        · intro w'
          go_simp
          with_reducible rfl
        rotate_left
        · simp only [Act.put, List.setIfInBounds_toArray, List.set_cons_zero, List.set_cons_succ, i64_w, i32_w]
          rfl
        refine last_ (i := 7) (N := some 27) #[true, true, true, true, true, true, true, true, false, false] rfl rfl (by kernel_rfl) (by decide) (fun K hK => ?_)
        refine value_ (w1 := ?_) (v := ?_) (by rfl) rfl ?_ ?_
        rotate_left 2
        · go_simp
          constructor
          · rfl
          · rfl
        refine hK.out _ _ ?_
        clear hK K
        refine norm_ (a' := ?_) ?_ ?_
        rotate_left
        · show Act.put _ (some 27) _ = _
          simp only [Act.put, List.setIfInBounds_toArray, List.set_cons_zero, List.set_cons_succ, i64_w, i32_w]
          rfl
        refine last_ (i := 8) (N := some 28) #[true, true, true, true, true, true, true, true, true, false] rfl rfl (by kernel_rfl) (by decide) (fun K hK => ?_)
        refine Kd.R_append_step (Kd.int .i64) (w0 := w) w.heap.size (by rfl) (.tmp 20) (.tmp 27) 45 3 (.int .i64 0) 8 rfl Tryd.underlying45 info3 rfl (by decide) (by omega) u5 xs (x * y) [.int .i64 (x * y)] (fun _ => True) (fun _ => False) rfl rfl rfl (fun _ hk => hk.elim) (fun _ _ => trivial) HRP.out HBP.out HBP.out.size (by have := HXL.out; omega) ?_
        intro v6 w6 hR6 hB6 hg6 _
        have HR6 := Lib.hid hR6
        have HB6 := Lib.hid hB6
        have h36 := (hg6.block _ (blk_lt H3P.out) (Kd.R_ne HRP.out H3P.out (by decide))).trans H3P.out
        have H36 := Lib.hid h36
        clear hR6 hB6 hg6 h36
        refine hK.out _ _ ?_
        clear hK K
        refine norm_ (a' := ?_) ?_ ?_
        rotate_left
        · show Act.put _ (some 28) _ = _
          simp only [Act.put, List.setIfInBounds_toArray, List.set_cons_zero, List.set_cons_succ, i64_w, i32_w]
          rfl
        refine pure_ (i := 9) (N := some 5) (v := ?_) (a' := ?_) #[true, true, true, true, true, true, true, true, true, true] rfl rfl (by kernel_rfl) (fun _ _ _ h => h) (Or.inl ⟨by rfl, ?_⟩) ?_ ?_
        rotate_left
        · intro w'
          go_simp
          with_reducible rfl
        rotate_left
        · simp only [Act.put, List.setIfInBounds_toArray, List.set_cons_zero, List.set_cons_succ, i64_w, i32_w]
          rfl
        refine done_ (by kernel_rfl) ?_

        go_wp2
        go_roundg g1
        case measure => omega
        case rel => exact ⟨k + 1, xs ++ [x * y], by go_num, ⟨by have := HK.out; omega⟩, ⟨by rw [HXS.out, List.range_succ, List.map_append, HXX.out, HYY.out, List.map_cons, List.map_nil, List.getD_eq_getElem?_getD (l := l0), List.getElem?_eq_getElem hlt]; rfl⟩, ⟨HR6.out⟩, ⟨H36.out⟩, ⟨HB6.out⟩⟩
end Go.Proofs.YthgjedagbgmgmaaDoor.Pr
namespace Go.Proofs.YthgjedagbgmgmaaDoor.Pr
open Go.RowKit Go.Proofs.YthgjedagbgmgmaaDoorW.PrintWords Go.Proofs.YthgjedagbgmgmaaDoorW.PrintLast Go.Proofs.YthgjedagbgmgmaaDoorW.PrintMore
set_option linter.unusedVariables false
set_option linter.unusedSimpArgs false
theorem last_m (A0 A1 A2 At : Option Addr) (n0 c0 m c1 n2 c2 nt ct : Nat) (mp : Option Nat) (w : World) (hm : m < 1000) :
    Calls Tryd.prog 91 #[.agg #[.slice A0 n0 c0, .slice A1 (m + 1) c1, .slice A2 n2 c2, .map mp, .slice At nt ct]] w fun e w' => e = .returned (.int .i64 (m : Int)) ∧ Below w.heap.size w w' :=
  (last_calls A0 A1 A2 At n0 c0 (m + 1) c1 n2 c2 nt ct mp w (by omega) (by omega)).mono (by
    rintro e w' ⟨rfl, hb⟩
    refine ⟨?_, hb⟩
    rw [show ((m + 1 : Nat) : Int) - 1 = (m : Int) by omega])
set_option maxHeartbeats 4000000 in
set_option maxRecDepth 100000 in
theorem lost1_calls (A0 A1 A2 At : Option Addr) (c0 m c1 n2 c2 nt ct p : Nat) (mp : Option Nat) (l0 : List S92) (t : List Int) (w : World) (hr0 : FRow e92 2 w A0 l0) (hc0 : l0.length ≤ c0) (h4 : l0.length ≤ 4) (hy : ∀ x ∈ l0, 1 ≤ x.f1 ∧ x.f1 ≤ 50) (hm : m < 5)
    (ht : t.length = 60) (hb : ∀ k, k < 4 → 0 ≤ t.getD (10 + m * 10 + 6 + k) 0 ∧ t.getD (10 + m * 10 + 6 + k) 0 ≤ 1000) (hp : w.heap[p]? = some (.cells #[.slice A0 l0.length c0, .slice A1 (m + 1) c1, .slice A2 n2 c2, .map mp, .slice At nt ct] 107 (0, 0))) :
    Calls Tryd.prog 89 #[.agg (encI t).toArray, .pointer (some ⟨p, 0, none⟩)] w fun e w' => e = .returned (.int .i64 (yardsI l0 [t.getD (10 + m * 10 + 6) 0, t.getD (10 + m * 10 + 6 + 1) 0, t.getD (10 + m * 10 + 6 + 2) 0, t.getD (10 + m * 10 + 6 + 3) 0])) ∧ Below w.heap.size w w' := by
  obtain ⟨x0, hx0⟩ : ∃ x, x = t.getD (10 + m * 10 + 6) 0 := ⟨_, rfl⟩
  obtain ⟨x1, hx1⟩ : ∃ x, x = t.getD (10 + m * 10 + 6 + 1) 0 := ⟨_, rfl⟩
  obtain ⟨x2, hx2⟩ : ∃ x, x = t.getD (10 + m * 10 + 6 + 2) 0 := ⟨_, rfl⟩
  obtain ⟨x3, hx3⟩ : ∃ x, x = t.getD (10 + m * 10 + 6 + 3) 0 := ⟨_, rfl⟩
  have b0 := hb 0 (by omega)
  have b1 := hb 1 (by omega)
  have b2 := hb 2 (by omega)
  have b3 := hb 3 (by omega)
  rw [Nat.add_zero] at b0
  rw [← hx0] at b0 ⊢
  rw [← hx1] at b1 ⊢
  rw [← hx2] at b2 ⊢
  rw [← hx3] at b3 ⊢
  have hbb : ∀ k, 0 ≤ ([x0, x1, x2, x3] : List Int).getD k 0 ∧ ([x0, x1, x2, x3] : List Int).getD k 0 ≤ 1000 := by
    intro k
    rcases k with _ | _ | _ | _ | k
    · exact b0
    · exact b1
    · exact b2
    · exact b3
    · simp
  have HYD : Hid (∀ W, Below w.heap.size w W → Calls Tryd.prog 90 #[.agg #[.slice A0 l0.length c0, .slice A1 (m + 1) c1, .slice A2 n2 c2, .map mp, .slice At nt ct], .agg #[.int .i64 x0, .int .i64 x1, .int .i64 x2, .int .i64 x3]] W fun e w' => e = .returned (.int .i64 (yardsI l0 [x0, x1, x2, x3])) ∧ Below W.heap.size W w') :=
    Lib.hid fun W hW => yards_calls A0 A1 A2 At c0 (m + 1) c1 n2 c2 nt ct mp l0 x0 x1 x2 x3 W (hr0.below hW) hc0 h4 hy hbb
  have hxx : ∀ j, j < 60 → (encI t).toArray[j]? = some (.int .i64 (t.getD j 0)) := by
    intro j hj
    have hl : j < t.length := by omega
    rw [List.getD_eq_getElem?_getD, List.getElem?_eq_getElem hl]
    simp [encI, hl]
  have HX0 := Lib.hid (hxx (10 + m * 10 + 6) (by omega))
  have HX1 := Lib.hid (hxx (10 + m * 10 + 6 + 1) (by omega))
  have HX2 := Lib.hid (hxx (10 + m * 10 + 6 + 2) (by omega))
  have HX3 := Lib.hid (hxx (10 + m * 10 + 6 + 3) (by omega))
  rw [← hx0] at HX0
  rw [← hx1] at HX1
  rw [← hx2] at HX2
  rw [← hx3] at HX3
  have HP0 := Lib.hid hp
  have hmi : (m : Int) < 5 := by omega
  clear hr0 hy hb hx0 hx1 hx2 hx3 b0 b1 b2 b3 hbb ht hxx hp
  go_enter Tryd.func89, Tryd.ntmps89
  go_upto_region 1 with fail
  obtain ⟨wP, hwP⟩ : ∃ W, W = w.alloc (.cells (encI t).toArray 123) := ⟨_, rfl⟩
  rw [← hwP]
  have hBP : Below w.heap.size w wP.drew := by rw [hwP]; exact by repeat (first | exact Below.refl _ _ | refine Below.alloc ?_ (by simp <;> omega) _ | refine Below.setCell ?_ (by simp <;> omega) _ | apply Below.drew)
  have HT2 := Lib.hid (show wP.drew.heap[w.heap.size]? = some (.cells (encI t).toArray 123 (0, 0)) by rw [hwP]; exact blk_new _ _)
  have HP := Lib.hid (blk_below HP0.out hBP)
  have HBP := Lib.hid hBP
  clear hwP hBP
  refine start_ (n := 9) (S := fun w' => w'.cell? ⟨p, 0, none⟩ = some (.slice A0 l0.length c0) ∧ w'.cell? ⟨p, 1, none⟩ = some (.slice A1 (m + 1) c1) ∧ w'.cell? ⟨p, 2, none⟩ = some (.slice A2 n2 c2) ∧ w'.cell? ⟨p, 3, none⟩ = some (.map mp) ∧ w'.cell? ⟨p, 4, none⟩ = some (.slice At nt ct) ∧ w'.cell? ⟨w.heap.size, 10 + m * 10 + 6, none⟩ = some (.int .i64 x0) ∧ w'.cell? ⟨w.heap.size, 10 + m * 10 + 6 + 1, none⟩ = some (.int .i64 x1) ∧ w'.cell? ⟨w.heap.size, 10 + m * 10 + 6 + 2, none⟩ = some (.int .i64 x2) ∧ w'.cell? ⟨w.heap.size, 10 + m * 10 + 6 + 3, none⟩ = some (.int .i64 x3)) (ds := [7]) #[false, false, false, false, false, false, false, false, false] (by kernel_rfl) rfl rfl ⟨(blk_cell HP.out 0).trans rfl, (blk_cell HP.out 1).trans rfl, (blk_cell HP.out 2).trans rfl, (blk_cell HP.out 3).trans rfl, (blk_cell HP.out 4).trans rfl, (blk_cell HT2.out (10 + m * 10 + 6)).trans HX0.out, (blk_cell HT2.out (10 + m * 10 + 6 + 1)).trans HX1.out, (blk_cell HT2.out (10 + m * 10 + 6 + 2)).trans HX2.out, (blk_cell HT2.out (10 + m * 10 + 6 + 3)).trans HX3.out⟩ (fun hHeld => ?_)
  refine pu_ 3 (some 7) ?_
  refine ta_ 0 (some 4) (s := hHeld) (y := by rintro w' ⟨s0, s1, s2, s3, s4, s5, s6, s7, s8⟩; go_simp; with_reducible rfl) (h := ?_)
  refine ta_ 1 (some 5) (s := hHeld) (y := by rintro w' ⟨s0, s1, s2, s3, s4, s5, s6, s7, s8⟩; go_simp; with_reducible rfl) (h := ?_)
  refine one_ (i := 2) (N := some 6) #[true, true, true, true, false, false, false, false, false] rfl rfl (by kernel_rfl) (by decide) (fun K hK => ?_)
  refine goes_ Tryd.func91 (by kernel_rfl) rfl #[.agg #[.slice A0 l0.length c0, .slice A1 (m + 1) c1, .slice A2 n2 c2, .map mp, .slice At nt ct]] (by rfl) rfl rfl (by simp only [List.map_toArray, List.map_cons, List.map_nil]; rfl) ?_
  refine (last_m A0 A1 A2 At l0.length c0 m c1 n2 c2 nt ct mp _ (by omega)).mono ?_
  rintro e w5 ⟨rfl, hb⟩
  refine ⟨_, rfl, ?_⟩
  have hp5 := blk_below HP.out hb
  have ht5 := blk_below HT2.out hb
  have HB5 := Lib.hid (HBP.out.trans (below_weaken hb HBP.out.size))
  refine hK.out _ _ ⟨(blk_cell hp5 0).trans rfl, (blk_cell hp5 1).trans rfl, (blk_cell hp5 2).trans rfl, (blk_cell hp5 3).trans rfl, (blk_cell hp5 4).trans rfl, (blk_cell ht5 (10 + m * 10 + 6)).trans HX0.out, (blk_cell ht5 (10 + m * 10 + 6 + 1)).trans HX1.out, (blk_cell ht5 (10 + m * 10 + 6 + 2)).trans HX2.out, (blk_cell ht5 (10 + m * 10 + 6 + 3)).trans HX3.out⟩ (fun hHeld => ?_)
  clear hK K
  refine no_ 6 ?_
  refine pu_ 4 (some 8) ?_
  refine pu_ 5 (some 9) ?_
  refine ta_ 6 (some 10) (s := hHeld) (y := by rintro w' ⟨s0, s1, s2, s3, s4, s5, s6, s7, s8⟩; go_simp; with_reducible rfl) (h := ?_)
  refine last_ (i := 7) (N := some 11) #[true, true, true, true, true, true, true, true, false] rfl rfl (by kernel_rfl) (by decide) (fun K hK => ?_)
  refine goes_ Tryd.func90 (by kernel_rfl) rfl #[.agg #[.slice A0 l0.length c0, .slice A1 (m + 1) c1, .slice A2 n2 c2, .map mp, .slice At nt ct], .agg #[.int .i64 x0, .int .i64 x1, .int .i64 x2, .int .i64 x3]] (by rfl) rfl rfl (by simp only [List.map_toArray, List.map_cons, List.map_nil]; rfl) ?_
  refine (HYD.out _ HB5.out).mono ?_
  rintro e w6 ⟨rfl, hb6⟩
  refine ⟨_, rfl, ?_⟩
  have HB6 := Lib.hid (HB5.out.trans (below_weaken hb6 HB5.out.size))
  refine hK.out _ _ ?_
  clear hK K
  refine no_ 11 ?_
  refine pu_ 8 (some 3) ?_
  refine done_ (by kernel_rfl) ?_

  go_wp2
  go_ret
  exact ⟨rfl, HB6.out⟩
set_option maxHeartbeats 4000000 in
set_option maxRecDepth 100000 in
theorem laid1_calls (A0 A1 A2 At : Option Addr) (c0 m c1 n2 c2 nt ct p : Nat) (mp : Option Nat) (l0 : List S92) (t : List Int) (w : World) (hr0 : FRow e92 2 w A0 l0) (hc0 : l0.length ≤ c0) (h4 : l0.length ≤ 4) (hy : ∀ x ∈ l0, 1 ≤ x.f1 ∧ x.f1 ≤ 50) (hm : m < 5)
    (ht : t.length = 60) (hb : ∀ k, k < 4 → 0 ≤ t.getD (10 + m * 10 + 2 + k) 0 ∧ t.getD (10 + m * 10 + 2 + k) 0 ≤ 1000) (hp : w.heap[p]? = some (.cells #[.slice A0 l0.length c0, .slice A1 (m + 1) c1, .slice A2 n2 c2, .map mp, .slice At nt ct] 107 (0, 0))) :
    Calls Tryd.prog 93 #[.agg (encI t).toArray, .pointer (some ⟨p, 0, none⟩)] w fun e w' => e = .returned (.int .i64 (yardsI l0 [t.getD (10 + m * 10 + 2) 0, t.getD (10 + m * 10 + 2 + 1) 0, t.getD (10 + m * 10 + 2 + 2) 0, t.getD (10 + m * 10 + 2 + 3) 0])) ∧ Below w.heap.size w w' := by
  obtain ⟨x0, hx0⟩ : ∃ x, x = t.getD (10 + m * 10 + 2) 0 := ⟨_, rfl⟩
  obtain ⟨x1, hx1⟩ : ∃ x, x = t.getD (10 + m * 10 + 2 + 1) 0 := ⟨_, rfl⟩
  obtain ⟨x2, hx2⟩ : ∃ x, x = t.getD (10 + m * 10 + 2 + 2) 0 := ⟨_, rfl⟩
  obtain ⟨x3, hx3⟩ : ∃ x, x = t.getD (10 + m * 10 + 2 + 3) 0 := ⟨_, rfl⟩
  have b0 := hb 0 (by omega)
  have b1 := hb 1 (by omega)
  have b2 := hb 2 (by omega)
  have b3 := hb 3 (by omega)
  rw [Nat.add_zero] at b0
  rw [← hx0] at b0 ⊢
  rw [← hx1] at b1 ⊢
  rw [← hx2] at b2 ⊢
  rw [← hx3] at b3 ⊢
  have hbb : ∀ k, 0 ≤ ([x0, x1, x2, x3] : List Int).getD k 0 ∧ ([x0, x1, x2, x3] : List Int).getD k 0 ≤ 1000 := by
    intro k
    rcases k with _ | _ | _ | _ | k
    · exact b0
    · exact b1
    · exact b2
    · exact b3
    · simp
  have HYD : Hid (∀ W, Below w.heap.size w W → Calls Tryd.prog 90 #[.agg #[.slice A0 l0.length c0, .slice A1 (m + 1) c1, .slice A2 n2 c2, .map mp, .slice At nt ct], .agg #[.int .i64 x0, .int .i64 x1, .int .i64 x2, .int .i64 x3]] W fun e w' => e = .returned (.int .i64 (yardsI l0 [x0, x1, x2, x3])) ∧ Below W.heap.size W w') :=
    Lib.hid fun W hW => yards_calls A0 A1 A2 At c0 (m + 1) c1 n2 c2 nt ct mp l0 x0 x1 x2 x3 W (hr0.below hW) hc0 h4 hy hbb
  have hxx : ∀ j, j < 60 → (encI t).toArray[j]? = some (.int .i64 (t.getD j 0)) := by
    intro j hj
    have hl : j < t.length := by omega
    rw [List.getD_eq_getElem?_getD, List.getElem?_eq_getElem hl]
    simp [encI, hl]
  have HX0 := Lib.hid (hxx (10 + m * 10 + 2) (by omega))
  have HX1 := Lib.hid (hxx (10 + m * 10 + 2 + 1) (by omega))
  have HX2 := Lib.hid (hxx (10 + m * 10 + 2 + 2) (by omega))
  have HX3 := Lib.hid (hxx (10 + m * 10 + 2 + 3) (by omega))
  rw [← hx0] at HX0
  rw [← hx1] at HX1
  rw [← hx2] at HX2
  rw [← hx3] at HX3
  have HP0 := Lib.hid hp
  have hmi : (m : Int) < 5 := by omega
  clear hr0 hy hb hx0 hx1 hx2 hx3 b0 b1 b2 b3 hbb ht hxx hp
  go_enter Tryd.func93, Tryd.ntmps93
  go_upto_region 1 with fail
  obtain ⟨wP, hwP⟩ : ∃ W, W = w.alloc (.cells (encI t).toArray 123) := ⟨_, rfl⟩
  rw [← hwP]
  have hBP : Below w.heap.size w wP.drew := by rw [hwP]; exact by repeat (first | exact Below.refl _ _ | refine Below.alloc ?_ (by simp <;> omega) _ | refine Below.setCell ?_ (by simp <;> omega) _ | apply Below.drew)
  have HT2 := Lib.hid (show wP.drew.heap[w.heap.size]? = some (.cells (encI t).toArray 123 (0, 0)) by rw [hwP]; exact blk_new _ _)
  have HP := Lib.hid (blk_below HP0.out hBP)
  have HBP := Lib.hid hBP
  clear hwP hBP
  refine start_ (n := 9) (S := fun w' => w'.cell? ⟨p, 0, none⟩ = some (.slice A0 l0.length c0) ∧ w'.cell? ⟨p, 1, none⟩ = some (.slice A1 (m + 1) c1) ∧ w'.cell? ⟨p, 2, none⟩ = some (.slice A2 n2 c2) ∧ w'.cell? ⟨p, 3, none⟩ = some (.map mp) ∧ w'.cell? ⟨p, 4, none⟩ = some (.slice At nt ct) ∧ w'.cell? ⟨w.heap.size, 10 + m * 10 + 2, none⟩ = some (.int .i64 x0) ∧ w'.cell? ⟨w.heap.size, 10 + m * 10 + 2 + 1, none⟩ = some (.int .i64 x1) ∧ w'.cell? ⟨w.heap.size, 10 + m * 10 + 2 + 2, none⟩ = some (.int .i64 x2) ∧ w'.cell? ⟨w.heap.size, 10 + m * 10 + 2 + 3, none⟩ = some (.int .i64 x3)) (ds := [7]) #[false, false, false, false, false, false, false, false, false] (by kernel_rfl) rfl rfl ⟨(blk_cell HP.out 0).trans rfl, (blk_cell HP.out 1).trans rfl, (blk_cell HP.out 2).trans rfl, (blk_cell HP.out 3).trans rfl, (blk_cell HP.out 4).trans rfl, (blk_cell HT2.out (10 + m * 10 + 2)).trans HX0.out, (blk_cell HT2.out (10 + m * 10 + 2 + 1)).trans HX1.out, (blk_cell HT2.out (10 + m * 10 + 2 + 2)).trans HX2.out, (blk_cell HT2.out (10 + m * 10 + 2 + 3)).trans HX3.out⟩ (fun hHeld => ?_)
  refine pu_ 3 (some 7) ?_
  refine ta_ 0 (some 4) (s := hHeld) (y := by rintro w' ⟨s0, s1, s2, s3, s4, s5, s6, s7, s8⟩; go_simp; with_reducible rfl) (h := ?_)
  refine ta_ 1 (some 5) (s := hHeld) (y := by rintro w' ⟨s0, s1, s2, s3, s4, s5, s6, s7, s8⟩; go_simp; with_reducible rfl) (h := ?_)
  refine one_ (i := 2) (N := some 6) #[true, true, true, true, false, false, false, false, false] rfl rfl (by kernel_rfl) (by decide) (fun K hK => ?_)
  refine goes_ Tryd.func91 (by kernel_rfl) rfl #[.agg #[.slice A0 l0.length c0, .slice A1 (m + 1) c1, .slice A2 n2 c2, .map mp, .slice At nt ct]] (by rfl) rfl rfl (by simp only [List.map_toArray, List.map_cons, List.map_nil]; rfl) ?_
  refine (last_m A0 A1 A2 At l0.length c0 m c1 n2 c2 nt ct mp _ (by omega)).mono ?_
  rintro e w5 ⟨rfl, hb⟩
  refine ⟨_, rfl, ?_⟩
  have hp5 := blk_below HP.out hb
  have ht5 := blk_below HT2.out hb
  have HB5 := Lib.hid (HBP.out.trans (below_weaken hb HBP.out.size))
  refine hK.out _ _ ⟨(blk_cell hp5 0).trans rfl, (blk_cell hp5 1).trans rfl, (blk_cell hp5 2).trans rfl, (blk_cell hp5 3).trans rfl, (blk_cell hp5 4).trans rfl, (blk_cell ht5 (10 + m * 10 + 2)).trans HX0.out, (blk_cell ht5 (10 + m * 10 + 2 + 1)).trans HX1.out, (blk_cell ht5 (10 + m * 10 + 2 + 2)).trans HX2.out, (blk_cell ht5 (10 + m * 10 + 2 + 3)).trans HX3.out⟩ (fun hHeld => ?_)
  clear hK K
  refine no_ 6 ?_
  refine pu_ 4 (some 8) ?_
  refine pu_ 5 (some 9) ?_
  refine ta_ 6 (some 10) (s := hHeld) (y := by rintro w' ⟨s0, s1, s2, s3, s4, s5, s6, s7, s8⟩; go_simp; with_reducible rfl) (h := ?_)
  refine last_ (i := 7) (N := some 11) #[true, true, true, true, true, true, true, true, false] rfl rfl (by kernel_rfl) (by decide) (fun K hK => ?_)
  refine goes_ Tryd.func90 (by kernel_rfl) rfl #[.agg #[.slice A0 l0.length c0, .slice A1 (m + 1) c1, .slice A2 n2 c2, .map mp, .slice At nt ct], .agg #[.int .i64 x0, .int .i64 x1, .int .i64 x2, .int .i64 x3]] (by rfl) rfl rfl (by simp only [List.map_toArray, List.map_cons, List.map_nil]; rfl) ?_
  refine (HYD.out _ HB5.out).mono ?_
  rintro e w6 ⟨rfl, hb6⟩
  refine ⟨_, rfl, ?_⟩
  have HB6 := Lib.hid (HB5.out.trans (below_weaken hb6 HB5.out.size))
  refine hK.out _ _ ?_
  clear hK K
  refine no_ 11 ?_
  refine pu_ 8 (some 3) ?_
  refine done_ (by kernel_rfl) ?_

  go_wp2
  go_ret
  exact ⟨rfl, HB6.out⟩
end Go.Proofs.YthgjedagbgmgmaaDoor.Pr
namespace Go.Proofs.YthgjedagbgmgmaaDoor.Pr
open Go.RowKit Go.Proofs.YthgjedagbgmgmaaDoorW.PrintWords Go.Proofs.YthgjedagbgmgmaaDoorW.PrintLast Go.Proofs.YthgjedagbgmgmaaDoorW.PrintMore
set_option linter.unusedVariables false
set_option linter.unusedSimpArgs false
theorem roadFrom_ok {ls : List S92} : ∀ (c : Ch) (r : Rd) (k : Nat), r.Ok ls.length k → (∀ p ∈ c, 0 ≤ p.1 ∧ p.1 ≤ 20) → ∀ x ∈ roadFrom ls c r, x.Ok ls.length (k + c.length : Nat) := by
  intro c
  induction c with
  | nil => intro r k _ _ x hx; simp [roadFrom] at hx
  | cons p c ih =>
    intro r k hr hp x hx
    have h1 := afterR_ok (sky := p.2) hr (by omega) (hp p (by simp)).1 (hp p (by simp)).2
    rcases List.mem_cons.1 hx with rfl | hx
    · exact h1.mono (by simp; omega)
    · have := ih _ (k + 1) (by simpa using h1) (fun q hq => hp q (by simp [hq])) x hx
      exact this.mono (by simp; omega)
theorem ch_wagons {ds : List S90} {c : Ch} (hc : OkCh ds c) (hd : ∀ x ∈ ds, 0 ≤ x.f0.f0 ∧ x.f0.f1 ≤ 20) : ∀ p ∈ c, 0 ≤ p.1 ∧ p.1 ≤ 20 := by
  intro p hp
  obtain ⟨i, hi, rfl⟩ := List.getElem_of_mem hp
  have hi' : i < ds.length := by rw [← hc.1]; exact hi
  have h1 := hc.2 i hi hi'
  have h2 := hd ds[i] (List.getElem_mem hi')
  omega
theorem rdAt_ok {ls : List S92} {ds : List S90} {ks : List S43} (hok : okBook ls ds ks = true) {c : Ch} (hc : OkCh ds c) {d : Nat} (hd : d < ds.length) : (rdAt ls c d).Ok ls.length 5 := by
  obtain ⟨_, _, h5, _, _, h6, _⟩ := ok_facts hok
  have hl : d < (roadFrom ls c r00).length := by rw [roadFrom_length, hc.1]; exact hd
  unfold rdAt
  rw [List.getD_eq_getElem?_getD, List.getElem?_eq_getElem hl]
  have h1 := roadFrom_ok c r00 0 (r00_ok _) (ch_wagons hc fun x hx => ⟨(h6 x hx).1, (h6 x hx).2.2.1⟩) _ (List.getElem_mem hl)
  have hcl := hc.1
  exact h1.mono (by omega)
theorem truths_road {ls : List S92} {ds : List S90} {ks : List S43} {but : List Int} (hok : okBook ls ds ks = true) {d : Nat} (hd : d < ds.length) : ∀ x ∈ truthsAll ls ds ks but, ∀ k, 2 ≤ k → k < 10 → 0 ≤ x.getD (10 + d * 10 + k) 0 ∧ x.getD (10 + d * 10 + k) 0 ≤ 1000 := by
  intro x hx k h2 hk
  rw [truthsAll_good] at hx
  obtain ⟨c, hc, rfl⟩ := List.mem_map.1 hx
  have ho := (mem_good.1 hc).1
  rw [enc0_road ho (ok_facts hok).2.2.1 d hd k hk]
  obtain ⟨g1, g2, g3, g4, ⟨g5, g6⟩, ⟨g7, g8⟩, ⟨g9, g10⟩, ⟨g11, g12⟩, ⟨g13, g14⟩, ⟨g15, g16⟩, ⟨g17, g18⟩, ⟨g19, g20⟩⟩ := rdAt_ok (ls := ls) hok ho hd
  rcases k with _ | _ | _ | _ | _ | _ | _ | _ | _ | _ | k
  · omega
  · omega
  · exact ⟨g5, Int.le_trans g6 (by decide)⟩
  · exact ⟨g7, Int.le_trans g8 (by decide)⟩
  · exact ⟨g9, Int.le_trans g10 (by decide)⟩
  · exact ⟨g11, Int.le_trans g12 (by decide)⟩
  · exact ⟨g13, Int.le_trans g14 (by decide)⟩
  · exact ⟨g15, Int.le_trans g16 (by decide)⟩
  · exact ⟨g17, Int.le_trans g18 (by decide)⟩
  · exact ⟨g19, Int.le_trans g20 (by decide)⟩
  · omega
def lostY (ls : List S92) (ds : List S90) (t : List Int) : Int := yardsI ls [t.getD (10 + (ds.length - 1) * 10 + 6) 0, t.getD (10 + (ds.length - 1) * 10 + 6 + 1) 0, t.getD (10 + (ds.length - 1) * 10 + 6 + 2) 0, t.getD (10 + (ds.length - 1) * 10 + 6 + 3) 0]
def lostF (ls : List S92) (ds : List S90) (ks : List S43) : Int × Int × Int :=
  if askCode ls ds ks true = 0 then ((spanF (lostY ls ds) (truthsAll ls ds ks []) (lostY ls ds ((truthsAll ls ds ks []).headD []))).1, (spanF (lostY ls ds) (truthsAll ls ds ks []) (lostY ls ds ((truthsAll ls ds ks []).headD []))).2, 0) else (0, 0, askCode ls ds ks true)
set_option maxHeartbeats 4000000 in
set_option maxRecDepth 100000 in
theorem lost_calls (A0 A1 A2 : Option Addr) (c0 c1 c2 : Nat) (l0 : List S92) (l1 : List S90) (l2 : List S43) (w : World) (hG : GOK w) (hr0 : Kd.C k92 w A0 l0.length l0) (hc0 : l0.length ≤ c0) (hr1 : Kd.C k90 w A1 l1.length l1) (hc1 : l1.length ≤ c1) (hr2 : Kd.C k43 w A2 l2.length l2) (hc2 : l2.length ≤ c2) :
    Calls Tryd.prog 28 #[.agg #[.slice A0 l0.length c0, .slice A1 l1.length c1, .slice A2 l2.length c2]] w fun e w' => e = .returned (.tuple #[.agg #[.int .i64 (lostF l0 l1 l2).1, .int .i64 (lostF l0 l1 l2).2.1], .int .i64 (lostF l0 l1 l2).2.2]) ∧ Below w.heap.size w w' := by
  have h0 : (l0.length : Int) ≤ 9223372036854775807 := by have := hr0.2.1; omega
  have h1 : (l1.length : Int) ≤ 9223372036854775807 := by have := hr1.2.1; omega
  have h2 : (l2.length : Int) ≤ 9223372036854775807 := by have := hr2.2.1; omega
  have HASK := Lib.hid (ask_calls A0 A1 A2 c0 c1 c2 l0 l1 l2 w hG hr0 hc0 hr1 hc1 hr2 hc2 h0 h1 h2 true)
  have HR0 := Lib.hid (row92 hr0)
  unfold lostF
  obtain ⟨code, hcode⟩ : ∃ c, c = askCode l0 l1 l2 true := ⟨_, rfl⟩
  rw [← hcode]
  rw [← hcode] at HASK
  have HCODE := Lib.hid hcode
  clear hG hr0 hr1 hr2 hcode h0 h1 h2
  by_cases hz : code = 0
  · rw [if_pos hz]
    have ht : (code != 0) = false := by simpa using hz
    obtain ⟨hok, _, hT0⟩ := askCode_zero (HCODE.out.symm.trans hz)
    obtain ⟨o1, o2, o3, o4, o5, o6, o7⟩ := ok_facts hok
    obtain ⟨m, hm⟩ : ∃ m, l1.length = m + 1 := ⟨l1.length - 1, by omega⟩
    obtain ⟨r1, hr1⟩ : ∃ x, x = (spanF (lostY l0 l1) (truthsAll l0 l1 l2 []) (lostY l0 l1 ((truthsAll l0 l1 l2 []).headD []))).1 := ⟨_, rfl⟩
    obtain ⟨r2, hr2⟩ : ∃ x, x = (spanF (lostY l0 l1) (truthsAll l0 l1 l2 []) (lostY l0 l1 ((truthsAll l0 l1 l2 []).headD []))).2 := ⟨_, rfl⟩
    rw [← hr1, ← hr2]
    have HSP : Hid (∀ (B3 : Option Addr) (d3 mm g : Nat) (w6 W : World), Below w.heap.size w w6 → w6.ownsRow w.heap.size 123 60 (.slice B3 (truthsAll l0 l1 l2 []).length d3) (truthsAll l0 l1 l2 []).length ((truthsAll l0 l1 l2 []).flatMap encI) → Below w6.heap.size w6 W → W.heap[g]? = some (.cells #[.slice A0 l0.length c0, .slice A1 l1.length c1, .slice A2 l2.length c2, .map (some mm), .slice B3 (truthsAll l0 l1 l2 []).length d3] 107 (0, 0)) →
        Calls Tryd.prog 82 #[.agg #[.slice A0 l0.length c0, .slice A1 l1.length c1, .slice A2 l2.length c2, .map (some mm), .slice B3 (truthsAll l0 l1 l2 []).length d3], .func (.func 89) #[] #[.pointer (some ⟨g, 0, none⟩)]] W fun e w' => e = .returned (.agg #[.int .i64 r1, .int .i64 r2]) ∧ Below W.heap.size W w') := by
      refine Lib.hid fun B3 d3 mm g w6 W hB6 ho hW hg => ?_
      have ho8 := own_same ho fun k hk => hW.block k (own_lt ho k hk)
      obtain ⟨hF, _, hcd⟩ := frow_own ho8 (truthsAll_60 o3)
      rw [hr1, hr2]
      refine span_89 A0 A1 A2 B3 l0.length c0 l1.length c1 l2.length c2 d3 (some mm) (truthsAll l0 l1 l2 []) (.pointer (some ⟨g, 0, none⟩)) (lostY l0 l1) W hF (truthsAll_60 o3) hT0 hcd (truthsAll_len hok) (fun W' hW' t ht => ?_)
      have hb : ∀ k, k < 4 → 0 ≤ t.getD (10 + m * 10 + 6 + k) 0 ∧ t.getD (10 + m * 10 + 6 + k) 0 ≤ 1000 := fun k hk => by
        have := truths_road hok (by omega : m < l1.length) t ht (6 + k) (by omega) (by omega)
        rwa [← Nat.add_assoc] at this
      have hl := lost1_calls A0 A1 A2 B3 c0 m c1 l2.length c2 (truthsAll l0 l1 l2 []).length d3 g (some mm) l0 t W' ((HR0.out.below hB6).below (hW.trans (below_weaken hW' hW.size))) hc0 o2 (fun x hx => (o7 x hx).2.2) (by omega) (truthsAll_60 o3 t ht) hb (by rw [← hm]; exact blk_below hg hW')
      unfold lostY
      rw [hm, Nat.add_sub_cancel]
      exact hl
    have HZ := Lib.hid hz
    clear hr1 hr2 hz hok o1 o2 o3 o4 o5 o6 o7 hm hT0 HR0
    go_enter Tryd.func28, Tryd.ntmps28
    go_wp2_with fail
    refine (HASK.out _ ?hw).mono ?_
    (case hw => exact by repeat (first | exact Below.refl _ _ | refine Below.alloc ?_ (by simp <;> omega) _ | refine Below.setCell ?_ (by simp <;> omega) _ | apply Below.drew))
    rintro e w6 ⟨v, rfl, hP, hb⟩
    obtain ⟨B0, n0, d0, B1, n1, d1, B2, n2, d2, mp, B3, n3, d3, rfl, hP⟩ := hP
    obtain ⟨rfl, rfl, rfl, rfl, rfl, rfl, rfl, rfl, rfl, rfl, ho, mm, rfl, _, _⟩ := hP HZ.out
    have h20 : w6.heap[w.heap.size + 1]? = some (.cells #[.int .i64 0, .int .i64 0] 32 (0, 0)) := blk_below (blk_at (w.alloc _) (.cells #[.int .i64 0, .int .i64 0] 32) _ (by simp)) hb
    have HO := Lib.hid ho
    have HB6 := Lib.hid ((show Below w.heap.size w _ from by repeat (first | exact Below.refl _ _ | refine Below.alloc ?_ (by simp <;> omega) _ | refine Below.setCell ?_ (by simp <;> omega) _ | apply Below.drew)).trans (below_weaken hb (by simp; omega)))
    have H20 := Lib.hid h20
    have l20 := blk_lt h20
    clear ho hb h20 hP
    go_wp2_with fail
    refine (HSP.out B3 d3 mm _ w6 _ HB6.out HO.out ?hx ?hy).mono ?_
    (case hx => exact by repeat (first | exact Below.refl _ _ | refine Below.alloc ?_ (by simp <;> omega) _ | refine Below.setCell ?_ (by simp <;> omega) _ | apply Below.drew))
    (case hy => first | exact blk_new _ _ | (go_simp; done) | exact blk_put (blk_set (blk_set (blk_set (blk_set (blk_new _ _) 0 _) 1 _) 2 _) 3 _) 4 _ rfl)
    rintro e w9 ⟨rfl, hB9⟩
    have h29 : w9.heap[w.heap.size + 1]? = some (.cells #[.int .i64 0, .int .i64 0] 32 (0, 0)) := blk_below (blk_alloc H20.out _) hB9
    have m0 := (blk_cell h29 0).trans rfl
    have m1 := (blk_cell h29 1).trans rfl
    have q0 := blk_frozen h29 0
    have q1 := blk_frozen h29 1
    have l9 := blk_lt h29
    have H29 := Lib.hid h29
    have hW8 : Below w6.heap.size w6 (w6.alloc (.cells #[.slice B0 l0.length d0, .slice B1 l1.length d1, .slice B2 l2.length d2, .map (some mm), .slice B3 (truthsAll l0 l1 l2 []).length d3] 107)) := by repeat (first | exact Below.refl _ _ | refine Below.alloc ?_ (by simp <;> omega) _ | refine Below.setCell ?_ (by simp <;> omega) _ | apply Below.drew)
    have HB9 := Lib.hid ((HB6.out.trans (below_weaken hW8 HB6.out.size)).trans (below_weaken hB9 (by have := HB6.out.size; simp; omega)))
    clear h29 hB9 hW8
    go_wp2
    refine bodyPost_ret (results_ct rfl _ _ (w.heap.size + 1) 32 #[.int .i64 r1, .int .i64 r2] (0, 0) _ rfl (blk_put (blk_set H29.out 0 (.int .i64 r1)) 1 (.int .i64 r2) rfl) Tryd.underlying32 rfl (by kernel_rfl)) rfl ⟨rfl, (HB9.out.setCell (p := ⟨w.heap.size + 1, 0, none⟩) (by simp) _).setCell (p := ⟨w.heap.size + 1, 1, none⟩) (by simp) _⟩
  · rw [if_neg hz]
    have ht : (code != 0) = true := by simpa using hz
    go_enter Tryd.func28, Tryd.ntmps28
    go_wp2_with fail
    refine (HASK.out _ ?hw).mono ?_
    (case hw => exact by repeat (first | exact Below.refl _ _ | refine Below.alloc ?_ (by simp <;> omega) _ | refine Below.setCell ?_ (by simp <;> omega) _ | apply Below.drew))
    rintro e w6 ⟨v, rfl, hP, hb⟩
    obtain ⟨B0, n0, d0, B1, n1, d1, B2, n2, d2, mp, B3, n3, d3, rfl, hP⟩ := hP
    have h20 : w6.heap[w.heap.size + 1]? = some (.cells #[.int .i64 0, .int .i64 0] 32 (0, 0)) := blk_below (blk_at (w.alloc _) (.cells #[.int .i64 0, .int .i64 0] 32) _ (by simp)) hb
    have hB6 := (show Below w.heap.size w _ from by repeat (first | exact Below.refl _ _ | refine Below.alloc ?_ (by simp <;> omega) _ | refine Below.setCell ?_ (by simp <;> omega) _ | apply Below.drew)).trans (below_weaken hb (by simp; omega))
    have m0 := (blk_cell h20 0).trans rfl
    have m1 := (blk_cell h20 1).trans rfl
    have q0 := blk_frozen h20 0
    have q1 := blk_frozen h20 1
    have l9 := blk_lt h20
    have H20 := Lib.hid h20
    have HB6 := Lib.hid hB6
    clear h20 hB6 hb hP
    go_wp2
    refine bodyPost_ret (results_ct rfl _ _ (w.heap.size + 1) 32 #[.int .i64 0, .int .i64 0] (0, 0) _ rfl (blk_alloc (blk_put (blk_set H20.out 0 (.int .i64 0)) 1 (.int .i64 0) rfl) _) Tryd.underlying32 rfl (by kernel_rfl)) rfl ⟨rfl, ((HB6.out.setCell (p := ⟨w.heap.size + 1, 0, none⟩) (by simp) _).setCell (p := ⟨w.heap.size + 1, 1, none⟩) (by simp) _).alloc (by have := HB6.out.size; simp; omega) _⟩
def laidY (ls : List S92) (ds : List S90) (t : List Int) : Int := yardsI ls [t.getD (10 + (ds.length - 1) * 10 + 2) 0, t.getD (10 + (ds.length - 1) * 10 + 2 + 1) 0, t.getD (10 + (ds.length - 1) * 10 + 2 + 2) 0, t.getD (10 + (ds.length - 1) * 10 + 2 + 3) 0]
def laidF (ls : List S92) (ds : List S90) (ks : List S43) : Int × Int × Int :=
  if askCode ls ds ks true = 0 then ((spanF (laidY ls ds) (truthsAll ls ds ks []) (laidY ls ds ((truthsAll ls ds ks []).headD []))).1, (spanF (laidY ls ds) (truthsAll ls ds ks []) (laidY ls ds ((truthsAll ls ds ks []).headD []))).2, 0) else (0, 0, askCode ls ds ks true)
set_option maxHeartbeats 4000000 in
set_option maxRecDepth 100000 in
theorem laid_calls (A0 A1 A2 : Option Addr) (c0 c1 c2 : Nat) (l0 : List S92) (l1 : List S90) (l2 : List S43) (w : World) (hG : GOK w) (hr0 : Kd.C k92 w A0 l0.length l0) (hc0 : l0.length ≤ c0) (hr1 : Kd.C k90 w A1 l1.length l1) (hc1 : l1.length ≤ c1) (hr2 : Kd.C k43 w A2 l2.length l2) (hc2 : l2.length ≤ c2) :
    Calls Tryd.prog 30 #[.agg #[.slice A0 l0.length c0, .slice A1 l1.length c1, .slice A2 l2.length c2]] w fun e w' => e = .returned (.tuple #[.agg #[.int .i64 (laidF l0 l1 l2).1, .int .i64 (laidF l0 l1 l2).2.1], .int .i64 (laidF l0 l1 l2).2.2]) ∧ Below w.heap.size w w' := by
  have h0 : (l0.length : Int) ≤ 9223372036854775807 := by have := hr0.2.1; omega
  have h1 : (l1.length : Int) ≤ 9223372036854775807 := by have := hr1.2.1; omega
  have h2 : (l2.length : Int) ≤ 9223372036854775807 := by have := hr2.2.1; omega
  have HASK := Lib.hid (ask_calls A0 A1 A2 c0 c1 c2 l0 l1 l2 w hG hr0 hc0 hr1 hc1 hr2 hc2 h0 h1 h2 true)
  have HR0 := Lib.hid (row92 hr0)
  unfold laidF
  obtain ⟨code, hcode⟩ : ∃ c, c = askCode l0 l1 l2 true := ⟨_, rfl⟩
  rw [← hcode]
  rw [← hcode] at HASK
  have HCODE := Lib.hid hcode
  clear hG hr0 hr1 hr2 hcode h0 h1 h2
  by_cases hz : code = 0
  · rw [if_pos hz]
    have ht : (code != 0) = false := by simpa using hz
    obtain ⟨hok, _, hT0⟩ := askCode_zero (HCODE.out.symm.trans hz)
    obtain ⟨o1, o2, o3, o4, o5, o6, o7⟩ := ok_facts hok
    obtain ⟨m, hm⟩ : ∃ m, l1.length = m + 1 := ⟨l1.length - 1, by omega⟩
    obtain ⟨r1, hr1⟩ : ∃ x, x = (spanF (laidY l0 l1) (truthsAll l0 l1 l2 []) (laidY l0 l1 ((truthsAll l0 l1 l2 []).headD []))).1 := ⟨_, rfl⟩
    obtain ⟨r2, hr2⟩ : ∃ x, x = (spanF (laidY l0 l1) (truthsAll l0 l1 l2 []) (laidY l0 l1 ((truthsAll l0 l1 l2 []).headD []))).2 := ⟨_, rfl⟩
    rw [← hr1, ← hr2]
    have HSP : Hid (∀ (B3 : Option Addr) (d3 mm g : Nat) (w6 W : World), Below w.heap.size w w6 → w6.ownsRow w.heap.size 123 60 (.slice B3 (truthsAll l0 l1 l2 []).length d3) (truthsAll l0 l1 l2 []).length ((truthsAll l0 l1 l2 []).flatMap encI) → Below w6.heap.size w6 W → W.heap[g]? = some (.cells #[.slice A0 l0.length c0, .slice A1 l1.length c1, .slice A2 l2.length c2, .map (some mm), .slice B3 (truthsAll l0 l1 l2 []).length d3] 107 (0, 0)) →
        Calls Tryd.prog 82 #[.agg #[.slice A0 l0.length c0, .slice A1 l1.length c1, .slice A2 l2.length c2, .map (some mm), .slice B3 (truthsAll l0 l1 l2 []).length d3], .func (.func 93) #[] #[.pointer (some ⟨g, 0, none⟩)]] W fun e w' => e = .returned (.agg #[.int .i64 r1, .int .i64 r2]) ∧ Below W.heap.size W w') := by
      refine Lib.hid fun B3 d3 mm g w6 W hB6 ho hW hg => ?_
      have ho8 := own_same ho fun k hk => hW.block k (own_lt ho k hk)
      obtain ⟨hF, _, hcd⟩ := frow_own ho8 (truthsAll_60 o3)
      rw [hr1, hr2]
      refine span_93 A0 A1 A2 B3 l0.length c0 l1.length c1 l2.length c2 d3 (some mm) (truthsAll l0 l1 l2 []) (.pointer (some ⟨g, 0, none⟩)) (laidY l0 l1) W hF (truthsAll_60 o3) hT0 hcd (truthsAll_len hok) (fun W' hW' t ht => ?_)
      have hb : ∀ k, k < 4 → 0 ≤ t.getD (10 + m * 10 + 2 + k) 0 ∧ t.getD (10 + m * 10 + 2 + k) 0 ≤ 1000 := fun k hk => by
        have := truths_road hok (by omega : m < l1.length) t ht (2 + k) (by omega) (by omega)
        rwa [← Nat.add_assoc] at this
      have hl := laid1_calls A0 A1 A2 B3 c0 m c1 l2.length c2 (truthsAll l0 l1 l2 []).length d3 g (some mm) l0 t W' ((HR0.out.below hB6).below (hW.trans (below_weaken hW' hW.size))) hc0 o2 (fun x hx => (o7 x hx).2.2) (by omega) (truthsAll_60 o3 t ht) hb (by rw [← hm]; exact blk_below hg hW')
      unfold laidY
      rw [hm, Nat.add_sub_cancel]
      exact hl
    have HZ := Lib.hid hz
    clear hr1 hr2 hz hok o1 o2 o3 o4 o5 o6 o7 hm hT0 HR0
    go_enter Tryd.func30, Tryd.ntmps30
    go_wp2_with fail
    refine (HASK.out _ ?hw).mono ?_
    (case hw => exact by repeat (first | exact Below.refl _ _ | refine Below.alloc ?_ (by simp <;> omega) _ | refine Below.setCell ?_ (by simp <;> omega) _ | apply Below.drew))
    rintro e w6 ⟨v, rfl, hP, hb⟩
    obtain ⟨B0, n0, d0, B1, n1, d1, B2, n2, d2, mp, B3, n3, d3, rfl, hP⟩ := hP
    obtain ⟨rfl, rfl, rfl, rfl, rfl, rfl, rfl, rfl, rfl, rfl, ho, mm, rfl, _, _⟩ := hP HZ.out
    have h20 : w6.heap[w.heap.size + 1]? = some (.cells #[.int .i64 0, .int .i64 0] 32 (0, 0)) := blk_below (blk_at (w.alloc _) (.cells #[.int .i64 0, .int .i64 0] 32) _ (by simp)) hb
    have HO := Lib.hid ho
    have HB6 := Lib.hid ((show Below w.heap.size w _ from by repeat (first | exact Below.refl _ _ | refine Below.alloc ?_ (by simp <;> omega) _ | refine Below.setCell ?_ (by simp <;> omega) _ | apply Below.drew)).trans (below_weaken hb (by simp; omega)))
    have H20 := Lib.hid h20
    have l20 := blk_lt h20
    clear ho hb h20 hP
    go_wp2_with fail
    refine (HSP.out B3 d3 mm _ w6 _ HB6.out HO.out ?hx ?hy).mono ?_
    (case hx => exact by repeat (first | exact Below.refl _ _ | refine Below.alloc ?_ (by simp <;> omega) _ | refine Below.setCell ?_ (by simp <;> omega) _ | apply Below.drew))
    (case hy => first | exact blk_new _ _ | (go_simp; done) | exact blk_put (blk_set (blk_set (blk_set (blk_set (blk_new _ _) 0 _) 1 _) 2 _) 3 _) 4 _ rfl)
    rintro e w9 ⟨rfl, hB9⟩
    have h29 : w9.heap[w.heap.size + 1]? = some (.cells #[.int .i64 0, .int .i64 0] 32 (0, 0)) := blk_below (blk_alloc H20.out _) hB9
    have m0 := (blk_cell h29 0).trans rfl
    have m1 := (blk_cell h29 1).trans rfl
    have q0 := blk_frozen h29 0
    have q1 := blk_frozen h29 1
    have l9 := blk_lt h29
    have H29 := Lib.hid h29
    have hW8 : Below w6.heap.size w6 (w6.alloc (.cells #[.slice B0 l0.length d0, .slice B1 l1.length d1, .slice B2 l2.length d2, .map (some mm), .slice B3 (truthsAll l0 l1 l2 []).length d3] 107)) := by repeat (first | exact Below.refl _ _ | refine Below.alloc ?_ (by simp <;> omega) _ | refine Below.setCell ?_ (by simp <;> omega) _ | apply Below.drew)
    have HB9 := Lib.hid ((HB6.out.trans (below_weaken hW8 HB6.out.size)).trans (below_weaken hB9 (by have := HB6.out.size; simp; omega)))
    clear h29 hB9 hW8
    go_wp2
    refine bodyPost_ret (results_ct rfl _ _ (w.heap.size + 1) 32 #[.int .i64 r1, .int .i64 r2] (0, 0) _ rfl (blk_put (blk_set H29.out 0 (.int .i64 r1)) 1 (.int .i64 r2) rfl) Tryd.underlying32 rfl (by kernel_rfl)) rfl ⟨rfl, (HB9.out.setCell (p := ⟨w.heap.size + 1, 0, none⟩) (by simp) _).setCell (p := ⟨w.heap.size + 1, 1, none⟩) (by simp) _⟩
  · rw [if_neg hz]
    have ht : (code != 0) = true := by simpa using hz
    go_enter Tryd.func30, Tryd.ntmps30
    go_wp2_with fail
    refine (HASK.out _ ?hw).mono ?_
    (case hw => exact by repeat (first | exact Below.refl _ _ | refine Below.alloc ?_ (by simp <;> omega) _ | refine Below.setCell ?_ (by simp <;> omega) _ | apply Below.drew))
    rintro e w6 ⟨v, rfl, hP, hb⟩
    obtain ⟨B0, n0, d0, B1, n1, d1, B2, n2, d2, mp, B3, n3, d3, rfl, hP⟩ := hP
    have h20 : w6.heap[w.heap.size + 1]? = some (.cells #[.int .i64 0, .int .i64 0] 32 (0, 0)) := blk_below (blk_at (w.alloc _) (.cells #[.int .i64 0, .int .i64 0] 32) _ (by simp)) hb
    have hB6 := (show Below w.heap.size w _ from by repeat (first | exact Below.refl _ _ | refine Below.alloc ?_ (by simp <;> omega) _ | refine Below.setCell ?_ (by simp <;> omega) _ | apply Below.drew)).trans (below_weaken hb (by simp; omega))
    have m0 := (blk_cell h20 0).trans rfl
    have m1 := (blk_cell h20 1).trans rfl
    have q0 := blk_frozen h20 0
    have q1 := blk_frozen h20 1
    have l9 := blk_lt h20
    have H20 := Lib.hid h20
    have HB6 := Lib.hid hB6
    clear h20 hB6 hb hP
    go_wp2
    refine bodyPost_ret (results_ct rfl _ _ (w.heap.size + 1) 32 #[.int .i64 0, .int .i64 0] (0, 0) _ rfl (blk_alloc (blk_put (blk_set H20.out 0 (.int .i64 0)) 1 (.int .i64 0) rfl) _) Tryd.underlying32 rfl (by kernel_rfl)) rfl ⟨rfl, ((HB6.out.setCell (p := ⟨w.heap.size + 1, 0, none⟩) (by simp) _).setCell (p := ⟨w.heap.size + 1, 1, none⟩) (by simp) _).alloc (by have := HB6.out.size; simp; omega) _⟩
end Go.Proofs.YthgjedagbgmgmaaDoor.Pr
namespace Go.Proofs.YthgjedagbgmgmaaDoor.Pr
open Go.RowKit Go.Proofs.YthgjedagbgmgmaaDoorW.PrintWords Go.Proofs.YthgjedagbgmgmaaDoorW.PrintLast Go.Proofs.YthgjedagbgmgmaaDoorW.PrintMore
set_option linter.unusedVariables false
set_option linter.unusedSimpArgs false
/-- What is told of the layers that are bound at the end of a day. -/
def bspan (T : List (List Int)) (d : Nat) : Int × Int := spanF (fun t => t.getD (10 + d * 10) 0) T ((T.headD []).getD (10 + d * 10) 0)
/-- The first day of some at which an end is a number. -/
def firstFrom (g : Nat → Int) (n : Int) : Nat → Nat → Int × Int
  | 0, _ => (0, 4)
  | k + 1, d => if g d = n then ((d : Int), 0) else firstFrom g n k (d + 1)
def doneF (ls : List S92) (ds : List S90) (ks : List S43) : Int × Int := if askCode ls ds ks true = 0 then firstFrom (fun d => (bspan (truthsAll ls ds ks []) d).1) ls.length ds.length 0 else (0, askCode ls ds ks true)
def perhapsF (ls : List S92) (ds : List S90) (ks : List S43) : Int × Int := if askCode ls ds ks true = 0 then firstFrom (fun d => (bspan (truthsAll ls ds ks []) d).2) ls.length ds.length 0 else (0, askCode ls ds ks true)
set_option maxHeartbeats 4000000 in
set_option maxRecDepth 100000 in
theorem firstDone_calls (A0 A1 A2 : Option Addr) (c0 c1 c2 : Nat) (l0 : List S92) (l1 : List S90) (l2 : List S43) (w : World) (hG : GOK w) (hr0 : Kd.C k92 w A0 l0.length l0) (hc0 : l0.length ≤ c0) (hr1 : Kd.C k90 w A1 l1.length l1) (hc1 : l1.length ≤ c1) (hr2 : Kd.C k43 w A2 l2.length l2) (hc2 : l2.length ≤ c2) :
    Calls Tryd.prog 94 #[.agg #[.slice A0 l0.length c0, .slice A1 l1.length c1, .slice A2 l2.length c2], .func (.func 95) #[] #[]] w fun e w' => e = .returned (.tuple #[.int .i64 (doneF l0 l1 l2).1, .int .i64 (doneF l0 l1 l2).2]) ∧ Below w.heap.size w w' := by
  have h0 : (l0.length : Int) ≤ 9223372036854775807 := by have := hr0.2.1; omega
  have h1 : (l1.length : Int) ≤ 9223372036854775807 := by have := hr1.2.1; omega
  have h2 : (l2.length : Int) ≤ 9223372036854775807 := by have := hr2.2.1; omega
  have HASK := Lib.hid (ask_calls A0 A1 A2 c0 c1 c2 l0 l1 l2 w hG hr0 hc0 hr1 hc1 hr2 hc2 h0 h1 h2 true)
  unfold doneF
  obtain ⟨code, hcode⟩ : ∃ c, c = askCode l0 l1 l2 true := ⟨_, rfl⟩
  rw [← hcode]
  rw [← hcode] at HASK
  have HCODE := Lib.hid hcode
  clear hG hr0 hr1 hr2 hcode h0 h2
  by_cases hz : code = 0
  · rw [if_pos hz]
    have ht : (code != 0) = false := by simpa using hz
    obtain ⟨hok, _, hT0⟩ := askCode_zero (HCODE.out.symm.trans hz)
    obtain ⟨o1, o2, o3, o4, o5, o6, o7⟩ := ok_facts hok
    have HOK := Lib.hid hok
    have HT0 := Lib.hid hT0
    have HZ := Lib.hid hz
    clear hz hok o5 o6 o7 o1 hT0 h1
    go_enter Tryd.func94, Tryd.ntmps94
    go_wp2_with fail
    refine (HASK.out _ ?hw).mono ?_
    (case hw => exact by repeat (first | exact Below.refl _ _ | refine Below.alloc ?_ (by simp <;> omega) _ | refine Below.setCell ?_ (by simp <;> omega) _ | apply Below.drew))
    rintro e w6 ⟨v, rfl, hP, hb⟩
    obtain ⟨B0, n0, d0, B1, n1, d1, B2, n2, d2, mp, B3, n3, d3, rfl, hP⟩ := hP
    obtain ⟨rfl, rfl, rfl, rfl, rfl, rfl, rfl, rfl, rfl, rfl, ho, mm, rfl, _, _⟩ := hP HZ.out
    have hg2 : w6.heap[w.heap.size]? = some (.cells #[.slice B0 l0.length d0, .slice B1 l1.length d1, .slice B2 l2.length d2] 26 (0, 0)) := blk_below (blk_new w _) hb
    have HB6 := Lib.hid ((show Below w.heap.size w _ from by repeat (first | exact Below.refl _ _ | refine Below.alloc ?_ (by simp <;> omega) _ | refine Below.setCell ?_ (by simp <;> omega) _ | apply Below.drew)).trans (below_weaken hb (by simp)))
    have hF := frow_own ho (truthsAll_60 o3)
    obtain ⟨hF, _, hcd⟩ := hF
    have HSP : Hid (∀ (W : World) (p d : Nat), Below w6.heap.size w6 W → W.cell? ⟨p, 0, none⟩ = some (.int .i64 (d : Int)) → d < 5 →
        Calls Tryd.prog 82 #[.agg #[.slice B0 l0.length d0, .slice B1 l1.length d1, .slice B2 l2.length d2, .map (some mm), .slice B3 (truthsAll l0 l1 l2 []).length d3], .func (.func 127) #[] #[.pointer (some ⟨p, 0, none⟩)]] W fun e w' => e = .returned (.agg #[.int .i64 (bspan (truthsAll l0 l1 l2 []) d).1, .int .i64 (bspan (truthsAll l0 l1 l2 []) d).2]) ∧ Below W.heap.size W w') :=
      Lib.hid fun W p d hW hp hd =>
        span_127 B0 B1 B2 B3 l0.length d0 l1.length d1 l2.length d2 d3 (some mm) (truthsAll l0 l1 l2 []) (.pointer (some ⟨p, 0, none⟩)) (fun t => t.getD (10 + d * 10) 0) W (hF.below hW) (truthsAll_60 o3) HT0.out hcd (truthsAll_len HOK.out) (fun W' hW' t ht =>
          first1_calls t d p W' (truthsAll_60 o3 t ht) hd (Nat.lt_of_lt_of_le (World.block_lt_of_cell? W ⟨p, 0, none⟩ hp) hW'.size) ((hW'.cell (p := ⟨p, 0, none⟩) (World.block_lt_of_cell? W ⟨p, 0, none⟩ hp)).trans hp))
    have HG2 := Lib.hid hg2
    have hg20 := (blk_cell (blk_alloc hg2 (.cells #[.slice B0 l0.length d0, .slice B1 l1.length d1, .slice B2 l2.length d2, .map (some mm), .slice B3 (truthsAll l0 l1 l2 []).length d3] 107)) 1).trans rfl
    have hl2 := blk_lt hg2
    clear hP ho hF hcd hg2 hb
    go_wp2
    clear hg20
    go_loopg [20] (l1.length) (fun gk v20 wr => ∃ (k : Nat), v20 = .int .i64 k ∧ Aside0 (k + gk = l1.length) ∧ Aside0 (firstFrom (fun d => (bspan (truthsAll l0 l1 l2 []) d).1) l0.length l1.length 0 = firstFrom (fun d => (bspan (truthsAll l0 l1 l2 []) d).1) l0.length gk k) ∧ Aside0 (wr.heap[w6.heap.size]? = some (.cells #[.slice B0 l0.length d0, .slice B1 l1.length d1, .slice B2 l2.length d2, .map (some mm), .slice B3 (truthsAll l0 l1 l2 []).length d3] 107 (0, 0))) ∧ Aside0 (wr.heap[w.heap.size]? = some (.cells #[.slice B0 l0.length d0, .slice B1 l1.length d1, .slice B2 l2.length d2] 26 (0, 0))) ∧ Aside0 (Below w6.heap.size w6 wr))
    case atStart => exact ⟨0, rfl, ⟨by omega⟩, ⟨rfl⟩, ⟨blk_new _ _⟩, ⟨blk_alloc HG2.out _⟩, ⟨by repeat (first | exact Below.refl _ _ | refine Below.alloc ?_ (by simp <;> omega) _ | refine Below.setCell ?_ (by simp <;> omega) _ | apply Below.drew)⟩⟩
    case round =>
      obtain ⟨k, rfl, HK, HS, HG6R, HG2R, HBR⟩ := hrel
      cases gk with
      | zero =>
        have hge : ¬ k < l1.length := by have := HK.out; omega
        go_wp2
        go_ret2
        refine ⟨?_, HB6.out.trans (below_weaken HBR.out HB6.out.size)⟩
        rw [HS.out]
        rfl
      | succ g1 =>
        have hlt : k < l1.length := by have := HK.out; omega
        obtain ⟨r1, hr1⟩ : ∃ x, x = (bspan (truthsAll l0 l1 l2 []) k).1 := ⟨_, rfl⟩
        obtain ⟨r2, hr2⟩ : ∃ x, x = (bspan (truthsAll l0 l1 l2 []) k).2 := ⟨_, rfl⟩
        have HSPK : Hid (∀ (W : World), Below w6.heap.size w6 W → W.cell? ⟨wr.heap.size, 0, none⟩ = some (.int .i64 (k : Int)) →
            Calls Tryd.prog 82 #[.agg #[.slice B0 l0.length d0, .slice B1 l1.length d1, .slice B2 l2.length d2, .map (some mm), .slice B3 (truthsAll l0 l1 l2 []).length d3], .func (.func 127) #[] #[.pointer (some ⟨wr.heap.size, 0, none⟩)]] W fun e w' => e = .returned (.agg #[.int .i64 r1, .int .i64 r2]) ∧ Below W.heap.size W w') := by
          refine Lib.hid fun W hW hp => ?_
          rw [hr1, hr2]
          exact HSP.out W wr.heap.size k hW hp (by omega)
        have HR1 := Lib.hid hr1
        have HR2 := Lib.hid hr2
        clear hr1 hr2
        by_cases hs : r1 = (l0.length : Int)
        · have hsb : (r1 == (l0.length : Int)) = true := beq_iff_eq.2 hs
          have HHS := Lib.hid hs
          clear hs
          go_upto_region 7 with fail
          obtain ⟨wP, hwP⟩ : ∃ W, W = wr.alloc (.cells #[.int .i64 (k : Int)] 3) := ⟨_, rfl⟩
          rw [← hwP]
          have hBP : Below wr.heap.size wr wP.drew := by rw [hwP]; exact by repeat (first | exact Below.refl _ _ | refine Below.alloc ?_ (by simp <;> omega) _ | refine Below.setCell ?_ (by simp <;> omega) _ | apply Below.drew)
          have HG6P := Lib.hid (blk_below HG6R.out hBP)
          have HG2P := Lib.hid (blk_below HG2R.out hBP)
          have hq := (show wP.drew.heap[wr.heap.size]? = some (.cells #[.int .i64 (k : Int)] 3 (0, 0)) by rw [hwP]; exact blk_new _ _)
          have HCK := Lib.hid ((blk_cell hq 0).trans rfl)
          have HLP := Lib.hid (blk_lt hq)
          have HBP := Lib.hid (HBR.out.trans (below_weaken hBP HBR.out.size))
          clear hwP hBP hq
          refine start_ (n := 9) (S := fun w' => w'.cell? ⟨w6.heap.size, 0, none⟩ = some (.slice B0 l0.length d0) ∧ w'.cell? ⟨w6.heap.size, 1, none⟩ = some (.slice B1 l1.length d1) ∧ w'.cell? ⟨w6.heap.size, 2, none⟩ = some (.slice B2 l2.length d2) ∧ w'.cell? ⟨w6.heap.size, 3, none⟩ = some (.map (some mm)) ∧ w'.cell? ⟨w6.heap.size, 4, none⟩ = some (.slice B3 (truthsAll l0 l1 l2 []).length d3) ∧ w'.cell? ⟨w.heap.size, 0, none⟩ = some (.slice B0 l0.length d0)) (ds := []) #[false, false, false, false, false, false, false, false, false] (by kernel_rfl) rfl rfl ⟨(blk_cell HG6P.out 0).trans rfl, (blk_cell HG6P.out 1).trans rfl, (blk_cell HG6P.out 2).trans rfl, (blk_cell HG6P.out 3).trans rfl, (blk_cell HG6P.out 4).trans rfl, (blk_cell HG2P.out 0).trans rfl⟩ (fun hHeld => ?_)
          refine pu_ 0 (some 23) ?_
          refine pu_ 2 (some 25) ?_
          refine pu_ 5 (some 28) ?_
          refine ta_ 1 (some 24) (s := hHeld) (y := by rintro w' ⟨s0, s1, s2, s3, s4, s5⟩; go_simp; with_reducible rfl) (h := ?_)
          refine ta_ 6 (some 29) (s := hHeld) (y := by rintro w' ⟨s0, s1, s2, s3, s4, s5⟩; go_simp; with_reducible rfl) (h := ?_)
          refine pu_ 7 (some 30) ?_
          refine one_ (i := 3) (N := some 26) #[true, true, true, true, false, true, true, true, false] rfl rfl (by kernel_rfl) (by decide) (fun K hK => ?_)
          refine goes_ Tryd.func82 (by kernel_rfl) rfl #[.agg #[.slice B0 l0.length d0, .slice B1 l1.length d1, .slice B2 l2.length d2, .map (some mm), .slice B3 (truthsAll l0 l1 l2 []).length d3], .func (.func 127) #[] #[.pointer (some ⟨wr.heap.size, 0, none⟩)]] (by rfl) rfl rfl (by simp only [List.map_toArray, List.map_cons, List.map_nil]; rfl) ?_
          refine (HSPK.out _ HBP.out HCK.out).mono ?_
          rintro e w7 ⟨rfl, hb⟩
          refine ⟨_, rfl, ?_⟩
          have h67 := blk_below HG6P.out hb
          have h27 := blk_below HG2P.out hb
          have hcell7 := (hb.cell (p := ⟨wr.heap.size, 0, none⟩) HLP.out).trans HCK.out
          have HB7 := Lib.hid (HBP.out.trans (below_weaken hb HBP.out.size))
          have hl7 := Nat.lt_of_lt_of_le HLP.out hb.size
          refine hK.out _ _ ⟨(blk_cell h67 0).trans rfl, (blk_cell h67 1).trans rfl, (blk_cell h67 2).trans rfl, (blk_cell h67 3).trans rfl, (blk_cell h67 4).trans rfl, (blk_cell h27 0).trans rfl⟩ (fun hHeld => ?_)
          clear hK K
          refine no_ 26 ?_
          refine one_ (i := 4) (N := some 27) #[true, true, true, true, true, true, true, true, false] rfl rfl (by kernel_rfl) (by decide) (fun K hK => ?_)
          refine goesV_ Tryd.func95 (by kernel_rfl) rfl #[.agg #[.int .i64 r1, .int .i64 r2]] #[] #[] (by rfl) rfl rfl rfl (by simp only [List.map_toArray, List.map_cons, List.map_nil]; rfl) ?_
          refine (done1_calls r1 r2 _).mono ?_
          rintro e w8 ⟨rfl, hb8⟩
          refine ⟨_, rfl, ?_⟩
          have h68 := blk_below h67 hb8
          have h28 := blk_below h27 hb8
          have hcell8 := (hb8.cell (p := ⟨wr.heap.size, 0, none⟩) hl7).trans hcell7
          have HB8 := Lib.hid (HB7.out.trans (below_weaken hb8 HB7.out.size))
          refine hK.out _ _ ⟨(blk_cell h68 0).trans rfl, (blk_cell h68 1).trans rfl, (blk_cell h68 2).trans rfl, (blk_cell h68 3).trans rfl, (blk_cell h68 4).trans rfl, (blk_cell h28 0).trans rfl⟩ (fun hHeld => ?_)
          clear hK K
          refine no_ 27 ?_
          refine pu_ 8 (some 31) ?_
          refine done_ (by kernel_rfl) ?_

          go_wp2
          go_ret2
          refine ⟨?_, HB6.out.trans (below_weaken HB8.out HB6.out.size)⟩
          rw [HS.out]
          show _ = Ending.returned (.tuple #[.int .i64 (if _ = _ then _ else _ : Int × Int).1, .int .i64 (if _ = _ then _ else _ : Int × Int).2])
          rw [if_pos (HR1.out.symm.trans HHS.out)]
          rfl
        · have hsb : (r1 == (l0.length : Int)) = false := beq_eq_false_iff_ne.2 hs
          have HHS := Lib.hid hs
          clear hs
          go_upto_region 7 with fail
          obtain ⟨wP, hwP⟩ : ∃ W, W = wr.alloc (.cells #[.int .i64 (k : Int)] 3) := ⟨_, rfl⟩
          rw [← hwP]
          have hBP : Below wr.heap.size wr wP.drew := by rw [hwP]; exact by repeat (first | exact Below.refl _ _ | refine Below.alloc ?_ (by simp <;> omega) _ | refine Below.setCell ?_ (by simp <;> omega) _ | apply Below.drew)
          have HG6P := Lib.hid (blk_below HG6R.out hBP)
          have HG2P := Lib.hid (blk_below HG2R.out hBP)
          have hq := (show wP.drew.heap[wr.heap.size]? = some (.cells #[.int .i64 (k : Int)] 3 (0, 0)) by rw [hwP]; exact blk_new _ _)
          have HCK := Lib.hid ((blk_cell hq 0).trans rfl)
          have HLP := Lib.hid (blk_lt hq)
          have HBP := Lib.hid (HBR.out.trans (below_weaken hBP HBR.out.size))
          clear hwP hBP hq
          refine start_ (n := 9) (S := fun w' => w'.cell? ⟨w6.heap.size, 0, none⟩ = some (.slice B0 l0.length d0) ∧ w'.cell? ⟨w6.heap.size, 1, none⟩ = some (.slice B1 l1.length d1) ∧ w'.cell? ⟨w6.heap.size, 2, none⟩ = some (.slice B2 l2.length d2) ∧ w'.cell? ⟨w6.heap.size, 3, none⟩ = some (.map (some mm)) ∧ w'.cell? ⟨w6.heap.size, 4, none⟩ = some (.slice B3 (truthsAll l0 l1 l2 []).length d3) ∧ w'.cell? ⟨w.heap.size, 0, none⟩ = some (.slice B0 l0.length d0)) (ds := []) #[false, false, false, false, false, false, false, false, false] (by kernel_rfl) rfl rfl ⟨(blk_cell HG6P.out 0).trans rfl, (blk_cell HG6P.out 1).trans rfl, (blk_cell HG6P.out 2).trans rfl, (blk_cell HG6P.out 3).trans rfl, (blk_cell HG6P.out 4).trans rfl, (blk_cell HG2P.out 0).trans rfl⟩ (fun hHeld => ?_)
          refine pu_ 0 (some 23) ?_
          refine pu_ 2 (some 25) ?_
          refine pu_ 5 (some 28) ?_
          refine ta_ 1 (some 24) (s := hHeld) (y := by rintro w' ⟨s0, s1, s2, s3, s4, s5⟩; go_simp; with_reducible rfl) (h := ?_)
          refine ta_ 6 (some 29) (s := hHeld) (y := by rintro w' ⟨s0, s1, s2, s3, s4, s5⟩; go_simp; with_reducible rfl) (h := ?_)
          refine pu_ 7 (some 30) ?_
          refine one_ (i := 3) (N := some 26) #[true, true, true, true, false, true, true, true, false] rfl rfl (by kernel_rfl) (by decide) (fun K hK => ?_)
          refine goes_ Tryd.func82 (by kernel_rfl) rfl #[.agg #[.slice B0 l0.length d0, .slice B1 l1.length d1, .slice B2 l2.length d2, .map (some mm), .slice B3 (truthsAll l0 l1 l2 []).length d3], .func (.func 127) #[] #[.pointer (some ⟨wr.heap.size, 0, none⟩)]] (by rfl) rfl rfl (by simp only [List.map_toArray, List.map_cons, List.map_nil]; rfl) ?_
          refine (HSPK.out _ HBP.out HCK.out).mono ?_
          rintro e w7 ⟨rfl, hb⟩
          refine ⟨_, rfl, ?_⟩
          have h67 := blk_below HG6P.out hb
          have h27 := blk_below HG2P.out hb
          have hcell7 := (hb.cell (p := ⟨wr.heap.size, 0, none⟩) HLP.out).trans HCK.out
          have HB7 := Lib.hid (HBP.out.trans (below_weaken hb HBP.out.size))
          have hl7 := Nat.lt_of_lt_of_le HLP.out hb.size
          refine hK.out _ _ ⟨(blk_cell h67 0).trans rfl, (blk_cell h67 1).trans rfl, (blk_cell h67 2).trans rfl, (blk_cell h67 3).trans rfl, (blk_cell h67 4).trans rfl, (blk_cell h27 0).trans rfl⟩ (fun hHeld => ?_)
          clear hK K
          refine no_ 26 ?_
          refine one_ (i := 4) (N := some 27) #[true, true, true, true, true, true, true, true, false] rfl rfl (by kernel_rfl) (by decide) (fun K hK => ?_)
          refine goesV_ Tryd.func95 (by kernel_rfl) rfl #[.agg #[.int .i64 r1, .int .i64 r2]] #[] #[] (by rfl) rfl rfl rfl (by simp only [List.map_toArray, List.map_cons, List.map_nil]; rfl) ?_
          refine (done1_calls r1 r2 _).mono ?_
          rintro e w8 ⟨rfl, hb8⟩
          refine ⟨_, rfl, ?_⟩
          have h68 := blk_below h67 hb8
          have h28 := blk_below h27 hb8
          have hcell8 := (hb8.cell (p := ⟨wr.heap.size, 0, none⟩) hl7).trans hcell7
          have HB8 := Lib.hid (HB7.out.trans (below_weaken hb8 HB7.out.size))
          refine hK.out _ _ ⟨(blk_cell h68 0).trans rfl, (blk_cell h68 1).trans rfl, (blk_cell h68 2).trans rfl, (blk_cell h68 3).trans rfl, (blk_cell h68 4).trans rfl, (blk_cell h28 0).trans rfl⟩ (fun hHeld => ?_)
          clear hK K
          refine no_ 27 ?_
          refine pu_ 8 (some 31) ?_
          refine done_ (by kernel_rfl) ?_

          go_wp2
          go_roundg g1
          case measure => omega
          case rel =>
            refine ⟨k + 1, by go_num, ⟨by have := HK.out; omega⟩, ⟨?_⟩, ⟨h68⟩, ⟨h28⟩, ⟨HB8.out⟩⟩
            rw [HS.out]
            show (if _ = _ then _ else _) = _
            rw [if_neg (fun e => HHS.out (HR1.out.trans e))]
  · rw [if_neg hz]
    have ht : (code != 0) = true := by simpa using hz
    go_enter Tryd.func94, Tryd.ntmps94
    go_wp2_with fail
    refine (HASK.out _ ?hw).mono ?_
    (case hw => exact by repeat (first | exact Below.refl _ _ | refine Below.alloc ?_ (by simp <;> omega) _ | refine Below.setCell ?_ (by simp <;> omega) _ | apply Below.drew))
    rintro e w6 ⟨v, rfl, hP, hb⟩
    obtain ⟨B0, n0, d0, B1, n1, d1, B2, n2, d2, mp, B3, n3, d3, rfl, hP⟩ := hP
    have HB6 := Lib.hid ((show Below w.heap.size w _ from by repeat (first | exact Below.refl _ _ | refine Below.alloc ?_ (by simp <;> omega) _ | refine Below.setCell ?_ (by simp <;> omega) _ | apply Below.drew)).trans (below_weaken hb (by simp)))
    clear hb hP
    go_wp2
    go_ret2
    exact ⟨rfl, HB6.out.alloc HB6.out.size _⟩
set_option maxHeartbeats 4000000 in
set_option maxRecDepth 100000 in
theorem firstPerhaps_calls (A0 A1 A2 : Option Addr) (c0 c1 c2 : Nat) (l0 : List S92) (l1 : List S90) (l2 : List S43) (w : World) (hG : GOK w) (hr0 : Kd.C k92 w A0 l0.length l0) (hc0 : l0.length ≤ c0) (hr1 : Kd.C k90 w A1 l1.length l1) (hc1 : l1.length ≤ c1) (hr2 : Kd.C k43 w A2 l2.length l2) (hc2 : l2.length ≤ c2) :
    Calls Tryd.prog 94 #[.agg #[.slice A0 l0.length c0, .slice A1 l1.length c1, .slice A2 l2.length c2], .func (.func 97) #[] #[]] w fun e w' => e = .returned (.tuple #[.int .i64 (perhapsF l0 l1 l2).1, .int .i64 (perhapsF l0 l1 l2).2]) ∧ Below w.heap.size w w' := by
  have h0 : (l0.length : Int) ≤ 9223372036854775807 := by have := hr0.2.1; omega
  have h1 : (l1.length : Int) ≤ 9223372036854775807 := by have := hr1.2.1; omega
  have h2 : (l2.length : Int) ≤ 9223372036854775807 := by have := hr2.2.1; omega
  have HASK := Lib.hid (ask_calls A0 A1 A2 c0 c1 c2 l0 l1 l2 w hG hr0 hc0 hr1 hc1 hr2 hc2 h0 h1 h2 true)
  unfold perhapsF
  obtain ⟨code, hcode⟩ : ∃ c, c = askCode l0 l1 l2 true := ⟨_, rfl⟩
  rw [← hcode]
  rw [← hcode] at HASK
  have HCODE := Lib.hid hcode
  clear hG hr0 hr1 hr2 hcode h0 h2
  by_cases hz : code = 0
  · rw [if_pos hz]
    have ht : (code != 0) = false := by simpa using hz
    obtain ⟨hok, _, hT0⟩ := askCode_zero (HCODE.out.symm.trans hz)
    obtain ⟨o1, o2, o3, o4, o5, o6, o7⟩ := ok_facts hok
    have HOK := Lib.hid hok
    have HT0 := Lib.hid hT0
    have HZ := Lib.hid hz
    clear hz hok o5 o6 o7 o1 hT0 h1
    go_enter Tryd.func94, Tryd.ntmps94
    go_wp2_with fail
    refine (HASK.out _ ?hw).mono ?_
    (case hw => exact by repeat (first | exact Below.refl _ _ | refine Below.alloc ?_ (by simp <;> omega) _ | refine Below.setCell ?_ (by simp <;> omega) _ | apply Below.drew))
    rintro e w6 ⟨v, rfl, hP, hb⟩
    obtain ⟨B0, n0, d0, B1, n1, d1, B2, n2, d2, mp, B3, n3, d3, rfl, hP⟩ := hP
    obtain ⟨rfl, rfl, rfl, rfl, rfl, rfl, rfl, rfl, rfl, rfl, ho, mm, rfl, _, _⟩ := hP HZ.out
    have hg2 : w6.heap[w.heap.size]? = some (.cells #[.slice B0 l0.length d0, .slice B1 l1.length d1, .slice B2 l2.length d2] 26 (0, 0)) := blk_below (blk_new w _) hb
    have HB6 := Lib.hid ((show Below w.heap.size w _ from by repeat (first | exact Below.refl _ _ | refine Below.alloc ?_ (by simp <;> omega) _ | refine Below.setCell ?_ (by simp <;> omega) _ | apply Below.drew)).trans (below_weaken hb (by simp)))
    have hF := frow_own ho (truthsAll_60 o3)
    obtain ⟨hF, _, hcd⟩ := hF
    have HSP : Hid (∀ (W : World) (p d : Nat), Below w6.heap.size w6 W → W.cell? ⟨p, 0, none⟩ = some (.int .i64 (d : Int)) → d < 5 →
        Calls Tryd.prog 82 #[.agg #[.slice B0 l0.length d0, .slice B1 l1.length d1, .slice B2 l2.length d2, .map (some mm), .slice B3 (truthsAll l0 l1 l2 []).length d3], .func (.func 127) #[] #[.pointer (some ⟨p, 0, none⟩)]] W fun e w' => e = .returned (.agg #[.int .i64 (bspan (truthsAll l0 l1 l2 []) d).1, .int .i64 (bspan (truthsAll l0 l1 l2 []) d).2]) ∧ Below W.heap.size W w') :=
      Lib.hid fun W p d hW hp hd =>
        span_127 B0 B1 B2 B3 l0.length d0 l1.length d1 l2.length d2 d3 (some mm) (truthsAll l0 l1 l2 []) (.pointer (some ⟨p, 0, none⟩)) (fun t => t.getD (10 + d * 10) 0) W (hF.below hW) (truthsAll_60 o3) HT0.out hcd (truthsAll_len HOK.out) (fun W' hW' t ht =>
          first1_calls t d p W' (truthsAll_60 o3 t ht) hd (Nat.lt_of_lt_of_le (World.block_lt_of_cell? W ⟨p, 0, none⟩ hp) hW'.size) ((hW'.cell (p := ⟨p, 0, none⟩) (World.block_lt_of_cell? W ⟨p, 0, none⟩ hp)).trans hp))
    have HG2 := Lib.hid hg2
    have hg20 := (blk_cell (blk_alloc hg2 (.cells #[.slice B0 l0.length d0, .slice B1 l1.length d1, .slice B2 l2.length d2, .map (some mm), .slice B3 (truthsAll l0 l1 l2 []).length d3] 107)) 1).trans rfl
    have hl2 := blk_lt hg2
    clear hP ho hF hcd hg2 hb
    go_wp2
    clear hg20
    go_loopg [20] (l1.length) (fun gk v20 wr => ∃ (k : Nat), v20 = .int .i64 k ∧ Aside0 (k + gk = l1.length) ∧ Aside0 (firstFrom (fun d => (bspan (truthsAll l0 l1 l2 []) d).2) l0.length l1.length 0 = firstFrom (fun d => (bspan (truthsAll l0 l1 l2 []) d).2) l0.length gk k) ∧ Aside0 (wr.heap[w6.heap.size]? = some (.cells #[.slice B0 l0.length d0, .slice B1 l1.length d1, .slice B2 l2.length d2, .map (some mm), .slice B3 (truthsAll l0 l1 l2 []).length d3] 107 (0, 0))) ∧ Aside0 (wr.heap[w.heap.size]? = some (.cells #[.slice B0 l0.length d0, .slice B1 l1.length d1, .slice B2 l2.length d2] 26 (0, 0))) ∧ Aside0 (Below w6.heap.size w6 wr))
    case atStart => exact ⟨0, rfl, ⟨by omega⟩, ⟨rfl⟩, ⟨blk_new _ _⟩, ⟨blk_alloc HG2.out _⟩, ⟨by repeat (first | exact Below.refl _ _ | refine Below.alloc ?_ (by simp <;> omega) _ | refine Below.setCell ?_ (by simp <;> omega) _ | apply Below.drew)⟩⟩
    case round =>
      obtain ⟨k, rfl, HK, HS, HG6R, HG2R, HBR⟩ := hrel
      cases gk with
      | zero =>
        have hge : ¬ k < l1.length := by have := HK.out; omega
        go_wp2
        go_ret2
        refine ⟨?_, HB6.out.trans (below_weaken HBR.out HB6.out.size)⟩
        rw [HS.out]
        rfl
      | succ g1 =>
        have hlt : k < l1.length := by have := HK.out; omega
        obtain ⟨r1, hr1⟩ : ∃ x, x = (bspan (truthsAll l0 l1 l2 []) k).1 := ⟨_, rfl⟩
        obtain ⟨r2, hr2⟩ : ∃ x, x = (bspan (truthsAll l0 l1 l2 []) k).2 := ⟨_, rfl⟩
        have HSPK : Hid (∀ (W : World), Below w6.heap.size w6 W → W.cell? ⟨wr.heap.size, 0, none⟩ = some (.int .i64 (k : Int)) →
            Calls Tryd.prog 82 #[.agg #[.slice B0 l0.length d0, .slice B1 l1.length d1, .slice B2 l2.length d2, .map (some mm), .slice B3 (truthsAll l0 l1 l2 []).length d3], .func (.func 127) #[] #[.pointer (some ⟨wr.heap.size, 0, none⟩)]] W fun e w' => e = .returned (.agg #[.int .i64 r1, .int .i64 r2]) ∧ Below W.heap.size W w') := by
          refine Lib.hid fun W hW hp => ?_
          rw [hr1, hr2]
          exact HSP.out W wr.heap.size k hW hp (by omega)
        have HR1 := Lib.hid hr1
        have HR2 := Lib.hid hr2
        clear hr1 hr2
        by_cases hs : r2 = (l0.length : Int)
        · have hsb : (r2 == (l0.length : Int)) = true := beq_iff_eq.2 hs
          have HHS := Lib.hid hs
          clear hs
          go_upto_region 7 with fail
          obtain ⟨wP, hwP⟩ : ∃ W, W = wr.alloc (.cells #[.int .i64 (k : Int)] 3) := ⟨_, rfl⟩
          rw [← hwP]
          have hBP : Below wr.heap.size wr wP.drew := by rw [hwP]; exact by repeat (first | exact Below.refl _ _ | refine Below.alloc ?_ (by simp <;> omega) _ | refine Below.setCell ?_ (by simp <;> omega) _ | apply Below.drew)
          have HG6P := Lib.hid (blk_below HG6R.out hBP)
          have HG2P := Lib.hid (blk_below HG2R.out hBP)
          have hq := (show wP.drew.heap[wr.heap.size]? = some (.cells #[.int .i64 (k : Int)] 3 (0, 0)) by rw [hwP]; exact blk_new _ _)
          have HCK := Lib.hid ((blk_cell hq 0).trans rfl)
          have HLP := Lib.hid (blk_lt hq)
          have HBP := Lib.hid (HBR.out.trans (below_weaken hBP HBR.out.size))
          clear hwP hBP hq
          refine start_ (n := 9) (S := fun w' => w'.cell? ⟨w6.heap.size, 0, none⟩ = some (.slice B0 l0.length d0) ∧ w'.cell? ⟨w6.heap.size, 1, none⟩ = some (.slice B1 l1.length d1) ∧ w'.cell? ⟨w6.heap.size, 2, none⟩ = some (.slice B2 l2.length d2) ∧ w'.cell? ⟨w6.heap.size, 3, none⟩ = some (.map (some mm)) ∧ w'.cell? ⟨w6.heap.size, 4, none⟩ = some (.slice B3 (truthsAll l0 l1 l2 []).length d3) ∧ w'.cell? ⟨w.heap.size, 0, none⟩ = some (.slice B0 l0.length d0)) (ds := []) #[false, false, false, false, false, false, false, false, false] (by kernel_rfl) rfl rfl ⟨(blk_cell HG6P.out 0).trans rfl, (blk_cell HG6P.out 1).trans rfl, (blk_cell HG6P.out 2).trans rfl, (blk_cell HG6P.out 3).trans rfl, (blk_cell HG6P.out 4).trans rfl, (blk_cell HG2P.out 0).trans rfl⟩ (fun hHeld => ?_)
          refine pu_ 0 (some 23) ?_
          refine pu_ 2 (some 25) ?_
          refine pu_ 5 (some 28) ?_
          refine ta_ 1 (some 24) (s := hHeld) (y := by rintro w' ⟨s0, s1, s2, s3, s4, s5⟩; go_simp; with_reducible rfl) (h := ?_)
          refine ta_ 6 (some 29) (s := hHeld) (y := by rintro w' ⟨s0, s1, s2, s3, s4, s5⟩; go_simp; with_reducible rfl) (h := ?_)
          refine pu_ 7 (some 30) ?_
          refine one_ (i := 3) (N := some 26) #[true, true, true, true, false, true, true, true, false] rfl rfl (by kernel_rfl) (by decide) (fun K hK => ?_)
          refine goes_ Tryd.func82 (by kernel_rfl) rfl #[.agg #[.slice B0 l0.length d0, .slice B1 l1.length d1, .slice B2 l2.length d2, .map (some mm), .slice B3 (truthsAll l0 l1 l2 []).length d3], .func (.func 127) #[] #[.pointer (some ⟨wr.heap.size, 0, none⟩)]] (by rfl) rfl rfl (by simp only [List.map_toArray, List.map_cons, List.map_nil]; rfl) ?_
          refine (HSPK.out _ HBP.out HCK.out).mono ?_
          rintro e w7 ⟨rfl, hb⟩
          refine ⟨_, rfl, ?_⟩
          have h67 := blk_below HG6P.out hb
          have h27 := blk_below HG2P.out hb
          have hcell7 := (hb.cell (p := ⟨wr.heap.size, 0, none⟩) HLP.out).trans HCK.out
          have HB7 := Lib.hid (HBP.out.trans (below_weaken hb HBP.out.size))
          have hl7 := Nat.lt_of_lt_of_le HLP.out hb.size
          refine hK.out _ _ ⟨(blk_cell h67 0).trans rfl, (blk_cell h67 1).trans rfl, (blk_cell h67 2).trans rfl, (blk_cell h67 3).trans rfl, (blk_cell h67 4).trans rfl, (blk_cell h27 0).trans rfl⟩ (fun hHeld => ?_)
          clear hK K
          refine no_ 26 ?_
          refine one_ (i := 4) (N := some 27) #[true, true, true, true, true, true, true, true, false] rfl rfl (by kernel_rfl) (by decide) (fun K hK => ?_)
          refine goesV_ Tryd.func97 (by kernel_rfl) rfl #[.agg #[.int .i64 r1, .int .i64 r2]] #[] #[] (by rfl) rfl rfl rfl (by simp only [List.map_toArray, List.map_cons, List.map_nil]; rfl) ?_
          refine (perhaps1_calls r1 r2 _).mono ?_
          rintro e w8 ⟨rfl, hb8⟩
          refine ⟨_, rfl, ?_⟩
          have h68 := blk_below h67 hb8
          have h28 := blk_below h27 hb8
          have hcell8 := (hb8.cell (p := ⟨wr.heap.size, 0, none⟩) hl7).trans hcell7
          have HB8 := Lib.hid (HB7.out.trans (below_weaken hb8 HB7.out.size))
          refine hK.out _ _ ⟨(blk_cell h68 0).trans rfl, (blk_cell h68 1).trans rfl, (blk_cell h68 2).trans rfl, (blk_cell h68 3).trans rfl, (blk_cell h68 4).trans rfl, (blk_cell h28 0).trans rfl⟩ (fun hHeld => ?_)
          clear hK K
          refine no_ 27 ?_
          refine pu_ 8 (some 31) ?_
          refine done_ (by kernel_rfl) ?_

          go_wp2
          go_ret2
          refine ⟨?_, HB6.out.trans (below_weaken HB8.out HB6.out.size)⟩
          rw [HS.out]
          show _ = Ending.returned (.tuple #[.int .i64 (if _ = _ then _ else _ : Int × Int).1, .int .i64 (if _ = _ then _ else _ : Int × Int).2])
          rw [if_pos (HR2.out.symm.trans HHS.out)]
          rfl
        · have hsb : (r2 == (l0.length : Int)) = false := beq_eq_false_iff_ne.2 hs
          have HHS := Lib.hid hs
          clear hs
          go_upto_region 7 with fail
          obtain ⟨wP, hwP⟩ : ∃ W, W = wr.alloc (.cells #[.int .i64 (k : Int)] 3) := ⟨_, rfl⟩
          rw [← hwP]
          have hBP : Below wr.heap.size wr wP.drew := by rw [hwP]; exact by repeat (first | exact Below.refl _ _ | refine Below.alloc ?_ (by simp <;> omega) _ | refine Below.setCell ?_ (by simp <;> omega) _ | apply Below.drew)
          have HG6P := Lib.hid (blk_below HG6R.out hBP)
          have HG2P := Lib.hid (blk_below HG2R.out hBP)
          have hq := (show wP.drew.heap[wr.heap.size]? = some (.cells #[.int .i64 (k : Int)] 3 (0, 0)) by rw [hwP]; exact blk_new _ _)
          have HCK := Lib.hid ((blk_cell hq 0).trans rfl)
          have HLP := Lib.hid (blk_lt hq)
          have HBP := Lib.hid (HBR.out.trans (below_weaken hBP HBR.out.size))
          clear hwP hBP hq
          refine start_ (n := 9) (S := fun w' => w'.cell? ⟨w6.heap.size, 0, none⟩ = some (.slice B0 l0.length d0) ∧ w'.cell? ⟨w6.heap.size, 1, none⟩ = some (.slice B1 l1.length d1) ∧ w'.cell? ⟨w6.heap.size, 2, none⟩ = some (.slice B2 l2.length d2) ∧ w'.cell? ⟨w6.heap.size, 3, none⟩ = some (.map (some mm)) ∧ w'.cell? ⟨w6.heap.size, 4, none⟩ = some (.slice B3 (truthsAll l0 l1 l2 []).length d3) ∧ w'.cell? ⟨w.heap.size, 0, none⟩ = some (.slice B0 l0.length d0)) (ds := []) #[false, false, false, false, false, false, false, false, false] (by kernel_rfl) rfl rfl ⟨(blk_cell HG6P.out 0).trans rfl, (blk_cell HG6P.out 1).trans rfl, (blk_cell HG6P.out 2).trans rfl, (blk_cell HG6P.out 3).trans rfl, (blk_cell HG6P.out 4).trans rfl, (blk_cell HG2P.out 0).trans rfl⟩ (fun hHeld => ?_)
          refine pu_ 0 (some 23) ?_
          refine pu_ 2 (some 25) ?_
          refine pu_ 5 (some 28) ?_
          refine ta_ 1 (some 24) (s := hHeld) (y := by rintro w' ⟨s0, s1, s2, s3, s4, s5⟩; go_simp; with_reducible rfl) (h := ?_)
          refine ta_ 6 (some 29) (s := hHeld) (y := by rintro w' ⟨s0, s1, s2, s3, s4, s5⟩; go_simp; with_reducible rfl) (h := ?_)
          refine pu_ 7 (some 30) ?_
          refine one_ (i := 3) (N := some 26) #[true, true, true, true, false, true, true, true, false] rfl rfl (by kernel_rfl) (by decide) (fun K hK => ?_)
          refine goes_ Tryd.func82 (by kernel_rfl) rfl #[.agg #[.slice B0 l0.length d0, .slice B1 l1.length d1, .slice B2 l2.length d2, .map (some mm), .slice B3 (truthsAll l0 l1 l2 []).length d3], .func (.func 127) #[] #[.pointer (some ⟨wr.heap.size, 0, none⟩)]] (by rfl) rfl rfl (by simp only [List.map_toArray, List.map_cons, List.map_nil]; rfl) ?_
          refine (HSPK.out _ HBP.out HCK.out).mono ?_
          rintro e w7 ⟨rfl, hb⟩
          refine ⟨_, rfl, ?_⟩
          have h67 := blk_below HG6P.out hb
          have h27 := blk_below HG2P.out hb
          have hcell7 := (hb.cell (p := ⟨wr.heap.size, 0, none⟩) HLP.out).trans HCK.out
          have HB7 := Lib.hid (HBP.out.trans (below_weaken hb HBP.out.size))
          have hl7 := Nat.lt_of_lt_of_le HLP.out hb.size
          refine hK.out _ _ ⟨(blk_cell h67 0).trans rfl, (blk_cell h67 1).trans rfl, (blk_cell h67 2).trans rfl, (blk_cell h67 3).trans rfl, (blk_cell h67 4).trans rfl, (blk_cell h27 0).trans rfl⟩ (fun hHeld => ?_)
          clear hK K
          refine no_ 26 ?_
          refine one_ (i := 4) (N := some 27) #[true, true, true, true, true, true, true, true, false] rfl rfl (by kernel_rfl) (by decide) (fun K hK => ?_)
          refine goesV_ Tryd.func97 (by kernel_rfl) rfl #[.agg #[.int .i64 r1, .int .i64 r2]] #[] #[] (by rfl) rfl rfl rfl (by simp only [List.map_toArray, List.map_cons, List.map_nil]; rfl) ?_
          refine (perhaps1_calls r1 r2 _).mono ?_
          rintro e w8 ⟨rfl, hb8⟩
          refine ⟨_, rfl, ?_⟩
          have h68 := blk_below h67 hb8
          have h28 := blk_below h27 hb8
          have hcell8 := (hb8.cell (p := ⟨wr.heap.size, 0, none⟩) hl7).trans hcell7
          have HB8 := Lib.hid (HB7.out.trans (below_weaken hb8 HB7.out.size))
          refine hK.out _ _ ⟨(blk_cell h68 0).trans rfl, (blk_cell h68 1).trans rfl, (blk_cell h68 2).trans rfl, (blk_cell h68 3).trans rfl, (blk_cell h68 4).trans rfl, (blk_cell h28 0).trans rfl⟩ (fun hHeld => ?_)
          clear hK K
          refine no_ 27 ?_
          refine pu_ 8 (some 31) ?_
          refine done_ (by kernel_rfl) ?_

          go_wp2
          go_roundg g1
          case measure => omega
          case rel =>
            refine ⟨k + 1, by go_num, ⟨by have := HK.out; omega⟩, ⟨?_⟩, ⟨h68⟩, ⟨h28⟩, ⟨HB8.out⟩⟩
            rw [HS.out]
            show (if _ = _ then _ else _) = _
            rw [if_neg (fun e => HHS.out (HR2.out.trans e))]
  · rw [if_neg hz]
    have ht : (code != 0) = true := by simpa using hz
    go_enter Tryd.func94, Tryd.ntmps94
    go_wp2_with fail
    refine (HASK.out _ ?hw).mono ?_
    (case hw => exact by repeat (first | exact Below.refl _ _ | refine Below.alloc ?_ (by simp <;> omega) _ | refine Below.setCell ?_ (by simp <;> omega) _ | apply Below.drew))
    rintro e w6 ⟨v, rfl, hP, hb⟩
    obtain ⟨B0, n0, d0, B1, n1, d1, B2, n2, d2, mp, B3, n3, d3, rfl, hP⟩ := hP
    have HB6 := Lib.hid ((show Below w.heap.size w _ from by repeat (first | exact Below.refl _ _ | refine Below.alloc ?_ (by simp <;> omega) _ | refine Below.setCell ?_ (by simp <;> omega) _ | apply Below.drew)).trans (below_weaken hb (by simp)))
    clear hb hP
    go_wp2
    go_ret2
    exact ⟨rfl, HB6.out.alloc HB6.out.size _⟩
set_option maxRecDepth 100000 in
theorem done_calls (A0 A1 A2 : Option Addr) (c0 c1 c2 : Nat) (l0 : List S92) (l1 : List S90) (l2 : List S43) (w : World) (hG : GOK w) (hr0 : Kd.C k92 w A0 l0.length l0) (hc0 : l0.length ≤ c0) (hr1 : Kd.C k90 w A1 l1.length l1) (hc1 : l1.length ≤ c1) (hr2 : Kd.C k43 w A2 l2.length l2) (hc2 : l2.length ≤ c2) :
    Calls Tryd.prog 32 #[.agg #[.slice A0 l0.length c0, .slice A1 l1.length c1, .slice A2 l2.length c2]] w fun e w' => e = .returned (.tuple #[.int .i64 (doneF l0 l1 l2).1, .int .i64 (doneF l0 l1 l2).2]) ∧ Below w.heap.size w w' := by
  obtain ⟨q1, hq1⟩ : ∃ q, q = (doneF l0 l1 l2).1 := ⟨_, rfl⟩
  obtain ⟨q2, hq2⟩ : ∃ q, q = (doneF l0 l1 l2).2 := ⟨_, rfl⟩
  have HF : Hid (∀ W, Below w.heap.size w W → Calls Tryd.prog 94 #[.agg #[.slice A0 l0.length c0, .slice A1 l1.length c1, .slice A2 l2.length c2], .func (.func 95) #[] #[]] W fun e w' => e = .returned (.tuple #[.int .i64 q1, .int .i64 q2]) ∧ Below W.heap.size W w') := by
    refine Lib.hid fun W hW => ?_
    rw [hq1, hq2]
    exact firstDone_calls A0 A1 A2 c0 c1 c2 l0 l1 l2 W (hG.below hW) (Kd.C_below hr0 hW) hc0 (Kd.C_below hr1 hW) hc1 (Kd.C_below hr2 hW) hc2
  rw [← hq1, ← hq2]
  clear hq1 hq2 hG hr0 hr1 hr2
  go_enter Tryd.func32, Tryd.ntmps32
  go_wp2_with fail
  refine (HF.out _ ?hw).mono ?_
  (case hw => exact by repeat (first | exact Below.refl _ _ | refine Below.alloc ?_ (by simp <;> omega) _ | refine Below.setCell ?_ (by simp <;> omega) _ | apply Below.drew))
  rintro e w6 ⟨rfl, hb⟩
  go_wp2
  go_ret2
  exact ⟨rfl, (show Below w.heap.size w _ from by repeat (first | exact Below.refl _ _ | refine Below.alloc ?_ (by simp <;> omega) _ | refine Below.setCell ?_ (by simp <;> omega) _ | apply Below.drew)).trans (below_weaken hb (by simp))⟩
set_option maxRecDepth 100000 in
theorem perhaps_calls (A0 A1 A2 : Option Addr) (c0 c1 c2 : Nat) (l0 : List S92) (l1 : List S90) (l2 : List S43) (w : World) (hG : GOK w) (hr0 : Kd.C k92 w A0 l0.length l0) (hc0 : l0.length ≤ c0) (hr1 : Kd.C k90 w A1 l1.length l1) (hc1 : l1.length ≤ c1) (hr2 : Kd.C k43 w A2 l2.length l2) (hc2 : l2.length ≤ c2) :
    Calls Tryd.prog 34 #[.agg #[.slice A0 l0.length c0, .slice A1 l1.length c1, .slice A2 l2.length c2]] w fun e w' => e = .returned (.tuple #[.int .i64 (perhapsF l0 l1 l2).1, .int .i64 (perhapsF l0 l1 l2).2]) ∧ Below w.heap.size w w' := by
  obtain ⟨q1, hq1⟩ : ∃ q, q = (perhapsF l0 l1 l2).1 := ⟨_, rfl⟩
  obtain ⟨q2, hq2⟩ : ∃ q, q = (perhapsF l0 l1 l2).2 := ⟨_, rfl⟩
  have HF : Hid (∀ W, Below w.heap.size w W → Calls Tryd.prog 94 #[.agg #[.slice A0 l0.length c0, .slice A1 l1.length c1, .slice A2 l2.length c2], .func (.func 97) #[] #[]] W fun e w' => e = .returned (.tuple #[.int .i64 q1, .int .i64 q2]) ∧ Below W.heap.size W w') := by
    refine Lib.hid fun W hW => ?_
    rw [hq1, hq2]
    exact firstPerhaps_calls A0 A1 A2 c0 c1 c2 l0 l1 l2 W (hG.below hW) (Kd.C_below hr0 hW) hc0 (Kd.C_below hr1 hW) hc1 (Kd.C_below hr2 hW) hc2
  rw [← hq1, ← hq2]
  clear hq1 hq2 hG hr0 hr1 hr2
  go_enter Tryd.func34, Tryd.ntmps34
  go_wp2_with fail
  refine (HF.out _ ?hw).mono ?_
  (case hw => exact by repeat (first | exact Below.refl _ _ | refine Below.alloc ?_ (by simp <;> omega) _ | refine Below.setCell ?_ (by simp <;> omega) _ | apply Below.drew))
  rintro e w6 ⟨rfl, hb⟩
  go_wp2
  go_ret2
  exact ⟨rfl, (show Below w.heap.size w _ from by repeat (first | exact Below.refl _ _ | refine Below.alloc ?_ (by simp <;> omega) _ | refine Below.setCell ?_ (by simp <;> omega) _ | apply Below.drew)).trans (below_weaken hb (by simp))⟩
end Go.Proofs.YthgjedagbgmgmaaDoor.Pr
namespace Go.Proofs.YthgjedagbgmgmaaDoor.Pr
open Go.RowKit Go.Proofs.YthgjedagbgmgmaaDoorW.PrintWords Go.Proofs.YthgjedagbgmgmaaDoorW.PrintLast Go.Proofs.YthgjedagbgmgmaaDoorW.PrintMore
set_option linter.unusedVariables false
set_option linter.unusedSimpArgs false
def Rd.li (r : Rd) : List Int := [r.bound, r.rolled, r.a0, r.a1, r.a2, r.a3, r.o0, r.o1, r.o2, r.o3]
/-- The road at last, if it is watered. -/
def waterFrom (ls : List S92) (wf : Int → Int → Int) (t : List Int) : Nat → Nat → Rd → Rd
  | 0, _, r => r
  | d + 1, day, r => waterFrom ls wf t d (day + 1) (afterR ls r (wf (day : Int) (t.getD (5 + day) 0)) (t.getD day 0))
def worst1F (ls : List S92) (n : Nat) (wf : Int → Int → Int) (t : List Int) : Int := (waterFrom ls wf t n 0 r00).bound
def neverF (_ s : Int) : Int := s
def onF (at_ : Int) (d s : Int) : Int := if d = at_ ∧ s = 0 then 1 else s
theorem blkI_whole {W : World} {g : Nat} {t : TypeId} {C vs : List Int} (h : W.heap[g]? = some (.cells (encI (splice0 C 0 vs)).toArray t (0, 0))) (hl : C.length = vs.length) : W.heap[g]? = some (.cells (encI vs).toArray t (0, 0)) := by
  rw [← encI_splice] at h
  exact blk_whole h (by simp [encI, hl])
set_option maxHeartbeats 4000000 in
set_option maxRecDepth 100000 in
theorem worst1n_calls (A0 A1 A2 At : Option Addr) (c0 n1 c1 n2 c2 nt ct m cl p q : Nat) (l0 : List S92) (t : List Int) (w : World) (hG : GOK w) (hr0 : FRow e92 2 w A0 l0) (hc0 : l0.length ≤ c0) (h1 : 1 ≤ l0.length) (h4 : l0.length ≤ 4) (hm : w.heap[m]? = some (.map (bareMap l0.length).toArray cl)) (hn5 : n1 ≤ 5)
    (ht : t.length = 60) (hw : ∀ d, d < n1 → 0 ≤ t.getD d 0 ∧ t.getD d 0 ≤ 20) (hs : ∀ d, d < n1 → 0 ≤ t.getD (5 + d) 0 ∧ t.getD (5 + d) 0 ≤ 2) (hp : w.heap[p]? = some (.cells #[.slice A0 l0.length c0, .slice A1 n1 c1, .slice A2 n2 c2, .map (some m), .slice At nt ct] 107 (0, 0))) (hq : w.heap[q]? = some (.cells #[.func (.func 130) #[] #[]] 142 (0, 0))) :
    Calls Tryd.prog 128 #[.agg (encI t).toArray, .pointer (some ⟨p, 0, none⟩), .pointer (some ⟨q, 0, none⟩)] w fun e w' => e = .returned (.int .i64 (worst1F l0 n1 (neverF) t)) ∧ Below w.heap.size w w' := by
  have z0 : 0 < w.heap.size := by have := hG.size; omega
  have q0 := hG.b0
  have q1 := hG.b1
  have pl := blk_lt hp
  have ql := blk_lt hq
  have HAFR : Hid (∀ (r : Rd) (sky k : Int), r.Ok l0.length 9 → 0 ≤ k → k ≤ 20 → 0 ≤ sky → sky ≤ 2 → ∀ W, Below w.heap.size w W → Calls Tryd.prog 129 #[.agg #[.slice A0 l0.length c0, .slice A1 n1 c1, .slice A2 n2 c2, .map (some m), .slice At nt ct], .agg r.arr, .int .i64 sky, .int .i64 k] W fun e w' => e = .returned (.agg (afterR l0 r sky k).arr) ∧ Below W.heap.size W w') :=
    Lib.hid fun r sky k ok k0 k1 s0 s1 W hW => after_calls A0 A1 A2 At c0 n1 c1 n2 c2 nt ct m cl l0 W (hG.below hW) (hr0.below hW) hc0 h1 h4 ((hW.block m (Array.getElem?_eq_some_iff.1 hm).1).trans hm) r ok sky k k0 k1 s0 s1
  have HP := Lib.hid hp
  have HQ := Lib.hid hq
  have HW := Lib.hid hw
  have HSS := Lib.hid hs
  have hn5i : (n1 : Int) ≤ 5 := by omega
  have hp0 := (blk_cell hp 1).trans rfl
  skip
  clear hG hr0 hm hp hq hw hs
  go_enter Tryd.func128, Tryd.ntmps128
  go_wp2
  go_loopg [13] (n1) (fun gk v13 wr => ∃ (k : Nat) (r : Rd), v13 = .int .i64 k ∧ Aside0 (k + gk = n1) ∧ Aside0 (worst1F l0 n1 (neverF) t = (waterFrom l0 (neverF) t gk k r).bound) ∧ Aside0 (r.Ok l0.length k) ∧ Aside0 (wr.heap[w.heap.size + 1]? = some (.cells (encI r.li).toArray 120 (0, 0))) ∧ Aside0 (wr.heap[w.heap.size]? = some (.cells (encI t).toArray 123 (0, 0))) ∧ Aside0 (wr.heap[p]? = some (.cells #[.slice A0 l0.length c0, .slice A1 n1 c1, .slice A2 n2 c2, .map (some m), .slice At nt ct] 107 (0, 0))) ∧ Aside0 (wr.heap[q]? = some (.cells #[.func (.func 130) #[] #[]] 142 (0, 0))) ∧ Aside0 (Below w.heap.size w wr))
  case atStart => exact ⟨0, r00, rfl, ⟨by omega⟩, ⟨rfl⟩, ⟨r00_ok _⟩, ⟨blk_at _ _ _ (by simp)⟩, ⟨blk_alloc (blk_new _ _) _⟩, ⟨blk_alloc (blk_alloc HP.out _) _⟩, ⟨blk_alloc (blk_alloc HQ.out _) _⟩, ⟨by repeat (first | exact Below.refl _ _ | refine Below.alloc ?_ (by simp <;> omega) _ | refine Below.setCell ?_ (by simp <;> omega) _ | apply Below.drew)⟩⟩
  case round =>
    obtain ⟨k, r, rfl, HK, HS, HOK, H5, HT, HPW, HQW, HB⟩ := hrel
    cases gk with
    | zero =>
      have hge : ¬ k < n1 := by have := HK.out; omega
      have c50 : wr.cell? ⟨w.heap.size + 1, 0, none⟩ = some (.int .i64 r.bound) := (blk_cell H5.out 0).trans rfl
      go_wp2
      go_ret
      refine ⟨?_, HB.out⟩
      rw [HS.out]
      rfl
    | succ g1 =>
      have hlt : k < n1 := by have := HK.out; omega
      obtain ⟨sk, hsk⟩ : ∃ s, s = t.getD (5 + k) 0 := ⟨_, rfl⟩
      obtain ⟨wg, hwg⟩ : ∃ s, s = t.getD k 0 := ⟨_, rfl⟩
      have hwb := HW.out k hlt
      have hsb := HSS.out k hlt
      rw [← hwg] at hwb
      rw [← hsk] at hsb
      obtain ⟨s2, hs2⟩ : ∃ s, s = neverF (k : Int) sk := ⟨_, rfl⟩
      have hs2b : 0 ≤ s2 ∧ s2 ≤ 2 := by
        rw [hs2]
        first
          | exact hsb
          | (unfold onF; split <;> omega)
      have hcsk : (encI t).toArray[5 + k]? = some (.int .i64 sk) := by
        have hl : 5 + k < t.length := by omega
        rw [hsk, List.getD_eq_getElem?_getD, List.getElem?_eq_getElem hl]
        simp [encI, hl]
      have hcwg : (encI t).toArray[k]? = some (.int .i64 wg) := by
        have hl : k < t.length := by omega
        rw [hwg, List.getD_eq_getElem?_getD, List.getElem?_eq_getElem hl]
        simp [encI, hl]
      have HAF := Lib.hid (HAFR.out r s2 wg (HOK.out.mono (by omega)) hwb.1 hwb.2 hs2b.1 hs2b.2)
      have HOK1 := Lib.hid (afterR_ok (sky := s2) HOK.out (by omega) hwb.1 hwb.2)
      have HSK := Lib.hid hcsk
      have HWG := Lib.hid hcwg
      have HSKE := Lib.hid hsk
      have HWGE := Lib.hid hwg
      have HS2 := Lib.hid hs2
      have hk5 : (k : Int) < 5 := by omega
      clear hcsk hcwg hsk hwg hs2 hwb hsb hs2b
      go_upto_region 5 with fail
      have hBP : Below wr.heap.size wr wr.drew := by repeat (first | exact Below.refl _ _ | refine Below.alloc ?_ (by simp <;> omega) _ | refine Below.setCell ?_ (by simp <;> omega) _ | apply Below.drew)
      have HPR := Lib.hid (blk_below HPW.out hBP)
      have HQR := Lib.hid (blk_below HQW.out hBP)
      have H5R := Lib.hid (blk_below H5.out hBP)
      have HTR := Lib.hid (blk_below HT.out hBP)
      have HBR := Lib.hid (HB.out.trans (below_weaken hBP HB.out.size))
      skip
      have HFN : Hid (Calls Tryd.prog 130 #[.int .i64 (k : Int), .int .i64 sk] wr.drew fun e w' => e = .returned (.int .i64 s2) ∧ wr.drew = w') := by
        refine Lib.hid ?_
        rw [HS2.out]
        exact never1_calls (k : Int) sk _
      clear hBP
      refine start_ (n := 16) (S := fun w' => w'.cell? ⟨p, 0, none⟩ = some (.slice A0 l0.length c0) ∧ w'.cell? ⟨p, 1, none⟩ = some (.slice A1 n1 c1) ∧ w'.cell? ⟨p, 2, none⟩ = some (.slice A2 n2 c2) ∧ w'.cell? ⟨p, 3, none⟩ = some (.map (some m)) ∧ w'.cell? ⟨p, 4, none⟩ = some (.slice At nt ct) ∧ w'.cell? ⟨w.heap.size + 1, 0, none⟩ = some (.int .i64 r.bound) ∧ w'.cell? ⟨w.heap.size + 1, 1, none⟩ = some (.int .i64 r.rolled) ∧ w'.cell? ⟨w.heap.size + 1, 2, none⟩ = some (.int .i64 r.a0) ∧ w'.cell? ⟨w.heap.size + 1, 3, none⟩ = some (.int .i64 r.a1) ∧ w'.cell? ⟨w.heap.size + 1, 4, none⟩ = some (.int .i64 r.a2) ∧ w'.cell? ⟨w.heap.size + 1, 5, none⟩ = some (.int .i64 r.a3) ∧ w'.cell? ⟨w.heap.size + 1, 6, none⟩ = some (.int .i64 r.o0) ∧ w'.cell? ⟨w.heap.size + 1, 7, none⟩ = some (.int .i64 r.o1) ∧ w'.cell? ⟨w.heap.size + 1, 8, none⟩ = some (.int .i64 r.o2) ∧ w'.cell? ⟨w.heap.size + 1, 9, none⟩ = some (.int .i64 r.o3) ∧ w'.cell? ⟨q, 0, none⟩ = some (.func (.func 130) #[] #[]) ∧ w'.cell? ⟨w.heap.size, 5 + k, none⟩ = some (.int .i64 sk) ∧ w'.cell? ⟨w.heap.size, k, none⟩ = some (.int .i64 wg)) (ds := [15]) #[false, false, false, false, false, false, false, false, false, false, false, false, false, false, false, false] (by kernel_rfl) rfl rfl ⟨(blk_cell HPR.out 0).trans rfl, (blk_cell HPR.out 1).trans rfl, (blk_cell HPR.out 2).trans rfl, (blk_cell HPR.out 3).trans rfl, (blk_cell HPR.out 4).trans rfl, (blk_cell H5R.out 0).trans rfl, (blk_cell H5R.out 1).trans rfl, (blk_cell H5R.out 2).trans rfl, (blk_cell H5R.out 3).trans rfl, (blk_cell H5R.out 4).trans rfl, (blk_cell H5R.out 5).trans rfl, (blk_cell H5R.out 6).trans rfl, (blk_cell H5R.out 7).trans rfl, (blk_cell H5R.out 8).trans rfl, (blk_cell H5R.out 9).trans rfl, (blk_cell HQR.out 0).trans rfl, (blk_cell HTR.out (5 + k)).trans HSK.out, (blk_cell HTR.out k).trans HWG.out⟩ (fun hHeld => ?_)
      refine pu_ 2 (some 18) ?_
      refine pu_ 4 (some 20) ?_
      refine pu_ 5 (some 21) ?_
      refine pu_ 6 (some 22) ?_
      refine pu_ 7 (some 23) ?_
      refine pu_ 10 (some 26) ?_
      refine pu_ 11 (some 27) ?_
      refine pu_ 12 (some 28) ?_
      refine ta_ 0 (some 16) (s := hHeld) (y := by rintro w' ⟨s0, s1, s2, s3, s4, s5, s6, s7, s8, s9, s10, s11, s12, s13, s14, s15, s16, s17⟩; go_simp; with_reducible rfl) (h := ?_)
      refine ta_ 1 (some 17) (s := hHeld) (y := by rintro w' ⟨s0, s1, s2, s3, s4, s5, s6, s7, s8, s9, s10, s11, s12, s13, s14, s15, s16, s17⟩; go_simp; with_reducible rfl) (h := ?_)
      refine ta_ 3 (some 19) (s := hHeld) (y := by rintro w' ⟨s0, s1, s2, s3, s4, s5, s6, s7, s8, s9, s10, s11, s12, s13, s14, s15, s16, s17⟩; go_simp; with_reducible rfl) (h := ?_)
      refine ta_ 8 (some 24) (s := hHeld) (y := by rintro w' ⟨s0, s1, s2, s3, s4, s5, s6, s7, s8, s9, s10, s11, s12, s13, s14, s15, s16, s17⟩; go_simp; with_reducible rfl) (h := ?_)
      refine ta_ 13 (some 29) (s := hHeld) (y := by rintro w' ⟨s0, s1, s2, s3, s4, s5, s6, s7, s8, s9, s10, s11, s12, s13, s14, s15, s16, s17⟩; go_simp; with_reducible rfl) (h := ?_)
      refine one_ (i := 9) (N := some 25) #[true, true, true, true, true, true, true, true, true, true, true, true, true, true, false, false] rfl rfl (by kernel_rfl) (by decide) (fun K hK => ?_)
      refine goesV_ Tryd.func130 (by kernel_rfl) rfl #[.int .i64 (k : Int), .int .i64 sk] #[] #[] (by rfl) rfl rfl rfl (by simp only [List.map_toArray, List.map_cons, List.map_nil]; rfl) ?_
      refine (HFN.out).mono ?_
      rintro e w5 ⟨rfl, rfl⟩
      refine ⟨_, rfl, ?_⟩
      refine hK.out _ _ ⟨hHeld.1, hHeld.2.1, hHeld.2.2.1, hHeld.2.2.2.1, hHeld.2.2.2.2.1, hHeld.2.2.2.2.2.1, hHeld.2.2.2.2.2.2.1, hHeld.2.2.2.2.2.2.2.1, hHeld.2.2.2.2.2.2.2.2.1, hHeld.2.2.2.2.2.2.2.2.2.1, hHeld.2.2.2.2.2.2.2.2.2.2.1, hHeld.2.2.2.2.2.2.2.2.2.2.2.1, hHeld.2.2.2.2.2.2.2.2.2.2.2.2.1, hHeld.2.2.2.2.2.2.2.2.2.2.2.2.2.1, hHeld.2.2.2.2.2.2.2.2.2.2.2.2.2.2.1, hHeld.2.2.2.2.2.2.2.2.2.2.2.2.2.2.2.1, hHeld.2.2.2.2.2.2.2.2.2.2.2.2.2.2.2.2.1, hHeld.2.2.2.2.2.2.2.2.2.2.2.2.2.2.2.2.2⟩ (fun hHeld => ?_)
      clear hK K
      refine no_ 25 ?_
      refine one_ (i := 14) (N := some 30) #[true, true, true, true, true, true, true, true, true, true, true, true, true, true, true, false] rfl rfl (by kernel_rfl) (by decide) (fun K hK => ?_)
      refine goes_ Tryd.func129 (by kernel_rfl) rfl #[.agg #[.slice A0 l0.length c0, .slice A1 n1 c1, .slice A2 n2 c2, .map (some m), .slice At nt ct], .agg r.arr, .int .i64 s2, .int .i64 wg] (by rfl) rfl rfl (by simp only [List.map_toArray, List.map_cons, List.map_nil]; rfl) ?_
      refine (HAF.out _ HBR.out).mono ?_
      rintro e w6 ⟨rfl, hb⟩
      refine ⟨_, rfl, ?_⟩
      have h56 := blk_below H5R.out hb
      have HB6 := Lib.hid (HBR.out.trans (below_weaken hb HBR.out.size))
      have hp6 := blk_below HPR.out hb
      have hq6 := blk_below HQR.out hb
      have ht6 := blk_below HTR.out hb
      refine hK.out _ _ ⟨(blk_cell hp6 0).trans rfl, (blk_cell hp6 1).trans rfl, (blk_cell hp6 2).trans rfl, (blk_cell hp6 3).trans rfl, (blk_cell hp6 4).trans rfl, (blk_cell h56 0).trans rfl, (blk_cell h56 1).trans rfl, (blk_cell h56 2).trans rfl, (blk_cell h56 3).trans rfl, (blk_cell h56 4).trans rfl, (blk_cell h56 5).trans rfl, (blk_cell h56 6).trans rfl, (blk_cell h56 7).trans rfl, (blk_cell h56 8).trans rfl, (blk_cell h56 9).trans rfl, (blk_cell hq6 0).trans rfl, (blk_cell ht6 (5 + k)).trans HSK.out, (blk_cell ht6 k).trans HWG.out⟩ (fun hHeld => ?_)
      clear hK K
      refine no_ 30 ?_
      refine last_ (i := 15) (N := none) #[true, true, true, true, true, true, true, true, true, true, true, true, true, true, true, true] rfl rfl (by kernel_rfl) (by decide) (fun K hK => ?_)
      refine skip_row (by rfl) rfl 120 _ _ rfl (w.heap.size + 1) 0 r.li (afterR l0 r s2 wg).li 120 (by rfl) (by rfl) h56 (by simp [Rd.li]) (by kernel_rfl) ?_
      intro w7 h57 hg7 _
      have H57 := Lib.hid (blkI_whole h57 (by simp [Rd.li]))
      have hne : ∀ j, j < w.heap.size + 1 → some j ≠ some (w.heap.size + 1) := fun j hj e => by simp at e; omega
      have HP7 := Lib.hid ((hg7.block _ (blk_lt hp6) (hne _ (by omega))).trans hp6)
      have HQ7 := Lib.hid ((hg7.block _ (blk_lt hq6) (hne _ (by omega))).trans hq6)
      have HT7 := Lib.hid ((hg7.block _ (blk_lt ht6) (hne _ (by omega))).trans ht6)
      have HB7 := Lib.hid (HB6.out.grown hg7 (by have := HB6.out.size; omega) (fun j ej => by simp at ej; omega))
      clear h57 hg7
      refine hK.out _ _ ?_
      clear hK K
      refine done_ (by kernel_rfl) ?_

      go_wp2
      go_roundg g1
      case measure => omega
      case rel =>
        refine ⟨k + 1, afterR l0 r s2 wg, by go_num, ⟨by have := HK.out; omega⟩, ⟨?_⟩, ⟨by rw [Int.natCast_add]; exact HOK1.out⟩, ⟨H57.out⟩, ⟨HT7.out⟩, ⟨HP7.out⟩, ⟨HQ7.out⟩, ⟨HB7.out⟩⟩
        rw [HS.out, HS2.out, HSKE.out, HWGE.out]
        rfl
set_option maxHeartbeats 4000000 in
set_option maxRecDepth 100000 in
theorem worst1o_calls (A0 A1 A2 At : Option Addr) (c0 n1 c1 n2 c2 nt ct m cl p q : Nat) (l0 : List S92) (t : List Int) (at_ : Int) (a : Nat) (w : World) (hG : GOK w) (hr0 : FRow e92 2 w A0 l0) (hc0 : l0.length ≤ c0) (h1 : 1 ≤ l0.length) (h4 : l0.length ≤ 4) (hm : w.heap[m]? = some (.map (bareMap l0.length).toArray cl)) (hn5 : n1 ≤ 5)
    (ht : t.length = 60) (hw : ∀ d, d < n1 → 0 ≤ t.getD d 0 ∧ t.getD d 0 ≤ 20) (hs : ∀ d, d < n1 → 0 ≤ t.getD (5 + d) 0 ∧ t.getD (5 + d) 0 ≤ 2) (hp : w.heap[p]? = some (.cells #[.slice A0 l0.length c0, .slice A1 n1 c1, .slice A2 n2 c2, .map (some m), .slice At nt ct] 107 (0, 0))) (hq : w.heap[q]? = some (.cells #[.func (.func 131) #[] #[.pointer (some ⟨a, 0, none⟩)]] 142 (0, 0))) (hca : w.cell? ⟨a, 0, none⟩ = some (.int .i64 at_)) (hal : a < w.heap.size) :
    Calls Tryd.prog 128 #[.agg (encI t).toArray, .pointer (some ⟨p, 0, none⟩), .pointer (some ⟨q, 0, none⟩)] w fun e w' => e = .returned (.int .i64 (worst1F l0 n1 (onF at_) t)) ∧ Below w.heap.size w w' := by
  have z0 : 0 < w.heap.size := by have := hG.size; omega
  have q0 := hG.b0
  have q1 := hG.b1
  have pl := blk_lt hp
  have ql := blk_lt hq
  have HAFR : Hid (∀ (r : Rd) (sky k : Int), r.Ok l0.length 9 → 0 ≤ k → k ≤ 20 → 0 ≤ sky → sky ≤ 2 → ∀ W, Below w.heap.size w W → Calls Tryd.prog 129 #[.agg #[.slice A0 l0.length c0, .slice A1 n1 c1, .slice A2 n2 c2, .map (some m), .slice At nt ct], .agg r.arr, .int .i64 sky, .int .i64 k] W fun e w' => e = .returned (.agg (afterR l0 r sky k).arr) ∧ Below W.heap.size W w') :=
    Lib.hid fun r sky k ok k0 k1 s0 s1 W hW => after_calls A0 A1 A2 At c0 n1 c1 n2 c2 nt ct m cl l0 W (hG.below hW) (hr0.below hW) hc0 h1 h4 ((hW.block m (Array.getElem?_eq_some_iff.1 hm).1).trans hm) r ok sky k k0 k1 s0 s1
  have HP := Lib.hid hp
  have HQ := Lib.hid hq
  have HW := Lib.hid hw
  have HSS := Lib.hid hs
  have hn5i : (n1 : Int) ≤ 5 := by omega
  have hp0 := (blk_cell hp 1).trans rfl
  have HCA := Lib.hid hca; clear hca
  clear hG hr0 hm hp hq hw hs
  go_enter Tryd.func128, Tryd.ntmps128
  go_wp2
  go_loopg [13] (n1) (fun gk v13 wr => ∃ (k : Nat) (r : Rd), v13 = .int .i64 k ∧ Aside0 (k + gk = n1) ∧ Aside0 (worst1F l0 n1 (onF at_) t = (waterFrom l0 (onF at_) t gk k r).bound) ∧ Aside0 (r.Ok l0.length k) ∧ Aside0 (wr.heap[w.heap.size + 1]? = some (.cells (encI r.li).toArray 120 (0, 0))) ∧ Aside0 (wr.heap[w.heap.size]? = some (.cells (encI t).toArray 123 (0, 0))) ∧ Aside0 (wr.heap[p]? = some (.cells #[.slice A0 l0.length c0, .slice A1 n1 c1, .slice A2 n2 c2, .map (some m), .slice At nt ct] 107 (0, 0))) ∧ Aside0 (wr.heap[q]? = some (.cells #[.func (.func 131) #[] #[.pointer (some ⟨a, 0, none⟩)]] 142 (0, 0))) ∧ Aside0 (Below w.heap.size w wr))
  case atStart => exact ⟨0, r00, rfl, ⟨by omega⟩, ⟨rfl⟩, ⟨r00_ok _⟩, ⟨blk_at _ _ _ (by simp)⟩, ⟨blk_alloc (blk_new _ _) _⟩, ⟨blk_alloc (blk_alloc HP.out _) _⟩, ⟨blk_alloc (blk_alloc HQ.out _) _⟩, ⟨by repeat (first | exact Below.refl _ _ | refine Below.alloc ?_ (by simp <;> omega) _ | refine Below.setCell ?_ (by simp <;> omega) _ | apply Below.drew)⟩⟩
  case round =>
    obtain ⟨k, r, rfl, HK, HS, HOK, H5, HT, HPW, HQW, HB⟩ := hrel
    cases gk with
    | zero =>
      have hge : ¬ k < n1 := by have := HK.out; omega
      have c50 : wr.cell? ⟨w.heap.size + 1, 0, none⟩ = some (.int .i64 r.bound) := (blk_cell H5.out 0).trans rfl
      go_wp2
      go_ret
      refine ⟨?_, HB.out⟩
      rw [HS.out]
      rfl
    | succ g1 =>
      have hlt : k < n1 := by have := HK.out; omega
      obtain ⟨sk, hsk⟩ : ∃ s, s = t.getD (5 + k) 0 := ⟨_, rfl⟩
      obtain ⟨wg, hwg⟩ : ∃ s, s = t.getD k 0 := ⟨_, rfl⟩
      have hwb := HW.out k hlt
      have hsb := HSS.out k hlt
      rw [← hwg] at hwb
      rw [← hsk] at hsb
      obtain ⟨s2, hs2⟩ : ∃ s, s = onF at_ (k : Int) sk := ⟨_, rfl⟩
      have hs2b : 0 ≤ s2 ∧ s2 ≤ 2 := by
        rw [hs2]
        first
          | exact hsb
          | (unfold onF; split <;> omega)
      have hcsk : (encI t).toArray[5 + k]? = some (.int .i64 sk) := by
        have hl : 5 + k < t.length := by omega
        rw [hsk, List.getD_eq_getElem?_getD, List.getElem?_eq_getElem hl]
        simp [encI, hl]
      have hcwg : (encI t).toArray[k]? = some (.int .i64 wg) := by
        have hl : k < t.length := by omega
        rw [hwg, List.getD_eq_getElem?_getD, List.getElem?_eq_getElem hl]
        simp [encI, hl]
      have HAF := Lib.hid (HAFR.out r s2 wg (HOK.out.mono (by omega)) hwb.1 hwb.2 hs2b.1 hs2b.2)
      have HOK1 := Lib.hid (afterR_ok (sky := s2) HOK.out (by omega) hwb.1 hwb.2)
      have HSK := Lib.hid hcsk
      have HWG := Lib.hid hcwg
      have HSKE := Lib.hid hsk
      have HWGE := Lib.hid hwg
      have HS2 := Lib.hid hs2
      have hk5 : (k : Int) < 5 := by omega
      clear hcsk hcwg hsk hwg hs2 hwb hsb hs2b
      go_upto_region 5 with fail
      have hBP : Below wr.heap.size wr wr.drew := by repeat (first | exact Below.refl _ _ | refine Below.alloc ?_ (by simp <;> omega) _ | refine Below.setCell ?_ (by simp <;> omega) _ | apply Below.drew)
      have HPR := Lib.hid (blk_below HPW.out hBP)
      have HQR := Lib.hid (blk_below HQW.out hBP)
      have H5R := Lib.hid (blk_below H5.out hBP)
      have HTR := Lib.hid (blk_below HT.out hBP)
      have HBR := Lib.hid (HB.out.trans (below_weaken hBP HB.out.size))
      have HCA1 := Lib.hid ((HBR.out.cell (p := ⟨a, 0, none⟩) hal).trans HCA.out)
      have HFN : Hid (Calls Tryd.prog 131 #[.int .i64 (k : Int), .int .i64 sk, .pointer (some ⟨a, 0, none⟩)] wr.drew fun e w' => e = .returned (.int .i64 s2) ∧ wr.drew = w') := by
        refine Lib.hid ?_
        rw [HS2.out]
        exact on1_calls (k : Int) sk at_ _ _ HCA1.out
      clear hBP
      refine start_ (n := 16) (S := fun w' => w'.cell? ⟨p, 0, none⟩ = some (.slice A0 l0.length c0) ∧ w'.cell? ⟨p, 1, none⟩ = some (.slice A1 n1 c1) ∧ w'.cell? ⟨p, 2, none⟩ = some (.slice A2 n2 c2) ∧ w'.cell? ⟨p, 3, none⟩ = some (.map (some m)) ∧ w'.cell? ⟨p, 4, none⟩ = some (.slice At nt ct) ∧ w'.cell? ⟨w.heap.size + 1, 0, none⟩ = some (.int .i64 r.bound) ∧ w'.cell? ⟨w.heap.size + 1, 1, none⟩ = some (.int .i64 r.rolled) ∧ w'.cell? ⟨w.heap.size + 1, 2, none⟩ = some (.int .i64 r.a0) ∧ w'.cell? ⟨w.heap.size + 1, 3, none⟩ = some (.int .i64 r.a1) ∧ w'.cell? ⟨w.heap.size + 1, 4, none⟩ = some (.int .i64 r.a2) ∧ w'.cell? ⟨w.heap.size + 1, 5, none⟩ = some (.int .i64 r.a3) ∧ w'.cell? ⟨w.heap.size + 1, 6, none⟩ = some (.int .i64 r.o0) ∧ w'.cell? ⟨w.heap.size + 1, 7, none⟩ = some (.int .i64 r.o1) ∧ w'.cell? ⟨w.heap.size + 1, 8, none⟩ = some (.int .i64 r.o2) ∧ w'.cell? ⟨w.heap.size + 1, 9, none⟩ = some (.int .i64 r.o3) ∧ w'.cell? ⟨q, 0, none⟩ = some (.func (.func 131) #[] #[.pointer (some ⟨a, 0, none⟩)]) ∧ w'.cell? ⟨w.heap.size, 5 + k, none⟩ = some (.int .i64 sk) ∧ w'.cell? ⟨w.heap.size, k, none⟩ = some (.int .i64 wg)) (ds := [15]) #[false, false, false, false, false, false, false, false, false, false, false, false, false, false, false, false] (by kernel_rfl) rfl rfl ⟨(blk_cell HPR.out 0).trans rfl, (blk_cell HPR.out 1).trans rfl, (blk_cell HPR.out 2).trans rfl, (blk_cell HPR.out 3).trans rfl, (blk_cell HPR.out 4).trans rfl, (blk_cell H5R.out 0).trans rfl, (blk_cell H5R.out 1).trans rfl, (blk_cell H5R.out 2).trans rfl, (blk_cell H5R.out 3).trans rfl, (blk_cell H5R.out 4).trans rfl, (blk_cell H5R.out 5).trans rfl, (blk_cell H5R.out 6).trans rfl, (blk_cell H5R.out 7).trans rfl, (blk_cell H5R.out 8).trans rfl, (blk_cell H5R.out 9).trans rfl, (blk_cell HQR.out 0).trans rfl, (blk_cell HTR.out (5 + k)).trans HSK.out, (blk_cell HTR.out k).trans HWG.out⟩ (fun hHeld => ?_)
      refine pu_ 2 (some 18) ?_
      refine pu_ 4 (some 20) ?_
      refine pu_ 5 (some 21) ?_
      refine pu_ 6 (some 22) ?_
      refine pu_ 7 (some 23) ?_
      refine pu_ 10 (some 26) ?_
      refine pu_ 11 (some 27) ?_
      refine pu_ 12 (some 28) ?_
      refine ta_ 0 (some 16) (s := hHeld) (y := by rintro w' ⟨s0, s1, s2, s3, s4, s5, s6, s7, s8, s9, s10, s11, s12, s13, s14, s15, s16, s17⟩; go_simp; with_reducible rfl) (h := ?_)
      refine ta_ 1 (some 17) (s := hHeld) (y := by rintro w' ⟨s0, s1, s2, s3, s4, s5, s6, s7, s8, s9, s10, s11, s12, s13, s14, s15, s16, s17⟩; go_simp; with_reducible rfl) (h := ?_)
      refine ta_ 3 (some 19) (s := hHeld) (y := by rintro w' ⟨s0, s1, s2, s3, s4, s5, s6, s7, s8, s9, s10, s11, s12, s13, s14, s15, s16, s17⟩; go_simp; with_reducible rfl) (h := ?_)
      refine ta_ 8 (some 24) (s := hHeld) (y := by rintro w' ⟨s0, s1, s2, s3, s4, s5, s6, s7, s8, s9, s10, s11, s12, s13, s14, s15, s16, s17⟩; go_simp; with_reducible rfl) (h := ?_)
      refine ta_ 13 (some 29) (s := hHeld) (y := by rintro w' ⟨s0, s1, s2, s3, s4, s5, s6, s7, s8, s9, s10, s11, s12, s13, s14, s15, s16, s17⟩; go_simp; with_reducible rfl) (h := ?_)
      refine one_ (i := 9) (N := some 25) #[true, true, true, true, true, true, true, true, true, true, true, true, true, true, false, false] rfl rfl (by kernel_rfl) (by decide) (fun K hK => ?_)
      refine goesV_ Tryd.func131 (by kernel_rfl) rfl #[.int .i64 (k : Int), .int .i64 sk, .pointer (some ⟨a, 0, none⟩)] #[] #[.pointer (some ⟨a, 0, none⟩)] (by rfl) rfl rfl rfl (by simp only [List.map_toArray, List.map_cons, List.map_nil]; rfl) ?_
      refine (HFN.out).mono ?_
      rintro e w5 ⟨rfl, rfl⟩
      refine ⟨_, rfl, ?_⟩
      refine hK.out _ _ ⟨hHeld.1, hHeld.2.1, hHeld.2.2.1, hHeld.2.2.2.1, hHeld.2.2.2.2.1, hHeld.2.2.2.2.2.1, hHeld.2.2.2.2.2.2.1, hHeld.2.2.2.2.2.2.2.1, hHeld.2.2.2.2.2.2.2.2.1, hHeld.2.2.2.2.2.2.2.2.2.1, hHeld.2.2.2.2.2.2.2.2.2.2.1, hHeld.2.2.2.2.2.2.2.2.2.2.2.1, hHeld.2.2.2.2.2.2.2.2.2.2.2.2.1, hHeld.2.2.2.2.2.2.2.2.2.2.2.2.2.1, hHeld.2.2.2.2.2.2.2.2.2.2.2.2.2.2.1, hHeld.2.2.2.2.2.2.2.2.2.2.2.2.2.2.2.1, hHeld.2.2.2.2.2.2.2.2.2.2.2.2.2.2.2.2.1, hHeld.2.2.2.2.2.2.2.2.2.2.2.2.2.2.2.2.2⟩ (fun hHeld => ?_)
      clear hK K
      refine no_ 25 ?_
      refine one_ (i := 14) (N := some 30) #[true, true, true, true, true, true, true, true, true, true, true, true, true, true, true, false] rfl rfl (by kernel_rfl) (by decide) (fun K hK => ?_)
      refine goes_ Tryd.func129 (by kernel_rfl) rfl #[.agg #[.slice A0 l0.length c0, .slice A1 n1 c1, .slice A2 n2 c2, .map (some m), .slice At nt ct], .agg r.arr, .int .i64 s2, .int .i64 wg] (by rfl) rfl rfl (by simp only [List.map_toArray, List.map_cons, List.map_nil]; rfl) ?_
      refine (HAF.out _ HBR.out).mono ?_
      rintro e w6 ⟨rfl, hb⟩
      refine ⟨_, rfl, ?_⟩
      have h56 := blk_below H5R.out hb
      have HB6 := Lib.hid (HBR.out.trans (below_weaken hb HBR.out.size))
      have hp6 := blk_below HPR.out hb
      have hq6 := blk_below HQR.out hb
      have ht6 := blk_below HTR.out hb
      refine hK.out _ _ ⟨(blk_cell hp6 0).trans rfl, (blk_cell hp6 1).trans rfl, (blk_cell hp6 2).trans rfl, (blk_cell hp6 3).trans rfl, (blk_cell hp6 4).trans rfl, (blk_cell h56 0).trans rfl, (blk_cell h56 1).trans rfl, (blk_cell h56 2).trans rfl, (blk_cell h56 3).trans rfl, (blk_cell h56 4).trans rfl, (blk_cell h56 5).trans rfl, (blk_cell h56 6).trans rfl, (blk_cell h56 7).trans rfl, (blk_cell h56 8).trans rfl, (blk_cell h56 9).trans rfl, (blk_cell hq6 0).trans rfl, (blk_cell ht6 (5 + k)).trans HSK.out, (blk_cell ht6 k).trans HWG.out⟩ (fun hHeld => ?_)
      clear hK K
      refine no_ 30 ?_
      refine last_ (i := 15) (N := none) #[true, true, true, true, true, true, true, true, true, true, true, true, true, true, true, true] rfl rfl (by kernel_rfl) (by decide) (fun K hK => ?_)
      refine skip_row (by rfl) rfl 120 _ _ rfl (w.heap.size + 1) 0 r.li (afterR l0 r s2 wg).li 120 (by rfl) (by rfl) h56 (by simp [Rd.li]) (by kernel_rfl) ?_
      intro w7 h57 hg7 _
      have H57 := Lib.hid (blkI_whole h57 (by simp [Rd.li]))
      have hne : ∀ j, j < w.heap.size + 1 → some j ≠ some (w.heap.size + 1) := fun j hj e => by simp at e; omega
      have HP7 := Lib.hid ((hg7.block _ (blk_lt hp6) (hne _ (by omega))).trans hp6)
      have HQ7 := Lib.hid ((hg7.block _ (blk_lt hq6) (hne _ (by omega))).trans hq6)
      have HT7 := Lib.hid ((hg7.block _ (blk_lt ht6) (hne _ (by omega))).trans ht6)
      have HB7 := Lib.hid (HB6.out.grown hg7 (by have := HB6.out.size; omega) (fun j ej => by simp at ej; omega))
      clear h57 hg7
      refine hK.out _ _ ?_
      clear hK K
      refine done_ (by kernel_rfl) ?_

      go_wp2
      go_roundg g1
      case measure => omega
      case rel =>
        refine ⟨k + 1, afterR l0 r s2 wg, by go_num, ⟨by have := HK.out; omega⟩, ⟨?_⟩, ⟨by rw [Int.natCast_add]; exact HOK1.out⟩, ⟨H57.out⟩, ⟨HT7.out⟩, ⟨HP7.out⟩, ⟨HQ7.out⟩, ⟨HB7.out⟩⟩
        rw [HS.out, HS2.out, HSKE.out, HWGE.out]
        rfl
end Go.Proofs.YthgjedagbgmgmaaDoor.Pr
namespace Go.Proofs.YthgjedagbgmgmaaDoor.Pr
open Go.RowKit Go.Proofs.YthgjedagbgmgmaaDoorW.PrintWords Go.Proofs.YthgjedagbgmgmaaDoorW.PrintLast Go.Proofs.YthgjedagbgmgmaaDoorW.PrintMore
set_option linter.unusedVariables false
set_option linter.unusedSimpArgs false
theorem field32 (a b : Int) (W : World) : (Instr.field 32 (.agg #[.int .i64 a, .int .i64 b]) 0).run Tryd.prog W = .ok (.int .i64 a) W := by
  first
    | kernel_rfl
    | rfl
    | (have hu := Tryd.underlying32; simp [Instr.field, Sem.run_bind, run_underlying hu, Result.andThen])
theorem truths_wagons {ls : List S92} {ds : List S90} {ks : List S43} {but : List Int} (hok : okBook ls ds ks = true) {d : Nat} (hd : d < ds.length) : ∀ x ∈ truthsAll ls ds ks but, 0 ≤ x.getD d 0 ∧ x.getD d 0 ≤ 20 := by
  intro x hx
  obtain ⟨_, _, h5, _, _, h6, _⟩ := ok_facts hok
  rw [truthsAll_good] at hx
  obtain ⟨c, hc, rfl⟩ := List.mem_map.1 hx
  have ho := (mem_good.1 hc).1
  rw [enc0_wagons ho h5 d hd]
  have hl : d < c.length := by rw [ho.1]; exact hd
  rw [List.getD_eq_getElem?_getD, List.getElem?_eq_getElem hl]
  exact ch_wagons ho (fun x hx => ⟨(h6 x hx).1, (h6 x hx).2.2.1⟩) _ (List.getElem_mem hl)
/-- How many layers are bound at last, at the least, if the road is watered. -/
def worstF (ls : List S92) (n : Nat) (wf : Int → Int → Int) (T : List (List Int)) : Int := (spanF (worst1F ls n wf) T (worst1F ls n wf (T.headD []))).1
/-- The best day of some. -/
def waterBest (g : Int → Int) : Nat → Nat → Int × Int → Int × Int
  | 0, _, s => s
  | k + 1, d, s => waterBest g k (d + 1) (if s.2 < g (d : Int) then ((d : Int), g (d : Int)) else s)
def wRes (b : Int × Int) : Int × Int := if b.1 < 0 then (0, 4) else (b.1, 0)
theorem wRes_none {s1 s2 : Int} (h : s1 < 0) : wRes (s1, s2) = (0, 4) := if_pos h
theorem wRes_some {s1 s2 : Int} (h : 0 ≤ s1) : wRes (s1, s2) = (s1, 0) := if_neg (show ¬ s1 < 0 by omega)
theorem waterBest_yes {g : Int → Int} {k d : Nat} {s1 s2 x : Int} (hx : x = g (d : Int)) (h : s2 < x) : waterBest g (k + 1) d (s1, s2) = waterBest g k (d + 1) ((d : Int), x) := by
  subst hx
  show waterBest g k (d + 1) (if s2 < g (d : Int) then ((d : Int), g (d : Int)) else (s1, s2)) = _
  rw [if_pos h]
theorem waterBest_no {g : Int → Int} {k d : Nat} {s1 s2 x : Int} (hx : x = g (d : Int)) (h : x ≤ s2) : waterBest g (k + 1) d (s1, s2) = waterBest g k (d + 1) (s1, s2) := by
  subst hx
  show waterBest g k (d + 1) (if s2 < g (d : Int) then ((d : Int), g (d : Int)) else (s1, s2)) = _
  rw [if_neg (by omega)]
def waterF (ls : List S92) (ds : List S90) (ks : List S43) : Int × Int :=
  if askCode ls ds ks true = 0 then wRes (waterBest (fun d => worstF ls ds.length (onF d) (truthsAll ls ds ks [])) ds.length 0 (-1, worstF ls ds.length neverF (truthsAll ls ds ks []))) else (0, askCode ls ds ks true)
set_option maxHeartbeats 4000000 in
set_option maxRecDepth 100000 in
theorem worstn_calls (B0 B1 B2 B3 : Option Addr) (d0 d1 d2 d3 mm cl : Nat) (l0 : List S92) (l1 : List S90) (l2 : List S43) (w : World) (hG : GOK w) (hr0 : FRow e92 2 w B0 l0) (hc0 : l0.length ≤ d0) (hok : okBook l0 l1 l2 = true) (hm : w.heap[mm]? = some (.map (bareMap l0.length).toArray cl)) (hF : FRow encI 60 w B3 (truthsAll l0 l1 l2 [])) (hT : 0 < (truthsAll l0 l1 l2 []).length) (hcd : (truthsAll l0 l1 l2 []).length ≤ d3) :
    Calls Tryd.prog 98 #[.agg #[.slice B0 l0.length d0, .slice B1 l1.length d1, .slice B2 l2.length d2, .map (some mm), .slice B3 (truthsAll l0 l1 l2 []).length d3], .agg #[.func (.func 130) #[] #[]]] w fun e w' => e = .returned (.int .i64 (spanF (worst1F l0 l1.length (neverF)) (truthsAll l0 l1 l2 []) (worst1F l0 l1.length (neverF) ((truthsAll l0 l1 l2 []).headD []))).1) ∧ Below w.heap.size w w' := by
  obtain ⟨o1, o2, o3, o4, o5, o6, o7⟩ := ok_facts hok
  obtain ⟨r1, hr1⟩ : ∃ x, x = (spanF (worst1F l0 l1.length (neverF)) (truthsAll l0 l1 l2 []) (worst1F l0 l1.length (neverF) ((truthsAll l0 l1 l2 []).headD []))).1 := ⟨_, rfl⟩
  obtain ⟨r2, hr2⟩ : ∃ x, x = (spanF (worst1F l0 l1.length (neverF)) (truthsAll l0 l1 l2 []) (worst1F l0 l1.length (neverF) ((truthsAll l0 l1 l2 []).headD []))).2 := ⟨_, rfl⟩
  have HSP : Hid (∀ (W : World) (p q : Nat), Below w.heap.size w W → W.heap[p]? = some (.cells #[.slice B0 l0.length d0, .slice B1 l1.length d1, .slice B2 l2.length d2, .map (some mm), .slice B3 (truthsAll l0 l1 l2 []).length d3] 107 (0, 0)) → W.heap[q]? = some (.cells #[.func (.func 130) #[] #[]] 142 (0, 0)) →
      Calls Tryd.prog 82 #[.agg #[.slice B0 l0.length d0, .slice B1 l1.length d1, .slice B2 l2.length d2, .map (some mm), .slice B3 (truthsAll l0 l1 l2 []).length d3], .func (.func 128) #[] #[.pointer (some ⟨p, 0, none⟩), .pointer (some ⟨q, 0, none⟩)]] W fun e w' => e = .returned (.agg #[.int .i64 r1, .int .i64 r2]) ∧ Below W.heap.size W w') := by
    refine Lib.hid fun W p q hW hp hq => ?_
    rw [hr1, hr2]
    refine span_128 B0 B1 B2 B3 l0.length d0 l1.length d1 l2.length d2 d3 (some mm) (truthsAll l0 l1 l2 []) (.pointer (some ⟨p, 0, none⟩)) (.pointer (some ⟨q, 0, none⟩)) (worst1F l0 l1.length (neverF)) W (hF.below hW) (truthsAll_60 o3) hT hcd (truthsAll_len hok) (fun W' hW' t ht => ?_)
    have hWW := hW.trans (below_weaken hW' hW.size)
    exact worst1n_calls B0 B1 B2 B3 d0 l1.length d1 l2.length d2 (truthsAll l0 l1 l2 []).length d3 mm cl p q l0 t W' (hG.below hWW) (hr0.below hWW) hc0 o1 o2 ((hWW.block mm (Array.getElem?_eq_some_iff.1 hm).1).trans hm) o3 (truthsAll_60 o3 t ht) (fun d hd => truths_wagons hok hd t ht) (fun d hd => truths_sky o3 hd t ht) (blk_below hp hW') (blk_below hq hW')
  rw [← hr1]
  clear hr1 hr2 hG hr0 hm hF hT hcd o1 o2 o3 o4 o5 o6 o7 hok
  go_enter Tryd.func98, Tryd.ntmps98
  go_wp2_with fail
  refine (HSP.out _ w.heap.size (w.heap.size + 1) ?hw (blk_alloc (blk_new w _) _) (blk_at _ _ _ (by simp))).mono ?_
  (case hw => exact by repeat (first | exact Below.refl _ _ | refine Below.alloc ?_ (by simp <;> omega) _ | refine Below.setCell ?_ (by simp <;> omega) _ | apply Below.drew))
  rintro e w6 ⟨rfl, hb⟩
  have hfl : ∀ W, (Instr.field 32 (.agg #[.int .i64 r1, .int .i64 r2]) 0).run Tryd.prog W = .ok (.int .i64 r1) W := field32 r1 r2
  go_wp2
  go_ret
  exact ⟨rfl, (show Below w.heap.size w _ from by repeat (first | exact Below.refl _ _ | refine Below.alloc ?_ (by simp <;> omega) _ | refine Below.setCell ?_ (by simp <;> omega) _ | apply Below.drew)).trans (below_weaken hb (by simp; omega))⟩
set_option maxHeartbeats 4000000 in
set_option maxRecDepth 100000 in
theorem worsto_calls (B0 B1 B2 B3 : Option Addr) (d0 d1 d2 d3 mm cl : Nat) (l0 : List S92) (l1 : List S90) (l2 : List S43) (at_ : Int) (a : Nat) (w : World) (hG : GOK w) (hr0 : FRow e92 2 w B0 l0) (hc0 : l0.length ≤ d0) (hok : okBook l0 l1 l2 = true) (hm : w.heap[mm]? = some (.map (bareMap l0.length).toArray cl)) (hF : FRow encI 60 w B3 (truthsAll l0 l1 l2 [])) (hT : 0 < (truthsAll l0 l1 l2 []).length) (hcd : (truthsAll l0 l1 l2 []).length ≤ d3) (hca : w.cell? ⟨a, 0, none⟩ = some (.int .i64 at_)) :
    Calls Tryd.prog 98 #[.agg #[.slice B0 l0.length d0, .slice B1 l1.length d1, .slice B2 l2.length d2, .map (some mm), .slice B3 (truthsAll l0 l1 l2 []).length d3], .agg #[.func (.func 131) #[] #[.pointer (some ⟨a, 0, none⟩)]]] w fun e w' => e = .returned (.int .i64 (spanF (worst1F l0 l1.length (onF at_)) (truthsAll l0 l1 l2 []) (worst1F l0 l1.length (onF at_) ((truthsAll l0 l1 l2 []).headD []))).1) ∧ Below w.heap.size w w' := by
  obtain ⟨o1, o2, o3, o4, o5, o6, o7⟩ := ok_facts hok
  obtain ⟨r1, hr1⟩ : ∃ x, x = (spanF (worst1F l0 l1.length (onF at_)) (truthsAll l0 l1 l2 []) (worst1F l0 l1.length (onF at_) ((truthsAll l0 l1 l2 []).headD []))).1 := ⟨_, rfl⟩
  obtain ⟨r2, hr2⟩ : ∃ x, x = (spanF (worst1F l0 l1.length (onF at_)) (truthsAll l0 l1 l2 []) (worst1F l0 l1.length (onF at_) ((truthsAll l0 l1 l2 []).headD []))).2 := ⟨_, rfl⟩
  have HSP : Hid (∀ (W : World) (p q : Nat), Below w.heap.size w W → W.heap[p]? = some (.cells #[.slice B0 l0.length d0, .slice B1 l1.length d1, .slice B2 l2.length d2, .map (some mm), .slice B3 (truthsAll l0 l1 l2 []).length d3] 107 (0, 0)) → W.heap[q]? = some (.cells #[.func (.func 131) #[] #[.pointer (some ⟨a, 0, none⟩)]] 142 (0, 0)) →
      Calls Tryd.prog 82 #[.agg #[.slice B0 l0.length d0, .slice B1 l1.length d1, .slice B2 l2.length d2, .map (some mm), .slice B3 (truthsAll l0 l1 l2 []).length d3], .func (.func 128) #[] #[.pointer (some ⟨p, 0, none⟩), .pointer (some ⟨q, 0, none⟩)]] W fun e w' => e = .returned (.agg #[.int .i64 r1, .int .i64 r2]) ∧ Below W.heap.size W w') := by
    refine Lib.hid fun W p q hW hp hq => ?_
    rw [hr1, hr2]
    refine span_128 B0 B1 B2 B3 l0.length d0 l1.length d1 l2.length d2 d3 (some mm) (truthsAll l0 l1 l2 []) (.pointer (some ⟨p, 0, none⟩)) (.pointer (some ⟨q, 0, none⟩)) (worst1F l0 l1.length (onF at_)) W (hF.below hW) (truthsAll_60 o3) hT hcd (truthsAll_len hok) (fun W' hW' t ht => ?_)
    have hWW := hW.trans (below_weaken hW' hW.size)
    exact worst1o_calls B0 B1 B2 B3 d0 l1.length d1 l2.length d2 (truthsAll l0 l1 l2 []).length d3 mm cl p q l0 t at_ a W' (hG.below hWW) (hr0.below hWW) hc0 o1 o2 ((hWW.block mm (Array.getElem?_eq_some_iff.1 hm).1).trans hm) o3 (truthsAll_60 o3 t ht) (fun d hd => truths_wagons hok hd t ht) (fun d hd => truths_sky o3 hd t ht) (blk_below hp hW') (blk_below hq hW') ((hWW.cell (p := ⟨a, 0, none⟩) (World.block_lt_of_cell? w ⟨a, 0, none⟩ hca)).trans hca) (Nat.lt_of_lt_of_le (World.block_lt_of_cell? w ⟨a, 0, none⟩ hca) hWW.size)
  rw [← hr1]
  clear hr1 hr2 hG hr0 hm hF hT hcd o1 o2 o3 o4 o5 o6 o7 hok hca
  go_enter Tryd.func98, Tryd.ntmps98
  go_wp2_with fail
  refine (HSP.out _ w.heap.size (w.heap.size + 1) ?hw (blk_alloc (blk_new w _) _) (blk_at _ _ _ (by simp))).mono ?_
  (case hw => exact by repeat (first | exact Below.refl _ _ | refine Below.alloc ?_ (by simp <;> omega) _ | refine Below.setCell ?_ (by simp <;> omega) _ | apply Below.drew))
  rintro e w6 ⟨rfl, hb⟩
  have hfl : ∀ W, (Instr.field 32 (.agg #[.int .i64 r1, .int .i64 r2]) 0).run Tryd.prog W = .ok (.int .i64 r1) W := field32 r1 r2
  go_wp2
  go_ret
  exact ⟨rfl, (show Below w.heap.size w _ from by repeat (first | exact Below.refl _ _ | refine Below.alloc ?_ (by simp <;> omega) _ | refine Below.setCell ?_ (by simp <;> omega) _ | apply Below.drew)).trans (below_weaken hb (by simp; omega))⟩
end Go.Proofs.YthgjedagbgmgmaaDoor.Pr
namespace Go.Proofs.YthgjedagbgmgmaaDoor.Pr
open Go.RowKit Go.Proofs.YthgjedagbgmgmaaDoorW.PrintWords Go.Proofs.YthgjedagbgmgmaaDoorW.PrintLast Go.Proofs.YthgjedagbgmgmaaDoorW.PrintMore
set_option linter.unusedVariables false
set_option linter.unusedSimpArgs false
set_option maxHeartbeats 4000000 in
set_option maxRecDepth 100000 in
theorem water_calls (A0 A1 A2 : Option Addr) (c0 c1 c2 : Nat) (l0 : List S92) (l1 : List S90) (l2 : List S43) (w : World) (hG : GOK w) (hr0 : Kd.C k92 w A0 l0.length l0) (hc0 : l0.length ≤ c0) (hr1 : Kd.C k90 w A1 l1.length l1) (hc1 : l1.length ≤ c1) (hr2 : Kd.C k43 w A2 l2.length l2) (hc2 : l2.length ≤ c2) :
    Calls Tryd.prog 36 #[.agg #[.slice A0 l0.length c0, .slice A1 l1.length c1, .slice A2 l2.length c2]] w fun e w' => e = .returned (.tuple #[.int .i64 (waterF l0 l1 l2).1, .int .i64 (waterF l0 l1 l2).2]) ∧ Below w.heap.size w w' := by
  have h0 : (l0.length : Int) ≤ 9223372036854775807 := by have := hr0.2.1; omega
  have h1 : (l1.length : Int) ≤ 9223372036854775807 := by have := hr1.2.1; omega
  have h2 : (l2.length : Int) ≤ 9223372036854775807 := by have := hr2.2.1; omega
  have HASK := Lib.hid (ask_calls A0 A1 A2 c0 c1 c2 l0 l1 l2 w hG hr0 hc0 hr1 hc1 hr2 hc2 h0 h1 h2 true)
  have HG := Lib.hid hG
  have HR0 := Lib.hid (row92 hr0)
  unfold waterF
  obtain ⟨code, hcode⟩ : ∃ c, c = askCode l0 l1 l2 true := ⟨_, rfl⟩
  rw [← hcode]
  rw [← hcode] at HASK
  have HCODE := Lib.hid hcode
  clear hG hr0 hr1 hr2 hcode h0 h2
  by_cases hz : code = 0
  · rw [if_pos hz]
    obtain ⟨ra, hra⟩ : ∃ x, x = (wRes (waterBest (fun d => worstF l0 l1.length (onF d) (truthsAll l0 l1 l2 [])) l1.length 0 (-1, worstF l0 l1.length neverF (truthsAll l0 l1 l2 [])))).1 := ⟨_, rfl⟩
    obtain ⟨rb, hrb⟩ : ∃ x, x = (wRes (waterBest (fun d => worstF l0 l1.length (onF d) (truthsAll l0 l1 l2 [])) l1.length 0 (-1, worstF l0 l1.length neverF (truthsAll l0 l1 l2 [])))).2 := ⟨_, rfl⟩
    rw [← hra, ← hrb]
    have HRA := Lib.hid hra
    have HRB := Lib.hid hrb
    clear hra hrb
    have ht : (code != 0) = false := by simpa using hz
    obtain ⟨hok, _, hT0⟩ := askCode_zero (HCODE.out.symm.trans hz)
    obtain ⟨o1, o2, o3, o4, o5, o6, o7⟩ := ok_facts hok
    have HOK := Lib.hid hok
    have HT0 := Lib.hid hT0
    have HZ := Lib.hid hz
    clear hz hok o5 o6 o7 o1 hT0 h1
    go_enter Tryd.func36, Tryd.ntmps36
    go_wp2_with fail
    refine (HASK.out _ ?hw).mono ?_
    (case hw => exact by repeat (first | exact Below.refl _ _ | refine Below.alloc ?_ (by simp <;> omega) _ | refine Below.setCell ?_ (by simp <;> omega) _ | apply Below.drew))
    rintro e w6 ⟨v, rfl, hP, hb⟩
    obtain ⟨B0, n0, d0, B1, n1, d1, B2, n2, d2, mp, B3, n3, d3, rfl, hP⟩ := hP
    obtain ⟨rfl, rfl, rfl, rfl, rfl, rfl, rfl, rfl, rfl, rfl, ho, mm, rfl, _, hmm⟩ := hP HZ.out
    have hg2 : w6.heap[w.heap.size]? = some (.cells #[.slice B0 l0.length d0, .slice B1 l1.length d1, .slice B2 l2.length d2] 26 (0, 0)) := blk_below (blk_new w _) hb
    have HB6 := Lib.hid ((show Below w.heap.size w _ from by repeat (first | exact Below.refl _ _ | refine Below.alloc ?_ (by simp <;> omega) _ | refine Below.setCell ?_ (by simp <;> omega) _ | apply Below.drew)).trans (below_weaken hb (by simp)))
    obtain ⟨hF, _, hcd⟩ := frow_own ho (truthsAll_60 o3)
    have HWN : Hid (∀ W, Below w6.heap.size w6 W → Calls Tryd.prog 98 #[.agg #[.slice B0 l0.length d0, .slice B1 l1.length d1, .slice B2 l2.length d2, .map (some mm), .slice B3 (truthsAll l0 l1 l2 []).length d3], .agg #[.func (.func 130) #[] #[]]] W fun e w' => e = .returned (.int .i64 (worstF l0 l1.length neverF (truthsAll l0 l1 l2 []))) ∧ Below W.heap.size W w') :=
      Lib.hid fun W hW => worstn_calls B0 B1 B2 B3 d0 d1 d2 d3 mm l0.length l0 l1 l2 W ((HG.out.below HB6.out).below hW) ((HR0.out.below HB6.out).below hW) hc0 HOK.out ((hW.block mm (Array.getElem?_eq_some_iff.1 hmm).1).trans hmm) (hF.below hW) HT0.out hcd
    have HWO : Hid (∀ (W : World) (a : Nat) (d : Int), Below w6.heap.size w6 W → W.cell? ⟨a, 0, none⟩ = some (.int .i64 d) → Calls Tryd.prog 98 #[.agg #[.slice B0 l0.length d0, .slice B1 l1.length d1, .slice B2 l2.length d2, .map (some mm), .slice B3 (truthsAll l0 l1 l2 []).length d3], .agg #[.func (.func 131) #[] #[.pointer (some ⟨a, 0, none⟩)]]] W fun e w' => e = .returned (.int .i64 (worstF l0 l1.length (onF d) (truthsAll l0 l1 l2 []))) ∧ Below W.heap.size W w') :=
      Lib.hid fun W a d hW hca => worsto_calls B0 B1 B2 B3 d0 d1 d2 d3 mm l0.length l0 l1 l2 d a W ((HG.out.below HB6.out).below hW) ((HR0.out.below HB6.out).below hW) hc0 HOK.out ((hW.block mm (Array.getElem?_eq_some_iff.1 hmm).1).trans hmm) (hF.below hW) HT0.out hcd hca
    obtain ⟨x0, hx0⟩ : ∃ x, x = worstF l0 l1.length neverF (truthsAll l0 l1 l2 []) := ⟨_, rfl⟩
    obtain ⟨g, hg⟩ : ∃ g : Int → Int, g = fun d => worstF l0 l1.length (onF d) (truthsAll l0 l1 l2 []) := ⟨_, rfl⟩
    have hge : ∀ d, worstF l0 l1.length (onF d) (truthsAll l0 l1 l2 []) = g d := fun d => by rw [hg]
    simp only [hge] at HWO
    rw [← hx0] at HWN
    have HX0 := Lib.hid hx0
    have HG2 := Lib.hid hg2
    have HRES : Hid (∀ b : Int × Int, waterBest g l1.length 0 (-1, x0) = b → ra = (wRes b).1 ∧ rb = (wRes b).2) :=
      Lib.hid fun b hb => by rw [HRA.out, HRB.out, ← HX0.out, ← hg, hb]; exact ⟨rfl, rfl⟩
    clear hx0 hg hge hP ho hF hcd hg2 hb hmm HOK HT0
    go_upto_region 4 with fail
    obtain ⟨wP, hwP⟩ : ∃ W, W = w6.alloc (.cells #[.slice B0 l0.length d0, .slice B1 l1.length d1, .slice B2 l2.length d2, .map (some mm), .slice B3 (truthsAll l0 l1 l2 []).length d3] 107) := ⟨_, rfl⟩
    rw [← hwP]
    have HGP := Lib.hid (show wP.drew.heap[w6.heap.size]? = some (.cells #[.slice B0 l0.length d0, .slice B1 l1.length d1, .slice B2 l2.length d2, .map (some mm), .slice B3 (truthsAll l0 l1 l2 []).length d3] 107 (0, 0)) by rw [hwP]; exact blk_new _ _)
    have hBP : Below w6.heap.size w6 wP.drew := by rw [hwP]; exact by repeat (first | exact Below.refl _ _ | refine Below.alloc ?_ (by simp <;> omega) _ | refine Below.setCell ?_ (by simp <;> omega) _ | apply Below.drew)
    have HBP := Lib.hid hBP
    clear hwP hBP
    refine start_ (n := 5) (S := fun w' => w'.cell? ⟨w6.heap.size, 0, none⟩ = some (.slice B0 l0.length d0) ∧ w'.cell? ⟨w6.heap.size, 1, none⟩ = some (.slice B1 l1.length d1) ∧ w'.cell? ⟨w6.heap.size, 2, none⟩ = some (.slice B2 l2.length d2) ∧ w'.cell? ⟨w6.heap.size, 3, none⟩ = some (.map (some mm)) ∧ w'.cell? ⟨w6.heap.size, 4, none⟩ = some (.slice B3 (truthsAll l0 l1 l2 []).length d3)) (ds := []) #[false, false, false, false, false] (by kernel_rfl) rfl rfl ⟨(blk_cell HGP.out 0).trans rfl, (blk_cell HGP.out 1).trans rfl, (blk_cell HGP.out 2).trans rfl, (blk_cell HGP.out 3).trans rfl, (blk_cell HGP.out 4).trans rfl⟩ (fun hHeld => ?_)
    refine ta_ 0 (some 18) (s := hHeld) (y := by rintro w' ⟨s0, s1, s2, s3, s4⟩; go_simp; with_reducible rfl) (h := ?_)
    refine one_ (i := 1) (N := some 19) #[true, true, false, false, false] rfl rfl (by kernel_rfl) (by decide) (fun K hK => ?_)
    refine goes_ Tryd.func99 (by kernel_rfl) rfl #[] (by rfl) rfl rfl (by simp only [List.map_toArray, List.map_nil]) ?_
    refine (never_calls _).mono ?_
    rintro e w7 ⟨rfl, hb⟩
    refine ⟨_, rfl, ?_⟩
    have h7 := blk_below HGP.out hb
    have HB7 := Lib.hid (HBP.out.trans (below_weaken hb HBP.out.size))
    refine hK.out _ _ ⟨(blk_cell h7 0).trans rfl, (blk_cell h7 1).trans rfl, (blk_cell h7 2).trans rfl, (blk_cell h7 3).trans rfl, (blk_cell h7 4).trans rfl⟩ (fun hHeld => ?_)
    clear hK K
    refine no_ 19 ?_
    refine one_ (i := 2) (N := some 20) #[true, true, true, false, false] rfl rfl (by kernel_rfl) (by decide) (fun K hK => ?_)
    refine goes_ Tryd.func98 (by kernel_rfl) rfl #[.agg #[.slice B0 l0.length d0, .slice B1 l1.length d1, .slice B2 l2.length d2, .map (some mm), .slice B3 (truthsAll l0 l1 l2 []).length d3], .agg #[.func (.func 130) #[] #[]]] (by rfl) rfl rfl (by simp only [List.map_toArray, List.map_cons, List.map_nil]; rfl) ?_
    refine (HWN.out _ HB7.out).mono ?_
    rintro e w8 ⟨rfl, hb8⟩
    refine ⟨_, rfl, ?_⟩
    have h8 := blk_below h7 hb8
    have HB8 := Lib.hid (HB7.out.trans (below_weaken hb8 HB7.out.size))
    refine hK.out _ _ ⟨(blk_cell h8 0).trans rfl, (blk_cell h8 1).trans rfl, (blk_cell h8 2).trans rfl, (blk_cell h8 3).trans rfl, (blk_cell h8 4).trans rfl⟩ (fun hHeld => ?_)
    clear hK K
    refine no_ 20 ?_
    refine pu_ 3 (some 6) ?_
    refine pu_ 4 (some 7) ?_
    refine done_ (by kernel_rfl) ?_

    have h20 := blk_below HG2.out HB8.out
    have c20 := (blk_cell h20 1).trans rfl
    have HG28 := Lib.hid h20
    have HG8 := Lib.hid h8
    clear h20 h8 h7 hb hb8
    go_wp2
    clear c20
    go_loopg [6, 7, 24] (l1.length) (fun gk v6 v7 v24 wr => ∃ (k : Nat) (s1 s2 : Int), v6 = .int .i64 s1 ∧ v7 = .int .i64 s2 ∧ v24 = .int .i64 k ∧ Aside0 (k + gk = l1.length) ∧ Aside0 (waterBest g l1.length 0 (-1, x0) = waterBest g gk k (s1, s2)) ∧ Aside0 (wr.heap[w6.heap.size]? = some (.cells #[.slice B0 l0.length d0, .slice B1 l1.length d1, .slice B2 l2.length d2, .map (some mm), .slice B3 (truthsAll l0 l1 l2 []).length d3] 107 (0, 0))) ∧ Aside0 (Below w6.heap.size w6 wr))
    case atStart => exact ⟨0, -1, x0, rfl, rfl, rfl, ⟨by omega⟩, ⟨rfl⟩, ⟨HG8.out⟩, ⟨HB8.out⟩⟩
    case round =>
      obtain ⟨k, s1, s2, rfl, rfl, rfl, HK, HS, HG6R, HBR⟩ := hrel
      cases gk with
      | zero =>
        have hge : ¬ k < l1.length := by have := HK.out; omega
        have HR := Lib.hid (HRES.out (s1, s2) HS.out)
        rcases Int.lt_or_le s1 0 with hs | hs
        · go_wp2
          go_ret2
          refine ⟨?_, HB6.out.trans (below_weaken HBR.out HB6.out.size)⟩
          rw [HR.out.1, HR.out.2, wRes_none hs]
          rfl
        · go_wp2
          go_ret2
          refine ⟨?_, HB6.out.trans (below_weaken HBR.out HB6.out.size)⟩
          rw [HR.out.1, HR.out.2, wRes_some hs]
          rfl
      | succ g1 =>
        have hlt : k < l1.length := by have := HK.out; omega
        obtain ⟨x, hx⟩ : ∃ x, x = g (k : Int) := ⟨_, rfl⟩
        have HWO1 : Hid (∀ (W : World) (a : Nat), Below w6.heap.size w6 W → W.cell? ⟨a, 0, none⟩ = some (.int .i64 (k : Int)) → Calls Tryd.prog 98 #[.agg #[.slice B0 l0.length d0, .slice B1 l1.length d1, .slice B2 l2.length d2, .map (some mm), .slice B3 (truthsAll l0 l1 l2 []).length d3], .agg #[.func (.func 131) #[] #[.pointer (some ⟨a, 0, none⟩)]]] W fun e w' => e = .returned (.int .i64 x) ∧ Below W.heap.size W w') := by
          refine Lib.hid fun W a hW hca => ?_
          rw [hx]
          exact HWO.out W a k hW hca
        have HX := Lib.hid hx
        clear hx
        go_upto_region 8 with fail
        have hBP : Below wr.heap.size wr wr.drew := by repeat (first | exact Below.refl _ _ | refine Below.alloc ?_ (by simp <;> omega) _ | refine Below.setCell ?_ (by simp <;> omega) _ | apply Below.drew)
        have HGP := Lib.hid (blk_below HG6R.out hBP)
        have HBP := Lib.hid (HBR.out.trans (below_weaken hBP HBR.out.size))
        clear hBP
        refine start_ (n := 5) (S := fun w' => w'.cell? ⟨w6.heap.size, 0, none⟩ = some (.slice B0 l0.length d0) ∧ w'.cell? ⟨w6.heap.size, 1, none⟩ = some (.slice B1 l1.length d1) ∧ w'.cell? ⟨w6.heap.size, 2, none⟩ = some (.slice B2 l2.length d2) ∧ w'.cell? ⟨w6.heap.size, 3, none⟩ = some (.map (some mm)) ∧ w'.cell? ⟨w6.heap.size, 4, none⟩ = some (.slice B3 (truthsAll l0 l1 l2 []).length d3)) (ds := []) #[false, false, false, false, false] (by kernel_rfl) rfl rfl ⟨(blk_cell HGP.out 0).trans rfl, (blk_cell HGP.out 1).trans rfl, (blk_cell HGP.out 2).trans rfl, (blk_cell HGP.out 3).trans rfl, (blk_cell HGP.out 4).trans rfl⟩ (fun hHeld => ?_)
        refine pu_ 1 (some 28) ?_
        refine ta_ 0 (some 27) (s := hHeld) (y := by rintro w' ⟨s0, s1, s2, s3, s4⟩; go_simp; with_reducible rfl) (h := ?_)
        refine one_ (i := 2) (N := some 29) #[true, true, true, false, false] rfl rfl (by kernel_rfl) (by decide) (fun K hK => ?_)
        refine goes_ Tryd.func100 (by kernel_rfl) rfl #[.int .i64 (k : Int)] (by rfl) rfl rfl (by simp only [List.map_toArray, List.map_cons, List.map_nil]; rfl) ?_
        refine (on_calls (k : Int) _).mono ?_
        rintro e w7 ⟨rfl, hb, hcell, _⟩
        refine ⟨_, rfl, ?_⟩
        have h7 := blk_below HGP.out hb
        have HB7 := Lib.hid (HBP.out.trans (below_weaken hb HBP.out.size))
        have HCELL := Lib.hid hcell
        refine hK.out _ _ ⟨(blk_cell h7 0).trans rfl, (blk_cell h7 1).trans rfl, (blk_cell h7 2).trans rfl, (blk_cell h7 3).trans rfl, (blk_cell h7 4).trans rfl⟩ (fun hHeld => ?_)
        clear hK K
        refine no_ 29 ?_
        refine one_ (i := 3) (N := some 30) #[true, true, true, true, false] rfl rfl (by kernel_rfl) (by decide) (fun K hK => ?_)
        refine goes_ Tryd.func98 (by kernel_rfl) rfl #[.agg #[.slice B0 l0.length d0, .slice B1 l1.length d1, .slice B2 l2.length d2, .map (some mm), .slice B3 (truthsAll l0 l1 l2 []).length d3], .agg #[.func (.func 131) #[] #[.pointer (some ⟨wr.drew.heap.size, 0, none⟩)]]] (by rfl) rfl rfl (by simp only [List.map_toArray, List.map_cons, List.map_nil]; rfl) ?_
        refine (HWO1.out _ _ HB7.out HCELL.out).mono ?_
        rintro e w8 ⟨rfl, hb8⟩
        refine ⟨_, rfl, ?_⟩
        have h8 := blk_below h7 hb8
        have HB8 := Lib.hid (HB7.out.trans (below_weaken hb8 HB7.out.size))
        refine hK.out _ _ ⟨(blk_cell h8 0).trans rfl, (blk_cell h8 1).trans rfl, (blk_cell h8 2).trans rfl, (blk_cell h8 3).trans rfl, (blk_cell h8 4).trans rfl⟩ (fun hHeld => ?_)
        clear hK K
        refine no_ 30 ?_
        refine pu_ 4 (some 9) ?_
        refine done_ (by kernel_rfl) ?_

        have HG8R := Lib.hid h8
        clear h8 h7 hb hb8 hcell
        rcases Int.lt_or_le s2 x with hs | hs
        · go_wp2
          go_roundg g1
          case measure => omega
          case rel =>
            refine ⟨k + 1, (k : Int), x, rfl, rfl, by go_num, ⟨by have := HK.out; omega⟩, ⟨?_⟩, ⟨HG8R.out⟩, ⟨HB8.out⟩⟩
            rw [HS.out]
            exact waterBest_yes HX.out hs
        · go_wp2
          go_roundg g1
          case measure => omega
          case rel =>
            refine ⟨k + 1, s1, s2, rfl, rfl, by go_num, ⟨by have := HK.out; omega⟩, ⟨?_⟩, ⟨HG8R.out⟩, ⟨HB8.out⟩⟩
            rw [HS.out]
            exact waterBest_no HX.out hs
  · rw [if_neg hz]
    have ht : (code != 0) = true := by simpa using hz
    go_enter Tryd.func36, Tryd.ntmps36
    go_wp2_with fail
    refine (HASK.out _ ?hw).mono ?_
    (case hw => exact by repeat (first | exact Below.refl _ _ | refine Below.alloc ?_ (by simp <;> omega) _ | refine Below.setCell ?_ (by simp <;> omega) _ | apply Below.drew))
    rintro e w6 ⟨v, rfl, hP, hb⟩
    obtain ⟨B0, n0, d0, B1, n1, d1, B2, n2, d2, mp, B3, n3, d3, rfl, hP⟩ := hP
    have HB6 := Lib.hid ((show Below w.heap.size w _ from by repeat (first | exact Below.refl _ _ | refine Below.alloc ?_ (by simp <;> omega) _ | refine Below.setCell ?_ (by simp <;> omega) _ | apply Below.drew)).trans (below_weaken hb (by simp)))
    clear hb hP
    go_wp2
    go_ret2
    exact ⟨rfl, HB6.out.alloc HB6.out.size _⟩
end Go.Proofs.YthgjedagbgmgmaaDoor.Pr
namespace Go.Proofs.YthgjedagbgmgmaaDoor.Pr
open Go.RowKit Go.Proofs.YthgjedagbgmgmaaDoorW.PrintWords Go.Proofs.YthgjedagbgmgmaaDoorW.PrintLast Go.Proofs.YthgjedagbgmgmaaDoorW.PrintMore
set_option linter.unusedVariables false
set_option linter.unusedSimpArgs false
theorem flat_length {α : Type} {enc : α → List Value} {sz : Nat} (h : ∀ x, (enc x).length = sz) (xs : List α) : (xs.flatMap enc).length = xs.length * sz := by
  induction xs with
  | nil => simp
  | cons x xs ih => rw [List.flatMap_cons, List.length_append, ih, h, List.length_cons, Nat.succ_mul]; omega
theorem e43_len (x : S43) : (e43 x).length = 2 := rfl
theorem eI_len (x : Int) : (eI x).length = 1 := rfl
/-- The cells of a row of elements. -/
theorem row_flat {α : Type} {enc : α → List Value} {sz : Nat} (he : ∀ x, (enc x).length = sz) {w : World} {b : Nat} : ∀ (xs : List α) (o : Nat), (∀ i x, xs[i]? = some x → w.rangeAt b (o + i * sz) (enc x)) → ∀ j u, (xs.flatMap enc)[j]? = some u → w.cell? ⟨b, o + j, none⟩ = some u := by
  intro xs
  induction xs with
  | nil => intro o _ j u hj; simp at hj
  | cons x xs ih =>
    intro o h j u hj
    rw [List.flatMap_cons, List.getElem?_append] at hj
    split at hj
    · have := h 0 x rfl j u hj
      rwa [Nat.zero_mul, Nat.add_zero] at this
    · rename_i hlt
      rw [he] at hj hlt
      have := ih (o + sz) (fun i y hy => by
        have := h (i + 1) y (by simpa using hy)
        rwa [Nat.succ_mul, Nat.add_comm (i * sz) sz, ← Nat.add_assoc] at this) (j - sz) u hj
      rwa [show o + sz + (j - sz) = o + j by omega] at this
theorem frow_flat {α : Type} {enc : α → List Value} {sz : Nat} (he : ∀ x, (enc x).length = sz) {w : World} {A : Option Addr} {xs : List α} (h : FRow enc sz w A xs) : ∀ b, A = some b → ∀ j u, (xs.flatMap enc)[j]? = some u → w.cell? (b.add j) = some u := by
  intro b hb j u hj
  rcases h with rfl | ⟨g, o, e, _, hc⟩
  · simp at hj
  · rw [hb] at e
    injection e with e
    subst e
    rw [Addr.add_mid]
    exact row_flat he xs o hc j u hj
theorem frow_own' {α : Type} {enc : α → List Value} {sz : Nat} (he : ∀ x, (enc x).length = sz) (hs : 0 < sz) {W : World} {base : Nat} {e : TypeId} {v : Value} {n : Nat} {T : List α} (h : W.ownsRow base e sz v n (T.flatMap enc)) : n = T.length ∧ ∃ A c, v = .slice A T.length c ∧ FRow enc sz W A T ∧ T.length ≤ c := by
  have hl := flat_length he T
  have hn : n = T.length := by
    have := h.1
    rw [hl] at this
    exact (Nat.eq_of_mul_eq_mul_right hs this).symm
  refine ⟨hn, ?_⟩
  rcases h.2 with ⟨e1, h0⟩ | ⟨g, cap, cur, e1, h1, h2, h3, h4, h5, h6⟩
  · have : T.length = 0 := by omega
    exact ⟨none, 0, by rw [e1, this], .inl (List.length_eq_zero_iff.1 this), by omega⟩
  · refine ⟨some ⟨g, 0, none⟩, cap, by rw [e1, hn], .inr ⟨g, 0, rfl, (Array.getElem?_eq_some_iff.1 h2).1, fun i x hx j v hj => ?_⟩, by omega⟩
    rw [cell_of_row W g _ cur e (0, 0) h2, Nat.zero_add]
    have hf := take_drop_flat (xs := T.map enc) (s := sz) (fun y hy => by obtain ⟨x, _, rfl⟩ := List.mem_map.1 hy; exact he x) i (enc x) (by rw [List.getElem?_map, hx]; rfl) j v hj
    rw [← List.flatMap_def, ← h6] at hf
    rw [List.getElem?_take] at hf
    split at hf
    · simpa using hf
    · simp at hf
theorem frow_at {α : Type} {enc : α → List Value} {sz : Nat} (he : ∀ x, (enc x).length = sz) (hs : 0 < sz) {W : World} {base : Nat} {e : TypeId} {A : Option Addr} {n c m : Nat} {T : List α} (h : W.ownsRow base e sz (.slice A n c) m (T.flatMap enc)) : FRow enc sz W A T := by
  obtain ⟨_, A', c', e1, hF, _⟩ := frow_own' he hs h
  injection e1 with e1 e2 e3
  rw [e1]
  exact hF
theorem nil_none {α : Type} {d : Kd α} {w : World} {A : Option Addr} {xs : List α} (h : Kd.C d w A xs.length xs) (hA : A = none) : xs.length = 0 := by
  by_cases hn : xs.length = 0
  · exact hn
  · obtain ⟨ad, e, _⟩ := h.2.2 (by omega)
    rw [hA] at e
    cases e
/-- Can a look be right? -/
def fitsF (ls : List S92) (ds : List S90) (ks : List S43) (x : S43) : Bool × Int :=
  if askCode ls ds ks (okLook ls.length ds.length x) = 0 then (decide (0 < (truthsAll ls ds (ks ++ [x]) []).length), 0) else (false, askCode ls ds ks (okLook ls.length ds.length x))
theorem inf43 : (Tryd.prog.info? 43).map (fun i => (i.zero, i.size, i.bytes)) = some (some (.agg #[.int .i64 0, .int .i64 0]), 2, 16) := by kernel_rfl
set_option maxHeartbeats 4000000 in
set_option maxRecDepth 100000 in
theorem fits_calls (A0 A1 A2 : Option Addr) (c0 c1 c2 : Nat) (l0 : List S92) (l1 : List S90) (l2 : List S43) (w : World) (hG : GOK w) (hr0 : Kd.C k92 w A0 l0.length l0) (hc0 : l0.length ≤ c0) (hr1 : Kd.C k90 w A1 l1.length l1) (hc1 : l1.length ≤ c1) (hr2 : Kd.C k43 w A2 l2.length l2) (hc2 : l2.length ≤ c2) (lx : S43) :
    Calls Tryd.prog 38 #[.agg #[.slice A0 l0.length c0, .slice A1 l1.length c1, .slice A2 l2.length c2], .agg #[.int .i64 lx.f0, .int .i64 lx.f1]] w fun e w' => e = .returned (.tuple #[.bool (fitsF l0 l1 l2 lx).1, .int .i64 (fitsF l0 l1 l2 lx).2]) ∧ Below w.heap.size w w' := by
  have h0 : (l0.length : Int) ≤ 9223372036854775807 := by have := hr0.2.1; omega
  have h1 : (l1.length : Int) ≤ 9223372036854775807 := by have := hr1.2.1; omega
  have h2 : (l2.length : Int) ≤ 9223372036854775807 := by have := hr2.2.1; omega
  obtain ⟨qd, hqd⟩ : ∃ q, q = okLook l0.length l1.length lx := ⟨_, rfl⟩
  have HASK := Lib.hid (ask_calls A0 A1 A2 c0 c1 c2 l0 l1 l2 w hG hr0 hc0 hr1 hc1 hr2 hc2 h0 h1 h2 qd)
  have HLOOK : Hid (∀ W, Below w.heap.size w W → Calls Tryd.prog 78 #[.agg #[.slice A0 l0.length c0, .slice A1 l1.length c1, .slice A2 l2.length c2], .agg #[.int .i64 lx.f0, .int .i64 lx.f1]] W fun e w' => e = .returned (.bool qd) ∧ Below W.heap.size W w') :=
    Lib.hid fun W hW => by
      rw [hqd]
      exact roll_isLook.calls A0 c0 l0 A1 c1 l1 A2 c2 l2 lx.f0 lx.f1 _ W (Kd.C_below hr0 hW) hc0 (Kd.C_below hr1 hW) hc1 (Kd.C_below hr2 hW) hc2 (isLook_law l0 l1 l2 lx h1)
  have HNONE := Lib.hid (fun h : A2 = none => (show l2.length = 0 ∧ l2.length = 0 from ⟨nil_none hr2 h, nil_none hr2 h⟩))
  have HR0 := Lib.hid (row92 hr0)
  have HR1 := Lib.hid (row90 hr1)
  have HFLAT : Hid (∀ W, Below w.heap.size w W → ∀ b, A2 = some b → ∀ j u, (l2.flatMap e43)[j]? = some u → W.cell? (b.add j) = some u) :=
    Lib.hid fun W hW => frow_flat e43_len ((row43 hr2).below hW)
  have HG := Lib.hid hG
  obtain ⟨i43, hi43, hz0, hz1, hz2⟩ := info_parts inf43
  unfold fitsF
  rw [← hqd]
  have HQD := Lib.hid hqd
  obtain ⟨code, hcode⟩ : ∃ c, c = askCode l0 l1 l2 qd := ⟨_, rfl⟩
  rw [← hcode]
  rw [← hcode] at HASK
  have HCODE := Lib.hid hcode
  clear hG hr0 hr1 hr2 hqd hcode h0 h1 h2
  by_cases hz : code = 0
  · rw [if_pos hz]
    have ht : (code != 0) = false := by simpa using hz
    obtain ⟨hok, _, _⟩ := askCode_zero (HCODE.out.symm.trans hz)
    obtain ⟨o1, o2, o3, o4, o5, o6, o7⟩ := ok_facts hok
    obtain ⟨T, hT⟩ : ∃ T, T = truthsAll l0 l1 (l2 ++ [lx]) [] := ⟨_, rfl⟩
    rw [← hT]
    obtain ⟨q, hq⟩ : ∃ q, q = decide (0 < T.length) := ⟨_, rfl⟩
    rw [← hq]
    have hqi : decide ((0 : Int) < (T.length : Int)) = q := by rw [hq]; exact decide_eq_decide.2 (by omega)
    obtain ⟨n9, hn9⟩ : ∃ n, n = (l2 ++ [lx]).length := ⟨_, rfl⟩
    have HN9 : Hid ((l2 ++ [lx]).length = n9) := Lib.hid hn9.symm
    have HOP : Hid (∀ W A c, Below w.heap.size w W → FRow e43 2 W A (l2 ++ [lx]) → n9 ≤ c → Calls Tryd.prog 75 #[.agg #[.slice A0 l0.length c0, .slice A1 l1.length c1, .slice A n9 c], .slice none 0 0] W fun e W' => ∃ At ct m, e = .returned (.agg #[.slice A0 l0.length c0, .slice A1 l1.length c1, .slice A n9 c, .map (some m), .slice At T.length ct]) ∧ Below W.heap.size W W') :=
      Lib.hid fun W A c hW hr hc => by
        have hll := HN9.out
        have h := (opened_calls A0 A1 A none c0 c1 c 0 l0 l1 (l2 ++ [lx]) [] W (HG.out.below hW) (HR0.out.below hW) (HR1.out.below hW) hr (.inl rfl) hc0 (by rw [hll]; exact hc) (by simp) o1 o2 o3 (by simp; omega) (by simp) o6)
        rw [hll, ← hT] at h
        refine h.mono ?_
        rintro e W' ⟨At, ct, m, rfl, _, _, _, hb⟩
        exact ⟨At, ct, m, rfl, hb⟩
    have hfl : ∀ A c m A' ct W, (Instr.field 107 (.agg #[.slice A0 l0.length c0, .slice A1 l1.length c1, .slice A n9 c, .map (some m), .slice A' T.length ct]) 2).run Tryd.prog W = .ok (.slice A' T.length ct) W := fun _ _ _ _ _ _ => field107 _ _ _ _ _ _ _ _ _ _ _ _ _ _
    have HFL := Lib.hid hfl
    have HQ := Lib.hid hq
    have HQI := Lib.hid hqi
    have HZ := Lib.hid hz
    have hl5 : l2.length ≤ 4 := o5
    clear hT hn9 hq hqi hz hok o1 o2 o3 o4 o5 o6 o7 hfl
    go_enter Tryd.func38, Tryd.ntmps38
    go_upto_region 1 with fail
    obtain ⟨wP, hwP⟩ : ∃ W, W = ((w.alloc (.cells #[.slice A0 l0.length c0, .slice A1 l1.length c1, .slice A2 l2.length c2] 26)).alloc (.cells #[.int .i64 lx.f0, .int .i64 lx.f1] 43)) := ⟨_, rfl⟩
    rw [← hwP]
    have h2_ : wP.heap[w.heap.size]? = some (.cells #[.slice A0 l0.length c0, .slice A1 l1.length c1, .slice A2 l2.length c2] 26 (0, 0)) := by rw [hwP]; exact blk_alloc (blk_new _ _) _
    have h3_ : wP.heap[w.heap.size + 1]? = some (.cells #[.int .i64 lx.f0, .int .i64 lx.f1] 43 (0, 0)) := by rw [hwP]; exact blk_at (w.alloc _) _ _ (by simp)
    have hB_ : Below w.heap.size w wP.drew := by rw [hwP]; exact by repeat (first | exact Below.refl _ _ | refine Below.alloc ?_ (by simp <;> omega) _ | refine Below.setCell ?_ (by simp <;> omega) _ | apply Below.drew)
    clear hwP
    refine start_ (n := 11) (S := fun w' => w'.heap[w.heap.size]? = some (.cells #[.slice A0 l0.length c0, .slice A1 l1.length c1, .slice A2 l2.length c2] 26 (0, 0)) ∧ w'.heap[w.heap.size + 1]? = some (.cells #[.int .i64 lx.f0, .int .i64 lx.f1] 43 (0, 0)) ∧ Below w.heap.size w w' ∧ w'.cell? ⟨w.heap.size, 0, none⟩ = some (.slice A0 l0.length c0) ∧ w'.cell? ⟨w.heap.size, 1, none⟩ = some (.slice A1 l1.length c1) ∧ w'.cell? ⟨w.heap.size, 2, none⟩ = some (.slice A2 l2.length c2) ∧ w'.cell? ⟨w.heap.size + 1, 0, none⟩ = some (.int .i64 lx.f0) ∧ w'.cell? ⟨w.heap.size + 1, 1, none⟩ = some (.int .i64 lx.f1)) (ds := [9]) #[false, false, false, false, false, false, false, false, false, false, false] (by kernel_rfl) rfl rfl ⟨h2_, h3_, hB_, (blk_cell (h2_) 0).trans rfl, (blk_cell (h2_) 1).trans rfl, (blk_cell (h2_) 2).trans rfl, (blk_cell (h3_) 0).trans rfl, (blk_cell (h3_) 1).trans rfl⟩ (fun hHeld => ?_)
    refine ta_ 0 (some 9) (s := hHeld) (y := by rintro w' ⟨s0, s1, s2, s3, s4, s5, s6, s7⟩; go_simp; with_reducible rfl) (h := ?_)
    refine ta_ 1 (some 10) (s := hHeld) (y := by rintro w' ⟨s0, s1, s2, s3, s4, s5, s6, s7⟩; go_simp; with_reducible rfl) (h := ?_)
    refine ta_ 2 (some 11) (s := hHeld) (y := by rintro w' ⟨s0, s1, s2, s3, s4, s5, s6, s7⟩; go_simp; with_reducible rfl) (h := ?_)
    refine join_ (σ := Nat × Value) 2 #[true, true, true, true, true, true, true, true, true, false, false] (fun s => [(12, .bool qd), (13, .tuple #[s.2, .int .i64 code]), (8, .tuple #[s.2, .int .i64 code]), (14, s.2), (15, .int .i64 code), (6, .pointer (some ⟨s.1, 0, none⟩))]) (fun s w' => w'.heap[w.heap.size]? = some (.cells #[.slice A0 l0.length c0, .slice A1 l1.length c1, .slice A2 l2.length c2] 26 (0, 0)) ∧ w'.heap[w.heap.size + 1]? = some (.cells #[.int .i64 lx.f0, .int .i64 lx.f1] 43 (0, 0)) ∧ Below w.heap.size w w' ∧ w'.cell? ⟨w.heap.size, 0, none⟩ = some (.slice A0 l0.length c0) ∧ w'.cell? ⟨w.heap.size, 1, none⟩ = some (.slice A1 l1.length c1) ∧ w'.cell? ⟨w.heap.size, 2, none⟩ = some (.slice A2 l2.length c2) ∧ w'.cell? ⟨w.heap.size + 1, 0, none⟩ = some (.int .i64 lx.f0) ∧ w'.cell? ⟨w.heap.size + 1, 1, none⟩ = some (.int .i64 lx.f1) ∧ w'.heap[s.1]? = some (.cells #[.slice none 0 0, .slice none 0 0, .slice none 0 0, .map none, .slice none 0 0] 107 (0, 0)) ∧ w.heap.size ≤ s.1 ∧ AskP A0 A1 A2 c0 c1 c2 l0 l1 l2 w.heap.size code s.2 w') ?_ ?_
    rotate_left
    · intro hCont
      refine two_ (i := 3) (j := 8) (Ni := some 12) (Nj := some 6) #[true, true, true, true, false, false, false, false, false, false, false] #[true, true, true, false, false, false, false, false, true, false, false] rfl rfl rfl rfl (by kernel_rfl) (by decide) (by decide) (fun K hK => ?_) (fun K hK => ?_)
      · skip
        refine goes_ Tryd.func78 (by kernel_rfl) rfl #[.agg #[.slice A0 l0.length c0, .slice A1 l1.length c1, .slice A2 l2.length c2], .agg #[.int .i64 lx.f0, .int .i64 lx.f1]] (by rfl) rfl rfl (by simp only [List.map_toArray, List.map_cons, List.map_nil]; rfl) ?_
        refine (HLOOK.out _ hHeld.2.2.1).mono ?_
        rintro e w5 ⟨rfl, hb⟩
        refine ⟨_, rfl, ?_⟩
        refine hK.out _ _ ⟨blk_below hHeld.1 hb, blk_below hHeld.2.1 hb, hHeld.2.2.1.trans (below_weaken hb hHeld.2.2.1.size), (blk_cell (blk_below hHeld.1 hb) 0).trans rfl, (blk_cell (blk_below hHeld.1 hb) 1).trans rfl, (blk_cell (blk_below hHeld.1 hb) 2).trans rfl, (blk_cell (blk_below hHeld.2.1 hb) 0).trans rfl, (blk_cell (blk_below hHeld.2.1 hb) 1).trans rfl⟩ (fun hHeld => ?_)
        clear hK K
        refine no_ 12 ?_
        refine two_ (i := 4) (j := 8) (Ni := some 13) (Nj := some 6) #[true, true, true, true, true, false, false, false, false, false, false] #[true, true, true, true, false, false, false, false, true, false, false] rfl rfl rfl rfl (by kernel_rfl) (by decide) (by decide) (fun K hK => ?_) (fun K hK => ?_)
        · skip
          refine goes_ Tryd.func80 (by kernel_rfl) rfl #[.agg #[.slice A0 l0.length c0, .slice A1 l1.length c1, .slice A2 l2.length c2], .bool qd] (by rfl) rfl rfl (by simp only [List.map_toArray, List.map_cons, List.map_nil]; rfl) ?_
          refine (HASK.out _ hHeld.2.2.1).mono ?_
          rintro e w6 ⟨v, rfl, hP, hb⟩
          refine ⟨_, rfl, ?_⟩
          refine hK.out _ _ ⟨blk_below hHeld.1 hb, blk_below hHeld.2.1 hb, hHeld.2.2.1.trans (below_weaken hb hHeld.2.2.1.size), (blk_cell (blk_below hHeld.1 hb) 0).trans rfl, (blk_cell (blk_below hHeld.1 hb) 1).trans rfl, (blk_cell (blk_below hHeld.1 hb) 2).trans rfl, (blk_cell (blk_below hHeld.2.1 hb) 0).trans rfl, (blk_cell (blk_below hHeld.2.1 hb) 1).trans rfl⟩ (fun hHeld => ?_)
          clear hK K
          refine no_ 13 ?_
          refine pu_ 5 (some 8) ?_
          refine pu_ 6 (some 14) ?_
          refine pu_ 7 (some 15) ?_
          refine one_ (i := 8) (N := some 6) #[true, true, true, true, true, true, true, true, true, false, false] rfl rfl (by kernel_rfl) (by decide) (fun K hK => ?_)
          refine value_ (w1 := ?_) (v := ?_) (by rfl) rfl ?_ ?_
          rotate_left 2
          · go_simp
            constructor
            · rfl
            · rfl
          have lz : w.heap.size ≤ (w6).heap.size := hHeld.2.2.1.size
          have hal : Below (w6).heap.size (w6) ((w6).alloc (.cells #[.slice none 0 0, .slice none 0 0, .slice none 0 0, .map none, .slice none 0 0] 107)) := (Below.refl _ _).alloc (Nat.le_refl _) _
          have q8 := blk_new (w6) (.cells #[.slice none 0 0, .slice none 0 0, .slice none 0 0, .map none, .slice none 0 0] 107)
          have hP8 := hP.below hal
          refine hK.out _ _ ⟨blk_below hHeld.1 hal, blk_below hHeld.2.1 hal, hHeld.2.2.1.trans (below_weaken hal hHeld.2.2.1.size), (blk_cell (blk_below hHeld.1 hal) 0).trans rfl, (blk_cell (blk_below hHeld.1 hal) 1).trans rfl, (blk_cell (blk_below hHeld.1 hal) 2).trans rfl, (blk_cell (blk_below hHeld.2.1 hal) 0).trans rfl, (blk_cell (blk_below hHeld.2.1 hal) 1).trans rfl⟩ (fun hHeld => ?_)
          clear hK K
          refine no_ 6 ?_
          exact norm_ (by first | (simp only [putAll, Act.put, List.setIfInBounds_toArray, List.set_cons_zero, List.set_cons_succ]; done) | (simp only [putAll, Act.put, List.setIfInBounds_toArray, List.set_cons_zero, List.set_cons_succ]; rfl)) (hCont (w6.heap.size, v) _ ⟨hHeld.1, hHeld.2.1, hHeld.2.2.1, hHeld.2.2.2.1, hHeld.2.2.2.2.1, hHeld.2.2.2.2.2.1, hHeld.2.2.2.2.2.2.1, hHeld.2.2.2.2.2.2.2, q8, lz, hP8⟩)
        · skip
          refine value_ (w1 := ?_) (v := ?_) (by rfl) rfl ?_ ?_
          rotate_left 2
          · go_simp
            constructor
            · rfl
            · rfl
          have lz : w.heap.size ≤ (w5).heap.size := hHeld.2.2.1.size
          have hal : Below (w5).heap.size (w5) ((w5).alloc (.cells #[.slice none 0 0, .slice none 0 0, .slice none 0 0, .map none, .slice none 0 0] 107)) := (Below.refl _ _).alloc (Nat.le_refl _) _
          have h8_ := blk_new (w5) (.cells #[.slice none 0 0, .slice none 0 0, .slice none 0 0, .map none, .slice none 0 0] 107)
          refine hK.out _ _ ⟨blk_below hHeld.1 hal, blk_below hHeld.2.1 hal, hHeld.2.2.1.trans (below_weaken hal hHeld.2.2.1.size), (blk_cell (blk_below hHeld.1 hal) 0).trans rfl, (blk_cell (blk_below hHeld.1 hal) 1).trans rfl, (blk_cell (blk_below hHeld.1 hal) 2).trans rfl, (blk_cell (blk_below hHeld.2.1 hal) 0).trans rfl, (blk_cell (blk_below hHeld.2.1 hal) 1).trans rfl⟩ (fun hHeld => ?_)
          clear hK K
          refine no_ 6 ?_
          refine one_ (i := 4) (N := some 13) #[true, true, true, true, true, false, false, false, true, false, false] rfl rfl (by kernel_rfl) (by decide) (fun K hK => ?_)
          refine goes_ Tryd.func80 (by kernel_rfl) rfl #[.agg #[.slice A0 l0.length c0, .slice A1 l1.length c1, .slice A2 l2.length c2], .bool qd] (by rfl) rfl rfl (by simp only [List.map_toArray, List.map_cons, List.map_nil]; rfl) ?_
          refine (HASK.out _ hHeld.2.2.1).mono ?_
          rintro e w6 ⟨v, rfl, hP, hb⟩
          refine ⟨_, rfl, ?_⟩
          have q8 := blk_below h8_ hb
          refine hK.out _ _ ⟨blk_below hHeld.1 hb, blk_below hHeld.2.1 hb, hHeld.2.2.1.trans (below_weaken hb hHeld.2.2.1.size), (blk_cell (blk_below hHeld.1 hb) 0).trans rfl, (blk_cell (blk_below hHeld.1 hb) 1).trans rfl, (blk_cell (blk_below hHeld.1 hb) 2).trans rfl, (blk_cell (blk_below hHeld.2.1 hb) 0).trans rfl, (blk_cell (blk_below hHeld.2.1 hb) 1).trans rfl⟩ (fun hHeld => ?_)
          clear hK K
          refine no_ 13 ?_
          refine pu_ 5 (some 8) ?_
          refine pu_ 6 (some 14) ?_
          refine pu_ 7 (some 15) ?_
          exact norm_ (by first | (simp only [putAll, Act.put, List.setIfInBounds_toArray, List.set_cons_zero, List.set_cons_succ]; done) | (simp only [putAll, Act.put, List.setIfInBounds_toArray, List.set_cons_zero, List.set_cons_succ]; rfl)) (hCont (w5.heap.size, v) _ ⟨hHeld.1, hHeld.2.1, hHeld.2.2.1, hHeld.2.2.2.1, hHeld.2.2.2.2.1, hHeld.2.2.2.2.2.1, hHeld.2.2.2.2.2.2.1, hHeld.2.2.2.2.2.2.2, q8, lz, hP⟩)
      · skip
        refine value_ (w1 := ?_) (v := ?_) (by rfl) rfl ?_ ?_
        rotate_left 2
        · go_simp
          constructor
          · rfl
          · rfl
        have lz : w.heap.size ≤ (wP.drew).heap.size := hHeld.2.2.1.size
        have hal : Below (wP.drew).heap.size (wP.drew) ((wP.drew).alloc (.cells #[.slice none 0 0, .slice none 0 0, .slice none 0 0, .map none, .slice none 0 0] 107)) := (Below.refl _ _).alloc (Nat.le_refl _) _
        have h8_ := blk_new (wP.drew) (.cells #[.slice none 0 0, .slice none 0 0, .slice none 0 0, .map none, .slice none 0 0] 107)
        refine hK.out _ _ ⟨blk_below hHeld.1 hal, blk_below hHeld.2.1 hal, hHeld.2.2.1.trans (below_weaken hal hHeld.2.2.1.size), (blk_cell (blk_below hHeld.1 hal) 0).trans rfl, (blk_cell (blk_below hHeld.1 hal) 1).trans rfl, (blk_cell (blk_below hHeld.1 hal) 2).trans rfl, (blk_cell (blk_below hHeld.2.1 hal) 0).trans rfl, (blk_cell (blk_below hHeld.2.1 hal) 1).trans rfl⟩ (fun hHeld => ?_)
        clear hK K
        refine no_ 6 ?_
        refine one_ (i := 3) (N := some 12) #[true, true, true, true, false, false, false, false, true, false, false] rfl rfl (by kernel_rfl) (by decide) (fun K hK => ?_)
        refine goes_ Tryd.func78 (by kernel_rfl) rfl #[.agg #[.slice A0 l0.length c0, .slice A1 l1.length c1, .slice A2 l2.length c2], .agg #[.int .i64 lx.f0, .int .i64 lx.f1]] (by rfl) rfl rfl (by simp only [List.map_toArray, List.map_cons, List.map_nil]; rfl) ?_
        refine (HLOOK.out _ hHeld.2.2.1).mono ?_
        rintro e w5 ⟨rfl, hb⟩
        refine ⟨_, rfl, ?_⟩
        have h8b := blk_below h8_ hb
        refine hK.out _ _ ⟨blk_below hHeld.1 hb, blk_below hHeld.2.1 hb, hHeld.2.2.1.trans (below_weaken hb hHeld.2.2.1.size), (blk_cell (blk_below hHeld.1 hb) 0).trans rfl, (blk_cell (blk_below hHeld.1 hb) 1).trans rfl, (blk_cell (blk_below hHeld.1 hb) 2).trans rfl, (blk_cell (blk_below hHeld.2.1 hb) 0).trans rfl, (blk_cell (blk_below hHeld.2.1 hb) 1).trans rfl⟩ (fun hHeld => ?_)
        clear hK K
        refine no_ 12 ?_
        refine one_ (i := 4) (N := some 13) #[true, true, true, true, true, false, false, false, true, false, false] rfl rfl (by kernel_rfl) (by decide) (fun K hK => ?_)
        refine goes_ Tryd.func80 (by kernel_rfl) rfl #[.agg #[.slice A0 l0.length c0, .slice A1 l1.length c1, .slice A2 l2.length c2], .bool qd] (by rfl) rfl rfl (by simp only [List.map_toArray, List.map_cons, List.map_nil]; rfl) ?_
        refine (HASK.out _ hHeld.2.2.1).mono ?_
        rintro e w6 ⟨v, rfl, hP, hb⟩
        refine ⟨_, rfl, ?_⟩
        have q8 := blk_below h8b hb
        refine hK.out _ _ ⟨blk_below hHeld.1 hb, blk_below hHeld.2.1 hb, hHeld.2.2.1.trans (below_weaken hb hHeld.2.2.1.size), (blk_cell (blk_below hHeld.1 hb) 0).trans rfl, (blk_cell (blk_below hHeld.1 hb) 1).trans rfl, (blk_cell (blk_below hHeld.1 hb) 2).trans rfl, (blk_cell (blk_below hHeld.2.1 hb) 0).trans rfl, (blk_cell (blk_below hHeld.2.1 hb) 1).trans rfl⟩ (fun hHeld => ?_)
        clear hK K
        refine no_ 13 ?_
        refine pu_ 5 (some 8) ?_
        refine pu_ 6 (some 14) ?_
        refine pu_ 7 (some 15) ?_
        exact norm_ (by first | (simp only [putAll, Act.put, List.setIfInBounds_toArray, List.set_cons_zero, List.set_cons_succ]; done) | (simp only [putAll, Act.put, List.setIfInBounds_toArray, List.set_cons_zero, List.set_cons_succ]; rfl)) (hCont (wP.drew.heap.size, v) _ ⟨hHeld.1, hHeld.2.1, hHeld.2.2.1, hHeld.2.2.2.1, hHeld.2.2.2.2.1, hHeld.2.2.2.2.2.1, hHeld.2.2.2.2.2.2.1, hHeld.2.2.2.2.2.2.2, q8, lz, hP⟩)
    rintro ⟨g6, v⟩ w' ⟨s0, s1, s2, s3, s4, s5, s6, s7, h8, hg6, hP⟩
    obtain ⟨B0, n0, d0, B1, n1, d1, B2, n2, d2, mp, B3, n3, d3, rfl, hP⟩ := hP
    have hHeld : w'.heap[w.heap.size]? = some (.cells #[.slice A0 l0.length c0, .slice A1 l1.length c1, .slice A2 l2.length c2] 26 (0, 0)) ∧ w'.heap[w.heap.size + 1]? = some (.cells #[.int .i64 lx.f0, .int .i64 lx.f1] 43 (0, 0)) ∧ Below w.heap.size w w' ∧ w'.cell? ⟨w.heap.size, 0, none⟩ = some (.slice A0 l0.length c0) ∧ w'.cell? ⟨w.heap.size, 1, none⟩ = some (.slice A1 l1.length c1) ∧ w'.cell? ⟨w.heap.size, 2, none⟩ = some (.slice A2 l2.length c2) ∧ w'.cell? ⟨w.heap.size + 1, 0, none⟩ = some (.int .i64 lx.f0) ∧ w'.cell? ⟨w.heap.size + 1, 1, none⟩ = some (.int .i64 lx.f1) := ⟨s0, s1, s2, s3, s4, s5, s6, s7⟩
    have k0 := (blk_cell h8 0).trans rfl
    have k1 := (blk_cell h8 1).trans rfl
    have k2 := (blk_cell h8 2).trans rfl
    have k3 := (blk_cell h8 3).trans rfl
    have k4 := (blk_cell h8 4).trans rfl
    have f0 := blk_frozen h8 0
    have f1 := blk_frozen h8 1
    have f2 := blk_frozen h8 2
    have f3 := blk_frozen h8 3
    have f4 := blk_frozen h8 4
    have l8 := blk_lt h8
    have H8 := Lib.hid h8
    have HP := Lib.hid hP
    have HHE := Lib.hid hHeld
    clear h8 hP s0 s1 s2
    refine norm_ (a' := ?_) ?_ ?_
    rotate_left
    · simp only [putAll, Act.put, List.setIfInBounds_toArray, List.set_cons_zero, List.set_cons_succ]
      rfl
    refine last_ (i := 9) (N := none) #[true, true, true, true, true, true, true, true, true, true, false] rfl rfl (by kernel_rfl) (by decide) (fun K hK => ?_)
    refine skip_ (w1 := ?_) (by rfl) rfl ?_ ?_
    rotate_left
    · go_simp
      rfl
    refine hK.out _ _ ?_
    clear hK K
    refine pu_ 10 (some 7) ?_
    refine done_ (by kernel_rfl) ?_

    obtain ⟨u2, u3, uB, _⟩ := HHE.out
    have nb2 : w.heap.size ≠ g6 := fun e => by
      have := H8.out
      rw [← e, u2] at this
      simp at this
    have nb3 : w.heap.size + 1 ≠ g6 := fun e => by
      have := H8.out
      rw [← e, u3] at this
      simp at this
    obtain ⟨W8, hW8⟩ : ∃ W, W = (((((w'.setCell ⟨g6, 0, none⟩ (.slice B0 n0 d0)).setCell ⟨g6, 1, none⟩ (.slice B1 n1 d1)).setCell ⟨g6, 2, none⟩ (.slice B2 n2 d2)).setCell ⟨g6, 3, none⟩ (.map mp)).setCell ⟨g6, 4, none⟩ (.slice B3 n3 d3)) := ⟨_, rfl⟩
    rw [← hW8]
    have h88 : W8.heap[g6]? = some (.cells #[.slice B0 n0 d0, .slice B1 n1 d1, .slice B2 n2 d2, .map mp, .slice B3 n3 d3] 107 (0, 0)) := by rw [hW8]; exact blk_put (blk_set (blk_set (blk_set (blk_set H8.out 0 _) 1 _) 2 _) 3 _) 4 _ rfl
    have hch : Chg (fun k => k = g6) w' W8 := by rw [hW8]; exact (((((Chg.cell (S := fun k => k = g6) w' g6 0 (.slice B0 n0 d0) rfl).trans (Chg.cell _ g6 1 (.slice B1 n1 d1) rfl)).trans (Chg.cell _ g6 2 (.slice B2 n2 d2) rfl)).trans (Chg.cell _ g6 3 (.map mp) rfl)).trans (Chg.cell _ g6 4 (.slice B3 n3 d3) rfl))
    have h82 := (hch.block _ (blk_lt u2) nb2).trans u2
    have h83 := (hch.block _ (blk_lt u3) nb3).trans u3
    have hB8 : Below w.heap.size w W8 := uB.trans ⟨hch.os, hch.tape, hch.output, hch.size, fun k hk => hch.block k (Nat.lt_of_lt_of_le hk uB.size) (by omega)⟩
    have HCH := Lib.hid hch
    have HB8 := Lib.hid hB8
    clear hW8 hch u2 u3 uB HHE k0 k1 k2 k3 k4 f0 f1 f2 f3 f4 l8 s3 s4 s5 s6 s7 hHeld hB8
    have hBD : Below W8.heap.size W8 W8.drew := by repeat (first | exact Below.refl _ _ | refine Below.alloc ?_ (by simp <;> omega) _ | refine Below.setCell ?_ (by simp <;> omega) _ | apply Below.drew)
    have H82D := Lib.hid (blk_below h82 hBD)
    have H83D := Lib.hid (blk_below h83 hBD)
    have HBD := Lib.hid (HB8.out.trans (below_weaken hBD HB8.out.size))
    have d82 := (blk_cell h82 2).trans rfl
    clear h88 hBD
    go_wp2_with fail
    clear d82
    refine start_ (n := 14) (S := fun w' => w'.cell? ⟨w.heap.size, 2, none⟩ = some (.slice A2 l2.length c2) ∧ w'.cell? ⟨w.heap.size + 1, 0, none⟩ = some (.int .i64 lx.f0) ∧ w'.cell? ⟨w.heap.size + 1, 1, none⟩ = some (.int .i64 lx.f1)) (ds := [11, 13]) #[false, false, false, false, false, false, false, false, false, false, false, false, false, false] (by kernel_rfl) rfl rfl ⟨(blk_cell H82D.out 2).trans rfl, (blk_cell H83D.out 0).trans rfl, (blk_cell H83D.out 1).trans rfl⟩ (fun hHeld => ?_)
    refine pu_ 0 (some 19) ?_
    refine pu_ 2 (some 21) ?_
    refine pu_ 5 (some 24) ?_
    refine ta_ 1 (some 20) (s := hHeld) (y := by rintro w' ⟨s0, s1, s2⟩; go_simp; with_reducible rfl) (h := ?_)
    refine ta_ 3 (some 22) (s := hHeld) (y := by rintro w' ⟨s0, s1, s2⟩; go_simp; with_reducible rfl) (h := ?_)
    refine pu_ 4 (some 23) ?_
    refine ta_ 6 (some 25) (s := hHeld) (y := by rintro w' ⟨s0, s1, s2⟩; go_simp; with_reducible rfl) (h := ?_)
    refine pu_ 7 (some 26) ?_
    refine pu_ 8 (some 27) ?_
    refine ta_ 9 (some 28) (s := hHeld) (y := by rintro w' ⟨s0, s1, s2⟩; go_simp; with_reducible rfl) (h := ?_)
    refine one_ (i := 10) (N := some 29) #[true, true, true, true, true, true, true, true, true, true, true, false, false, false] rfl rfl (by kernel_rfl) (by decide) (fun K hK => ?_)
    refine value_ (w1 := ?_) (v := ?_) (by rfl) rfl ?_ ?_
    rotate_left 2
    · go_simp
      constructor
      · rfl
      · rfl
    have h8a := blk_alloc H82D.out (.cells #[.int .i64 lx.f0, .int .i64 lx.f1] 43)
    have h8b := blk_alloc H83D.out (.cells #[.int .i64 lx.f0, .int .i64 lx.f1] 43)
    have hnw := blk_new W8.drew (.cells #[.int .i64 lx.f0, .int .i64 lx.f1] 43)
    have HHA := Lib.hid ((HBD.out.alloc HBD.out.size (.cells #[.int .i64 lx.f0, .int .i64 lx.f1] 43)))
    refine hK.out _ _ ⟨(blk_cell h8a 2).trans rfl, (blk_cell h8b 0).trans rfl, (blk_cell h8b 1).trans rfl⟩ (fun hHeld => ?_)
    clear hK K
    refine no_ 29 ?_
    refine last_ (i := 11) (N := some 30) #[true, true, true, true, true, true, true, true, true, true, true, true, false, false] rfl rfl (by kernel_rfl) (by decide) (fun K hK => ?_)
    refine step_append_grows rfl (.tmp 27) (.tmp 29) 24 (by rfl) 43 i43 _ 2 16 Tryd.underlying24 hi43 hz0 hz1 hz2 rfl (by decide) A2 l2.length l2.length (l2.flatMap e43) (by rfl) HNONE.out (flat_length e43_len l2) (HFLAT.out _ HHA.out) ⟨W8.drew.heap.size, 0, none⟩ 1 1 [.int .i64 lx.f0, .int .i64 lx.f1] (by rfl) rfl ?aC ?aO (by omega) (by unfold maxLen; omega) (by omega) ?_
    (case aC => exact fun j u hj => (cell_add hnw j).trans (by simpa using hj))
    (case aO => exact fun u hu => by simp at hu; rcases hu with rfl | rfl <;> rfl)
    intro v6 w9 ho9 hg9
    have h92 := (hg9.block _ (blk_lt h8a) (by simp)).trans h8a
    rw [show l2.flatMap e43 ++ [.int .i64 lx.f0, .int .i64 lx.f1] = (l2 ++ [lx]).flatMap e43 by simp [e43]] at ho9
    obtain ⟨_, A9, c9, ev, _, hc9⟩ := frow_own' e43_len (by decide) ho9
    rw [HN9.out] at ev hc9
    subst ev
    have HC9 := Lib.hid hc9
    clear hc9
    have HB9 := Lib.hid (HHA.out.grown hg9 (by have := HHA.out.size; omega) (fun j ej => by simp at ej))
    have HO9 := Lib.hid ho9
    have H92 := Lib.hid h92
    have l92 := blk_lt h92
    have c92 := (blk_cell h92 2).trans rfl
    have f92 := blk_frozen h92 2
    clear ho9 hg9 h92 h8a h8b hnw
    refine hK.out _ _ ?_
    clear hK K
    refine no_ 30 ?_
    refine pu_ 12 (some 31) ?_
    refine last_ (i := 13) (N := none) #[true, true, true, true, true, true, true, true, true, true, true, true, true, true] rfl rfl (by kernel_rfl) (by decide) (fun K hK => ?_)
    refine skip_ (w1 := ?_) (by rfl) rfl ?_ ?_
    rotate_left
    · go_simp
      rfl
    refine hK.out _ _ ?_
    clear hK K
    refine done_ (by kernel_rfl) ?_

    have c90 := (blk_cell H92.out 0).trans rfl
    have c91 := (blk_cell H92.out 1).trans rfl
    have hqi := HQI.out
    have hfl := HFL.out
    have hbs : Below w.heap.size w (w9.setCell ⟨w.heap.size, 2, none⟩ (.slice A9 n9 c9)) := HB9.out.setCell (by simp) _
    have hos := own_same (W' := w9.setCell ⟨w.heap.size, 2, none⟩ (.slice A9 n9 c9)) HO9.out (fun k hk => Below.heap_setCell _ _ _ k (fun e => row_ne H92.out (by decide) HO9.out (by rw [hk, e])))
    have hrs := frow_at e43_len (by decide) hos
    have HOPS := Lib.hid (HOP.out _ A9 c9 hbs hrs HC9.out)
    have HBS := Lib.hid hbs
    clear hbs hos hrs
    go_wp2_with (go_at_call 75; refine HOPS.out.mono ?_; rintro e w3 ⟨At, ct, m, rfl, hB3⟩)
    go_ret2
    exact ⟨by rw [HQ.out]; rfl, HBS.out.trans (below_weaken hB3 HBS.out.size)⟩
  · rw [if_neg hz]
    have ht : (code != 0) = true := by simpa using hz
    go_enter Tryd.func38, Tryd.ntmps38
    go_upto_region 1 with fail
    obtain ⟨wP, hwP⟩ : ∃ W, W = ((w.alloc (.cells #[.slice A0 l0.length c0, .slice A1 l1.length c1, .slice A2 l2.length c2] 26)).alloc (.cells #[.int .i64 lx.f0, .int .i64 lx.f1] 43)) := ⟨_, rfl⟩
    rw [← hwP]
    have h2_ : wP.heap[w.heap.size]? = some (.cells #[.slice A0 l0.length c0, .slice A1 l1.length c1, .slice A2 l2.length c2] 26 (0, 0)) := by rw [hwP]; exact blk_alloc (blk_new _ _) _
    have h3_ : wP.heap[w.heap.size + 1]? = some (.cells #[.int .i64 lx.f0, .int .i64 lx.f1] 43 (0, 0)) := by rw [hwP]; exact blk_at (w.alloc _) _ _ (by simp)
    have hB_ : Below w.heap.size w wP.drew := by rw [hwP]; exact by repeat (first | exact Below.refl _ _ | refine Below.alloc ?_ (by simp <;> omega) _ | refine Below.setCell ?_ (by simp <;> omega) _ | apply Below.drew)
    clear hwP
    refine start_ (n := 11) (S := fun w' => w'.heap[w.heap.size]? = some (.cells #[.slice A0 l0.length c0, .slice A1 l1.length c1, .slice A2 l2.length c2] 26 (0, 0)) ∧ w'.heap[w.heap.size + 1]? = some (.cells #[.int .i64 lx.f0, .int .i64 lx.f1] 43 (0, 0)) ∧ Below w.heap.size w w' ∧ w'.cell? ⟨w.heap.size, 0, none⟩ = some (.slice A0 l0.length c0) ∧ w'.cell? ⟨w.heap.size, 1, none⟩ = some (.slice A1 l1.length c1) ∧ w'.cell? ⟨w.heap.size, 2, none⟩ = some (.slice A2 l2.length c2) ∧ w'.cell? ⟨w.heap.size + 1, 0, none⟩ = some (.int .i64 lx.f0) ∧ w'.cell? ⟨w.heap.size + 1, 1, none⟩ = some (.int .i64 lx.f1)) (ds := [9]) #[false, false, false, false, false, false, false, false, false, false, false] (by kernel_rfl) rfl rfl ⟨h2_, h3_, hB_, (blk_cell (h2_) 0).trans rfl, (blk_cell (h2_) 1).trans rfl, (blk_cell (h2_) 2).trans rfl, (blk_cell (h3_) 0).trans rfl, (blk_cell (h3_) 1).trans rfl⟩ (fun hHeld => ?_)
    refine ta_ 0 (some 9) (s := hHeld) (y := by rintro w' ⟨s0, s1, s2, s3, s4, s5, s6, s7⟩; go_simp; with_reducible rfl) (h := ?_)
    refine ta_ 1 (some 10) (s := hHeld) (y := by rintro w' ⟨s0, s1, s2, s3, s4, s5, s6, s7⟩; go_simp; with_reducible rfl) (h := ?_)
    refine ta_ 2 (some 11) (s := hHeld) (y := by rintro w' ⟨s0, s1, s2, s3, s4, s5, s6, s7⟩; go_simp; with_reducible rfl) (h := ?_)
    refine join_ (σ := Nat × Value) 2 #[true, true, true, true, true, true, true, true, true, false, false] (fun s => [(12, .bool qd), (13, .tuple #[s.2, .int .i64 code]), (8, .tuple #[s.2, .int .i64 code]), (14, s.2), (15, .int .i64 code), (6, .pointer (some ⟨s.1, 0, none⟩))]) (fun s w' => w'.heap[w.heap.size]? = some (.cells #[.slice A0 l0.length c0, .slice A1 l1.length c1, .slice A2 l2.length c2] 26 (0, 0)) ∧ w'.heap[w.heap.size + 1]? = some (.cells #[.int .i64 lx.f0, .int .i64 lx.f1] 43 (0, 0)) ∧ Below w.heap.size w w' ∧ w'.cell? ⟨w.heap.size, 0, none⟩ = some (.slice A0 l0.length c0) ∧ w'.cell? ⟨w.heap.size, 1, none⟩ = some (.slice A1 l1.length c1) ∧ w'.cell? ⟨w.heap.size, 2, none⟩ = some (.slice A2 l2.length c2) ∧ w'.cell? ⟨w.heap.size + 1, 0, none⟩ = some (.int .i64 lx.f0) ∧ w'.cell? ⟨w.heap.size + 1, 1, none⟩ = some (.int .i64 lx.f1) ∧ w'.heap[s.1]? = some (.cells #[.slice none 0 0, .slice none 0 0, .slice none 0 0, .map none, .slice none 0 0] 107 (0, 0)) ∧ w.heap.size ≤ s.1 ∧ AskP A0 A1 A2 c0 c1 c2 l0 l1 l2 w.heap.size code s.2 w') ?_ ?_
    rotate_left
    · intro hCont
      refine two_ (i := 3) (j := 8) (Ni := some 12) (Nj := some 6) #[true, true, true, true, false, false, false, false, false, false, false] #[true, true, true, false, false, false, false, false, true, false, false] rfl rfl rfl rfl (by kernel_rfl) (by decide) (by decide) (fun K hK => ?_) (fun K hK => ?_)
      · skip
        refine goes_ Tryd.func78 (by kernel_rfl) rfl #[.agg #[.slice A0 l0.length c0, .slice A1 l1.length c1, .slice A2 l2.length c2], .agg #[.int .i64 lx.f0, .int .i64 lx.f1]] (by rfl) rfl rfl (by simp only [List.map_toArray, List.map_cons, List.map_nil]; rfl) ?_
        refine (HLOOK.out _ hHeld.2.2.1).mono ?_
        rintro e w5 ⟨rfl, hb⟩
        refine ⟨_, rfl, ?_⟩
        refine hK.out _ _ ⟨blk_below hHeld.1 hb, blk_below hHeld.2.1 hb, hHeld.2.2.1.trans (below_weaken hb hHeld.2.2.1.size), (blk_cell (blk_below hHeld.1 hb) 0).trans rfl, (blk_cell (blk_below hHeld.1 hb) 1).trans rfl, (blk_cell (blk_below hHeld.1 hb) 2).trans rfl, (blk_cell (blk_below hHeld.2.1 hb) 0).trans rfl, (blk_cell (blk_below hHeld.2.1 hb) 1).trans rfl⟩ (fun hHeld => ?_)
        clear hK K
        refine no_ 12 ?_
        refine two_ (i := 4) (j := 8) (Ni := some 13) (Nj := some 6) #[true, true, true, true, true, false, false, false, false, false, false] #[true, true, true, true, false, false, false, false, true, false, false] rfl rfl rfl rfl (by kernel_rfl) (by decide) (by decide) (fun K hK => ?_) (fun K hK => ?_)
        · skip
          refine goes_ Tryd.func80 (by kernel_rfl) rfl #[.agg #[.slice A0 l0.length c0, .slice A1 l1.length c1, .slice A2 l2.length c2], .bool qd] (by rfl) rfl rfl (by simp only [List.map_toArray, List.map_cons, List.map_nil]; rfl) ?_
          refine (HASK.out _ hHeld.2.2.1).mono ?_
          rintro e w6 ⟨v, rfl, hP, hb⟩
          refine ⟨_, rfl, ?_⟩
          refine hK.out _ _ ⟨blk_below hHeld.1 hb, blk_below hHeld.2.1 hb, hHeld.2.2.1.trans (below_weaken hb hHeld.2.2.1.size), (blk_cell (blk_below hHeld.1 hb) 0).trans rfl, (blk_cell (blk_below hHeld.1 hb) 1).trans rfl, (blk_cell (blk_below hHeld.1 hb) 2).trans rfl, (blk_cell (blk_below hHeld.2.1 hb) 0).trans rfl, (blk_cell (blk_below hHeld.2.1 hb) 1).trans rfl⟩ (fun hHeld => ?_)
          clear hK K
          refine no_ 13 ?_
          refine pu_ 5 (some 8) ?_
          refine pu_ 6 (some 14) ?_
          refine pu_ 7 (some 15) ?_
          refine one_ (i := 8) (N := some 6) #[true, true, true, true, true, true, true, true, true, false, false] rfl rfl (by kernel_rfl) (by decide) (fun K hK => ?_)
          refine value_ (w1 := ?_) (v := ?_) (by rfl) rfl ?_ ?_
          rotate_left 2
          · go_simp
            constructor
            · rfl
            · rfl
          have lz : w.heap.size ≤ (w6).heap.size := hHeld.2.2.1.size
          have hal : Below (w6).heap.size (w6) ((w6).alloc (.cells #[.slice none 0 0, .slice none 0 0, .slice none 0 0, .map none, .slice none 0 0] 107)) := (Below.refl _ _).alloc (Nat.le_refl _) _
          have q8 := blk_new (w6) (.cells #[.slice none 0 0, .slice none 0 0, .slice none 0 0, .map none, .slice none 0 0] 107)
          have hP8 := hP.below hal
          refine hK.out _ _ ⟨blk_below hHeld.1 hal, blk_below hHeld.2.1 hal, hHeld.2.2.1.trans (below_weaken hal hHeld.2.2.1.size), (blk_cell (blk_below hHeld.1 hal) 0).trans rfl, (blk_cell (blk_below hHeld.1 hal) 1).trans rfl, (blk_cell (blk_below hHeld.1 hal) 2).trans rfl, (blk_cell (blk_below hHeld.2.1 hal) 0).trans rfl, (blk_cell (blk_below hHeld.2.1 hal) 1).trans rfl⟩ (fun hHeld => ?_)
          clear hK K
          refine no_ 6 ?_
          exact norm_ (by first | (simp only [putAll, Act.put, List.setIfInBounds_toArray, List.set_cons_zero, List.set_cons_succ]; done) | (simp only [putAll, Act.put, List.setIfInBounds_toArray, List.set_cons_zero, List.set_cons_succ]; rfl)) (hCont (w6.heap.size, v) _ ⟨hHeld.1, hHeld.2.1, hHeld.2.2.1, hHeld.2.2.2.1, hHeld.2.2.2.2.1, hHeld.2.2.2.2.2.1, hHeld.2.2.2.2.2.2.1, hHeld.2.2.2.2.2.2.2, q8, lz, hP8⟩)
        · skip
          refine value_ (w1 := ?_) (v := ?_) (by rfl) rfl ?_ ?_
          rotate_left 2
          · go_simp
            constructor
            · rfl
            · rfl
          have lz : w.heap.size ≤ (w5).heap.size := hHeld.2.2.1.size
          have hal : Below (w5).heap.size (w5) ((w5).alloc (.cells #[.slice none 0 0, .slice none 0 0, .slice none 0 0, .map none, .slice none 0 0] 107)) := (Below.refl _ _).alloc (Nat.le_refl _) _
          have h8_ := blk_new (w5) (.cells #[.slice none 0 0, .slice none 0 0, .slice none 0 0, .map none, .slice none 0 0] 107)
          refine hK.out _ _ ⟨blk_below hHeld.1 hal, blk_below hHeld.2.1 hal, hHeld.2.2.1.trans (below_weaken hal hHeld.2.2.1.size), (blk_cell (blk_below hHeld.1 hal) 0).trans rfl, (blk_cell (blk_below hHeld.1 hal) 1).trans rfl, (blk_cell (blk_below hHeld.1 hal) 2).trans rfl, (blk_cell (blk_below hHeld.2.1 hal) 0).trans rfl, (blk_cell (blk_below hHeld.2.1 hal) 1).trans rfl⟩ (fun hHeld => ?_)
          clear hK K
          refine no_ 6 ?_
          refine one_ (i := 4) (N := some 13) #[true, true, true, true, true, false, false, false, true, false, false] rfl rfl (by kernel_rfl) (by decide) (fun K hK => ?_)
          refine goes_ Tryd.func80 (by kernel_rfl) rfl #[.agg #[.slice A0 l0.length c0, .slice A1 l1.length c1, .slice A2 l2.length c2], .bool qd] (by rfl) rfl rfl (by simp only [List.map_toArray, List.map_cons, List.map_nil]; rfl) ?_
          refine (HASK.out _ hHeld.2.2.1).mono ?_
          rintro e w6 ⟨v, rfl, hP, hb⟩
          refine ⟨_, rfl, ?_⟩
          have q8 := blk_below h8_ hb
          refine hK.out _ _ ⟨blk_below hHeld.1 hb, blk_below hHeld.2.1 hb, hHeld.2.2.1.trans (below_weaken hb hHeld.2.2.1.size), (blk_cell (blk_below hHeld.1 hb) 0).trans rfl, (blk_cell (blk_below hHeld.1 hb) 1).trans rfl, (blk_cell (blk_below hHeld.1 hb) 2).trans rfl, (blk_cell (blk_below hHeld.2.1 hb) 0).trans rfl, (blk_cell (blk_below hHeld.2.1 hb) 1).trans rfl⟩ (fun hHeld => ?_)
          clear hK K
          refine no_ 13 ?_
          refine pu_ 5 (some 8) ?_
          refine pu_ 6 (some 14) ?_
          refine pu_ 7 (some 15) ?_
          exact norm_ (by first | (simp only [putAll, Act.put, List.setIfInBounds_toArray, List.set_cons_zero, List.set_cons_succ]; done) | (simp only [putAll, Act.put, List.setIfInBounds_toArray, List.set_cons_zero, List.set_cons_succ]; rfl)) (hCont (w5.heap.size, v) _ ⟨hHeld.1, hHeld.2.1, hHeld.2.2.1, hHeld.2.2.2.1, hHeld.2.2.2.2.1, hHeld.2.2.2.2.2.1, hHeld.2.2.2.2.2.2.1, hHeld.2.2.2.2.2.2.2, q8, lz, hP⟩)
      · skip
        refine value_ (w1 := ?_) (v := ?_) (by rfl) rfl ?_ ?_
        rotate_left 2
        · go_simp
          constructor
          · rfl
          · rfl
        have lz : w.heap.size ≤ (wP.drew).heap.size := hHeld.2.2.1.size
        have hal : Below (wP.drew).heap.size (wP.drew) ((wP.drew).alloc (.cells #[.slice none 0 0, .slice none 0 0, .slice none 0 0, .map none, .slice none 0 0] 107)) := (Below.refl _ _).alloc (Nat.le_refl _) _
        have h8_ := blk_new (wP.drew) (.cells #[.slice none 0 0, .slice none 0 0, .slice none 0 0, .map none, .slice none 0 0] 107)
        refine hK.out _ _ ⟨blk_below hHeld.1 hal, blk_below hHeld.2.1 hal, hHeld.2.2.1.trans (below_weaken hal hHeld.2.2.1.size), (blk_cell (blk_below hHeld.1 hal) 0).trans rfl, (blk_cell (blk_below hHeld.1 hal) 1).trans rfl, (blk_cell (blk_below hHeld.1 hal) 2).trans rfl, (blk_cell (blk_below hHeld.2.1 hal) 0).trans rfl, (blk_cell (blk_below hHeld.2.1 hal) 1).trans rfl⟩ (fun hHeld => ?_)
        clear hK K
        refine no_ 6 ?_
        refine one_ (i := 3) (N := some 12) #[true, true, true, true, false, false, false, false, true, false, false] rfl rfl (by kernel_rfl) (by decide) (fun K hK => ?_)
        refine goes_ Tryd.func78 (by kernel_rfl) rfl #[.agg #[.slice A0 l0.length c0, .slice A1 l1.length c1, .slice A2 l2.length c2], .agg #[.int .i64 lx.f0, .int .i64 lx.f1]] (by rfl) rfl rfl (by simp only [List.map_toArray, List.map_cons, List.map_nil]; rfl) ?_
        refine (HLOOK.out _ hHeld.2.2.1).mono ?_
        rintro e w5 ⟨rfl, hb⟩
        refine ⟨_, rfl, ?_⟩
        have h8b := blk_below h8_ hb
        refine hK.out _ _ ⟨blk_below hHeld.1 hb, blk_below hHeld.2.1 hb, hHeld.2.2.1.trans (below_weaken hb hHeld.2.2.1.size), (blk_cell (blk_below hHeld.1 hb) 0).trans rfl, (blk_cell (blk_below hHeld.1 hb) 1).trans rfl, (blk_cell (blk_below hHeld.1 hb) 2).trans rfl, (blk_cell (blk_below hHeld.2.1 hb) 0).trans rfl, (blk_cell (blk_below hHeld.2.1 hb) 1).trans rfl⟩ (fun hHeld => ?_)
        clear hK K
        refine no_ 12 ?_
        refine one_ (i := 4) (N := some 13) #[true, true, true, true, true, false, false, false, true, false, false] rfl rfl (by kernel_rfl) (by decide) (fun K hK => ?_)
        refine goes_ Tryd.func80 (by kernel_rfl) rfl #[.agg #[.slice A0 l0.length c0, .slice A1 l1.length c1, .slice A2 l2.length c2], .bool qd] (by rfl) rfl rfl (by simp only [List.map_toArray, List.map_cons, List.map_nil]; rfl) ?_
        refine (HASK.out _ hHeld.2.2.1).mono ?_
        rintro e w6 ⟨v, rfl, hP, hb⟩
        refine ⟨_, rfl, ?_⟩
        have q8 := blk_below h8b hb
        refine hK.out _ _ ⟨blk_below hHeld.1 hb, blk_below hHeld.2.1 hb, hHeld.2.2.1.trans (below_weaken hb hHeld.2.2.1.size), (blk_cell (blk_below hHeld.1 hb) 0).trans rfl, (blk_cell (blk_below hHeld.1 hb) 1).trans rfl, (blk_cell (blk_below hHeld.1 hb) 2).trans rfl, (blk_cell (blk_below hHeld.2.1 hb) 0).trans rfl, (blk_cell (blk_below hHeld.2.1 hb) 1).trans rfl⟩ (fun hHeld => ?_)
        clear hK K
        refine no_ 13 ?_
        refine pu_ 5 (some 8) ?_
        refine pu_ 6 (some 14) ?_
        refine pu_ 7 (some 15) ?_
        exact norm_ (by first | (simp only [putAll, Act.put, List.setIfInBounds_toArray, List.set_cons_zero, List.set_cons_succ]; done) | (simp only [putAll, Act.put, List.setIfInBounds_toArray, List.set_cons_zero, List.set_cons_succ]; rfl)) (hCont (wP.drew.heap.size, v) _ ⟨hHeld.1, hHeld.2.1, hHeld.2.2.1, hHeld.2.2.2.1, hHeld.2.2.2.2.1, hHeld.2.2.2.2.2.1, hHeld.2.2.2.2.2.2.1, hHeld.2.2.2.2.2.2.2, q8, lz, hP⟩)
    rintro ⟨g6, v⟩ w' ⟨s0, s1, s2, s3, s4, s5, s6, s7, h8, hg6, hP⟩
    obtain ⟨B0, n0, d0, B1, n1, d1, B2, n2, d2, mp, B3, n3, d3, rfl, hP⟩ := hP
    have hHeld : w'.heap[w.heap.size]? = some (.cells #[.slice A0 l0.length c0, .slice A1 l1.length c1, .slice A2 l2.length c2] 26 (0, 0)) ∧ w'.heap[w.heap.size + 1]? = some (.cells #[.int .i64 lx.f0, .int .i64 lx.f1] 43 (0, 0)) ∧ Below w.heap.size w w' ∧ w'.cell? ⟨w.heap.size, 0, none⟩ = some (.slice A0 l0.length c0) ∧ w'.cell? ⟨w.heap.size, 1, none⟩ = some (.slice A1 l1.length c1) ∧ w'.cell? ⟨w.heap.size, 2, none⟩ = some (.slice A2 l2.length c2) ∧ w'.cell? ⟨w.heap.size + 1, 0, none⟩ = some (.int .i64 lx.f0) ∧ w'.cell? ⟨w.heap.size + 1, 1, none⟩ = some (.int .i64 lx.f1) := ⟨s0, s1, s2, s3, s4, s5, s6, s7⟩
    have k0 := (blk_cell h8 0).trans rfl
    have k1 := (blk_cell h8 1).trans rfl
    have k2 := (blk_cell h8 2).trans rfl
    have k3 := (blk_cell h8 3).trans rfl
    have k4 := (blk_cell h8 4).trans rfl
    have f0 := blk_frozen h8 0
    have f1 := blk_frozen h8 1
    have f2 := blk_frozen h8 2
    have f3 := blk_frozen h8 3
    have f4 := blk_frozen h8 4
    have l8 := blk_lt h8
    have H8 := Lib.hid h8
    have HP := Lib.hid hP
    have HHE := Lib.hid hHeld
    clear h8 hP s0 s1 s2
    refine norm_ (a' := ?_) ?_ ?_
    rotate_left
    · simp only [putAll, Act.put, List.setIfInBounds_toArray, List.set_cons_zero, List.set_cons_succ]
      rfl
    refine last_ (i := 9) (N := none) #[true, true, true, true, true, true, true, true, true, true, false] rfl rfl (by kernel_rfl) (by decide) (fun K hK => ?_)
    refine skip_ (w1 := ?_) (by rfl) rfl ?_ ?_
    rotate_left
    · go_simp
      rfl
    refine hK.out _ _ ?_
    clear hK K
    refine pu_ 10 (some 7) ?_
    refine done_ (by kernel_rfl) ?_

    obtain ⟨u2, u3, uB, _⟩ := HHE.out
    have nb2 : w.heap.size ≠ g6 := fun e => by
      have := H8.out
      rw [← e, u2] at this
      simp at this
    have nb3 : w.heap.size + 1 ≠ g6 := fun e => by
      have := H8.out
      rw [← e, u3] at this
      simp at this
    obtain ⟨W8, hW8⟩ : ∃ W, W = (((((w'.setCell ⟨g6, 0, none⟩ (.slice B0 n0 d0)).setCell ⟨g6, 1, none⟩ (.slice B1 n1 d1)).setCell ⟨g6, 2, none⟩ (.slice B2 n2 d2)).setCell ⟨g6, 3, none⟩ (.map mp)).setCell ⟨g6, 4, none⟩ (.slice B3 n3 d3)) := ⟨_, rfl⟩
    rw [← hW8]
    have h88 : W8.heap[g6]? = some (.cells #[.slice B0 n0 d0, .slice B1 n1 d1, .slice B2 n2 d2, .map mp, .slice B3 n3 d3] 107 (0, 0)) := by rw [hW8]; exact blk_put (blk_set (blk_set (blk_set (blk_set H8.out 0 _) 1 _) 2 _) 3 _) 4 _ rfl
    have hch : Chg (fun k => k = g6) w' W8 := by rw [hW8]; exact (((((Chg.cell (S := fun k => k = g6) w' g6 0 (.slice B0 n0 d0) rfl).trans (Chg.cell _ g6 1 (.slice B1 n1 d1) rfl)).trans (Chg.cell _ g6 2 (.slice B2 n2 d2) rfl)).trans (Chg.cell _ g6 3 (.map mp) rfl)).trans (Chg.cell _ g6 4 (.slice B3 n3 d3) rfl))
    have h82 := (hch.block _ (blk_lt u2) nb2).trans u2
    have h83 := (hch.block _ (blk_lt u3) nb3).trans u3
    have hB8 : Below w.heap.size w W8 := uB.trans ⟨hch.os, hch.tape, hch.output, hch.size, fun k hk => hch.block k (Nat.lt_of_lt_of_le hk uB.size) (by omega)⟩
    have HCH := Lib.hid hch
    have HB8 := Lib.hid hB8
    clear hW8 hch u2 u3 uB HHE k0 k1 k2 k3 k4 f0 f1 f2 f3 f4 l8 s3 s4 s5 s6 s7 hHeld hB8
    go_wp2
    go_ret2
    exact ⟨rfl, HB8.out⟩
end Go.Proofs.YthgjedagbgmgmaaDoor.Pr
