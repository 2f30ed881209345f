/- Part 7 of the proof that RollPass answers true: contracts and laws, merged by a program. -/
import Derived.Test.YthgjedagbgmgmaaDoorRollPassA6
namespace Go.Proofs.YthgjedagbgmgmaaDoor.Pr
open Go.RowKit Go.Proofs.YthgjedagbgmgmaaDoorW.PrintWords Go.Proofs.YthgjedagbgmgmaaDoorW.PrintLast Go.Proofs.YthgjedagbgmgmaaDoorW.PrintMore
set_option linter.unusedVariables false
set_option linter.unusedSimpArgs false
theorem leS_bound {p q : Int × Int} (h : leS p q) : p.1 ≤ q.1 := by
  unfold leS at h
  omega
/-- One choice is no better than another. -/
def LeC (c c' : Ch) : Prop := c.length = c'.length ∧ ∀ i (h : i < c.length) (h' : i < c'.length), 0 ≤ c[i].1 ∧ c[i].1 ≤ c'[i].1 ∧ (c[i].2 = c'[i].2 ∨ (c[i].2 = 0 ∧ c'[i].2 = 1))
theorem stepS_dry (ls : List S92) (q : Int × Int) (k k' : Int) : stepS ls q 0 k = stepS ls q 0 k' := by
  unfold stepS
  repeat' split
  all_goals first | rfl | (exfalso; omega)
theorem states_le {ls : List S92} : ∀ (c c' : Ch) (p q : Int × Int), LeC c c' → OkS ls.length p → OkS ls.length q → leS p q → ∀ (i : Nat) (x y : Int × Int), (states ls c p)[i]? = some x → (states ls c' q)[i]? = some y → leS x y := by
  intro c
  induction c with
  | nil => intro c' p q _ _ _ _ i x y h; simp [states] at h
  | cons a c ih =>
    intro c' p q hc hp hq h i x y hx hy
    cases c' with
    | nil => simp [states] at hy
    | cons b c' =>
      obtain ⟨hl, hi⟩ := hc
      have h0 := hi 0 (by simp) (by simp)
      simp only [List.getElem_cons_zero] at h0
      obtain ⟨k0, k1, ks⟩ := h0
      have hs : leS (stepS ls p a.2 a.1) (stepS ls q b.2 b.1) := by
        rcases ks with e | ⟨e, e'⟩
        · rw [e]; exact stepS_mono hp hq h k0 k1
        · rw [e, e', stepS_dry ls p a.1 b.1]; exact stepS_water hp hq h (by omega)
      simp only [states] at hx hy
      cases i with
      | zero =>
        simp only [List.getElem?_cons_zero, Option.some.injEq] at hx hy
        rw [← hx, ← hy]
        exact hs
      | succ i =>
        simp only [List.getElem?_cons_succ] at hx hy
        exact ih c' _ _ ⟨by simpa using hl, fun i h1 h2 => by have := hi (i + 1) (by simpa using h1) (by simpa using h2); simpa using this⟩ (stepS_ok hp k0) (stepS_ok hq (by omega)) hs i x y hx hy
theorem okS_begin (n : Nat) : OkS n (0, -1) := ⟨Int.le_refl _, by show (0 : Int) ≤ n; omega, Int.le_refl _, fun _ => rfl⟩
theorem stAt_le {ls : List S92} {c c' : Ch} (h : LeC c c') (d : Nat) : leS (stAt ls c d) (stAt ls c' d) := by
  unfold stAt
  rw [List.getD_eq_getElem?_getD, List.getD_eq_getElem?_getD]
  by_cases hd : d < c.length
  · have h1 : d < (states ls c (0, -1)).length := by rw [states_length]; exact hd
    have h2 : d < (states ls c' (0, -1)).length := by rw [states_length, ← h.1]; exact hd
    rw [List.getElem?_eq_getElem h1, List.getElem?_eq_getElem h2]
    exact states_le c c' _ _ h (okS_begin _) (okS_begin _) (leS_refl _) d _ _ (List.getElem?_eq_getElem h1) (List.getElem?_eq_getElem h2)
  · rw [List.getElem?_eq_none (by rw [states_length]; omega), List.getElem?_eq_none (by rw [states_length, ← h.1]; omega)]
    exact leS_refl _
theorem rd_le {ls : List S92} {c c' : Ch} (h : LeC c c') (d : Nat) : (rdAt ls c d).bound ≤ (rdAt ls c' d).bound := by
  rw [stAt_bound, stAt_bound]
  exact leS_bound (stAt_le h d)
theorem states_take (ls : List S92) : ∀ (n : Nat) (c : Ch) (q : Int × Int), (states ls c q).take n = states ls (c.take n) q := by
  intro n
  induction n with
  | zero => intro c q; simp [states]
  | succ n ih =>
    intro c q
    cases c with
    | nil => rfl
    | cons p c => simp [states, ih]
theorem stAt_take {ls : List S92} {c c' : Ch} {n d : Nat} (h : c.take n = c'.take n) (hd : d < n) : stAt ls c d = stAt ls c' d := by
  have e := states_take ls n c (0, -1)
  rw [h, ← states_take ls n c'] at e
  unfold stAt
  rw [List.getD_eq_getElem?_getD, List.getD_eq_getElem?_getD, ← List.getElem?_take_of_lt hd, e, List.getElem?_take_of_lt hd]
theorem rd_take {ls : List S92} {c c' : Ch} {n d : Nat} (h : c.take n = c'.take n) (hd : d < n) : (rdAt ls c d).bound = (rdAt ls c' d).bound := by
  rw [stAt_bound, stAt_bound, stAt_take h hd]
/-- What a day can be. -/
def DayIn (x : S90) (p : Int × Int) : Prop := x.f0.f0 ≤ p.1 ∧ p.1 ≤ x.f0.f1 ∧ 0 ≤ p.2 ∧ p.2 ≤ 2 ∧ hasSky x.f1 p.2.toNat = true
theorem okCh_set {ds : List S90} {c : Ch} (h : OkCh ds c) (j : Nat) {x : S90} {p : Int × Int} (hp : DayIn x p) : OkCh (ds.set j x) (c.set j p) := by
  refine ⟨by simp [h.1], fun i h1 h2 => ?_⟩
  simp only [List.length_set] at h1 h2
  rw [List.getElem_set, List.getElem_set]
  by_cases e : j = i
  · rw [if_pos e, if_pos e]
    exact hp
  · rw [if_neg e, if_neg e]
    exact h.2 i h1 h2
theorem okCh_back {ds : List S90} {c : Ch} {j : Nat} {y : S90} (h : OkCh (ds.set j y) c) (hj : j < ds.length) {p : Int × Int} (hp : DayIn ds[j] p) : OkCh ds (c.set j p) := by
  have := okCh_set h j hp
  rwa [List.set_set, List.set_getElem_self] at this
theorem okCh_day {ds : List S90} {c : Ch} (h : OkCh ds c) {j : Nat} (hj : j < c.length) (hj' : j < ds.length) : DayIn ds[j] c[j] := h.2 j hj hj'
theorem good_nil {ls : List S92} {ds : List S90} {but : List Int} {c : Ch} : c ∈ good ls ds [] but ↔ OkCh ds c := by
  rw [mem_good']
  exact ⟨fun h => h.1, fun h => ⟨h, fun i hi => absurd hi (by simp)⟩⟩
theorem day_some {x : S90} (h : okDay x = true) : ∃ p, DayIn x p := by
  unfold okDay at h
  simp only [Bool.and_eq_true, decide_eq_true_eq] at h
  obtain ⟨⟨h1, h2, h3, h4⟩, h5, h6⟩ := h
  obtain ⟨⟨lo, hi⟩, sky⟩ := x
  simp only at h1 h2 h3 h4 h5 h6
  have h7 : sky = 1 ∨ sky = 2 ∨ sky = 3 ∨ sky = 4 ∨ sky = 5 ∨ sky = 6 ∨ sky = 7 := by omega
  rcases h7 with rfl | rfl | rfl | rfl | rfl | rfl | rfl
  · exact ⟨(lo, 0), Int.le_refl _, h2, by show (0 : Int) ≤ 0; omega, by show (0 : Int) ≤ 2; omega, (show hasSky 1 0 = true by decide)⟩
  · exact ⟨(lo, 1), Int.le_refl _, h2, by show (0 : Int) ≤ 1; omega, by show (1 : Int) ≤ 2; omega, (show hasSky 2 1 = true by decide)⟩
  · exact ⟨(lo, 0), Int.le_refl _, h2, by show (0 : Int) ≤ 0; omega, by show (0 : Int) ≤ 2; omega, (show hasSky 3 0 = true by decide)⟩
  · exact ⟨(lo, 2), Int.le_refl _, h2, by show (0 : Int) ≤ 2; omega, by show (2 : Int) ≤ 2; omega, (show hasSky 4 2 = true by decide)⟩
  · exact ⟨(lo, 0), Int.le_refl _, h2, by show (0 : Int) ≤ 0; omega, by show (0 : Int) ≤ 2; omega, (show hasSky 5 0 = true by decide)⟩
  · exact ⟨(lo, 1), Int.le_refl _, h2, by show (0 : Int) ≤ 1; omega, by show (1 : Int) ≤ 2; omega, (show hasSky 6 1 = true by decide)⟩
  · exact ⟨(lo, 0), Int.le_refl _, h2, by show (0 : Int) ≤ 0; omega, by show (0 : Int) ≤ 2; omega, (show hasSky 7 0 = true by decide)⟩
theorem choice_some : ∀ (ds : List S90), (∀ x ∈ ds, okDay x = true) → ∃ c, OkCh ds c := by
  intro ds
  induction ds with
  | nil => intro _; exact ⟨[], rfl, fun i h => absurd h (by simp)⟩
  | cons x ds ih =>
    intro h
    obtain ⟨p, hp⟩ := day_some (h x (by simp))
    obtain ⟨c, hl, hc⟩ := ih fun y hy => h y (by simp [hy])
    refine ⟨p :: c, by simp [hl], fun i h1 h2 => ?_⟩
    cases i with
    | zero => exact hp
    | succ i => exact hc i (by simpa using h1) (by simpa using h2)
section
variable {ls : List S92} {ds : List S90} {ks : List S43}
theorem okBook_parts (h : okBook ls ds ks = true) : (1 ≤ ls.length ∧ ls.length ≤ 4) ∧ (1 ≤ ds.length ∧ ds.length ≤ 5) ∧ ks.length ≤ 4 ∧ (∀ x ∈ ls, okLayer x = true) ∧ (∀ x ∈ ds, okDay x = true) ∧ ∀ x ∈ ks, okLook ls.length ds.length x = true := by
  unfold okBook at h
  simp only [Bool.and_eq_true, decide_eq_true_eq, List.all_eq_true] at h
  obtain ⟨⟨⟨⟨⟨a, b⟩, c⟩, d⟩, e⟩, f⟩ := h
  exact ⟨a, b, c, d, e, f⟩
theorem okBook_mk (h1 : 1 ≤ ls.length ∧ ls.length ≤ 4) (h2 : 1 ≤ ds.length ∧ ds.length ≤ 5) (h3 : ks.length ≤ 4) (h4 : ∀ x ∈ ls, okLayer x = true) (h5 : ∀ x ∈ ds, okDay x = true) (h6 : ∀ x ∈ ks, okLook ls.length ds.length x = true) : okBook ls ds ks = true := by
  unfold okBook
  rw [decide_eq_true h1, decide_eq_true h2, decide_eq_true h3, List.all_eq_true.2 h4, List.all_eq_true.2 h5, List.all_eq_true.2 h6]
  rfl
theorem okBook_nolooks (h : okBook ls ds ks = true) : okBook ls ds [] = true := by
  obtain ⟨a, b, c, d, e, f⟩ := okBook_parts h
  exact okBook_mk a b (by simp) d e (by simp)
theorem okBook_set (h : okBook ls ds ks = true) (j : Nat) {y : S90} (hy : okDay y = true) : okBook ls (ds.set j y) [] = true := by
  obtain ⟨a, b, c, d, e, f⟩ := okBook_parts h
  refine okBook_mk a (by simpa using b) (by simp) d (fun x hx => ?_) (by simp)
  rcases List.mem_or_eq_of_mem_set hx with h | h
  · exact e x h
  · rw [h]; exact hy
theorem truths_nolooks (h : okBook ls ds [] = true) : 0 < (truthsAll ls ds [] []).length := by
  obtain ⟨c, hc⟩ := choice_some ds (okBook_parts h).2.2.2.2.1
  exact truths_pos.2 ⟨c, good_nil.2 hc⟩
end
/-- A day with a wagon more. -/
def moreDay (x : S90) : S90 := ⟨⟨min (min 20 (x.f0.f1 + 1)) (x.f0.f0 + 1), min 20 (x.f0.f1 + 1)⟩, x.f1⟩
theorem moreDay_ok {x : S90} (h : okDay x = true) : okDay (moreDay x) = true := by
  unfold okDay at h ⊢
  simp only [Bool.and_eq_true, decide_eq_true_eq] at h ⊢
  obtain ⟨⟨h1, h2, h3, h4⟩, h5, h6⟩ := h
  unfold moreDay
  refine ⟨⟨?_, ?_, ?_, ?_⟩, h5, h6⟩ <;> dsimp only <;> omega
theorem leC_set {c : Ch} {j : Nat} {p q : Int × Int} (h0 : ∀ i (h : i < c.length), 0 ≤ c[i].1) (hp : 0 ≤ p.1 ∧ p.1 ≤ q.1 ∧ (p.2 = q.2 ∨ (p.2 = 0 ∧ q.2 = 1))) : LeC (c.set j p) (c.set j q) := by
  refine ⟨by simp, fun i h1 h2 => ?_⟩
  simp only [List.length_set] at h1 h2
  rw [List.getElem_set, List.getElem_set]
  by_cases e : j = i
  · rw [if_pos e, if_pos e]; exact hp
  · rw [if_neg e, if_neg e]; exact ⟨h0 i h1, Int.le_refl _, .inl rfl⟩
theorem okCh_zero {ds : List S90} {c : Ch} (hd : ∀ x ∈ ds, okDay x = true) (h : OkCh ds c) : ∀ i (hi : i < c.length), 0 ≤ c[i].1 := by
  intro i hi
  have hi' : i < ds.length := by rw [← h.1]; exact hi
  have h1 := (h.2 i hi hi').1
  have h2 := hd _ (List.getElem_mem hi')
  unfold okDay at h2
  simp only [Bool.and_eq_true, decide_eq_true_eq] at h2
  omega
section
variable {ls : List S92} {ds : List S90} {ks : List S43}
/-- For each choice of the one book one of the other, no worse, and alike on the days before. -/
theorem pass_up (hok : okBook ls ds ks = true) {j : Nat} (hj : j < ds.length) {c : Ch} (hc : OkCh ds c) : ∃ c', OkCh (ds.set j (moreDay ds[j])) c' ∧ LeC c c' ∧ c.take j = c'.take j := by
  have hd := (okBook_parts hok).2.2.2.2.1
  have hjc : j < c.length := by rw [hc.1]; exact hj
  obtain ⟨d1, d2, d3, d4, d5⟩ := okCh_day hc hjc hj
  have hx := hd _ (List.getElem_mem hj)
  have h0 := okCh_zero hd hc
  unfold okDay at hx
  simp only [Bool.and_eq_true, decide_eq_true_eq] at hx
  refine ⟨c.set j (min 20 (ds[j].f0.f1 + 1), c[j].2), okCh_set hc j ⟨?_, ?_, d3, d4, d5⟩, ?_, ?_⟩
  · unfold moreDay; dsimp only; omega
  · unfold moreDay; dsimp only; omega
  · have := leC_set (j := j) (p := c[j]) (q := (min 20 (ds[j].f0.f1 + 1), c[j].2)) h0 ⟨h0 j hjc, by dsimp only; omega, .inl rfl⟩
    rwa [List.set_getElem_self] at this
  · rw [List.take_set_of_le (Nat.le_refl j)]
theorem pass_down (hok : okBook ls ds ks = true) {j : Nat} (hj : j < ds.length) {c' : Ch} (hc : OkCh (ds.set j (moreDay ds[j])) c') : ∃ c, OkCh ds c ∧ LeC c c' ∧ c.take j = c'.take j := by
  have hd := (okBook_parts hok).2.2.2.2.1
  have hd' := (okBook_parts (okBook_set hok j (moreDay_ok (hd _ (List.getElem_mem hj))))).2.2.2.2.1
  have hjc : j < c'.length := by rw [hc.1]; simpa using hj
  have hjs : j < (ds.set j (moreDay ds[j])).length := by simpa using hj
  obtain ⟨d1, d2, d3, d4, d5⟩ := okCh_day hc hjc hjs
  have hx := hd _ (List.getElem_mem hj)
  have h0 := okCh_zero hd' hc
  rw [List.getElem_set_self] at d1 d2 d5
  unfold okDay at hx
  simp only [Bool.and_eq_true, decide_eq_true_eq] at hx
  unfold moreDay at d1 d2 d5
  dsimp only at d1 d2 d5
  refine ⟨c'.set j (ds[j].f0.f0, c'[j].2), okCh_back hc hj ⟨Int.le_refl _, by omega, d3, d4, d5⟩, ?_, ?_⟩
  · have := leC_set (j := j) (p := (ds[j].f0.f0, c'[j].2)) (q := c'[j]) h0 ⟨by dsimp only; omega, by dsimp only; omega, .inl rfl⟩
    rwa [List.set_getElem_self] at this
  · rw [List.take_set_of_le (Nat.le_refl j)]
theorem pass_span (hok : okBook ls ds ks = true) {j : Nat} (hj : j < ds.length) {d : Nat} (hd : d < ds.length) :
    (bspan (truthsAll ls ds [] []) d).1 ≤ (bspan (truthsAll ls (ds.set j (moreDay ds[j])) [] []) d).1 ∧ (bspan (truthsAll ls ds [] []) d).2 ≤ (bspan (truthsAll ls (ds.set j (moreDay ds[j])) [] []) d).2 ∧ (d < j → (bspan (truthsAll ls ds [] []) d).1 = (bspan (truthsAll ls (ds.set j (moreDay ds[j])) [] []) d).1 ∧ (bspan (truthsAll ls ds [] []) d).2 = (bspan (truthsAll ls (ds.set j (moreDay ds[j])) [] []) d).2) := by
  have hx := (okBook_parts hok).2.2.2.2.1 _ (List.getElem_mem hj)
  have hn := okBook_nolooks hok
  have hs := okBook_set hok j (moreDay_ok hx)
  have t1 := bspan_told hn (truths_nolooks hn) hd
  have t2 := bspan_told hs (truths_nolooks hs) (show d < (ds.set j (moreDay ds[j])).length by simpa using hd)
  refine ⟨?_, ?_, fun hdj => ?_⟩
  · obtain ⟨c', h', e⟩ := t2.elo
    obtain ⟨c, h, hl, _⟩ := pass_down hok hj (good_nil.1 h')
    have a := (t1.all c (good_nil.2 h)).1
    have b := rd_le (ls := ls) hl d
    omega
  · obtain ⟨c, h, e⟩ := t1.ehi
    obtain ⟨c', h', hl, _⟩ := pass_up hok hj (good_nil.1 h)
    have a := (t2.all c' (good_nil.2 h')).2
    have b := rd_le (ls := ls) hl d
    omega
  · refine t1.eq t2 (fun c h => ?_) (fun c' h' => ?_)
    · obtain ⟨c', h', _, hp⟩ := pass_up hok hj (good_nil.1 h)
      exact ⟨c', good_nil.2 h', (rd_take hp hdj).symm⟩
    · obtain ⟨c, h, _, hp⟩ := pass_down hok hj (good_nil.1 h')
      exact ⟨c, good_nil.2 h, rd_take hp hdj⟩
theorem pass_bound (hok : okBook ls ds ks = true) {j : Nat} (hj : j < ds.length) {d : Nat} (hd : d < ds.length) :
    ∃ a b a' b' : Int, boundF ls ds [] d = (a, b, 0) ∧ boundF ls (ds.set j (moreDay ds[j])) [] d = (a', b', 0) ∧ a ≤ a' ∧ b ≤ b' ∧ (d < j → a = a' ∧ b = b') := by
  have hx := (okBook_parts hok).2.2.2.2.1 _ (List.getElem_mem hj)
  have hn := okBook_nolooks hok
  have hs := okBook_set hok j (moreDay_ok hx)
  rw [boundF_eq hn (truths_nolooks hn) hd, boundF_eq hs (truths_nolooks hs) (by simpa using hd)]
  exact ⟨_, _, _, _, rfl, rfl, pass_span hok hj hd⟩
theorem pass_done (hok : okBook ls ds ks = true) {j : Nat} (hj : j < ds.length) :
    doneF ls ds [] = (0, 4) ∨ ∃ p q : Nat, doneF ls ds [] = ((p : Int), 0) ∧ doneF ls (ds.set j (moreDay ds[j])) [] = ((q : Int), 0) ∧ q ≤ p ∧ p < ds.length := by
  have hx := (okBook_parts hok).2.2.2.2.1 _ (List.getElem_mem hj)
  have hn := okBook_nolooks hok
  have hs := okBook_set hok j (moreDay_ok hx)
  unfold doneF
  rw [if_pos (askCode_true_zero hn (truths_nolooks hn)), if_pos (askCode_true_zero hs (truths_nolooks hs)), List.length_set]
  refine first_sub fun i hi e => ?_
  have h1 := pass_span hok hj hi
  have h2 := bspan_ends hs (truths_nolooks hs) (show i < (ds.set j (moreDay ds[j])).length by simpa using hi)
  omega
theorem pass_perhaps (hok : okBook ls ds ks = true) {j : Nat} (hj : j < ds.length) :
    perhapsF ls ds [] = (0, 4) ∨ ∃ p q : Nat, perhapsF ls ds [] = ((p : Int), 0) ∧ perhapsF ls (ds.set j (moreDay ds[j])) [] = ((q : Int), 0) ∧ q ≤ p ∧ p < ds.length := by
  have hx := (okBook_parts hok).2.2.2.2.1 _ (List.getElem_mem hj)
  have hn := okBook_nolooks hok
  have hs := okBook_set hok j (moreDay_ok hx)
  unfold perhapsF
  rw [if_pos (askCode_true_zero hn (truths_nolooks hn)), if_pos (askCode_true_zero hs (truths_nolooks hs)), List.length_set]
  refine first_sub fun i hi e => ?_
  have h1 := pass_span hok hj hi
  have h2 := bspan_ends hs (truths_nolooks hs) (show i < (ds.set j (moreDay ds[j])).length by simpa using hi)
  omega
end
end Go.Proofs.YthgjedagbgmgmaaDoor.Pr
namespace Go.Proofs.YthgjedagbgmgmaaDoor.Pr
open Go.RowKit Go.Proofs.YthgjedagbgmgmaaDoorW.PrintWords Go.Proofs.YthgjedagbgmgmaaDoorW.PrintLast Go.Proofs.YthgjedagbgmgmaaDoorW.PrintMore
set_option linter.unusedVariables false
set_option linter.unusedSimpArgs false
theorem frow_to_C {α : Type} {d : Kd α} {enc : α → List Value} {w : World} {A : Option Addr} {xs : List α} (h : FRow enc d.sz w A xs) (hl : ∀ x, (enc x).length = d.sz) (he : ∀ w x, d.K w x (enc x)) (hm : xs.length ≤ 9223372036854775807) : Kd.C d w A xs.length xs := by
  refine ⟨rfl, hm, fun hn => ?_⟩
  rcases h with h | ⟨b, o, e, hlt, hc⟩
  · rw [h] at hn; exact absurd hn (by simp)
  · refine ⟨⟨b, o, none⟩, e, fun i x hx => ⟨enc x, hl x, he w x, fun j v hv => ?_⟩⟩
    have := hc i x hx j v hv
    rw [Addr.add_mid, ← Nat.add_assoc]
    exact this
theorem frow_cell {α : Type} {enc : α → List Value} {sz : Nat} {W : World} {g : Nat} {xs : List α} (h : FRow enc sz W (some ⟨g, 0, none⟩) xs) {i : Nat} {x : α} (hx : xs[i]? = some x) {k : Nat} {v : Value} (hv : (enc x)[k]? = some v) : W.cell? ⟨g, i * sz + k, none⟩ = some v := by
  rcases h with rfl | ⟨b, o, e, hlt, hc⟩
  · simp at hx
  · injection e with e
    injection e with e1 e2
    subst e1
    subst e2
    have := hc i x hx k v hv
    rwa [Nat.zero_add] at this
theorem frow_grown {α : Type} {enc : α → List Value} {sz : Nat} {W W' : World} {g : Nat} {xs : List α} {row : Option Nat} (h : FRow enc sz W (some ⟨g, 0, none⟩) xs) (hg : W.grownBy W' row) (hne : some g ≠ row) : FRow enc sz W' (some ⟨g, 0, none⟩) xs := by
  rcases h with h | ⟨b, o, e, hlt, hc⟩
  · exact .inl h
  · injection e with e
    injection e with e1 e2
    subst e1
    subst e2
    exact .inr ⟨g, 0, rfl, Nat.lt_of_lt_of_le hlt hg.size, fun i x hx j v hv => (World.cell?_of_block (hg.block g hlt hne)).trans (hc i x hx j v hv)⟩
theorem g_below {W W' : World} (h : Below W.heap.size W W') : W.grownBy W' none := ⟨h.os, h.tape, h.output, h.size, fun k hk _ => h.block k hk⟩
theorem frow_put {α : Type} {enc : α → List Value} {sz : Nat} (hl : ∀ x, (enc x).length = sz) {W : World} {g : Nat} {cells : Array Value} {t : TypeId} (hb : W.heap[g]? = some (.cells cells t (0, 0))) {xs : List α} (h : FRow enc sz W (some ⟨g, 0, none⟩) xs) {d : Nat} (hd : d < xs.length) {j : Nat} (hj : j < sz) {y : α} {u : Value} (hy : enc y = (enc xs[d]).set j u) : FRow enc sz (W.setCell ⟨g, d * sz + j, none⟩ u) (some ⟨g, 0, none⟩) (xs.set d y) := by
  rcases h with rfl | ⟨b, o, e, hlt, hc⟩
  · simp at hd
  · injection e with e
    injection e with e1 e2
    subst e1
    subst e2
    have old : ∀ i x, xs[i]? = some x → ∀ k v, (enc x)[k]? = some v → cells[0 + i * sz + k]? = some v := by
      intro i x hx k v hv
      have := hc i x hx k v hv
      rwa [blk_cell hb] at this
    refine .inr ⟨g, 0, rfl, by simpa using hlt, fun i x hx k v hv => ?_⟩
    have hk : k < sz := by
      have := (List.getElem?_eq_some_iff.1 hv).1
      rwa [hl] at this
    rw [blk_cell (blk_set hb (d * sz + j) u), Array.getElem?_setIfInBounds]
    have hxd := old d xs[d] (List.getElem?_eq_getElem hd)
    by_cases e : i = d
    · subst e
      rw [List.getElem?_set_self hd] at hx
      obtain rfl := Option.some.inj hx
      rw [hy] at hv
      by_cases ej : k = j
      · subst ej
        have hlj : k < (enc xs[i]).length := by rw [hl]; exact hk
        rw [List.getElem?_set_self hlj] at hv
        have hin := hxd k _ (List.getElem?_eq_getElem hlj)
        rw [Nat.zero_add] at hin ⊢
        rw [if_pos rfl, if_pos (Array.getElem?_eq_some_iff.1 hin).1]
        exact hv
      · rw [List.getElem?_set_ne (fun q => ej q.symm)] at hv
        rw [if_neg (by omega)]
        exact hxd k v hv
    · have hne : ¬ d * sz + j = 0 + i * sz + k := by
        rcases Nat.lt_or_gt_of_ne e with q | q
        · have : (i + 1) * sz ≤ d * sz := Nat.mul_le_mul_right _ q
          rw [Nat.succ_mul] at this
          omega
        · have : (d + 1) * sz ≤ i * sz := Nat.mul_le_mul_right _ q
          rw [Nat.succ_mul] at this
          omega
      rw [if_neg hne]
      rw [List.getElem?_set_ne (fun q => e q.symm)] at hx
      exact old i x hx k v hv
theorem g_refl (W : World) (row : Option Nat) : W.grownBy W row := ⟨rfl, rfl, rfl, Nat.le_refl _, fun _ _ _ => rfl⟩
theorem g_all {W W' : World} {row : Option Nat} (h : W.grownBy W' row) (o : Obj) : W.grownBy (W'.alloc o) row := h.trans (World.grownBy_alloc W' o row)
theorem g_put {W W' : World} {g : Nat} (h : W.grownBy W' (some g)) (j : Nat) (u : Value) : W.grownBy (W'.setCell ⟨g, j, none⟩ u) (some g) :=
  ⟨h.os, h.tape, h.output, (show (W'.setCell ⟨g, j, none⟩ u).heap.size = W'.heap.size by simp) ▸ h.size, fun k hk hne => (Below.heap_setCell W' ⟨g, j, none⟩ u k (fun e => hne (by rw [e]))).trans (h.block k hk hne)⟩
theorem own_row_typed {α : Type} {d : Kd α} {e : Nat} {W : World} {base : Nat} {ok : Nat → Prop} {v : Value} {xs : List α} (h : Kd.R d e W base ok v xs) (g : Nat) (hg : v.ownBlock = some g) : ∃ cells, W.heap[g]? = some (.cells cells e (0, 0)) := by
  obtain ⟨_, inner, ho, _⟩ := h
  exact own_typed ho g hg
theorem own_ne {α : Type} {d : Kd α} {e : Nat} {W : World} {base : Nat} {ok : Nat → Prop} {v : Value} {xs : List α} (h : Kd.R d e W base ok v xs) {g : Nat} {cs : Array Value} {t : TypeId} (hb : W.heap[g]? = some (.cells cs t (0, 0))) (ht : t ≠ e) : some g ≠ v.ownBlock := by
  intro q
  obtain ⟨cells, hc⟩ := own_row_typed h g q.symm
  rw [hb] at hc
  injection hc with hc
  injection hc with _ hc _
  exact ht hc
theorem R_typed_grown {α : Type} {d : Kd α} {e : Nat} {W W' : World} {base : Nat} {ok : Nat → Prop} {v : Value} {xs : List α} {row : Option Nat} (h : Kd.R d e W base ok v xs) (hg : W.grownBy W' row) (hrow : ∀ g, row = some g → ∃ cells t, W.heap[g]? = some (.cells cells t (0, 0)) ∧ ∀ q, q ∈ e :: d.E → q ≠ t) : Kd.R d e W' base ok v xs := by
  cases row with
  | none => exact Kd.R_step h fun k _ hk => hg.block k hk (by simp)
  | some g =>
    obtain ⟨cells, t, hb, ht⟩ := hrow g rfl
    exact Kd.R_mono (Kd.R_step (Kd.R_types h hb ht) fun k hk hlt => hg.block k hlt (fun q => hk.2 (Option.some.inj q))) (fun _ hk => hk.1)
end Go.Proofs.YthgjedagbgmgmaaDoor.Pr
namespace Go.Proofs.YthgjedagbgmgmaaDoor.Pr
open Go.RowKit Go.Proofs.YthgjedagbgmgmaaDoorW.PrintWords Go.Proofs.YthgjedagbgmgmaaDoorW.PrintLast Go.Proofs.YthgjedagbgmgmaaDoorW.PrintMore
set_option linter.unusedVariables false
set_option linter.unusedSimpArgs false
attribute [local go_sem] min_two
set_option maxHeartbeats 8000000 in
set_option maxRecDepth 100000 in
theorem pass_none (A0 A1 A2 : Option Addr) (c0 c1 c2 : Nat) (l0 : List S92) (l1 : List S90) (l2 : List S43) (n0 n1 : Int) (w : World) (HSO : Hid (∀ W, Below w.heap.size w W → Calls Tryd.prog 56 #[.agg #[.slice A0 l0.length c0, .slice A1 l1.length c1, .slice A2 l2.length c2]] W fun e w' => e = .returned (.bool false) ∧ Below W.heap.size W w')) (HRO : Hid (∀ W, Below w.heap.size w W → Calls Tryd.prog 27 #[] W fun e w' => e = .returned (.bool true) ∧ Below W.heap.size W w')) :
    Calls Tryd.prog 14 #[.agg #[.slice A0 l0.length c0, .slice A1 l1.length c1, .slice A2 l2.length c2], .agg #[.int .i64 n0, .int .i64 n1]] w fun e w' => e = .returned (.bool true) ∧ Below w.heap.size w w' := by
  go_enter Tryd.func14, Tryd.ntmps14
  have HB := Lib.hid (Below.refl w.heap.size w)
  go_wp2_with fail
  obtain ⟨W1, hnw⟩ : ∃ W, W = ((w.alloc (.cells #[.slice A0 l0.length c0, .slice A1 l1.length c1, .slice A2 l2.length c2] 26)).alloc (.cells #[.int .i64 n0, .int .i64 n1] 84)) := ⟨_, rfl⟩
  rw [← hnw]
  have hg : w.grownBy W1 (none) := by rw [hnw]; exact (g_all (g_all (g_refl w (none)) (.cells #[.slice A0 l0.length c0, .slice A1 l1.length c1, .slice A2 l2.length c2] 26)) (.cells #[.int .i64 n0, .int .i64 n1] 84))
  have HK := Lib.hid (show W1.heap[w.heap.size]? = some (.cells #[.slice A0 l0.length c0, .slice A1 l1.length c1, .slice A2 l2.length c2] 26 (0, 0)) by rw [hnw]; exact blk_alloc (blk_at w (.cells #[.slice A0 l0.length c0, .slice A1 l1.length c1, .slice A2 l2.length c2] 26) _ (by simp)) (.cells #[.int .i64 n0, .int .i64 n1] 84))
  have HN := Lib.hid (show W1.heap[w.heap.size + 1]? = some (.cells #[.int .i64 n0, .int .i64 n1] 84 (0, 0)) by rw [hnw]; exact blk_at (w.alloc (.cells #[.slice A0 l0.length c0, .slice A1 l1.length c1, .slice A2 l2.length c2] 26)) (.cells #[.int .i64 n0, .int .i64 n1] 84) _ (by simp))
  replace HB := Lib.hid (HB.out.grown hg HB.out.size (fun k e => by cases e))
  clear hg hnw
  refine (HSO.out _ HB.out).mono ?_
  rintro e W2 ⟨rfl, hb⟩
  have hg := g_below hb
  replace HK := Lib.hid (blk_grown HK.out hg (by simp))
  replace HN := Lib.hid (blk_grown HN.out hg (by simp))
  replace HB := Lib.hid (HB.out.trans (below_weaken hb HB.out.size))
  clear hb hg
  have cK_0 := (blk_cell HK.out 0).trans rfl
  have cK_1 := (blk_cell HK.out 1).trans rfl
  have cK_2 := (blk_cell HK.out 2).trans rfl
  have lK := blk_lt HK.out
  have cN_0 := (blk_cell HN.out 0).trans rfl
  have cN_1 := (blk_cell HN.out 1).trans rfl
  have lN := blk_lt HN.out
  go_wp2_with fail
  clear cK_0 cK_1 cK_2 lK cN_0 cN_1 lN
  refine (HRO.out _ HB.out).mono ?_
  rintro e W3 ⟨rfl, hb⟩
  have hg := g_below hb
  replace HK := Lib.hid (blk_grown HK.out hg (by simp))
  replace HN := Lib.hid (blk_grown HN.out hg (by simp))
  replace HB := Lib.hid (HB.out.trans (below_weaken hb HB.out.size))
  clear hb hg
  have cK_0 := (blk_cell HK.out 0).trans rfl
  have cK_1 := (blk_cell HK.out 1).trans rfl
  have cK_2 := (blk_cell HK.out 2).trans rfl
  have lK := blk_lt HK.out
  have cN_0 := (blk_cell HN.out 0).trans rfl
  have cN_1 := (blk_cell HN.out 1).trans rfl
  have lN := blk_lt HN.out
  clear cK_0 cK_1 cK_2 lK cN_0 cN_1 lN
  go_wp2
  go_ret
  exact ⟨ret_true (by first | rfl | (simp; done) | (simp; omega)), HB.out⟩
set_option maxHeartbeats 8000000 in
set_option maxRecDepth 100000 in
theorem pass_walk (A0 A1 A2 : Option Addr) (c0 c1 c2 : Nat) (l0 : List S92) (l1 : List S90) (l2 : List S43) (n0 n1 : Int) (w : World) (m d : Nat) (hm : m < l1.length) (lo hi h2 lo2 : Int) (hl5 : l1.length ≤ 5) (hr1 : Kd.C k90 w A1 l1.length l1) (HLO : Hid (lo = l1[m].f0.f0)) (HHI : Hid (hi = l1[m].f0.f1)) (HMD : Hid (moreDay l1[m] = ⟨⟨lo2, h2⟩, l1[m].f1⟩)) (hhi : IntKind.i64.wrap (hi + 1) = hi + 1) (hmn : Builtin.min2 (.int .i64 20) (.int .i64 (hi + 1)) = pure (.int .i64 h2)) (hlo : IntKind.i64.wrap (lo + 1) = lo + 1) (hmn2 : Builtin.min2 (.int .i64 h2) (.int .i64 (lo + 1)) = pure (.int .i64 lo2)) (HSO : Hid (∀ W, Below w.heap.size w W → Calls Tryd.prog 56 #[.agg #[.slice A0 l0.length c0, .slice A1 l1.length c1, .slice A2 l2.length c2]] W fun e w' => e = .returned (.bool true) ∧ Below W.heap.size W w')) (HRO : Hid (∀ W, Below w.heap.size w W → Calls Tryd.prog 27 #[] W fun e w' => e = .returned (.bool true) ∧ Below W.heap.size W w')) (HW0 : Hid (∀ W, Calls Tryd.prog 47 #[.int .i64 n0, .int .i64 (l1.length : Int)] W fun e w' => e = .returned (.int .i64 (m : Int)) ∧ Below W.heap.size W w')) (HW1 : Hid (∀ W, Calls Tryd.prog 47 #[.int .i64 n1, .int .i64 (l1.length : Int)] W fun e w' => e = .returned (.int .i64 (d : Int)) ∧ Below W.heap.size W w'))
    (s1 s2 t1 t2 x1 x2 y1 y2 z1 z2 r1 r2 : Int) (hst1 : s1 ≤ t1) (hst2 : s2 ≤ t2) (HST : Hid ((d : Int) < (m : Int) → s1 = t1 ∧ s2 = t2)) (HBX : Hid (∀ W, Below w.heap.size w W → Calls Tryd.prog 21 #[.agg #[.slice A0 l0.length c0, .slice A1 l1.length c1, .slice none 0 0], .int .i64 (d : Int)] W fun e w' => e = .returned (.tuple #[.agg #[.int .i64 s1, .int .i64 s2], .int .i64 0]) ∧ Below W.heap.size W w')) (HBY : Hid (∀ W g c, Below w.heap.size w W → FRow e90 3 W (some ⟨g, 0, none⟩) (l1.set m (moreDay l1[m])) → l1.length ≤ c → Calls Tryd.prog 21 #[.agg #[.slice A0 l0.length c0, .slice (some ⟨g, 0, none⟩) l1.length c, .slice none 0 0], .int .i64 (d : Int)] W fun e w' => e = .returned (.tuple #[.agg #[.int .i64 t1, .int .i64 t2], .int .i64 0]) ∧ Below W.heap.size W w')) (HDX : Hid (∀ W, Below w.heap.size w W → Calls Tryd.prog 32 #[.agg #[.slice A0 l0.length c0, .slice A1 l1.length c1, .slice none 0 0]] W fun e w' => e = .returned (.tuple #[.int .i64 x1, .int .i64 x2]) ∧ Below W.heap.size W w')) (HDY : Hid (∀ W g c, Below w.heap.size w W → FRow e90 3 W (some ⟨g, 0, none⟩) (l1.set m (moreDay l1[m])) → l1.length ≤ c → Calls Tryd.prog 32 #[.agg #[.slice A0 l0.length c0, .slice (some ⟨g, 0, none⟩) l1.length c, .slice none 0 0]] W fun e w' => e = .returned (.tuple #[.int .i64 y1, .int .i64 y2]) ∧ Below W.heap.size W w')) (HPX : Hid (∀ W, Below w.heap.size w W → Calls Tryd.prog 34 #[.agg #[.slice A0 l0.length c0, .slice A1 l1.length c1, .slice none 0 0]] W fun e w' => e = .returned (.tuple #[.int .i64 z1, .int .i64 z2]) ∧ Below W.heap.size W w')) (HPY : Hid (∀ W g c, Below w.heap.size w W → FRow e90 3 W (some ⟨g, 0, none⟩) (l1.set m (moreDay l1[m])) → l1.length ≤ c → Calls Tryd.prog 34 #[.agg #[.slice A0 l0.length c0, .slice (some ⟨g, 0, none⟩) l1.length c, .slice none 0 0]] W fun e w' => e = .returned (.tuple #[.int .i64 r1, .int .i64 r2]) ∧ Below W.heap.size W w')) (HDP : Hid ((x2 = 4 ∨ (x2 = 0 ∧ y2 = 0 ∧ y1 ≤ x1)) ∧ (z2 = 4 ∨ (z2 = 0 ∧ r2 = 0 ∧ r1 ≤ z1)))) :
    Calls Tryd.prog 14 #[.agg #[.slice A0 l0.length c0, .slice A1 l1.length c1, .slice A2 l2.length c2], .agg #[.int .i64 n0, .int .i64 n1]] w fun e w' => e = .returned (.bool true) ∧ Below w.heap.size w w' := by
  have HR1 := Lib.hid hr1
  clear hr1
  go_enter Tryd.func14, Tryd.ntmps14
  have HB := Lib.hid (Below.refl w.heap.size w)
  go_wp2_with fail
  obtain ⟨W1, hnw⟩ : ∃ W, W = ((w.alloc (.cells #[.slice A0 l0.length c0, .slice A1 l1.length c1, .slice A2 l2.length c2] 26)).alloc (.cells #[.int .i64 n0, .int .i64 n1] 84)) := ⟨_, rfl⟩
  rw [← hnw]
  have hg : w.grownBy W1 (none) := by rw [hnw]; exact (g_all (g_all (g_refl w (none)) (.cells #[.slice A0 l0.length c0, .slice A1 l1.length c1, .slice A2 l2.length c2] 26)) (.cells #[.int .i64 n0, .int .i64 n1] 84))
  have HK := Lib.hid (show W1.heap[w.heap.size]? = some (.cells #[.slice A0 l0.length c0, .slice A1 l1.length c1, .slice A2 l2.length c2] 26 (0, 0)) by rw [hnw]; exact blk_alloc (blk_at w (.cells #[.slice A0 l0.length c0, .slice A1 l1.length c1, .slice A2 l2.length c2] 26) _ (by simp)) (.cells #[.int .i64 n0, .int .i64 n1] 84))
  have HN := Lib.hid (show W1.heap[w.heap.size + 1]? = some (.cells #[.int .i64 n0, .int .i64 n1] 84 (0, 0)) by rw [hnw]; exact blk_at (w.alloc (.cells #[.slice A0 l0.length c0, .slice A1 l1.length c1, .slice A2 l2.length c2] 26)) (.cells #[.int .i64 n0, .int .i64 n1] 84) _ (by simp))
  replace HB := Lib.hid (HB.out.grown hg HB.out.size (fun k e => by cases e))
  clear hg hnw
  refine (HSO.out _ HB.out).mono ?_
  rintro e W2 ⟨rfl, hb⟩
  have hg := g_below hb
  replace HK := Lib.hid (blk_grown HK.out hg (by simp))
  replace HN := Lib.hid (blk_grown HN.out hg (by simp))
  replace HB := Lib.hid (HB.out.trans (below_weaken hb HB.out.size))
  clear hb hg
  have cK_0 := (blk_cell HK.out 0).trans rfl
  have cK_1 := (blk_cell HK.out 1).trans rfl
  have cK_2 := (blk_cell HK.out 2).trans rfl
  have lK := blk_lt HK.out
  have cN_0 := (blk_cell HN.out 0).trans rfl
  have cN_1 := (blk_cell HN.out 1).trans rfl
  have lN := blk_lt HN.out
  go_upto_region 3 with fail
  clear cK_0 cK_1 cK_2 lK cN_0 cN_1 lN
  have LrK_3 := blk_lt HK.out
  have LrN_3 := blk_lt HN.out
  have HQ := Lib.hid (Nat.le_refl W2.heap.size)
  have hb : Below W2.heap.size W2 W2.drew := (Below.refl _ _).drew
  have hg := g_below hb
  replace HQ := Lib.hid (Nat.le_trans HQ.out hg.size)
  replace HK := Lib.hid (blk_grown HK.out hg (by simp))
  replace HN := Lib.hid (blk_grown HN.out hg (by simp))
  replace HB := Lib.hid (HB.out.trans (below_weaken hb HB.out.size))
  clear hb hg
  refine start_ (n := 17) (S := fun w' => w'.cell? ⟨w.heap.size, 0, none⟩ = some (.slice A0 l0.length c0) ∧ w'.cell? ⟨w.heap.size, 1, none⟩ = some (.slice A1 l1.length c1) ∧ w'.cell? ⟨w.heap.size, 2, none⟩ = some (.slice A2 l2.length c2) ∧ w'.cell? ⟨w.heap.size + 1, 0, none⟩ = some (.int .i64 n0) ∧ w'.cell? ⟨w.heap.size + 1, 1, none⟩ = some (.int .i64 n1)) (ds := [14]) #[false, false, false, false, false, false, false, false, false, false, false, false, false, false, false, false, false] (by kernel_rfl) rfl rfl ⟨(blk_cell HK.out 0).trans rfl, (blk_cell HK.out 1).trans rfl, (blk_cell HK.out 2).trans rfl, (blk_cell HN.out 0).trans rfl, (blk_cell HN.out 1).trans rfl⟩ (fun hHeld => ?_)
  refine pu_ 1 (some 27) ?_
  refine pu_ 3 (some 29) ?_
  refine pu_ 7 (some 33) ?_
  refine pu_ 9 (some 35) ?_
  refine ta_ 0 (some 26) (s := hHeld) (y := by rintro w' ⟨s0, s1, s2, s3, s4⟩; go_simp; with_reducible rfl) (h := ?_)
  refine ta_ 2 (some 28) (s := hHeld) (y := by rintro w' ⟨s0, s1, s2, s3, s4⟩; go_simp; with_reducible rfl) (h := ?_)
  refine ta_ 4 (some 30) (s := hHeld) (y := by rintro w' ⟨s0, s1, s2, s3, s4⟩; go_simp; with_reducible rfl) (h := ?_)
  refine pu_ 5 (some 31) ?_
  refine ta_ 8 (some 34) (s := hHeld) (y := by rintro w' ⟨s0, s1, s2, s3, s4⟩; go_simp; with_reducible rfl) (h := ?_)
  refine ta_ 10 (some 36) (s := hHeld) (y := by rintro w' ⟨s0, s1, s2, s3, s4⟩; go_simp; with_reducible rfl) (h := ?_)
  refine pu_ 11 (some 37) ?_
  refine join_ (σ := Nat) 3 #[true, true, true, true, true, true, true, true, true, true, true, true, true, true, false, false, false] (fun s => [(32, .int .i64 (m : Int)), (38, .int .i64 (d : Int)), (5, .pointer (some ⟨s, 0, none⟩))]) (fun s w' => w'.heap[w.heap.size]? = some (.cells #[.slice A0 l0.length c0, .slice A1 l1.length c1, .slice A2 l2.length c2] 26 (0, 0)) ∧ w'.heap[w.heap.size + 1]? = some (.cells #[.int .i64 n0, .int .i64 n1] 84 (0, 0)) ∧ Below w.heap.size w w' ∧ w'.cell? ⟨w.heap.size, 0, none⟩ = some (.slice A0 l0.length c0) ∧ w'.cell? ⟨w.heap.size, 1, none⟩ = some (.slice A1 l1.length c1) ∧ w'.cell? ⟨w.heap.size, 2, none⟩ = some (.slice A2 l2.length c2) ∧ w'.cell? ⟨w.heap.size + 1, 0, none⟩ = some (.int .i64 n0) ∧ w'.cell? ⟨w.heap.size + 1, 1, none⟩ = some (.int .i64 n1) ∧ w'.heap[s]? = some (.cells #[.slice none 0 0, .slice none 0 0, .slice none 0 0] 26 (0, 0)) ∧ W2.heap.size ≤ s) ?_ ?_
  rotate_left
  · intro hCont
    refine two_ (i := 6) (j := 13) (Ni := some 32) (Nj := some 5) #[true, true, true, true, true, true, true, true, true, true, true, true, false, false, false, false, false] #[true, true, true, true, true, true, false, true, true, true, true, true, false, true, false, false, false] rfl rfl rfl rfl (by kernel_rfl) (by decide) (by decide) (fun K hK => ?_) (fun K hK => ?_)
    · skip
      refine goes_ Tryd.func47 (by kernel_rfl) rfl #[.int .i64 n0, .int .i64 (l1.length : Int)] (by rfl) rfl rfl (by simp only [List.map_toArray, List.map_cons, List.map_nil]; rfl) ?_
      refine (HW0.out _).mono ?_
      rintro e W3 ⟨rfl, hb⟩
      refine ⟨_, rfl, ?_⟩
      have hg := g_below hb
      replace HQ := Lib.hid (Nat.le_trans HQ.out hg.size)
      replace HK := Lib.hid (blk_grown HK.out hg (by simp))
      replace HN := Lib.hid (blk_grown HN.out hg (by simp))
      replace HB := Lib.hid (HB.out.trans (below_weaken hb HB.out.size))
      clear hb hg
      refine hK.out _ _ ⟨(blk_cell HK.out 0).trans rfl, (blk_cell HK.out 1).trans rfl, (blk_cell HK.out 2).trans rfl, (blk_cell HN.out 0).trans rfl, (blk_cell HN.out 1).trans rfl⟩ (fun hHeld => ?_)
      clear hK K
      refine no_ 32 ?_
      refine two_ (i := 12) (j := 13) (Ni := some 38) (Nj := some 5) #[true, true, true, true, true, true, true, true, true, true, true, true, true, false, false, false, false] #[true, true, true, true, true, true, true, true, true, true, true, true, false, true, false, false, false] rfl rfl rfl rfl (by kernel_rfl) (by decide) (by decide) (fun K hK => ?_) (fun K hK => ?_)
      · skip
        refine goes_ Tryd.func47 (by kernel_rfl) rfl #[.int .i64 n1, .int .i64 (l1.length : Int)] (by rfl) rfl rfl (by simp only [List.map_toArray, List.map_cons, List.map_nil]; rfl) ?_
        refine (HW1.out _).mono ?_
        rintro e W4 ⟨rfl, hb⟩
        refine ⟨_, rfl, ?_⟩
        have hg := g_below hb
        replace HQ := Lib.hid (Nat.le_trans HQ.out hg.size)
        replace HK := Lib.hid (blk_grown HK.out hg (by simp))
        replace HN := Lib.hid (blk_grown HN.out hg (by simp))
        replace HB := Lib.hid (HB.out.trans (below_weaken hb HB.out.size))
        clear hb hg
        refine hK.out _ _ ⟨(blk_cell HK.out 0).trans rfl, (blk_cell HK.out 1).trans rfl, (blk_cell HK.out 2).trans rfl, (blk_cell HN.out 0).trans rfl, (blk_cell HN.out 1).trans rfl⟩ (fun hHeld => ?_)
        clear hK K
        refine no_ 38 ?_
        refine one_ (i := 13) (N := some 5) #[true, true, true, true, true, true, true, true, true, true, true, true, true, true, false, false, false] rfl rfl (by kernel_rfl) (by decide) (fun K hK => ?_)
        refine value_ (w1 := ?_) (v := ?_) (by rfl) rfl ?_ ?_
        rotate_left 2
        · go_simp
          constructor
          · rfl
          · rfl
        obtain ⟨W5, hnw⟩ : ∃ W, W = (W4).alloc (.cells #[.slice none 0 0, .slice none 0 0, .slice none 0 0] 26) := ⟨_, rfl⟩
        rw [show (W4).alloc (.cells #[.slice none 0 0, .slice none 0 0, .slice none 0 0] 26) = W5 from hnw.symm]
        have hg : (W4).grownBy W5 none := by rw [hnw]; exact g_all (g_refl _ _) _
        have HX := Lib.hid (show W5.heap[W4.heap.size]? = some (.cells #[.slice none 0 0, .slice none 0 0, .slice none 0 0] 26 (0, 0)) by rw [hnw]; exact blk_new _ _)
        have SX : W2.heap.size ≤ W4.heap.size := HQ.out
        replace HQ := Lib.hid (Nat.le_trans HQ.out hg.size)
        replace HK := Lib.hid (blk_grown HK.out hg (by simp))
        replace HN := Lib.hid (blk_grown HN.out hg (by simp))
        replace HB := Lib.hid (HB.out.grown hg HB.out.size (fun k e => by cases e))
        clear hg hnw
        refine hK.out _ _ ⟨(blk_cell HK.out 0).trans rfl, (blk_cell HK.out 1).trans rfl, (blk_cell HK.out 2).trans rfl, (blk_cell HN.out 0).trans rfl, (blk_cell HN.out 1).trans rfl⟩ (fun hHeld => ?_)
        clear hK K
        refine no_ 5 ?_
        exact norm_ (by first | (simp only [putAll, Act.put, List.setIfInBounds_toArray, List.set_cons_zero, List.set_cons_succ]; done) | (simp only [putAll, Act.put, List.setIfInBounds_toArray, List.set_cons_zero, List.set_cons_succ]; rfl)) (hCont W4.heap.size _ ⟨HK.out, HN.out, HB.out, (blk_cell HK.out 0).trans rfl, (blk_cell HK.out 1).trans rfl, (blk_cell HK.out 2).trans rfl, (blk_cell HN.out 0).trans rfl, (blk_cell HN.out 1).trans rfl, HX.out, SX⟩)
      · skip
        refine value_ (w1 := ?_) (v := ?_) (by rfl) rfl ?_ ?_
        rotate_left 2
        · go_simp
          constructor
          · rfl
          · rfl
        obtain ⟨W4, hnw⟩ : ∃ W, W = (W3).alloc (.cells #[.slice none 0 0, .slice none 0 0, .slice none 0 0] 26) := ⟨_, rfl⟩
        rw [show (W3).alloc (.cells #[.slice none 0 0, .slice none 0 0, .slice none 0 0] 26) = W4 from hnw.symm]
        have hg : (W3).grownBy W4 none := by rw [hnw]; exact g_all (g_refl _ _) _
        have HX := Lib.hid (show W4.heap[W3.heap.size]? = some (.cells #[.slice none 0 0, .slice none 0 0, .slice none 0 0] 26 (0, 0)) by rw [hnw]; exact blk_new _ _)
        have SX : W2.heap.size ≤ W3.heap.size := HQ.out
        replace HQ := Lib.hid (Nat.le_trans HQ.out hg.size)
        replace HK := Lib.hid (blk_grown HK.out hg (by simp))
        replace HN := Lib.hid (blk_grown HN.out hg (by simp))
        replace HB := Lib.hid (HB.out.grown hg HB.out.size (fun k e => by cases e))
        clear hg hnw
        refine hK.out _ _ ⟨(blk_cell HK.out 0).trans rfl, (blk_cell HK.out 1).trans rfl, (blk_cell HK.out 2).trans rfl, (blk_cell HN.out 0).trans rfl, (blk_cell HN.out 1).trans rfl⟩ (fun hHeld => ?_)
        clear hK K
        refine no_ 5 ?_
        refine one_ (i := 12) (N := some 38) #[true, true, true, true, true, true, true, true, true, true, true, true, true, true, false, false, false] rfl rfl (by kernel_rfl) (by decide) (fun K hK => ?_)
        refine goes_ Tryd.func47 (by kernel_rfl) rfl #[.int .i64 n1, .int .i64 (l1.length : Int)] (by rfl) rfl rfl (by simp only [List.map_toArray, List.map_cons, List.map_nil]; rfl) ?_
        refine (HW1.out _).mono ?_
        rintro e W5 ⟨rfl, hb⟩
        refine ⟨_, rfl, ?_⟩
        have hg := g_below hb
        replace HQ := Lib.hid (Nat.le_trans HQ.out hg.size)
        replace HK := Lib.hid (blk_grown HK.out hg (by simp))
        replace HN := Lib.hid (blk_grown HN.out hg (by simp))
        replace HX := Lib.hid (blk_grown HX.out hg (by simp))
        replace HB := Lib.hid (HB.out.trans (below_weaken hb HB.out.size))
        clear hb hg
        refine hK.out _ _ ⟨(blk_cell HK.out 0).trans rfl, (blk_cell HK.out 1).trans rfl, (blk_cell HK.out 2).trans rfl, (blk_cell HN.out 0).trans rfl, (blk_cell HN.out 1).trans rfl⟩ (fun hHeld => ?_)
        clear hK K
        refine no_ 38 ?_
        exact norm_ (by first | (simp only [putAll, Act.put, List.setIfInBounds_toArray, List.set_cons_zero, List.set_cons_succ]; done) | (simp only [putAll, Act.put, List.setIfInBounds_toArray, List.set_cons_zero, List.set_cons_succ]; rfl)) (hCont W3.heap.size _ ⟨HK.out, HN.out, HB.out, (blk_cell HK.out 0).trans rfl, (blk_cell HK.out 1).trans rfl, (blk_cell HK.out 2).trans rfl, (blk_cell HN.out 0).trans rfl, (blk_cell HN.out 1).trans rfl, HX.out, SX⟩)
    · skip
      refine value_ (w1 := ?_) (v := ?_) (by rfl) rfl ?_ ?_
      rotate_left 2
      · go_simp
        constructor
        · rfl
        · rfl
      obtain ⟨W3, hnw⟩ : ∃ W, W = (W2.drew).alloc (.cells #[.slice none 0 0, .slice none 0 0, .slice none 0 0] 26) := ⟨_, rfl⟩
      rw [show ((W2).alloc (.cells #[.slice none 0 0, .slice none 0 0, .slice none 0 0] 26)).drew = W3 from hnw.symm]
      have hg : (W2.drew).grownBy W3 none := by rw [hnw]; exact g_all (g_refl _ _) _
      have HX := Lib.hid (show W3.heap[W2.heap.size]? = some (.cells #[.slice none 0 0, .slice none 0 0, .slice none 0 0] 26 (0, 0)) by rw [hnw]; exact blk_new _ _)
      have SX : W2.heap.size ≤ W2.heap.size := HQ.out
      replace HQ := Lib.hid (Nat.le_trans HQ.out hg.size)
      replace HK := Lib.hid (blk_grown HK.out hg (by simp))
      replace HN := Lib.hid (blk_grown HN.out hg (by simp))
      replace HB := Lib.hid (HB.out.grown hg HB.out.size (fun k e => by cases e))
      clear hg hnw
      refine hK.out _ _ ⟨(blk_cell HK.out 0).trans rfl, (blk_cell HK.out 1).trans rfl, (blk_cell HK.out 2).trans rfl, (blk_cell HN.out 0).trans rfl, (blk_cell HN.out 1).trans rfl⟩ (fun hHeld => ?_)
      clear hK K
      refine no_ 5 ?_
      refine one_ (i := 6) (N := some 32) #[true, true, true, true, true, true, true, true, true, true, true, true, false, true, false, false, false] rfl rfl (by kernel_rfl) (by decide) (fun K hK => ?_)
      refine goes_ Tryd.func47 (by kernel_rfl) rfl #[.int .i64 n0, .int .i64 (l1.length : Int)] (by rfl) rfl rfl (by simp only [List.map_toArray, List.map_cons, List.map_nil]; rfl) ?_
      refine (HW0.out _).mono ?_
      rintro e W4 ⟨rfl, hb⟩
      refine ⟨_, rfl, ?_⟩
      have hg := g_below hb
      replace HQ := Lib.hid (Nat.le_trans HQ.out hg.size)
      replace HK := Lib.hid (blk_grown HK.out hg (by simp))
      replace HN := Lib.hid (blk_grown HN.out hg (by simp))
      replace HX := Lib.hid (blk_grown HX.out hg (by simp))
      replace HB := Lib.hid (HB.out.trans (below_weaken hb HB.out.size))
      clear hb hg
      refine hK.out _ _ ⟨(blk_cell HK.out 0).trans rfl, (blk_cell HK.out 1).trans rfl, (blk_cell HK.out 2).trans rfl, (blk_cell HN.out 0).trans rfl, (blk_cell HN.out 1).trans rfl⟩ (fun hHeld => ?_)
      clear hK K
      refine no_ 32 ?_
      refine one_ (i := 12) (N := some 38) #[true, true, true, true, true, true, true, true, true, true, true, true, true, true, false, false, false] rfl rfl (by kernel_rfl) (by decide) (fun K hK => ?_)
      refine goes_ Tryd.func47 (by kernel_rfl) rfl #[.int .i64 n1, .int .i64 (l1.length : Int)] (by rfl) rfl rfl (by simp only [List.map_toArray, List.map_cons, List.map_nil]; rfl) ?_
      refine (HW1.out _).mono ?_
      rintro e W5 ⟨rfl, hb⟩
      refine ⟨_, rfl, ?_⟩
      have hg := g_below hb
      replace HQ := Lib.hid (Nat.le_trans HQ.out hg.size)
      replace HK := Lib.hid (blk_grown HK.out hg (by simp))
      replace HN := Lib.hid (blk_grown HN.out hg (by simp))
      replace HX := Lib.hid (blk_grown HX.out hg (by simp))
      replace HB := Lib.hid (HB.out.trans (below_weaken hb HB.out.size))
      clear hb hg
      refine hK.out _ _ ⟨(blk_cell HK.out 0).trans rfl, (blk_cell HK.out 1).trans rfl, (blk_cell HK.out 2).trans rfl, (blk_cell HN.out 0).trans rfl, (blk_cell HN.out 1).trans rfl⟩ (fun hHeld => ?_)
      clear hK K
      refine no_ 38 ?_
      exact norm_ (by first | (simp only [putAll, Act.put, List.setIfInBounds_toArray, List.set_cons_zero, List.set_cons_succ]; done) | (simp only [putAll, Act.put, List.setIfInBounds_toArray, List.set_cons_zero, List.set_cons_succ]; rfl)) (hCont W2.heap.size _ ⟨HK.out, HN.out, HB.out, (blk_cell HK.out 0).trans rfl, (blk_cell HK.out 1).trans rfl, (blk_cell HK.out 2).trans rfl, (blk_cell HN.out 0).trans rfl, (blk_cell HN.out 1).trans rfl, HX.out, SX⟩)
  rintro gX_ w' ⟨aHK, aHN, aHB, q0, q1, q2, q3, q4, aHX, aSX⟩
  have hHeld : w'.cell? ⟨w.heap.size, 0, none⟩ = some (.slice A0 l0.length c0) ∧ w'.cell? ⟨w.heap.size, 1, none⟩ = some (.slice A1 l1.length c1) ∧ w'.cell? ⟨w.heap.size, 2, none⟩ = some (.slice A2 l2.length c2) ∧ w'.cell? ⟨w.heap.size + 1, 0, none⟩ = some (.int .i64 n0) ∧ w'.cell? ⟨w.heap.size + 1, 1, none⟩ = some (.int .i64 n1) := ⟨q0, q1, q2, q3, q4⟩
  (try clear HK)
  have HK := Lib.hid aHK
  (try clear HN)
  have HN := Lib.hid aHN
  (try clear HB)
  have HB := Lib.hid aHB
  (try clear HX)
  have HX := Lib.hid aHX
  have SX := aSX
  clear aHK aHN aHB aHX aSX q0 q1 q2 q3 q4
  refine norm_ (a' := ?_) ?_ ?_
  rotate_left
  · simp only [putAll, Act.put, List.setIfInBounds_toArray, List.set_cons_zero, List.set_cons_succ]
    rfl
  refine last_ (i := 14) (N := none) #[true, true, true, true, true, true, true, true, true, true, true, true, true, true, true, false, false] rfl rfl (by kernel_rfl) (by decide) (fun K hK => ?_)
  have cX_0 := (blk_cell HX.out 0).trans rfl
  have cX_1 := (blk_cell HX.out 1).trans rfl
  have cX_2 := (blk_cell HX.out 2).trans rfl
  have fX_0 := blk_frozen HX.out 0
  have fX_1 := blk_frozen HX.out 1
  have fX_2 := blk_frozen HX.out 2
  have lX := blk_lt HX.out
  refine skip_ (w1 := ?_) (by rfl) rfl ?_ ?_
  rotate_left
  · go_simp
    rfl
  refine hK.out _ _ ?_
  clear hK K
  refine pu_ 15 (some 6) ?_
  refine pu_ 16 (some 7) ?_
  refine done_ (by kernel_rfl) ?_

  clear HQ
  clear cX_0 cX_1 cX_2 fX_0 fX_1 fX_2 lX
  obtain ⟨W23, hnw⟩ : ∃ W, W = (((w'.setCell ⟨gX_, 0, none⟩ (.slice A0 l0.length c0)).setCell ⟨gX_, 1, none⟩ (.slice A1 l1.length c1)).setCell ⟨gX_, 2, none⟩ (.slice A2 l2.length c2)) := ⟨_, rfl⟩
  rw [← hnw]
  have hg : w'.grownBy W23 (some (gX_)) := by rw [hnw]; exact (g_put (g_put (g_put (g_refl w' (some (gX_))) 0 (.slice A0 l0.length c0)) 1 (.slice A1 l1.length c1)) 2 (.slice A2 l2.length c2))
  have HXq := Lib.hid (show W23.heap[gX_]? = some (.cells #[.slice A0 l0.length c0, .slice A1 l1.length c1, .slice A2 l2.length c2] 26 (0, 0)) by rw [hnw]; exact blk_put (blk_put (blk_put (HX.out) 0 (.slice A0 l0.length c0) rfl) 1 (.slice A1 l1.length c1) rfl) 2 (.slice A2 l2.length c2) rfl)
  have HOLD := HX
  replace HK := Lib.hid (blk_grown HK.out hg (fun e => by injection e with e; omega))
  replace HN := Lib.hid (blk_grown HN.out hg (fun e => by injection e with e; exact absurd e (blk_ne HN.out HX.out (by decide))))
  clear HOLD
  clear HX
  have HX := HXq
  clear HXq
  replace HB := Lib.hid (HB.out.grown hg HB.out.size (fun k e => by injection e with e; have := HB.out.size; omega))
  clear hg hnw
  have cK_0 := (blk_cell HK.out 0).trans rfl
  have cK_1 := (blk_cell HK.out 1).trans rfl
  have cK_2 := (blk_cell HK.out 2).trans rfl
  have lK := blk_lt HK.out
  have cN_0 := (blk_cell HN.out 0).trans rfl
  have cN_1 := (blk_cell HN.out 1).trans rfl
  have lN := blk_lt HN.out
  have cX_0 := (blk_cell HX.out 0).trans rfl
  have cX_1 := (blk_cell HX.out 1).trans rfl
  have cX_2 := (blk_cell HX.out 2).trans rfl
  have fX_0 := blk_frozen HX.out 0
  have fX_1 := blk_frozen HX.out 1
  have fX_2 := blk_frozen HX.out 2
  have lX := blk_lt HX.out
  go_upto_region 5 with fail
  clear cK_0 cK_1 cK_2 lK cN_0 cN_1 lN cX_0 cX_1 cX_2 fX_0 fX_1 fX_2 lX
  obtain ⟨W24, hnw⟩ : ∃ W, W = (W23.setCell ⟨gX_, 2, none⟩ (.slice none 0 0)) := ⟨_, rfl⟩
  rw [← hnw]
  have hg : W23.grownBy W24 (some (gX_)) := by rw [hnw]; exact (g_put (g_refl W23 (some (gX_))) 2 (.slice none 0 0))
  have HXq := Lib.hid (show W24.heap[gX_]? = some (.cells #[.slice A0 l0.length c0, .slice A1 l1.length c1, .slice none 0 0] 26 (0, 0)) by rw [hnw]; exact blk_put (HX.out) 2 (.slice none 0 0) rfl)
  have HOLD := HX
  replace HK := Lib.hid (blk_grown HK.out hg (fun e => by injection e with e; omega))
  replace HN := Lib.hid (blk_grown HN.out hg (fun e => by injection e with e; exact absurd e (blk_ne HN.out HX.out (by decide))))
  clear HOLD
  clear HX
  have HX := HXq
  clear HXq
  replace HB := Lib.hid (HB.out.grown hg HB.out.size (fun k e => by injection e with e; have := HB.out.size; omega))
  clear hg hnw
  have cK_0 := (blk_cell HK.out 0).trans rfl
  have cK_1 := (blk_cell HK.out 1).trans rfl
  have cK_2 := (blk_cell HK.out 2).trans rfl
  have lK := blk_lt HK.out
  have cN_0 := (blk_cell HN.out 0).trans rfl
  have cN_1 := (blk_cell HN.out 1).trans rfl
  have lN := blk_lt HN.out
  have cX_0 := (blk_cell HX.out 0).trans rfl
  have cX_1 := (blk_cell HX.out 1).trans rfl
  have cX_2 := (blk_cell HX.out 2).trans rfl
  have lX := blk_lt HX.out
  go_upto_region 6 with fail
  clear cK_0 cK_1 cK_2 lK cN_0 cN_1 lN cX_0 cX_1 cX_2 lX
  have LqK_24 := blk_lt HK.out
  have LqN_24 := blk_lt HN.out
  have LqX_24 := blk_lt HX.out
  obtain ⟨W25, hnw⟩ : ∃ W, W = (W24.alloc (.cells #[.slice A0 l0.length c0, .slice A1 l1.length c1, .slice none 0 0] 26)) := ⟨_, rfl⟩
  rw [← hnw]
  have hg : W24.grownBy W25 (none) := by rw [hnw]; exact (g_all (g_refl W24 (none)) (.cells #[.slice A0 l0.length c0, .slice A1 l1.length c1, .slice none 0 0] 26))
  have HY := Lib.hid (show W25.heap[W24.heap.size]? = some (.cells #[.slice A0 l0.length c0, .slice A1 l1.length c1, .slice none 0 0] 26 (0, 0)) by rw [hnw]; exact blk_at W24 (.cells #[.slice A0 l0.length c0, .slice A1 l1.length c1, .slice none 0 0] 26) _ (by simp))
  replace HK := Lib.hid (blk_grown HK.out hg (by simp))
  replace HN := Lib.hid (blk_grown HN.out hg (by simp))
  replace HX := Lib.hid (blk_grown HX.out hg (by simp))
  replace HB := Lib.hid (HB.out.grown hg HB.out.size (fun k e => by cases e))
  clear hg hnw
  have cK_0 := (blk_cell HK.out 0).trans rfl
  have cK_1 := (blk_cell HK.out 1).trans rfl
  have cK_2 := (blk_cell HK.out 2).trans rfl
  have lK := blk_lt HK.out
  have cN_0 := (blk_cell HN.out 0).trans rfl
  have cN_1 := (blk_cell HN.out 1).trans rfl
  have lN := blk_lt HN.out
  have cX_0 := (blk_cell HX.out 0).trans rfl
  have cX_1 := (blk_cell HX.out 1).trans rfl
  have cX_2 := (blk_cell HX.out 2).trans rfl
  have lX := blk_lt HX.out
  have cY_0 := (blk_cell HY.out 0).trans rfl
  have cY_1 := (blk_cell HY.out 1).trans rfl
  have cY_2 := (blk_cell HY.out 2).trans rfl
  have lY := blk_lt HY.out
  go_upto_region 7 with (first | ((with_reducible refine gate_dst (N := 41) rfl ?_); refine Kd.R_lit k90 (w0 := w) w.heap.size 90 ?hg (N := 41) ?hd (xs := ([] : List S90)) (inner := []) (ok := fun _ => True) (okp := fun _ => True) ?hr ?hp (fun _ hk => hk) trivial HB.out HB.out.size (by simp) ?_; (case hd => rfl); (case hg => rfl); (case hr => first | (go_simp; done) | (go_simp; rfl)); (case hp => exact (Reps.none _ _)); intro va W26 ho hb hg hnew_; clear hnew_; clear cK_0 cK_1 cK_2 lK cN_0 cN_1 lN cX_0 cX_1 cX_2 lX cY_0 cY_1 cY_2 lY; replace HK := Lib.hid (blk_grown HK.out hg (by simp)); replace HN := Lib.hid (blk_grown HN.out hg (by simp)); replace HX := Lib.hid (blk_grown HX.out hg (by simp)); replace HY := Lib.hid (blk_grown HY.out hg (by simp)); replace HB := Lib.hid (hb); have Ra := Lib.hid ho; clear ho hb hg; have cK_0 := (blk_cell HK.out 0).trans rfl; have cK_1 := (blk_cell HK.out 1).trans rfl; have cK_2 := (blk_cell HK.out 2).trans rfl; have lK := blk_lt HK.out; have cN_0 := (blk_cell HN.out 0).trans rfl; have cN_1 := (blk_cell HN.out 1).trans rfl; have lN := blk_lt HN.out; have cX_0 := (blk_cell HX.out 0).trans rfl; have cX_1 := (blk_cell HX.out 1).trans rfl; have cX_2 := (blk_cell HX.out 2).trans rfl; have lX := blk_lt HX.out; have cY_0 := (blk_cell HY.out 0).trans rfl; have cY_1 := (blk_cell HY.out 1).trans rfl; have cY_2 := (blk_cell HY.out 2).trans rfl; have lY := blk_lt HY.out) | ((with_reducible refine gate_builtin (b := .append) (xs := #[.tmp 41, .tmp 43]) rfl ?_); at_builtin; refine Kd.R_append_rows k90 (w0 := w) w.heap.size rfl (.tmp 41) (.tmp 43) 23 90 (.agg #[.int .i64 0, .int .i64 0, .int .i64 0]) 24 rfl Tryd.underlying23 info90 rfl (by decide) (by omega) va [] l1 _ _ _ (fun _ => True) (fun _ => False) rfl rfl Ra.out (Kd.C_below HR1.out HB.out) (fun x_ cs_ h_ => by rw [k90_open h_]; exact k90_mkM _ _ _ _) (fun _ h => h.elim) (fun _ _ => trivial) HB.out HB.out.size (by simp only [List.length_nil]; omega) ?_; intro vb W27 ho hb hg hat; clear cK_0 cK_1 cK_2 lK cN_0 cN_1 lN cX_0 cX_1 cX_2 lX cY_0 cY_1 cY_2 lY; replace HK := Lib.hid (blk_grown HK.out hg (own_ne Ra.out HK.out (by decide))); replace HN := Lib.hid (blk_grown HN.out hg (own_ne Ra.out HN.out (by decide))); replace HX := Lib.hid (blk_grown HX.out hg (own_ne Ra.out HX.out (by decide))); replace HY := Lib.hid (blk_grown HY.out hg (own_ne Ra.out HY.out (by decide))); replace HB := Lib.hid (hb); clear Ra; rw [List.nil_append] at ho; have Rb := Lib.hid ho; clear ho hb hg hat; obtain ⟨Ab, cb, eb⟩ := Kd.R_slice Rb.out; subst eb; have cK_0 := (blk_cell HK.out 0).trans rfl; have cK_1 := (blk_cell HK.out 1).trans rfl; have cK_2 := (blk_cell HK.out 2).trans rfl; have lK := blk_lt HK.out; have cN_0 := (blk_cell HN.out 0).trans rfl; have cN_1 := (blk_cell HN.out 1).trans rfl; have lN := blk_lt HN.out; have cX_0 := (blk_cell HX.out 0).trans rfl; have cX_1 := (blk_cell HX.out 1).trans rfl; have cX_2 := (blk_cell HX.out 2).trans rfl; have lX := blk_lt HX.out; have cY_0 := (blk_cell HY.out 0).trans rfl; have cY_1 := (blk_cell HY.out 1).trans rfl; have cY_2 := (blk_cell HY.out 2).trans rfl; have fY_0 := blk_frozen HY.out 0; have fY_1 := blk_frozen HY.out 1; have fY_2 := blk_frozen HY.out 2; have lY := blk_lt HY.out))
  clear cK_0 cK_1 cK_2 lK cN_0 cN_1 lN cX_0 cX_1 cX_2 lX cY_0 cY_1 cY_2 fY_0 fY_1 fY_2 lY
  obtain ⟨W28, hnw⟩ : ∃ W, W = (W27.setCell ⟨W24.heap.size, 1, none⟩ (.slice Ab l1.length cb)) := ⟨_, rfl⟩
  rw [← hnw]
  have hg : W27.grownBy W28 (some (W24.heap.size)) := by rw [hnw]; exact (g_put (g_refl W27 (some (W24.heap.size))) 1 (.slice Ab l1.length cb))
  have HYq := Lib.hid (show W28.heap[W24.heap.size]? = some (.cells #[.slice A0 l0.length c0, .slice Ab l1.length cb, .slice none 0 0] 26 (0, 0)) by rw [hnw]; exact blk_put (HY.out) 1 (.slice Ab l1.length cb) rfl)
  have HOLD := HY
  replace Rb := Lib.hid (R_typed_grown Rb.out hg (fun g e => by injection e with e; subst e; exact ⟨_, _, HOLD.out, by decide⟩))
  replace HK := Lib.hid (blk_grown HK.out hg (fun e => by injection e with e; omega))
  replace HN := Lib.hid (blk_grown HN.out hg (fun e => by injection e with e; exact absurd e (blk_ne HN.out HY.out (by decide))))
  replace HX := Lib.hid (blk_grown HX.out hg (fun e => by injection e with e; omega))
  clear HOLD
  clear HY
  have HY := HYq
  clear HYq
  replace HB := Lib.hid (HB.out.grown hg HB.out.size (fun k e => by injection e with e; have := HB.out.size; omega))
  clear hg hnw
  obtain ⟨g, cap, eg, hbg, hlg, cs90, hcg⟩ := Kd.R_form Rb.out (by omega)
  injection eg with e1 e2 e3
  subst e1 e3
  clear e2
  have HG := Lib.hid hcg
  clear hcg
  have HBG := Lib.hid hbg
  have HCB := Lib.hid (Kd.R_reads' Rb.out).2.1
  obtain ⟨_, _, ea, _, yg0, yg1, _⟩ := at90 (row90 (Kd.R_reads' Rb.out).2.2) m hm
  injection ea with ea
  injection ea with ea1 ea2
  subst ea1 ea2
  rw [Nat.zero_add, ← HLO.out] at yg0
  rw [Nat.zero_add, ← HHI.out] at yg1
  have fg1 := blk_frozen HG.out (m * 3 + 1)
  have lg := blk_lt HG.out
  have cK_0 := (blk_cell HK.out 0).trans rfl
  have cK_1 := (blk_cell HK.out 1).trans rfl
  have cK_2 := (blk_cell HK.out 2).trans rfl
  have lK := blk_lt HK.out
  have cN_0 := (blk_cell HN.out 0).trans rfl
  have cN_1 := (blk_cell HN.out 1).trans rfl
  have lN := blk_lt HN.out
  have cX_0 := (blk_cell HX.out 0).trans rfl
  have cX_1 := (blk_cell HX.out 1).trans rfl
  have cX_2 := (blk_cell HX.out 2).trans rfl
  have lX := blk_lt HX.out
  have cY_0 := (blk_cell HY.out 0).trans rfl
  have cY_1 := (blk_cell HY.out 1).trans rfl
  have cY_2 := (blk_cell HY.out 2).trans rfl
  have lY := blk_lt HY.out
  go_upto_region 9 with fail
  clear cK_0 cK_1 cK_2 lK cN_0 cN_1 lN cX_0 cX_1 cX_2 lX cY_0 cY_1 cY_2 lY
  have hff := frow_put (enc := e90) (sz := 3) (fun _ => rfl) HG.out (row90 (Kd.R_reads' Rb.out).2.2) hm (j := 1) (by decide) (y := ⟨⟨l1[m].f0.f0, h2⟩, l1[m].f1⟩) (u := .int .i64 h2) rfl
  obtain ⟨W29, hnw⟩ : ∃ W, W = W28.setCell ⟨g, m * 3 + 1, none⟩ (.int .i64 h2) := ⟨_, rfl⟩
  rw [← hnw]
  rw [← hnw] at hff
  have hg : W28.grownBy W29 (some g) := by rw [hnw]; exact g_put (g_refl _ _) _ _
  have HGn := Lib.hid (show W29.heap[g]? = some (.cells _ 90 (0, 0)) by rw [hnw]; exact blk_set HG.out _ _)
  replace HK := Lib.hid (blk_grown HK.out hg (fun e => absurd (Option.some.inj e) (blk_ne HK.out HG.out (by decide))))
  replace HN := Lib.hid (blk_grown HN.out hg (fun e => absurd (Option.some.inj e) (blk_ne HN.out HG.out (by decide))))
  replace HX := Lib.hid (blk_grown HX.out hg (fun e => absurd (Option.some.inj e) (blk_ne HX.out HG.out (by decide))))
  replace HY := Lib.hid (blk_grown HY.out hg (fun e => absurd (Option.some.inj e) (blk_ne HY.out HG.out (by decide))))
  clear HG
  have HG := HGn
  clear HGn
  replace HB := Lib.hid (HB.out.grown hg HB.out.size (fun k e => by injection e with e; subst e; exact HBG.out))
  clear hg hnw
  clear Rb
  clear yg0 yg1 fg1 lg
  have F1 := Lib.hid hff
  clear hff
  have hb : Below W29.heap.size W29 W29.drew := (Below.refl _ _).drew
  have hg := g_below hb
  replace F1 := Lib.hid (frow_grown F1.out hg (by simp))
  replace HK := Lib.hid (blk_grown HK.out hg (by simp))
  replace HN := Lib.hid (blk_grown HN.out hg (by simp))
  replace HX := Lib.hid (blk_grown HX.out hg (by simp))
  replace HY := Lib.hid (blk_grown HY.out hg (by simp))
  replace HG := Lib.hid (blk_grown HG.out hg (by simp))
  replace HB := Lib.hid (HB.out.trans (below_weaken hb HB.out.size))
  clear hb hg
  refine start_ (n := 14) (S := fun w' => w'.cell? ⟨g, m * 3 + 1, none⟩ = some (.int .i64 h2) ∧ w'.cell? ⟨g, m * 3, none⟩ = some (.int .i64 lo)) (ds := [13]) #[false, false, false, false, false, false, false, false, false, false, false, false, false, false] (by kernel_rfl) rfl rfl ⟨frow_cell F1.out (List.getElem?_set_self hm) (k := 1) rfl, frow_cell F1.out (List.getElem?_set_self hm) (k := 0) (show (e90 _)[0]? = some (.int .i64 lo) by rw [HLO.out]; rfl)⟩ (fun hHeld => ?_)
  refine pu_ 0 (some 60) ?_
  refine pu_ 1 (some 61) ?_
  refine pu_ 2 (some 62) ?_
  refine pu_ 3 (some 63) ?_
  refine pu_ 5 (some 65) ?_
  refine pu_ 6 (some 66) ?_
  refine pu_ 7 (some 67) ?_
  refine ta_ 4 (some 64) (s := hHeld) (y := by rintro w' ⟨s0, s1⟩; go_simp; with_reducible rfl) (h := ?_)
  refine ta_ 8 (some 68) (s := hHeld) (y := by rintro w' ⟨s0, s1⟩; go_simp; with_reducible rfl) (h := ?_)
  refine pu_ 9 (some 69) ?_
  refine pu_ 10 (some 70) ?_
  refine pu_ 11 (some 71) ?_
  refine pu_ 12 (some 72) ?_
  refine last_ (i := 13) (N := none) #[true, true, true, true, true, true, true, true, true, true, true, true, true, true] rfl rfl (by kernel_rfl) (by decide) (fun K hK => ?_)
  have yg := frow_cell F1.out (List.getElem?_set_self hm) (k := 0) (show (e90 _)[0]? = some (.int .i64 lo) by rw [HLO.out]; rfl)
  have fg := blk_frozen HG.out (m * 3)
  have lg := blk_lt HG.out
  refine skip_ (w1 := ?_) (by rfl) rfl ?_ ?_
  rotate_left
  · go_simp
    rfl
  refine hK.out _ _ ?_
  clear hK K
  refine done_ (by kernel_rfl) ?_

  have hff : FRow e90 3 (W29.drew.setCell ⟨g, m * 3, none⟩ (.int .i64 lo2)) (some ⟨g, 0, none⟩) _ := frow_put (enc := e90) (sz := 3) (fun _ => rfl) HG.out F1.out (show m < (l1.set m _).length by simpa using hm) (j := 0) (by decide) (y := ⟨⟨lo2, h2⟩, l1[m].f1⟩) (u := .int .i64 lo2) (by rw [List.getElem_set_self]; rfl)
  obtain ⟨W30, hnw_⟩ : ∃ W, W = (W29.setCell ⟨g, m * 3, none⟩ (.int .i64 lo2)).drew := ⟨_, rfl⟩
  rw [← hnw_]
  have hnw : W30 = W29.drew.setCell ⟨g, m * 3, none⟩ (.int .i64 lo2) := hnw_.trans rfl
  clear hnw_
  rw [← hnw] at hff
  have hg : W29.drew.grownBy W30 (some g) := by rw [hnw]; exact g_put (g_refl _ _) _ _
  have HGn := Lib.hid (show W30.heap[g]? = some (.cells _ 90 (0, 0)) by rw [hnw]; exact blk_set HG.out _ _)
  replace HK := Lib.hid (blk_grown HK.out hg (fun e => absurd (Option.some.inj e) (blk_ne HK.out HG.out (by decide))))
  replace HN := Lib.hid (blk_grown HN.out hg (fun e => absurd (Option.some.inj e) (blk_ne HN.out HG.out (by decide))))
  replace HX := Lib.hid (blk_grown HX.out hg (fun e => absurd (Option.some.inj e) (blk_ne HX.out HG.out (by decide))))
  replace HY := Lib.hid (blk_grown HY.out hg (fun e => absurd (Option.some.inj e) (blk_ne HY.out HG.out (by decide))))
  clear HG
  have HG := HGn
  clear HGn
  replace HB := Lib.hid (HB.out.grown hg HB.out.size (fun k e => by injection e with e; subst e; exact HBG.out))
  clear hg hnw
  rw [List.set_set, ← HMD.out] at hff
  (try clear yg)
  (try clear fg)
  (try clear lg)
  clear F1
  have F2 := Lib.hid hff
  clear hff
  have cK_0 := (blk_cell HK.out 0).trans rfl
  have cK_1 := (blk_cell HK.out 1).trans rfl
  have cK_2 := (blk_cell HK.out 2).trans rfl
  have lK := blk_lt HK.out
  have cN_0 := (blk_cell HN.out 0).trans rfl
  have cN_1 := (blk_cell HN.out 1).trans rfl
  have lN := blk_lt HN.out
  have cX_0 := (blk_cell HX.out 0).trans rfl
  have cX_1 := (blk_cell HX.out 1).trans rfl
  have cX_2 := (blk_cell HX.out 2).trans rfl
  have lX := blk_lt HX.out
  have cY_0 := (blk_cell HY.out 0).trans rfl
  have cY_1 := (blk_cell HY.out 1).trans rfl
  have cY_2 := (blk_cell HY.out 2).trans rfl
  have lY := blk_lt HY.out
  go_wp2_with fail
  clear cK_0 cK_1 cK_2 lK cN_0 cN_1 lN cX_0 cX_1 cX_2 lX cY_0 cY_1 cY_2 lY
  refine (HBX.out _ HB.out).mono ?_
  rintro e W31 ⟨rfl, hb⟩
  have hg := g_below hb
  replace F2 := Lib.hid (frow_grown F2.out hg (by simp))
  replace HK := Lib.hid (blk_grown HK.out hg (by simp))
  replace HN := Lib.hid (blk_grown HN.out hg (by simp))
  replace HX := Lib.hid (blk_grown HX.out hg (by simp))
  replace HY := Lib.hid (blk_grown HY.out hg (by simp))
  replace HG := Lib.hid (blk_grown HG.out hg (by simp))
  replace HB := Lib.hid (HB.out.trans (below_weaken hb HB.out.size))
  clear hb hg
  have cK_0 := (blk_cell HK.out 0).trans rfl
  have cK_1 := (blk_cell HK.out 1).trans rfl
  have cK_2 := (blk_cell HK.out 2).trans rfl
  have lK := blk_lt HK.out
  have cN_0 := (blk_cell HN.out 0).trans rfl
  have cN_1 := (blk_cell HN.out 1).trans rfl
  have lN := blk_lt HN.out
  have cX_0 := (blk_cell HX.out 0).trans rfl
  have cX_1 := (blk_cell HX.out 1).trans rfl
  have cX_2 := (blk_cell HX.out 2).trans rfl
  have lX := blk_lt HX.out
  have cY_0 := (blk_cell HY.out 0).trans rfl
  have cY_1 := (blk_cell HY.out 1).trans rfl
  have cY_2 := (blk_cell HY.out 2).trans rfl
  have lY := blk_lt HY.out
  go_wp2_with fail
  clear cK_0 cK_1 cK_2 lK cN_0 cN_1 lN cX_0 cX_1 cX_2 lX cY_0 cY_1 cY_2 lY
  have LqK_31 := blk_lt HK.out
  have LqN_31 := blk_lt HN.out
  have LqX_31 := blk_lt HX.out
  have LqY_31 := blk_lt HY.out
  have LqG_31 := blk_lt HG.out
  obtain ⟨W32, hnw⟩ : ∃ W, W = (W31.alloc (.cells #[.int .i64 s1, .int .i64 s2] 32)) := ⟨_, rfl⟩
  rw [← hnw]
  have hg : W31.grownBy W32 (none) := by rw [hnw]; exact (g_all (g_refl W31 (none)) (.cells #[.int .i64 s1, .int .i64 s2] 32))
  have HS := Lib.hid (show W32.heap[W31.heap.size]? = some (.cells #[.int .i64 s1, .int .i64 s2] 32 (0, 0)) by rw [hnw]; exact blk_at W31 (.cells #[.int .i64 s1, .int .i64 s2] 32) _ (by simp))
  replace F2 := Lib.hid (frow_grown F2.out hg (by simp))
  replace HK := Lib.hid (blk_grown HK.out hg (by simp))
  replace HN := Lib.hid (blk_grown HN.out hg (by simp))
  replace HX := Lib.hid (blk_grown HX.out hg (by simp))
  replace HY := Lib.hid (blk_grown HY.out hg (by simp))
  replace HG := Lib.hid (blk_grown HG.out hg (by simp))
  replace HB := Lib.hid (HB.out.grown hg HB.out.size (fun k e => by cases e))
  clear hg hnw
  refine (HBY.out _ _ _ HB.out F2.out HCB.out).mono ?_
  rintro e W33 ⟨rfl, hb⟩
  have hg := g_below hb
  replace F2 := Lib.hid (frow_grown F2.out hg (by simp))
  replace HK := Lib.hid (blk_grown HK.out hg (by simp))
  replace HN := Lib.hid (blk_grown HN.out hg (by simp))
  replace HX := Lib.hid (blk_grown HX.out hg (by simp))
  replace HY := Lib.hid (blk_grown HY.out hg (by simp))
  replace HG := Lib.hid (blk_grown HG.out hg (by simp))
  replace HS := Lib.hid (blk_grown HS.out hg (by simp))
  replace HB := Lib.hid (HB.out.trans (below_weaken hb HB.out.size))
  clear hb hg
  have cK_0 := (blk_cell HK.out 0).trans rfl
  have cK_1 := (blk_cell HK.out 1).trans rfl
  have cK_2 := (blk_cell HK.out 2).trans rfl
  have lK := blk_lt HK.out
  have cN_0 := (blk_cell HN.out 0).trans rfl
  have cN_1 := (blk_cell HN.out 1).trans rfl
  have lN := blk_lt HN.out
  have cX_0 := (blk_cell HX.out 0).trans rfl
  have cX_1 := (blk_cell HX.out 1).trans rfl
  have cX_2 := (blk_cell HX.out 2).trans rfl
  have lX := blk_lt HX.out
  have cY_0 := (blk_cell HY.out 0).trans rfl
  have cY_1 := (blk_cell HY.out 1).trans rfl
  have cY_2 := (blk_cell HY.out 2).trans rfl
  have lY := blk_lt HY.out
  have cS_0 := (blk_cell HS.out 0).trans rfl
  have cS_1 := (blk_cell HS.out 1).trans rfl
  have lS := blk_lt HS.out
  go_wp2_with fail
  clear cK_0 cK_1 cK_2 lK cN_0 cN_1 lN cX_0 cX_1 cX_2 lX cY_0 cY_1 cY_2 lY cS_0 cS_1 lS
  have LqK_33 := blk_lt HK.out
  have LqN_33 := blk_lt HN.out
  have LqX_33 := blk_lt HX.out
  have LqY_33 := blk_lt HY.out
  have LqG_33 := blk_lt HG.out
  have LqS_33 := blk_lt HS.out
  obtain ⟨W34, hnw⟩ : ∃ W, W = (W33.alloc (.cells #[.int .i64 t1, .int .i64 t2] 32)) := ⟨_, rfl⟩
  rw [← hnw]
  have hg : W33.grownBy W34 (none) := by rw [hnw]; exact (g_all (g_refl W33 (none)) (.cells #[.int .i64 t1, .int .i64 t2] 32))
  have HT := Lib.hid (show W34.heap[W33.heap.size]? = some (.cells #[.int .i64 t1, .int .i64 t2] 32 (0, 0)) by rw [hnw]; exact blk_at W33 (.cells #[.int .i64 t1, .int .i64 t2] 32) _ (by simp))
  replace F2 := Lib.hid (frow_grown F2.out hg (by simp))
  replace HK := Lib.hid (blk_grown HK.out hg (by simp))
  replace HN := Lib.hid (blk_grown HN.out hg (by simp))
  replace HX := Lib.hid (blk_grown HX.out hg (by simp))
  replace HY := Lib.hid (blk_grown HY.out hg (by simp))
  replace HG := Lib.hid (blk_grown HG.out hg (by simp))
  replace HS := Lib.hid (blk_grown HS.out hg (by simp))
  replace HB := Lib.hid (HB.out.grown hg HB.out.size (fun k e => by cases e))
  clear hg hnw
  refine (HDX.out _ HB.out).mono ?_
  rintro e W35 ⟨rfl, hb⟩
  have hg := g_below hb
  replace F2 := Lib.hid (frow_grown F2.out hg (by simp))
  replace HK := Lib.hid (blk_grown HK.out hg (by simp))
  replace HN := Lib.hid (blk_grown HN.out hg (by simp))
  replace HX := Lib.hid (blk_grown HX.out hg (by simp))
  replace HY := Lib.hid (blk_grown HY.out hg (by simp))
  replace HG := Lib.hid (blk_grown HG.out hg (by simp))
  replace HS := Lib.hid (blk_grown HS.out hg (by simp))
  replace HT := Lib.hid (blk_grown HT.out hg (by simp))
  replace HB := Lib.hid (HB.out.trans (below_weaken hb HB.out.size))
  clear hb hg
  have cK_0 := (blk_cell HK.out 0).trans rfl
  have cK_1 := (blk_cell HK.out 1).trans rfl
  have cK_2 := (blk_cell HK.out 2).trans rfl
  have lK := blk_lt HK.out
  have cN_0 := (blk_cell HN.out 0).trans rfl
  have cN_1 := (blk_cell HN.out 1).trans rfl
  have lN := blk_lt HN.out
  have cX_0 := (blk_cell HX.out 0).trans rfl
  have cX_1 := (blk_cell HX.out 1).trans rfl
  have cX_2 := (blk_cell HX.out 2).trans rfl
  have lX := blk_lt HX.out
  have cY_0 := (blk_cell HY.out 0).trans rfl
  have cY_1 := (blk_cell HY.out 1).trans rfl
  have cY_2 := (blk_cell HY.out 2).trans rfl
  have lY := blk_lt HY.out
  have cS_0 := (blk_cell HS.out 0).trans rfl
  have cS_1 := (blk_cell HS.out 1).trans rfl
  have lS := blk_lt HS.out
  have cT_0 := (blk_cell HT.out 0).trans rfl
  have cT_1 := (blk_cell HT.out 1).trans rfl
  have lT := blk_lt HT.out
  go_wp2_with fail
  clear cK_0 cK_1 cK_2 lK cN_0 cN_1 lN cX_0 cX_1 cX_2 lX cY_0 cY_1 cY_2 lY cS_0 cS_1 lS cT_0 cT_1 lT
  refine (HDY.out _ _ _ HB.out F2.out HCB.out).mono ?_
  rintro e W36 ⟨rfl, hb⟩
  have hg := g_below hb
  replace F2 := Lib.hid (frow_grown F2.out hg (by simp))
  replace HK := Lib.hid (blk_grown HK.out hg (by simp))
  replace HN := Lib.hid (blk_grown HN.out hg (by simp))
  replace HX := Lib.hid (blk_grown HX.out hg (by simp))
  replace HY := Lib.hid (blk_grown HY.out hg (by simp))
  replace HG := Lib.hid (blk_grown HG.out hg (by simp))
  replace HS := Lib.hid (blk_grown HS.out hg (by simp))
  replace HT := Lib.hid (blk_grown HT.out hg (by simp))
  replace HB := Lib.hid (HB.out.trans (below_weaken hb HB.out.size))
  clear hb hg
  have cK_0 := (blk_cell HK.out 0).trans rfl
  have cK_1 := (blk_cell HK.out 1).trans rfl
  have cK_2 := (blk_cell HK.out 2).trans rfl
  have lK := blk_lt HK.out
  have cN_0 := (blk_cell HN.out 0).trans rfl
  have cN_1 := (blk_cell HN.out 1).trans rfl
  have lN := blk_lt HN.out
  have cX_0 := (blk_cell HX.out 0).trans rfl
  have cX_1 := (blk_cell HX.out 1).trans rfl
  have cX_2 := (blk_cell HX.out 2).trans rfl
  have lX := blk_lt HX.out
  have cY_0 := (blk_cell HY.out 0).trans rfl
  have cY_1 := (blk_cell HY.out 1).trans rfl
  have cY_2 := (blk_cell HY.out 2).trans rfl
  have lY := blk_lt HY.out
  have cS_0 := (blk_cell HS.out 0).trans rfl
  have cS_1 := (blk_cell HS.out 1).trans rfl
  have lS := blk_lt HS.out
  have cT_0 := (blk_cell HT.out 0).trans rfl
  have cT_1 := (blk_cell HT.out 1).trans rfl
  have lT := blk_lt HT.out
  go_wp2_with fail
  clear cK_0 cK_1 cK_2 lK cN_0 cN_1 lN cX_0 cX_1 cX_2 lX cY_0 cY_1 cY_2 lY cS_0 cS_1 lS cT_0 cT_1 lT
  refine (HPX.out _ HB.out).mono ?_
  rintro e W37 ⟨rfl, hb⟩
  have hg := g_below hb
  replace F2 := Lib.hid (frow_grown F2.out hg (by simp))
  replace HK := Lib.hid (blk_grown HK.out hg (by simp))
  replace HN := Lib.hid (blk_grown HN.out hg (by simp))
  replace HX := Lib.hid (blk_grown HX.out hg (by simp))
  replace HY := Lib.hid (blk_grown HY.out hg (by simp))
  replace HG := Lib.hid (blk_grown HG.out hg (by simp))
  replace HS := Lib.hid (blk_grown HS.out hg (by simp))
  replace HT := Lib.hid (blk_grown HT.out hg (by simp))
  replace HB := Lib.hid (HB.out.trans (below_weaken hb HB.out.size))
  clear hb hg
  have cK_0 := (blk_cell HK.out 0).trans rfl
  have cK_1 := (blk_cell HK.out 1).trans rfl
  have cK_2 := (blk_cell HK.out 2).trans rfl
  have lK := blk_lt HK.out
  have cN_0 := (blk_cell HN.out 0).trans rfl
  have cN_1 := (blk_cell HN.out 1).trans rfl
  have lN := blk_lt HN.out
  have cX_0 := (blk_cell HX.out 0).trans rfl
  have cX_1 := (blk_cell HX.out 1).trans rfl
  have cX_2 := (blk_cell HX.out 2).trans rfl
  have lX := blk_lt HX.out
  have cY_0 := (blk_cell HY.out 0).trans rfl
  have cY_1 := (blk_cell HY.out 1).trans rfl
  have cY_2 := (blk_cell HY.out 2).trans rfl
  have lY := blk_lt HY.out
  have cS_0 := (blk_cell HS.out 0).trans rfl
  have cS_1 := (blk_cell HS.out 1).trans rfl
  have lS := blk_lt HS.out
  have cT_0 := (blk_cell HT.out 0).trans rfl
  have cT_1 := (blk_cell HT.out 1).trans rfl
  have lT := blk_lt HT.out
  go_wp2_with fail
  clear cK_0 cK_1 cK_2 lK cN_0 cN_1 lN cX_0 cX_1 cX_2 lX cY_0 cY_1 cY_2 lY cS_0 cS_1 lS cT_0 cT_1 lT
  refine (HPY.out _ _ _ HB.out F2.out HCB.out).mono ?_
  rintro e W38 ⟨rfl, hb⟩
  have hg := g_below hb
  replace F2 := Lib.hid (frow_grown F2.out hg (by simp))
  replace HK := Lib.hid (blk_grown HK.out hg (by simp))
  replace HN := Lib.hid (blk_grown HN.out hg (by simp))
  replace HX := Lib.hid (blk_grown HX.out hg (by simp))
  replace HY := Lib.hid (blk_grown HY.out hg (by simp))
  replace HG := Lib.hid (blk_grown HG.out hg (by simp))
  replace HS := Lib.hid (blk_grown HS.out hg (by simp))
  replace HT := Lib.hid (blk_grown HT.out hg (by simp))
  replace HB := Lib.hid (HB.out.trans (below_weaken hb HB.out.size))
  clear hb hg
  have cK_0 := (blk_cell HK.out 0).trans rfl
  have cK_1 := (blk_cell HK.out 1).trans rfl
  have cK_2 := (blk_cell HK.out 2).trans rfl
  have lK := blk_lt HK.out
  have cN_0 := (blk_cell HN.out 0).trans rfl
  have cN_1 := (blk_cell HN.out 1).trans rfl
  have lN := blk_lt HN.out
  have cX_0 := (blk_cell HX.out 0).trans rfl
  have cX_1 := (blk_cell HX.out 1).trans rfl
  have cX_2 := (blk_cell HX.out 2).trans rfl
  have lX := blk_lt HX.out
  have cY_0 := (blk_cell HY.out 0).trans rfl
  have cY_1 := (blk_cell HY.out 1).trans rfl
  have cY_2 := (blk_cell HY.out 2).trans rfl
  have lY := blk_lt HY.out
  have cS_0 := (blk_cell HS.out 0).trans rfl
  have cS_1 := (blk_cell HS.out 1).trans rfl
  have lS := blk_lt HS.out
  have cT_0 := (blk_cell HT.out 0).trans rfl
  have cT_1 := (blk_cell HT.out 1).trans rfl
  have lT := blk_lt HT.out
  by_cases hlt : (d : Int) < (m : Int)
  · skip
    obtain ⟨e1, e2⟩ := HST.out hlt
    subst e1 e2
    rcases HDP.out.1 with rfl | ⟨rfl, rfl, hdq⟩
    · skip
      rcases HDP.out.2 with rfl | ⟨rfl, rfl, hpq⟩
      · skip
        go_wp2_with fail
        clear cK_0 cK_1 cK_2 lK cN_0 cN_1 lN cX_0 cX_1 cX_2 lX cY_0 cY_1 cY_2 lY cS_0 cS_1 lS cT_0 cT_1 lT
        refine (HRO.out _ HB.out).mono ?_
        rintro e W39 ⟨rfl, hb⟩
        have hg := g_below hb
        replace F2 := Lib.hid (frow_grown F2.out hg (by simp))
        replace HK := Lib.hid (blk_grown HK.out hg (by simp))
        replace HN := Lib.hid (blk_grown HN.out hg (by simp))
        replace HX := Lib.hid (blk_grown HX.out hg (by simp))
        replace HY := Lib.hid (blk_grown HY.out hg (by simp))
        replace HG := Lib.hid (blk_grown HG.out hg (by simp))
        replace HS := Lib.hid (blk_grown HS.out hg (by simp))
        replace HT := Lib.hid (blk_grown HT.out hg (by simp))
        replace HB := Lib.hid (HB.out.trans (below_weaken hb HB.out.size))
        clear hb hg
        have cK_0 := (blk_cell HK.out 0).trans rfl
        have cK_1 := (blk_cell HK.out 1).trans rfl
        have cK_2 := (blk_cell HK.out 2).trans rfl
        have lK := blk_lt HK.out
        have cN_0 := (blk_cell HN.out 0).trans rfl
        have cN_1 := (blk_cell HN.out 1).trans rfl
        have lN := blk_lt HN.out
        have cX_0 := (blk_cell HX.out 0).trans rfl
        have cX_1 := (blk_cell HX.out 1).trans rfl
        have cX_2 := (blk_cell HX.out 2).trans rfl
        have lX := blk_lt HX.out
        have cY_0 := (blk_cell HY.out 0).trans rfl
        have cY_1 := (blk_cell HY.out 1).trans rfl
        have cY_2 := (blk_cell HY.out 2).trans rfl
        have lY := blk_lt HY.out
        have cS_0 := (blk_cell HS.out 0).trans rfl
        have cS_1 := (blk_cell HS.out 1).trans rfl
        have lS := blk_lt HS.out
        have cT_0 := (blk_cell HT.out 0).trans rfl
        have cT_1 := (blk_cell HT.out 1).trans rfl
        have lT := blk_lt HT.out
        clear cK_0 cK_1 cK_2 lK cN_0 cN_1 lN cX_0 cX_1 cX_2 lX cY_0 cY_1 cY_2 lY cS_0 cS_1 lS cT_0 cT_1 lT
        go_wp2
        go_ret
        exact ⟨ret_true (by first | rfl | (simp; done) | (simp; omega)), HB.out⟩

      · skip
        go_wp2_with fail
        clear cK_0 cK_1 cK_2 lK cN_0 cN_1 lN cX_0 cX_1 cX_2 lX cY_0 cY_1 cY_2 lY cS_0 cS_1 lS cT_0 cT_1 lT
        refine (HRO.out _ HB.out).mono ?_
        rintro e W39 ⟨rfl, hb⟩
        have hg := g_below hb
        replace F2 := Lib.hid (frow_grown F2.out hg (by simp))
        replace HK := Lib.hid (blk_grown HK.out hg (by simp))
        replace HN := Lib.hid (blk_grown HN.out hg (by simp))
        replace HX := Lib.hid (blk_grown HX.out hg (by simp))
        replace HY := Lib.hid (blk_grown HY.out hg (by simp))
        replace HG := Lib.hid (blk_grown HG.out hg (by simp))
        replace HS := Lib.hid (blk_grown HS.out hg (by simp))
        replace HT := Lib.hid (blk_grown HT.out hg (by simp))
        replace HB := Lib.hid (HB.out.trans (below_weaken hb HB.out.size))
        clear hb hg
        have cK_0 := (blk_cell HK.out 0).trans rfl
        have cK_1 := (blk_cell HK.out 1).trans rfl
        have cK_2 := (blk_cell HK.out 2).trans rfl
        have lK := blk_lt HK.out
        have cN_0 := (blk_cell HN.out 0).trans rfl
        have cN_1 := (blk_cell HN.out 1).trans rfl
        have lN := blk_lt HN.out
        have cX_0 := (blk_cell HX.out 0).trans rfl
        have cX_1 := (blk_cell HX.out 1).trans rfl
        have cX_2 := (blk_cell HX.out 2).trans rfl
        have lX := blk_lt HX.out
        have cY_0 := (blk_cell HY.out 0).trans rfl
        have cY_1 := (blk_cell HY.out 1).trans rfl
        have cY_2 := (blk_cell HY.out 2).trans rfl
        have lY := blk_lt HY.out
        have cS_0 := (blk_cell HS.out 0).trans rfl
        have cS_1 := (blk_cell HS.out 1).trans rfl
        have lS := blk_lt HS.out
        have cT_0 := (blk_cell HT.out 0).trans rfl
        have cT_1 := (blk_cell HT.out 1).trans rfl
        have lT := blk_lt HT.out
        clear cK_0 cK_1 cK_2 lK cN_0 cN_1 lN cX_0 cX_1 cX_2 lX cY_0 cY_1 cY_2 lY cS_0 cS_1 lS cT_0 cT_1 lT
        go_wp2
        go_ret
        exact ⟨ret_true (by first | rfl | (simp; done) | (simp; omega)), HB.out⟩


    · skip
      rcases HDP.out.2 with rfl | ⟨rfl, rfl, hpq⟩
      · skip
        go_wp2_with fail
        clear cK_0 cK_1 cK_2 lK cN_0 cN_1 lN cX_0 cX_1 cX_2 lX cY_0 cY_1 cY_2 lY cS_0 cS_1 lS cT_0 cT_1 lT
        refine (HRO.out _ HB.out).mono ?_
        rintro e W39 ⟨rfl, hb⟩
        have hg := g_below hb
        replace F2 := Lib.hid (frow_grown F2.out hg (by simp))
        replace HK := Lib.hid (blk_grown HK.out hg (by simp))
        replace HN := Lib.hid (blk_grown HN.out hg (by simp))
        replace HX := Lib.hid (blk_grown HX.out hg (by simp))
        replace HY := Lib.hid (blk_grown HY.out hg (by simp))
        replace HG := Lib.hid (blk_grown HG.out hg (by simp))
        replace HS := Lib.hid (blk_grown HS.out hg (by simp))
        replace HT := Lib.hid (blk_grown HT.out hg (by simp))
        replace HB := Lib.hid (HB.out.trans (below_weaken hb HB.out.size))
        clear hb hg
        have cK_0 := (blk_cell HK.out 0).trans rfl
        have cK_1 := (blk_cell HK.out 1).trans rfl
        have cK_2 := (blk_cell HK.out 2).trans rfl
        have lK := blk_lt HK.out
        have cN_0 := (blk_cell HN.out 0).trans rfl
        have cN_1 := (blk_cell HN.out 1).trans rfl
        have lN := blk_lt HN.out
        have cX_0 := (blk_cell HX.out 0).trans rfl
        have cX_1 := (blk_cell HX.out 1).trans rfl
        have cX_2 := (blk_cell HX.out 2).trans rfl
        have lX := blk_lt HX.out
        have cY_0 := (blk_cell HY.out 0).trans rfl
        have cY_1 := (blk_cell HY.out 1).trans rfl
        have cY_2 := (blk_cell HY.out 2).trans rfl
        have lY := blk_lt HY.out
        have cS_0 := (blk_cell HS.out 0).trans rfl
        have cS_1 := (blk_cell HS.out 1).trans rfl
        have lS := blk_lt HS.out
        have cT_0 := (blk_cell HT.out 0).trans rfl
        have cT_1 := (blk_cell HT.out 1).trans rfl
        have lT := blk_lt HT.out
        clear cK_0 cK_1 cK_2 lK cN_0 cN_1 lN cX_0 cX_1 cX_2 lX cY_0 cY_1 cY_2 lY cS_0 cS_1 lS cT_0 cT_1 lT
        go_wp2
        go_ret
        exact ⟨ret_true (by first | rfl | (simp; done) | (simp; omega)), HB.out⟩

      · skip
        go_wp2_with fail
        clear cK_0 cK_1 cK_2 lK cN_0 cN_1 lN cX_0 cX_1 cX_2 lX cY_0 cY_1 cY_2 lY cS_0 cS_1 lS cT_0 cT_1 lT
        refine (HRO.out _ HB.out).mono ?_
        rintro e W39 ⟨rfl, hb⟩
        have hg := g_below hb
        replace F2 := Lib.hid (frow_grown F2.out hg (by simp))
        replace HK := Lib.hid (blk_grown HK.out hg (by simp))
        replace HN := Lib.hid (blk_grown HN.out hg (by simp))
        replace HX := Lib.hid (blk_grown HX.out hg (by simp))
        replace HY := Lib.hid (blk_grown HY.out hg (by simp))
        replace HG := Lib.hid (blk_grown HG.out hg (by simp))
        replace HS := Lib.hid (blk_grown HS.out hg (by simp))
        replace HT := Lib.hid (blk_grown HT.out hg (by simp))
        replace HB := Lib.hid (HB.out.trans (below_weaken hb HB.out.size))
        clear hb hg
        have cK_0 := (blk_cell HK.out 0).trans rfl
        have cK_1 := (blk_cell HK.out 1).trans rfl
        have cK_2 := (blk_cell HK.out 2).trans rfl
        have lK := blk_lt HK.out
        have cN_0 := (blk_cell HN.out 0).trans rfl
        have cN_1 := (blk_cell HN.out 1).trans rfl
        have lN := blk_lt HN.out
        have cX_0 := (blk_cell HX.out 0).trans rfl
        have cX_1 := (blk_cell HX.out 1).trans rfl
        have cX_2 := (blk_cell HX.out 2).trans rfl
        have lX := blk_lt HX.out
        have cY_0 := (blk_cell HY.out 0).trans rfl
        have cY_1 := (blk_cell HY.out 1).trans rfl
        have cY_2 := (blk_cell HY.out 2).trans rfl
        have lY := blk_lt HY.out
        have cS_0 := (blk_cell HS.out 0).trans rfl
        have cS_1 := (blk_cell HS.out 1).trans rfl
        have lS := blk_lt HS.out
        have cT_0 := (blk_cell HT.out 0).trans rfl
        have cT_1 := (blk_cell HT.out 1).trans rfl
        have lT := blk_lt HT.out
        clear cK_0 cK_1 cK_2 lK cN_0 cN_1 lN cX_0 cX_1 cX_2 lX cY_0 cY_1 cY_2 lY cS_0 cS_1 lS cT_0 cT_1 lT
        go_wp2
        go_ret
        exact ⟨ret_true (by first | rfl | (simp; done) | (simp; omega)), HB.out⟩



  · skip
    rcases HDP.out.1 with rfl | ⟨rfl, rfl, hdq⟩
    · skip
      rcases HDP.out.2 with rfl | ⟨rfl, rfl, hpq⟩
      · skip
        go_wp2_with fail
        clear cK_0 cK_1 cK_2 lK cN_0 cN_1 lN cX_0 cX_1 cX_2 lX cY_0 cY_1 cY_2 lY cS_0 cS_1 lS cT_0 cT_1 lT
        refine (HRO.out _ HB.out).mono ?_
        rintro e W39 ⟨rfl, hb⟩
        have hg := g_below hb
        replace F2 := Lib.hid (frow_grown F2.out hg (by simp))
        replace HK := Lib.hid (blk_grown HK.out hg (by simp))
        replace HN := Lib.hid (blk_grown HN.out hg (by simp))
        replace HX := Lib.hid (blk_grown HX.out hg (by simp))
        replace HY := Lib.hid (blk_grown HY.out hg (by simp))
        replace HG := Lib.hid (blk_grown HG.out hg (by simp))
        replace HS := Lib.hid (blk_grown HS.out hg (by simp))
        replace HT := Lib.hid (blk_grown HT.out hg (by simp))
        replace HB := Lib.hid (HB.out.trans (below_weaken hb HB.out.size))
        clear hb hg
        have cK_0 := (blk_cell HK.out 0).trans rfl
        have cK_1 := (blk_cell HK.out 1).trans rfl
        have cK_2 := (blk_cell HK.out 2).trans rfl
        have lK := blk_lt HK.out
        have cN_0 := (blk_cell HN.out 0).trans rfl
        have cN_1 := (blk_cell HN.out 1).trans rfl
        have lN := blk_lt HN.out
        have cX_0 := (blk_cell HX.out 0).trans rfl
        have cX_1 := (blk_cell HX.out 1).trans rfl
        have cX_2 := (blk_cell HX.out 2).trans rfl
        have lX := blk_lt HX.out
        have cY_0 := (blk_cell HY.out 0).trans rfl
        have cY_1 := (blk_cell HY.out 1).trans rfl
        have cY_2 := (blk_cell HY.out 2).trans rfl
        have lY := blk_lt HY.out
        have cS_0 := (blk_cell HS.out 0).trans rfl
        have cS_1 := (blk_cell HS.out 1).trans rfl
        have lS := blk_lt HS.out
        have cT_0 := (blk_cell HT.out 0).trans rfl
        have cT_1 := (blk_cell HT.out 1).trans rfl
        have lT := blk_lt HT.out
        clear cK_0 cK_1 cK_2 lK cN_0 cN_1 lN cX_0 cX_1 cX_2 lX cY_0 cY_1 cY_2 lY cS_0 cS_1 lS cT_0 cT_1 lT
        go_wp2
        go_ret
        exact ⟨ret_true (by first | rfl | (simp; done) | (simp; omega)), HB.out⟩

      · skip
        go_wp2_with fail
        clear cK_0 cK_1 cK_2 lK cN_0 cN_1 lN cX_0 cX_1 cX_2 lX cY_0 cY_1 cY_2 lY cS_0 cS_1 lS cT_0 cT_1 lT
        refine (HRO.out _ HB.out).mono ?_
        rintro e W39 ⟨rfl, hb⟩
        have hg := g_below hb
        replace F2 := Lib.hid (frow_grown F2.out hg (by simp))
        replace HK := Lib.hid (blk_grown HK.out hg (by simp))
        replace HN := Lib.hid (blk_grown HN.out hg (by simp))
        replace HX := Lib.hid (blk_grown HX.out hg (by simp))
        replace HY := Lib.hid (blk_grown HY.out hg (by simp))
        replace HG := Lib.hid (blk_grown HG.out hg (by simp))
        replace HS := Lib.hid (blk_grown HS.out hg (by simp))
        replace HT := Lib.hid (blk_grown HT.out hg (by simp))
        replace HB := Lib.hid (HB.out.trans (below_weaken hb HB.out.size))
        clear hb hg
        have cK_0 := (blk_cell HK.out 0).trans rfl
        have cK_1 := (blk_cell HK.out 1).trans rfl
        have cK_2 := (blk_cell HK.out 2).trans rfl
        have lK := blk_lt HK.out
        have cN_0 := (blk_cell HN.out 0).trans rfl
        have cN_1 := (blk_cell HN.out 1).trans rfl
        have lN := blk_lt HN.out
        have cX_0 := (blk_cell HX.out 0).trans rfl
        have cX_1 := (blk_cell HX.out 1).trans rfl
        have cX_2 := (blk_cell HX.out 2).trans rfl
        have lX := blk_lt HX.out
        have cY_0 := (blk_cell HY.out 0).trans rfl
        have cY_1 := (blk_cell HY.out 1).trans rfl
        have cY_2 := (blk_cell HY.out 2).trans rfl
        have lY := blk_lt HY.out
        have cS_0 := (blk_cell HS.out 0).trans rfl
        have cS_1 := (blk_cell HS.out 1).trans rfl
        have lS := blk_lt HS.out
        have cT_0 := (blk_cell HT.out 0).trans rfl
        have cT_1 := (blk_cell HT.out 1).trans rfl
        have lT := blk_lt HT.out
        clear cK_0 cK_1 cK_2 lK cN_0 cN_1 lN cX_0 cX_1 cX_2 lX cY_0 cY_1 cY_2 lY cS_0 cS_1 lS cT_0 cT_1 lT
        go_wp2
        go_ret
        exact ⟨ret_true (by first | rfl | (simp; done) | (simp; omega)), HB.out⟩


    · skip
      rcases HDP.out.2 with rfl | ⟨rfl, rfl, hpq⟩
      · skip
        go_wp2_with fail
        clear cK_0 cK_1 cK_2 lK cN_0 cN_1 lN cX_0 cX_1 cX_2 lX cY_0 cY_1 cY_2 lY cS_0 cS_1 lS cT_0 cT_1 lT
        refine (HRO.out _ HB.out).mono ?_
        rintro e W39 ⟨rfl, hb⟩
        have hg := g_below hb
        replace F2 := Lib.hid (frow_grown F2.out hg (by simp))
        replace HK := Lib.hid (blk_grown HK.out hg (by simp))
        replace HN := Lib.hid (blk_grown HN.out hg (by simp))
        replace HX := Lib.hid (blk_grown HX.out hg (by simp))
        replace HY := Lib.hid (blk_grown HY.out hg (by simp))
        replace HG := Lib.hid (blk_grown HG.out hg (by simp))
        replace HS := Lib.hid (blk_grown HS.out hg (by simp))
        replace HT := Lib.hid (blk_grown HT.out hg (by simp))
        replace HB := Lib.hid (HB.out.trans (below_weaken hb HB.out.size))
        clear hb hg
        have cK_0 := (blk_cell HK.out 0).trans rfl
        have cK_1 := (blk_cell HK.out 1).trans rfl
        have cK_2 := (blk_cell HK.out 2).trans rfl
        have lK := blk_lt HK.out
        have cN_0 := (blk_cell HN.out 0).trans rfl
        have cN_1 := (blk_cell HN.out 1).trans rfl
        have lN := blk_lt HN.out
        have cX_0 := (blk_cell HX.out 0).trans rfl
        have cX_1 := (blk_cell HX.out 1).trans rfl
        have cX_2 := (blk_cell HX.out 2).trans rfl
        have lX := blk_lt HX.out
        have cY_0 := (blk_cell HY.out 0).trans rfl
        have cY_1 := (blk_cell HY.out 1).trans rfl
        have cY_2 := (blk_cell HY.out 2).trans rfl
        have lY := blk_lt HY.out
        have cS_0 := (blk_cell HS.out 0).trans rfl
        have cS_1 := (blk_cell HS.out 1).trans rfl
        have lS := blk_lt HS.out
        have cT_0 := (blk_cell HT.out 0).trans rfl
        have cT_1 := (blk_cell HT.out 1).trans rfl
        have lT := blk_lt HT.out
        clear cK_0 cK_1 cK_2 lK cN_0 cN_1 lN cX_0 cX_1 cX_2 lX cY_0 cY_1 cY_2 lY cS_0 cS_1 lS cT_0 cT_1 lT
        go_wp2
        go_ret
        exact ⟨ret_true (by first | rfl | (simp; done) | (simp; omega)), HB.out⟩

      · skip
        go_wp2_with fail
        clear cK_0 cK_1 cK_2 lK cN_0 cN_1 lN cX_0 cX_1 cX_2 lX cY_0 cY_1 cY_2 lY cS_0 cS_1 lS cT_0 cT_1 lT
        refine (HRO.out _ HB.out).mono ?_
        rintro e W39 ⟨rfl, hb⟩
        have hg := g_below hb
        replace F2 := Lib.hid (frow_grown F2.out hg (by simp))
        replace HK := Lib.hid (blk_grown HK.out hg (by simp))
        replace HN := Lib.hid (blk_grown HN.out hg (by simp))
        replace HX := Lib.hid (blk_grown HX.out hg (by simp))
        replace HY := Lib.hid (blk_grown HY.out hg (by simp))
        replace HG := Lib.hid (blk_grown HG.out hg (by simp))
        replace HS := Lib.hid (blk_grown HS.out hg (by simp))
        replace HT := Lib.hid (blk_grown HT.out hg (by simp))
        replace HB := Lib.hid (HB.out.trans (below_weaken hb HB.out.size))
        clear hb hg
        have cK_0 := (blk_cell HK.out 0).trans rfl
        have cK_1 := (blk_cell HK.out 1).trans rfl
        have cK_2 := (blk_cell HK.out 2).trans rfl
        have lK := blk_lt HK.out
        have cN_0 := (blk_cell HN.out 0).trans rfl
        have cN_1 := (blk_cell HN.out 1).trans rfl
        have lN := blk_lt HN.out
        have cX_0 := (blk_cell HX.out 0).trans rfl
        have cX_1 := (blk_cell HX.out 1).trans rfl
        have cX_2 := (blk_cell HX.out 2).trans rfl
        have lX := blk_lt HX.out
        have cY_0 := (blk_cell HY.out 0).trans rfl
        have cY_1 := (blk_cell HY.out 1).trans rfl
        have cY_2 := (blk_cell HY.out 2).trans rfl
        have lY := blk_lt HY.out
        have cS_0 := (blk_cell HS.out 0).trans rfl
        have cS_1 := (blk_cell HS.out 1).trans rfl
        have lS := blk_lt HS.out
        have cT_0 := (blk_cell HT.out 0).trans rfl
        have cT_1 := (blk_cell HT.out 1).trans rfl
        have lT := blk_lt HT.out
        clear cK_0 cK_1 cK_2 lK cN_0 cN_1 lN cX_0 cX_1 cX_2 lX cY_0 cY_1 cY_2 lY cS_0 cS_1 lS cT_0 cT_1 lT
        go_wp2
        go_ret
        exact ⟨ret_true (by first | rfl | (simp; done) | (simp; omega)), HB.out⟩
end Go.Proofs.YthgjedagbgmgmaaDoor.Pr
namespace Go.Proofs.YthgjedagbgmgmaaDoor.Pr
open Go.RowKit Go.Proofs.YthgjedagbgmgmaaDoorW.PrintWords Go.Proofs.YthgjedagbgmgmaaDoorW.PrintLast Go.Proofs.YthgjedagbgmgmaaDoorW.PrintMore
set_option linter.unusedVariables false
set_option linter.unusedSimpArgs false
theorem rollPass_calls (A0 A1 A2 : Option Addr) (c0 c1 c2 : Nat) (l0 : List S92) (l1 : List S90) (l2 : List S43) (n0 n1 : Int) (w : World) (hG : GOK w) (h : BookAt w A0 A1 A2 c0 c1 c2 l0 l1 l2) :
    Calls Tryd.prog 14 #[.agg #[.slice A0 l0.length c0, .slice A1 l1.length c1, .slice A2 l2.length c2], .agg #[.int .i64 n0, .int .i64 n1]] w fun e w' => e = .returned (.bool true) ∧ Below w.heap.size w w' := by
  have HSOB := fun W (hW : Below w.heap.size w W) => sound_calls A0 A1 A2 c0 c1 c2 l0 l1 l2 W (h.below hW)
  have HRO := fun W (hW : Below w.heap.size w W) => rolled_calls W (hG.below hW)
  cases hok : okBook l0 l1 l2 with
  | false =>
    rw [hok] at HSOB
    exact pass_none A0 A1 A2 c0 c1 c2 l0 l1 l2 n0 n1 w (Lib.hid HSOB) (Lib.hid HRO)
  | true =>
    rw [hok] at HSOB
    obtain ⟨o1, o2, o3, o4, _, o6, _⟩ := ok_facts hok
    obtain ⟨m, hm, hw0⟩ := wrap_calls n0 l1.length o4 (by omega)
    obtain ⟨d, hd, hw1⟩ := wrap_calls n1 l1.length o4 (by omega)
    obtain ⟨q1, q2, q3, q4, _⟩ := o6 _ (List.getElem_mem hm)
    have hnil : ∀ W : World, Kd.C k43 W none 0 ([] : List S43) := fun W => Kd.C_nil k43 W
    obtain ⟨h2, eh2⟩ : ∃ x : Int, x = if l1[m].f0.f1 + 1 < 20 then l1[m].f0.f1 + 1 else 20 := ⟨_, rfl⟩
    obtain ⟨lo2, elo⟩ : ∃ x : Int, x = if l1[m].f0.f0 + 1 < h2 then l1[m].f0.f0 + 1 else h2 := ⟨_, rfl⟩
    have hmn : Builtin.min2 (.int .i64 20) (.int .i64 (l1[m].f0.f1 + 1)) = (pure (.int .i64 h2) : Sem Value) := by rw [eh2]; exact min2_int _ _ _ _
    have hmn2 : Builtin.min2 (.int .i64 h2) (.int .i64 (l1[m].f0.f0 + 1)) = (pure (.int .i64 lo2) : Sem Value) := by rw [elo]; exact min2_int _ _ _ _
    have hmd : moreDay l1[m] = ⟨⟨lo2, h2⟩, l1[m].f1⟩ := by
      have e1 : min 20 (l1[m].f0.f1 + 1) = h2 := by rw [eh2]; split <;> omega
      have e2 : min h2 (l1[m].f0.f0 + 1) = lo2 := by rw [elo]; split <;> omega
      unfold moreDay
      rw [e1, e2]
    have FC : ∀ W (g c : Nat), FRow e90 3 W (some ⟨g, 0, none⟩) (l1.set m (moreDay l1[m])) → Kd.C k90 W (some ⟨g, 0, none⟩) (l1.set m (moreDay l1[m])).length (l1.set m (moreDay l1[m])) := fun W g c hf => frow_to_C (d := k90) hf (fun _ => rfl) (fun w x => k90_mk w x) (by simp; omega)
    obtain ⟨s1, s2, t1, t2, e1, e2, hst1, hst2, hst⟩ := pass_bound hok hm hd
    refine pass_walk A0 A1 A2 c0 c1 c2 l0 l1 l2 n0 n1 w m d hm l1[m].f0.f0 l1[m].f0.f1 h2 lo2 o3 h.r1 (Lib.hid rfl) (Lib.hid rfl) (Lib.hid hmd) (IntWalk.i64_in _ (by omega)) hmn (IntWalk.i64_in _ (by omega)) hmn2 (Lib.hid HSOB) (Lib.hid HRO) (Lib.hid hw0) (Lib.hid hw1)
      s1 s2 t1 t2 (doneF l0 l1 []).1 (doneF l0 l1 []).2 (doneF l0 (l1.set m (moreDay l1[m])) []).1 (doneF l0 (l1.set m (moreDay l1[m])) []).2 (perhapsF l0 l1 []).1 (perhapsF l0 l1 []).2 (perhapsF l0 (l1.set m (moreDay l1[m])) []).1 (perhapsF l0 (l1.set m (moreDay l1[m])) []).2 hst1 hst2 (Lib.hid fun q => hst (by omega)) (Lib.hid fun W hW => ?_) (Lib.hid fun W g c hW hf hc => ?_) (Lib.hid fun W hW => ?_) (Lib.hid fun W g c hW hf hc => ?_) (Lib.hid fun W hW => ?_) (Lib.hid fun W g c hW hf hc => ?_) (Lib.hid ⟨?_, ?_⟩)
    · have := bound_calls A0 A1 none c0 c1 0 l0 l1 [] W (hG.below hW) (h.below hW).r0 h.c0 (h.below hW).r1 h.c1 (hnil W) (by simp) (d : Int)
      rw [e1] at this
      exact this
    · have := bound_calls A0 (some ⟨g, 0, none⟩) none c0 c 0 l0 (l1.set m (moreDay l1[m])) [] W (hG.below hW) (h.below hW).r0 h.c0 (FC W g c hf) (by rw [List.length_set]; exact hc) (hnil W) (by simp) (d : Int)
      rw [e2, List.length_set] at this
      exact this
    · exact done_calls A0 A1 none c0 c1 0 l0 l1 [] W (hG.below hW) (h.below hW).r0 h.c0 (h.below hW).r1 h.c1 (hnil W) (by simp)
    · have := done_calls A0 (some ⟨g, 0, none⟩) none c0 c 0 l0 (l1.set m (moreDay l1[m])) [] W (hG.below hW) (h.below hW).r0 h.c0 (FC W g c hf) (by rw [List.length_set]; exact hc) (hnil W) (by simp)
      rw [List.length_set] at this
      exact this
    · exact perhaps_calls A0 A1 none c0 c1 0 l0 l1 [] W (hG.below hW) (h.below hW).r0 h.c0 (h.below hW).r1 h.c1 (hnil W) (by simp)
    · have := perhaps_calls A0 (some ⟨g, 0, none⟩) none c0 c 0 l0 (l1.set m (moreDay l1[m])) [] W (hG.below hW) (h.below hW).r0 h.c0 (FC W g c hf) (by rw [List.length_set]; exact hc) (hnil W) (by simp)
      rw [List.length_set] at this
      exact this
    · rcases pass_done hok hm with e | ⟨p, q, e, e', h1, h2⟩
      · rw [e]; exact .inl rfl
      · rw [e, e']; exact .inr ⟨rfl, rfl, by dsimp only; omega⟩
    · rcases pass_perhaps hok hm with e | ⟨p, q, e, e', h1, h2⟩
      · rw [e]; exact .inl rfl
      · rw [e, e']; exact .inr ⟨rfl, rfl, by dsimp only; omega⟩
end Go.Proofs.YthgjedagbgmgmaaDoor.Pr
