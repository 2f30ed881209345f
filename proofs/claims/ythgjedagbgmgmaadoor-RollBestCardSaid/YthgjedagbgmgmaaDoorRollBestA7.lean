/- Part 7 of the proof that RollBest answers true: contracts and laws, merged by a program. -/
import Derived.Test.YthgjedagbgmgmaaDoorRollBestA6
namespace Go.Proofs.YthgjedagbgmgmaaDoor.Pr
open Go.RowKit Go.Proofs.YthgjedagbgmgmaaDoorW.PrintWords Go.Proofs.YthgjedagbgmgmaaDoorW.PrintLast Go.Proofs.YthgjedagbgmgmaaDoorW.PrintMore
set_option linter.unusedVariables false
set_option linter.unusedSimpArgs false
/-- The state after some days. -/
def runS (ls : List S92) : Ch → Int × Int → Int × Int
  | [], q => q
  | p :: c, q => runS ls c (stepS ls q p.2 p.1)
/-- The choice, if the road is watered. -/
def wetC (wf : Int → Int → Int) : Nat → Ch → Ch
  | _, [] => []
  | i, p :: c => (p.1, wf (i : Int) p.2) :: wetC wf (i + 1) c
theorem wetC_length (wf : Int → Int → Int) : ∀ (c : Ch) (i : Nat), (wetC wf i c).length = c.length := by
  intro c
  induction c with
  | nil => intro i; rfl
  | cons p c ih => intro i; simp [wetC, ih]
theorem wetC_get (wf : Int → Int → Int) : ∀ (c : Ch) (i k : Nat) (h : k < c.length) (h' : k < (wetC wf i c).length), (wetC wf i c)[k] = (c[k].1, wf ((i + k : Nat) : Int) c[k].2) := by
  intro c
  induction c with
  | nil => intro i k h; exact absurd h (by simp)
  | cons p c ih =>
    intro i k h h'
    cases k with
    | zero => rfl
    | succ k =>
      have := ih (i + 1) k (by simpa using h) (by simpa [wetC] using h')
      simp only [wetC, List.getElem_cons_succ]
      rw [this, show i + 1 + k = i + (k + 1) by omega]
theorem runS_states (ls : List S92) : ∀ (c : Ch) (q : Int × Int) (n : Nat), c.length = n + 1 → (states ls c q).getD n (0, -1) = runS ls c q := by
  intro c
  induction c with
  | nil => intro q n h; simp at h
  | cons p c ih =>
    intro q n h
    cases n with
    | zero =>
      have : c = [] := List.eq_nil_of_length_eq_zero (by simpa using h)
      subst this
      rfl
    | succ n =>
      show (states ls c _).getD n (0, -1) = runS ls c _
      exact ih _ n (by simpa using h)
theorem stAt_last {ls : List S92} {c : Ch} {n : Nat} (h : c.length = n + 1) : stAt ls c n = runS ls c (0, -1) := runS_states ls c _ n h
theorem waterFrom_run (ls : List S92) (wf : Int → Int → Int) (t : List Int) : ∀ (c : Ch) (day : Nat) (r : Rd), (∀ i (h : i < c.length), t.getD (day + i) 0 = c[i].1 ∧ t.getD (5 + (day + i)) 0 = c[i].2) →
    ((waterFrom ls wf t c.length day r).bound, (waterFrom ls wf t c.length day r).rolled) = runS ls (wetC wf day c) (r.bound, r.rolled) := by
  intro c
  induction c with
  | nil => intro day r _; rfl
  | cons p c ih =>
    intro day r h
    have h0 := h 0 (by simp)
    rw [Nat.add_zero] at h0
    simp only [List.getElem_cons_zero] at h0
    show ((waterFrom ls wf t c.length (day + 1) _).bound, (waterFrom ls wf t c.length (day + 1) _).rolled) = runS ls (wetC wf (day + 1) c) _
    rw [ih (day + 1) _ fun i hi => by
      have := h (i + 1) (by simpa using hi)
      rw [show day + (i + 1) = day + 1 + i by omega] at this
      simpa using this]
    rw [h0.1, h0.2, afterR_state]
theorem worst1_run {ls : List S92} {ds : List S90} {c : Ch} (hc : OkCh ds c) (h5 : ds.length ≤ 5) (wf : Int → Int → Int) : worst1F ls ds.length wf (enc0 ls c) = (runS ls (wetC wf 0 c) (0, -1)).1 := by
  have h := waterFrom_run ls wf (enc0 ls c) c 0 r00 fun i hi => by
    have hi' : i < ds.length := by rw [← hc.1]; exact hi
    rw [Nat.zero_add, enc0_wagons hc h5 i hi', enc0_sky hc h5 i hi', List.getD_eq_getElem?_getD, List.getElem?_eq_getElem hi]
    exact ⟨rfl, rfl⟩
  rw [hc.1] at h
  unfold worst1F
  exact congrArg Prod.fst h
theorem wetC_never : ∀ (c : Ch) (i : Nat), wetC neverF i c = c := by
  intro c
  induction c with
  | nil => intro i; rfl
  | cons p c ih => intro i; simp only [wetC, ih]; rfl
theorem wetC_on {at_ : Nat} (c : Ch) {k : Nat} (h : k < c.length) (h' : k < (wetC (onF at_) 0 c).length) : (wetC (onF at_) 0 c)[k] = (c[k].1, if k = at_ ∧ c[k].2 = 0 then 1 else c[k].2) := by
  rw [wetC_get _ _ _ _ h h']
  unfold onF
  rw [Nat.zero_add]
  by_cases e : k = at_
  · subst e
    by_cases z : c[k].2 = 0
    · rw [if_pos ⟨rfl, z⟩, if_pos ⟨rfl, z⟩]
    · rw [if_neg (fun h => z h.2), if_neg (fun h => z h.2)]
  · rw [if_neg (fun h => e (by have := h.1; omega)), if_neg (fun h => e h.1)]
theorem leC_wet {c : Ch} {at_ : Nat} (h0 : ∀ i (h : i < c.length), 0 ≤ c[i].1) : LeC c (wetC (onF at_) 0 c) := by
  refine ⟨(wetC_length _ _ _).symm, fun i h h' => ?_⟩
  rw [wetC_on c h h']
  refine ⟨h0 i h, Int.le_refl _, ?_⟩
  by_cases e : i = at_ ∧ c[i].2 = 0
  · rw [if_pos e]; exact .inr ⟨e.2, rfl⟩
  · rw [if_neg e]; exact .inl rfl
/-- The best day, and how good it is. -/
theorem waterBest_law (g : Int → Int) : ∀ (k d : Nat) (s : Int × Int),
    (waterBest g k d s = s ∧ ∀ i : Nat, d ≤ i → i < d + k → g i ≤ s.2) ∨
    ∃ b : Nat, waterBest g k d s = ((b : Int), g b) ∧ d ≤ b ∧ b < d + k ∧ s.2 < g b ∧ (∀ i : Nat, d ≤ i → i < d + k → g i ≤ g b) ∧ ∀ i : Nat, d ≤ i → i < b → g i < g b := by
  intro k
  induction k with
  | zero => intro d s; exact .inl ⟨rfl, fun i h1 h2 => by omega⟩
  | succ k ih =>
    intro d s
    unfold waterBest
    by_cases h : s.2 < g (d : Int)
    · rw [if_pos h]
      rcases ih (d + 1) ((d : Int), g (d : Int)) with ⟨e, h1⟩ | ⟨b, e, h1, h2, h3, h4, h5⟩
      · refine .inr ⟨d, e, Nat.le_refl _, by omega, h, fun i hi hi2 => ?_, fun i hi hi2 => by omega⟩
        by_cases q : i = d
        · rw [q]; exact Int.le_refl _
        · exact h1 i (by omega) (by omega)
      · dsimp only at h3
        refine .inr ⟨b, e, by omega, by omega, by omega, fun i hi hi2 => ?_, fun i hi hi2 => ?_⟩
        · by_cases q : i = d
          · rw [q]; omega
          · exact h4 i (by omega) (by omega)
        · by_cases q : i = d
          · rw [q]; exact h3
          · exact h5 i (by omega) hi2
    · rw [if_neg h]
      rcases ih (d + 1) s with ⟨e, h1⟩ | ⟨b, e, h1, h2, h3, h4, h5⟩
      · refine .inl ⟨e, fun i hi hi2 => ?_⟩
        by_cases q : i = d
        · rw [q]; omega
        · exact h1 i (by omega) (by omega)
      · refine .inr ⟨b, e, by omega, by omega, h3, fun i hi hi2 => ?_, fun i hi hi2 => ?_⟩
        · by_cases q : i = d
          · rw [q]; omega
          · exact h4 i (by omega) (by omega)
        · by_cases q : i = d
          · rw [q]; omega
          · exact h5 i (by omega) hi2
/-- A day that is damp where it could be dry. -/
def dampSky (s : Int) : Int := if s % 2 = 1 then (if s / 2 % 2 = 1 then s - 1 else s + 1) else s
def dampDay (x : S90) : S90 := ⟨x.f0, dampSky x.f1⟩
theorem dampSky_b {s : Int} (h1 : 1 ≤ s) (h7 : s ≤ 7) : 1 ≤ dampSky s ∧ dampSky s ≤ 7 := by
  unfold dampSky
  repeat' split
  all_goals omega
theorem dampDay_ok {x : S90} (h : okDay x = true) : okDay (dampDay x) = true := by
  unfold okDay at h ⊢
  simp only [Bool.and_eq_true, decide_eq_true_eq] at h ⊢
  exact ⟨h.1, dampSky_b h.2.1 h.2.2⟩
theorem dampSky_has {s p : Int} (h1 : 1 ≤ s) (h7 : s ≤ 7) (p0 : 0 ≤ p) (p2 : p ≤ 2) (h : hasSky s p.toNat = true) : hasSky (dampSky s) (if p = 0 then 1 else p).toNat = true := by
  have hs : s = 1 ∨ s = 2 ∨ s = 3 ∨ s = 4 ∨ s = 5 ∨ s = 6 ∨ s = 7 := by omega
  have hp : p = 0 ∨ p = 1 ∨ p = 2 := by omega
  rcases hs with rfl | rfl | rfl | rfl | rfl | rfl | rfl <;> rcases hp with rfl | rfl | rfl <;> first | rfl | decide | exact absurd h (by decide)
theorem dampSky_back {s p : Int} (h1 : 1 ≤ s) (h7 : s ≤ 7) (p0 : 0 ≤ p) (p2 : p ≤ 2) (h : hasSky (dampSky s) p.toNat = true) : p ≠ 0 ∧ (hasSky s p.toNat = true ∨ (p = 1 ∧ hasSky s 0 = true)) := by
  have hs : s = 1 ∨ s = 2 ∨ s = 3 ∨ s = 4 ∨ s = 5 ∨ s = 6 ∨ s = 7 := by omega
  have hp : p = 0 ∨ p = 1 ∨ p = 2 := by omega
  rcases hs with rfl | rfl | rfl | rfl | rfl | rfl | rfl <;> rcases hp with rfl | rfl | rfl <;> first | exact ⟨by decide, .inl (by decide)⟩ | exact ⟨by decide, .inr ⟨rfl, by decide⟩⟩ | exact absurd h (by decide)
section
variable {ls : List S92} {ds : List S90} {ks : List S43}
theorem damp_up (hok : okBook ls ds ks = true) {j : Nat} (hj : j < ds.length) {c : Ch} (hc : OkCh ds c) : OkCh (ds.set j (dampDay ds[j])) (wetC (onF j) 0 c) := by
  have hjc : j < c.length := by rw [hc.1]; exact hj
  have hd := (okBook_parts hok).2.2.2.2.1 _ (List.getElem_mem hj)
  unfold okDay at hd
  simp only [Bool.and_eq_true, decide_eq_true_eq] at hd
  refine ⟨by rw [wetC_length]; simpa using hc.1, fun i h1 h2 => ?_⟩
  have h1' : i < c.length := by rw [wetC_length] at h1; exact h1
  have h2' : i < ds.length := by simpa using h2
  rw [wetC_on c h1' h1, List.getElem_set]
  obtain ⟨d1, d2, d3, d4, d5⟩ := hc.2 i h1' h2'
  by_cases e : j = i
  · subst e
    rw [if_pos rfl]
    refine ⟨d1, d2, ?_, ?_, ?_⟩
    · dsimp only; split <;> omega
    · dsimp only; split <;> omega
    · have := dampSky_has hd.2.1 hd.2.2 d3 d4 d5
      by_cases z : c[j].2 = 0
      · rw [if_pos z] at this
        rw [if_pos ⟨rfl, z⟩]
        exact this
      · rw [if_neg z] at this
        rw [if_neg (fun h => z h.2)]
        exact this
  · rw [if_neg e]
    rw [if_neg (fun h => e h.1.symm)]
    exact ⟨d1, d2, d3, d4, d5⟩
theorem wet_same {c : Ch} {j : Nat} (h : ∀ hj : j < c.length, c[j].2 ≠ 0) : wetC (onF j) 0 c = c := by
  refine List.ext_getElem (wetC_length _ _ _) fun i h1 h2 => ?_
  rw [wetC_on c h2 h1]
  by_cases e : i = j
  · subst e
    rw [if_neg (fun q => h h2 q.2)]
  · rw [if_neg (fun q => e q.1)]
theorem damp_down (hok : okBook ls ds ks = true) {j : Nat} (hj : j < ds.length) {c' : Ch} (hc : OkCh (ds.set j (dampDay ds[j])) c') : ∃ c, OkCh ds c ∧ wetC (onF j) 0 c = c' := by
  have hjc : j < c'.length := by rw [hc.1]; simpa using hj
  have hjs : j < (ds.set j (dampDay ds[j])).length := by simpa using hj
  have hd := (okBook_parts hok).2.2.2.2.1 _ (List.getElem_mem hj)
  unfold okDay at hd
  simp only [Bool.and_eq_true, decide_eq_true_eq] at hd
  obtain ⟨d1, d2, d3, d4, d5⟩ := okCh_day hc hjc hjs
  rw [List.getElem_set_self] at d1 d2 d5
  obtain ⟨e1, e2 | ⟨e2, e3⟩⟩ := dampSky_back hd.2.1 hd.2.2 d3 d4 d5
  · refine ⟨c', ?_, wet_same fun _ => e1⟩
    have := okCh_back hc hj (p := c'[j]) ⟨d1, d2, d3, d4, e2⟩
    rwa [List.set_getElem_self] at this
  · refine ⟨c'.set j (c'[j].1, 0), okCh_back hc hj ⟨d1, d2, by show (0 : Int) ≤ 0; omega, by show (0 : Int) ≤ 2; omega, e3⟩, ?_⟩
    refine List.ext_getElem (by rw [wetC_length]; simp) fun i h1 h2 => ?_
    have h3 : i < (c'.set j (c'[j].1, 0)).length := by rw [wetC_length] at h1; exact h1
    rw [wetC_on _ h3 h1]
    simp only [List.getElem_set]
    by_cases e : j = i
    · subst e
      simp only [if_true, and_self]
      rw [← e2]
    · simp only [if_neg e]
      rw [if_neg (fun q => e q.1.symm)]
theorem worst_told (hok : okBook ls ds ks = true) (hT : 0 < (truthsAll ls ds ks []).length) (wf : Int → Int → Int) : ∃ hi, Told (good ls ds ks []) (fun c => (runS ls (wetC wf 0 c) (0, -1)).1) (worstF ls ds.length wf (truthsAll ls ds ks [])) hi :=
  ⟨_, told_span hT fun c hc => worst1_run (mem_good.1 hc).1 (ok_facts hok).2.2.1 wf⟩
theorem never_low (hok : okBook ls ds ks = true) (hT : 0 < (truthsAll ls ds ks []).length) : worstF ls ds.length neverF (truthsAll ls ds ks []) = (bspan (truthsAll ls ds ks []) (ds.length - 1)).1 := by
  obtain ⟨hi, t⟩ := worst_told hok hT neverF
  have hd := (okBook_parts hok).2.1
  refine (t.eq (bspan_told hok hT (show ds.length - 1 < ds.length by omega)) (fun c hc => ⟨c, hc, ?_⟩) (fun c hc => ⟨c, hc, ?_⟩)).1
  · rw [stAt_bound, stAt_last (by rw [(mem_good.1 hc).1.1]; omega), wetC_never]
  · rw [stAt_bound, stAt_last (by rw [(mem_good.1 hc).1.1]; omega), wetC_never]
theorem on_damped (hok : okBook ls ds ks = true) {j : Nat} (hj : j < ds.length) : worstF ls ds.length (onF j) (truthsAll ls ds [] []) = (bspan (truthsAll ls (ds.set j (dampDay ds[j])) [] []) (ds.length - 1)).1 := by
  have hn := okBook_nolooks hok
  have hx := (okBook_parts hok).2.2.2.2.1 _ (List.getElem_mem hj)
  have hs := okBook_set hok j (dampDay_ok hx)
  obtain ⟨hi, t⟩ := worst_told hn (truths_nolooks hn) (onF j)
  refine (t.eq (bspan_told hs (truths_nolooks hs) (show ds.length - 1 < (ds.set j (dampDay ds[j])).length by rw [List.length_set]; omega)) (fun c hc => ⟨wetC (onF j) 0 c, good_nil.2 (damp_up hok hj (good_nil.1 hc)), ?_⟩) (fun c' hc' => ?_)).1
  · rw [stAt_bound, stAt_last (by rw [wetC_length, (good_nil.1 hc).1]; omega)]
  · obtain ⟨c, hc, e⟩ := damp_down hok hj (good_nil.1 hc')
    refine ⟨c, good_nil.2 hc, ?_⟩
    rw [stAt_bound, e, stAt_last (by rw [(good_nil.1 hc').1, List.length_set]; omega)]
theorem never_on (hok : okBook ls ds ks = true) (hT : 0 < (truthsAll ls ds ks []).length) (j : Nat) : worstF ls ds.length neverF (truthsAll ls ds ks []) ≤ worstF ls ds.length (onF j) (truthsAll ls ds ks []) := by
  obtain ⟨h1, t1⟩ := worst_told hok hT neverF
  obtain ⟨h2, t2⟩ := worst_told hok hT (onF j)
  have hd := (okBook_parts hok).2.1
  obtain ⟨c, hc, e⟩ := t2.elo
  have a := (t1.all c hc).1
  have hl := leC_wet (at_ := j) (okCh_zero (okBook_parts hok).2.2.2.2.1 (mem_good.1 hc).1)
  have b := leS_bound (stAt_le (ls := ls) hl (ds.length - 1))
  rw [stAt_last (by rw [(mem_good.1 hc).1.1]; omega), stAt_last (by rw [wetC_length, (mem_good.1 hc).1.1]; omega)] at b
  rw [wetC_never] at a
  omega
/-- What Water tells of a road at which nobody looked. -/
theorem best_law (hok : okBook ls ds ks = true) {o : Nat} (ho : o < ds.length) :
    ∃ s t sh th : Int, boundF ls ds [] ((ds.length - 1 : Nat) : Int) = (s, sh, 0) ∧ boundF ls (ds.set o (dampDay ds[o])) [] ((ds.length - 1 : Nat) : Int) = (t, th, 0) ∧ s ≤ t ∧
      ((waterF ls ds [] = (0, 4) ∧ t = s) ∨ ∃ (a : Nat) (ha : a < ds.length) (u uh : Int), waterF ls ds [] = ((a : Int), 0) ∧ boundF ls (ds.set a (dampDay ds[a])) [] ((ds.length - 1 : Nat) : Int) = (u, uh, 0) ∧ s < u ∧ (t < u ∨ (t = u ∧ a ≤ o))) := by
  have hn := okBook_nolooks hok
  have hd := (okBook_parts hok).2.1
  have hT := truths_nolooks hn
  have bd : ∀ (a : Nat) (ha : a < ds.length), ∃ uh : Int, boundF ls (ds.set a (dampDay ds[a])) [] ((ds.length - 1 : Nat) : Int) = (worstF ls ds.length (onF a) (truthsAll ls ds [] []), uh, 0) := by
    intro a ha
    have hs := okBook_set hok a (dampDay_ok ((okBook_parts hok).2.2.2.2.1 _ (List.getElem_mem ha)))
    refine ⟨(bspan (truthsAll ls (ds.set a (dampDay ds[a])) [] []) (ds.length - 1)).2, ?_⟩
    rw [boundF_eq hs (truths_nolooks hs) (show ds.length - 1 < (ds.set a (dampDay ds[a])).length by rw [List.length_set]; omega), on_damped hok ha]
  obtain ⟨th, eo⟩ := bd o ho
  refine ⟨_, _, _, th, boundF_eq hn hT (show ds.length - 1 < ds.length by omega), eo, ?_, ?_⟩
  · rw [← never_low hn hT]
    exact never_on hn hT o
  · rw [← never_low hn hT]
    unfold waterF
    rw [if_pos (askCode_true_zero hn hT)]
    have h0 := never_on hn hT o
    rcases waterBest_law (fun d => worstF ls ds.length (onF d) (truthsAll ls ds [] [])) ds.length 0 (-1, worstF ls ds.length neverF (truthsAll ls ds [] [])) with ⟨e, h1⟩ | ⟨b, e, h1, h2, h3, h4, h5⟩
    · refine .inl ⟨by rw [e]; exact wRes_none (by decide), ?_⟩
      have := h1 o (by omega) (by omega)
      omega
    · have hb : b < ds.length := by omega
      obtain ⟨uh, eb⟩ := bd b hb
      refine .inr ⟨b, hb, _, uh, by rw [e]; exact wRes_some (by omega), eb, h3, ?_⟩
      have q := h4 o (by omega) (by omega)
      try dsimp only at q
      by_cases z : worstF ls ds.length (onF o) (truthsAll ls ds [] []) < worstF ls ds.length (onF b) (truthsAll ls ds [] [])
      · exact .inl z
      · refine .inr ⟨by omega, ?_⟩
        rcases Nat.lt_or_ge o b with y | y
        · exact absurd (h5 o (by omega) y) z
        · exact y
end
end Go.Proofs.YthgjedagbgmgmaaDoor.Pr
namespace Go.Proofs.YthgjedagbgmgmaaDoor.Pr
open Go.RowKit Go.Proofs.YthgjedagbgmgmaaDoorW.PrintWords Go.Proofs.YthgjedagbgmgmaaDoorW.PrintLast Go.Proofs.YthgjedagbgmgmaaDoorW.PrintMore
attribute [local go_sem] max2_int min2_int max_two min_two -- for this text's walks alone
set_option linter.unusedVariables false
set_option linter.unusedSimpArgs false
def macadamref00_In.f (a0 : Int) (a1 : Int) : Option (Bool) := if 0 ≤ a1 then (some ((Go.bits .and .i64 (shr .i64 a0 a1) 1) == 1)) else (none)
set_option maxHeartbeats 8000000 in
set_option maxRecDepth 100000 in
theorem macadamref00_In.calls (a0 : Int) (a1 : Int) (r : Bool) (w : World) (h : macadamref00_In.f a0 a1 = some r) :
    Calls Tryd.prog 61 #[.int .i64 a0, .int .i64 a1] w fun e w' => e = .returned (.bool r) ∧ Drawn0 w w' := by
  have H : (if 0 ≤ a1 then (some ((Go.bits .and .i64 (shr .i64 a0 a1) 1) == 1)) else (none)) = some r := h
  clear h
  by_cases c3 : 0 ≤ a1
  · rw [if_pos c3] at H
    have c3b0 := eq_true c3
    have c3b1 : decide (0 ≤ a1) = true := decide_eq_true c3
    clear c3
    obtain ⟨ji4, hji4⟩ : ∃ j_ : Int, (shr .i64 a0 a1) = j_ := ⟨_, rfl⟩
    replace H : (some ((Go.bits .and .i64 (ji4) 1) == 1)) = some r := by first | (rw [hji4] at H; exact H) | (simp only [hji4] at H ⊢; exact H)
    have hji4_ : (a0 / 2 ^ min a1.toNat 64) = ji4 := hji4
    have hji4z : a1 ≤ 64 → (a0 / 2 ^ a1.toNat) = ji4 := shr_small hji4
    obtain rfl := Option.some.inj H
    go_enter Tryd.func61, Tryd.ntmps61
    go_wp2
    go_ret
    exact ⟨by first | rfl | (simp; done) | (simp only [← hji4] <;> (first | rfl | simp)) | (simp [*]; done), by repeat (first | exact Drawn0.refl _ | apply Drawn0.step)⟩
  · rw [if_neg c3] at H
    exact absurd H (by simp)
end Go.Proofs.YthgjedagbgmgmaaDoor.Pr
namespace Go.Proofs.YthgjedagbgmgmaaDoor.Pr
open Go.RowKit Go.Proofs.YthgjedagbgmgmaaDoorW.PrintWords Go.Proofs.YthgjedagbgmgmaaDoorW.PrintLast Go.Proofs.YthgjedagbgmgmaaDoorW.PrintMore
set_option linter.unusedVariables false
set_option linter.unusedSimpArgs false
theorem frow_to_C {α : Type} {d : Kd α} {enc : α → List Value} {w : World} {A : Option Addr} {xs : List α} (h : FRow enc d.sz w A xs) (hl : ∀ x, (enc x).length = d.sz) (he : ∀ w x, d.K w x (enc x)) (hm : xs.length ≤ 9223372036854775807) : Kd.C d w A xs.length xs := by
  refine ⟨rfl, hm, fun hn => ?_⟩
  rcases h with h | ⟨b, o, e, hlt, hc⟩
  · rw [h] at hn; exact absurd hn (by simp)
  · refine ⟨⟨b, o, none⟩, e, fun i x hx => ⟨enc x, hl x, he w x, fun j v hv => ?_⟩⟩
    have := hc i x hx j v hv
    rw [Addr.add_mid, ← Nat.add_assoc]
    exact this
theorem in_law {s j : Int} (h0 : 0 ≤ s) (h7 : s ≤ 7) (j0 : 0 ≤ j) (j2 : j ≤ 2) : macadamref00_In.f s j = some (hasSky s j.toNat) := by
  have hj : j = 0 ∨ j = 1 ∨ j = 2 := by omega
  rcases hj with rfl | rfl | rfl <;> rcases cases8 h0 h7 with rfl | rfl | rfl | rfl | rfl | rfl | rfl | rfl <;> decide +kernel
theorem in_calls {s j : Int} (h0 : 0 ≤ s) (h7 : s ≤ 7) (j0 : 0 ≤ j) (j2 : j ≤ 2) (w : World) : Calls Tryd.prog 61 #[.int .i64 s, .int .i64 j] w fun e w' => e = .returned (.bool (hasSky s j.toNat)) ∧ Below w.heap.size w w' :=
  (macadamref00_In.calls s j _ w (in_law h0 h7 j0 j2)).mono (by rintro e w' ⟨rfl, hd⟩; exact ⟨rfl, hd.below⟩)
theorem damp_bits {s : Int} (h0 : 0 ≤ s) (h7 : s ≤ 7) (h : hasSky s (0 : Int).toNat = true) : bits BinOp.or IntKind.i64 (bits BinOp.andNot IntKind.i64 s 1) 2 = dampSky s := by
  rcases cases8 h0 h7 with rfl | rfl | rfl | rfl | rfl | rfl | rfl | rfl <;> first | decide +kernel | exact absurd h (by decide)
theorem damp_same {x : S90} (h : hasSky x.f1 (0 : Int).toNat = false) : dampDay x = x := by
  unfold dampDay dampSky
  have : ¬ x.f1 % 2 = 1 := by
    intro e
    unfold hasSky at h
    rw [show (2 : Int) ^ (0 : Int).toNat = 1 by decide, Int.ediv_one, e] at h
    exact absurd h (by decide)
  rw [if_neg this]
theorem frow_grown {α : Type} {enc : α → List Value} {sz : Nat} {W W' : World} {g : Nat} {xs : List α} {row : Option Nat} (h : FRow enc sz W (some ⟨g, 0, none⟩) xs) (hg : W.grownBy W' row) (hne : some g ≠ row) : FRow enc sz W' (some ⟨g, 0, none⟩) xs := by
  rcases h with h | ⟨b, o, e, hlt, hc⟩
  · exact .inl h
  · injection e with e
    injection e with e1 e2
    subst e1
    subst e2
    exact .inr ⟨g, 0, rfl, Nat.lt_of_lt_of_le hlt hg.size, fun i x hx j v hv => (World.cell?_of_block (hg.block g hlt hne)).trans (hc i x hx j v hv)⟩
theorem g_below {W W' : World} (h : Below W.heap.size W W') : W.grownBy W' none := ⟨h.os, h.tape, h.output, h.size, fun k hk _ => h.block k hk⟩
theorem frow_put {α : Type} {enc : α → List Value} {sz : Nat} (hl : ∀ x, (enc x).length = sz) {W : World} {g : Nat} {cells : Array Value} {t : TypeId} (hb : W.heap[g]? = some (.cells cells t (0, 0))) {xs : List α} (h : FRow enc sz W (some ⟨g, 0, none⟩) xs) {d : Nat} (hd : d < xs.length) {j : Nat} (hj : j < sz) {y : α} {u : Value} (hy : enc y = (enc xs[d]).set j u) : FRow enc sz (W.setCell ⟨g, d * sz + j, none⟩ u) (some ⟨g, 0, none⟩) (xs.set d y) := by
  rcases h with rfl | ⟨b, o, e, hlt, hc⟩
  · simp at hd
  · injection e with e
    injection e with e1 e2
    subst e1
    subst e2
    have old : ∀ i x, xs[i]? = some x → ∀ k v, (enc x)[k]? = some v → cells[0 + i * sz + k]? = some v := by
      intro i x hx k v hv
      have := hc i x hx k v hv
      rwa [blk_cell hb] at this
    refine .inr ⟨g, 0, rfl, by simpa using hlt, fun i x hx k v hv => ?_⟩
    have hk : k < sz := by
      have := (List.getElem?_eq_some_iff.1 hv).1
      rwa [hl] at this
    rw [blk_cell (blk_set hb (d * sz + j) u), Array.getElem?_setIfInBounds]
    have hxd := old d xs[d] (List.getElem?_eq_getElem hd)
    by_cases e : i = d
    · subst e
      rw [List.getElem?_set_self hd] at hx
      obtain rfl := Option.some.inj hx
      rw [hy] at hv
      by_cases ej : k = j
      · subst ej
        have hlj : k < (enc xs[i]).length := by rw [hl]; exact hk
        rw [List.getElem?_set_self hlj] at hv
        have hin := hxd k _ (List.getElem?_eq_getElem hlj)
        rw [Nat.zero_add] at hin ⊢
        rw [if_pos rfl, if_pos (Array.getElem?_eq_some_iff.1 hin).1]
        exact hv
      · rw [List.getElem?_set_ne (fun q => ej q.symm)] at hv
        rw [if_neg (by omega)]
        exact hxd k v hv
    · have hne : ¬ d * sz + j = 0 + i * sz + k := by
        rcases Nat.lt_or_gt_of_ne e with q | q
        · have : (i + 1) * sz ≤ d * sz := Nat.mul_le_mul_right _ q
          rw [Nat.succ_mul] at this
          omega
        · have : (d + 1) * sz ≤ i * sz := Nat.mul_le_mul_right _ q
          rw [Nat.succ_mul] at this
          omega
      rw [if_neg hne]
      rw [List.getElem?_set_ne (fun q => e q.symm)] at hx
      exact old i x hx k v hv
theorem g_refl (W : World) (row : Option Nat) : W.grownBy W row := ⟨rfl, rfl, rfl, Nat.le_refl _, fun _ _ _ => rfl⟩
theorem g_all {W W' : World} {row : Option Nat} (h : W.grownBy W' row) (o : Obj) : W.grownBy (W'.alloc o) row := h.trans (World.grownBy_alloc W' o row)
theorem g_put {W W' : World} {g : Nat} (h : W.grownBy W' (some g)) (j : Nat) (u : Value) : W.grownBy (W'.setCell ⟨g, j, none⟩ u) (some g) :=
  ⟨h.os, h.tape, h.output, (show (W'.setCell ⟨g, j, none⟩ u).heap.size = W'.heap.size by simp) ▸ h.size, fun k hk hne => (Below.heap_setCell W' ⟨g, j, none⟩ u k (fun e => hne (by rw [e]))).trans (h.block k hk hne)⟩
theorem own_row_typed {α : Type} {d : Kd α} {e : Nat} {W : World} {base : Nat} {ok : Nat → Prop} {v : Value} {xs : List α} (h : Kd.R d e W base ok v xs) (g : Nat) (hg : v.ownBlock = some g) : ∃ cells, W.heap[g]? = some (.cells cells e (0, 0)) := by
  obtain ⟨_, inner, ho, _⟩ := h
  exact own_typed ho g hg
theorem own_ne {α : Type} {d : Kd α} {e : Nat} {W : World} {base : Nat} {ok : Nat → Prop} {v : Value} {xs : List α} (h : Kd.R d e W base ok v xs) {g : Nat} {cs : Array Value} {t : TypeId} (hb : W.heap[g]? = some (.cells cs t (0, 0))) (ht : t ≠ e) : some g ≠ v.ownBlock := by
  intro q
  obtain ⟨cells, hc⟩ := own_row_typed h g q.symm
  rw [hb] at hc
  injection hc with hc
  injection hc with _ hc _
  exact ht hc
theorem R_typed_grown {α : Type} {d : Kd α} {e : Nat} {W W' : World} {base : Nat} {ok : Nat → Prop} {v : Value} {xs : List α} {row : Option Nat} (h : Kd.R d e W base ok v xs) (hg : W.grownBy W' row) (hrow : ∀ g, row = some g → ∃ cells t, W.heap[g]? = some (.cells cells t (0, 0)) ∧ ∀ q, q ∈ e :: d.E → q ≠ t) : Kd.R d e W' base ok v xs := by
  cases row with
  | none => exact Kd.R_step h fun k _ hk => hg.block k hk (by simp)
  | some g =>
    obtain ⟨cells, t, hb, ht⟩ := hrow g rfl
    exact Kd.R_mono (Kd.R_step (Kd.R_types h hb ht) fun k hk hlt => hg.block k hlt (fun q => hk.2 (Option.some.inj q))) (fun _ hk => hk.1)
set_option maxHeartbeats 2000000 in
set_option maxRecDepth 100000 in
theorem damped_calls (A0 A1 A2 : Option Addr) (n0 n2 c0 c1 c2 : Nat) (l1 : List S90) (d : Nat) (hd : d < l1.length) (hx : okDay l1[d] = true) (h5 : l1.length ≤ 5) (w : World) (hr1 : Kd.C k90 w A1 l1.length l1) (hc1 : l1.length ≤ c1) :
    Calls Tryd.prog 66 #[.agg #[.slice A0 n0 c0, .slice A1 l1.length c1, .slice A2 n2 c2], .int .i64 (d : Int)] w fun e w' => ∃ A c, e = .returned (.agg #[.slice A0 n0 c0, .slice A l1.length c, .slice none 0 0]) ∧ Kd.C k90 w' A l1.length (l1.set d (dampDay l1[d])) ∧ l1.length ≤ c ∧ Below w.heap.size w w' := by
  have HR1 := Lib.hid hr1
  obtain ⟨b, o, rfl, hbl, x0, x1, x2⟩ := at90 (row90 hr1) d hd
  have HX2 := Lib.hid x2
  obtain ⟨sky, hsky⟩ : ∃ s, s = l1[d].f1 := ⟨_, rfl⟩
  rw [← hsky] at HX2
  have HSKY := Lib.hid hsky
  have HSB : Hid (0 ≤ sky ∧ sky ≤ 7) := Lib.hid (by rw [hsky]; unfold okDay at hx; simp only [Bool.and_eq_true, decide_eq_true_eq] at hx; omega)
  clear hr1 x0 x1 x2 hsky
  go_enter Tryd.func66, Tryd.ntmps66
  have HB := Lib.hid (Below.refl w.heap.size w)
  go_upto_region 3 with fail
  obtain ⟨W1, hnw⟩ : ∃ W, W = (((w.alloc (.cells #[.slice A0 n0 c0, .slice (some ⟨b, o, none⟩) l1.length c1, .slice A2 n2 c2] 26)).alloc (.cells #[.slice none 0 0, .slice none 0 0, .slice none 0 0] 26)).alloc (.cells #[.slice A0 n0 c0, .slice (some ⟨b, o, none⟩) l1.length c1, .slice none 0 0] 26)) := ⟨_, rfl⟩
  rw [← hnw]
  have hg : w.grownBy W1 (none) := by rw [hnw]; exact (g_all (g_all (g_all (g_refl w (none)) (.cells #[.slice A0 n0 c0, .slice (some ⟨b, o, none⟩) l1.length c1, .slice A2 n2 c2] 26)) (.cells #[.slice none 0 0, .slice none 0 0, .slice none 0 0] 26)) (.cells #[.slice A0 n0 c0, .slice (some ⟨b, o, none⟩) l1.length c1, .slice none 0 0] 26))
  have HK := Lib.hid (show W1.heap[w.heap.size]? = some (.cells #[.slice A0 n0 c0, .slice (some ⟨b, o, none⟩) l1.length c1, .slice A2 n2 c2] 26 (0, 0)) by rw [hnw]; exact blk_alloc (blk_alloc (blk_at w (.cells #[.slice A0 n0 c0, .slice (some ⟨b, o, none⟩) l1.length c1, .slice A2 n2 c2] 26) _ (by simp)) (.cells #[.slice none 0 0, .slice none 0 0, .slice none 0 0] 26)) (.cells #[.slice A0 n0 c0, .slice (some ⟨b, o, none⟩) l1.length c1, .slice none 0 0] 26))
  have HZ := Lib.hid (show W1.heap[w.heap.size + 1]? = some (.cells #[.slice none 0 0, .slice none 0 0, .slice none 0 0] 26 (0, 0)) by rw [hnw]; exact blk_alloc (blk_at (w.alloc (.cells #[.slice A0 n0 c0, .slice (some ⟨b, o, none⟩) l1.length c1, .slice A2 n2 c2] 26)) (.cells #[.slice none 0 0, .slice none 0 0, .slice none 0 0] 26) _ (by simp)) (.cells #[.slice A0 n0 c0, .slice (some ⟨b, o, none⟩) l1.length c1, .slice none 0 0] 26))
  have HX := Lib.hid (show W1.heap[w.heap.size + 1 + 1]? = some (.cells #[.slice A0 n0 c0, .slice (some ⟨b, o, none⟩) l1.length c1, .slice none 0 0] 26 (0, 0)) by rw [hnw]; exact blk_at ((w.alloc (.cells #[.slice A0 n0 c0, .slice (some ⟨b, o, none⟩) l1.length c1, .slice A2 n2 c2] 26)).alloc (.cells #[.slice none 0 0, .slice none 0 0, .slice none 0 0] 26)) (.cells #[.slice A0 n0 c0, .slice (some ⟨b, o, none⟩) l1.length c1, .slice none 0 0] 26) _ (by simp))
  have HBn := Lib.hid (HB.out.grown hg HB.out.size (fun k e => by cases e))
  clear HB
  have HB := HBn
  clear HBn
  clear hg hnw
  have cK_0 := (blk_cell HK.out 0).trans rfl
  have cK_1 := (blk_cell HK.out 1).trans rfl
  have cK_2 := (blk_cell HK.out 2).trans rfl
  have lK := blk_lt HK.out
  have cZ_0 := (blk_cell HZ.out 0).trans rfl
  have cZ_1 := (blk_cell HZ.out 1).trans rfl
  have cZ_2 := (blk_cell HZ.out 2).trans rfl
  have lZ := blk_lt HZ.out
  have cX_0 := (blk_cell HX.out 0).trans rfl
  have cX_1 := (blk_cell HX.out 1).trans rfl
  have cX_2 := (blk_cell HX.out 2).trans rfl
  have lX := blk_lt HX.out
  go_upto_region 4 with (first | ((with_reducible refine gate_dst (N := 9) rfl ?_); refine Kd.R_lit k90 (w0 := w) w.heap.size 90 ?hg (N := 9) ?hd (xs := ([] : List S90)) (inner := []) (ok := fun _ => True) (okp := fun _ => True) ?hr ?hp (fun _ hk => hk) trivial HB.out HB.out.size (by simp) ?_; (case hd => rfl); (case hg => rfl); (case hr => first | (go_simp; done) | (go_simp; rfl)); (case hp => exact (Reps.none _ _)); intro va W2 ho hb hg hnew_; clear hnew_; clear cK_0 cK_1 cK_2 lK cZ_0 cZ_1 cZ_2 lZ cX_0 cX_1 cX_2 lX; have HKn := Lib.hid (blk_grown HK.out hg (by simp)); clear HK; have HK := HKn; clear HKn; have HZn := Lib.hid (blk_grown HZ.out hg (by simp)); clear HZ; have HZ := HZn; clear HZn; have HXn := Lib.hid (blk_grown HX.out hg (by simp)); clear HX; have HX := HXn; clear HXn; have HBn := Lib.hid (hb); clear HB; have HB := HBn; clear HBn; have Ra := Lib.hid ho; clear ho hb hg; have cK_0 := (blk_cell HK.out 0).trans rfl; have cK_1 := (blk_cell HK.out 1).trans rfl; have cK_2 := (blk_cell HK.out 2).trans rfl; have lK := blk_lt HK.out; have cZ_0 := (blk_cell HZ.out 0).trans rfl; have cZ_1 := (blk_cell HZ.out 1).trans rfl; have cZ_2 := (blk_cell HZ.out 2).trans rfl; have lZ := blk_lt HZ.out; have cX_0 := (blk_cell HX.out 0).trans rfl; have cX_1 := (blk_cell HX.out 1).trans rfl; have cX_2 := (blk_cell HX.out 2).trans rfl; have lX := blk_lt HX.out) | ((with_reducible refine gate_builtin (b := .append) (xs := #[.tmp 9, .tmp 11]) rfl ?_); at_builtin; refine Kd.R_append_rows k90 (w0 := w) w.heap.size rfl (.tmp 9) (.tmp 11) 23 90 (.agg #[.int .i64 0, .int .i64 0, .int .i64 0]) 24 rfl Tryd.underlying23 info90 rfl (by decide) (by omega) va [] l1 _ _ _ (fun _ => True) (fun _ => False) rfl rfl Ra.out (Kd.C_below HR1.out HB.out) (fun x_ cs_ h_ => by rw [k90_open h_]; exact k90_mkM _ _ _ _) (fun _ h => h.elim) (fun _ _ => trivial) HB.out HB.out.size (by simp only [List.length_nil]; omega) ?_; intro vb W3 ho hb hg hat; clear cK_0 cK_1 cK_2 lK cZ_0 cZ_1 cZ_2 lZ cX_0 cX_1 cX_2 lX; have HKn := Lib.hid (blk_grown HK.out hg (own_ne Ra.out HK.out (by decide))); clear HK; have HK := HKn; clear HKn; have HZn := Lib.hid (blk_grown HZ.out hg (own_ne Ra.out HZ.out (by decide))); clear HZ; have HZ := HZn; clear HZn; have HXn := Lib.hid (blk_grown HX.out hg (own_ne Ra.out HX.out (by decide))); clear HX; have HX := HXn; clear HXn; have HBn := Lib.hid (hb); clear HB; have HB := HBn; clear HBn; clear Ra; rw [List.nil_append] at ho; have Rb := Lib.hid ho; clear ho hb hg hat; obtain ⟨Ab, cb, eb⟩ := Kd.R_slice Rb.out; subst eb; have cK_0 := (blk_cell HK.out 0).trans rfl; have cK_1 := (blk_cell HK.out 1).trans rfl; have cK_2 := (blk_cell HK.out 2).trans rfl; have lK := blk_lt HK.out; have cZ_0 := (blk_cell HZ.out 0).trans rfl; have cZ_1 := (blk_cell HZ.out 1).trans rfl; have cZ_2 := (blk_cell HZ.out 2).trans rfl; have lZ := blk_lt HZ.out; have cX_0 := (blk_cell HX.out 0).trans rfl; have cX_1 := (blk_cell HX.out 1).trans rfl; have cX_2 := (blk_cell HX.out 2).trans rfl; have fX_0 := blk_frozen HX.out 0; have fX_1 := blk_frozen HX.out 1; have fX_2 := blk_frozen HX.out 2; have lX := blk_lt HX.out))
  clear cK_0 cK_1 cK_2 lK cZ_0 cZ_1 cZ_2 lZ cX_0 cX_1 cX_2 fX_0 fX_1 fX_2 lX
  obtain ⟨W4, hnw⟩ : ∃ W, W = (W3.setCell ⟨w.heap.size + 1 + 1, 1, none⟩ (.slice Ab l1.length cb)) := ⟨_, rfl⟩
  rw [← hnw]
  have hg : W3.grownBy W4 (some (w.heap.size + 1 + 1)) := by rw [hnw]; exact (g_put (g_refl W3 (some (w.heap.size + 1 + 1))) 1 (.slice Ab l1.length cb))
  have HXq := Lib.hid (show W4.heap[w.heap.size + 1 + 1]? = some (.cells #[.slice A0 n0 c0, .slice Ab l1.length cb, .slice none 0 0] 26 (0, 0)) by rw [hnw]; exact blk_put (HX.out) 1 (.slice Ab l1.length cb) rfl)
  have HOLD := HX
  have HKn := Lib.hid (blk_grown HK.out hg (fun e => by injection e with e; omega))
  clear HK
  have HK := HKn
  clear HKn
  have HZn := Lib.hid (blk_grown HZ.out hg (fun e => by injection e with e; omega))
  clear HZ
  have HZ := HZn
  clear HZn
  have Rbn := Lib.hid (R_typed_grown Rb.out hg (fun g e => by injection e with e; subst e; exact ⟨_, _, HOLD.out, by decide⟩))
  clear Rb
  have Rb := Rbn
  clear Rbn
  clear HOLD
  clear HX
  have HX := HXq
  clear HXq
  have HBn := Lib.hid (HB.out.grown hg HB.out.size (fun k e => by injection e with e; have := HB.out.size; omega))
  clear HB
  have HB := HBn
  clear HBn
  clear hg hnw
  obtain ⟨g, cap, eg, hbg, hlg, cs90, hcg⟩ := Kd.R_form Rb.out (by omega)
  injection eg with e1 e2 e3
  subst e1 e3
  clear e2
  have y2 := (HB.out.cell (p := ⟨b, o + d * 3 + 2, none⟩) hbl).trans HX2.out
  have cK_0 := (blk_cell HK.out 0).trans rfl
  have cK_1 := (blk_cell HK.out 1).trans rfl
  have cK_2 := (blk_cell HK.out 2).trans rfl
  have lK := blk_lt HK.out
  have cZ_0 := (blk_cell HZ.out 0).trans rfl
  have cZ_1 := (blk_cell HZ.out 1).trans rfl
  have cZ_2 := (blk_cell HZ.out 2).trans rfl
  have lZ := blk_lt HZ.out
  have cX_0 := (blk_cell HX.out 0).trans rfl
  have cX_1 := (blk_cell HX.out 1).trans rfl
  have cX_2 := (blk_cell HX.out 2).trans rfl
  have lX := blk_lt HX.out
  go_upto_region 5 with fail
  clear cK_0 cK_1 cK_2 lK cZ_0 cZ_1 cZ_2 lZ cX_0 cX_1 cX_2 lX
  have HG := Lib.hid hcg
  have HLG : Hid (∀ W, W4.grownBy W none → g < W.heap.size) := Lib.hid fun W h => Nat.lt_of_lt_of_le hlg h.size
  have HBG := Lib.hid hbg
  have HCB := Lib.hid (Kd.R_reads' Rb.out).2.1
  clear hcg
  go_wp2_with fail
  refine (in_calls HSB.out.1 HSB.out.2 (show (0 : Int) ≤ 0 by decide) (show (0 : Int) ≤ 2 by decide) _).mono ?_
  rintro e W5 ⟨rfl, hb⟩
  have hg := g_below hb
  have HKn := Lib.hid (blk_grown HK.out hg (by simp))
  clear HK
  have HK := HKn
  clear HKn
  have HZn := Lib.hid (blk_grown HZ.out hg (by simp))
  clear HZ
  have HZ := HZn
  clear HZn
  have HXn := Lib.hid (blk_grown HX.out hg (by simp))
  clear HX
  have HX := HXn
  clear HXn
  have HGn := Lib.hid (blk_grown HG.out hg (by simp))
  clear HG
  have HG := HGn
  clear HGn
  have Rbn := Lib.hid (R_typed_grown Rb.out hg (fun g e => by cases e))
  clear Rb
  have Rb := Rbn
  clear Rbn
  have HBn := Lib.hid (HB.out.trans (below_weaken hb HB.out.size))
  clear HB
  have HB := HBn
  clear HBn
  clear hb hg
  have cK_0 := (blk_cell HK.out 0).trans rfl
  have cK_1 := (blk_cell HK.out 1).trans rfl
  have cK_2 := (blk_cell HK.out 2).trans rfl
  have lK := blk_lt HK.out
  have cZ_0 := (blk_cell HZ.out 0).trans rfl
  have cZ_1 := (blk_cell HZ.out 1).trans rfl
  have cZ_2 := (blk_cell HZ.out 2).trans rfl
  have lZ := blk_lt HZ.out
  have cX_0 := (blk_cell HX.out 0).trans rfl
  have cX_1 := (blk_cell HX.out 1).trans rfl
  have cX_2 := (blk_cell HX.out 2).trans rfl
  have lX := blk_lt HX.out
  cases hq : hasSky sky (0 : Int).toNat with
  | true =>
    have hbits := damp_bits HSB.out.1 HSB.out.2 hq
    obtain ⟨_, _, ea, _, _, _, yg⟩ := at90 (row90 (Kd.R_reads' Rb.out).2.2) d hd
    injection ea with ea
    injection ea with ea1 ea2
    subst ea1 ea2
    rw [← HSKY.out] at yg
    rw [Nat.zero_add] at yg
    have fg := blk_frozen HG.out (d * 3 + 2)
    have lg := blk_lt HG.out
    go_upto_region 7 with fail
    have hff := frow_put (enc := e90) (sz := 3) (fun _ => rfl) HG.out (row90 (Kd.R_reads' Rb.out).2.2) hd (j := 2) (by decide) (y := dampDay l1[d]) (u := .int .i64 (dampSky sky)) (by rw [HSKY.out]; rfl)
    clear yg fg lg hbits
    clear cK_0 cK_1 cK_2 lK cZ_0 cZ_1 cZ_2 lZ cX_0 cX_1 cX_2 lX
    obtain ⟨W9, hnw⟩ : ∃ W, W = W5.setCell ⟨g, d * 3 + 2, none⟩ (.int .i64 (dampSky sky)) := ⟨_, rfl⟩
    rw [← hnw]
    rw [← hnw] at hff
    have hg : W5.grownBy W9 (some g) := by rw [hnw]; exact g_put (g_refl _ _) _ _
    have HGn := Lib.hid (show W9.heap[g]? = some (.cells _ 90 (0, 0)) by rw [hnw]; exact blk_set HG.out _ _)
    have HKn := Lib.hid (blk_grown HK.out hg (fun e => absurd (Option.some.inj e) (blk_ne HK.out HG.out (by decide))))
    clear HK
    have HK := HKn
    clear HKn
    have HZn := Lib.hid (blk_grown HZ.out hg (fun e => absurd (Option.some.inj e) (blk_ne HZ.out HG.out (by decide))))
    clear HZ
    have HZ := HZn
    clear HZn
    have HXn := Lib.hid (blk_grown HX.out hg (fun e => absurd (Option.some.inj e) (blk_ne HX.out HG.out (by decide))))
    clear HX
    have HX := HXn
    clear HXn
    clear HG
    have HG := HGn
    clear HGn
    have HBn := Lib.hid (HB.out.grown hg HB.out.size (fun k e => by injection e with e; subst e; exact HBG.out))
    clear HB
    have HB := HBn
    clear HBn
    clear hg hnw Rb
    have HF := Lib.hid hff
    clear hff
    have cK_0 := (blk_cell HK.out 0).trans rfl
    have cK_1 := (blk_cell HK.out 1).trans rfl
    have cK_2 := (blk_cell HK.out 2).trans rfl
    have lK := blk_lt HK.out
    have cZ_0 := (blk_cell HZ.out 0).trans rfl
    have cZ_1 := (blk_cell HZ.out 1).trans rfl
    have cZ_2 := (blk_cell HZ.out 2).trans rfl
    have fZ_0 := blk_frozen HZ.out 0
    have fZ_1 := blk_frozen HZ.out 1
    have fZ_2 := blk_frozen HZ.out 2
    have lZ := blk_lt HZ.out
    have cX_0 := (blk_cell HX.out 0).trans rfl
    have cX_1 := (blk_cell HX.out 1).trans rfl
    have cX_2 := (blk_cell HX.out 2).trans rfl
    have lX := blk_lt HX.out
    go_wp2
    have hz := blk_put (blk_put (blk_put HZ.out 0 (.slice A0 n0 c0) rfl) 1 (.slice (some ⟨g, 0, none⟩) l1.length cb) rfl) 2 (.slice none 0 0) rfl
    have hg := g_put (g_put (g_put (g_refl W9 (some (w.heap.size + 1))) 0 (.slice A0 n0 c0)) 1 (.slice (some ⟨g, 0, none⟩) l1.length cb)) 2 (.slice none 0 0)
    have hne : some g ≠ some (w.heap.size + 1) := fun e => absurd (Option.some.inj e) (blk_ne HG.out HZ.out (by decide))
    refine bodyPost_ret (results_cell_row rfl _ _ (w.heap.size + 1) 26 #[.slice A0 n0 c0, .slice (some ⟨g, 0, none⟩) l1.length cb, .slice none 0 0] (0, 0) _ rfl hz Tryd.underlying26 rfl (by kernel_rfl)) rfl ⟨_, _, rfl, ?_, HCB.out, ?_⟩
    · have hf := frow_to_C (d := k90) (frow_grown HF.out hg hne) (fun _ => rfl) (fun w x => k90_mk w x) (by simp; omega)
      rwa [List.length_set] at hf
    · exact HB.out.grown hg HB.out.size (fun k e => by injection e with e; have := HB.out.size; omega)

  | false =>
    have HF : Hid (FRow e90 3 W5 (some ⟨g, 0, none⟩) (l1.set d (dampDay l1[d]))) := Lib.hid (by rw [damp_same (by rw [← HSKY.out]; exact hq), List.set_getElem_self]; exact row90 (Kd.R_reads' Rb.out).2.2)
    clear cK_0 cK_1 cK_2 lK cZ_0 cZ_1 cZ_2 lZ cX_0 cX_1 cX_2 lX
    have cK_0 := (blk_cell HK.out 0).trans rfl
    have cK_1 := (blk_cell HK.out 1).trans rfl
    have cK_2 := (blk_cell HK.out 2).trans rfl
    have lK := blk_lt HK.out
    have cZ_0 := (blk_cell HZ.out 0).trans rfl
    have cZ_1 := (blk_cell HZ.out 1).trans rfl
    have cZ_2 := (blk_cell HZ.out 2).trans rfl
    have fZ_0 := blk_frozen HZ.out 0
    have fZ_1 := blk_frozen HZ.out 1
    have fZ_2 := blk_frozen HZ.out 2
    have lZ := blk_lt HZ.out
    have cX_0 := (blk_cell HX.out 0).trans rfl
    have cX_1 := (blk_cell HX.out 1).trans rfl
    have cX_2 := (blk_cell HX.out 2).trans rfl
    have lX := blk_lt HX.out
    go_wp2
    have hz := blk_put (blk_put (blk_put HZ.out 0 (.slice A0 n0 c0) rfl) 1 (.slice (some ⟨g, 0, none⟩) l1.length cb) rfl) 2 (.slice none 0 0) rfl
    have hg := g_put (g_put (g_put (g_refl W5 (some (w.heap.size + 1))) 0 (.slice A0 n0 c0)) 1 (.slice (some ⟨g, 0, none⟩) l1.length cb)) 2 (.slice none 0 0)
    have hne : some g ≠ some (w.heap.size + 1) := fun e => absurd (Option.some.inj e) (blk_ne HG.out HZ.out (by decide))
    refine bodyPost_ret (results_cell_row rfl _ _ (w.heap.size + 1) 26 #[.slice A0 n0 c0, .slice (some ⟨g, 0, none⟩) l1.length cb, .slice none 0 0] (0, 0) _ rfl hz Tryd.underlying26 rfl (by kernel_rfl)) rfl ⟨_, _, rfl, ?_, HCB.out, ?_⟩
    · have hf := frow_to_C (d := k90) (frow_grown HF.out hg hne) (fun _ => rfl) (fun w x => k90_mk w x) (by simp; omega)
      rwa [List.length_set] at hf
    · exact HB.out.grown hg HB.out.size (fun k e => by injection e with e; have := HB.out.size; omega)
end Go.Proofs.YthgjedagbgmgmaaDoor.Pr
namespace Go.Proofs.YthgjedagbgmgmaaDoor.Pr
open Go.RowKit Go.Proofs.YthgjedagbgmgmaaDoorW.PrintWords Go.Proofs.YthgjedagbgmgmaaDoorW.PrintLast Go.Proofs.YthgjedagbgmgmaaDoorW.PrintMore
set_option linter.unusedVariables false
set_option linter.unusedSimpArgs false
set_option maxHeartbeats 8000000 in
set_option maxRecDepth 100000 in
theorem best_none (A0 A1 A2 : Option Addr) (c0 c1 c2 : Nat) (l0 : List S92) (l1 : List S90) (l2 : List S43) (n : Int) (w : World) (HSO : Hid (∀ W, Below w.heap.size w W → Calls Tryd.prog 56 #[.agg #[.slice A0 l0.length c0, .slice A1 l1.length c1, .slice A2 l2.length c2]] W fun e w' => e = .returned (.bool false) ∧ Below W.heap.size W w')) (HRO : Hid (∀ W, Below w.heap.size w W → Calls Tryd.prog 27 #[] W fun e w' => e = .returned (.bool true) ∧ Below W.heap.size W w')) :
    Calls Tryd.prog 13 #[.agg #[.slice A0 l0.length c0, .slice A1 l1.length c1, .slice A2 l2.length c2], .int .i64 n] w fun e w' => e = .returned (.bool true) ∧ Below w.heap.size w w' := by
  go_enter Tryd.func13, Tryd.ntmps13
  have HB0 := Lib.hid (Below.refl w.heap.size w)
  go_wp2_with fail
  refine (HSO.out _ (HB0.out.alloc HB0.out.size (.cells #[.slice A0 l0.length c0, .slice A1 l1.length c1, .slice A2 l2.length c2] 26))).mono ?_
  rintro e w1 ⟨rfl, hb⟩
  have HKn := Lib.hid (show w1.heap[w.heap.size]? = some (.cells #[.slice A0 l0.length c0, .slice A1 l1.length c1, .slice A2 l2.length c2] 26 (0, 0)) from blk_below (blk_new w (.cells #[.slice A0 l0.length c0, .slice A1 l1.length c1, .slice A2 l2.length c2] 26)) hb)
  have HK := HKn
  clear HKn
  have HB1 := Lib.hid ((HB0.out.alloc HB0.out.size (.cells #[.slice A0 l0.length c0, .slice A1 l1.length c1, .slice A2 l2.length c2] 26)).trans (below_weaken hb (HB0.out.alloc HB0.out.size (.cells #[.slice A0 l0.length c0, .slice A1 l1.length c1, .slice A2 l2.length c2] 26)).size))
  clear hb
  have cK_0 := (blk_cell HK.out 0).trans rfl
  have cK_1 := (blk_cell HK.out 1).trans rfl
  have cK_2 := (blk_cell HK.out 2).trans rfl
  have lK := blk_lt HK.out
  go_wp2_with fail
  clear cK_0 cK_1 cK_2 lK
  refine (HRO.out _ HB1.out).mono ?_
  rintro e w2 ⟨rfl, hb⟩
  have HKn := Lib.hid (show w2.heap[w.heap.size]? = some (.cells #[.slice A0 l0.length c0, .slice A1 l1.length c1, .slice A2 l2.length c2] 26 (0, 0)) from blk_below HK.out hb)
  clear HK
  have HK := HKn
  clear HKn
  have HB2 := Lib.hid (HB1.out.trans (below_weaken hb HB1.out.size))
  clear hb
  have cK_0 := (blk_cell HK.out 0).trans rfl
  have cK_1 := (blk_cell HK.out 1).trans rfl
  have cK_2 := (blk_cell HK.out 2).trans rfl
  have lK := blk_lt HK.out
  go_wp2
  go_ret
  exact ⟨ret_true (by first | rfl | (simp; done) | (simp; omega)), HB2.out⟩
set_option maxHeartbeats 8000000 in
set_option maxRecDepth 100000 in
theorem best_walk (A0 A1 A2 : Option Addr) (c0 c1 c2 : Nat) (l0 : List S92) (l1 : List S90) (l2 : List S43) (n : Int) (w : World) (last o : Nat) (at_ er s sh t th : Int) (hl5 : (last : Int) ≤ 4) (ho5 : (o : Int) ≤ 4) (hlast : IntKind.i64.wrap ((l1.length : Int) - 1) = (last : Int)) (hl1 : (l1.length : Int) ≤ 5) (hst : s ≤ t) (HSO : Hid (∀ W, Below w.heap.size w W → Calls Tryd.prog 56 #[.agg #[.slice A0 l0.length c0, .slice A1 l1.length c1, .slice A2 l2.length c2]] W fun e w' => e = .returned (.bool true) ∧ Below W.heap.size W w')) (HRO : Hid (∀ W, Below w.heap.size w W → Calls Tryd.prog 27 #[] W fun e w' => e = .returned (.bool true) ∧ Below W.heap.size W w')) (HWR : Hid (∀ W, Calls Tryd.prog 47 #[.int .i64 n, .int .i64 (l1.length : Int)] W fun e w' => e = .returned (.int .i64 (o : Int)) ∧ Below W.heap.size W w')) (HWA : Hid (∀ W, Below w.heap.size w W → Calls Tryd.prog 36 #[.agg #[.slice A0 l0.length c0, .slice A1 l1.length c1, .slice none 0 0]] W fun e w' => e = .returned (.tuple #[.int .i64 at_, .int .i64 er]) ∧ Below W.heap.size W w')) (HBS : Hid (∀ W, Below w.heap.size w W → Calls Tryd.prog 21 #[.agg #[.slice A0 l0.length c0, .slice A1 l1.length c1, .slice none 0 0], .int .i64 (last : Int)] W fun e w' => e = .returned (.tuple #[.agg #[.int .i64 s, .int .i64 sh], .int .i64 0]) ∧ Below W.heap.size W w')) (HDO : Hid (∀ W, Below w.heap.size w W → Calls Tryd.prog 66 #[.agg #[.slice A0 l0.length c0, .slice A1 l1.length c1, .slice none 0 0], .int .i64 (o : Int)] W fun e w' => ∃ A c, e = .returned (.agg #[.slice A0 l0.length c0, .slice A l1.length c, .slice none 0 0]) ∧ Hid (Calls Tryd.prog 21 #[.agg #[.slice A0 l0.length c0, .slice A l1.length c, .slice none 0 0], .int .i64 (last : Int)] w' fun e w'' => e = .returned (.tuple #[.agg #[.int .i64 t, .int .i64 th], .int .i64 0]) ∧ Below w'.heap.size w' w'') ∧ Below W.heap.size W w'))
    (HC : Hid ((er = 4 ∧ at_ = 0 ∧ t = s) ∨ (er = 0 ∧ ∃ (a : Nat) (u uh : Int), at_ = (a : Int) ∧ Hid (∀ W, Calls Tryd.prog 60 #[.int .i64 (a : Int), .int .i64 0, .int .i64 (last : Int)] W fun e w' => e = .returned (.bool true) ∧ Below W.heap.size W w') ∧ Hid (∀ W, Below w.heap.size w W → Calls Tryd.prog 66 #[.agg #[.slice A0 l0.length c0, .slice A1 l1.length c1, .slice none 0 0], .int .i64 (a : Int)] W fun e w' => ∃ A c, e = .returned (.agg #[.slice A0 l0.length c0, .slice A l1.length c, .slice none 0 0]) ∧ Hid (Calls Tryd.prog 21 #[.agg #[.slice A0 l0.length c0, .slice A l1.length c, .slice none 0 0], .int .i64 (last : Int)] w' fun e w'' => e = .returned (.tuple #[.agg #[.int .i64 u, .int .i64 uh], .int .i64 0]) ∧ Below w'.heap.size w' w'') ∧ Below W.heap.size W w') ∧ s < u ∧ (t < u ∨ (t = u ∧ (a : Int) ≤ (o : Int)))))) :
    Calls Tryd.prog 13 #[.agg #[.slice A0 l0.length c0, .slice A1 l1.length c1, .slice A2 l2.length c2], .int .i64 n] w fun e w' => e = .returned (.bool true) ∧ Below w.heap.size w w' := by
  go_enter Tryd.func13, Tryd.ntmps13
  have HB0 := Lib.hid (Below.refl w.heap.size w)
  go_wp2_with fail
  refine (HSO.out _ (HB0.out.alloc HB0.out.size (.cells #[.slice A0 l0.length c0, .slice A1 l1.length c1, .slice A2 l2.length c2] 26))).mono ?_
  rintro e w1 ⟨rfl, hb⟩
  have HKn := Lib.hid (show w1.heap[w.heap.size]? = some (.cells #[.slice A0 l0.length c0, .slice A1 l1.length c1, .slice A2 l2.length c2] 26 (0, 0)) from blk_below (blk_new w (.cells #[.slice A0 l0.length c0, .slice A1 l1.length c1, .slice A2 l2.length c2] 26)) hb)
  have HK := HKn
  clear HKn
  have HB1 := Lib.hid ((HB0.out.alloc HB0.out.size (.cells #[.slice A0 l0.length c0, .slice A1 l1.length c1, .slice A2 l2.length c2] 26)).trans (below_weaken hb (HB0.out.alloc HB0.out.size (.cells #[.slice A0 l0.length c0, .slice A1 l1.length c1, .slice A2 l2.length c2] 26)).size))
  clear hb
  have cK_0 := (blk_cell HK.out 0).trans rfl
  have cK_1 := (blk_cell HK.out 1).trans rfl
  have cK_2 := (blk_cell HK.out 2).trans rfl
  have lK := blk_lt HK.out
  go_wp2_with fail
  clear cK_0 cK_1 cK_2 lK
  refine (HWA.out _ (HB1.out.alloc HB1.out.size (.cells #[.slice A0 l0.length c0, .slice A1 l1.length c1, .slice none 0 0] 26))).mono ?_
  rintro e w2 ⟨rfl, hb⟩
  have HKn := Lib.hid (show w2.heap[w.heap.size]? = some (.cells #[.slice A0 l0.length c0, .slice A1 l1.length c1, .slice A2 l2.length c2] 26 (0, 0)) from blk_below (blk_alloc HK.out (.cells #[.slice A0 l0.length c0, .slice A1 l1.length c1, .slice none 0 0] 26)) hb)
  have HXn := Lib.hid (show w2.heap[w1.heap.size]? = some (.cells #[.slice A0 l0.length c0, .slice A1 l1.length c1, .slice none 0 0] 26 (0, 0)) from blk_below (blk_new w1 (.cells #[.slice A0 l0.length c0, .slice A1 l1.length c1, .slice none 0 0] 26)) hb)
  clear HK
  have HK := HKn
  clear HKn
  have HX := HXn
  clear HXn
  have HB2 := Lib.hid ((HB1.out.alloc HB1.out.size (.cells #[.slice A0 l0.length c0, .slice A1 l1.length c1, .slice none 0 0] 26)).trans (below_weaken hb (HB1.out.alloc HB1.out.size (.cells #[.slice A0 l0.length c0, .slice A1 l1.length c1, .slice none 0 0] 26)).size))
  clear hb
  have cK_0 := (blk_cell HK.out 0).trans rfl
  have cK_1 := (blk_cell HK.out 1).trans rfl
  have cK_2 := (blk_cell HK.out 2).trans rfl
  have lK := blk_lt HK.out
  have cX_0 := (blk_cell HX.out 0).trans rfl
  have cX_1 := (blk_cell HX.out 1).trans rfl
  have cX_2 := (blk_cell HX.out 2).trans rfl
  have lX := blk_lt HX.out
  go_upto_region 6 with fail
  clear cK_0 cK_1 cK_2 lK cX_0 cX_1 cX_2 lX
  have hbp : Below w2.heap.size w2 w2.drew := (Below.refl _ _).drew
  have HKn := Lib.hid (show w2.drew.heap[w.heap.size]? = some (.cells #[.slice A0 l0.length c0, .slice A1 l1.length c1, .slice A2 l2.length c2] 26 (0, 0)) from blk_below HK.out hbp)
  have HXn := Lib.hid (show w2.drew.heap[w1.heap.size]? = some (.cells #[.slice A0 l0.length c0, .slice A1 l1.length c1, .slice none 0 0] 26 (0, 0)) from blk_below HX.out hbp)
  clear HK
  clear HX
  have HK := HKn
  clear HKn
  have HX := HXn
  clear HXn
  have HB3 := Lib.hid (HB2.out.trans (below_weaken hbp HB2.out.size))
  clear hbp
  refine start_ (n := 11) (S := fun w' => w'.cell? ⟨w.heap.size, 0, none⟩ = some (.slice A0 l0.length c0) ∧ w'.cell? ⟨w.heap.size, 1, none⟩ = some (.slice A1 l1.length c1) ∧ w'.cell? ⟨w.heap.size, 2, none⟩ = some (.slice A2 l2.length c2)) (ds := []) #[false, false, false, false, false, false, false, false, false, false, false] (by kernel_rfl) rfl rfl ⟨(blk_cell HK.out 0).trans rfl, (blk_cell HK.out 1).trans rfl, (blk_cell HK.out 2).trans rfl⟩ (fun hHeld => ?_)
  refine pu_ 0 (some 27) ?_
  refine pu_ 4 (some 31) ?_
  refine pu_ 5 (some 32) ?_
  refine ta_ 1 (some 28) (s := hHeld) (y := by rintro w' ⟨s0, s1, s2⟩; go_simp; with_reducible rfl) (h := ?_)
  refine pu_ 2 (some 29) ?_
  refine pu_ 3 (some 30) ?_
  refine ta_ 6 (some 33) (s := hHeld) (y := by rintro w' ⟨s0, s1, s2⟩; go_simp; with_reducible rfl) (h := ?_)
  refine pu_ 7 (some 34) ?_
  refine one_ (i := 8) (N := some 35) #[true, true, true, true, true, true, true, true, true, false, false] rfl rfl (by kernel_rfl) (by decide) (fun K hK => ?_)
  refine goes_ Tryd.func47 (by kernel_rfl) rfl #[.int .i64 n, .int .i64 (l1.length : Int)] (by rfl) rfl rfl (by simp only [List.map_toArray, List.map_cons, List.map_nil]; rfl) ?_
  refine (HWR.out _).mono ?_
  rintro e r6_1 ⟨rfl, hb⟩
  refine ⟨_, rfl, ?_⟩
  have HK_6_1 := Lib.hid (show (r6_1).heap[w.heap.size]? = some (.cells #[.slice A0 l0.length c0, .slice A1 l1.length c1, .slice A2 l2.length c2] 26 (0, 0)) from blk_below HK.out hb)
  have HX_6_1 := Lib.hid (show (r6_1).heap[w1.heap.size]? = some (.cells #[.slice A0 l0.length c0, .slice A1 l1.length c1, .slice none 0 0] 26 (0, 0)) from blk_below HX.out hb)
  have HB_6_1 := Lib.hid (HB3.out.trans (below_weaken hb HB3.out.size))
  refine hK.out _ _ ⟨(blk_cell HK_6_1.out 0).trans rfl, (blk_cell HK_6_1.out 1).trans rfl, (blk_cell HK_6_1.out 2).trans rfl⟩ (fun hHeld => ?_)
  clear hK K
  refine no_ 35 ?_
  refine pu_ 9 (some 8) ?_
  refine pu_ 10 (some 9) ?_
  refine done_ (by kernel_rfl) ?_

  have HKz := Lib.hid HK_6_1.out
  (try clear HK)
  have HK := HKz
  clear HKz
  have HXz := Lib.hid HX_6_1.out
  (try clear HX)
  have HX := HXz
  clear HXz
  have cK_0 := (blk_cell HK.out 0).trans rfl
  have cK_1 := (blk_cell HK.out 1).trans rfl
  have cK_2 := (blk_cell HK.out 2).trans rfl
  have lK := blk_lt HK.out
  have cX_0 := (blk_cell HX.out 0).trans rfl
  have cX_1 := (blk_cell HX.out 1).trans rfl
  have cX_2 := (blk_cell HX.out 2).trans rfl
  have lX := blk_lt HX.out
  clear hlast
  go_wp2_with fail
  clear cK_0 cK_1 cK_2 lK cX_0 cX_1 cX_2 lX
  refine (HBS.out _ HB_6_1.out).mono ?_
  rintro e w4 ⟨rfl, hb⟩
  have HKn := Lib.hid (show w4.heap[w.heap.size]? = some (.cells #[.slice A0 l0.length c0, .slice A1 l1.length c1, .slice A2 l2.length c2] 26 (0, 0)) from blk_below HK.out hb)
  have HXn := Lib.hid (show w4.heap[w1.heap.size]? = some (.cells #[.slice A0 l0.length c0, .slice A1 l1.length c1, .slice none 0 0] 26 (0, 0)) from blk_below HX.out hb)
  clear HK
  clear HX
  have HK := HKn
  clear HKn
  have HX := HXn
  clear HXn
  have HB4 := Lib.hid (HB_6_1.out.trans (below_weaken hb HB_6_1.out.size))
  clear hb
  have cK_0 := (blk_cell HK.out 0).trans rfl
  have cK_1 := (blk_cell HK.out 1).trans rfl
  have cK_2 := (blk_cell HK.out 2).trans rfl
  have lK := blk_lt HK.out
  have cX_0 := (blk_cell HX.out 0).trans rfl
  have cX_1 := (blk_cell HX.out 1).trans rfl
  have cX_2 := (blk_cell HX.out 2).trans rfl
  have lX := blk_lt HX.out
  go_wp2_with fail
  clear cK_0 cK_1 cK_2 lK cX_0 cX_1 cX_2 lX
  refine (HDO.out _ (HB4.out.alloc HB4.out.size (.cells #[.int .i64 s, .int .i64 sh] 32))).mono ?_
  rintro e w5 ⟨A1o, c1o, rfl, HD1, hb⟩
  have HKn := Lib.hid (show w5.heap[w.heap.size]? = some (.cells #[.slice A0 l0.length c0, .slice A1 l1.length c1, .slice A2 l2.length c2] 26 (0, 0)) from blk_below (blk_alloc HK.out (.cells #[.int .i64 s, .int .i64 sh] 32)) hb)
  have HXn := Lib.hid (show w5.heap[w1.heap.size]? = some (.cells #[.slice A0 l0.length c0, .slice A1 l1.length c1, .slice none 0 0] 26 (0, 0)) from blk_below (blk_alloc HX.out (.cells #[.int .i64 s, .int .i64 sh] 32)) hb)
  have HSn := Lib.hid (show w5.heap[w4.heap.size]? = some (.cells #[.int .i64 s, .int .i64 sh] 32 (0, 0)) from blk_below (blk_new w4 (.cells #[.int .i64 s, .int .i64 sh] 32)) hb)
  clear HK
  clear HX
  have HK := HKn
  clear HKn
  have HX := HXn
  clear HXn
  have HS := HSn
  clear HSn
  have HB5 := Lib.hid ((HB4.out.alloc HB4.out.size (.cells #[.int .i64 s, .int .i64 sh] 32)).trans (below_weaken hb (HB4.out.alloc HB4.out.size (.cells #[.int .i64 s, .int .i64 sh] 32)).size))
  clear hb
  have cK_0 := (blk_cell HK.out 0).trans rfl
  have cK_1 := (blk_cell HK.out 1).trans rfl
  have cK_2 := (blk_cell HK.out 2).trans rfl
  have lK := blk_lt HK.out
  have cX_0 := (blk_cell HX.out 0).trans rfl
  have cX_1 := (blk_cell HX.out 1).trans rfl
  have cX_2 := (blk_cell HX.out 2).trans rfl
  have lX := blk_lt HX.out
  have cS_0 := (blk_cell HS.out 0).trans rfl
  have cS_1 := (blk_cell HS.out 1).trans rfl
  have lS := blk_lt HS.out
  go_wp2_with fail
  clear cK_0 cK_1 cK_2 lK cX_0 cX_1 cX_2 lX cS_0 cS_1 lS
  refine (HD1.out).mono ?_
  rintro e w6 ⟨rfl, hb⟩
  have HKn := Lib.hid (show w6.heap[w.heap.size]? = some (.cells #[.slice A0 l0.length c0, .slice A1 l1.length c1, .slice A2 l2.length c2] 26 (0, 0)) from blk_below HK.out hb)
  have HXn := Lib.hid (show w6.heap[w1.heap.size]? = some (.cells #[.slice A0 l0.length c0, .slice A1 l1.length c1, .slice none 0 0] 26 (0, 0)) from blk_below HX.out hb)
  have HSn := Lib.hid (show w6.heap[w4.heap.size]? = some (.cells #[.int .i64 s, .int .i64 sh] 32 (0, 0)) from blk_below HS.out hb)
  clear HK
  clear HX
  clear HS
  have HK := HKn
  clear HKn
  have HX := HXn
  clear HXn
  have HS := HSn
  clear HSn
  have HB6 := Lib.hid (HB5.out.trans (below_weaken hb HB5.out.size))
  clear hb
  have cK_0 := (blk_cell HK.out 0).trans rfl
  have cK_1 := (blk_cell HK.out 1).trans rfl
  have cK_2 := (blk_cell HK.out 2).trans rfl
  have lK := blk_lt HK.out
  have cX_0 := (blk_cell HX.out 0).trans rfl
  have cX_1 := (blk_cell HX.out 1).trans rfl
  have cX_2 := (blk_cell HX.out 2).trans rfl
  have lX := blk_lt HX.out
  have cS_0 := (blk_cell HS.out 0).trans rfl
  have cS_1 := (blk_cell HS.out 1).trans rfl
  have lS := blk_lt HS.out
  clear HD1
  rcases HC.out with ⟨rfl, rfl, rfl⟩ | ⟨rfl, a, u, uh, rfl, HAM, HDA, hsu, hor⟩
  · clear HC
    go_wp2_with fail
    clear cK_0 cK_1 cK_2 lK cX_0 cX_1 cX_2 lX cS_0 cS_1 lS
    refine (HRO.out _ (HB6.out.alloc HB6.out.size (.cells #[.int .i64 t, .int .i64 th] 32))).mono ?_
    rintro e w8f ⟨rfl, hb⟩
    have HKn := Lib.hid (show w8f.heap[w.heap.size]? = some (.cells #[.slice A0 l0.length c0, .slice A1 l1.length c1, .slice A2 l2.length c2] 26 (0, 0)) from blk_below (blk_alloc HK.out (.cells #[.int .i64 t, .int .i64 th] 32)) hb)
    have HXn := Lib.hid (show w8f.heap[w1.heap.size]? = some (.cells #[.slice A0 l0.length c0, .slice A1 l1.length c1, .slice none 0 0] 26 (0, 0)) from blk_below (blk_alloc HX.out (.cells #[.int .i64 t, .int .i64 th] 32)) hb)
    have HSn := Lib.hid (show w8f.heap[w4.heap.size]? = some (.cells #[.int .i64 t, .int .i64 sh] 32 (0, 0)) from blk_below (blk_alloc HS.out (.cells #[.int .i64 t, .int .i64 th] 32)) hb)
    have HTn := Lib.hid (show w8f.heap[w6.heap.size]? = some (.cells #[.int .i64 t, .int .i64 th] 32 (0, 0)) from blk_below (blk_new w6 (.cells #[.int .i64 t, .int .i64 th] 32)) hb)
    clear HK
    clear HX
    clear HS
    have HK := HKn
    clear HKn
    have HX := HXn
    clear HXn
    have HS := HSn
    clear HSn
    have HT := HTn
    clear HTn
    have HB8f := Lib.hid ((HB6.out.alloc HB6.out.size (.cells #[.int .i64 t, .int .i64 th] 32)).trans (below_weaken hb (HB6.out.alloc HB6.out.size (.cells #[.int .i64 t, .int .i64 th] 32)).size))
    clear hb
    have cK_0 := (blk_cell HK.out 0).trans rfl
    have cK_1 := (blk_cell HK.out 1).trans rfl
    have cK_2 := (blk_cell HK.out 2).trans rfl
    have lK := blk_lt HK.out
    have cX_0 := (blk_cell HX.out 0).trans rfl
    have cX_1 := (blk_cell HX.out 1).trans rfl
    have cX_2 := (blk_cell HX.out 2).trans rfl
    have lX := blk_lt HX.out
    have cS_0 := (blk_cell HS.out 0).trans rfl
    have cS_1 := (blk_cell HS.out 1).trans rfl
    have lS := blk_lt HS.out
    have cT_0 := (blk_cell HT.out 0).trans rfl
    have cT_1 := (blk_cell HT.out 1).trans rfl
    have lT := blk_lt HT.out
    go_wp2
    go_ret
    exact ⟨ret_true (by first | rfl | (simp; done) | (simp; omega)), HB8f.out⟩
  · clear HC
    go_wp2_with fail
    clear cK_0 cK_1 cK_2 lK cX_0 cX_1 cX_2 lX cS_0 cS_1 lS
    refine (HAM.out _).mono ?_
    rintro e w8g ⟨rfl, hb⟩
    have HKn := Lib.hid (show w8g.heap[w.heap.size]? = some (.cells #[.slice A0 l0.length c0, .slice A1 l1.length c1, .slice A2 l2.length c2] 26 (0, 0)) from blk_below (blk_alloc HK.out (.cells #[.int .i64 t, .int .i64 th] 32)) hb)
    have HXn := Lib.hid (show w8g.heap[w1.heap.size]? = some (.cells #[.slice A0 l0.length c0, .slice A1 l1.length c1, .slice none 0 0] 26 (0, 0)) from blk_below (blk_alloc HX.out (.cells #[.int .i64 t, .int .i64 th] 32)) hb)
    have HSn := Lib.hid (show w8g.heap[w4.heap.size]? = some (.cells #[.int .i64 s, .int .i64 sh] 32 (0, 0)) from blk_below (blk_alloc HS.out (.cells #[.int .i64 t, .int .i64 th] 32)) hb)
    have HTn := Lib.hid (show w8g.heap[w6.heap.size]? = some (.cells #[.int .i64 t, .int .i64 th] 32 (0, 0)) from blk_below (blk_new w6 (.cells #[.int .i64 t, .int .i64 th] 32)) hb)
    clear HK
    clear HX
    clear HS
    have HK := HKn
    clear HKn
    have HX := HXn
    clear HXn
    have HS := HSn
    clear HSn
    have HT := HTn
    clear HTn
    have HB8g := Lib.hid ((HB6.out.alloc HB6.out.size (.cells #[.int .i64 t, .int .i64 th] 32)).trans (below_weaken hb (HB6.out.alloc HB6.out.size (.cells #[.int .i64 t, .int .i64 th] 32)).size))
    clear hb
    have cK_0 := (blk_cell HK.out 0).trans rfl
    have cK_1 := (blk_cell HK.out 1).trans rfl
    have cK_2 := (blk_cell HK.out 2).trans rfl
    have lK := blk_lt HK.out
    have cX_0 := (blk_cell HX.out 0).trans rfl
    have cX_1 := (blk_cell HX.out 1).trans rfl
    have cX_2 := (blk_cell HX.out 2).trans rfl
    have lX := blk_lt HX.out
    have cS_0 := (blk_cell HS.out 0).trans rfl
    have cS_1 := (blk_cell HS.out 1).trans rfl
    have lS := blk_lt HS.out
    have cT_0 := (blk_cell HT.out 0).trans rfl
    have cT_1 := (blk_cell HT.out 1).trans rfl
    have lT := blk_lt HT.out
    go_wp2_with fail
    clear cK_0 cK_1 cK_2 lK cX_0 cX_1 cX_2 lX cS_0 cS_1 lS cT_0 cT_1 lT
    refine (HDA.out _ HB8g.out).mono ?_
    rintro e w9g ⟨A1a, c1a, rfl, HD2, hb⟩
    have HKn := Lib.hid (show w9g.heap[w.heap.size]? = some (.cells #[.slice A0 l0.length c0, .slice A1 l1.length c1, .slice A2 l2.length c2] 26 (0, 0)) from blk_below HK.out hb)
    have HXn := Lib.hid (show w9g.heap[w1.heap.size]? = some (.cells #[.slice A0 l0.length c0, .slice A1 l1.length c1, .slice none 0 0] 26 (0, 0)) from blk_below HX.out hb)
    have HSn := Lib.hid (show w9g.heap[w4.heap.size]? = some (.cells #[.int .i64 s, .int .i64 sh] 32 (0, 0)) from blk_below HS.out hb)
    have HTn := Lib.hid (show w9g.heap[w6.heap.size]? = some (.cells #[.int .i64 t, .int .i64 th] 32 (0, 0)) from blk_below HT.out hb)
    clear HK
    clear HX
    clear HS
    clear HT
    have HK := HKn
    clear HKn
    have HX := HXn
    clear HXn
    have HS := HSn
    clear HSn
    have HT := HTn
    clear HTn
    have HB9g := Lib.hid (HB8g.out.trans (below_weaken hb HB8g.out.size))
    clear hb
    have cK_0 := (blk_cell HK.out 0).trans rfl
    have cK_1 := (blk_cell HK.out 1).trans rfl
    have cK_2 := (blk_cell HK.out 2).trans rfl
    have lK := blk_lt HK.out
    have cX_0 := (blk_cell HX.out 0).trans rfl
    have cX_1 := (blk_cell HX.out 1).trans rfl
    have cX_2 := (blk_cell HX.out 2).trans rfl
    have lX := blk_lt HX.out
    have cS_0 := (blk_cell HS.out 0).trans rfl
    have cS_1 := (blk_cell HS.out 1).trans rfl
    have lS := blk_lt HS.out
    have cT_0 := (blk_cell HT.out 0).trans rfl
    have cT_1 := (blk_cell HT.out 1).trans rfl
    have lT := blk_lt HT.out
    go_wp2_with fail
    clear cK_0 cK_1 cK_2 lK cX_0 cX_1 cX_2 lX cS_0 cS_1 lS cT_0 cT_1 lT
    refine (HD2.out).mono ?_
    rintro e w10g ⟨rfl, hb⟩
    have HKn := Lib.hid (show w10g.heap[w.heap.size]? = some (.cells #[.slice A0 l0.length c0, .slice A1 l1.length c1, .slice A2 l2.length c2] 26 (0, 0)) from blk_below HK.out hb)
    have HXn := Lib.hid (show w10g.heap[w1.heap.size]? = some (.cells #[.slice A0 l0.length c0, .slice A1 l1.length c1, .slice none 0 0] 26 (0, 0)) from blk_below HX.out hb)
    have HSn := Lib.hid (show w10g.heap[w4.heap.size]? = some (.cells #[.int .i64 s, .int .i64 sh] 32 (0, 0)) from blk_below HS.out hb)
    have HTn := Lib.hid (show w10g.heap[w6.heap.size]? = some (.cells #[.int .i64 t, .int .i64 th] 32 (0, 0)) from blk_below HT.out hb)
    clear HK
    clear HX
    clear HS
    clear HT
    have HK := HKn
    clear HKn
    have HX := HXn
    clear HXn
    have HS := HSn
    clear HSn
    have HT := HTn
    clear HTn
    have HB10g := Lib.hid (HB9g.out.trans (below_weaken hb HB9g.out.size))
    clear hb
    have cK_0 := (blk_cell HK.out 0).trans rfl
    have cK_1 := (blk_cell HK.out 1).trans rfl
    have cK_2 := (blk_cell HK.out 2).trans rfl
    have lK := blk_lt HK.out
    have cX_0 := (blk_cell HX.out 0).trans rfl
    have cX_1 := (blk_cell HX.out 1).trans rfl
    have cX_2 := (blk_cell HX.out 2).trans rfl
    have lX := blk_lt HX.out
    have cS_0 := (blk_cell HS.out 0).trans rfl
    have cS_1 := (blk_cell HS.out 1).trans rfl
    have lS := blk_lt HS.out
    have cT_0 := (blk_cell HT.out 0).trans rfl
    have cT_1 := (blk_cell HT.out 1).trans rfl
    have lT := blk_lt HT.out
    clear HD2
    rcases hor with hor | ⟨hor, hle⟩
    · skip
      go_wp2_with fail
      clear cK_0 cK_1 cK_2 lK cX_0 cX_1 cX_2 lX cS_0 cS_1 lS cT_0 cT_1 lT
      refine (HRO.out _ (HB10g.out.alloc HB10g.out.size (.cells #[.int .i64 u, .int .i64 uh] 32))).mono ?_
      rintro e w12gp ⟨rfl, hb⟩
      have HKn := Lib.hid (show w12gp.heap[w.heap.size]? = some (.cells #[.slice A0 l0.length c0, .slice A1 l1.length c1, .slice A2 l2.length c2] 26 (0, 0)) from blk_below (blk_alloc HK.out (.cells #[.int .i64 u, .int .i64 uh] 32)) hb)
      have HXn := Lib.hid (show w12gp.heap[w1.heap.size]? = some (.cells #[.slice A0 l0.length c0, .slice A1 l1.length c1, .slice none 0 0] 26 (0, 0)) from blk_below (blk_alloc HX.out (.cells #[.int .i64 u, .int .i64 uh] 32)) hb)
      have HSn := Lib.hid (show w12gp.heap[w4.heap.size]? = some (.cells #[.int .i64 s, .int .i64 sh] 32 (0, 0)) from blk_below (blk_alloc HS.out (.cells #[.int .i64 u, .int .i64 uh] 32)) hb)
      have HTn := Lib.hid (show w12gp.heap[w6.heap.size]? = some (.cells #[.int .i64 t, .int .i64 th] 32 (0, 0)) from blk_below (blk_alloc HT.out (.cells #[.int .i64 u, .int .i64 uh] 32)) hb)
      have HUn := Lib.hid (show w12gp.heap[w10g.heap.size]? = some (.cells #[.int .i64 u, .int .i64 uh] 32 (0, 0)) from blk_below (blk_new w10g (.cells #[.int .i64 u, .int .i64 uh] 32)) hb)
      clear HK
      clear HX
      clear HS
      clear HT
      have HK := HKn
      clear HKn
      have HX := HXn
      clear HXn
      have HS := HSn
      clear HSn
      have HT := HTn
      clear HTn
      have HU := HUn
      clear HUn
      have HB12gp := Lib.hid ((HB10g.out.alloc HB10g.out.size (.cells #[.int .i64 u, .int .i64 uh] 32)).trans (below_weaken hb (HB10g.out.alloc HB10g.out.size (.cells #[.int .i64 u, .int .i64 uh] 32)).size))
      clear hb
      have cK_0 := (blk_cell HK.out 0).trans rfl
      have cK_1 := (blk_cell HK.out 1).trans rfl
      have cK_2 := (blk_cell HK.out 2).trans rfl
      have lK := blk_lt HK.out
      have cX_0 := (blk_cell HX.out 0).trans rfl
      have cX_1 := (blk_cell HX.out 1).trans rfl
      have cX_2 := (blk_cell HX.out 2).trans rfl
      have lX := blk_lt HX.out
      have cS_0 := (blk_cell HS.out 0).trans rfl
      have cS_1 := (blk_cell HS.out 1).trans rfl
      have lS := blk_lt HS.out
      have cT_0 := (blk_cell HT.out 0).trans rfl
      have cT_1 := (blk_cell HT.out 1).trans rfl
      have lT := blk_lt HT.out
      have cU_0 := (blk_cell HU.out 0).trans rfl
      have cU_1 := (blk_cell HU.out 1).trans rfl
      have lU := blk_lt HU.out
      go_wp2
      go_ret
      exact ⟨ret_true (by first | rfl | (simp; done) | (simp; omega)), HB12gp.out⟩
    · skip
      subst hor
      go_wp2_with fail
      clear cK_0 cK_1 cK_2 lK cX_0 cX_1 cX_2 lX cS_0 cS_1 lS cT_0 cT_1 lT
      refine (HRO.out _ (HB10g.out.alloc HB10g.out.size (.cells #[.int .i64 t, .int .i64 uh] 32))).mono ?_
      rintro e w12gq ⟨rfl, hb⟩
      have HKn := Lib.hid (show w12gq.heap[w.heap.size]? = some (.cells #[.slice A0 l0.length c0, .slice A1 l1.length c1, .slice A2 l2.length c2] 26 (0, 0)) from blk_below (blk_alloc HK.out (.cells #[.int .i64 t, .int .i64 uh] 32)) hb)
      have HXn := Lib.hid (show w12gq.heap[w1.heap.size]? = some (.cells #[.slice A0 l0.length c0, .slice A1 l1.length c1, .slice none 0 0] 26 (0, 0)) from blk_below (blk_alloc HX.out (.cells #[.int .i64 t, .int .i64 uh] 32)) hb)
      have HSn := Lib.hid (show w12gq.heap[w4.heap.size]? = some (.cells #[.int .i64 s, .int .i64 sh] 32 (0, 0)) from blk_below (blk_alloc HS.out (.cells #[.int .i64 t, .int .i64 uh] 32)) hb)
      have HTn := Lib.hid (show w12gq.heap[w6.heap.size]? = some (.cells #[.int .i64 t, .int .i64 th] 32 (0, 0)) from blk_below (blk_alloc HT.out (.cells #[.int .i64 t, .int .i64 uh] 32)) hb)
      have HUn := Lib.hid (show w12gq.heap[w10g.heap.size]? = some (.cells #[.int .i64 t, .int .i64 uh] 32 (0, 0)) from blk_below (blk_new w10g (.cells #[.int .i64 t, .int .i64 uh] 32)) hb)
      clear HK
      clear HX
      clear HS
      clear HT
      have HK := HKn
      clear HKn
      have HX := HXn
      clear HXn
      have HS := HSn
      clear HSn
      have HT := HTn
      clear HTn
      have HU := HUn
      clear HUn
      have HB12gq := Lib.hid ((HB10g.out.alloc HB10g.out.size (.cells #[.int .i64 t, .int .i64 uh] 32)).trans (below_weaken hb (HB10g.out.alloc HB10g.out.size (.cells #[.int .i64 t, .int .i64 uh] 32)).size))
      clear hb
      have cK_0 := (blk_cell HK.out 0).trans rfl
      have cK_1 := (blk_cell HK.out 1).trans rfl
      have cK_2 := (blk_cell HK.out 2).trans rfl
      have lK := blk_lt HK.out
      have cX_0 := (blk_cell HX.out 0).trans rfl
      have cX_1 := (blk_cell HX.out 1).trans rfl
      have cX_2 := (blk_cell HX.out 2).trans rfl
      have lX := blk_lt HX.out
      have cS_0 := (blk_cell HS.out 0).trans rfl
      have cS_1 := (blk_cell HS.out 1).trans rfl
      have lS := blk_lt HS.out
      have cT_0 := (blk_cell HT.out 0).trans rfl
      have cT_1 := (blk_cell HT.out 1).trans rfl
      have lT := blk_lt HT.out
      have cU_0 := (blk_cell HU.out 0).trans rfl
      have cU_1 := (blk_cell HU.out 1).trans rfl
      have lU := blk_lt HU.out
      go_wp2
      go_ret
      exact ⟨ret_true (by first | rfl | (simp; done) | (simp; omega)), HB12gq.out⟩
end Go.Proofs.YthgjedagbgmgmaaDoor.Pr
namespace Go.Proofs.YthgjedagbgmgmaaDoor.Pr
open Go.RowKit Go.Proofs.YthgjedagbgmgmaaDoorW.PrintWords Go.Proofs.YthgjedagbgmgmaaDoorW.PrintLast Go.Proofs.YthgjedagbgmgmaaDoorW.PrintMore
set_option linter.unusedVariables false
set_option linter.unusedSimpArgs false
theorem rollBest_calls (A0 A1 A2 : Option Addr) (c0 c1 c2 : Nat) (l0 : List S92) (l1 : List S90) (l2 : List S43) (n : Int) (w : World) (hG : GOK w) (h : BookAt w A0 A1 A2 c0 c1 c2 l0 l1 l2) :
    Calls Tryd.prog 13 #[.agg #[.slice A0 l0.length c0, .slice A1 l1.length c1, .slice A2 l2.length c2], .int .i64 n] w fun e w' => e = .returned (.bool true) ∧ Below w.heap.size w w' := by
  have HSOB := fun W (hW : Below w.heap.size w W) => sound_calls A0 A1 A2 c0 c1 c2 l0 l1 l2 W (h.below hW)
  have HRO := fun W (hW : Below w.heap.size w W) => rolled_calls W (hG.below hW)
  cases hok : okBook l0 l1 l2 with
  | false =>
    rw [hok] at HSOB
    exact best_none A0 A1 A2 c0 c1 c2 l0 l1 l2 n w (Lib.hid HSOB) (Lib.hid HRO)
  | true =>
    rw [hok] at HSOB
    obtain ⟨o1, o2, o3, o4, _⟩ := ok_facts hok
    obtain ⟨o, ho, hwr⟩ := wrap_calls n l1.length o4 (by omega)
    have hlast : IntKind.i64.wrap ((l1.length : Int) - 1) = ((l1.length - 1 : Nat) : Int) := by
      rw [show ((l1.length - 1 : Nat) : Int) = (l1.length : Int) - 1 by omega]
      exact IntWalk.i64_in _ (by omega)
    have hnil : ∀ W : World, Kd.C k43 W none 0 ([] : List S43) := fun W => Kd.C_nil k43 W
    have HBO := fun (x : Int) W (hW : Below w.heap.size w W) => bound_calls A0 A1 none c0 c1 0 l0 l1 [] W (hG.below hW) (h.below hW).r0 h.c0 (h.below hW).r1 h.c1 (hnil W) (by simp) x
    have HWA := fun W (hW : Below w.heap.size w W) => water_calls A0 A1 none c0 c1 0 l0 l1 [] W (hG.below hW) (h.below hW).r0 h.c0 (h.below hW).r1 h.c1 (hnil W) (by simp)
    have HDD : ∀ (a : Nat) (ha : a < l1.length) (t th : Int), boundF l0 (l1.set a (dampDay l1[a])) [] ((l1.length - 1 : Nat) : Int) = (t, th, 0) → ∀ W, Below w.heap.size w W → Calls Tryd.prog 66 #[.agg #[.slice A0 l0.length c0, .slice A1 l1.length c1, .slice none 0 0], .int .i64 (a : Int)] W fun e w' => ∃ A c, e = .returned (.agg #[.slice A0 l0.length c0, .slice A l1.length c, .slice none 0 0]) ∧ Hid (Calls Tryd.prog 21 #[.agg #[.slice A0 l0.length c0, .slice A l1.length c, .slice none 0 0], .int .i64 ((l1.length - 1 : Nat) : Int)] w' fun e w'' => e = .returned (.tuple #[.agg #[.int .i64 t, .int .i64 th], .int .i64 0]) ∧ Below w'.heap.size w' w'') ∧ Below W.heap.size W w' := by
      intro a ha t th ht W hW
      refine (damped_calls A0 A1 none l0.length 0 c0 c1 0 l1 a ha ((okBook_parts hok).2.2.2.2.1 _ (List.getElem_mem ha)) o3 W (h.below hW).r1 h.c1).mono ?_
      rintro e w' ⟨A, c, rfl, hC, hc, hb⟩
      refine ⟨A, c, rfl, Lib.hid ?_, hb⟩
      have hW' := hW.trans (below_weaken hb hW.size)
      have := bound_calls A0 A none c0 c 0 l0 (l1.set a (dampDay l1[a])) [] w' (hG.below hW') (h.below hW').r0 h.c0 (by rw [List.length_set]; exact hC) (by rw [List.length_set]; exact hc) (hnil w') (by simp) ((l1.length - 1 : Nat) : Int)
      rw [ht, List.length_set] at this
      exact this
    obtain ⟨s, t, sh, th, e1, e2, hst, hc⟩ := best_law hok ho
    refine best_walk A0 A1 A2 c0 c1 c2 l0 l1 l2 n w (l1.length - 1) o (waterF l0 l1 []).1 (waterF l0 l1 []).2 s sh t th (by omega) (by omega) hlast (by omega) hst (Lib.hid HSOB) (Lib.hid HRO) (Lib.hid hwr) (Lib.hid HWA) (Lib.hid fun W hW => ?_) (Lib.hid (HDD o ho t th e2)) (Lib.hid ?_)
    · have := HBO ((l1.length - 1 : Nat) : Int) W hW
      rw [e1] at this
      exact this
    · rcases hc with ⟨e3, e4⟩ | ⟨a, ha, u, uh, e3, e4, hsu, hor⟩
      · rw [e3]
        exact .inl ⟨rfl, rfl, e4⟩
      · rw [e3]
        exact .inr ⟨rfl, a, u, uh, rfl, Lib.hid (amid_true (by omega) (by omega)), Lib.hid (HDD a ha u uh e4), hsu, hor.imp id fun q => ⟨q.1, by omega⟩⟩
end Go.Proofs.YthgjedagbgmgmaaDoor.Pr
