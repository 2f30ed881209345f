/- Part 7 of the proof that RollWater answers true: contracts and laws, merged by a program. -/
import Derived.Test.YthgjedagbgmgmaaDoorRollWaterA6
namespace Go.Proofs.YthgjedagbgmgmaaDoor.Pr
open Go.RowKit Go.Proofs.YthgjedagbgmgmaaDoorW.PrintWords Go.Proofs.YthgjedagbgmgmaaDoorW.PrintLast Go.Proofs.YthgjedagbgmgmaaDoorW.PrintMore
set_option linter.unusedVariables false
set_option linter.unusedSimpArgs false
/-- How many layers are bound, by how many wagons the next was rolled, and the stone that was laid and lost. -/
structure Kn where
  at_ : Int
  by_ : Int
  laid : Int
  lost : Int
/-- The stone of a layer. -/
def yardAt (ls : List S92) (b : Int) : Int := (ls.getD b.toNat z92).f1
def needAt (ls : List S92) (b : Int) : Int := (ls.getD b.toNat z92).f0
def Kn.lay (ls : List S92) (k : Kn) : Kn := if k.by_ < 0 then { k with by_ := 0, laid := k.laid + yardAt ls k.at_ } else k
def stepK (ls : List S92) (k : Kn) (s w : Int) : Kn :=
  if k.at_ = ls.length then k else
  if s = 2 then { k.lay ls with by_ := -1, lost := k.lost + yardAt ls k.at_ }
  else if s = 1 then (if needAt ls k.at_ ≤ (k.lay ls).by_ + w then { k.lay ls with at_ := k.at_ + 1, by_ := -1 } else { k.lay ls with by_ := (k.lay ls).by_ + w })
  else k.lay ls
def knFrom (ls : List S92) : Ch → Kn → List Kn
  | [], _ => []
  | p :: c, k => stepK ls k p.2 p.1 :: knFrom ls c (stepK ls k p.2 p.1)
def lastK (ls : List S92) : Ch → Kn → Kn
  | [], k => k
  | p :: c, k => lastK ls c (stepK ls k p.2 p.1)
def kn0 : Kn := ⟨0, -1, 0, 0⟩
def Rd.A (r : Rd) : List Int := [r.a0, r.a1, r.a2, r.a3]
def Rd.O (r : Rd) : List Int := [r.o0, r.o1, r.o2, r.o3]
/-- What lies on the road. -/
def stoneTo (ls : List S92) (b : Int) : Int := sumI ((ls.take b.toNat).map fun x => x.f1)
theorem yards_lay {ls : List S92} {r : Rd} (h0 : 0 ≤ r.bound) (h : r.bound < ls.length) (h4 : ls.length ≤ 4) : yardsI ls r.lay.A = yardsI ls r.A + yardAt ls r.bound ∧ r.lay.O = r.O := by
  obtain ⟨b, q, a0, a1, a2, a3, o0, o1, o2, o3⟩ := r
  dsimp only at h0 h
  have hb : b = 0 ∨ b = 1 ∨ b = 2 ∨ b = 3 := by omega
  match ls, h4 with
  | [], _ => simp at h; omega
  | [x], _ => rcases hb with rfl | rfl | rfl | rfl <;> first | (exfalso; simp at h; done) | (constructor <;> simp [yardsI, sumI, Rd.lay, Rd.A, Rd.O, yardAt, List.range, List.range.loop, Int.add_mul] <;> omega)
  | [x, y], _ => rcases hb with rfl | rfl | rfl | rfl <;> first | (exfalso; simp at h; done) | (constructor <;> simp [yardsI, sumI, Rd.lay, Rd.A, Rd.O, yardAt, List.range, List.range.loop, Int.add_mul] <;> omega)
  | [x, y, z], _ => rcases hb with rfl | rfl | rfl | rfl <;> first | (exfalso; simp at h; done) | (constructor <;> simp [yardsI, sumI, Rd.lay, Rd.A, Rd.O, yardAt, List.range, List.range.loop, Int.add_mul] <;> omega)
  | [x, y, z, u], _ => rcases hb with rfl | rfl | rfl | rfl <;> (constructor <;> simp [yardsI, sumI, Rd.lay, Rd.A, Rd.O, yardAt, List.range, List.range.loop, Int.add_mul] <;> omega)
theorem yards_lose {ls : List S92} {r : Rd} (h0 : 0 ≤ r.bound) (h : r.bound < ls.length) (h4 : ls.length ≤ 4) : yardsI ls r.lose.O = yardsI ls r.O + yardAt ls r.bound ∧ r.lose.A = r.A := by
  obtain ⟨b, q, a0, a1, a2, a3, o0, o1, o2, o3⟩ := r
  dsimp only at h0 h
  have hb : b = 0 ∨ b = 1 ∨ b = 2 ∨ b = 3 := by omega
  match ls, h4 with
  | [], _ => simp at h; omega
  | [x], _ => rcases hb with rfl | rfl | rfl | rfl <;> first | (exfalso; simp at h; done) | (constructor <;> simp [yardsI, sumI, Rd.lose, Rd.A, Rd.O, yardAt, List.range, List.range.loop, Int.add_mul] <;> omega)
  | [x, y], _ => rcases hb with rfl | rfl | rfl | rfl <;> first | (exfalso; simp at h; done) | (constructor <;> simp [yardsI, sumI, Rd.lose, Rd.A, Rd.O, yardAt, List.range, List.range.loop, Int.add_mul] <;> omega)
  | [x, y, z], _ => rcases hb with rfl | rfl | rfl | rfl <;> first | (exfalso; simp at h; done) | (constructor <;> simp [yardsI, sumI, Rd.lose, Rd.A, Rd.O, yardAt, List.range, List.range.loop, Int.add_mul] <;> omega)
  | [x, y, z, u], _ => rcases hb with rfl | rfl | rfl | rfl <;> (constructor <;> simp [yardsI, sumI, Rd.lose, Rd.A, Rd.O, yardAt, List.range, List.range.loop, Int.add_mul] <;> omega)
theorem stone_next {ls : List S92} {b : Int} (h0 : 0 ≤ b) (h : b < ls.length) : stoneTo ls (b + 1) = stoneTo ls b + yardAt ls b := by
  unfold stoneTo yardAt sumI
  have hb : b.toNat < ls.length := by omega
  rw [show (b + 1).toNat = b.toNat + 1 by omega, List.take_add_one, List.getElem?_eq_getElem hb, List.map_append, List.foldl_append, List.getD_eq_getElem?_getD, List.getElem?_eq_getElem hb]
  simp
/-- What is known of a road. -/
structure KnR (ls : List S92) (k : Kn) (r : Rd) : Prop where
  b : k.at_ = r.bound
  y : k.by_ = r.rolled
  a : k.laid = yardsI ls r.A
  o : k.lost = yardsI ls r.O
  b0 : 0 ≤ k.at_
  b1 : k.at_ ≤ ls.length
  y0 : -1 ≤ k.by_
  full : k.at_ = ls.length → k.by_ = -1
  lies : k.laid - k.lost = stoneTo ls k.at_ + (if k.by_ < 0 then 0 else yardAt ls k.at_)
theorem knR_begin {ls : List S92} (h1 : 1 ≤ ls.length) : KnR ls kn0 r00 := by
  have hz : yardsI ls [0, 0, 0, 0] = 0 := by
    unfold yardsI
    refine sumI_zero _ fun x hx => ?_
    obtain ⟨k, _, rfl⟩ := List.mem_map.1 hx
    have : ([0, 0, 0, 0] : List Int).getD k 0 = 0 := by
      match k with
      | 0 => rfl
      | 1 => rfl
      | 2 => rfl
      | 3 => rfl
      | k + 4 => rfl
    rw [this, Int.zero_mul]
  refine ⟨rfl, rfl, hz.symm, hz.symm, Int.le_refl _, by show (0 : Int) ≤ ls.length; omega, Int.le_refl _, fun _ => rfl, ?_⟩
  show (0 : Int) - 0 = stoneTo ls 0 + 0
  unfold stoneTo sumI
  simp
theorem lay_rel {ls : List S92} (h4 : ls.length ≤ 4) {k : Kn} {r : Rd} (h : KnR ls k r) (hlt : k.at_ < ls.length) :
    (k.lay ls).at_ = r.bound ∧ (k.lay ls).by_ = r.start.rolled ∧ (k.lay ls).laid = yardsI ls r.start.A ∧ (k.lay ls).lost = yardsI ls r.start.O ∧ r.start.bound = r.bound ∧ 0 ≤ (k.lay ls).by_ ∧ (k.lay ls).laid - (k.lay ls).lost = stoneTo ls k.at_ + yardAt ls k.at_ := by
  obtain ⟨b, y, a, o, b0, b1, y0, full, lies⟩ := h
  unfold Kn.lay Rd.start
  by_cases e : k.by_ < 0
  · have e2 : r.rolled = -1 := by omega
    rw [if_pos e, if_pos e2]
    rw [if_pos e] at lies
    obtain ⟨l1, l2⟩ := yards_lay (r := r) (by omega) (by omega) h4
    refine ⟨b, rfl, ?_, ?_, r.lay_bound, Int.le_refl _, ?_⟩
    · show k.laid + yardAt ls k.at_ = yardsI ls r.lay.A
      rw [l1, a, b]
    · show k.lost = yardsI ls r.lay.O
      rw [l2, o]
    · dsimp only; omega
  · have e2 : ¬ r.rolled = -1 := by omega
    rw [if_neg e, if_neg e2]
    rw [if_neg e] at lies
    exact ⟨b, y, a, o, rfl, by omega, lies⟩
theorem stepK_rel {ls : List S92} (h4 : ls.length ≤ 4) {k : Kn} {r : Rd} (h : KnR ls k r) {s w : Int} (hw : 0 ≤ w) : KnR ls (stepK ls k s w) (afterR ls r s w) := by
  by_cases hf : k.at_ = ls.length
  · have hf' : r.bound = ls.length := by rw [← h.b]; exact hf
    unfold stepK afterR
    rw [if_pos hf, if_pos hf']
    exact h
  · have hf' : ¬ r.bound = ls.length := by rw [← h.b]; exact hf
    have hlt : k.at_ < ls.length := by have := h.b1; omega
    obtain ⟨e1, e2, e3, e4, e5, e6, e7⟩ := lay_rel h4 h hlt
    have hb := h.b
    have b0 := h.b0
    have ew : (k.lay ls).at_ = k.at_ := by rw [e1, hb]
    have el : (k.lay ls).lost = k.lost := by unfold Kn.lay; split <;> rfl
    unfold stepK afterR
    rw [if_neg hf, if_neg hf']
    by_cases s2 : s = 2
    · subst s2
      rw [if_pos rfl, if_neg (by decide), if_pos rfl]
      have hd : r.start.drown 2 = r.start.lose := by unfold Rd.drown; rw [if_pos rfl]
      rw [hd]
      obtain ⟨l1, l2⟩ := yards_lose (r := r.start) (by rw [e5]; omega) (by rw [e5]; omega) h4
      refine ⟨?_, rfl, ?_, ?_, ?_, ?_, Int.le_refl _, fun _ => rfl, ?_⟩
      · exact e1
      · show (k.lay ls).laid = yardsI ls r.start.lose.A
        rw [l2, e3]
      · show k.lost + yardAt ls k.at_ = yardsI ls r.start.lose.O
        rw [l1, ← e4, e5, hb, el]
      · show 0 ≤ (k.lay ls).at_
        omega
      · show (k.lay ls).at_ ≤ ls.length
        omega
      · show (k.lay ls).laid - (k.lost + yardAt ls k.at_) = stoneTo ls (k.lay ls).at_ + 0
        rw [ew]
        omega
    · rw [if_neg s2]
      have hd : r.start.drown s = r.start := by unfold Rd.drown; rw [if_neg s2]
      rw [hd]
      by_cases s1 : s = 1
      · subst s1
        rw [if_pos rfl, if_pos rfl]
        have hn : (ls.getD r.bound.toNat z92).f0 = needAt ls k.at_ := by rw [hb]; rfl
        rw [hn, ← e2]
        by_cases hq : needAt ls k.at_ ≤ (k.lay ls).by_ + w
        · rw [if_pos hq, if_pos hq]
          refine ⟨?_, rfl, e3, e4, ?_, ?_, Int.le_refl _, fun _ => rfl, ?_⟩
          · show k.at_ + 1 = r.bound + 1
            rw [hb]
          · show 0 ≤ k.at_ + 1
            omega
          · show k.at_ + 1 ≤ ls.length
            omega
          · show (k.lay ls).laid - (k.lay ls).lost = stoneTo ls (k.at_ + 1) + 0
            rw [stone_next b0 hlt]
            omega
        · rw [if_neg hq, if_neg hq]
          refine ⟨e1, rfl, e3, e4, ?_, ?_, ?_, ?_, ?_⟩
          · show 0 ≤ (k.lay ls).at_
            omega
          · show (k.lay ls).at_ ≤ ls.length
            omega
          · show -1 ≤ (k.lay ls).by_ + w
            omega
          · intro q
            have q : (k.lay ls).at_ = ls.length := q
            omega
          · show (k.lay ls).laid - (k.lay ls).lost = stoneTo ls (k.lay ls).at_ + (if (k.lay ls).by_ + w < 0 then 0 else yardAt ls (k.lay ls).at_)
            rw [if_neg (by omega), ew]
            exact e7
      · rw [if_neg s1, if_neg s1, if_neg s2]
        refine ⟨e1, e2, e3, e4, ?_, ?_, by omega, fun q => by omega, ?_⟩
        · omega
        · omega
        · rw [if_neg (by omega), ew]
          exact e7
theorem knFrom_rel {ls : List S92} (h4 : ls.length ≤ 4) : ∀ (c : Ch) (k : Kn) (r : Rd), (∀ i (h : i < c.length), 0 ≤ c[i].1) → KnR ls k r →
    (knFrom ls c k).length = c.length ∧ ∀ (i : Nat) x y, (knFrom ls c k)[i]? = some x → (roadFrom ls c r)[i]? = some y → KnR ls x y := by
  intro c
  induction c with
  | nil => intro k r _ _; exact ⟨rfl, fun i x y h => by simp [knFrom] at h⟩
  | cons p c ih =>
    intro k r hc h
    have h1 : KnR ls (stepK ls k p.2 p.1) (afterR ls r p.2 p.1) := stepK_rel h4 h (s := p.2) (hc 0 (by simp))
    obtain ⟨i0, i1⟩ := ih _ _ (fun i hi => by have := hc (i + 1) (by simpa using hi); simpa using this) h1
    refine ⟨by simp [knFrom, i0], fun i x y hx hy => ?_⟩
    cases i with
    | zero =>
      simp only [knFrom, roadFrom, List.getElem?_cons_zero, Option.some.injEq] at hx hy
      rw [← hx, ← hy]
      exact h1
    | succ i =>
      simp only [knFrom, roadFrom, List.getElem?_cons_succ] at hx hy
      exact i1 i x y hx hy
theorem lastK_get (ls : List S92) : ∀ (c : Ch) (k : Kn) (n : Nat), c.length = n + 1 → (knFrom ls c k)[n]? = some (lastK ls c k) := by
  intro c
  induction c with
  | nil => intro k n h; simp at h
  | cons p c ih =>
    intro k n h
    cases n with
    | zero =>
      have : c = [] := List.eq_nil_of_length_eq_zero (by simpa using h)
      subst this
      rfl
    | succ n =>
      show (knFrom ls c _)[n]? = some (lastK ls c _)
      exact ih _ n (by simpa using h)
/-- How many layers are bound at the end of each day. -/
def boundsK (ls : List S92) (c : Ch) : List Int := (knFrom ls c kn0).map Kn.at_
section
variable {ls : List S92} {ds : List S90} {ks : List S43}
theorem kn_day (hok : okBook ls ds ks = true) {c : Ch} (hc : OkCh ds c) {d : Nat} (hd : d < ds.length) : ∃ k, (knFrom ls c kn0)[d]? = some k ∧ KnR ls k (rdAt ls c d) := by
  obtain ⟨a, b, _, _, e, _⟩ := okBook_parts hok
  have h0 := okCh_zero e hc
  obtain ⟨i0, i1⟩ := knFrom_rel a.2 c kn0 r00 h0 (knR_begin a.1)
  have hdc : d < c.length := by rw [hc.1]; exact hd
  have h1 : d < (knFrom ls c kn0).length := by rw [i0]; exact hdc
  have h2 : d < (roadFrom ls c r00).length := by rw [roadFrom_length]; exact hdc
  refine ⟨_, List.getElem?_eq_getElem h1, ?_⟩
  rw [rdAt_get hdc]
  exact i1 d _ _ (List.getElem?_eq_getElem h1) (List.getElem?_eq_getElem h2)
theorem boundsK_length (hok : okBook ls ds ks = true) {c : Ch} (hc : OkCh ds c) : (boundsK ls c).length = ds.length := by
  obtain ⟨a, b, _, _, e, _⟩ := okBook_parts hok
  unfold boundsK
  rw [List.length_map, (knFrom_rel a.2 c kn0 r00 (okCh_zero e hc) (knR_begin a.1)).1, hc.1]
theorem boundsK_get (hok : okBook ls ds ks = true) {c : Ch} (hc : OkCh ds c) {d : Nat} (hd : d < ds.length) : (boundsK ls c)[d]? = some (rdAt ls c d).bound ∧ 0 ≤ (rdAt ls c d).bound ∧ (rdAt ls c d).bound ≤ ls.length := by
  obtain ⟨k, h1, h2⟩ := kn_day hok hc hd
  unfold boundsK
  rw [List.getElem?_map, h1, ← h2.b]
  exact ⟨rfl, h2.b0, h2.b1⟩
theorem kn_last (hok : okBook ls ds ks = true) {c : Ch} (hc : OkCh ds c) : KnR ls (lastK ls c kn0) (rdAt ls c (ds.length - 1)) := by
  have b := (okBook_parts hok).2.1
  obtain ⟨k, h1, h2⟩ := kn_day hok hc (show ds.length - 1 < ds.length by omega)
  rw [lastK_get ls c kn0 (ds.length - 1) (by rw [hc.1]; omega)] at h1
  rwa [Option.some.inj h1]
theorem sky_told (hok : okBook ls ds ks = true) (hT : 0 < (truthsAll ls ds ks []).length) {d : Nat} (hd : d < ds.length) : ∃ a : Int, skyF ls ds ks d = (a, 0) ∧ 1 ≤ a ∧ a ≤ 7 ∧ ∀ j : Int, 0 ≤ j → j ≤ 2 → (a / 2 ^ j.toNat % 2 = 1 ↔ ∃ c ∈ good ls ds ks [], (c.getD d (0, 0)).2 = j) := by
  have h5 := (ok_facts hok).2.2.1
  unfold skyF
  rw [isDay_true hd, if_pos (askCode_true_zero hok hT), Int.toNat_natCast]
  obtain ⟨a0, a7, a⟩ := skySet_law (truthsAll ls ds ks []) 0 (truths_sky h5 hd) (by decide) (by decide)
  have key : ∀ j : Int, 0 ≤ j → j ≤ 2 → (skySet (truthsAll ls ds ks []) d 0 / 2 ^ j.toNat % 2 = 1 ↔ ∃ c ∈ good ls ds ks [], (c.getD d (0, 0)).2 = j) := by
    intro j j0 j2
    rw [a j j0 j2]
    have hz : ¬ ((0 : Int) / 2 ^ j.toNat % 2 = 1) := by
      have j3 : j = 0 ∨ j = 1 ∨ j = 2 := by omega
      rcases j3 with rfl | rfl | rfl <;> decide
    constructor
    · rintro (h | ⟨t, ht, e⟩)
      · exact absurd h hz
      · obtain ⟨c, hc, rfl⟩ := mem_truths.1 ht
        exact ⟨c, hc, by rw [← e, enc0_sky (mem_good.1 hc).1 h5 d hd]⟩
    · rintro ⟨c, hc, e⟩
      exact .inr ⟨enc0 ls c, mem_truths.2 ⟨c, hc, rfl⟩, by rw [enc0_sky (mem_good.1 hc).1 h5 d hd]; exact e⟩
  refine ⟨_, rfl, ?_, a7, key⟩
  obtain ⟨c, hc⟩ := truths_pos.1 hT
  have ho := (mem_good.1 hc).1
  have hdc : d < c.length := by rw [ho.1]; exact hd
  have hx := ho.2 d hdc hd
  have eq : (c.getD d (0, 0)).2 = c[d].2 := by rw [List.getD_eq_getElem?_getD, List.getElem?_eq_getElem hdc]; rfl
  have := (key _ hx.2.2.1 hx.2.2.2.1).2 ⟨c, hc, eq⟩
  rcases Int.lt_or_eq_of_le a0 with h | h
  · omega
  · rw [← h] at this
    simp at this
/-- The looks that see what is so. -/
def rightLooks (ls : List S92) (c : Ch) (ks : List S43) : List S43 := ks.map fun x => ⟨x.f0, (rdAt ls c x.f0.toNat).bound⟩
theorem rightLooks_ok (hok : okBook ls ds ks = true) {c : Ch} (hc : OkCh ds c) : okBook ls ds (rightLooks ls c ks) = true := by
  obtain ⟨a, b, k4, d, e, f⟩ := okBook_parts hok
  refine okBook_mk a b (by unfold rightLooks; simpa using k4) d e fun x hx => ?_
  unfold rightLooks at hx
  obtain ⟨y, hy, rfl⟩ := List.mem_map.1 hx
  have := f y hy
  unfold okLook at this ⊢
  simp only [Bool.and_eq_true, decide_eq_true_eq] at this ⊢
  obtain ⟨⟨y0, y1⟩, _⟩ := this
  have h := (boundsK_get hok hc (d := y.f0.toNat) (by omega)).2
  exact ⟨⟨y0, y1⟩, h⟩
theorem rightLooks_good (hok : okBook ls ds ks = true) {c : Ch} (hc : OkCh ds c) : c ∈ good ls ds (rightLooks ls c ks) [] := by
  rw [mem_good']
  refine ⟨hc, fun i hi _ d hd e => ?_⟩
  unfold rightLooks at hi e ⊢
  simp only [List.getElem_map] at e ⊢
  rw [e, Int.toNat_natCast]
end
end Go.Proofs.YthgjedagbgmgmaaDoor.Pr
namespace Go.Proofs.YthgjedagbgmgmaaDoor.Pr
open Go.RowKit Go.Proofs.YthgjedagbgmgmaaDoorW.PrintWords Go.Proofs.YthgjedagbgmgmaaDoorW.PrintLast Go.Proofs.YthgjedagbgmgmaaDoorW.PrintMore
set_option linter.unusedVariables false
set_option linter.unusedSimpArgs false
section
variable {ls : List S92} {ds : List S90} {ks : List S43} {c : Ch}
theorem lastK_run (hok : okBook ls ds ks = true) (hc : OkCh ds c) : (lastK ls c kn0).at_ = (runS ls c (0, -1)).1 := by
  have b := (okBook_parts hok).2.1
  rw [(kn_last hok hc).b, stAt_bound, stAt_last (by rw [hc.1]; omega)]
/-- What Water tells, whatever is true. -/
theorem true_water (hok : okBook ls ds ks = true) (hc : c ∈ good ls ds ks []) : ∃ s t : Int, boundF ls ds ks ((ds.length - 1 : Nat) : Int) = (s, t, 0) ∧
    (waterF ls ds ks = (0, 4) ∨ ∃ a : Nat, waterF ls ds ks = ((a : Int), 0) ∧ a < ds.length ∧ (∃ sky : Int, skyF ls ds ks a = (sky, 0) ∧ 1 ≤ sky ∧ sky ≤ 7 ∧ sky % 2 = 1) ∧ s < (lastK ls (wetC (onF a) 0 c) kn0).at_) := by
  have hT : 0 < (truthsAll ls ds ks []).length := truths_pos.2 ⟨c, hc⟩
  have hd := (okBook_parts hok).2.1
  refine ⟨_, _, boundF_eq hok hT (show ds.length - 1 < ds.length by omega), ?_⟩
  unfold waterF
  rw [if_pos (askCode_true_zero hok hT)]
  rcases waterBest_law (fun d => worstF ls ds.length (onF d) (truthsAll ls ds ks [])) ds.length 0 (-1, worstF ls ds.length neverF (truthsAll ls ds ks [])) with ⟨e, _⟩ | ⟨b, e, h1, h2, h3, _, _⟩
  · exact .inl (by rw [e]; exact wRes_none (by decide))
  · have hb : b < ds.length := by omega
    dsimp only at h3
    refine .inr ⟨b, by rw [e]; exact wRes_some (by omega), hb, ?_, ?_⟩
    · obtain ⟨sky, k1, k2, k3, k4⟩ := sky_told hok hT hb
      refine ⟨sky, k1, k2, k3, ?_⟩
      have k5 := k4 0 (by decide) (by decide)
      rw [show (2 : Int) ^ (0 : Int).toNat = 1 by decide, Int.ediv_one] at k5
      refine k5.2 (Classical.byContradiction fun hno => ?_)
      obtain ⟨q1, t1⟩ := worst_told hok hT neverF
      obtain ⟨q2, t2⟩ := worst_told hok hT (onF b)
      have same : ∀ c ∈ good ls ds ks [], (runS ls (wetC (onF b) 0 c) (0, -1)).1 = (runS ls (wetC neverF 0 c) (0, -1)).1 := by
        intro c' hc'
        rw [wetC_never, wet_same fun hj h0 => ?_]
        refine hno ⟨c', hc', ?_⟩
        rw [List.getD_eq_getElem?_getD, List.getElem?_eq_getElem hj]
        exact h0
      have := (t1.eq t2 (fun c' hc' => ⟨c', hc', same c' hc'⟩) (fun c' hc' => ⟨c', hc', (same c' hc').symm⟩)).1
      omega
    · obtain ⟨q2, t2⟩ := worst_told hok hT (onF b)
      have a := (t2.all c hc).1
      rw [← never_low hok hT]
      have hs := okBook_set hok b (dampDay_ok ((okBook_parts hok).2.2.2.2.1 _ (List.getElem_mem hb)))
      rw [lastK_run hs (damp_up hok hb (mem_good.1 hc).1)]
      omega
theorem okCh_b (hok : okBook ls ds ks = true) (hc : OkCh ds c) {i : Nat} (hi : i < c.length) : 0 ≤ c[i].1 ∧ c[i].1 ≤ 20 ∧ 0 ≤ c[i].2 ∧ c[i].2 ≤ 2 := by
  have hi' : i < ds.length := by rw [← hc.1]; exact hi
  have h1 := hc.2 i hi hi'
  have h2 := (okBook_parts hok).2.2.2.2.1 _ (List.getElem_mem hi')
  unfold okDay at h2
  simp only [Bool.and_eq_true, decide_eq_true_eq] at h2
  omega
end
end Go.Proofs.YthgjedagbgmgmaaDoor.Pr
namespace Go.Proofs.YthgjedagbgmgmaaDoor.Pr
open Go.RowKit Go.Proofs.YthgjedagbgmgmaaDoorW.PrintWords Go.Proofs.YthgjedagbgmgmaaDoorW.PrintLast Go.Proofs.YthgjedagbgmgmaaDoorW.PrintMore
set_option linter.unusedVariables false
set_option linter.unusedSimpArgs false
theorem stepK_full {ls : List S92} {a : Nat} {b la lo s w : Int} (h : a = ls.length) : stepK ls ⟨a, b, la, lo⟩ s w = ⟨a, b, la, lo⟩ := by
  unfold stepK
  rw [if_pos (by dsimp only; omega)]
theorem stepK_lay {ls : List S92} {a : Nat} {b la lo : Int} (h : a < ls.length) {b1 l1 : Int} (hb : b1 = if b < 0 then 0 else b) (hl : l1 = if b < 0 then la + ls[a].f1 else la) : (⟨a, b, la, lo⟩ : Kn).lay ls = ⟨a, b1, l1, lo⟩ := by
  have hy : yardAt ls (a : Int) = ls[a].f1 := by unfold yardAt; rw [Int.toNat_natCast, List.getD_eq_getElem?_getD, List.getElem?_eq_getElem h]; rfl
  unfold Kn.lay
  dsimp only
  by_cases q : b < 0
  · rw [if_pos q] at hb hl ⊢
    rw [hb, hl, hy]
  · rw [if_neg q] at hb hl ⊢
    rw [hb, hl]
theorem stepK_some {ls : List S92} {a : Nat} {b la lo : Int} (h : a < ls.length) {b1 l1 : Int} (hb : b1 = if b < 0 then 0 else b) (hl : l1 = if b < 0 then la + ls[a].f1 else la) (w : Int) :
    stepK ls ⟨a, b, la, lo⟩ 2 w = ⟨a, -1, l1, lo + ls[a].f1⟩ ∧ (ls[a].f0 ≤ b1 + w → stepK ls ⟨a, b, la, lo⟩ 1 w = ⟨((a + 1 : Nat) : Int), -1, l1, lo⟩) ∧ (¬ ls[a].f0 ≤ b1 + w → stepK ls ⟨a, b, la, lo⟩ 1 w = ⟨a, b1 + w, l1, lo⟩) ∧ stepK ls ⟨a, b, la, lo⟩ 0 w = ⟨a, b1, l1, lo⟩ := by
  have hy : yardAt ls (a : Int) = ls[a].f1 := by unfold yardAt; rw [Int.toNat_natCast, List.getD_eq_getElem?_getD, List.getElem?_eq_getElem h]; rfl
  have hn : needAt ls (a : Int) = ls[a].f0 := by unfold needAt; rw [Int.toNat_natCast, List.getD_eq_getElem?_getD, List.getElem?_eq_getElem h]; rfl
  have hlay := stepK_lay (lo := lo) h hb hl
  have hne : ¬ (a : Int) = ls.length := by omega
  unfold stepK
  dsimp only
  rw [hlay, hy, hn]
  simp only [if_neg hne]
  refine ⟨rfl, fun q => ?_, fun q => ?_, rfl⟩
  · rw [if_neg (by decide), if_pos trivial, if_pos q]
    rfl
  · rw [if_neg (by decide), if_pos trivial, if_neg q]
theorem okCh_all {ls : List S92} {ds : List S90} {ks : List S43} {c : Ch} (hok : okBook ls ds ks = true) (hc : OkCh ds c) : c.length ≤ 5 ∧ ∀ i (h : i < c.length), 0 ≤ c[i].1 ∧ c[i].1 ≤ 20 ∧ 0 ≤ c[i].2 ∧ c[i].2 ≤ 2 :=
  ⟨by have := (okBook_parts hok).2.1; rw [hc.1]; omega, fun i hi => okCh_b hok hc hi⟩
end Go.Proofs.YthgjedagbgmgmaaDoor.Pr
namespace Go.Proofs.YthgjedagbgmgmaaDoor.Pr
open Go.RowKit Go.Proofs.YthgjedagbgmgmaaDoorW.PrintWords Go.Proofs.YthgjedagbgmgmaaDoorW.PrintLast Go.Proofs.YthgjedagbgmgmaaDoorW.PrintMore
attribute [local go_sem] max2_int min2_int max_two min_two -- for this text's walks alone
set_option linter.unusedVariables false
set_option linter.unusedSimpArgs false
def macadamref00_In.f (a0 : Int) (a1 : Int) : Option (Bool) := if 0 ≤ a1 then (some ((Go.bits .and .i64 (shr .i64 a0 a1) 1) == 1)) else (none)
set_option maxHeartbeats 8000000 in
set_option maxRecDepth 100000 in
theorem macadamref00_In.calls (a0 : Int) (a1 : Int) (r : Bool) (w : World) (h : macadamref00_In.f a0 a1 = some r) :
    Calls Tryd.prog 61 #[.int .i64 a0, .int .i64 a1] w fun e w' => e = .returned (.bool r) ∧ Drawn0 w w' := by
  have H : (if 0 ≤ a1 then (some ((Go.bits .and .i64 (shr .i64 a0 a1) 1) == 1)) else (none)) = some r := h
  clear h
  by_cases c3 : 0 ≤ a1
  · rw [if_pos c3] at H
    have c3b0 := eq_true c3
    have c3b1 : decide (0 ≤ a1) = true := decide_eq_true c3
    clear c3
    obtain ⟨ji4, hji4⟩ : ∃ j_ : Int, (shr .i64 a0 a1) = j_ := ⟨_, rfl⟩
    replace H : (some ((Go.bits .and .i64 (ji4) 1) == 1)) = some r := by first | (rw [hji4] at H; exact H) | (simp only [hji4] at H ⊢; exact H)
    have hji4_ : (a0 / 2 ^ min a1.toNat 64) = ji4 := hji4
    have hji4z : a1 ≤ 64 → (a0 / 2 ^ a1.toNat) = ji4 := shr_small hji4
    obtain rfl := Option.some.inj H
    go_enter Tryd.func61, Tryd.ntmps61
    go_wp2
    go_ret
    exact ⟨by first | rfl | (simp; done) | (simp only [← hji4] <;> (first | rfl | simp)) | (simp [*]; done), by repeat (first | exact Drawn0.refl _ | apply Drawn0.step)⟩
  · rw [if_neg c3] at H
    exact absurd H (by simp)
def macadamref00_From.f (a0_0 : Int) (a0_1 : Int) (a1 : Int) : Option (Int) := (macadamref00_Wrap.f a1 (wrap64 ((wrap64 (a0_1 - a0_0)) + 1))).bind fun t221 => (some (wrap64 (a0_0 + t221)))
set_option maxHeartbeats 8000000 in
set_option maxRecDepth 100000 in
theorem macadamref00_From.calls (a0_0 : Int) (a0_1 : Int) (a1 : Int) (r : Int) (w : World) (h : macadamref00_From.f a0_0 a0_1 a1 = some r) :
    Calls Tryd.prog 117 #[.agg #[.int .i64 a0_0, .int .i64 a0_1], .int .i64 a1] w fun e w' => e = .returned (.int .i64 r) ∧ Below w.heap.size w w' := by
  have hu32 := Tryd.underlying32
  have HB := Aside0.mk (Below.refl w.heap.size w)
  have H : ((macadamref00_Wrap.f a1 (wrap64 ((wrap64 (a0_1 - a0_0)) + 1))).bind fun t221 => (some (wrap64 (a0_0 + t221)))) = some r := h
  clear h
  replace H := Option.bind_eq_some_iff.mp H
  obtain ⟨t221, A30, H⟩ := H
  replace H : (some (wrap64 (a0_0 + t221))) = some r := H
  have A3 := Aside0.mk A30
  clear A30
  obtain rfl := Option.some.inj H
  go_enter Tryd.func117, Tryd.ntmps117
  go_wp2_with (first | ((with_reducible refine gate_dst (N := 2) rfl ?_); refine box_event ?hg (N := 2) ?hd (cs := #[.int .i64 a0_0, .int .i64 a0_1]) (t := 32) ?hr ?_; (case hd => rfl); (case hg => rfl); (case hr => first | (go_simp; done) | (go_simp; rfl)); intro gb220 hg w4 hbox hb; have n0_ := Aside0.mk (below_step (by repeat (first | (with_reducible first | exact HB.out | apply below_alloc | apply pw_below_drewN | apply below_drew1) | exact HB.out)) hb); have n1_ := Aside0.mk (hbox); have n2_ := Aside0.mk ((by rw [hg]; exact (below_size (by repeat (first | (with_reducible first | exact HB.out | apply below_alloc | apply pw_below_drewN | apply below_drew1) | exact HB.out))) : w.heap.size ≤ gb220)); have n3_ := Aside0.mk ((by rw [hg]; exact (below_size (by repeat (first | (with_reducible first | exact HB.out | apply below_alloc | apply pw_below_drewN | apply below_drew1) | exact HB.out))) : w.heap.size ≤ gb220)); clear HB; have HB := n0_; have BK220 := n1_; have GW220 := n2_; have GE220 := n3_; clear n0_ n1_ n2_ n3_; clear hb hbox hg; have hcz5_0 : w4.cell? ⟨gb220, 0, none⟩ = some (.int .i64 a0_0) := (blk_cell BK220.out 0).trans rfl; have hcz5_1 : w4.cell? ⟨gb220, 1, none⟩ = some (.int .i64 a0_1) := (blk_cell BK220.out 1).trans rfl; have hfz5_0 := blk_frozen BK220.out 0; have hfz5_1 := blk_frozen BK220.out 1) | (go_at_call 47; (with_reducible refine (macadamref00_Wrap.calls a1 (wrap64 ((wrap64 (a0_1 - a0_0)) + 1)) t221 _ A3.out).mono ?_); rintro e w' ⟨rfl, ⟨nd, rfl⟩⟩; (try first | exact ⟨rfl, _, World.drewN_drewN _ _ _⟩ | exact ⟨rfl, _, Eq.trans (World.drewN_drewN _ _ _) (congrArg (World.drewN _) (Nat.add_assoc _ _ _))⟩)))
  repeat (go_quiet (first | ((with_reducible refine gate_dst (N := 2) rfl ?_); refine box_event ?hg (N := 2) ?hd (cs := #[.int .i64 a0_0, .int .i64 a0_1]) (t := 32) ?hr ?_; (case hd => rfl); (case hg => rfl); (case hr => first | (go_simp; done) | (go_simp; rfl)); intro gb220 hg w4 hbox hb; have n0_ := Aside0.mk (below_step (by repeat (first | (with_reducible first | exact HB.out | apply below_alloc | apply pw_below_drewN | apply below_drew1) | exact HB.out)) hb); have n1_ := Aside0.mk (hbox); have n2_ := Aside0.mk ((by rw [hg]; exact (below_size (by repeat (first | (with_reducible first | exact HB.out | apply below_alloc | apply pw_below_drewN | apply below_drew1) | exact HB.out))) : w.heap.size ≤ gb220)); have n3_ := Aside0.mk ((by rw [hg]; exact (below_size (by repeat (first | (with_reducible first | exact HB.out | apply below_alloc | apply pw_below_drewN | apply below_drew1) | exact HB.out))) : w.heap.size ≤ gb220)); clear HB; have HB := n0_; have BK220 := n1_; have GW220 := n2_; have GE220 := n3_; clear n0_ n1_ n2_ n3_; clear hb hbox hg; have hcz5_0 : w4.cell? ⟨gb220, 0, none⟩ = some (.int .i64 a0_0) := (blk_cell BK220.out 0).trans rfl; have hcz5_1 : w4.cell? ⟨gb220, 1, none⟩ = some (.int .i64 a0_1) := (blk_cell BK220.out 1).trans rfl; have hfz5_0 := blk_frozen BK220.out 0; have hfz5_1 := blk_frozen BK220.out 1) | (go_at_call 47; (with_reducible refine (macadamref00_Wrap.calls a1 (wrap64 ((wrap64 (a0_1 - a0_0)) + 1)) t221 _ A3.out).mono ?_); rintro e w' ⟨rfl, ⟨nd, rfl⟩⟩; (try first | exact ⟨rfl, _, World.drewN_drewN _ _ _⟩ | exact ⟨rfl, _, Eq.trans (World.drewN_drewN _ _ _) (congrArg (World.drewN _) (Nat.add_assoc _ _ _))⟩))); try go_wp2_with (first | ((with_reducible refine gate_dst (N := 2) rfl ?_); refine box_event ?hg (N := 2) ?hd (cs := #[.int .i64 a0_0, .int .i64 a0_1]) (t := 32) ?hr ?_; (case hd => rfl); (case hg => rfl); (case hr => first | (go_simp; done) | (go_simp; rfl)); intro gb220 hg w4 hbox hb; have n0_ := Aside0.mk (below_step (by repeat (first | (with_reducible first | exact HB.out | apply below_alloc | apply pw_below_drewN | apply below_drew1) | exact HB.out)) hb); have n1_ := Aside0.mk (hbox); have n2_ := Aside0.mk ((by rw [hg]; exact (below_size (by repeat (first | (with_reducible first | exact HB.out | apply below_alloc | apply pw_below_drewN | apply below_drew1) | exact HB.out))) : w.heap.size ≤ gb220)); have n3_ := Aside0.mk ((by rw [hg]; exact (below_size (by repeat (first | (with_reducible first | exact HB.out | apply below_alloc | apply pw_below_drewN | apply below_drew1) | exact HB.out))) : w.heap.size ≤ gb220)); clear HB; have HB := n0_; have BK220 := n1_; have GW220 := n2_; have GE220 := n3_; clear n0_ n1_ n2_ n3_; clear hb hbox hg; have hcz5_0 : w4.cell? ⟨gb220, 0, none⟩ = some (.int .i64 a0_0) := (blk_cell BK220.out 0).trans rfl; have hcz5_1 : w4.cell? ⟨gb220, 1, none⟩ = some (.int .i64 a0_1) := (blk_cell BK220.out 1).trans rfl; have hfz5_0 := blk_frozen BK220.out 0; have hfz5_1 := blk_frozen BK220.out 1) | (go_at_call 47; (with_reducible refine (macadamref00_Wrap.calls a1 (wrap64 ((wrap64 (a0_1 - a0_0)) + 1)) t221 _ A3.out).mono ?_); rintro e w' ⟨rfl, ⟨nd, rfl⟩⟩; (try first | exact ⟨rfl, _, World.drewN_drewN _ _ _⟩ | exact ⟨rfl, _, Eq.trans (World.drewN_drewN _ _ _) (congrArg (World.drewN _) (Nat.add_assoc _ _ _))⟩))))
  go_ret
  exact ⟨by first | rfl | exact congrArg (fun b_ => Ending.returned (.bool b_)) HT.out | (simp [errW_none, errW_some] <;> rfl) | (simp [*, errW_none, errW_some] <;> rfl), by repeat (first | (with_reducible first | exact HB.out | apply below_alloc | apply pw_below_drewN | apply below_drew1 | refine below_set ?_ GE220.out) | exact HB.out)⟩
def macadamref00_Pick.f (l0 : List Int) (a1 : Int) : Option (Int) := if (l0.length : Int) = 0 then (some 0) else ((macadamref00_Wrap.f a1 (l0.length : Int)).bind fun t222 => (if 0 ≤ t222 then (if t222 < (l0.length : Int) then (some (rd l0 t222)) else (none)) else (none)))
set_option maxHeartbeats 8000000 in
set_option maxRecDepth 100000 in
theorem macadamref00_Pick.calls (A0 : Option Addr) (c0 : Nat) (l0 : List Int) (a1 : Int) (r : Int) (w : World) (hr0 : Kd.C (Kd.int .i64) w A0 l0.length l0) (hc0 : l0.length ≤ c0) (h : macadamref00_Pick.f l0 a1 = some r) :
    Calls Tryd.prog 118 #[.slice A0 l0.length c0, .int .i64 a1] w fun e w' => e = .returned (.int .i64 r) ∧ Drawn0 w w' := by
  have HR0 := Aside0.mk hr0
  have HC0 := Aside0.mk hc0
  clear hr0 hc0
  have H : (if (l0.length : Int) = 0 then (some 0) else ((macadamref00_Wrap.f a1 (l0.length : Int)).bind fun t222 => (if 0 ≤ t222 then (if t222 < (l0.length : Int) then (some (rd l0 t222)) else (none)) else (none)))) = some r := h
  clear h
  by_cases c3 : (l0.length : Int) = 0
  · rw [if_pos c3] at H
    have c3b0 : ((l0.length : Int) == 0) = true := beq_iff_eq.mpr c3
    have c3b1 : ((l0.length : Int) != 0) = false := bne_eq_false_iff_eq.mpr c3
    clear c3
    obtain rfl := Option.some.inj H
    go_enter Tryd.func118, Tryd.ntmps118
    go_wp2
    go_ret
    exact ⟨by first | rfl | (simp; done) | (simp [*]; done), by repeat (first | exact Drawn0.refl _ | apply Drawn0.step)⟩
  · rw [if_neg c3] at H
    have c3b0 : ((l0.length : Int) == 0) = false := beq_eq_false_iff_ne.mpr c3
    have c3b1 : ((l0.length : Int) != 0) = true := bne_iff_ne.mpr c3
    have c3b2 : ¬ (l0 = []) := fun h_ => c3 (by rw [h_]; rfl)
    replace H := Option.bind_eq_some_iff.mp H
    obtain ⟨t222, A40, H⟩ := H
    replace H : (if 0 ≤ t222 then (if t222 < (l0.length : Int) then (some (rd l0 t222)) else (none)) else (none)) = some r := H
    have A4 := Aside0.mk A40
    clear A40
    by_cases c5 : 0 ≤ t222
    · rw [if_pos c5] at H
      have c5b0 : decide (0 ≤ t222) = true := decide_eq_true c5
      clear c5
      by_cases c6 : t222 < (l0.length : Int)
      · rw [if_pos c6] at H
        have c6b0 : decide (t222 < (l0.length : Int)) = true := decide_eq_true c6
        clear c6
        obtain rfl := Option.some.inj H
        go_enter Tryd.func118, Tryd.ntmps118
        go_wp2_with (first | ((with_reducible refine gate_callee (f := 47) rfl ?_); refine goesL_ (some 12) rfl rfl Tryd.func47 (by kernel_rfl) rfl #[.int .i64 a1, .int .i64 (l0.length : Int)] rfl (by (try simp only [List.map_toArray, List.map_cons, List.map_nil]); first | done | rfl | (simp only [List.length_drop, List.length_take]; rfl)) ?_; (with_reducible refine (macadamref00_Wrap.calls a1 (l0.length : Int) t222 _ A4.out).mono ?_); rintro e w' ⟨rfl, ⟨nd, rfl⟩⟩; refine ⟨_, rfl, ?_⟩; have p223 : 0 ≤ (t222 : Int) := of_decide_eq_true (by first | (with_reducible assumption) | assumption); have q223 : t222 < (l0.length : Int) := of_decide_eq_true (by first | (with_reducible assumption) | assumption); obtain ⟨ad223, e223, hx223_0⟩ := Kd.at_int HR0.out t222 p223 q223; cases e223; replace p223 := eq_true p223; replace q223 := eq_true q223))
        go_ret
        exact ⟨by first | rfl | (simp; done) | (simp [*]; done), by repeat (first | exact Drawn0.refl _ | apply Drawn0.step)⟩
      · rw [if_neg c6] at H
        exact absurd H (by simp)
    · rw [if_neg c5] at H
      exact absurd H (by simp)
def macadamlaw07_watered.f (l0 : List Int) (a1 : Int) : Option (List Int) := (some (([] : List Int) : List Int)).bind fun y237 => (if y237.length + l0.length < 17592186044416 then ((some (y237 ++ l0 : List Int)).bind fun y240 => (if 0 ≤ a1 then (if a1 < (y240.length : Int) then (if (rd y240 a1) = 0 then (some (y240.set (a1 : Int).toNat 1)) else (some y240)) else (none)) else (none))) else (none))
set_option maxHeartbeats 8000000 in
set_option maxRecDepth 100000 in
theorem macadamlaw07_watered.calls (A0 : Option Addr) (c0 : Nat) (l0 : List Int) (a1 : Int) (r : List Int) (w : World) (hr0 : Kd.C (Kd.int .i64) w A0 l0.length l0) (hc0 : l0.length ≤ c0) (h : macadamlaw07_watered.f l0 a1 = some r) :
    Calls Tryd.prog 65 #[.slice A0 l0.length c0, .int .i64 a1] w fun e w' => ∃ v0_ : Value, e = .returned (v0_) ∧ Kd.R (Kd.int .i64) 3 w' w.heap.size (fun _ => True) v0_ r ∧ Below w.heap.size w w' := by
  have HR0 := Aside0.mk hr0
  have HC0 := Aside0.mk hc0
  clear hr0 hc0
  have HB := Aside0.mk (Below.refl w.heap.size w)
  have H : ((some (([] : List Int) : List Int)).bind fun y237 => (if y237.length + l0.length < 17592186044416 then ((some (y237 ++ l0 : List Int)).bind fun y240 => (if 0 ≤ a1 then (if a1 < (y240.length : Int) then (if (rd y240 a1) = 0 then (some (y240.set (a1 : Int).toNat 1)) else (some y240)) else (none)) else (none))) else (none))) = some r := h
  clear h
  obtain ⟨y237, hy237⟩ : ∃ y_ : List Int, y_ = (([] : List Int)) := ⟨_, rfl⟩
  replace H : (if y237.length + l0.length < 17592186044416 then ((some (y237 ++ l0 : List Int)).bind fun y240 => (if 0 ≤ a1 then (if a1 < (y240.length : Int) then (if (rd y240 a1) = 0 then (some (y240.set (a1 : Int).toNat 1)) else (some y240)) else (none)) else (none))) else (none)) = some r := by first | (rw [hy237]; with_reducible exact H) | (have H2_ := (Option.bind_some _ _).symm.trans H; rw [hy237]; with_reducible exact H2_) | (have H2_ := (Option.bind_some _ _).symm.trans H; with_reducible exact H2_) | with_reducible exact H | (rw [hy237]; exact H) | exact H
  have Ny237 := Aside0.mk hy237
  clear hy237
  by_cases c3 : y237.length + l0.length < 17592186044416
  · rw [if_pos c3] at H
    have LMc3 := Aside0.mk c3
    clear c3
    obtain ⟨y240, hy240⟩ : ∃ y_ : List Int, y_ = (y237 ++ l0) := ⟨_, rfl⟩
    replace H : (if 0 ≤ a1 then (if a1 < (y240.length : Int) then (if (rd y240 a1) = 0 then (some (y240.set (a1 : Int).toNat 1)) else (some y240)) else (none)) else (none)) = some r := by first | (rw [hy240]; with_reducible exact H) | (have H2_ := (Option.bind_some _ _).symm.trans H; rw [hy240]; with_reducible exact H2_) | (have H2_ := (Option.bind_some _ _).symm.trans H; with_reducible exact H2_) | with_reducible exact H | (rw [hy240]; exact H) | exact H
    have Ny240 := Aside0.mk hy240
    clear hy240
    by_cases c4 : 0 ≤ a1
    · rw [if_pos c4] at H
      have c4b0 : decide (0 ≤ a1) = true := decide_eq_true c4
      clear c4
      by_cases c5 : a1 < (y240.length : Int)
      · rw [if_pos c5] at H
        have c5b0 : decide (a1 < (y240.length : Int)) = true := decide_eq_true c5
        clear c5
        by_cases c6 : (rd y240 a1) = 0
        · rw [if_pos c6] at H
          have c6b0 : ((rd y240 a1) == 0) = true := beq_iff_eq.mpr c6
          have c6b1 : ((rd y240 a1) != 0) = false := bne_eq_false_iff_eq.mpr c6
          clear c6
          obtain ⟨y244, hy244⟩ : ∃ y_ : List Int, y_ = (y240.set (a1 : Int).toNat 1) := ⟨_, rfl⟩
          replace H : (some y244) = some r := by first | (rw [hy244]; with_reducible exact H) | (have H2_ := (Option.bind_some _ _).symm.trans H; rw [hy244]; with_reducible exact H2_) | (have H2_ := (Option.bind_some _ _).symm.trans H; with_reducible exact H2_) | with_reducible exact H | (rw [hy244]; exact H) | exact H
          have Ny244 := Aside0.mk hy244
          clear hy244
          obtain rfl := Option.some.inj H
          go_enter Tryd.func65, Tryd.ntmps65
          go_wp2_with (first | ((with_reducible refine gate_dst (N := 6) rfl ?_); refine Kd.R_lit (Kd.int .i64) _ 3 ?hg (N := 6) ?hd (xs := ([] : List Int)) (inner := []) (ok := fun _ => True) (okp := fun _ => True) ?hr ?hp (fun _ hk => hk) trivial (Below.refl _ _) (Nat.le_refl _) (by simp) ?_; (case hd => rfl); (case hg => rfl); (case hr => first | (go_simp; done) | (go_simp; rfl)); (case hp => exact (Reps.none _ _)); intro v238 w8 ho9 hb hg_ hnew_; clear hg_ hnew_; (first | rw [← Ny237.out] at ho9 | (simp only [Int.reduceToNat] at ho9; rw [← Ny237.out] at ho9)); have n0_ := Aside0.mk (Kd.R_lower ho9 (below_size (by repeat (first | (with_reducible first | exact HB.out | apply below_alloc | apply pw_below_drewN | apply below_drew1) | exact HB.out)))); have n1_ := Aside0.mk (below_step (by repeat (first | (with_reducible first | exact HB.out | apply below_alloc | apply pw_below_drewN | apply below_drew1) | exact HB.out)) hb); clear HB; have HO239 := n0_; have HB := n1_; clear n0_ n1_; clear hb ho9) | ((with_reducible refine gate_builtin (b := .append) (xs := #[.tmp 6, .tmp 7]) rfl ?_); at_builtin; refine Kd.R_append_rows (Kd.int .i64) (w0 := w) w.heap.size rfl (.tmp 6) (.tmp 7) 45 3 (.int .i64 0) 8 rfl Tryd.underlying45 info3 rfl (by decide) (by omega) v238 y237 l0 _ _ _ (fun _ => True) (fun _ => False) rfl rfl ?aO ?aR (fun _ _ h => h) (fun _ h => h.elim) ?aF ?aB ?aS ?aL ?_; (case aR => repeat (first | exact (Kd.C_below HR0.out HB.out) | (with_reducible refine Kd.C_alloc ?_ _) | (with_reducible refine Kd.C_drewN ?_ _) | (with_reducible refine Kd.C_drew ?_))); (case aB => exact (by repeat (first | (with_reducible first | exact HB.out | apply below_alloc | apply pw_below_drewN | apply below_drew1) | exact HB.out))); (case aF => exact (fun _ _ => trivial)); (case aO => exact (by (with_reducible repeat (first | apply Kd.R_alloc | apply Kd.R_drewN | apply Kd.R_drew)); exact HO239.out)); (case aS => exact (below_size (by repeat (first | (with_reducible first | exact HB.out | apply below_alloc | apply pw_below_drewN | apply below_drew1) | exact HB.out)))); (case aL => have := LMc3.out; omega); intro v241 w10 ho hb hg hat; rw [← Ny240.out] at ho; have n0_ := Aside0.mk (hb); have n1_ := Aside0.mk (ho); clear HB; clear HO239; have HB := n0_; have HO242 := n1_; clear n0_ n1_; clear ho hb hg hat; obtain ⟨Ao11, co11, eo11⟩ := Kd.R_slice HO242.out; subst eo11; have p243 : 0 ≤ (a1 : Int) := of_decide_eq_true (by first | (with_reducible assumption) | assumption); have q243 : a1 < (y240.length : Int) := of_decide_eq_true (by first | (with_reducible assumption) | assumption); obtain ⟨ad243, e243, hx243_0⟩ := Kd.at_int (Kd.R_reads' HO242.out).2.2 a1 p243 q243; cases e243; replace p243 := eq_true p243; replace q243 := eq_true q243; have p7 : 0 ≤ (a1 : Int) := of_decide_eq_true (by first | (with_reducible assumption) | assumption); have q7 : (a1 : Int) < ((y240.length : Int) : Int) := of_decide_eq_true (by first | (with_reducible assumption) | assumption); obtain ⟨go7, co7, eo7, gb7, gl7, cl7, HG7⟩ := Kd.R_form HO242.out (by omega); (first | cases eo7 | (injection eo7 with ea_ en_ ec_; (first | subst ea_ | (injection ea_ with ea_; subst ea_)); subst ec_; clear en_)); have GB7 := Aside0.mk gb7; have GG7 := Aside0.mk HG7; clear gb7 gl7 HG7; (first | simp only [add_plain] at hx243_0 | skip); obtain ⟨hx7_0, hf7_0⟩ := Kd.R_celln 0 HO242.out (a1 : Int) p7 q7; replace p7 := eq_true p7; replace q7 := eq_true q7; obtain ⟨hy12_, hz12_⟩ := Kd.R_celln 0 HO242.out (a1 : Int) (of_decide_eq_true (by first | (with_reducible assumption) | assumption)) (of_decide_eq_true (by first | (with_reducible assumption) | assumption)); have HP12 := Kd.R_putg HO242.out (a1 : Int) 1) | ((with_reducible refine gate_store (t := 3) (p := 16) rfl ?_); refine store_event (t := 3) (p := 16) (v := ?vo_w13) (w1 := (w10.setCell ⟨go7, (a1 : Int).toNat, none⟩ (.int .i64 1))) ?hg ?ho ?hn ?hr ?_; (case ho => rfl); (case hg => rfl); (case hn => rfl); (case hr => first | (go_simp; done) | (go_simp; rfl)); intro w13 hw; have hg : w10.grownBy w13 (some go7) := (by rw [hw]; exact HP12.2); have hp_ : Kd.R (Kd.int .i64) 3 w13 w.heap.size (fun _ => True) (.slice (some ⟨go7, 0, none⟩) y240.length co11) y244 := (by rw [hw, Ny244.out]; exact HP12.1); clear HP12; have n0_ := Aside0.mk (hp_); have n1_ := Aside0.mk ((by rw [hw]; exact below_set (HB.out) GB7.out : Below w.heap.size w w13)); clear HO242; clear HB; have HO242 := n0_; have HB := n1_; clear n0_ n1_; clear hg hw hp_))
          go_ret
          exact ⟨_, by first | rfl | exact congrArg (fun b_ => Ending.returned (.bool b_)) HT.out | (simp [errW_none, errW_some] <;> rfl) | (simp [*, errW_none, errW_some] <;> rfl), by (with_reducible repeat (first | apply Kd.R_alloc | apply Kd.R_drewN | apply Kd.R_drew)); exact HO242.out, by repeat (first | (with_reducible first | exact HB.out | apply below_alloc | apply pw_below_drewN | apply below_drew1) | exact HB.out)⟩
        · rw [if_neg c6] at H
          have c6b0 : ((rd y240 a1) == 0) = false := beq_eq_false_iff_ne.mpr c6
          have c6b1 : ((rd y240 a1) != 0) = true := bne_iff_ne.mpr c6
          obtain rfl := Option.some.inj H
          go_enter Tryd.func65, Tryd.ntmps65
          go_wp2_with (first | ((with_reducible refine gate_dst (N := 6) rfl ?_); refine Kd.R_lit (Kd.int .i64) _ 3 ?hg (N := 6) ?hd (xs := ([] : List Int)) (inner := []) (ok := fun _ => True) (okp := fun _ => True) ?hr ?hp (fun _ hk => hk) trivial (Below.refl _ _) (Nat.le_refl _) (by simp) ?_; (case hd => rfl); (case hg => rfl); (case hr => first | (go_simp; done) | (go_simp; rfl)); (case hp => exact (Reps.none _ _)); intro v238 w14 ho15 hb hg_ hnew_; clear hg_ hnew_; (first | rw [← Ny237.out] at ho15 | (simp only [Int.reduceToNat] at ho15; rw [← Ny237.out] at ho15)); have n0_ := Aside0.mk (Kd.R_lower ho15 (below_size (by repeat (first | (with_reducible first | exact HB.out | apply below_alloc | apply pw_below_drewN | apply below_drew1) | exact HB.out)))); have n1_ := Aside0.mk (below_step (by repeat (first | (with_reducible first | exact HB.out | apply below_alloc | apply pw_below_drewN | apply below_drew1) | exact HB.out)) hb); clear HB; have HO239 := n0_; have HB := n1_; clear n0_ n1_; clear hb ho15) | ((with_reducible refine gate_builtin (b := .append) (xs := #[.tmp 6, .tmp 7]) rfl ?_); at_builtin; refine Kd.R_append_rows (Kd.int .i64) (w0 := w) w.heap.size rfl (.tmp 6) (.tmp 7) 45 3 (.int .i64 0) 8 rfl Tryd.underlying45 info3 rfl (by decide) (by omega) v238 y237 l0 _ _ _ (fun _ => True) (fun _ => False) rfl rfl ?aO ?aR (fun _ _ h => h) (fun _ h => h.elim) ?aF ?aB ?aS ?aL ?_; (case aR => repeat (first | exact (Kd.C_below HR0.out HB.out) | (with_reducible refine Kd.C_alloc ?_ _) | (with_reducible refine Kd.C_drewN ?_ _) | (with_reducible refine Kd.C_drew ?_))); (case aB => exact (by repeat (first | (with_reducible first | exact HB.out | apply below_alloc | apply pw_below_drewN | apply below_drew1) | exact HB.out))); (case aF => exact (fun _ _ => trivial)); (case aO => exact (by (with_reducible repeat (first | apply Kd.R_alloc | apply Kd.R_drewN | apply Kd.R_drew)); exact HO239.out)); (case aS => exact (below_size (by repeat (first | (with_reducible first | exact HB.out | apply below_alloc | apply pw_below_drewN | apply below_drew1) | exact HB.out)))); (case aL => have := LMc3.out; omega); intro v241 w16 ho hb hg hat; rw [← Ny240.out] at ho; have n0_ := Aside0.mk (hb); have n1_ := Aside0.mk (ho); clear HB; clear HO239; have HB := n0_; have HO242 := n1_; clear n0_ n1_; clear ho hb hg hat; obtain ⟨Ao17, co17, eo17⟩ := Kd.R_slice HO242.out; subst eo17; have p243 : 0 ≤ (a1 : Int) := of_decide_eq_true (by first | (with_reducible assumption) | assumption); have q243 : a1 < (y240.length : Int) := of_decide_eq_true (by first | (with_reducible assumption) | assumption); obtain ⟨ad243, e243, hx243_0⟩ := Kd.at_int (Kd.R_reads' HO242.out).2.2 a1 p243 q243; cases e243; replace p243 := eq_true p243; replace q243 := eq_true q243))
          go_ret
          exact ⟨_, by first | rfl | exact congrArg (fun b_ => Ending.returned (.bool b_)) HT.out | (simp [errW_none, errW_some] <;> rfl) | (simp [*, errW_none, errW_some] <;> rfl), by (with_reducible repeat (first | apply Kd.R_alloc | apply Kd.R_drewN | apply Kd.R_drew)); exact HO242.out, by repeat (first | (with_reducible first | exact HB.out | apply below_alloc | apply pw_below_drewN | apply below_drew1) | exact HB.out)⟩
      · rw [if_neg c5] at H
        exact absurd H (by simp)
    · rw [if_neg c4] at H
      exact absurd H (by simp)
  · rw [if_neg c3] at H
    exact absurd H (by simp)
end Go.Proofs.YthgjedagbgmgmaaDoor.Pr
namespace Go.Proofs.YthgjedagbgmgmaaDoor.Pr
open Go.RowKit Go.Proofs.YthgjedagbgmgmaaDoorW.PrintWords Go.Proofs.YthgjedagbgmgmaaDoorW.PrintLast Go.Proofs.YthgjedagbgmgmaaDoorW.PrintMore
set_option linter.unusedVariables false
set_option linter.unusedSimpArgs false
theorem reps_lone {α : Type} {R : α → List Value → Prop} {sz : Nat} {p : α} {cs : List Value} (hl : cs.length = sz) (h : R p cs) : Reps R sz [p] cs := by
  refine ⟨by simp [hl], fun i x hx => ?_⟩
  cases i with
  | zero =>
    obtain rfl : p = x := by simpa using hx
    rw [Nat.zero_mul, List.drop_zero, List.take_of_length_le (by omega)]
    exact h
  | succ i => simp at hx
theorem in_law {s j : Int} (h0 : 0 ≤ s) (h7 : s ≤ 7) (j0 : 0 ≤ j) (j2 : j ≤ 2) : macadamref00_In.f s j = some (hasSky s j.toNat) := by
  have hj : j = 0 ∨ j = 1 ∨ j = 2 := by omega
  rcases hj with rfl | rfl | rfl <;> rcases cases8 h0 h7 with rfl | rfl | rfl | rfl | rfl | rfl | rfl | rfl <;> decide +kernel
theorem in_calls {s j : Int} (h0 : 0 ≤ s) (h7 : s ≤ 7) (j0 : 0 ≤ j) (j2 : j ≤ 2) (w : World) : Calls Tryd.prog 61 #[.int .i64 s, .int .i64 j] w fun e w' => e = .returned (.bool (hasSky s j.toNat)) ∧ Below w.heap.size w w' :=
  (macadamref00_In.calls s j _ w (in_law h0 h7 j0 j2)).mono (by rintro e w' ⟨rfl, hd⟩; exact ⟨rfl, hd.below⟩)
theorem sep_new {α : Type} {d : Kd α} {e : Nat} {W : World} {base : Nat} {ok : Nat → Prop} {v v1 : Value} {xs : List α} (h : Kd.R d e W base ok v xs) (hn : ∃ b, v1.ownBlock = some b ∧ W.heap.size ≤ b) : ∀ k, v.ownBlock = some k → v1.ownBlock ≠ some k := by
  intro k hk q
  obtain ⟨_, inner, ho, _⟩ := h
  obtain ⟨b, hb, hle⟩ := hn
  have := own_lt ho k hk
  rw [hb] at q
  injection q with q
  omega
theorem sep_sym {v v1 : Value} (h : ∀ k, v.ownBlock = some k → v1.ownBlock ≠ some k) : ∀ k, v1.ownBlock = some k → v.ownBlock ≠ some k := fun k hk q => h k q hk
theorem sep_app {α : Type} {d : Kd α} {e : Nat} {W : World} {base : Nat} {ok : Nat → Prop} {v u u1 : Value} {xs : List α} (hp : ∀ k, v.ownBlock = some k → u.ownBlock ≠ some k) (h : Kd.R d e W base ok v xs) (hat : u1.ownBlock = u.ownBlock ∨ ∃ b, u1.ownBlock = some b ∧ W.heap.size ≤ b) : ∀ k, v.ownBlock = some k → u1.ownBlock ≠ some k := by
  rcases hat with hat | hat
  · rw [hat]; exact hp
  · exact sep_new h hat
theorem R_grown_ne {α : Type} {d : Kd α} {e : Nat} {W W' : World} {base : Nat} {v : Value} {xs : List α} {row : Option Nat} (hE : d.E.length = 0) (h : Kd.R d e W base (fun _ => True) v xs) (hg : W.grownBy W' row) (hne : ∀ k, v.ownBlock = some k → row ≠ some k) : Kd.R d e W' base (fun _ => True) v xs := by
  obtain ⟨h0, inner, ho, hr⟩ := h
  refine ⟨h0, inner, own_move ho (fun k hk => hg.block k (own_lt ho k hk) (fun q => hne k hk q.symm)), hr.imp_ (fun _ _ hp => ?_)⟩
  have h2 := d.M_mono (ok' := fun _ => False) (fun k hk => by
    obtain ⟨_, _, _, q, hq, _⟩ := hk
    rw [List.eq_nil_of_length_eq_zero hE] at hq
    exact absurd hq (by simp)) (d.M_bound hp)
  exact d.M_mono (fun k hk => hk.elim) (d.M_move (fun k hk => hk.elim) h2)
theorem below_g {W W' : World} (h : W.grownBy W' none) : Below W.heap.size W W' := ⟨h.os, h.tape, h.output, h.size, fun k hk => h.block k hk (by simp)⟩
theorem g_below {W W' : World} (h : Below W.heap.size W W') : W.grownBy W' none := ⟨h.os, h.tape, h.output, h.size, fun k hk _ => h.block k hk⟩
theorem g_refl (W : World) (row : Option Nat) : W.grownBy W row := ⟨rfl, rfl, rfl, Nat.le_refl _, fun _ _ _ => rfl⟩
theorem g_all {W W' : World} {row : Option Nat} (h : W.grownBy W' row) (o : Obj) : W.grownBy (W'.alloc o) row := h.trans (World.grownBy_alloc W' o row)
theorem g_put {W W' : World} {g : Nat} (h : W.grownBy W' (some g)) (j : Nat) (u : Value) : W.grownBy (W'.setCell ⟨g, j, none⟩ u) (some g) :=
  ⟨h.os, h.tape, h.output, (show (W'.setCell ⟨g, j, none⟩ u).heap.size = W'.heap.size by simp) ▸ h.size, fun k hk hne => (Below.heap_setCell W' ⟨g, j, none⟩ u k (fun e => hne (by rw [e]))).trans (h.block k hk hne)⟩
theorem own_row_typed {α : Type} {d : Kd α} {e : Nat} {W : World} {base : Nat} {ok : Nat → Prop} {v : Value} {xs : List α} (h : Kd.R d e W base ok v xs) (g : Nat) (hg : v.ownBlock = some g) : ∃ cells, W.heap[g]? = some (.cells cells e (0, 0)) := by
  obtain ⟨_, inner, ho, _⟩ := h
  exact own_typed ho g hg
theorem own_ne {α : Type} {d : Kd α} {e : Nat} {W : World} {base : Nat} {ok : Nat → Prop} {v : Value} {xs : List α} (h : Kd.R d e W base ok v xs) {g : Nat} {cs : Array Value} {t : TypeId} (hb : W.heap[g]? = some (.cells cs t (0, 0))) (ht : t ≠ e) : some g ≠ v.ownBlock := by
  intro q
  obtain ⟨cells, hc⟩ := own_row_typed h g q.symm
  rw [hb] at hc
  injection hc with hc
  injection hc with _ hc _
  exact ht hc
theorem R_typed_grown {α : Type} {d : Kd α} {e : Nat} {W W' : World} {base : Nat} {ok : Nat → Prop} {v : Value} {xs : List α} {row : Option Nat} (h : Kd.R d e W base ok v xs) (hg : W.grownBy W' row) (hrow : ∀ g, row = some g → ∃ cells t, W.heap[g]? = some (.cells cells t (0, 0)) ∧ ∀ q, q ∈ e :: d.E → q ≠ t) : Kd.R d e W' base ok v xs := by
  cases row with
  | none => exact Kd.R_step h fun k _ hk => hg.block k hk (by simp)
  | some g =>
    obtain ⟨cells, t, hb, ht⟩ := hrow g rfl
    exact Kd.R_mono (Kd.R_step (Kd.R_types h hb ht) fun k hk hlt => hg.block k hlt (fun q => hk.2 (Option.some.inj q))) (fun _ hk => hk.1)
end Go.Proofs.YthgjedagbgmgmaaDoor.Pr
namespace Go.Proofs.YthgjedagbgmgmaaDoor.Pr
open Go.RowKit Go.Proofs.YthgjedagbgmgmaaDoorW.PrintWords Go.Proofs.YthgjedagbgmgmaaDoorW.PrintLast Go.Proofs.YthgjedagbgmgmaaDoorW.PrintMore
set_option linter.unusedVariables false
set_option linter.unusedSimpArgs false
theorem rd_at {l : List Int} {i : Nat} (h : i < l.length) : rd l (i : Int) = l[i] := by unfold rd; rw [Int.toNat_natCast, List.getD_eq_getElem?_getD, List.getElem?_eq_getElem h]; rfl
/-- The numbers of a set. -/
def allL (set : Int) : Nat → Nat → List Int
  | 0, _ => []
  | d + 1, i => if hasSky set i then (i : Int) :: allL set d (i + 1) else allL set d (i + 1)
theorem allL_len (set : Int) : ∀ d i, (allL set d i).length ≤ d := by
  intro d
  induction d with
  | zero => intro i; exact Nat.le_refl _
  | succ d ih =>
    intro i
    have := ih (i + 1)
    unfold allL
    split
    · simp only [List.length_cons]; omega
    · omega
theorem allL_mem (set : Int) : ∀ (d i : Nat) (x : Int), x ∈ allL set d i ↔ ∃ j : Nat, x = (j : Int) ∧ i ≤ j ∧ j < i + d ∧ hasSky set j = true := by
  intro d
  induction d with
  | zero =>
    intro i x
    unfold allL
    refine ⟨fun h => absurd h (by simp), fun ⟨j, _, h1, h2, _⟩ => by omega⟩
  | succ d ih =>
    intro i x
    unfold allL
    by_cases h : hasSky set i = true
    · rw [if_pos h, List.mem_cons, ih]
      constructor
      · rintro (rfl | ⟨j, rfl, h1, h2, h3⟩)
        · exact ⟨i, rfl, Nat.le_refl _, by omega, h⟩
        · exact ⟨j, rfl, by omega, by omega, h3⟩
      · rintro ⟨j, rfl, h1, h2, h3⟩
        by_cases e : j = i
        · left; rw [e]
        · exact .inr ⟨j, rfl, by omega, by omega, h3⟩
    · rw [if_neg h, ih]
      constructor
      · rintro ⟨j, rfl, h1, h2, h3⟩
        exact ⟨j, rfl, by omega, by omega, h3⟩
      · rintro ⟨j, rfl, h1, h2, h3⟩
        have : j ≠ i := by rintro rfl; exact h h3
        exact ⟨j, rfl, by omega, by omega, h3⟩
theorem allL_step (set : Int) (d i : Nat) : allL set (d + 1) i = (if hasSky set i then [(i : Int)] else []) ++ allL set d (i + 1) := by
  conv => lhs; unfold allL
  split <;> simp
theorem in_law' {s : Int} {j : Nat} (h0 : 0 ≤ s) (h7 : s ≤ 15) (j2 : j ≤ 3) : macadamref00_In.f s j = some (hasSky s j) := by
  have hj : j = 0 ∨ j = 1 ∨ j = 2 ∨ j = 3 := by omega
  have hs : s = 0 ∨ s = 1 ∨ s = 2 ∨ s = 3 ∨ s = 4 ∨ s = 5 ∨ s = 6 ∨ s = 7 ∨ s = 8 ∨ s = 9 ∨ s = 10 ∨ s = 11 ∨ s = 12 ∨ s = 13 ∨ s = 14 ∨ s = 15 := by omega
  rcases hj with rfl | rfl | rfl | rfl <;> rcases hs with rfl | rfl | rfl | rfl | rfl | rfl | rfl | rfl | rfl | rfl | rfl | rfl | rfl | rfl | rfl | rfl <;> decide +kernel
theorem in_calls' {s : Int} {j : Nat} (h0 : 0 ≤ s) (h7 : s ≤ 15) (j2 : j ≤ 3) (w : World) : Calls Tryd.prog 61 #[.int .i64 s, .int .i64 (j : Int)] w fun e w' => e = .returned (.bool (hasSky s j)) ∧ Below w.heap.size w w' :=
  (macadamref00_In.calls s j _ w (in_law' h0 h7 j2)).mono (by rintro e w' ⟨rfl, hd⟩; exact ⟨rfl, hd.below⟩)
end Go.Proofs.YthgjedagbgmgmaaDoor.Pr
namespace Go.Proofs.YthgjedagbgmgmaaDoor.Pr
open Go.RowKit Go.Proofs.YthgjedagbgmgmaaDoorW.PrintWords Go.Proofs.YthgjedagbgmgmaaDoorW.PrintLast Go.Proofs.YthgjedagbgmgmaaDoorW.PrintMore
set_option linter.unusedVariables false
set_option linter.unusedSimpArgs false
set_option maxHeartbeats 2000000 in
set_option maxRecDepth 100000 in
theorem all_calls (set : Int) (n : Nat) (h0 : 0 ≤ set) (h15 : set ≤ 15) (hn : n ≤ 4) (w : World) :
    Calls Tryd.prog 67 #[.int .i64 set, .int .i64 (n : Int)] w fun e w' => ∃ A c, e = .returned (.slice A (allL set n 0).length c) ∧ Kd.C (Kd.int .i64) w' A (allL set n 0).length (allL set n 0) ∧ (allL set n 0).length ≤ c ∧ Below w.heap.size w w' := by
  go_enter Tryd.func67, Tryd.ntmps67
  have HB := Lib.hid (Below.refl w.heap.size w)
  go_wp2_with ((with_reducible refine gate_dst (N := 7) rfl ?_); refine Kd.R_lit (Kd.int .i64) (w0 := w) w.heap.size 3 ?hg (N := 7) ?hd (xs := ([] : List Int)) (inner := []) (ok := fun _ => True) (okp := fun _ => True) ?hr ?hp (fun _ hk => hk) trivial HB.out HB.out.size (by simp) ?_; (case hd => rfl); (case hg => rfl); (case hr => first | (go_simp; done) | (go_simp; rfl)); (case hp => exact (Reps.none _ _)); intro va W1 ho hb hg hnew_; clear hnew_; replace HB := Lib.hid (hb); have Ra := Lib.hid ho; clear ho hb hg)
  obtain ⟨Aa, ca, ea⟩ := Kd.R_slice Ra.out
  subst ea
  go_loopg [5, 6] (n) (fun gk v5 v6 wr => ∃ (k : Nat) (A : Option Addr) (m c : Nat) (pre : List Int), v5 = .slice A m c ∧ v6 = .int .i64 (k : Int) ∧ Aside0 (k + gk = n) ∧ Aside0 (Kd.R (Kd.int .i64) 3 wr w.heap.size (fun _ => True) (.slice A m c) pre) ∧ Aside0 (allL set n 0 = pre ++ allL set gk k) ∧ Aside0 (Below w.heap.size w wr))
  case atStart => exact ⟨0, Aa, _, ca, [], rfl, rfl, ⟨by omega⟩, ⟨Ra.out⟩, ⟨rfl⟩, ⟨HB.out⟩⟩
  case round =>
    clear HB Ra
    obtain ⟨k, A, m, c, pre, rfl, rfl, HK, Ra, HS, HB⟩ := hrel
    cases gk with
    | zero =>
      have hge : ¬ k < n := by have := HK.out; omega
      go_wp2
      go_ret
      have hp : allL set n 0 = pre := by rw [HS.out]; exact List.append_nil _
      have hr := Kd.R_reads' Ra.out
      rw [hp]
      exact ⟨A, c, by rw [← hr.1]; rfl, hr.2.2, by rw [← hr.1]; exact hr.2.1, HB.out⟩
    | succ g1 =>
      have hlt : k < n := by have := HK.out; omega
      have hpl : pre.length ≤ n := by have := congrArg List.length HS.out; rw [List.length_append] at this; have := allL_len set n 0; omega
      go_wp2_with fail
      refine (in_calls' h0 h15 (by omega) _).mono ?_
      rintro e W1 ⟨rfl, hb⟩
      have hg := g_below hb
      replace Ra := Lib.hid (R_typed_grown Ra.out hg (fun g e => by cases e))
      replace HB := Lib.hid (HB.out.trans (below_weaken hb HB.out.size))
      clear hb hg
      cases hq : hasSky set k with
      | true =>
        go_wp2_with ((with_reducible refine gate_builtin (b := .append) (xs := #[.tmp 16, .tmp 18]) rfl ?_); at_builtin; refine Kd.R_append (Kd.int .i64) (w0 := w) w.heap.size rfl (.tmp 16) (.tmp 18) 45 3 (.int .i64 0) 8 rfl Tryd.underlying45 info3 rfl (by decide) (by omega) (.slice A m c) pre ((k : Int)) [.int .i64 (k : Int)] (fun _ => True) (fun _ => False) rfl rfl (rfl) (fun _ hk => hk.elim) (fun _ _ => trivial) Ra.out HB.out HB.out.size (by omega) ?_; intro vb W2 ho hb hg hat; replace HB := Lib.hid (hb); clear Ra; obtain ⟨xb, hx_⟩ : ∃ l_, l_ = (pre ++ [(k : Int)]) := ⟨_, rfl⟩; rw [← hx_] at ho; have Eb := Lib.hid hx_; clear hx_; have Rb := Lib.hid ho; clear ho hb hg hat; obtain ⟨Ab, cb, eb⟩ := Kd.R_slice Rb.out; subst eb)
        go_roundg g1
        case measure => omega
        case rel => exact ⟨k + 1, Ab, _, cb, _, rfl, by go_num, ⟨by have := HK.out; omega⟩, ⟨Rb.out⟩, ⟨by rw [Eb.out, HS.out, allL_step, hq]; simp⟩, ⟨HB.out⟩⟩

      | false =>
        go_wp2
        go_roundg g1
        case measure => omega
        case rel => exact ⟨k + 1, A, m, c, pre, rfl, by go_num, ⟨by have := HK.out; omega⟩, ⟨Ra.out⟩, ⟨by rw [HS.out, allL_step, hq]; simp⟩, ⟨HB.out⟩⟩
end Go.Proofs.YthgjedagbgmgmaaDoor.Pr
namespace Go.Proofs.YthgjedagbgmgmaaDoor.Pr
open Go.RowKit Go.Proofs.YthgjedagbgmgmaaDoorW.PrintWords Go.Proofs.YthgjedagbgmgmaaDoorW.PrintLast Go.Proofs.YthgjedagbgmgmaaDoorW.PrintMore
set_option linter.unusedVariables false
set_option linter.unusedSimpArgs false
theorem cell_int {w : World} {A : Option Addr} {l : List Int} (h : Kd.C (Kd.int .i64) w A l.length l) {i : Nat} (hi : i < l.length) : ∃ b o, A = some ⟨b, o, none⟩ ∧ b < w.heap.size ∧ w.cell? ⟨b, o + i, none⟩ = some (.int .i64 l[i]) := by
  have hf : FRow eI 1 w A l := FRow.of_C h (by decide) (fun x c hk => hk)
  rcases hf with rfl | ⟨b, o, e, hlt, hc⟩
  · simp at hi
  · refine ⟨b, o, e, hlt, ?_⟩
    have := hc i l[i] (List.getElem?_eq_getElem hi) 0 (.int .i64 l[i]) rfl
    rwa [Nat.mul_one, Nat.add_zero] at this
set_option maxHeartbeats 1000000 in
set_option maxRecDepth 100000 in
theorem run_calls (A0 A1 A2 Aw As : Option Addr) (c0 n1 c1 n2 c2 cw cs : Nat) (l0 : List S92) (ch : Ch) (w : World) (hr0 : Kd.C k92 w A0 l0.length l0) (h4 : l0.length ≤ 4) (hlb : ∀ i (h : i < l0.length), 1 ≤ l0[i].f0 ∧ l0[i].f0 ≤ 30 ∧ 1 ≤ l0[i].f1 ∧ l0[i].f1 ≤ 50) (h5 : ch.length ≤ 5) (hbd : ∀ i (h : i < ch.length), 0 ≤ ch[i].1 ∧ ch[i].1 ≤ 20 ∧ 0 ≤ ch[i].2 ∧ ch[i].2 ≤ 2)
    (hrw : Kd.C (Kd.int .i64) w Aw (ch.map (·.1)).length (ch.map (·.1))) (hrs : Kd.C (Kd.int .i64) w As (ch.map (·.2)).length (ch.map (·.2))) :
    Calls Tryd.prog 64 #[.agg #[.slice A0 l0.length c0, .slice A1 n1 c1, .slice A2 n2 c2], .slice Aw ch.length cw, .slice As ch.length cs] w fun e w' => ∃ A c, e = .returned (.agg #[.slice Aw ch.length cw, .slice As ch.length cs, .slice A (boundsK l0 ch).length c, .int .i64 (lastK l0 ch kn0).laid, .int .i64 (lastK l0 ch kn0).lost]) ∧ Kd.R (Kd.int .i64) 3 w' w.heap.size (fun _ => True) (.slice A (boundsK l0 ch).length c) (boundsK l0 ch) ∧ Below w.heap.size w w' := by
  have HLY := Lib.hid (fun (i : Nat) (hi : i < l0.length) => at92 (row92 hr0) i hi)
  have HLB := Lib.hid hlb
  have HBD := Lib.hid hbd
  have HWS : Hid (∀ i (h : i < ch.length), (∃ b o, Aw = some ⟨b, o, none⟩ ∧ b < w.heap.size ∧ w.cell? ⟨b, o + i, none⟩ = some (.int .i64 ch[i].1)) ∧ (∃ b o, As = some ⟨b, o, none⟩ ∧ b < w.heap.size ∧ w.cell? ⟨b, o + i, none⟩ = some (.int .i64 ch[i].2))) := Lib.hid fun i hi => ⟨by
      have := cell_int hrw (i := i) (by simpa using hi)
      simpa using this, by
      have := cell_int hrs (i := i) (by simpa using hi)
      simpa using this⟩
  clear hr0 hlb hbd hrw hrs
  go_enter Tryd.func64, Tryd.ntmps64
  have HB := Lib.hid (Below.refl w.heap.size w)
  go_wp2
  obtain ⟨W1, hnw⟩ : ∃ W, W = (((w.alloc (.cells #[.slice A0 l0.length c0, .slice A1 n1 c1, .slice A2 n2 c2] 26)).alloc (.cells #[.slice none 0 0, .slice none 0 0, .slice none 0 0, .int .i64 0, .int .i64 0] 77)).alloc (.cells #[.slice Aw ch.length cw, .slice As ch.length cs, .slice none 0 0, .int .i64 0, .int .i64 0] 77)) := ⟨_, rfl⟩
  rw [← hnw]
  have hg : w.grownBy W1 (none) := by rw [hnw]; exact (g_all (g_all (g_all (g_refl w (none)) (.cells #[.slice A0 l0.length c0, .slice A1 n1 c1, .slice A2 n2 c2] 26)) (.cells #[.slice none 0 0, .slice none 0 0, .slice none 0 0, .int .i64 0, .int .i64 0] 77)) (.cells #[.slice Aw ch.length cw, .slice As ch.length cs, .slice none 0 0, .int .i64 0, .int .i64 0] 77))
  have HK := Lib.hid (show W1.heap[w.heap.size]? = some (.cells #[.slice A0 l0.length c0, .slice A1 n1 c1, .slice A2 n2 c2] 26 (0, 0)) by rw [hnw]; exact blk_alloc (blk_alloc (blk_at w (.cells #[.slice A0 l0.length c0, .slice A1 n1 c1, .slice A2 n2 c2] 26) _ (by simp)) (.cells #[.slice none 0 0, .slice none 0 0, .slice none 0 0, .int .i64 0, .int .i64 0] 77)) (.cells #[.slice Aw ch.length cw, .slice As ch.length cs, .slice none 0 0, .int .i64 0, .int .i64 0] 77))
  have HZ := Lib.hid (show W1.heap[w.heap.size + 1]? = some (.cells #[.slice none 0 0, .slice none 0 0, .slice none 0 0, .int .i64 0, .int .i64 0] 77 (0, 0)) by rw [hnw]; exact blk_alloc (blk_at (w.alloc (.cells #[.slice A0 l0.length c0, .slice A1 n1 c1, .slice A2 n2 c2] 26)) (.cells #[.slice none 0 0, .slice none 0 0, .slice none 0 0, .int .i64 0, .int .i64 0] 77) _ (by simp)) (.cells #[.slice Aw ch.length cw, .slice As ch.length cs, .slice none 0 0, .int .i64 0, .int .i64 0] 77))
  have HX := Lib.hid (show W1.heap[w.heap.size + 1 + 1]? = some (.cells #[.slice Aw ch.length cw, .slice As ch.length cs, .slice none 0 0, .int .i64 0, .int .i64 0] 77 (0, 0)) by rw [hnw]; exact blk_at ((w.alloc (.cells #[.slice A0 l0.length c0, .slice A1 n1 c1, .slice A2 n2 c2] 26)).alloc (.cells #[.slice none 0 0, .slice none 0 0, .slice none 0 0, .int .i64 0, .int .i64 0] 77)) (.cells #[.slice Aw ch.length cw, .slice As ch.length cs, .slice none 0 0, .int .i64 0, .int .i64 0] 77) _ (by simp))
  replace HB := Lib.hid (HB.out.grown hg HB.out.size (fun k e => by cases e))
  clear hg hnw
  go_loopg [8, 9, 10] (ch.length) (fun gk v8 v9 v10 wr => ∃ (d a : Nat) (by_ laid lost : Int) (A : Option Addr) (m c : Nat) (pre : List Int), v8 = .int .i64 (a : Int) ∧ v9 = .int .i64 by_ ∧ v10 = .int .i64 (d : Int) ∧ Aside0 (d + gk = ch.length) ∧ Aside0 (boundsK l0 ch = pre ++ (knFrom l0 (ch.drop d) ⟨a, by_, laid, lost⟩).map Kn.at_) ∧ Aside0 (lastK l0 ch kn0 = lastK l0 (ch.drop d) ⟨a, by_, laid, lost⟩) ∧ Aside0 (a ≤ l0.length ∧ -1 ≤ by_ ∧ by_ ≤ 20 * (d : Int) ∧ 0 ≤ laid ∧ laid ≤ 50 * (d : Int) ∧ 0 ≤ lost ∧ lost ≤ 50 * (d : Int) ∧ pre.length ≤ d) ∧ Aside0 (wr.heap[w.heap.size]? = some (.cells #[.slice A0 l0.length c0, .slice A1 n1 c1, .slice A2 n2 c2] 26 (0, 0))) ∧ Aside0 (wr.heap[w.heap.size + 1]? = some (.cells #[.slice none 0 0, .slice none 0 0, .slice none 0 0, .int .i64 0, .int .i64 0] 77 (0, 0))) ∧ Aside0 (wr.heap[w.heap.size + 1 + 1]? = some (.cells #[.slice Aw ch.length cw, .slice As ch.length cs, .slice A m c, .int .i64 laid, .int .i64 lost] 77 (0, 0))) ∧ Aside0 (Kd.R (Kd.int .i64) 3 wr w.heap.size (fun _ => True) (.slice A m c) pre) ∧ Aside0 (Below w.heap.size w wr))
  case atStart => exact ⟨0, 0, -1, 0, 0, none, 0, 0, [], rfl, rfl, rfl, ⟨by omega⟩, ⟨rfl⟩, ⟨rfl⟩, ⟨by omega, by omega, by omega, by omega, by omega, by omega, by omega, by simp⟩, ⟨HK.out⟩, ⟨HZ.out⟩, ⟨HX.out⟩, ⟨Kd.R_nil _ _ _ _ _⟩, ⟨HB.out⟩⟩
  case round =>
    clear HB HK HZ HX
    obtain ⟨d, a, by_, laid, lost, A, m, c, pre, rfl, rfl, rfl, HKK, HS, HL, HI, HK, HZ, HX, Ra, HB⟩ := hrel
    cases gk with
    | zero =>
      have hge : ¬ d < ch.length := by have := HKK.out; omega
      have hp : boundsK l0 ch = pre := by rw [HS.out, List.drop_of_length_le (by omega)]; exact List.append_nil _
      have hl : lastK l0 ch kn0 = ⟨a, by_, laid, lost⟩ := by rw [HL.out, List.drop_of_length_le (by omega)]; rfl
      have HP := Lib.hid hp
      have HLL := Lib.hid hl
      clear hp hl
      have hm := (Kd.R_reads' Ra.out).1
      subst hm
      have cK_0 := (blk_cell HK.out 0).trans rfl
      have cK_1 := (blk_cell HK.out 1).trans rfl
      have cK_2 := (blk_cell HK.out 2).trans rfl
      have lK := blk_lt HK.out
      have cZ_0 := (blk_cell HZ.out 0).trans rfl
      have cZ_1 := (blk_cell HZ.out 1).trans rfl
      have cZ_2 := (blk_cell HZ.out 2).trans rfl
      have cZ_3 := (blk_cell HZ.out 3).trans rfl
      have cZ_4 := (blk_cell HZ.out 4).trans rfl
      have fZ_0 := blk_frozen HZ.out 0
      have fZ_1 := blk_frozen HZ.out 1
      have fZ_2 := blk_frozen HZ.out 2
      have fZ_3 := blk_frozen HZ.out 3
      have fZ_4 := blk_frozen HZ.out 4
      have lZ := blk_lt HZ.out
      have cX_0 := (blk_cell HX.out 0).trans rfl
      have cX_1 := (blk_cell HX.out 1).trans rfl
      have cX_2 := (blk_cell HX.out 2).trans rfl
      have cX_3 := (blk_cell HX.out 3).trans rfl
      have cX_4 := (blk_cell HX.out 4).trans rfl
      have lX := blk_lt HX.out
      go_wp2
      have hz := (blk_put (blk_put (blk_put (blk_put (blk_put HZ.out 0 (.slice Aw ch.length cw) rfl) 1 (.slice As ch.length cs) rfl) 2 (.slice A pre.length c) rfl) 3 (.int .i64 laid) rfl) 4 (.int .i64 lost) rfl)
      have hg := (g_put (g_put (g_put (g_put (g_put (g_refl wr (some (w.heap.size + 1))) 0 (.slice Aw ch.length cw)) 1 (.slice As ch.length cs)) 2 (.slice A pre.length c)) 3 (.int .i64 laid)) 4 (.int .i64 lost))
      have hR := R_typed_grown Ra.out hg (fun g e => by injection e with e; subst e; exact ⟨_, _, HZ.out, by decide⟩)
      rw [HP.out, HLL.out]
      refine bodyPost_ret (results_cell_row rfl _ _ (w.heap.size + 1) 77 #[.slice Aw ch.length cw, .slice As ch.length cs, .slice A pre.length c, .int .i64 laid, .int .i64 lost] (0, 0) _ rfl hz Tryd.underlying77 rfl (by kernel_rfl)) rfl ⟨A, c, rfl, hR, ?_⟩
      exact HB.out.grown hg HB.out.size (fun k e => by injection e with e; have := HB.out.size; omega)

    | succ g1 =>
      have hlt : d < ch.length := by have := HKK.out; omega
      have hd5 : d < 5 := by omega
      obtain ⟨i1, i2, i3, i4, i5, i6, i7, i8⟩ := HI.out
      obtain ⟨⟨wv, sv⟩, hp⟩ : ∃ p, p = ch[d] := ⟨_, rfl⟩
      obtain ⟨hw0, hw1⟩ := HWS.out d hlt
      rw [← hp] at hw0 hw1
      obtain ⟨kw0, kw20, ks0, ks2⟩ := HBD.out d hlt
      rw [← hp] at kw0 kw20 ks0 ks2
      dsimp only at hw0 hw1 kw0 kw20 ks0 ks2
      have hdr : ch.drop d = (wv, sv) :: ch.drop (d + 1) := by rw [List.drop_eq_getElem_cons hlt, hp]
      have HDR := Lib.hid hdr
      obtain ⟨bw, ow, eW, hbw, hcw0⟩ := hw0
      obtain ⟨bs, os, eS, hbs, hcs0⟩ := hw1
      have HWW := Lib.hid hcw0
      have HSS := Lib.hid hcs0
      have HEW := Lib.hid eW
      have HES := Lib.hid eS
      clear hp hcw0 hcs0 hdr eW eS
      have hEW := HEW.out
      have hES := HES.out
      subst hEW hES
      by_cases hat : a = l0.length
      · skip
        have HAT := Lib.hid hat
        clear hat
        have hal : ¬ a < l0.length := by have := HAT.out; omega
        have cK_0 := (blk_cell HK.out 0).trans rfl
        have cK_1 := (blk_cell HK.out 1).trans rfl
        have cK_2 := (blk_cell HK.out 2).trans rfl
        have lK := blk_lt HK.out
        have cZ_0 := (blk_cell HZ.out 0).trans rfl
        have cZ_1 := (blk_cell HZ.out 1).trans rfl
        have cZ_2 := (blk_cell HZ.out 2).trans rfl
        have cZ_3 := (blk_cell HZ.out 3).trans rfl
        have cZ_4 := (blk_cell HZ.out 4).trans rfl
        have lZ := blk_lt HZ.out
        have cX_0 := (blk_cell HX.out 0).trans rfl
        have cX_1 := (blk_cell HX.out 1).trans rfl
        have cX_2 := (blk_cell HX.out 2).trans rfl
        have cX_3 := (blk_cell HX.out 3).trans rfl
        have cX_4 := (blk_cell HX.out 4).trans rfl
        have fX_0 := blk_frozen HX.out 0
        have fX_1 := blk_frozen HX.out 1
        have fX_2 := blk_frozen HX.out 2
        have fX_3 := blk_frozen HX.out 3
        have fX_4 := blk_frozen HX.out 4
        have lX := blk_lt HX.out
        go_upto_region 5 with ((with_reducible refine gate_builtin (b := .append) (xs := #[.tmp 90, .tmp 92]) rfl ?_); at_builtin; refine Kd.R_append (Kd.int .i64) (w0 := w) w.heap.size rfl (.tmp 90) (.tmp 92) 45 3 (.int .i64 0) 8 rfl Tryd.underlying45 info3 rfl (by decide) (by omega) (.slice A m c) pre ((a : Int)) [.int .i64 (a : Int)] (fun _ => True) (fun _ => False) rfl rfl (rfl) (fun _ hk => hk.elim) (fun _ _ => trivial) Ra.out HB.out HB.out.size (by omega) ?_; intro vb W1 ho hb hg hat; clear cK_0 cK_1 cK_2 lK cZ_0 cZ_1 cZ_2 cZ_3 cZ_4 lZ cX_0 cX_1 cX_2 cX_3 cX_4 fX_0 fX_1 fX_2 fX_3 fX_4 lX; replace HK := Lib.hid (blk_grown HK.out hg (own_ne Ra.out HK.out (by decide))); replace HZ := Lib.hid (blk_grown HZ.out hg (own_ne Ra.out HZ.out (by decide))); replace HX := Lib.hid (blk_grown HX.out hg (own_ne Ra.out HX.out (by decide))); replace HB := Lib.hid (hb); clear Ra; obtain ⟨xb, hx_⟩ : ∃ l_, l_ = (pre ++ [(a : Int)]) := ⟨_, rfl⟩; rw [← hx_] at ho; have Eb := Lib.hid hx_; clear hx_; have Rb := Lib.hid ho; clear ho hb hg hat; obtain ⟨Ab, cb, eb⟩ := Kd.R_slice Rb.out; subst eb; have cK_0 := (blk_cell HK.out 0).trans rfl; have cK_1 := (blk_cell HK.out 1).trans rfl; have cK_2 := (blk_cell HK.out 2).trans rfl; have lK := blk_lt HK.out; have cZ_0 := (blk_cell HZ.out 0).trans rfl; have cZ_1 := (blk_cell HZ.out 1).trans rfl; have cZ_2 := (blk_cell HZ.out 2).trans rfl; have cZ_3 := (blk_cell HZ.out 3).trans rfl; have cZ_4 := (blk_cell HZ.out 4).trans rfl; have lZ := blk_lt HZ.out; have cX_0 := (blk_cell HX.out 0).trans rfl; have cX_1 := (blk_cell HX.out 1).trans rfl; have cX_2 := (blk_cell HX.out 2).trans rfl; have cX_3 := (blk_cell HX.out 3).trans rfl; have cX_4 := (blk_cell HX.out 4).trans rfl; have fX_0 := blk_frozen HX.out 0; have fX_1 := blk_frozen HX.out 1; have fX_2 := blk_frozen HX.out 2; have fX_3 := blk_frozen HX.out 3; have fX_4 := blk_frozen HX.out 4; have lX := blk_lt HX.out)
        clear cK_0 cK_1 cK_2 lK cZ_0 cZ_1 cZ_2 cZ_3 cZ_4 lZ cX_0 cX_1 cX_2 cX_3 cX_4 fX_0 fX_1 fX_2 fX_3 fX_4 lX
        obtain ⟨W2, hnw⟩ : ∃ W, W = (W1.setCell ⟨w.heap.size + 1 + 1, 2, none⟩ (.slice Ab xb.length cb)) := ⟨_, rfl⟩
        rw [← hnw]
        have hg : W1.grownBy W2 (some (w.heap.size + 1 + 1)) := by rw [hnw]; exact (g_put (g_refl W1 (some (w.heap.size + 1 + 1))) 2 (.slice Ab xb.length cb))
        have HXq := Lib.hid (show W2.heap[w.heap.size + 1 + 1]? = some (.cells #[.slice (some ⟨bw, ow, none⟩) ch.length cw, .slice (some ⟨bs, os, none⟩) ch.length cs, .slice Ab xb.length cb, .int .i64 laid, .int .i64 lost] 77 (0, 0)) by rw [hnw]; exact blk_put (HX.out) 2 (.slice Ab xb.length cb) rfl)
        have HOLD := HX
        replace Rb := Lib.hid (R_typed_grown Rb.out hg (fun g e => by injection e with e; subst e; exact ⟨_, _, HOLD.out, by decide⟩))
        replace HK := Lib.hid (blk_grown HK.out hg (fun e => by injection e with e; exact absurd e (blk_ne HK.out HX.out (by decide))))
        replace HZ := Lib.hid (blk_grown HZ.out hg (fun e => by injection e with e; omega))
        clear HOLD
        clear HX
        have HX := HXq
        clear HXq
        replace HB := Lib.hid (HB.out.grown hg HB.out.size (fun k e => by injection e with e; have := HB.out.size; omega))
        clear hg hnw
        go_wp2
        have hst := stepK_full (b := by_) (la := laid) (lo := lost) (s := sv) (w := wv) HAT.out
        go_roundg g1
        case measure => omega
        case rel => exact ⟨d + 1, a, by_, laid, lost, Ab, _, cb, xb, by first | rfl | go_num, rfl, by go_num, ⟨by have := HKK.out; omega⟩, ⟨by rw [HS.out, HDR.out, Eb.out]; simp only [knFrom, List.map_cons]; rw [hst]; simp⟩, ⟨by rw [HL.out, HDR.out]; simp only [lastK]; rw [hst]⟩, ⟨by have := congrArg List.length Eb.out; simp only [List.length_append, List.length_cons, List.length_nil] at this; refine ⟨?_, ?_, ?_, ?_, ?_, ?_, ?_, ?_⟩ <;> omega⟩, ⟨HK.out⟩, ⟨HZ.out⟩, ⟨HX.out⟩, ⟨Rb.out⟩, ⟨HB.out⟩⟩

      · skip
        have hlt2 : a < l0.length := by omega
        have hal : decide ((a : Int) < (l0.length : Int)) = true := decide_eq_true (by omega)
        obtain ⟨b0, o0, eA, hb0, hx0, hx1⟩ := HLY.out a hlt2
        subst eA
        obtain ⟨n1_, n2_, y1_, y2_⟩ := HLB.out a hlt2
        obtain ⟨yv, hyv⟩ : ∃ y, y = l0[a].f1 := ⟨_, rfl⟩
        obtain ⟨nv, hnv⟩ : ∃ y, y = l0[a].f0 := ⟨_, rfl⟩
        rw [← hyv] at hx1 y1_ y2_
        rw [← hnv] at hx0 n1_ n2_
        have HX0 := Lib.hid hx0
        have HX1 := Lib.hid hx1
        have HYV := Lib.hid hyv
        have HNV := Lib.hid hnv
        clear hx0 hx1 hyv hnv
        have hw1 : IntKind.i64.wrap (laid + yv) = laid + yv := IntWalk.i64_in _ (by omega)
        have hw2 : IntKind.i64.wrap (lost + yv) = lost + yv := IntWalk.i64_in _ (by omega)
        by_cases hby : by_ < 0
        · skip
          have hbb : decide (by_ < 0) = true := decide_eq_true hby
          have HBY := Lib.hid hby
          clear hby
          have cK_0 := (blk_cell HK.out 0).trans rfl
          have cK_1 := (blk_cell HK.out 1).trans rfl
          have cK_2 := (blk_cell HK.out 2).trans rfl
          have lK := blk_lt HK.out
          have cZ_0 := (blk_cell HZ.out 0).trans rfl
          have cZ_1 := (blk_cell HZ.out 1).trans rfl
          have cZ_2 := (blk_cell HZ.out 2).trans rfl
          have cZ_3 := (blk_cell HZ.out 3).trans rfl
          have cZ_4 := (blk_cell HZ.out 4).trans rfl
          have lZ := blk_lt HZ.out
          have cX_0 := (blk_cell HX.out 0).trans rfl
          have cX_1 := (blk_cell HX.out 1).trans rfl
          have cX_2 := (blk_cell HX.out 2).trans rfl
          have cX_3 := (blk_cell HX.out 3).trans rfl
          have cX_4 := (blk_cell HX.out 4).trans rfl
          have lX := blk_lt HX.out
          go_upto_region 7 with fail
          clear cK_0 cK_1 cK_2 lK cZ_0 cZ_1 cZ_2 cZ_3 cZ_4 lZ cX_0 cX_1 cX_2 cX_3 cX_4 lX
          have hb : Below wr.heap.size wr wr.drew := (Below.refl _ _).drew
          have hg := g_below hb
          replace Ra := Lib.hid (R_typed_grown Ra.out hg (fun g e => by cases e))
          replace HK := Lib.hid (blk_grown HK.out hg (by simp))
          replace HZ := Lib.hid (blk_grown HZ.out hg (by simp))
          replace HX := Lib.hid (blk_grown HX.out hg (by simp))
          replace HB := Lib.hid (HB.out.trans (below_weaken hb HB.out.size))
          clear hb hg
          refine start_ (n := 12) (S := fun w' => w'.cell? ⟨w.heap.size, 0, none⟩ = some (.slice (some ⟨b0, o0, none⟩) l0.length c0) ∧ w'.cell? ⟨w.heap.size, 1, none⟩ = some (.slice A1 n1 c1) ∧ w'.cell? ⟨w.heap.size, 2, none⟩ = some (.slice A2 n2 c2) ∧ w'.cell? ⟨w.heap.size + 1 + 1, 0, none⟩ = some (.slice (some ⟨bw, ow, none⟩) ch.length cw) ∧ w'.cell? ⟨w.heap.size + 1 + 1, 1, none⟩ = some (.slice (some ⟨bs, os, none⟩) ch.length cs) ∧ w'.cell? ⟨w.heap.size + 1 + 1, 2, none⟩ = some (.slice A m c) ∧ w'.cell? ⟨w.heap.size + 1 + 1, 3, none⟩ = some (.int .i64 laid) ∧ w'.cell? ⟨w.heap.size + 1 + 1, 4, none⟩ = some (.int .i64 lost) ∧ w'.cell? ⟨b0, o0 + a * 2 + 1, none⟩ = some (.int .i64 yv)) (ds := [11]) #[false, false, false, false, false, false, false, false, false, false, false, false] (by kernel_rfl) rfl rfl ⟨(blk_cell HK.out 0).trans rfl, (blk_cell HK.out 1).trans rfl, (blk_cell HK.out 2).trans rfl, (blk_cell HX.out 0).trans rfl, (blk_cell HX.out 1).trans rfl, (blk_cell HX.out 2).trans rfl, (blk_cell HX.out 3).trans rfl, (blk_cell HX.out 4).trans rfl, (HB.out.cell (p := ⟨b0, o0 + a * 2 + 1, none⟩) hb0).trans HX1.out⟩ (fun hHeld => ?_)
          refine pu_ 0 (some 29) ?_
          refine pu_ 2 (some 31) ?_
          refine pu_ 4 (some 33) ?_
          refine pu_ 9 (some 9) ?_
          refine ta_ 1 (some 30) (s := hHeld) (y := by rintro w' ⟨s0, s1, s2, s3, s4, s5, s6, s7, s8⟩; go_simp; with_reducible rfl) (h := ?_)
          refine ta_ 3 (some 32) (s := hHeld) (y := by rintro w' ⟨s0, s1, s2, s3, s4, s5, s6, s7, s8⟩; go_simp; with_reducible rfl) (h := ?_)
          refine pu_ 5 (some 34) ?_
          refine pu_ 6 (some 35) ?_
          refine ta_ 7 (some 36) (s := hHeld) (y := by rintro w' ⟨s0, s1, s2, s3, s4, s5, s6, s7, s8⟩; go_simp; with_reducible rfl) (h := ?_)
          refine pu_ 8 (some 37) ?_
          refine pu_ 10 (some 38) ?_
          refine last_ (i := 11) (N := none) #[true, true, true, true, true, true, true, true, true, true, true, true] rfl rfl (by kernel_rfl) (by decide) (fun K hK => ?_)
          have cX_0 := (blk_cell HX.out 0).trans rfl
          have cX_1 := (blk_cell HX.out 1).trans rfl
          have cX_2 := (blk_cell HX.out 2).trans rfl
          have cX_3 := (blk_cell HX.out 3).trans rfl
          have cX_4 := (blk_cell HX.out 4).trans rfl
          have fX_0 := blk_frozen HX.out 0
          have fX_1 := blk_frozen HX.out 1
          have fX_2 := blk_frozen HX.out 2
          have fX_3 := blk_frozen HX.out 3
          have fX_4 := blk_frozen HX.out 4
          have lX := blk_lt HX.out
          refine skip_ (w1 := ?_) (by rfl) rfl ?_ ?_
          rotate_left
          · go_simp
            rfl
          refine hK.out _ _ ?_
          clear hK K
          refine done_ (by kernel_rfl) ?_

          clear cX_0 cX_1 cX_2 cX_3 cX_4 fX_0 fX_1 fX_2 fX_3 fX_4 lX
          obtain ⟨W1, hnw_⟩ : ∃ W, W = ((wr.setCell ⟨w.heap.size + 1 + 1, 3, none⟩ (.int .i64 (laid + yv)))).drew := ⟨_, rfl⟩
          rw [← hnw_]
          have hnw : W1 = (wr.drew.setCell ⟨w.heap.size + 1 + 1, 3, none⟩ (.int .i64 (laid + yv))) := hnw_.trans rfl
          clear hnw_
          have hg : wr.drew.grownBy W1 (some (w.heap.size + 1 + 1)) := by rw [hnw]; exact (g_put (g_refl wr.drew (some (w.heap.size + 1 + 1))) 3 (.int .i64 (laid + yv)))
          have HXq := Lib.hid (show W1.heap[w.heap.size + 1 + 1]? = some (.cells #[.slice (some ⟨bw, ow, none⟩) ch.length cw, .slice (some ⟨bs, os, none⟩) ch.length cs, .slice A m c, .int .i64 (laid + yv), .int .i64 lost] 77 (0, 0)) by rw [hnw]; exact blk_put (HX.out) 3 (.int .i64 (laid + yv)) rfl)
          have HOLD := HX
          replace Ra := Lib.hid (R_typed_grown Ra.out hg (fun g e => by injection e with e; subst e; exact ⟨_, _, HOLD.out, by decide⟩))
          replace HK := Lib.hid (blk_grown HK.out hg (fun e => by injection e with e; exact absurd e (blk_ne HK.out HX.out (by decide))))
          replace HZ := Lib.hid (blk_grown HZ.out hg (fun e => by injection e with e; omega))
          clear HOLD
          clear HX
          have HX := HXq
          clear HXq
          replace HB := Lib.hid (HB.out.grown hg HB.out.size (fun k e => by injection e with e; have := HB.out.size; omega))
          clear hg hnw
          have cK_0 := (blk_cell HK.out 0).trans rfl
          have cK_1 := (blk_cell HK.out 1).trans rfl
          have cK_2 := (blk_cell HK.out 2).trans rfl
          have lK := blk_lt HK.out
          have cZ_0 := (blk_cell HZ.out 0).trans rfl
          have cZ_1 := (blk_cell HZ.out 1).trans rfl
          have cZ_2 := (blk_cell HZ.out 2).trans rfl
          have cZ_3 := (blk_cell HZ.out 3).trans rfl
          have cZ_4 := (blk_cell HZ.out 4).trans rfl
          have lZ := blk_lt HZ.out
          have cX_0 := (blk_cell HX.out 0).trans rfl
          have cX_1 := (blk_cell HX.out 1).trans rfl
          have cX_2 := (blk_cell HX.out 2).trans rfl
          have cX_3 := (blk_cell HX.out 3).trans rfl
          have cX_4 := (blk_cell HX.out 4).trans rfl
          have lX := blk_lt HX.out
          have hw3 : IntKind.i64.wrap wv = wv := IntWalk.i64_in _ (by omega)
          have hsv : sv = 0 ∨ sv = 1 ∨ sv = 2 := by omega
          rcases hsv with rfl | rfl | rfl
          · skip
            have ys := (HB.out.cell (p := ⟨bs, os + d, none⟩) hbs).trans HSS.out
            go_upto_region 14 with fail
            clear ys
            clear cK_0 cK_1 cK_2 lK cZ_0 cZ_1 cZ_2 cZ_3 cZ_4 lZ cX_0 cX_1 cX_2 cX_3 cX_4 lX
            have cK_0 := (blk_cell HK.out 0).trans rfl
            have cK_1 := (blk_cell HK.out 1).trans rfl
            have cK_2 := (blk_cell HK.out 2).trans rfl
            have lK := blk_lt HK.out
            have cZ_0 := (blk_cell HZ.out 0).trans rfl
            have cZ_1 := (blk_cell HZ.out 1).trans rfl
            have cZ_2 := (blk_cell HZ.out 2).trans rfl
            have cZ_3 := (blk_cell HZ.out 3).trans rfl
            have cZ_4 := (blk_cell HZ.out 4).trans rfl
            have lZ := blk_lt HZ.out
            have cX_0 := (blk_cell HX.out 0).trans rfl
            have cX_1 := (blk_cell HX.out 1).trans rfl
            have cX_2 := (blk_cell HX.out 2).trans rfl
            have cX_3 := (blk_cell HX.out 3).trans rfl
            have cX_4 := (blk_cell HX.out 4).trans rfl
            have fX_0 := blk_frozen HX.out 0
            have fX_1 := blk_frozen HX.out 1
            have fX_2 := blk_frozen HX.out 2
            have fX_3 := blk_frozen HX.out 3
            have fX_4 := blk_frozen HX.out 4
            have lX := blk_lt HX.out
            go_upto_region 5 with ((with_reducible refine gate_builtin (b := .append) (xs := #[.tmp 90, .tmp 92]) rfl ?_); at_builtin; refine Kd.R_append (Kd.int .i64) (w0 := w) w.heap.size rfl (.tmp 90) (.tmp 92) 45 3 (.int .i64 0) 8 rfl Tryd.underlying45 info3 rfl (by decide) (by omega) (.slice A m c) pre ((a : Int)) [.int .i64 (a : Int)] (fun _ => True) (fun _ => False) rfl rfl (rfl) (fun _ hk => hk.elim) (fun _ _ => trivial) Ra.out HB.out HB.out.size (by omega) ?_; intro vb W2 ho hb hg hat; clear cK_0 cK_1 cK_2 lK cZ_0 cZ_1 cZ_2 cZ_3 cZ_4 lZ cX_0 cX_1 cX_2 cX_3 cX_4 fX_0 fX_1 fX_2 fX_3 fX_4 lX; replace HK := Lib.hid (blk_grown HK.out hg (own_ne Ra.out HK.out (by decide))); replace HZ := Lib.hid (blk_grown HZ.out hg (own_ne Ra.out HZ.out (by decide))); replace HX := Lib.hid (blk_grown HX.out hg (own_ne Ra.out HX.out (by decide))); replace HB := Lib.hid (hb); clear Ra; obtain ⟨xb, hx_⟩ : ∃ l_, l_ = (pre ++ [(a : Int)]) := ⟨_, rfl⟩; rw [← hx_] at ho; have Eb := Lib.hid hx_; clear hx_; have Rb := Lib.hid ho; clear ho hb hg hat; obtain ⟨Ab, cb, eb⟩ := Kd.R_slice Rb.out; subst eb; have cK_0 := (blk_cell HK.out 0).trans rfl; have cK_1 := (blk_cell HK.out 1).trans rfl; have cK_2 := (blk_cell HK.out 2).trans rfl; have lK := blk_lt HK.out; have cZ_0 := (blk_cell HZ.out 0).trans rfl; have cZ_1 := (blk_cell HZ.out 1).trans rfl; have cZ_2 := (blk_cell HZ.out 2).trans rfl; have cZ_3 := (blk_cell HZ.out 3).trans rfl; have cZ_4 := (blk_cell HZ.out 4).trans rfl; have lZ := blk_lt HZ.out; have cX_0 := (blk_cell HX.out 0).trans rfl; have cX_1 := (blk_cell HX.out 1).trans rfl; have cX_2 := (blk_cell HX.out 2).trans rfl; have cX_3 := (blk_cell HX.out 3).trans rfl; have cX_4 := (blk_cell HX.out 4).trans rfl; have fX_0 := blk_frozen HX.out 0; have fX_1 := blk_frozen HX.out 1; have fX_2 := blk_frozen HX.out 2; have fX_3 := blk_frozen HX.out 3; have fX_4 := blk_frozen HX.out 4; have lX := blk_lt HX.out)
            clear cK_0 cK_1 cK_2 lK cZ_0 cZ_1 cZ_2 cZ_3 cZ_4 lZ cX_0 cX_1 cX_2 cX_3 cX_4 fX_0 fX_1 fX_2 fX_3 fX_4 lX
            obtain ⟨W3, hnw⟩ : ∃ W, W = (W2.setCell ⟨w.heap.size + 1 + 1, 2, none⟩ (.slice Ab xb.length cb)) := ⟨_, rfl⟩
            rw [← hnw]
            have hg : W2.grownBy W3 (some (w.heap.size + 1 + 1)) := by rw [hnw]; exact (g_put (g_refl W2 (some (w.heap.size + 1 + 1))) 2 (.slice Ab xb.length cb))
            have HXq := Lib.hid (show W3.heap[w.heap.size + 1 + 1]? = some (.cells #[.slice (some ⟨bw, ow, none⟩) ch.length cw, .slice (some ⟨bs, os, none⟩) ch.length cs, .slice Ab xb.length cb, .int .i64 (laid + yv), .int .i64 lost] 77 (0, 0)) by rw [hnw]; exact blk_put (HX.out) 2 (.slice Ab xb.length cb) rfl)
            have HOLD := HX
            replace Rb := Lib.hid (R_typed_grown Rb.out hg (fun g e => by injection e with e; subst e; exact ⟨_, _, HOLD.out, by decide⟩))
            replace HK := Lib.hid (blk_grown HK.out hg (fun e => by injection e with e; exact absurd e (blk_ne HK.out HX.out (by decide))))
            replace HZ := Lib.hid (blk_grown HZ.out hg (fun e => by injection e with e; omega))
            clear HOLD
            clear HX
            have HX := HXq
            clear HXq
            replace HB := Lib.hid (HB.out.grown hg HB.out.size (fun k e => by injection e with e; have := HB.out.size; omega))
            clear hg hnw
            go_wp2
            have hst := (stepK_some (b := by_) (la := laid) (lo := lost) hlt2 (b1 := 0) (l1 := laid + yv) (by rw [if_pos HBY.out]) (by rw [if_pos HBY.out, HYV.out]) wv).2.2.2
            go_roundg g1
            case measure => omega
            case rel => exact ⟨d + 1, a, 0, (laid + yv), lost, Ab, _, cb, xb, by first | rfl | go_num, rfl, by go_num, ⟨by have := HKK.out; omega⟩, ⟨by rw [HS.out, HDR.out, Eb.out]; simp only [knFrom, List.map_cons]; rw [hst]; simp⟩, ⟨by rw [HL.out, HDR.out]; simp only [lastK]; rw [hst]⟩, ⟨by have := congrArg List.length Eb.out; simp only [List.length_append, List.length_cons, List.length_nil] at this; refine ⟨?_, ?_, ?_, ?_, ?_, ?_, ?_, ?_⟩ <;> omega⟩, ⟨HK.out⟩, ⟨HZ.out⟩, ⟨HX.out⟩, ⟨Rb.out⟩, ⟨HB.out⟩⟩

          · skip
            have ys := (HB.out.cell (p := ⟨bs, os + d, none⟩) hbs).trans HSS.out
            have yw := (HB.out.cell (p := ⟨bw, ow + d, none⟩) hbw).trans HWW.out
            have yn := (HB.out.cell (p := ⟨b0, o0 + a * 2, none⟩) hb0).trans HX0.out
            by_cases hq : nv ≤ wv
            · skip
              have hqq : decide (nv ≤ wv) = true := decide_eq_true hq
              go_upto_region 14 with fail
              clear ys yw yn
              clear cK_0 cK_1 cK_2 lK cZ_0 cZ_1 cZ_2 cZ_3 cZ_4 lZ cX_0 cX_1 cX_2 cX_3 cX_4 lX
              have cK_0 := (blk_cell HK.out 0).trans rfl
              have cK_1 := (blk_cell HK.out 1).trans rfl
              have cK_2 := (blk_cell HK.out 2).trans rfl
              have lK := blk_lt HK.out
              have cZ_0 := (blk_cell HZ.out 0).trans rfl
              have cZ_1 := (blk_cell HZ.out 1).trans rfl
              have cZ_2 := (blk_cell HZ.out 2).trans rfl
              have cZ_3 := (blk_cell HZ.out 3).trans rfl
              have cZ_4 := (blk_cell HZ.out 4).trans rfl
              have lZ := blk_lt HZ.out
              have cX_0 := (blk_cell HX.out 0).trans rfl
              have cX_1 := (blk_cell HX.out 1).trans rfl
              have cX_2 := (blk_cell HX.out 2).trans rfl
              have cX_3 := (blk_cell HX.out 3).trans rfl
              have cX_4 := (blk_cell HX.out 4).trans rfl
              have fX_0 := blk_frozen HX.out 0
              have fX_1 := blk_frozen HX.out 1
              have fX_2 := blk_frozen HX.out 2
              have fX_3 := blk_frozen HX.out 3
              have fX_4 := blk_frozen HX.out 4
              have lX := blk_lt HX.out
              go_upto_region 5 with ((with_reducible refine gate_builtin (b := .append) (xs := #[.tmp 90, .tmp 92]) rfl ?_); at_builtin; refine Kd.R_append (Kd.int .i64) (w0 := w) w.heap.size rfl (.tmp 90) (.tmp 92) 45 3 (.int .i64 0) 8 rfl Tryd.underlying45 info3 rfl (by decide) (by omega) (.slice A m c) pre (((a : Int) + 1)) [.int .i64 ((a : Int) + 1)] (fun _ => True) (fun _ => False) rfl rfl (rfl) (fun _ hk => hk.elim) (fun _ _ => trivial) Ra.out HB.out HB.out.size (by omega) ?_; intro vb W2 ho hb hg hat; clear cK_0 cK_1 cK_2 lK cZ_0 cZ_1 cZ_2 cZ_3 cZ_4 lZ cX_0 cX_1 cX_2 cX_3 cX_4 fX_0 fX_1 fX_2 fX_3 fX_4 lX; replace HK := Lib.hid (blk_grown HK.out hg (own_ne Ra.out HK.out (by decide))); replace HZ := Lib.hid (blk_grown HZ.out hg (own_ne Ra.out HZ.out (by decide))); replace HX := Lib.hid (blk_grown HX.out hg (own_ne Ra.out HX.out (by decide))); replace HB := Lib.hid (hb); clear Ra; obtain ⟨xb, hx_⟩ : ∃ l_, l_ = (pre ++ [((a : Int) + 1)]) := ⟨_, rfl⟩; rw [← hx_] at ho; have Eb := Lib.hid hx_; clear hx_; have Rb := Lib.hid ho; clear ho hb hg hat; obtain ⟨Ab, cb, eb⟩ := Kd.R_slice Rb.out; subst eb; have cK_0 := (blk_cell HK.out 0).trans rfl; have cK_1 := (blk_cell HK.out 1).trans rfl; have cK_2 := (blk_cell HK.out 2).trans rfl; have lK := blk_lt HK.out; have cZ_0 := (blk_cell HZ.out 0).trans rfl; have cZ_1 := (blk_cell HZ.out 1).trans rfl; have cZ_2 := (blk_cell HZ.out 2).trans rfl; have cZ_3 := (blk_cell HZ.out 3).trans rfl; have cZ_4 := (blk_cell HZ.out 4).trans rfl; have lZ := blk_lt HZ.out; have cX_0 := (blk_cell HX.out 0).trans rfl; have cX_1 := (blk_cell HX.out 1).trans rfl; have cX_2 := (blk_cell HX.out 2).trans rfl; have cX_3 := (blk_cell HX.out 3).trans rfl; have cX_4 := (blk_cell HX.out 4).trans rfl; have fX_0 := blk_frozen HX.out 0; have fX_1 := blk_frozen HX.out 1; have fX_2 := blk_frozen HX.out 2; have fX_3 := blk_frozen HX.out 3; have fX_4 := blk_frozen HX.out 4; have lX := blk_lt HX.out)
              clear cK_0 cK_1 cK_2 lK cZ_0 cZ_1 cZ_2 cZ_3 cZ_4 lZ cX_0 cX_1 cX_2 cX_3 cX_4 fX_0 fX_1 fX_2 fX_3 fX_4 lX
              obtain ⟨W3, hnw⟩ : ∃ W, W = (W2.setCell ⟨w.heap.size + 1 + 1, 2, none⟩ (.slice Ab xb.length cb)) := ⟨_, rfl⟩
              rw [← hnw]
              have hg : W2.grownBy W3 (some (w.heap.size + 1 + 1)) := by rw [hnw]; exact (g_put (g_refl W2 (some (w.heap.size + 1 + 1))) 2 (.slice Ab xb.length cb))
              have HXq := Lib.hid (show W3.heap[w.heap.size + 1 + 1]? = some (.cells #[.slice (some ⟨bw, ow, none⟩) ch.length cw, .slice (some ⟨bs, os, none⟩) ch.length cs, .slice Ab xb.length cb, .int .i64 (laid + yv), .int .i64 lost] 77 (0, 0)) by rw [hnw]; exact blk_put (HX.out) 2 (.slice Ab xb.length cb) rfl)
              have HOLD := HX
              replace Rb := Lib.hid (R_typed_grown Rb.out hg (fun g e => by injection e with e; subst e; exact ⟨_, _, HOLD.out, by decide⟩))
              replace HK := Lib.hid (blk_grown HK.out hg (fun e => by injection e with e; exact absurd e (blk_ne HK.out HX.out (by decide))))
              replace HZ := Lib.hid (blk_grown HZ.out hg (fun e => by injection e with e; omega))
              clear HOLD
              clear HX
              have HX := HXq
              clear HXq
              replace HB := Lib.hid (HB.out.grown hg HB.out.size (fun k e => by injection e with e; have := HB.out.size; omega))
              clear hg hnw
              go_wp2
              have hst := (stepK_some (b := by_) (la := laid) (lo := lost) hlt2 (b1 := 0) (l1 := laid + yv) (by rw [if_pos HBY.out]) (by rw [if_pos HBY.out, HYV.out]) wv).2.1 (by rw [← HNV.out]; omega)
              go_roundg g1
              case measure => omega
              case rel => exact ⟨d + 1, a + 1, -1, (laid + yv), lost, Ab, _, cb, xb, by first | rfl | go_num, rfl, by go_num, ⟨by have := HKK.out; omega⟩, ⟨by rw [HS.out, HDR.out, Eb.out]; simp only [knFrom, List.map_cons]; rw [hst]; simp⟩, ⟨by rw [HL.out, HDR.out]; simp only [lastK]; rw [hst]⟩, ⟨by have := congrArg List.length Eb.out; simp only [List.length_append, List.length_cons, List.length_nil] at this; refine ⟨?_, ?_, ?_, ?_, ?_, ?_, ?_, ?_⟩ <;> omega⟩, ⟨HK.out⟩, ⟨HZ.out⟩, ⟨HX.out⟩, ⟨Rb.out⟩, ⟨HB.out⟩⟩

            · skip
              have hqq : decide (nv ≤ wv) = false := decide_eq_false hq
              go_upto_region 14 with fail
              clear ys yw yn
              clear cK_0 cK_1 cK_2 lK cZ_0 cZ_1 cZ_2 cZ_3 cZ_4 lZ cX_0 cX_1 cX_2 cX_3 cX_4 lX
              have cK_0 := (blk_cell HK.out 0).trans rfl
              have cK_1 := (blk_cell HK.out 1).trans rfl
              have cK_2 := (blk_cell HK.out 2).trans rfl
              have lK := blk_lt HK.out
              have cZ_0 := (blk_cell HZ.out 0).trans rfl
              have cZ_1 := (blk_cell HZ.out 1).trans rfl
              have cZ_2 := (blk_cell HZ.out 2).trans rfl
              have cZ_3 := (blk_cell HZ.out 3).trans rfl
              have cZ_4 := (blk_cell HZ.out 4).trans rfl
              have lZ := blk_lt HZ.out
              have cX_0 := (blk_cell HX.out 0).trans rfl
              have cX_1 := (blk_cell HX.out 1).trans rfl
              have cX_2 := (blk_cell HX.out 2).trans rfl
              have cX_3 := (blk_cell HX.out 3).trans rfl
              have cX_4 := (blk_cell HX.out 4).trans rfl
              have fX_0 := blk_frozen HX.out 0
              have fX_1 := blk_frozen HX.out 1
              have fX_2 := blk_frozen HX.out 2
              have fX_3 := blk_frozen HX.out 3
              have fX_4 := blk_frozen HX.out 4
              have lX := blk_lt HX.out
              go_upto_region 5 with ((with_reducible refine gate_builtin (b := .append) (xs := #[.tmp 90, .tmp 92]) rfl ?_); at_builtin; refine Kd.R_append (Kd.int .i64) (w0 := w) w.heap.size rfl (.tmp 90) (.tmp 92) 45 3 (.int .i64 0) 8 rfl Tryd.underlying45 info3 rfl (by decide) (by omega) (.slice A m c) pre ((a : Int)) [.int .i64 (a : Int)] (fun _ => True) (fun _ => False) rfl rfl (rfl) (fun _ hk => hk.elim) (fun _ _ => trivial) Ra.out HB.out HB.out.size (by omega) ?_; intro vb W2 ho hb hg hat; clear cK_0 cK_1 cK_2 lK cZ_0 cZ_1 cZ_2 cZ_3 cZ_4 lZ cX_0 cX_1 cX_2 cX_3 cX_4 fX_0 fX_1 fX_2 fX_3 fX_4 lX; replace HK := Lib.hid (blk_grown HK.out hg (own_ne Ra.out HK.out (by decide))); replace HZ := Lib.hid (blk_grown HZ.out hg (own_ne Ra.out HZ.out (by decide))); replace HX := Lib.hid (blk_grown HX.out hg (own_ne Ra.out HX.out (by decide))); replace HB := Lib.hid (hb); clear Ra; obtain ⟨xb, hx_⟩ : ∃ l_, l_ = (pre ++ [(a : Int)]) := ⟨_, rfl⟩; rw [← hx_] at ho; have Eb := Lib.hid hx_; clear hx_; have Rb := Lib.hid ho; clear ho hb hg hat; obtain ⟨Ab, cb, eb⟩ := Kd.R_slice Rb.out; subst eb; have cK_0 := (blk_cell HK.out 0).trans rfl; have cK_1 := (blk_cell HK.out 1).trans rfl; have cK_2 := (blk_cell HK.out 2).trans rfl; have lK := blk_lt HK.out; have cZ_0 := (blk_cell HZ.out 0).trans rfl; have cZ_1 := (blk_cell HZ.out 1).trans rfl; have cZ_2 := (blk_cell HZ.out 2).trans rfl; have cZ_3 := (blk_cell HZ.out 3).trans rfl; have cZ_4 := (blk_cell HZ.out 4).trans rfl; have lZ := blk_lt HZ.out; have cX_0 := (blk_cell HX.out 0).trans rfl; have cX_1 := (blk_cell HX.out 1).trans rfl; have cX_2 := (blk_cell HX.out 2).trans rfl; have cX_3 := (blk_cell HX.out 3).trans rfl; have cX_4 := (blk_cell HX.out 4).trans rfl; have fX_0 := blk_frozen HX.out 0; have fX_1 := blk_frozen HX.out 1; have fX_2 := blk_frozen HX.out 2; have fX_3 := blk_frozen HX.out 3; have fX_4 := blk_frozen HX.out 4; have lX := blk_lt HX.out)
              clear cK_0 cK_1 cK_2 lK cZ_0 cZ_1 cZ_2 cZ_3 cZ_4 lZ cX_0 cX_1 cX_2 cX_3 cX_4 fX_0 fX_1 fX_2 fX_3 fX_4 lX
              obtain ⟨W3, hnw⟩ : ∃ W, W = (W2.setCell ⟨w.heap.size + 1 + 1, 2, none⟩ (.slice Ab xb.length cb)) := ⟨_, rfl⟩
              rw [← hnw]
              have hg : W2.grownBy W3 (some (w.heap.size + 1 + 1)) := by rw [hnw]; exact (g_put (g_refl W2 (some (w.heap.size + 1 + 1))) 2 (.slice Ab xb.length cb))
              have HXq := Lib.hid (show W3.heap[w.heap.size + 1 + 1]? = some (.cells #[.slice (some ⟨bw, ow, none⟩) ch.length cw, .slice (some ⟨bs, os, none⟩) ch.length cs, .slice Ab xb.length cb, .int .i64 (laid + yv), .int .i64 lost] 77 (0, 0)) by rw [hnw]; exact blk_put (HX.out) 2 (.slice Ab xb.length cb) rfl)
              have HOLD := HX
              replace Rb := Lib.hid (R_typed_grown Rb.out hg (fun g e => by injection e with e; subst e; exact ⟨_, _, HOLD.out, by decide⟩))
              replace HK := Lib.hid (blk_grown HK.out hg (fun e => by injection e with e; exact absurd e (blk_ne HK.out HX.out (by decide))))
              replace HZ := Lib.hid (blk_grown HZ.out hg (fun e => by injection e with e; omega))
              clear HOLD
              clear HX
              have HX := HXq
              clear HXq
              replace HB := Lib.hid (HB.out.grown hg HB.out.size (fun k e => by injection e with e; have := HB.out.size; omega))
              clear hg hnw
              go_wp2
              have hst := (by have e := (stepK_some (b := by_) (la := laid) (lo := lost) hlt2 (b1 := 0) (l1 := laid + yv) (by rw [if_pos HBY.out]) (by rw [if_pos HBY.out, HYV.out]) wv).2.2.1 (by rw [← HNV.out]; omega); rwa [Int.zero_add] at e)
              go_roundg g1
              case measure => omega
              case rel => exact ⟨d + 1, a, wv, (laid + yv), lost, Ab, _, cb, xb, by first | rfl | go_num, rfl, by go_num, ⟨by have := HKK.out; omega⟩, ⟨by rw [HS.out, HDR.out, Eb.out]; simp only [knFrom, List.map_cons]; rw [hst]; simp⟩, ⟨by rw [HL.out, HDR.out]; simp only [lastK]; rw [hst]⟩, ⟨by have := congrArg List.length Eb.out; simp only [List.length_append, List.length_cons, List.length_nil] at this; refine ⟨?_, ?_, ?_, ?_, ?_, ?_, ?_, ?_⟩ <;> omega⟩, ⟨HK.out⟩, ⟨HZ.out⟩, ⟨HX.out⟩, ⟨Rb.out⟩, ⟨HB.out⟩⟩


          · skip
            have ys := (HB.out.cell (p := ⟨bs, os + d, none⟩) hbs).trans HSS.out
            go_upto_region 9 with fail
            clear ys
            clear cK_0 cK_1 cK_2 lK cZ_0 cZ_1 cZ_2 cZ_3 cZ_4 lZ cX_0 cX_1 cX_2 cX_3 cX_4 lX
            have hb : Below W1.heap.size W1 W1.drew := (Below.refl _ _).drew
            have hg := g_below hb
            replace Ra := Lib.hid (R_typed_grown Ra.out hg (fun g e => by cases e))
            replace HK := Lib.hid (blk_grown HK.out hg (by simp))
            replace HZ := Lib.hid (blk_grown HZ.out hg (by simp))
            replace HX := Lib.hid (blk_grown HX.out hg (by simp))
            replace HB := Lib.hid (HB.out.trans (below_weaken hb HB.out.size))
            clear hb hg
            refine start_ (n := 12) (S := fun w' => w'.cell? ⟨w.heap.size, 0, none⟩ = some (.slice (some ⟨b0, o0, none⟩) l0.length c0) ∧ w'.cell? ⟨w.heap.size, 1, none⟩ = some (.slice A1 n1 c1) ∧ w'.cell? ⟨w.heap.size, 2, none⟩ = some (.slice A2 n2 c2) ∧ w'.cell? ⟨w.heap.size + 1 + 1, 0, none⟩ = some (.slice (some ⟨bw, ow, none⟩) ch.length cw) ∧ w'.cell? ⟨w.heap.size + 1 + 1, 1, none⟩ = some (.slice (some ⟨bs, os, none⟩) ch.length cs) ∧ w'.cell? ⟨w.heap.size + 1 + 1, 2, none⟩ = some (.slice A m c) ∧ w'.cell? ⟨w.heap.size + 1 + 1, 3, none⟩ = some (.int .i64 (laid + yv)) ∧ w'.cell? ⟨w.heap.size + 1 + 1, 4, none⟩ = some (.int .i64 lost) ∧ w'.cell? ⟨b0, o0 + a * 2 + 1, none⟩ = some (.int .i64 yv)) (ds := [11]) #[false, false, false, false, false, false, false, false, false, false, false, false] (by kernel_rfl) rfl rfl ⟨(blk_cell HK.out 0).trans rfl, (blk_cell HK.out 1).trans rfl, (blk_cell HK.out 2).trans rfl, (blk_cell HX.out 0).trans rfl, (blk_cell HX.out 1).trans rfl, (blk_cell HX.out 2).trans rfl, (blk_cell HX.out 3).trans rfl, (blk_cell HX.out 4).trans rfl, (HB.out.cell (p := ⟨b0, o0 + a * 2 + 1, none⟩) hb0).trans HX1.out⟩ (fun hHeld => ?_)
            refine pu_ 0 (some 51) ?_
            refine pu_ 2 (some 53) ?_
            refine pu_ 4 (some 55) ?_
            refine pu_ 9 (some 9) ?_
            refine ta_ 1 (some 52) (s := hHeld) (y := by rintro w' ⟨s0, s1, s2, s3, s4, s5, s6, s7, s8⟩; go_simp; with_reducible rfl) (h := ?_)
            refine ta_ 3 (some 54) (s := hHeld) (y := by rintro w' ⟨s0, s1, s2, s3, s4, s5, s6, s7, s8⟩; go_simp; with_reducible rfl) (h := ?_)
            refine pu_ 5 (some 56) ?_
            refine pu_ 6 (some 57) ?_
            refine ta_ 7 (some 58) (s := hHeld) (y := by rintro w' ⟨s0, s1, s2, s3, s4, s5, s6, s7, s8⟩; go_simp; with_reducible rfl) (h := ?_)
            refine pu_ 8 (some 59) ?_
            refine pu_ 10 (some 60) ?_
            refine last_ (i := 11) (N := none) #[true, true, true, true, true, true, true, true, true, true, true, true] rfl rfl (by kernel_rfl) (by decide) (fun K hK => ?_)
            have cX_0 := (blk_cell HX.out 0).trans rfl
            have cX_1 := (blk_cell HX.out 1).trans rfl
            have cX_2 := (blk_cell HX.out 2).trans rfl
            have cX_3 := (blk_cell HX.out 3).trans rfl
            have cX_4 := (blk_cell HX.out 4).trans rfl
            have fX_0 := blk_frozen HX.out 0
            have fX_1 := blk_frozen HX.out 1
            have fX_2 := blk_frozen HX.out 2
            have fX_3 := blk_frozen HX.out 3
            have fX_4 := blk_frozen HX.out 4
            have lX := blk_lt HX.out
            refine skip_ (w1 := ?_) (by rfl) rfl ?_ ?_
            rotate_left
            · go_simp
              rfl
            refine hK.out _ _ ?_
            clear hK K
            refine done_ (by kernel_rfl) ?_

            clear cX_0 cX_1 cX_2 cX_3 cX_4 fX_0 fX_1 fX_2 fX_3 fX_4 lX
            obtain ⟨W2, hnw_⟩ : ∃ W, W = ((W1.setCell ⟨w.heap.size + 1 + 1, 4, none⟩ (.int .i64 (lost + yv)))).drew := ⟨_, rfl⟩
            rw [← hnw_]
            have hnw : W2 = (W1.drew.setCell ⟨w.heap.size + 1 + 1, 4, none⟩ (.int .i64 (lost + yv))) := hnw_.trans rfl
            clear hnw_
            have hg : W1.drew.grownBy W2 (some (w.heap.size + 1 + 1)) := by rw [hnw]; exact (g_put (g_refl W1.drew (some (w.heap.size + 1 + 1))) 4 (.int .i64 (lost + yv)))
            have HXq := Lib.hid (show W2.heap[w.heap.size + 1 + 1]? = some (.cells #[.slice (some ⟨bw, ow, none⟩) ch.length cw, .slice (some ⟨bs, os, none⟩) ch.length cs, .slice A m c, .int .i64 (laid + yv), .int .i64 (lost + yv)] 77 (0, 0)) by rw [hnw]; exact blk_put (HX.out) 4 (.int .i64 (lost + yv)) rfl)
            have HOLD := HX
            replace Ra := Lib.hid (R_typed_grown Ra.out hg (fun g e => by injection e with e; subst e; exact ⟨_, _, HOLD.out, by decide⟩))
            replace HK := Lib.hid (blk_grown HK.out hg (fun e => by injection e with e; exact absurd e (blk_ne HK.out HX.out (by decide))))
            replace HZ := Lib.hid (blk_grown HZ.out hg (fun e => by injection e with e; omega))
            clear HOLD
            clear HX
            have HX := HXq
            clear HXq
            replace HB := Lib.hid (HB.out.grown hg HB.out.size (fun k e => by injection e with e; have := HB.out.size; omega))
            clear hg hnw
            have cK_0 := (blk_cell HK.out 0).trans rfl
            have cK_1 := (blk_cell HK.out 1).trans rfl
            have cK_2 := (blk_cell HK.out 2).trans rfl
            have lK := blk_lt HK.out
            have cZ_0 := (blk_cell HZ.out 0).trans rfl
            have cZ_1 := (blk_cell HZ.out 1).trans rfl
            have cZ_2 := (blk_cell HZ.out 2).trans rfl
            have cZ_3 := (blk_cell HZ.out 3).trans rfl
            have cZ_4 := (blk_cell HZ.out 4).trans rfl
            have lZ := blk_lt HZ.out
            have cX_0 := (blk_cell HX.out 0).trans rfl
            have cX_1 := (blk_cell HX.out 1).trans rfl
            have cX_2 := (blk_cell HX.out 2).trans rfl
            have cX_3 := (blk_cell HX.out 3).trans rfl
            have cX_4 := (blk_cell HX.out 4).trans rfl
            have lX := blk_lt HX.out
            have ys := (HB.out.cell (p := ⟨bs, os + d, none⟩) hbs).trans HSS.out
            go_upto_region 14 with fail
            clear ys
            clear cK_0 cK_1 cK_2 lK cZ_0 cZ_1 cZ_2 cZ_3 cZ_4 lZ cX_0 cX_1 cX_2 cX_3 cX_4 lX
            have cK_0 := (blk_cell HK.out 0).trans rfl
            have cK_1 := (blk_cell HK.out 1).trans rfl
            have cK_2 := (blk_cell HK.out 2).trans rfl
            have lK := blk_lt HK.out
            have cZ_0 := (blk_cell HZ.out 0).trans rfl
            have cZ_1 := (blk_cell HZ.out 1).trans rfl
            have cZ_2 := (blk_cell HZ.out 2).trans rfl
            have cZ_3 := (blk_cell HZ.out 3).trans rfl
            have cZ_4 := (blk_cell HZ.out 4).trans rfl
            have lZ := blk_lt HZ.out
            have cX_0 := (blk_cell HX.out 0).trans rfl
            have cX_1 := (blk_cell HX.out 1).trans rfl
            have cX_2 := (blk_cell HX.out 2).trans rfl
            have cX_3 := (blk_cell HX.out 3).trans rfl
            have cX_4 := (blk_cell HX.out 4).trans rfl
            have fX_0 := blk_frozen HX.out 0
            have fX_1 := blk_frozen HX.out 1
            have fX_2 := blk_frozen HX.out 2
            have fX_3 := blk_frozen HX.out 3
            have fX_4 := blk_frozen HX.out 4
            have lX := blk_lt HX.out
            go_upto_region 5 with ((with_reducible refine gate_builtin (b := .append) (xs := #[.tmp 90, .tmp 92]) rfl ?_); at_builtin; refine Kd.R_append (Kd.int .i64) (w0 := w) w.heap.size rfl (.tmp 90) (.tmp 92) 45 3 (.int .i64 0) 8 rfl Tryd.underlying45 info3 rfl (by decide) (by omega) (.slice A m c) pre ((a : Int)) [.int .i64 (a : Int)] (fun _ => True) (fun _ => False) rfl rfl (rfl) (fun _ hk => hk.elim) (fun _ _ => trivial) Ra.out HB.out HB.out.size (by omega) ?_; intro vb W3 ho hb hg hat; clear cK_0 cK_1 cK_2 lK cZ_0 cZ_1 cZ_2 cZ_3 cZ_4 lZ cX_0 cX_1 cX_2 cX_3 cX_4 fX_0 fX_1 fX_2 fX_3 fX_4 lX; replace HK := Lib.hid (blk_grown HK.out hg (own_ne Ra.out HK.out (by decide))); replace HZ := Lib.hid (blk_grown HZ.out hg (own_ne Ra.out HZ.out (by decide))); replace HX := Lib.hid (blk_grown HX.out hg (own_ne Ra.out HX.out (by decide))); replace HB := Lib.hid (hb); clear Ra; obtain ⟨xb, hx_⟩ : ∃ l_, l_ = (pre ++ [(a : Int)]) := ⟨_, rfl⟩; rw [← hx_] at ho; have Eb := Lib.hid hx_; clear hx_; have Rb := Lib.hid ho; clear ho hb hg hat; obtain ⟨Ab, cb, eb⟩ := Kd.R_slice Rb.out; subst eb; have cK_0 := (blk_cell HK.out 0).trans rfl; have cK_1 := (blk_cell HK.out 1).trans rfl; have cK_2 := (blk_cell HK.out 2).trans rfl; have lK := blk_lt HK.out; have cZ_0 := (blk_cell HZ.out 0).trans rfl; have cZ_1 := (blk_cell HZ.out 1).trans rfl; have cZ_2 := (blk_cell HZ.out 2).trans rfl; have cZ_3 := (blk_cell HZ.out 3).trans rfl; have cZ_4 := (blk_cell HZ.out 4).trans rfl; have lZ := blk_lt HZ.out; have cX_0 := (blk_cell HX.out 0).trans rfl; have cX_1 := (blk_cell HX.out 1).trans rfl; have cX_2 := (blk_cell HX.out 2).trans rfl; have cX_3 := (blk_cell HX.out 3).trans rfl; have cX_4 := (blk_cell HX.out 4).trans rfl; have fX_0 := blk_frozen HX.out 0; have fX_1 := blk_frozen HX.out 1; have fX_2 := blk_frozen HX.out 2; have fX_3 := blk_frozen HX.out 3; have fX_4 := blk_frozen HX.out 4; have lX := blk_lt HX.out)
            clear cK_0 cK_1 cK_2 lK cZ_0 cZ_1 cZ_2 cZ_3 cZ_4 lZ cX_0 cX_1 cX_2 cX_3 cX_4 fX_0 fX_1 fX_2 fX_3 fX_4 lX
            obtain ⟨W4, hnw⟩ : ∃ W, W = (W3.setCell ⟨w.heap.size + 1 + 1, 2, none⟩ (.slice Ab xb.length cb)) := ⟨_, rfl⟩
            rw [← hnw]
            have hg : W3.grownBy W4 (some (w.heap.size + 1 + 1)) := by rw [hnw]; exact (g_put (g_refl W3 (some (w.heap.size + 1 + 1))) 2 (.slice Ab xb.length cb))
            have HXq := Lib.hid (show W4.heap[w.heap.size + 1 + 1]? = some (.cells #[.slice (some ⟨bw, ow, none⟩) ch.length cw, .slice (some ⟨bs, os, none⟩) ch.length cs, .slice Ab xb.length cb, .int .i64 (laid + yv), .int .i64 (lost + yv)] 77 (0, 0)) by rw [hnw]; exact blk_put (HX.out) 2 (.slice Ab xb.length cb) rfl)
            have HOLD := HX
            replace Rb := Lib.hid (R_typed_grown Rb.out hg (fun g e => by injection e with e; subst e; exact ⟨_, _, HOLD.out, by decide⟩))
            replace HK := Lib.hid (blk_grown HK.out hg (fun e => by injection e with e; exact absurd e (blk_ne HK.out HX.out (by decide))))
            replace HZ := Lib.hid (blk_grown HZ.out hg (fun e => by injection e with e; omega))
            clear HOLD
            clear HX
            have HX := HXq
            clear HXq
            replace HB := Lib.hid (HB.out.grown hg HB.out.size (fun k e => by injection e with e; have := HB.out.size; omega))
            clear hg hnw
            go_wp2
            have hst := (show stepK l0 ⟨a, by_, laid, lost⟩ 2 wv = ⟨a, -1, (laid + yv), lost + yv⟩ by have e := (stepK_some (b := by_) (la := laid) (lo := lost) hlt2 (b1 := 0) (l1 := laid + yv) (by rw [if_pos HBY.out]) (by rw [if_pos HBY.out, HYV.out]) wv).1; rw [← HYV.out] at e; exact e)
            go_roundg g1
            case measure => omega
            case rel => exact ⟨d + 1, a, -1, (laid + yv), (lost + yv), Ab, _, cb, xb, by first | rfl | go_num, rfl, by go_num, ⟨by have := HKK.out; omega⟩, ⟨by rw [HS.out, HDR.out, Eb.out]; simp only [knFrom, List.map_cons]; rw [hst]; simp⟩, ⟨by rw [HL.out, HDR.out]; simp only [lastK]; rw [hst]⟩, ⟨by have := congrArg List.length Eb.out; simp only [List.length_append, List.length_cons, List.length_nil] at this; refine ⟨?_, ?_, ?_, ?_, ?_, ?_, ?_, ?_⟩ <;> omega⟩, ⟨HK.out⟩, ⟨HZ.out⟩, ⟨HX.out⟩, ⟨Rb.out⟩, ⟨HB.out⟩⟩


        · skip
          have hbb : decide (by_ < 0) = false := decide_eq_false hby
          have HBY := Lib.hid hby
          clear hby
          have cK_0 := (blk_cell HK.out 0).trans rfl
          have cK_1 := (blk_cell HK.out 1).trans rfl
          have cK_2 := (blk_cell HK.out 2).trans rfl
          have lK := blk_lt HK.out
          have cZ_0 := (blk_cell HZ.out 0).trans rfl
          have cZ_1 := (blk_cell HZ.out 1).trans rfl
          have cZ_2 := (blk_cell HZ.out 2).trans rfl
          have cZ_3 := (blk_cell HZ.out 3).trans rfl
          have cZ_4 := (blk_cell HZ.out 4).trans rfl
          have lZ := blk_lt HZ.out
          have cX_0 := (blk_cell HX.out 0).trans rfl
          have cX_1 := (blk_cell HX.out 1).trans rfl
          have cX_2 := (blk_cell HX.out 2).trans rfl
          have cX_3 := (blk_cell HX.out 3).trans rfl
          have cX_4 := (blk_cell HX.out 4).trans rfl
          have lX := blk_lt HX.out
          have hw3 : IntKind.i64.wrap (by_ + wv) = by_ + wv := IntWalk.i64_in _ (by have := HBY.out; omega)
          have hsv : sv = 0 ∨ sv = 1 ∨ sv = 2 := by omega
          rcases hsv with rfl | rfl | rfl
          · skip
            have ys := (HB.out.cell (p := ⟨bs, os + d, none⟩) hbs).trans HSS.out
            go_upto_region 14 with fail
            clear ys
            clear cK_0 cK_1 cK_2 lK cZ_0 cZ_1 cZ_2 cZ_3 cZ_4 lZ cX_0 cX_1 cX_2 cX_3 cX_4 lX
            have cK_0 := (blk_cell HK.out 0).trans rfl
            have cK_1 := (blk_cell HK.out 1).trans rfl
            have cK_2 := (blk_cell HK.out 2).trans rfl
            have lK := blk_lt HK.out
            have cZ_0 := (blk_cell HZ.out 0).trans rfl
            have cZ_1 := (blk_cell HZ.out 1).trans rfl
            have cZ_2 := (blk_cell HZ.out 2).trans rfl
            have cZ_3 := (blk_cell HZ.out 3).trans rfl
            have cZ_4 := (blk_cell HZ.out 4).trans rfl
            have lZ := blk_lt HZ.out
            have cX_0 := (blk_cell HX.out 0).trans rfl
            have cX_1 := (blk_cell HX.out 1).trans rfl
            have cX_2 := (blk_cell HX.out 2).trans rfl
            have cX_3 := (blk_cell HX.out 3).trans rfl
            have cX_4 := (blk_cell HX.out 4).trans rfl
            have fX_0 := blk_frozen HX.out 0
            have fX_1 := blk_frozen HX.out 1
            have fX_2 := blk_frozen HX.out 2
            have fX_3 := blk_frozen HX.out 3
            have fX_4 := blk_frozen HX.out 4
            have lX := blk_lt HX.out
            go_upto_region 5 with ((with_reducible refine gate_builtin (b := .append) (xs := #[.tmp 90, .tmp 92]) rfl ?_); at_builtin; refine Kd.R_append (Kd.int .i64) (w0 := w) w.heap.size rfl (.tmp 90) (.tmp 92) 45 3 (.int .i64 0) 8 rfl Tryd.underlying45 info3 rfl (by decide) (by omega) (.slice A m c) pre ((a : Int)) [.int .i64 (a : Int)] (fun _ => True) (fun _ => False) rfl rfl (rfl) (fun _ hk => hk.elim) (fun _ _ => trivial) Ra.out HB.out HB.out.size (by omega) ?_; intro vb W1 ho hb hg hat; clear cK_0 cK_1 cK_2 lK cZ_0 cZ_1 cZ_2 cZ_3 cZ_4 lZ cX_0 cX_1 cX_2 cX_3 cX_4 fX_0 fX_1 fX_2 fX_3 fX_4 lX; replace HK := Lib.hid (blk_grown HK.out hg (own_ne Ra.out HK.out (by decide))); replace HZ := Lib.hid (blk_grown HZ.out hg (own_ne Ra.out HZ.out (by decide))); replace HX := Lib.hid (blk_grown HX.out hg (own_ne Ra.out HX.out (by decide))); replace HB := Lib.hid (hb); clear Ra; obtain ⟨xb, hx_⟩ : ∃ l_, l_ = (pre ++ [(a : Int)]) := ⟨_, rfl⟩; rw [← hx_] at ho; have Eb := Lib.hid hx_; clear hx_; have Rb := Lib.hid ho; clear ho hb hg hat; obtain ⟨Ab, cb, eb⟩ := Kd.R_slice Rb.out; subst eb; have cK_0 := (blk_cell HK.out 0).trans rfl; have cK_1 := (blk_cell HK.out 1).trans rfl; have cK_2 := (blk_cell HK.out 2).trans rfl; have lK := blk_lt HK.out; have cZ_0 := (blk_cell HZ.out 0).trans rfl; have cZ_1 := (blk_cell HZ.out 1).trans rfl; have cZ_2 := (blk_cell HZ.out 2).trans rfl; have cZ_3 := (blk_cell HZ.out 3).trans rfl; have cZ_4 := (blk_cell HZ.out 4).trans rfl; have lZ := blk_lt HZ.out; have cX_0 := (blk_cell HX.out 0).trans rfl; have cX_1 := (blk_cell HX.out 1).trans rfl; have cX_2 := (blk_cell HX.out 2).trans rfl; have cX_3 := (blk_cell HX.out 3).trans rfl; have cX_4 := (blk_cell HX.out 4).trans rfl; have fX_0 := blk_frozen HX.out 0; have fX_1 := blk_frozen HX.out 1; have fX_2 := blk_frozen HX.out 2; have fX_3 := blk_frozen HX.out 3; have fX_4 := blk_frozen HX.out 4; have lX := blk_lt HX.out)
            clear cK_0 cK_1 cK_2 lK cZ_0 cZ_1 cZ_2 cZ_3 cZ_4 lZ cX_0 cX_1 cX_2 cX_3 cX_4 fX_0 fX_1 fX_2 fX_3 fX_4 lX
            obtain ⟨W2, hnw⟩ : ∃ W, W = (W1.setCell ⟨w.heap.size + 1 + 1, 2, none⟩ (.slice Ab xb.length cb)) := ⟨_, rfl⟩
            rw [← hnw]
            have hg : W1.grownBy W2 (some (w.heap.size + 1 + 1)) := by rw [hnw]; exact (g_put (g_refl W1 (some (w.heap.size + 1 + 1))) 2 (.slice Ab xb.length cb))
            have HXq := Lib.hid (show W2.heap[w.heap.size + 1 + 1]? = some (.cells #[.slice (some ⟨bw, ow, none⟩) ch.length cw, .slice (some ⟨bs, os, none⟩) ch.length cs, .slice Ab xb.length cb, .int .i64 laid, .int .i64 lost] 77 (0, 0)) by rw [hnw]; exact blk_put (HX.out) 2 (.slice Ab xb.length cb) rfl)
            have HOLD := HX
            replace Rb := Lib.hid (R_typed_grown Rb.out hg (fun g e => by injection e with e; subst e; exact ⟨_, _, HOLD.out, by decide⟩))
            replace HK := Lib.hid (blk_grown HK.out hg (fun e => by injection e with e; exact absurd e (blk_ne HK.out HX.out (by decide))))
            replace HZ := Lib.hid (blk_grown HZ.out hg (fun e => by injection e with e; omega))
            clear HOLD
            clear HX
            have HX := HXq
            clear HXq
            replace HB := Lib.hid (HB.out.grown hg HB.out.size (fun k e => by injection e with e; have := HB.out.size; omega))
            clear hg hnw
            go_wp2
            have hst := (stepK_some (b := by_) (la := laid) (lo := lost) hlt2 (b1 := by_) (l1 := laid) (by rw [if_neg (by have := HBY.out; omega)]) (by rw [if_neg (by have := HBY.out; omega)]) wv).2.2.2
            go_roundg g1
            case measure => omega
            case rel => exact ⟨d + 1, a, by_, laid, lost, Ab, _, cb, xb, by first | rfl | go_num, rfl, by go_num, ⟨by have := HKK.out; omega⟩, ⟨by rw [HS.out, HDR.out, Eb.out]; simp only [knFrom, List.map_cons]; rw [hst]; simp⟩, ⟨by rw [HL.out, HDR.out]; simp only [lastK]; rw [hst]⟩, ⟨by have := congrArg List.length Eb.out; simp only [List.length_append, List.length_cons, List.length_nil] at this; refine ⟨?_, ?_, ?_, ?_, ?_, ?_, ?_, ?_⟩ <;> omega⟩, ⟨HK.out⟩, ⟨HZ.out⟩, ⟨HX.out⟩, ⟨Rb.out⟩, ⟨HB.out⟩⟩

          · skip
            have ys := (HB.out.cell (p := ⟨bs, os + d, none⟩) hbs).trans HSS.out
            have yw := (HB.out.cell (p := ⟨bw, ow + d, none⟩) hbw).trans HWW.out
            have yn := (HB.out.cell (p := ⟨b0, o0 + a * 2, none⟩) hb0).trans HX0.out
            by_cases hq : nv ≤ (by_ + wv)
            · skip
              have hqq : decide (nv ≤ (by_ + wv)) = true := decide_eq_true hq
              go_upto_region 14 with fail
              clear ys yw yn
              clear cK_0 cK_1 cK_2 lK cZ_0 cZ_1 cZ_2 cZ_3 cZ_4 lZ cX_0 cX_1 cX_2 cX_3 cX_4 lX
              have cK_0 := (blk_cell HK.out 0).trans rfl
              have cK_1 := (blk_cell HK.out 1).trans rfl
              have cK_2 := (blk_cell HK.out 2).trans rfl
              have lK := blk_lt HK.out
              have cZ_0 := (blk_cell HZ.out 0).trans rfl
              have cZ_1 := (blk_cell HZ.out 1).trans rfl
              have cZ_2 := (blk_cell HZ.out 2).trans rfl
              have cZ_3 := (blk_cell HZ.out 3).trans rfl
              have cZ_4 := (blk_cell HZ.out 4).trans rfl
              have lZ := blk_lt HZ.out
              have cX_0 := (blk_cell HX.out 0).trans rfl
              have cX_1 := (blk_cell HX.out 1).trans rfl
              have cX_2 := (blk_cell HX.out 2).trans rfl
              have cX_3 := (blk_cell HX.out 3).trans rfl
              have cX_4 := (blk_cell HX.out 4).trans rfl
              have fX_0 := blk_frozen HX.out 0
              have fX_1 := blk_frozen HX.out 1
              have fX_2 := blk_frozen HX.out 2
              have fX_3 := blk_frozen HX.out 3
              have fX_4 := blk_frozen HX.out 4
              have lX := blk_lt HX.out
              go_upto_region 5 with ((with_reducible refine gate_builtin (b := .append) (xs := #[.tmp 90, .tmp 92]) rfl ?_); at_builtin; refine Kd.R_append (Kd.int .i64) (w0 := w) w.heap.size rfl (.tmp 90) (.tmp 92) 45 3 (.int .i64 0) 8 rfl Tryd.underlying45 info3 rfl (by decide) (by omega) (.slice A m c) pre (((a : Int) + 1)) [.int .i64 ((a : Int) + 1)] (fun _ => True) (fun _ => False) rfl rfl (rfl) (fun _ hk => hk.elim) (fun _ _ => trivial) Ra.out HB.out HB.out.size (by omega) ?_; intro vb W1 ho hb hg hat; clear cK_0 cK_1 cK_2 lK cZ_0 cZ_1 cZ_2 cZ_3 cZ_4 lZ cX_0 cX_1 cX_2 cX_3 cX_4 fX_0 fX_1 fX_2 fX_3 fX_4 lX; replace HK := Lib.hid (blk_grown HK.out hg (own_ne Ra.out HK.out (by decide))); replace HZ := Lib.hid (blk_grown HZ.out hg (own_ne Ra.out HZ.out (by decide))); replace HX := Lib.hid (blk_grown HX.out hg (own_ne Ra.out HX.out (by decide))); replace HB := Lib.hid (hb); clear Ra; obtain ⟨xb, hx_⟩ : ∃ l_, l_ = (pre ++ [((a : Int) + 1)]) := ⟨_, rfl⟩; rw [← hx_] at ho; have Eb := Lib.hid hx_; clear hx_; have Rb := Lib.hid ho; clear ho hb hg hat; obtain ⟨Ab, cb, eb⟩ := Kd.R_slice Rb.out; subst eb; have cK_0 := (blk_cell HK.out 0).trans rfl; have cK_1 := (blk_cell HK.out 1).trans rfl; have cK_2 := (blk_cell HK.out 2).trans rfl; have lK := blk_lt HK.out; have cZ_0 := (blk_cell HZ.out 0).trans rfl; have cZ_1 := (blk_cell HZ.out 1).trans rfl; have cZ_2 := (blk_cell HZ.out 2).trans rfl; have cZ_3 := (blk_cell HZ.out 3).trans rfl; have cZ_4 := (blk_cell HZ.out 4).trans rfl; have lZ := blk_lt HZ.out; have cX_0 := (blk_cell HX.out 0).trans rfl; have cX_1 := (blk_cell HX.out 1).trans rfl; have cX_2 := (blk_cell HX.out 2).trans rfl; have cX_3 := (blk_cell HX.out 3).trans rfl; have cX_4 := (blk_cell HX.out 4).trans rfl; have fX_0 := blk_frozen HX.out 0; have fX_1 := blk_frozen HX.out 1; have fX_2 := blk_frozen HX.out 2; have fX_3 := blk_frozen HX.out 3; have fX_4 := blk_frozen HX.out 4; have lX := blk_lt HX.out)
              clear cK_0 cK_1 cK_2 lK cZ_0 cZ_1 cZ_2 cZ_3 cZ_4 lZ cX_0 cX_1 cX_2 cX_3 cX_4 fX_0 fX_1 fX_2 fX_3 fX_4 lX
              obtain ⟨W2, hnw⟩ : ∃ W, W = (W1.setCell ⟨w.heap.size + 1 + 1, 2, none⟩ (.slice Ab xb.length cb)) := ⟨_, rfl⟩
              rw [← hnw]
              have hg : W1.grownBy W2 (some (w.heap.size + 1 + 1)) := by rw [hnw]; exact (g_put (g_refl W1 (some (w.heap.size + 1 + 1))) 2 (.slice Ab xb.length cb))
              have HXq := Lib.hid (show W2.heap[w.heap.size + 1 + 1]? = some (.cells #[.slice (some ⟨bw, ow, none⟩) ch.length cw, .slice (some ⟨bs, os, none⟩) ch.length cs, .slice Ab xb.length cb, .int .i64 laid, .int .i64 lost] 77 (0, 0)) by rw [hnw]; exact blk_put (HX.out) 2 (.slice Ab xb.length cb) rfl)
              have HOLD := HX
              replace Rb := Lib.hid (R_typed_grown Rb.out hg (fun g e => by injection e with e; subst e; exact ⟨_, _, HOLD.out, by decide⟩))
              replace HK := Lib.hid (blk_grown HK.out hg (fun e => by injection e with e; exact absurd e (blk_ne HK.out HX.out (by decide))))
              replace HZ := Lib.hid (blk_grown HZ.out hg (fun e => by injection e with e; omega))
              clear HOLD
              clear HX
              have HX := HXq
              clear HXq
              replace HB := Lib.hid (HB.out.grown hg HB.out.size (fun k e => by injection e with e; have := HB.out.size; omega))
              clear hg hnw
              go_wp2
              have hst := (stepK_some (b := by_) (la := laid) (lo := lost) hlt2 (b1 := by_) (l1 := laid) (by rw [if_neg (by have := HBY.out; omega)]) (by rw [if_neg (by have := HBY.out; omega)]) wv).2.1 (by rw [← HNV.out]; omega)
              go_roundg g1
              case measure => omega
              case rel => exact ⟨d + 1, a + 1, -1, laid, lost, Ab, _, cb, xb, by first | rfl | go_num, rfl, by go_num, ⟨by have := HKK.out; omega⟩, ⟨by rw [HS.out, HDR.out, Eb.out]; simp only [knFrom, List.map_cons]; rw [hst]; simp⟩, ⟨by rw [HL.out, HDR.out]; simp only [lastK]; rw [hst]⟩, ⟨by have := congrArg List.length Eb.out; simp only [List.length_append, List.length_cons, List.length_nil] at this; refine ⟨?_, ?_, ?_, ?_, ?_, ?_, ?_, ?_⟩ <;> omega⟩, ⟨HK.out⟩, ⟨HZ.out⟩, ⟨HX.out⟩, ⟨Rb.out⟩, ⟨HB.out⟩⟩

            · skip
              have hqq : decide (nv ≤ (by_ + wv)) = false := decide_eq_false hq
              go_upto_region 14 with fail
              clear ys yw yn
              clear cK_0 cK_1 cK_2 lK cZ_0 cZ_1 cZ_2 cZ_3 cZ_4 lZ cX_0 cX_1 cX_2 cX_3 cX_4 lX
              have cK_0 := (blk_cell HK.out 0).trans rfl
              have cK_1 := (blk_cell HK.out 1).trans rfl
              have cK_2 := (blk_cell HK.out 2).trans rfl
              have lK := blk_lt HK.out
              have cZ_0 := (blk_cell HZ.out 0).trans rfl
              have cZ_1 := (blk_cell HZ.out 1).trans rfl
              have cZ_2 := (blk_cell HZ.out 2).trans rfl
              have cZ_3 := (blk_cell HZ.out 3).trans rfl
              have cZ_4 := (blk_cell HZ.out 4).trans rfl
              have lZ := blk_lt HZ.out
              have cX_0 := (blk_cell HX.out 0).trans rfl
              have cX_1 := (blk_cell HX.out 1).trans rfl
              have cX_2 := (blk_cell HX.out 2).trans rfl
              have cX_3 := (blk_cell HX.out 3).trans rfl
              have cX_4 := (blk_cell HX.out 4).trans rfl
              have fX_0 := blk_frozen HX.out 0
              have fX_1 := blk_frozen HX.out 1
              have fX_2 := blk_frozen HX.out 2
              have fX_3 := blk_frozen HX.out 3
              have fX_4 := blk_frozen HX.out 4
              have lX := blk_lt HX.out
              go_upto_region 5 with ((with_reducible refine gate_builtin (b := .append) (xs := #[.tmp 90, .tmp 92]) rfl ?_); at_builtin; refine Kd.R_append (Kd.int .i64) (w0 := w) w.heap.size rfl (.tmp 90) (.tmp 92) 45 3 (.int .i64 0) 8 rfl Tryd.underlying45 info3 rfl (by decide) (by omega) (.slice A m c) pre ((a : Int)) [.int .i64 (a : Int)] (fun _ => True) (fun _ => False) rfl rfl (rfl) (fun _ hk => hk.elim) (fun _ _ => trivial) Ra.out HB.out HB.out.size (by omega) ?_; intro vb W1 ho hb hg hat; clear cK_0 cK_1 cK_2 lK cZ_0 cZ_1 cZ_2 cZ_3 cZ_4 lZ cX_0 cX_1 cX_2 cX_3 cX_4 fX_0 fX_1 fX_2 fX_3 fX_4 lX; replace HK := Lib.hid (blk_grown HK.out hg (own_ne Ra.out HK.out (by decide))); replace HZ := Lib.hid (blk_grown HZ.out hg (own_ne Ra.out HZ.out (by decide))); replace HX := Lib.hid (blk_grown HX.out hg (own_ne Ra.out HX.out (by decide))); replace HB := Lib.hid (hb); clear Ra; obtain ⟨xb, hx_⟩ : ∃ l_, l_ = (pre ++ [(a : Int)]) := ⟨_, rfl⟩; rw [← hx_] at ho; have Eb := Lib.hid hx_; clear hx_; have Rb := Lib.hid ho; clear ho hb hg hat; obtain ⟨Ab, cb, eb⟩ := Kd.R_slice Rb.out; subst eb; have cK_0 := (blk_cell HK.out 0).trans rfl; have cK_1 := (blk_cell HK.out 1).trans rfl; have cK_2 := (blk_cell HK.out 2).trans rfl; have lK := blk_lt HK.out; have cZ_0 := (blk_cell HZ.out 0).trans rfl; have cZ_1 := (blk_cell HZ.out 1).trans rfl; have cZ_2 := (blk_cell HZ.out 2).trans rfl; have cZ_3 := (blk_cell HZ.out 3).trans rfl; have cZ_4 := (blk_cell HZ.out 4).trans rfl; have lZ := blk_lt HZ.out; have cX_0 := (blk_cell HX.out 0).trans rfl; have cX_1 := (blk_cell HX.out 1).trans rfl; have cX_2 := (blk_cell HX.out 2).trans rfl; have cX_3 := (blk_cell HX.out 3).trans rfl; have cX_4 := (blk_cell HX.out 4).trans rfl; have fX_0 := blk_frozen HX.out 0; have fX_1 := blk_frozen HX.out 1; have fX_2 := blk_frozen HX.out 2; have fX_3 := blk_frozen HX.out 3; have fX_4 := blk_frozen HX.out 4; have lX := blk_lt HX.out)
              clear cK_0 cK_1 cK_2 lK cZ_0 cZ_1 cZ_2 cZ_3 cZ_4 lZ cX_0 cX_1 cX_2 cX_3 cX_4 fX_0 fX_1 fX_2 fX_3 fX_4 lX
              obtain ⟨W2, hnw⟩ : ∃ W, W = (W1.setCell ⟨w.heap.size + 1 + 1, 2, none⟩ (.slice Ab xb.length cb)) := ⟨_, rfl⟩
              rw [← hnw]
              have hg : W1.grownBy W2 (some (w.heap.size + 1 + 1)) := by rw [hnw]; exact (g_put (g_refl W1 (some (w.heap.size + 1 + 1))) 2 (.slice Ab xb.length cb))
              have HXq := Lib.hid (show W2.heap[w.heap.size + 1 + 1]? = some (.cells #[.slice (some ⟨bw, ow, none⟩) ch.length cw, .slice (some ⟨bs, os, none⟩) ch.length cs, .slice Ab xb.length cb, .int .i64 laid, .int .i64 lost] 77 (0, 0)) by rw [hnw]; exact blk_put (HX.out) 2 (.slice Ab xb.length cb) rfl)
              have HOLD := HX
              replace Rb := Lib.hid (R_typed_grown Rb.out hg (fun g e => by injection e with e; subst e; exact ⟨_, _, HOLD.out, by decide⟩))
              replace HK := Lib.hid (blk_grown HK.out hg (fun e => by injection e with e; exact absurd e (blk_ne HK.out HX.out (by decide))))
              replace HZ := Lib.hid (blk_grown HZ.out hg (fun e => by injection e with e; omega))
              clear HOLD
              clear HX
              have HX := HXq
              clear HXq
              replace HB := Lib.hid (HB.out.grown hg HB.out.size (fun k e => by injection e with e; have := HB.out.size; omega))
              clear hg hnw
              go_wp2
              have hst := (stepK_some (b := by_) (la := laid) (lo := lost) hlt2 (b1 := by_) (l1 := laid) (by rw [if_neg (by have := HBY.out; omega)]) (by rw [if_neg (by have := HBY.out; omega)]) wv).2.2.1 (by rw [← HNV.out]; omega)
              go_roundg g1
              case measure => omega
              case rel => exact ⟨d + 1, a, (by_ + wv), laid, lost, Ab, _, cb, xb, by first | rfl | go_num, rfl, by go_num, ⟨by have := HKK.out; omega⟩, ⟨by rw [HS.out, HDR.out, Eb.out]; simp only [knFrom, List.map_cons]; rw [hst]; simp⟩, ⟨by rw [HL.out, HDR.out]; simp only [lastK]; rw [hst]⟩, ⟨by have := congrArg List.length Eb.out; simp only [List.length_append, List.length_cons, List.length_nil] at this; refine ⟨?_, ?_, ?_, ?_, ?_, ?_, ?_, ?_⟩ <;> omega⟩, ⟨HK.out⟩, ⟨HZ.out⟩, ⟨HX.out⟩, ⟨Rb.out⟩, ⟨HB.out⟩⟩


          · skip
            have ys := (HB.out.cell (p := ⟨bs, os + d, none⟩) hbs).trans HSS.out
            go_upto_region 9 with fail
            clear ys
            clear cK_0 cK_1 cK_2 lK cZ_0 cZ_1 cZ_2 cZ_3 cZ_4 lZ cX_0 cX_1 cX_2 cX_3 cX_4 lX
            have hb : Below wr.heap.size wr wr.drew := (Below.refl _ _).drew
            have hg := g_below hb
            replace Ra := Lib.hid (R_typed_grown Ra.out hg (fun g e => by cases e))
            replace HK := Lib.hid (blk_grown HK.out hg (by simp))
            replace HZ := Lib.hid (blk_grown HZ.out hg (by simp))
            replace HX := Lib.hid (blk_grown HX.out hg (by simp))
            replace HB := Lib.hid (HB.out.trans (below_weaken hb HB.out.size))
            clear hb hg
            refine start_ (n := 12) (S := fun w' => w'.cell? ⟨w.heap.size, 0, none⟩ = some (.slice (some ⟨b0, o0, none⟩) l0.length c0) ∧ w'.cell? ⟨w.heap.size, 1, none⟩ = some (.slice A1 n1 c1) ∧ w'.cell? ⟨w.heap.size, 2, none⟩ = some (.slice A2 n2 c2) ∧ w'.cell? ⟨w.heap.size + 1 + 1, 0, none⟩ = some (.slice (some ⟨bw, ow, none⟩) ch.length cw) ∧ w'.cell? ⟨w.heap.size + 1 + 1, 1, none⟩ = some (.slice (some ⟨bs, os, none⟩) ch.length cs) ∧ w'.cell? ⟨w.heap.size + 1 + 1, 2, none⟩ = some (.slice A m c) ∧ w'.cell? ⟨w.heap.size + 1 + 1, 3, none⟩ = some (.int .i64 laid) ∧ w'.cell? ⟨w.heap.size + 1 + 1, 4, none⟩ = some (.int .i64 lost) ∧ w'.cell? ⟨b0, o0 + a * 2 + 1, none⟩ = some (.int .i64 yv)) (ds := [11]) #[false, false, false, false, false, false, false, false, false, false, false, false] (by kernel_rfl) rfl rfl ⟨(blk_cell HK.out 0).trans rfl, (blk_cell HK.out 1).trans rfl, (blk_cell HK.out 2).trans rfl, (blk_cell HX.out 0).trans rfl, (blk_cell HX.out 1).trans rfl, (blk_cell HX.out 2).trans rfl, (blk_cell HX.out 3).trans rfl, (blk_cell HX.out 4).trans rfl, (HB.out.cell (p := ⟨b0, o0 + a * 2 + 1, none⟩) hb0).trans HX1.out⟩ (fun hHeld => ?_)
            refine pu_ 0 (some 51) ?_
            refine pu_ 2 (some 53) ?_
            refine pu_ 4 (some 55) ?_
            refine pu_ 9 (some 9) ?_
            refine ta_ 1 (some 52) (s := hHeld) (y := by rintro w' ⟨s0, s1, s2, s3, s4, s5, s6, s7, s8⟩; go_simp; with_reducible rfl) (h := ?_)
            refine ta_ 3 (some 54) (s := hHeld) (y := by rintro w' ⟨s0, s1, s2, s3, s4, s5, s6, s7, s8⟩; go_simp; with_reducible rfl) (h := ?_)
            refine pu_ 5 (some 56) ?_
            refine pu_ 6 (some 57) ?_
            refine ta_ 7 (some 58) (s := hHeld) (y := by rintro w' ⟨s0, s1, s2, s3, s4, s5, s6, s7, s8⟩; go_simp; with_reducible rfl) (h := ?_)
            refine pu_ 8 (some 59) ?_
            refine pu_ 10 (some 60) ?_
            refine last_ (i := 11) (N := none) #[true, true, true, true, true, true, true, true, true, true, true, true] rfl rfl (by kernel_rfl) (by decide) (fun K hK => ?_)
            have cX_0 := (blk_cell HX.out 0).trans rfl
            have cX_1 := (blk_cell HX.out 1).trans rfl
            have cX_2 := (blk_cell HX.out 2).trans rfl
            have cX_3 := (blk_cell HX.out 3).trans rfl
            have cX_4 := (blk_cell HX.out 4).trans rfl
            have fX_0 := blk_frozen HX.out 0
            have fX_1 := blk_frozen HX.out 1
            have fX_2 := blk_frozen HX.out 2
            have fX_3 := blk_frozen HX.out 3
            have fX_4 := blk_frozen HX.out 4
            have lX := blk_lt HX.out
            refine skip_ (w1 := ?_) (by rfl) rfl ?_ ?_
            rotate_left
            · go_simp
              rfl
            refine hK.out _ _ ?_
            clear hK K
            refine done_ (by kernel_rfl) ?_

            clear cX_0 cX_1 cX_2 cX_3 cX_4 fX_0 fX_1 fX_2 fX_3 fX_4 lX
            obtain ⟨W1, hnw_⟩ : ∃ W, W = ((wr.setCell ⟨w.heap.size + 1 + 1, 4, none⟩ (.int .i64 (lost + yv)))).drew := ⟨_, rfl⟩
            rw [← hnw_]
            have hnw : W1 = (wr.drew.setCell ⟨w.heap.size + 1 + 1, 4, none⟩ (.int .i64 (lost + yv))) := hnw_.trans rfl
            clear hnw_
            have hg : wr.drew.grownBy W1 (some (w.heap.size + 1 + 1)) := by rw [hnw]; exact (g_put (g_refl wr.drew (some (w.heap.size + 1 + 1))) 4 (.int .i64 (lost + yv)))
            have HXq := Lib.hid (show W1.heap[w.heap.size + 1 + 1]? = some (.cells #[.slice (some ⟨bw, ow, none⟩) ch.length cw, .slice (some ⟨bs, os, none⟩) ch.length cs, .slice A m c, .int .i64 laid, .int .i64 (lost + yv)] 77 (0, 0)) by rw [hnw]; exact blk_put (HX.out) 4 (.int .i64 (lost + yv)) rfl)
            have HOLD := HX
            replace Ra := Lib.hid (R_typed_grown Ra.out hg (fun g e => by injection e with e; subst e; exact ⟨_, _, HOLD.out, by decide⟩))
            replace HK := Lib.hid (blk_grown HK.out hg (fun e => by injection e with e; exact absurd e (blk_ne HK.out HX.out (by decide))))
            replace HZ := Lib.hid (blk_grown HZ.out hg (fun e => by injection e with e; omega))
            clear HOLD
            clear HX
            have HX := HXq
            clear HXq
            replace HB := Lib.hid (HB.out.grown hg HB.out.size (fun k e => by injection e with e; have := HB.out.size; omega))
            clear hg hnw
            have cK_0 := (blk_cell HK.out 0).trans rfl
            have cK_1 := (blk_cell HK.out 1).trans rfl
            have cK_2 := (blk_cell HK.out 2).trans rfl
            have lK := blk_lt HK.out
            have cZ_0 := (blk_cell HZ.out 0).trans rfl
            have cZ_1 := (blk_cell HZ.out 1).trans rfl
            have cZ_2 := (blk_cell HZ.out 2).trans rfl
            have cZ_3 := (blk_cell HZ.out 3).trans rfl
            have cZ_4 := (blk_cell HZ.out 4).trans rfl
            have lZ := blk_lt HZ.out
            have cX_0 := (blk_cell HX.out 0).trans rfl
            have cX_1 := (blk_cell HX.out 1).trans rfl
            have cX_2 := (blk_cell HX.out 2).trans rfl
            have cX_3 := (blk_cell HX.out 3).trans rfl
            have cX_4 := (blk_cell HX.out 4).trans rfl
            have lX := blk_lt HX.out
            have ys := (HB.out.cell (p := ⟨bs, os + d, none⟩) hbs).trans HSS.out
            go_upto_region 14 with fail
            clear ys
            clear cK_0 cK_1 cK_2 lK cZ_0 cZ_1 cZ_2 cZ_3 cZ_4 lZ cX_0 cX_1 cX_2 cX_3 cX_4 lX
            have cK_0 := (blk_cell HK.out 0).trans rfl
            have cK_1 := (blk_cell HK.out 1).trans rfl
            have cK_2 := (blk_cell HK.out 2).trans rfl
            have lK := blk_lt HK.out
            have cZ_0 := (blk_cell HZ.out 0).trans rfl
            have cZ_1 := (blk_cell HZ.out 1).trans rfl
            have cZ_2 := (blk_cell HZ.out 2).trans rfl
            have cZ_3 := (blk_cell HZ.out 3).trans rfl
            have cZ_4 := (blk_cell HZ.out 4).trans rfl
            have lZ := blk_lt HZ.out
            have cX_0 := (blk_cell HX.out 0).trans rfl
            have cX_1 := (blk_cell HX.out 1).trans rfl
            have cX_2 := (blk_cell HX.out 2).trans rfl
            have cX_3 := (blk_cell HX.out 3).trans rfl
            have cX_4 := (blk_cell HX.out 4).trans rfl
            have fX_0 := blk_frozen HX.out 0
            have fX_1 := blk_frozen HX.out 1
            have fX_2 := blk_frozen HX.out 2
            have fX_3 := blk_frozen HX.out 3
            have fX_4 := blk_frozen HX.out 4
            have lX := blk_lt HX.out
            go_upto_region 5 with ((with_reducible refine gate_builtin (b := .append) (xs := #[.tmp 90, .tmp 92]) rfl ?_); at_builtin; refine Kd.R_append (Kd.int .i64) (w0 := w) w.heap.size rfl (.tmp 90) (.tmp 92) 45 3 (.int .i64 0) 8 rfl Tryd.underlying45 info3 rfl (by decide) (by omega) (.slice A m c) pre ((a : Int)) [.int .i64 (a : Int)] (fun _ => True) (fun _ => False) rfl rfl (rfl) (fun _ hk => hk.elim) (fun _ _ => trivial) Ra.out HB.out HB.out.size (by omega) ?_; intro vb W2 ho hb hg hat; clear cK_0 cK_1 cK_2 lK cZ_0 cZ_1 cZ_2 cZ_3 cZ_4 lZ cX_0 cX_1 cX_2 cX_3 cX_4 fX_0 fX_1 fX_2 fX_3 fX_4 lX; replace HK := Lib.hid (blk_grown HK.out hg (own_ne Ra.out HK.out (by decide))); replace HZ := Lib.hid (blk_grown HZ.out hg (own_ne Ra.out HZ.out (by decide))); replace HX := Lib.hid (blk_grown HX.out hg (own_ne Ra.out HX.out (by decide))); replace HB := Lib.hid (hb); clear Ra; obtain ⟨xb, hx_⟩ : ∃ l_, l_ = (pre ++ [(a : Int)]) := ⟨_, rfl⟩; rw [← hx_] at ho; have Eb := Lib.hid hx_; clear hx_; have Rb := Lib.hid ho; clear ho hb hg hat; obtain ⟨Ab, cb, eb⟩ := Kd.R_slice Rb.out; subst eb; have cK_0 := (blk_cell HK.out 0).trans rfl; have cK_1 := (blk_cell HK.out 1).trans rfl; have cK_2 := (blk_cell HK.out 2).trans rfl; have lK := blk_lt HK.out; have cZ_0 := (blk_cell HZ.out 0).trans rfl; have cZ_1 := (blk_cell HZ.out 1).trans rfl; have cZ_2 := (blk_cell HZ.out 2).trans rfl; have cZ_3 := (blk_cell HZ.out 3).trans rfl; have cZ_4 := (blk_cell HZ.out 4).trans rfl; have lZ := blk_lt HZ.out; have cX_0 := (blk_cell HX.out 0).trans rfl; have cX_1 := (blk_cell HX.out 1).trans rfl; have cX_2 := (blk_cell HX.out 2).trans rfl; have cX_3 := (blk_cell HX.out 3).trans rfl; have cX_4 := (blk_cell HX.out 4).trans rfl; have fX_0 := blk_frozen HX.out 0; have fX_1 := blk_frozen HX.out 1; have fX_2 := blk_frozen HX.out 2; have fX_3 := blk_frozen HX.out 3; have fX_4 := blk_frozen HX.out 4; have lX := blk_lt HX.out)
            clear cK_0 cK_1 cK_2 lK cZ_0 cZ_1 cZ_2 cZ_3 cZ_4 lZ cX_0 cX_1 cX_2 cX_3 cX_4 fX_0 fX_1 fX_2 fX_3 fX_4 lX
            obtain ⟨W3, hnw⟩ : ∃ W, W = (W2.setCell ⟨w.heap.size + 1 + 1, 2, none⟩ (.slice Ab xb.length cb)) := ⟨_, rfl⟩
            rw [← hnw]
            have hg : W2.grownBy W3 (some (w.heap.size + 1 + 1)) := by rw [hnw]; exact (g_put (g_refl W2 (some (w.heap.size + 1 + 1))) 2 (.slice Ab xb.length cb))
            have HXq := Lib.hid (show W3.heap[w.heap.size + 1 + 1]? = some (.cells #[.slice (some ⟨bw, ow, none⟩) ch.length cw, .slice (some ⟨bs, os, none⟩) ch.length cs, .slice Ab xb.length cb, .int .i64 laid, .int .i64 (lost + yv)] 77 (0, 0)) by rw [hnw]; exact blk_put (HX.out) 2 (.slice Ab xb.length cb) rfl)
            have HOLD := HX
            replace Rb := Lib.hid (R_typed_grown Rb.out hg (fun g e => by injection e with e; subst e; exact ⟨_, _, HOLD.out, by decide⟩))
            replace HK := Lib.hid (blk_grown HK.out hg (fun e => by injection e with e; exact absurd e (blk_ne HK.out HX.out (by decide))))
            replace HZ := Lib.hid (blk_grown HZ.out hg (fun e => by injection e with e; omega))
            clear HOLD
            clear HX
            have HX := HXq
            clear HXq
            replace HB := Lib.hid (HB.out.grown hg HB.out.size (fun k e => by injection e with e; have := HB.out.size; omega))
            clear hg hnw
            go_wp2
            have hst := (show stepK l0 ⟨a, by_, laid, lost⟩ 2 wv = ⟨a, -1, laid, lost + yv⟩ by have e := (stepK_some (b := by_) (la := laid) (lo := lost) hlt2 (b1 := by_) (l1 := laid) (by rw [if_neg (by have := HBY.out; omega)]) (by rw [if_neg (by have := HBY.out; omega)]) wv).1; rw [← HYV.out] at e; exact e)
            go_roundg g1
            case measure => omega
            case rel => exact ⟨d + 1, a, -1, laid, (lost + yv), Ab, _, cb, xb, by first | rfl | go_num, rfl, by go_num, ⟨by have := HKK.out; omega⟩, ⟨by rw [HS.out, HDR.out, Eb.out]; simp only [knFrom, List.map_cons]; rw [hst]; simp⟩, ⟨by rw [HL.out, HDR.out]; simp only [lastK]; rw [hst]⟩, ⟨by have := congrArg List.length Eb.out; simp only [List.length_append, List.length_cons, List.length_nil] at this; refine ⟨?_, ?_, ?_, ?_, ?_, ?_, ?_, ?_⟩ <;> omega⟩, ⟨HK.out⟩, ⟨HZ.out⟩, ⟨HX.out⟩, ⟨Rb.out⟩, ⟨HB.out⟩⟩
end Go.Proofs.YthgjedagbgmgmaaDoor.Pr
namespace Go.Proofs.YthgjedagbgmgmaaDoor.Pr
open Go.RowKit Go.Proofs.YthgjedagbgmgmaaDoorW.PrintWords Go.Proofs.YthgjedagbgmgmaaDoorW.PrintLast Go.Proofs.YthgjedagbgmgmaaDoorW.PrintMore
set_option linter.unusedVariables false
set_option linter.unusedSimpArgs false
theorem wrap_law' (n : Int) (m : Nat) (hm : 0 < m) (hm2 : m ≤ 9223372036854775807) : ∃ d : Nat, macadamref00_Wrap.f n m = some (d : Int) ∧ d < m := by
  have hmi : (0 : Int) < (m : Int) := by omega
  unfold macadamref00_Wrap.f
  rw [if_neg (by omega), if_neg (by omega)]
  have h1 := Int.tmod_lt_of_pos n hmi
  have h2 : -(m : Int) < Int.tmod n m := by
    have h := Int.tmod_lt_of_pos (-n) hmi
    rw [Int.neg_tmod] at h
    omega
  by_cases h : Int.tmod n m < 0
  · rw [if_pos h, wrap64_id (by omega) (by omega)]
    exact ⟨(Int.tmod n m + m).toNat, by congr 1; omega, by omega⟩
  · rw [if_neg h]
    exact ⟨(Int.tmod n m).toNat, by congr 1; omega, by omega⟩
theorem pick_law (l : List Int) (a : Int) (hl : l.length ≤ 9223372036854775807) : ∃ r, macadamref00_Pick.f l a = some r ∧ (0 < l.length → r ∈ l) := by
  unfold macadamref00_Pick.f
  by_cases h : l.length = 0
  · rw [if_pos (by omega)]
    exact ⟨0, rfl, fun q => by omega⟩
  · rw [if_neg (by omega)]
    obtain ⟨d, hd, hlt⟩ := wrap_law' a l.length (by omega) hl
    rw [hd]
    simp only [Option.bind_some]
    rw [if_pos (by omega), if_pos (by omega), rd_at hlt]
    exact ⟨_, rfl, fun _ => List.getElem_mem hlt⟩
theorem pick_calls {A : Option Addr} {c : Nat} {l : List Int} (a : Int) (w : World) (hr : Kd.C (Kd.int .i64) w A l.length l) (hc : l.length ≤ c) : Calls Tryd.prog 118 #[.slice A l.length c, .int .i64 a] w fun e w' => ∃ r : Int, e = .returned (.int .i64 r) ∧ (0 < l.length → r ∈ l) ∧ Below w.heap.size w w' := by
  obtain ⟨r, h1, h2⟩ := pick_law l a (by have := hr.2.1; omega)
  exact (macadamref00_Pick.calls A c l a r w hr hc h1).mono (by rintro e w' ⟨rfl, hd⟩; exact ⟨r, rfl, h2, hd.below⟩)
theorem frSp_calls {lo hi : Int} (h0 : 0 ≤ lo) (h1 : lo ≤ hi) (h2 : hi ≤ 20) (n : Int) (w : World) : Calls Tryd.prog 117 #[.agg #[.int .i64 lo, .int .i64 hi], .int .i64 n] w fun e w' => ∃ r : Int, e = .returned (.int .i64 r) ∧ (lo ≤ r ∧ r ≤ hi) ∧ Below w.heap.size w w' := by
  obtain ⟨d, hd, hlt⟩ := wrap_law' n (hi - lo + 1).toNat (by omega) (by omega)
  refine (macadamref00_From.calls lo hi n (lo + d) w ?_).mono (by rintro e w' ⟨rfl, hd⟩; exact ⟨lo + d, rfl, by omega, hd⟩)
  unfold macadamref00_From.f
  rw [wrap64_id (x := hi - lo) (by omega) (by omega), wrap64_id (x := hi - lo + 1) (by omega) (by omega), show hi - lo + 1 = (((hi - lo + 1).toNat : Nat) : Int) by omega, hd]
  simp only [Option.bind_some]
  rw [wrap64_id (by omega) (by omega)]
theorem pick_in {s r : Int} (h1 : 1 ≤ s) (h7 : s ≤ 7) (h : 0 < (allL s 3 0).length → r ∈ allL s 3 0) : 0 ≤ r ∧ r ≤ 2 ∧ hasSky s r.toNat = true := by
  have hne : 0 < (allL s 3 0).length := by
    have hs : s = 1 ∨ s = 2 ∨ s = 3 ∨ s = 4 ∨ s = 5 ∨ s = 6 ∨ s = 7 := by omega
    rcases hs with rfl | rfl | rfl | rfl | rfl | rfl | rfl <;> decide
  obtain ⟨j, rfl, _, hj, hs⟩ := (allL_mem s 3 0 r).1 (h hne)
  exact ⟨by omega, by omega, by rwa [Int.toNat_natCast]⟩
theorem day_snoc {ds : List S90} {pre : Ch} {k : Nat} {p : Int × Int} (h : ∀ i (h : i < pre.length) (h2 : i < ds.length), DayIn ds[i] pre[i]) (hk : pre.length = k) (hlt : k < ds.length) (hp : DayIn ds[k] p) : ∀ i (h : i < (pre ++ [p]).length) (h2 : i < ds.length), DayIn ds[i] (pre ++ [p])[i] := by
  intro i hi h2
  by_cases q : i < pre.length
  · rw [List.getElem_append_left q]
    exact h i q h2
  · have : i = k := by simp at hi; omega
    subst this
    rw [List.getElem_append_right (by omega)]
    simpa using hp
/-- A look that sees what is so. -/
def seenL (kb : List Int) (x : S43) : S43 := ⟨x.f0, kb.getD x.f0.toNat 0⟩
set_option maxHeartbeats 1000000 in
set_option maxRecDepth 100000 in
theorem rightly_calls (A0 A1 A2 Aw As Ab : Option Addr) (n0 n1 c0 c1 c2 nw ns cw cs cb : Nat) (la lo : Int) (l2 : List S43) (kb : List Int) (h4 : l2.length ≤ 4) (hrg : ∀ x ∈ l2, 0 ≤ x.f0 ∧ x.f0 < kb.length) (w : World) (hr2 : Kd.C k43 w A2 l2.length l2) (hrb : Kd.C (Kd.int .i64) w Ab kb.length kb) :
    Calls Tryd.prog 58 #[.agg #[.slice A0 n0 c0, .slice A1 n1 c1, .slice A2 l2.length c2], .agg #[.slice Aw nw cw, .slice As ns cs, .slice Ab kb.length cb, .int .i64 la, .int .i64 lo]] w fun e w' => ∃ A c, e = .returned (.agg #[.slice A0 n0 c0, .slice A1 n1 c1, .slice A (l2.map (seenL kb)).length c]) ∧ Kd.R k43 43 w' w.heap.size (fun _ => True) (.slice A (l2.map (seenL kb)).length c) (l2.map (seenL kb)) ∧ Below w.heap.size w w' := by
  have HAT := Lib.hid (fun (i : Nat) (hi : i < l2.length) => at43 (row43 hr2) i hi)
  have HRB := Lib.hid hrb
  have HRG := Lib.hid hrg
  clear hr2 hrb hrg
  go_enter Tryd.func58, Tryd.ntmps58
  have HB := Lib.hid (Below.refl w.heap.size w)
  go_wp2
  obtain ⟨W1, hnw⟩ : ∃ W, W = ((((w.alloc (.cells #[.slice A0 n0 c0, .slice A1 n1 c1, .slice A2 l2.length c2] 26)).alloc (.cells #[.slice Aw nw cw, .slice As ns cs, .slice Ab kb.length cb, .int .i64 la, .int .i64 lo] 77)).alloc (.cells #[.slice none 0 0, .slice none 0 0, .slice none 0 0] 26)).alloc (.cells #[.slice A0 n0 c0, .slice A1 n1 c1, .slice none 0 0] 26)) := ⟨_, rfl⟩
  rw [← hnw]
  have hg : w.grownBy W1 (none) := by rw [hnw]; exact (g_all (g_all (g_all (g_all (g_refl w (none)) (.cells #[.slice A0 n0 c0, .slice A1 n1 c1, .slice A2 l2.length c2] 26)) (.cells #[.slice Aw nw cw, .slice As ns cs, .slice Ab kb.length cb, .int .i64 la, .int .i64 lo] 77)) (.cells #[.slice none 0 0, .slice none 0 0, .slice none 0 0] 26)) (.cells #[.slice A0 n0 c0, .slice A1 n1 c1, .slice none 0 0] 26))
  have HK := Lib.hid (show W1.heap[w.heap.size]? = some (.cells #[.slice A0 n0 c0, .slice A1 n1 c1, .slice A2 l2.length c2] 26 (0, 0)) by rw [hnw]; exact blk_alloc (blk_alloc (blk_alloc (blk_at w (.cells #[.slice A0 n0 c0, .slice A1 n1 c1, .slice A2 l2.length c2] 26) _ (by simp)) (.cells #[.slice Aw nw cw, .slice As ns cs, .slice Ab kb.length cb, .int .i64 la, .int .i64 lo] 77)) (.cells #[.slice none 0 0, .slice none 0 0, .slice none 0 0] 26)) (.cells #[.slice A0 n0 c0, .slice A1 n1 c1, .slice none 0 0] 26))
  have HN := Lib.hid (show W1.heap[w.heap.size + 1]? = some (.cells #[.slice Aw nw cw, .slice As ns cs, .slice Ab kb.length cb, .int .i64 la, .int .i64 lo] 77 (0, 0)) by rw [hnw]; exact blk_alloc (blk_alloc (blk_at (w.alloc (.cells #[.slice A0 n0 c0, .slice A1 n1 c1, .slice A2 l2.length c2] 26)) (.cells #[.slice Aw nw cw, .slice As ns cs, .slice Ab kb.length cb, .int .i64 la, .int .i64 lo] 77) _ (by simp)) (.cells #[.slice none 0 0, .slice none 0 0, .slice none 0 0] 26)) (.cells #[.slice A0 n0 c0, .slice A1 n1 c1, .slice none 0 0] 26))
  have HZ := Lib.hid (show W1.heap[w.heap.size + 1 + 1]? = some (.cells #[.slice none 0 0, .slice none 0 0, .slice none 0 0] 26 (0, 0)) by rw [hnw]; exact blk_alloc (blk_at ((w.alloc (.cells #[.slice A0 n0 c0, .slice A1 n1 c1, .slice A2 l2.length c2] 26)).alloc (.cells #[.slice Aw nw cw, .slice As ns cs, .slice Ab kb.length cb, .int .i64 la, .int .i64 lo] 77)) (.cells #[.slice none 0 0, .slice none 0 0, .slice none 0 0] 26) _ (by simp)) (.cells #[.slice A0 n0 c0, .slice A1 n1 c1, .slice none 0 0] 26))
  have HX := Lib.hid (show W1.heap[w.heap.size + 1 + 1 + 1]? = some (.cells #[.slice A0 n0 c0, .slice A1 n1 c1, .slice none 0 0] 26 (0, 0)) by rw [hnw]; exact blk_at (((w.alloc (.cells #[.slice A0 n0 c0, .slice A1 n1 c1, .slice A2 l2.length c2] 26)).alloc (.cells #[.slice Aw nw cw, .slice As ns cs, .slice Ab kb.length cb, .int .i64 la, .int .i64 lo] 77)).alloc (.cells #[.slice none 0 0, .slice none 0 0, .slice none 0 0] 26)) (.cells #[.slice A0 n0 c0, .slice A1 n1 c1, .slice none 0 0] 26) _ (by simp))
  replace HB := Lib.hid (HB.out.grown hg HB.out.size (fun k e => by cases e))
  clear hg hnw
  go_loopg [6] (l2.length) (fun gk v6 wr => ∃ (k : Nat) (A : Option Addr) (m c : Nat) (pre : List S43), v6 = .int .i64 (k : Int) ∧ Aside0 (k + gk = l2.length) ∧ Aside0 (wr.heap[w.heap.size]? = some (.cells #[.slice A0 n0 c0, .slice A1 n1 c1, .slice A2 l2.length c2] 26 (0, 0))) ∧ Aside0 (wr.heap[w.heap.size + 1]? = some (.cells #[.slice Aw nw cw, .slice As ns cs, .slice Ab kb.length cb, .int .i64 la, .int .i64 lo] 77 (0, 0))) ∧ Aside0 (wr.heap[w.heap.size + 1 + 1]? = some (.cells #[.slice none 0 0, .slice none 0 0, .slice none 0 0] 26 (0, 0))) ∧ Aside0 (wr.heap[w.heap.size + 1 + 1 + 1]? = some (.cells #[.slice A0 n0 c0, .slice A1 n1 c1, .slice A m c] 26 (0, 0))) ∧ Aside0 (Kd.R k43 43 wr w.heap.size (fun _ => True) (.slice A m c) pre) ∧ Aside0 (l2.map (seenL kb) = pre ++ (l2.drop k).map (seenL kb)) ∧ Aside0 (Below w.heap.size w wr))
  case atStart => exact ⟨0, none, 0, 0, [], rfl, ⟨by omega⟩, ⟨HK.out⟩, ⟨HN.out⟩, ⟨HZ.out⟩, ⟨HX.out⟩, ⟨Kd.R_nil _ _ _ _ _⟩, ⟨rfl⟩, ⟨HB.out⟩⟩
  case round =>
    clear HB HK HN HZ HX
    obtain ⟨k, A, m, c, pre, rfl, HKK, HK, HN, HZ, HX, Ra, HS, HB⟩ := hrel
    cases gk with
    | zero =>
      have hge : ¬ k < l2.length := by have := HKK.out; omega
      have hp : l2.map (seenL kb) = pre := by rw [HS.out, List.drop_of_length_le (by omega)]; exact List.append_nil _
      have HP := Lib.hid hp
      clear hp
      have hm := (Kd.R_reads' Ra.out).1
      subst hm
      have cK_0 := (blk_cell HK.out 0).trans rfl
      have cK_1 := (blk_cell HK.out 1).trans rfl
      have cK_2 := (blk_cell HK.out 2).trans rfl
      have lK := blk_lt HK.out
      have cN_0 := (blk_cell HN.out 0).trans rfl
      have cN_1 := (blk_cell HN.out 1).trans rfl
      have cN_2 := (blk_cell HN.out 2).trans rfl
      have cN_3 := (blk_cell HN.out 3).trans rfl
      have cN_4 := (blk_cell HN.out 4).trans rfl
      have lN := blk_lt HN.out
      have cZ_0 := (blk_cell HZ.out 0).trans rfl
      have cZ_1 := (blk_cell HZ.out 1).trans rfl
      have cZ_2 := (blk_cell HZ.out 2).trans rfl
      have fZ_0 := blk_frozen HZ.out 0
      have fZ_1 := blk_frozen HZ.out 1
      have fZ_2 := blk_frozen HZ.out 2
      have lZ := blk_lt HZ.out
      have cX_0 := (blk_cell HX.out 0).trans rfl
      have cX_1 := (blk_cell HX.out 1).trans rfl
      have cX_2 := (blk_cell HX.out 2).trans rfl
      have lX := blk_lt HX.out
      go_wp2
      have hz := blk_put (blk_put (blk_put HZ.out 0 (.slice A0 n0 c0) rfl) 1 (.slice A1 n1 c1) rfl) 2 (.slice A pre.length c) rfl
      have hg := g_put (g_put (g_put (g_refl wr (some (w.heap.size + 1 + 1))) 0 (.slice A0 n0 c0)) 1 (.slice A1 n1 c1)) 2 (.slice A pre.length c)
      have hR := R_typed_grown Ra.out hg (fun g e => by injection e with e; subst e; exact ⟨_, _, HZ.out, by decide⟩)
      rw [HP.out]
      refine bodyPost_ret (results_cell_row rfl _ _ (w.heap.size + 1 + 1) 26 #[.slice A0 n0 c0, .slice A1 n1 c1, .slice A pre.length c] (0, 0) _ rfl hz Tryd.underlying26 rfl (by kernel_rfl)) rfl ⟨A, c, rfl, hR, ?_⟩
      exact HB.out.grown hg HB.out.size (fun k e => by injection e with e; have := HB.out.size; omega)

    | succ g1 =>
      have hlt : k < l2.length := by have := HKK.out; omega
      have hpl : pre.length ≤ l2.length := by have := congrArg List.length HS.out; rw [List.length_append] at this; simp only [List.length_map] at this; omega
      obtain ⟨b, o, eA, hbl, hx0, _⟩ := HAT.out k hlt
      obtain ⟨lx, hlx⟩ : ∃ x, x = l2[k] := ⟨_, rfl⟩
      have hrange := HRG.out lx (by rw [hlx]; exact List.getElem_mem hlt)
      rw [← hlx] at hx0
      have hdr : l2.drop k = lx :: l2.drop (k + 1) := by rw [List.drop_eq_getElem_cons hlt, hlx]
      have HDR := Lib.hid hdr
      have HX0 := Lib.hid hx0
      obtain ⟨dn, hdn⟩ : ∃ n : Nat, lx.f0 = (n : Int) := ⟨lx.f0.toNat, by omega⟩
      have hdb : dn < kb.length := by omega
      obtain ⟨bb, ob, eB, hbb, hy0⟩ := cell_int HRB.out (i := dn) hdb
      obtain ⟨bv, hbv⟩ : ∃ x, x = kb[dn] := ⟨_, rfl⟩
      rw [← hbv] at hy0
      have HY0 := Lib.hid hy0
      have hsee : seenL kb lx = ⟨(dn : Int), bv⟩ := by unfold seenL; rw [hdn, Int.toNat_natCast, List.getD_eq_getElem?_getD, List.getElem?_eq_getElem hdb, hbv]; rfl
      have HSEE := Lib.hid hsee
      rw [hdn] at HX0
      subst eA eB
      clear hlx hx0 hy0 hdr hsee hbv hdn hrange
      have cK_0 := (blk_cell HK.out 0).trans rfl
      have cK_1 := (blk_cell HK.out 1).trans rfl
      have cK_2 := (blk_cell HK.out 2).trans rfl
      have lK := blk_lt HK.out
      have cN_0 := (blk_cell HN.out 0).trans rfl
      have cN_1 := (blk_cell HN.out 1).trans rfl
      have cN_2 := (blk_cell HN.out 2).trans rfl
      have cN_3 := (blk_cell HN.out 3).trans rfl
      have cN_4 := (blk_cell HN.out 4).trans rfl
      have lN := blk_lt HN.out
      have cZ_0 := (blk_cell HZ.out 0).trans rfl
      have cZ_1 := (blk_cell HZ.out 1).trans rfl
      have cZ_2 := (blk_cell HZ.out 2).trans rfl
      have lZ := blk_lt HZ.out
      have cX_0 := (blk_cell HX.out 0).trans rfl
      have cX_1 := (blk_cell HX.out 1).trans rfl
      have cX_2 := (blk_cell HX.out 2).trans rfl
      have lX := blk_lt HX.out
      have yx := (HB.out.cell (p := ⟨b, o + k * 2, none⟩) hbl).trans HX0.out
      go_upto_region 7 with fail
      clear yx
      clear cK_0 cK_1 cK_2 lK cN_0 cN_1 cN_2 cN_3 cN_4 lN cZ_0 cZ_1 cZ_2 lZ cX_0 cX_1 cX_2 lX
      have hb : Below wr.heap.size wr wr.drew := (Below.refl _ _).drew
      have hg := g_below hb
      replace Ra := Lib.hid (R_typed_grown Ra.out hg (fun g e => by cases e))
      replace HK := Lib.hid (blk_grown HK.out hg (by simp))
      replace HN := Lib.hid (blk_grown HN.out hg (by simp))
      replace HZ := Lib.hid (blk_grown HZ.out hg (by simp))
      replace HX := Lib.hid (blk_grown HX.out hg (by simp))
      replace HB := Lib.hid (HB.out.trans (below_weaken hb HB.out.size))
      clear hb hg
      refine start_ (n := 13) (S := fun w' => w'.cell? ⟨w.heap.size, 0, none⟩ = some (.slice A0 n0 c0) ∧ w'.cell? ⟨w.heap.size, 1, none⟩ = some (.slice A1 n1 c1) ∧ w'.cell? ⟨w.heap.size, 2, none⟩ = some (.slice (some ⟨b, o, none⟩) l2.length c2) ∧ w'.cell? ⟨w.heap.size + 1, 0, none⟩ = some (.slice Aw nw cw) ∧ w'.cell? ⟨w.heap.size + 1, 1, none⟩ = some (.slice As ns cs) ∧ w'.cell? ⟨w.heap.size + 1, 2, none⟩ = some (.slice (some ⟨bb, ob, none⟩) kb.length cb) ∧ w'.cell? ⟨w.heap.size + 1, 3, none⟩ = some (.int .i64 la) ∧ w'.cell? ⟨w.heap.size + 1, 4, none⟩ = some (.int .i64 lo) ∧ w'.cell? ⟨w.heap.size + 1 + 1, 0, none⟩ = some (.slice none 0 0) ∧ w'.cell? ⟨w.heap.size + 1 + 1, 1, none⟩ = some (.slice none 0 0) ∧ w'.cell? ⟨w.heap.size + 1 + 1, 2, none⟩ = some (.slice none 0 0) ∧ w'.cell? ⟨w.heap.size + 1 + 1 + 1, 0, none⟩ = some (.slice A0 n0 c0) ∧ w'.cell? ⟨w.heap.size + 1 + 1 + 1, 1, none⟩ = some (.slice A1 n1 c1) ∧ w'.cell? ⟨w.heap.size + 1 + 1 + 1, 2, none⟩ = some (.slice A m c) ∧ w'.cell? ⟨bb, ob + dn, none⟩ = some (.int .i64 bv)) (ds := [12]) #[false, false, false, false, false, false, false, false, false, false, false, false, false] (by kernel_rfl) rfl rfl ⟨(blk_cell HK.out 0).trans rfl, (blk_cell HK.out 1).trans rfl, (blk_cell HK.out 2).trans rfl, (blk_cell HN.out 0).trans rfl, (blk_cell HN.out 1).trans rfl, (blk_cell HN.out 2).trans rfl, (blk_cell HN.out 3).trans rfl, (blk_cell HN.out 4).trans rfl, (blk_cell HZ.out 0).trans rfl, (blk_cell HZ.out 1).trans rfl, (blk_cell HZ.out 2).trans rfl, (blk_cell HX.out 0).trans rfl, (blk_cell HX.out 1).trans rfl, (blk_cell HX.out 2).trans rfl, (HB.out.cell (p := ⟨bb, ob + dn, none⟩) hbb).trans HY0.out⟩ (fun hHeld => ?_)
      refine pu_ 0 (some 23) ?_
      refine pu_ 2 (some 25) ?_
      refine pu_ 3 (some 26) ?_
      refine pu_ 5 (some 28) ?_
      refine ta_ 1 (some 24) (s := hHeld) (y := by rintro w' ⟨s0, s1, s2, s3, s4, s5, s6, s7, s8, s9, s10, s11, s12, s13, s14⟩; go_simp; with_reducible rfl) (h := ?_)
      refine ta_ 4 (some 27) (s := hHeld) (y := by rintro w' ⟨s0, s1, s2, s3, s4, s5, s6, s7, s8, s9, s10, s11, s12, s13, s14⟩; go_simp; with_reducible rfl) (h := ?_)
      refine pu_ 6 (some 29) ?_
      refine ta_ 7 (some 30) (s := hHeld) (y := by rintro w' ⟨s0, s1, s2, s3, s4, s5, s6, s7, s8, s9, s10, s11, s12, s13, s14⟩; go_simp; with_reducible rfl) (h := ?_)
      refine pu_ 8 (some 31) ?_
      refine one_ (i := 9) (N := some 32) #[true, true, true, true, true, true, true, true, true, true, false, false, false] rfl rfl (by kernel_rfl) (by decide) (fun K hK => ?_)
      refine Kd.R_lit_step k43 (w0 := w) (w.heap.size) 43 (by rfl) rfl (xs := ([⟨(dn : Int), bv⟩] : List S43)) (inner := [.int .i64 (dn : Int), .int .i64 bv]) (ok := fun _ => True) (okp := fun _ => True) ?hr_ ?hp_ (fun _ hk => hk) trivial HB.out HB.out.size (by simp) ?_
      (case hr_ => first | (go_simp; done) | (go_simp; rfl))
      (case hp_ => exact (reps_lone rfl (k43_mkM _ _ _ ⟨(dn : Int), bv⟩)))
      intro ve W1 ho hb hg hnew_
      have Pa_e := Lib.hid (sep_new Ra.out hnew_)
      have Pe_a := Lib.hid (sep_sym Pa_e.out)
      clear hnew_
      replace Ra := Lib.hid (R_typed_grown Ra.out hg (fun g e => by cases e))
      replace HK := Lib.hid (blk_grown HK.out hg (by simp))
      replace HN := Lib.hid (blk_grown HN.out hg (by simp))
      replace HZ := Lib.hid (blk_grown HZ.out hg (by simp))
      replace HX := Lib.hid (blk_grown HX.out hg (by simp))
      replace HB := Lib.hid (hb)
      have Re := Lib.hid ho
      clear ho hb hg
      refine hK.out _ _ ⟨(blk_cell HK.out 0).trans rfl, (blk_cell HK.out 1).trans rfl, (blk_cell HK.out 2).trans rfl, (blk_cell HN.out 0).trans rfl, (blk_cell HN.out 1).trans rfl, (blk_cell HN.out 2).trans rfl, (blk_cell HN.out 3).trans rfl, (blk_cell HN.out 4).trans rfl, (blk_cell HZ.out 0).trans rfl, (blk_cell HZ.out 1).trans rfl, (blk_cell HZ.out 2).trans rfl, (blk_cell HX.out 0).trans rfl, (blk_cell HX.out 1).trans rfl, (blk_cell HX.out 2).trans rfl, (HB.out.cell (p := ⟨bb, ob + dn, none⟩) hbb).trans HY0.out⟩ (fun hHeld => ?_)
      clear hK K
      refine no_ 32 ?_
      refine one_ (i := 10) (N := some 33) #[true, true, true, true, true, true, true, true, true, true, true, false, false] rfl rfl (by kernel_rfl) (by decide) (fun K hK => ?_)
      obtain ⟨Ay_, cy_, ey_⟩ := Kd.R_slice Re.out
      subst ey_
      refine Kd.R_append_rows_step k43 (w0 := w) (w.heap.size) (by rfl) (.tmp 24) (.tmp 32) 24 43 (.agg #[.int .i64 0, .int .i64 0]) 16 rfl Tryd.underlying24 info43 rfl (by decide) (by omega) (.slice A m c) pre [⟨(dn : Int), bv⟩] _ _ _ (fun _ => True) (fun _ => False) rfl rfl Ra.out ((Kd.R_reads' Re.out).2.2) (fun x_ cs_ h_ => by rw [k43_open h_]; exact k43_mkM _ _ _ _) (fun _ h => h.elim) (fun _ _ => trivial) HB.out HB.out.size (by simp only [List.length_cons, List.length_nil]; omega) ?_
      intro vb W2 ho hb hg hat
      replace HK := Lib.hid (blk_grown HK.out hg (own_ne Ra.out HK.out (by decide)))
      replace HN := Lib.hid (blk_grown HN.out hg (own_ne Ra.out HN.out (by decide)))
      replace HZ := Lib.hid (blk_grown HZ.out hg (own_ne Ra.out HZ.out (by decide)))
      replace HX := Lib.hid (blk_grown HX.out hg (own_ne Ra.out HX.out (by decide)))
      replace HB := Lib.hid (hb)
      clear Ra Re
      obtain ⟨xb, hx_⟩ : ∃ l_, l_ = (pre ++ [⟨(dn : Int), bv⟩]) := ⟨_, rfl⟩
      rw [← hx_] at ho
      have Eb := Lib.hid hx_
      clear hx_
      have Rb : Hid (Kd.R k43 43 W2 (w.heap.size) (fun _ => True) vb (xb)) := Lib.hid (by first | exact ho | simpa using ho | (rw [HLM.out]; simpa using ho))
      clear ho hb hg hat
      obtain ⟨Ab1, cb1, eb⟩ := Kd.R_slice Rb.out
      subst eb
      refine hK.out _ _ ⟨(blk_cell HK.out 0).trans rfl, (blk_cell HK.out 1).trans rfl, (blk_cell HK.out 2).trans rfl, (blk_cell HN.out 0).trans rfl, (blk_cell HN.out 1).trans rfl, (blk_cell HN.out 2).trans rfl, (blk_cell HN.out 3).trans rfl, (blk_cell HN.out 4).trans rfl, (blk_cell HZ.out 0).trans rfl, (blk_cell HZ.out 1).trans rfl, (blk_cell HZ.out 2).trans rfl, (blk_cell HX.out 0).trans rfl, (blk_cell HX.out 1).trans rfl, (blk_cell HX.out 2).trans rfl, (HB.out.cell (p := ⟨bb, ob + dn, none⟩) hbb).trans HY0.out⟩ (fun hHeld => ?_)
      clear hK K
      refine no_ 33 ?_
      refine pu_ 11 (some 34) ?_
      refine last_ (i := 12) (N := none) #[true, true, true, true, true, true, true, true, true, true, true, true, true] rfl rfl (by kernel_rfl) (by decide) (fun K hK => ?_)
      have cX_0 := (blk_cell HX.out 0).trans rfl
      have cX_1 := (blk_cell HX.out 1).trans rfl
      have cX_2 := (blk_cell HX.out 2).trans rfl
      have fX_0 := blk_frozen HX.out 0
      have fX_1 := blk_frozen HX.out 1
      have fX_2 := blk_frozen HX.out 2
      have lX := blk_lt HX.out
      refine skip_ (w1 := ?_) (by rfl) rfl ?_ ?_
      rotate_left
      · go_simp
        rfl
      refine hK.out _ _ ?_
      clear hK K
      refine done_ (by kernel_rfl) ?_

      clear cX_0 cX_1 cX_2 fX_0 fX_1 fX_2 lX
      obtain ⟨W3, hnw⟩ : ∃ W, W = (W2.setCell ⟨w.heap.size + 1 + 1 + 1, 2, none⟩ (.slice Ab1 xb.length cb1)) := ⟨_, rfl⟩
      rw [← hnw]
      have hg : W2.grownBy W3 (some (w.heap.size + 1 + 1 + 1)) := by rw [hnw]; exact (g_put (g_refl W2 (some (w.heap.size + 1 + 1 + 1))) 2 (.slice Ab1 xb.length cb1))
      have HXq := Lib.hid (show W3.heap[w.heap.size + 1 + 1 + 1]? = some (.cells #[.slice A0 n0 c0, .slice A1 n1 c1, .slice Ab1 xb.length cb1] 26 (0, 0)) by rw [hnw]; exact blk_put (HX.out) 2 (.slice Ab1 xb.length cb1) rfl)
      have HOLD := HX
      replace Rb := Lib.hid (R_typed_grown Rb.out hg (fun g e => by injection e with e; subst e; exact ⟨_, _, HOLD.out, by decide⟩))
      replace HK := Lib.hid (blk_grown HK.out hg (fun e => by injection e with e; omega))
      replace HN := Lib.hid (blk_grown HN.out hg (fun e => by injection e with e; exact absurd e (blk_ne HN.out HX.out (by decide))))
      replace HZ := Lib.hid (blk_grown HZ.out hg (fun e => by injection e with e; omega))
      clear HOLD
      clear HX
      have HX := HXq
      clear HXq
      replace HB := Lib.hid (HB.out.grown hg HB.out.size (fun k e => by injection e with e; have := HB.out.size; omega))
      clear hg hnw
      go_wp2
      go_roundg g1
      case measure => omega
      case rel => exact ⟨k + 1, Ab1, _, cb1, xb, by go_num, ⟨by have := HKK.out; omega⟩, ⟨HK.out⟩, ⟨HN.out⟩, ⟨HZ.out⟩, ⟨HX.out⟩, ⟨Rb.out⟩, ⟨by rw [Eb.out, HS.out, HDR.out, List.map_cons, HSEE.out]; simp⟩, ⟨HB.out⟩⟩
set_option maxHeartbeats 1000000 in
set_option maxRecDepth 100000 in
theorem truly_calls (A0 A1 A2 Ab : Option Addr) (c0 c1 n2 c2 cb : Nat) (l0 : List S92) (l1 : List S90) (ks : List S43) (bl : List Int) (hok : okBook l0 l1 ks = true) (w : World) (hr0 : Kd.C k92 w A0 l0.length l0) (hr1 : Kd.C k90 w A1 l1.length l1) (hrb : Kd.C (Kd.int .i64) w Ab bl.length bl) (hcb : bl.length ≤ cb) :
    Calls Tryd.prog 57 #[.agg #[.slice A0 l0.length c0, .slice A1 l1.length c1, .slice A2 n2 c2], .slice Ab bl.length cb] w fun e w' => ∃ ch, OkCh l1 ch ∧ ∃ Aw cw As cs A c, e = .returned (.agg #[.slice Aw ch.length cw, .slice As ch.length cs, .slice A (boundsK l0 ch).length c, .int .i64 (lastK l0 ch kn0).laid, .int .i64 (lastK l0 ch kn0).lost]) ∧ Kd.R (Kd.int .i64) 3 w' w.heap.size (fun _ => True) (.slice Aw ch.length cw) (ch.map (·.1)) ∧ Kd.R (Kd.int .i64) 3 w' w.heap.size (fun _ => True) (.slice As ch.length cs) (ch.map (·.2)) ∧ Kd.R (Kd.int .i64) 3 w' w.heap.size (fun _ => True) (.slice A (boundsK l0 ch).length c) (boundsK l0 ch) ∧ Below w.heap.size w w' := by
  obtain ⟨o1, o2, o3, o4, _, o6, o7⟩ := ok_facts hok
  have HAT := Lib.hid (fun (i : Nat) (hi : i < l1.length) => at90 (row90 hr1) i hi)
  have HRB := Lib.hid hrb
  have HDB : Hid (∀ k (h : k < l1.length), 0 ≤ l1[k].f0.f0 ∧ l1[k].f0.f0 ≤ l1[k].f0.f1 ∧ l1[k].f0.f1 ≤ 20 ∧ 1 ≤ l1[k].f1 ∧ l1[k].f1 ≤ 7) := Lib.hid fun k h => by
    have := (okBook_parts hok).2.2.2.2.1 _ (List.getElem_mem h)
    unfold okDay at this
    simp only [Bool.and_eq_true, decide_eq_true_eq] at this
    exact ⟨this.1.1, this.1.2.1, this.1.2.2.1, this.2⟩
  have HRUN := Lib.hid (fun (W : World) (c : Ch) (Aw As : Option Addr) (cw cs : Nat) (hc : OkCh l1 c) (hW : Below w.heap.size w W) h1 h2 => run_calls A0 A1 A2 Aw As c0 l1.length c1 n2 c2 cw cs l0 c W (Kd.C_below hr0 hW) o2 (fun i hi => o7 _ (List.getElem_mem hi)) (okCh_all hok hc).1 (okCh_all hok hc).2 h1 h2)
  clear hr0 hr1 hrb o6 o7 hok
  go_enter Tryd.func57, Tryd.ntmps57
  have HB := Lib.hid (Below.refl w.heap.size w)
  go_wp2
  obtain ⟨W1, hnw⟩ : ∃ W, W = (((w.alloc (.cells #[.slice A0 l0.length c0, .slice A1 l1.length c1, .slice A2 n2 c2] 26)).alloc (.cells #[.slice none 0 0, .slice none 0 0, .slice none 0 0, .int .i64 0, .int .i64 0] 77)).alloc (.cells #[.slice none 0 0, .slice none 0 0, .slice none 0 0, .int .i64 0, .int .i64 0] 77)) := ⟨_, rfl⟩
  rw [← hnw]
  have hg : w.grownBy W1 (none) := by rw [hnw]; exact (g_all (g_all (g_all (g_refl w (none)) (.cells #[.slice A0 l0.length c0, .slice A1 l1.length c1, .slice A2 n2 c2] 26)) (.cells #[.slice none 0 0, .slice none 0 0, .slice none 0 0, .int .i64 0, .int .i64 0] 77)) (.cells #[.slice none 0 0, .slice none 0 0, .slice none 0 0, .int .i64 0, .int .i64 0] 77))
  have HK := Lib.hid (show W1.heap[w.heap.size]? = some (.cells #[.slice A0 l0.length c0, .slice A1 l1.length c1, .slice A2 n2 c2] 26 (0, 0)) by rw [hnw]; exact blk_alloc (blk_alloc (blk_at w (.cells #[.slice A0 l0.length c0, .slice A1 l1.length c1, .slice A2 n2 c2] 26) _ (by simp)) (.cells #[.slice none 0 0, .slice none 0 0, .slice none 0 0, .int .i64 0, .int .i64 0] 77)) (.cells #[.slice none 0 0, .slice none 0 0, .slice none 0 0, .int .i64 0, .int .i64 0] 77))
  have HZ := Lib.hid (show W1.heap[w.heap.size + 1]? = some (.cells #[.slice none 0 0, .slice none 0 0, .slice none 0 0, .int .i64 0, .int .i64 0] 77 (0, 0)) by rw [hnw]; exact blk_alloc (blk_at (w.alloc (.cells #[.slice A0 l0.length c0, .slice A1 l1.length c1, .slice A2 n2 c2] 26)) (.cells #[.slice none 0 0, .slice none 0 0, .slice none 0 0, .int .i64 0, .int .i64 0] 77) _ (by simp)) (.cells #[.slice none 0 0, .slice none 0 0, .slice none 0 0, .int .i64 0, .int .i64 0] 77))
  have HX := Lib.hid (show W1.heap[w.heap.size + 1 + 1]? = some (.cells #[.slice none 0 0, .slice none 0 0, .slice none 0 0, .int .i64 0, .int .i64 0] 77 (0, 0)) by rw [hnw]; exact blk_at ((w.alloc (.cells #[.slice A0 l0.length c0, .slice A1 l1.length c1, .slice A2 n2 c2] 26)).alloc (.cells #[.slice none 0 0, .slice none 0 0, .slice none 0 0, .int .i64 0, .int .i64 0] 77)) (.cells #[.slice none 0 0, .slice none 0 0, .slice none 0 0, .int .i64 0, .int .i64 0] 77) _ (by simp))
  replace HB := Lib.hid (HB.out.grown hg HB.out.size (fun k e => by cases e))
  clear hg hnw
  go_loopg [6] (l1.length) (fun gk v6 wr => ∃ (k : Nat) (Aw As : Option Addr) (mw cw ms cs : Nat) (wl sl : List Int) (pre : Ch), v6 = .int .i64 (k : Int) ∧ Aside0 (k + gk = l1.length) ∧ Aside0 (pre.length = k ∧ wl = pre.map (·.1) ∧ sl = pre.map (·.2) ∧ ∀ i (h : i < pre.length) (h2 : i < l1.length), DayIn l1[i] pre[i]) ∧ Aside0 (wr.heap[w.heap.size]? = some (.cells #[.slice A0 l0.length c0, .slice A1 l1.length c1, .slice A2 n2 c2] 26 (0, 0))) ∧ Aside0 (wr.heap[w.heap.size + 1]? = some (.cells #[.slice none 0 0, .slice none 0 0, .slice none 0 0, .int .i64 0, .int .i64 0] 77 (0, 0))) ∧ Aside0 (wr.heap[w.heap.size + 1 + 1]? = some (.cells #[.slice Aw mw cw, .slice As ms cs, .slice none 0 0, .int .i64 0, .int .i64 0] 77 (0, 0))) ∧ Aside0 (Kd.R (Kd.int .i64) 3 wr w.heap.size (fun _ => True) (.slice Aw mw cw) wl) ∧ Aside0 (Kd.R (Kd.int .i64) 3 wr w.heap.size (fun _ => True) (.slice As ms cs) sl) ∧ Aside0 (∀ k, (Value.slice Aw mw cw).ownBlock = some k → (Value.slice As ms cs).ownBlock ≠ some k) ∧ Aside0 (Below w.heap.size w wr))
  case atStart => exact ⟨0, none, none, 0, 0, 0, 0, [], [], [], rfl, ⟨by omega⟩, ⟨rfl, rfl, rfl, fun i h => absurd h (by simp)⟩, ⟨HK.out⟩, ⟨HZ.out⟩, ⟨HX.out⟩, ⟨Kd.R_nil _ _ _ _ _⟩, ⟨Kd.R_nil _ _ _ _ _⟩, ⟨fun k hk => by simp [Value.ownBlock] at hk⟩, ⟨HB.out⟩⟩
  case round =>
    clear HB HK HZ HX
    obtain ⟨k, Aw, As, mw, cw, ms, cs, wl, sl, pre, rfl, HKK, HPR, HK, HZ, HX, Ra, Rb, Pa_b, HB⟩ := hrel
    cases gk with
    | zero =>
      have hge : ¬ k < l1.length := by have := HKK.out; omega
      have hkl : k = l1.length := by have := HKK.out; omega
      have Ea : mw = wl.length := (Kd.R_reads' Ra.out).1
      have Eb : ms = sl.length := (Kd.R_reads' Rb.out).1
      obtain ⟨p1, p2, p3, p4⟩ := HPR.out
      have ha : mw = pre.length := by rw [Ea, p2, List.length_map]
      have hb_ : ms = pre.length := by rw [Eb, p3, List.length_map]
      clear Ea Eb
      subst p2 p3 ha hb_
      have HOK : Hid (OkCh l1 pre) := Lib.hid ⟨p1.trans hkl, p4⟩
      clear p1 p4 HPR hkl Pa_b
      have cK_0 := (blk_cell HK.out 0).trans rfl
      have cK_1 := (blk_cell HK.out 1).trans rfl
      have cK_2 := (blk_cell HK.out 2).trans rfl
      have lK := blk_lt HK.out
      have cZ_0 := (blk_cell HZ.out 0).trans rfl
      have cZ_1 := (blk_cell HZ.out 1).trans rfl
      have cZ_2 := (blk_cell HZ.out 2).trans rfl
      have cZ_3 := (blk_cell HZ.out 3).trans rfl
      have cZ_4 := (blk_cell HZ.out 4).trans rfl
      have lZ := blk_lt HZ.out
      have cX_0 := (blk_cell HX.out 0).trans rfl
      have cX_1 := (blk_cell HX.out 1).trans rfl
      have cX_2 := (blk_cell HX.out 2).trans rfl
      have cX_3 := (blk_cell HX.out 3).trans rfl
      have cX_4 := (blk_cell HX.out 4).trans rfl
      have lX := blk_lt HX.out
      go_wp2_with fail
      clear cK_0 cK_1 cK_2 lK cZ_0 cZ_1 cZ_2 cZ_3 cZ_4 lZ cX_0 cX_1 cX_2 cX_3 cX_4 lX
      refine (HRUN.out _ pre Aw As cw cs HOK.out HB.out (Kd.R_reads' Ra.out).2.2 (Kd.R_reads' Rb.out).2.2).mono ?_
      rintro e W1 ⟨A9, c9, rfl, h91, hb⟩
      have R9 := Lib.hid (Kd.R_lower h91 HB.out.size)
      clear h91
      have hg := g_below hb
      replace Ra := Lib.hid (R_typed_grown Ra.out hg (fun g e => by cases e))
      replace Rb := Lib.hid (R_typed_grown Rb.out hg (fun g e => by cases e))
      replace HK := Lib.hid (blk_grown HK.out hg (by simp))
      replace HZ := Lib.hid (blk_grown HZ.out hg (by simp))
      replace HX := Lib.hid (blk_grown HX.out hg (by simp))
      replace HB := Lib.hid (HB.out.trans (below_weaken hb HB.out.size))
      clear hb hg
      have cK_0 := (blk_cell HK.out 0).trans rfl
      have cK_1 := (blk_cell HK.out 1).trans rfl
      have cK_2 := (blk_cell HK.out 2).trans rfl
      have lK := blk_lt HK.out
      have cZ_0 := (blk_cell HZ.out 0).trans rfl
      have cZ_1 := (blk_cell HZ.out 1).trans rfl
      have cZ_2 := (blk_cell HZ.out 2).trans rfl
      have cZ_3 := (blk_cell HZ.out 3).trans rfl
      have cZ_4 := (blk_cell HZ.out 4).trans rfl
      have fZ_0 := blk_frozen HZ.out 0
      have fZ_1 := blk_frozen HZ.out 1
      have fZ_2 := blk_frozen HZ.out 2
      have fZ_3 := blk_frozen HZ.out 3
      have fZ_4 := blk_frozen HZ.out 4
      have lZ := blk_lt HZ.out
      have cX_0 := (blk_cell HX.out 0).trans rfl
      have cX_1 := (blk_cell HX.out 1).trans rfl
      have cX_2 := (blk_cell HX.out 2).trans rfl
      have cX_3 := (blk_cell HX.out 3).trans rfl
      have cX_4 := (blk_cell HX.out 4).trans rfl
      have lX := blk_lt HX.out
      go_wp2
      have hz := (blk_put (blk_put (blk_put (blk_put (blk_put HZ.out 0 (.slice Aw pre.length cw) rfl) 1 (.slice As pre.length cs) rfl) 2 (.slice A9 (boundsK l0 pre).length c9) rfl) 3 (.int .i64 (lastK l0 pre kn0).laid) rfl) 4 (.int .i64 (lastK l0 pre kn0).lost) rfl)
      have hg := (g_put (g_put (g_put (g_put (g_put (g_refl W1 (some (w.heap.size + 1))) 0 (.slice Aw pre.length cw)) 1 (.slice As pre.length cs)) 2 (.slice A9 (boundsK l0 pre).length c9)) 3 (.int .i64 (lastK l0 pre kn0).laid)) 4 (.int .i64 (lastK l0 pre kn0).lost))
      have ty : ∀ g', some (w.heap.size + 1) = some g' → ∃ cells t, W1.heap[g']? = some (.cells cells t (0, 0)) ∧ ∀ q, q ∈ 3 :: (Kd.int .i64).E → q ≠ t := fun g' e => by injection e with e; subst e; exact ⟨_, _, HZ.out, by decide⟩
      have hr1 := R_typed_grown Ra.out hg ty
      have hr2 := R_typed_grown Rb.out hg ty
      have hr9 := R_typed_grown R9.out hg ty
      refine bodyPost_ret (results_cell_row rfl _ _ (w.heap.size + 1) 77 #[.slice Aw pre.length cw, .slice As pre.length cs, .slice A9 (boundsK l0 pre).length c9, .int .i64 (lastK l0 pre kn0).laid, .int .i64 (lastK l0 pre kn0).lost] (0, 0) _ rfl hz Tryd.underlying77 rfl (by kernel_rfl)) rfl ⟨pre, HOK.out, Aw, cw, As, cs, A9, c9, rfl, hr1, hr2, hr9, ?_⟩
      exact HB.out.grown hg HB.out.size (fun k e => by injection e with e; have := HB.out.size; omega)

    | succ g1 =>
      have hlt : k < l1.length := by have := HKK.out; omega
      have hk5 : k < 5 := by omega
      have Pb_a := Lib.hid (sep_sym Pa_b.out)
      obtain ⟨b, o, eA, hbl, hx0, hx1, hx2⟩ := HAT.out k hlt
      obtain ⟨lo, hlo⟩ : ∃ x, x = l1[k].f0.f0 := ⟨_, rfl⟩
      obtain ⟨hi, hhi⟩ : ∃ x, x = l1[k].f0.f1 := ⟨_, rfl⟩
      obtain ⟨sky, hsk⟩ : ∃ x, x = l1[k].f1 := ⟨_, rfl⟩
      obtain ⟨d1, d2, d3, d4, d5⟩ := HDB.out k hlt
      rw [← hlo] at hx0 d1 d2
      rw [← hhi] at hx1 d2 d3
      rw [← hsk] at hx2 d4 d5
      have HX0 := Lib.hid hx0
      have HX1 := Lib.hid hx1
      have HX2 := Lib.hid hx2
      have HLH := Lib.hid (And.intro hlo (And.intro hhi hsk))
      have hwl : wl.length ≤ 5 := by have := HPR.out; rw [this.2.1, List.length_map]; omega
      have hsl : sl.length ≤ 5 := by have := HPR.out; rw [this.2.2.1, List.length_map]; omega
      have hk1 : IntKind.i64.wrap ((k : Int) + 1) = (k : Int) + 1 := IntWalk.i64_in _ (by omega)
      subst eA
      clear hlo hhi hsk hx0 hx1 hx2
      have cK_0 := (blk_cell HK.out 0).trans rfl
      have cK_1 := (blk_cell HK.out 1).trans rfl
      have cK_2 := (blk_cell HK.out 2).trans rfl
      have lK := blk_lt HK.out
      have cZ_0 := (blk_cell HZ.out 0).trans rfl
      have cZ_1 := (blk_cell HZ.out 1).trans rfl
      have cZ_2 := (blk_cell HZ.out 2).trans rfl
      have cZ_3 := (blk_cell HZ.out 3).trans rfl
      have cZ_4 := (blk_cell HZ.out 4).trans rfl
      have lZ := blk_lt HZ.out
      have cX_0 := (blk_cell HX.out 0).trans rfl
      have cX_1 := (blk_cell HX.out 1).trans rfl
      have cX_2 := (blk_cell HX.out 2).trans rfl
      have cX_3 := (blk_cell HX.out 3).trans rfl
      have cX_4 := (blk_cell HX.out 4).trans rfl
      have lX := blk_lt HX.out
      go_upto_region 5 with fail
      clear cK_0 cK_1 cK_2 lK cZ_0 cZ_1 cZ_2 cZ_3 cZ_4 lZ cX_0 cX_1 cX_2 cX_3 cX_4 lX
      have hb : Below wr.heap.size wr wr.drew := (Below.refl _ _).drew
      have hg := g_below hb
      replace Ra := Lib.hid (R_typed_grown Ra.out hg (fun g e => by cases e))
      replace Rb := Lib.hid (R_typed_grown Rb.out hg (fun g e => by cases e))
      replace HK := Lib.hid (blk_grown HK.out hg (by simp))
      replace HZ := Lib.hid (blk_grown HZ.out hg (by simp))
      replace HX := Lib.hid (blk_grown HX.out hg (by simp))
      replace HB := Lib.hid (HB.out.trans (below_weaken hb HB.out.size))
      clear hb hg
      refine start_ (n := 16) (S := fun w' => w'.cell? ⟨w.heap.size, 0, none⟩ = some (.slice A0 l0.length c0) ∧ w'.cell? ⟨w.heap.size, 1, none⟩ = some (.slice (some ⟨b, o, none⟩) l1.length c1) ∧ w'.cell? ⟨w.heap.size, 2, none⟩ = some (.slice A2 n2 c2) ∧ w'.cell? ⟨w.heap.size + 1 + 1, 0, none⟩ = some (.slice Aw mw cw) ∧ w'.cell? ⟨w.heap.size + 1 + 1, 1, none⟩ = some (.slice As ms cs) ∧ w'.cell? ⟨w.heap.size + 1 + 1, 2, none⟩ = some (.slice none 0 0) ∧ w'.cell? ⟨w.heap.size + 1 + 1, 3, none⟩ = some (.int .i64 0) ∧ w'.cell? ⟨w.heap.size + 1 + 1, 4, none⟩ = some (.int .i64 0) ∧ w'.cell? ⟨b, o + k * 3, none⟩ = some (.int .i64 lo) ∧ w'.cell? ⟨b, o + k * 3 + 1, none⟩ = some (.int .i64 hi)) (ds := [15]) #[false, false, false, false, false, false, false, false, false, false, false, false, false, false, false, false] (by kernel_rfl) rfl rfl ⟨(blk_cell HK.out 0).trans rfl, (blk_cell HK.out 1).trans rfl, (blk_cell HK.out 2).trans rfl, (blk_cell HX.out 0).trans rfl, (blk_cell HX.out 1).trans rfl, (blk_cell HX.out 2).trans rfl, (blk_cell HX.out 3).trans rfl, (blk_cell HX.out 4).trans rfl, (HB.out.cell (p := ⟨b, o + k * 3, none⟩) hbl).trans HX0.out, (HB.out.cell (p := ⟨b, o + k * 3 + 1, none⟩) hbl).trans HX1.out⟩ (fun hHeld => ?_)
      refine pu_ 0 (some 15) ?_
      refine pu_ 2 (some 17) ?_
      refine pu_ 4 (some 19) ?_
      refine pu_ 8 (some 23) ?_
      refine pu_ 9 (some 24) ?_
      refine ta_ 1 (some 16) (s := hHeld) (y := by rintro w' ⟨s0, s1, s2, s3, s4, s5, s6, s7, s8, s9⟩; go_simp; with_reducible rfl) (h := ?_)
      refine ta_ 3 (some 18) (s := hHeld) (y := by rintro w' ⟨s0, s1, s2, s3, s4, s5, s6, s7, s8, s9⟩; go_simp; with_reducible rfl) (h := ?_)
      refine pu_ 5 (some 20) ?_
      refine pu_ 6 (some 21) ?_
      refine ta_ 7 (some 22) (s := hHeld) (y := by rintro w' ⟨s0, s1, s2, s3, s4, s5, s6, s7, s8, s9⟩; go_simp; with_reducible rfl) (h := ?_)
      refine one_ (i := 10) (N := some 25) #[true, true, true, true, true, true, true, true, true, true, true, false, false, false, false, false] rfl rfl (by kernel_rfl) (by decide) (fun K hK => ?_)
      refine goes_ Tryd.func118 (by kernel_rfl) rfl #[.slice Ab bl.length cb, .int .i64 (k : Int)] (by rfl) rfl rfl (by simp only [List.map_toArray, List.map_cons, List.map_nil]; rfl) ?_
      refine (pick_calls (k : Int) _ (Kd.C_below HRB.out HB.out) hcb).mono ?_
      rintro e W1 ⟨p1, rfl, _, hb⟩
      refine ⟨_, rfl, ?_⟩
      have hg := g_below hb
      replace Ra := Lib.hid (R_typed_grown Ra.out hg (fun g e => by cases e))
      replace Rb := Lib.hid (R_typed_grown Rb.out hg (fun g e => by cases e))
      replace HK := Lib.hid (blk_grown HK.out hg (by simp))
      replace HZ := Lib.hid (blk_grown HZ.out hg (by simp))
      replace HX := Lib.hid (blk_grown HX.out hg (by simp))
      replace HB := Lib.hid (HB.out.trans (below_weaken hb HB.out.size))
      clear hb hg
      refine hK.out _ _ ⟨(blk_cell HK.out 0).trans rfl, (blk_cell HK.out 1).trans rfl, (blk_cell HK.out 2).trans rfl, (blk_cell HX.out 0).trans rfl, (blk_cell HX.out 1).trans rfl, (blk_cell HX.out 2).trans rfl, (blk_cell HX.out 3).trans rfl, (blk_cell HX.out 4).trans rfl, (HB.out.cell (p := ⟨b, o + k * 3, none⟩) hbl).trans HX0.out, (HB.out.cell (p := ⟨b, o + k * 3 + 1, none⟩) hbl).trans HX1.out⟩ (fun hHeld => ?_)
      clear hK K
      refine no_ 25 ?_
      refine one_ (i := 11) (N := some 26) #[true, true, true, true, true, true, true, true, true, true, true, true, false, false, false, false] rfl rfl (by kernel_rfl) (by decide) (fun K hK => ?_)
      refine goes_ Tryd.func117 (by kernel_rfl) rfl #[.agg #[.int .i64 lo, .int .i64 hi], .int .i64 p1] (by rfl) rfl rfl (by simp only [List.map_toArray, List.map_cons, List.map_nil]; rfl) ?_
      refine (frSp_calls d1 d2 d3 p1 _).mono ?_
      rintro e W2 ⟨wv, rfl, hwv, hb⟩
      refine ⟨_, rfl, ?_⟩
      have hg := g_below hb
      replace Ra := Lib.hid (R_typed_grown Ra.out hg (fun g e => by cases e))
      replace Rb := Lib.hid (R_typed_grown Rb.out hg (fun g e => by cases e))
      replace HK := Lib.hid (blk_grown HK.out hg (by simp))
      replace HZ := Lib.hid (blk_grown HZ.out hg (by simp))
      replace HX := Lib.hid (blk_grown HX.out hg (by simp))
      replace HB := Lib.hid (HB.out.trans (below_weaken hb HB.out.size))
      clear hb hg
      refine hK.out _ _ ⟨(blk_cell HK.out 0).trans rfl, (blk_cell HK.out 1).trans rfl, (blk_cell HK.out 2).trans rfl, (blk_cell HX.out 0).trans rfl, (blk_cell HX.out 1).trans rfl, (blk_cell HX.out 2).trans rfl, (blk_cell HX.out 3).trans rfl, (blk_cell HX.out 4).trans rfl, (HB.out.cell (p := ⟨b, o + k * 3, none⟩) hbl).trans HX0.out, (HB.out.cell (p := ⟨b, o + k * 3 + 1, none⟩) hbl).trans HX1.out⟩ (fun hHeld => ?_)
      clear hK K
      refine no_ 26 ?_
      refine one_ (i := 12) (N := some 27) #[true, true, true, true, true, true, true, true, true, true, true, true, true, false, false, false] rfl rfl (by kernel_rfl) (by decide) (fun K hK => ?_)
      refine Kd.R_lit_step (Kd.int .i64) (w0 := w) (w.heap.size) 3 (by rfl) rfl (xs := ([wv] : List Int)) (inner := [.int .i64 wv]) (ok := fun _ => True) (okp := fun _ => True) ?hr_ ?hp_ (fun _ hk => hk) trivial HB.out HB.out.size (by simp) ?_
      (case hr_ => first | (go_simp; done) | (go_simp; rfl))
      (case hp_ => exact (Reps.one rfl (Reps.none _ _)))
      intro ve W3 ho hb hg hnew_
      have Pa_e := Lib.hid (sep_new Ra.out hnew_)
      have Pe_a := Lib.hid (sep_sym Pa_e.out)
      have Pb_e := Lib.hid (sep_new Rb.out hnew_)
      have Pe_b := Lib.hid (sep_sym Pb_e.out)
      clear hnew_
      replace Ra := Lib.hid (R_typed_grown Ra.out hg (fun g e => by cases e))
      replace Rb := Lib.hid (R_typed_grown Rb.out hg (fun g e => by cases e))
      replace HK := Lib.hid (blk_grown HK.out hg (by simp))
      replace HZ := Lib.hid (blk_grown HZ.out hg (by simp))
      replace HX := Lib.hid (blk_grown HX.out hg (by simp))
      replace HB := Lib.hid (hb)
      have Re := Lib.hid ho
      clear ho hb hg
      refine hK.out _ _ ⟨(blk_cell HK.out 0).trans rfl, (blk_cell HK.out 1).trans rfl, (blk_cell HK.out 2).trans rfl, (blk_cell HX.out 0).trans rfl, (blk_cell HX.out 1).trans rfl, (blk_cell HX.out 2).trans rfl, (blk_cell HX.out 3).trans rfl, (blk_cell HX.out 4).trans rfl, (HB.out.cell (p := ⟨b, o + k * 3, none⟩) hbl).trans HX0.out, (HB.out.cell (p := ⟨b, o + k * 3 + 1, none⟩) hbl).trans HX1.out⟩ (fun hHeld => ?_)
      clear hK K
      refine no_ 27 ?_
      refine one_ (i := 13) (N := some 28) #[true, true, true, true, true, true, true, true, true, true, true, true, true, true, false, false] rfl rfl (by kernel_rfl) (by decide) (fun K hK => ?_)
      obtain ⟨Ay_, cy_, ey_⟩ := Kd.R_slice Re.out
      subst ey_
      refine Kd.R_append_rows_step (Kd.int .i64) (w0 := w) (w.heap.size) (by rfl) (.tmp 16) (.tmp 27) 45 3 (.int .i64 0) 8 rfl Tryd.underlying45 info3 rfl (by decide) (by omega) (.slice Aw mw cw) wl [wv] _ _ _ (fun _ => True) (fun _ => False) rfl rfl Ra.out ((Kd.R_reads' Re.out).2.2) (fun x_ cs_ h_ => h_) (fun _ h => h.elim) (fun _ _ => trivial) HB.out HB.out.size (by simp only [List.length_cons, List.length_nil]; omega) ?_
      intro vc W4 ho hb hg hat
      have Pb_c := Lib.hid (sep_app Pb_a.out Rb.out hat)
      have Pc_b := Lib.hid (sep_sym Pb_c.out)
      replace Rb := Lib.hid (R_grown_ne (by decide) Rb.out hg Pb_a.out)
      replace HK := Lib.hid (blk_grown HK.out hg (own_ne Ra.out HK.out (by decide)))
      replace HZ := Lib.hid (blk_grown HZ.out hg (own_ne Ra.out HZ.out (by decide)))
      replace HX := Lib.hid (blk_grown HX.out hg (own_ne Ra.out HX.out (by decide)))
      replace HB := Lib.hid (hb)
      clear Ra Re
      obtain ⟨xc, hx_⟩ : ∃ l_, l_ = (wl ++ [wv]) := ⟨_, rfl⟩
      rw [← hx_] at ho
      have Ec := Lib.hid hx_
      clear hx_
      have Rc : Hid (Kd.R (Kd.int .i64) 3 W4 (w.heap.size) (fun _ => True) vc (xc)) := Lib.hid (by first | exact ho | simpa using ho | (rw [HLM.out]; simpa using ho))
      clear ho hb hg hat
      obtain ⟨Ac, cc, ec⟩ := Kd.R_slice Rc.out
      subst ec
      refine hK.out _ _ ⟨(blk_cell HK.out 0).trans rfl, (blk_cell HK.out 1).trans rfl, (blk_cell HK.out 2).trans rfl, (blk_cell HX.out 0).trans rfl, (blk_cell HX.out 1).trans rfl, (blk_cell HX.out 2).trans rfl, (blk_cell HX.out 3).trans rfl, (blk_cell HX.out 4).trans rfl, (HB.out.cell (p := ⟨b, o + k * 3, none⟩) hbl).trans HX0.out, (HB.out.cell (p := ⟨b, o + k * 3 + 1, none⟩) hbl).trans HX1.out⟩ (fun hHeld => ?_)
      clear hK K
      refine no_ 28 ?_
      refine pu_ 14 (some 29) ?_
      refine last_ (i := 15) (N := none) #[true, true, true, true, true, true, true, true, true, true, true, true, true, true, true, true] rfl rfl (by kernel_rfl) (by decide) (fun K hK => ?_)
      have cX_0 := (blk_cell HX.out 0).trans rfl
      have cX_1 := (blk_cell HX.out 1).trans rfl
      have cX_2 := (blk_cell HX.out 2).trans rfl
      have cX_3 := (blk_cell HX.out 3).trans rfl
      have cX_4 := (blk_cell HX.out 4).trans rfl
      have fX_0 := blk_frozen HX.out 0
      have fX_1 := blk_frozen HX.out 1
      have fX_2 := blk_frozen HX.out 2
      have fX_3 := blk_frozen HX.out 3
      have fX_4 := blk_frozen HX.out 4
      have lX := blk_lt HX.out
      refine skip_ (w1 := ?_) (by rfl) rfl ?_ ?_
      rotate_left
      · go_simp
        rfl
      refine hK.out _ _ ?_
      clear hK K
      refine done_ (by kernel_rfl) ?_

      clear cX_0 cX_1 cX_2 cX_3 cX_4 fX_0 fX_1 fX_2 fX_3 fX_4 lX
      obtain ⟨W5, hnw⟩ : ∃ W, W = (W4.setCell ⟨w.heap.size + 1 + 1, 0, none⟩ (.slice Ac xc.length cc)) := ⟨_, rfl⟩
      rw [← hnw]
      have hg : W4.grownBy W5 (some (w.heap.size + 1 + 1)) := by rw [hnw]; exact (g_put (g_refl W4 (some (w.heap.size + 1 + 1))) 0 (.slice Ac xc.length cc))
      have HXq := Lib.hid (show W5.heap[w.heap.size + 1 + 1]? = some (.cells #[.slice Ac xc.length cc, .slice As ms cs, .slice none 0 0, .int .i64 0, .int .i64 0] 77 (0, 0)) by rw [hnw]; exact blk_put (HX.out) 0 (.slice Ac xc.length cc) rfl)
      have HOLD := HX
      replace Rb := Lib.hid (R_typed_grown Rb.out hg (fun g e => by injection e with e; subst e; exact ⟨_, _, HOLD.out, by decide⟩))
      replace Rc := Lib.hid (R_typed_grown Rc.out hg (fun g e => by injection e with e; subst e; exact ⟨_, _, HOLD.out, by decide⟩))
      replace HK := Lib.hid (blk_grown HK.out hg (fun e => by injection e with e; exact absurd e (blk_ne HK.out HX.out (by decide))))
      replace HZ := Lib.hid (blk_grown HZ.out hg (fun e => by injection e with e; omega))
      clear HOLD
      clear HX
      have HX := HXq
      clear HXq
      replace HB := Lib.hid (HB.out.grown hg HB.out.size (fun k e => by injection e with e; have := HB.out.size; omega))
      clear hg hnw
      have cK_0 := (blk_cell HK.out 0).trans rfl
      have cK_1 := (blk_cell HK.out 1).trans rfl
      have cK_2 := (blk_cell HK.out 2).trans rfl
      have lK := blk_lt HK.out
      have cZ_0 := (blk_cell HZ.out 0).trans rfl
      have cZ_1 := (blk_cell HZ.out 1).trans rfl
      have cZ_2 := (blk_cell HZ.out 2).trans rfl
      have cZ_3 := (blk_cell HZ.out 3).trans rfl
      have cZ_4 := (blk_cell HZ.out 4).trans rfl
      have lZ := blk_lt HZ.out
      have cX_0 := (blk_cell HX.out 0).trans rfl
      have cX_1 := (blk_cell HX.out 1).trans rfl
      have cX_2 := (blk_cell HX.out 2).trans rfl
      have cX_3 := (blk_cell HX.out 3).trans rfl
      have cX_4 := (blk_cell HX.out 4).trans rfl
      have lX := blk_lt HX.out
      go_upto_region 6 with fail
      clear cK_0 cK_1 cK_2 lK cZ_0 cZ_1 cZ_2 cZ_3 cZ_4 lZ cX_0 cX_1 cX_2 cX_3 cX_4 lX
      have hb : Below W5.heap.size W5 W5.drew := (Below.refl _ _).drew
      have hg := g_below hb
      replace Rb := Lib.hid (R_typed_grown Rb.out hg (fun g e => by cases e))
      replace Rc := Lib.hid (R_typed_grown Rc.out hg (fun g e => by cases e))
      replace HK := Lib.hid (blk_grown HK.out hg (by simp))
      replace HZ := Lib.hid (blk_grown HZ.out hg (by simp))
      replace HX := Lib.hid (blk_grown HX.out hg (by simp))
      replace HB := Lib.hid (HB.out.trans (below_weaken hb HB.out.size))
      clear hb hg
      refine start_ (n := 18) (S := fun w' => w'.cell? ⟨w.heap.size, 0, none⟩ = some (.slice A0 l0.length c0) ∧ w'.cell? ⟨w.heap.size, 1, none⟩ = some (.slice (some ⟨b, o, none⟩) l1.length c1) ∧ w'.cell? ⟨w.heap.size, 2, none⟩ = some (.slice A2 n2 c2) ∧ w'.cell? ⟨w.heap.size + 1 + 1, 0, none⟩ = some (.slice Ac xc.length cc) ∧ w'.cell? ⟨w.heap.size + 1 + 1, 1, none⟩ = some (.slice As ms cs) ∧ w'.cell? ⟨w.heap.size + 1 + 1, 2, none⟩ = some (.slice none 0 0) ∧ w'.cell? ⟨w.heap.size + 1 + 1, 3, none⟩ = some (.int .i64 0) ∧ w'.cell? ⟨w.heap.size + 1 + 1, 4, none⟩ = some (.int .i64 0) ∧ w'.cell? ⟨b, o + k * 3 + 2, none⟩ = some (.int .i64 sky)) (ds := [17]) #[false, false, false, false, false, false, false, false, false, false, false, false, false, false, false, false, false, false] (by kernel_rfl) rfl rfl ⟨(blk_cell HK.out 0).trans rfl, (blk_cell HK.out 1).trans rfl, (blk_cell HK.out 2).trans rfl, (blk_cell HX.out 0).trans rfl, (blk_cell HX.out 1).trans rfl, (blk_cell HX.out 2).trans rfl, (blk_cell HX.out 3).trans rfl, (blk_cell HX.out 4).trans rfl, (HB.out.cell (p := ⟨b, o + k * 3 + 2, none⟩) hbl).trans HX2.out⟩ (fun hHeld => ?_)
      refine pu_ 0 (some 30) ?_
      refine pu_ 2 (some 32) ?_
      refine pu_ 4 (some 34) ?_
      refine pu_ 9 (some 39) ?_
      refine pu_ 10 (some 40) ?_
      refine pu_ 11 (some 41) ?_
      refine ta_ 1 (some 31) (s := hHeld) (y := by rintro w' ⟨s0, s1, s2, s3, s4, s5, s6, s7, s8⟩; go_simp; with_reducible rfl) (h := ?_)
      refine ta_ 3 (some 33) (s := hHeld) (y := by rintro w' ⟨s0, s1, s2, s3, s4, s5, s6, s7, s8⟩; go_simp; with_reducible rfl) (h := ?_)
      refine pu_ 5 (some 35) ?_
      refine pu_ 6 (some 36) ?_
      refine ta_ 7 (some 37) (s := hHeld) (y := by rintro w' ⟨s0, s1, s2, s3, s4, s5, s6, s7, s8⟩; go_simp; with_reducible rfl) (h := ?_)
      refine one_ (i := 8) (N := some 38) #[true, true, true, true, true, true, true, true, true, true, true, true, false, false, false, false, false, false] rfl rfl (by kernel_rfl) (by decide) (fun K hK => ?_)
      refine goes_ Tryd.func67 (by kernel_rfl) rfl #[.int .i64 sky, .int .i64 3] (by rfl) rfl rfl (by simp only [List.map_toArray, List.map_cons, List.map_nil]; rfl) ?_
      refine ((all_calls sky 3 (by omega) (by omega) (by omega) _)).mono ?_
      rintro e W6 ⟨Aq, cq, rfl, hrq, hlq, hb⟩
      refine ⟨_, rfl, ?_⟩
      have Cq := Lib.hid hrq
      clear hrq
      have hg := g_below hb
      replace Rb := Lib.hid (R_typed_grown Rb.out hg (fun g e => by cases e))
      replace Rc := Lib.hid (R_typed_grown Rc.out hg (fun g e => by cases e))
      replace HK := Lib.hid (blk_grown HK.out hg (by simp))
      replace HZ := Lib.hid (blk_grown HZ.out hg (by simp))
      replace HX := Lib.hid (blk_grown HX.out hg (by simp))
      replace HB := Lib.hid (HB.out.trans (below_weaken hb HB.out.size))
      clear hb hg
      refine hK.out _ _ ⟨(blk_cell HK.out 0).trans rfl, (blk_cell HK.out 1).trans rfl, (blk_cell HK.out 2).trans rfl, (blk_cell HX.out 0).trans rfl, (blk_cell HX.out 1).trans rfl, (blk_cell HX.out 2).trans rfl, (blk_cell HX.out 3).trans rfl, (blk_cell HX.out 4).trans rfl, (HB.out.cell (p := ⟨b, o + k * 3 + 2, none⟩) hbl).trans HX2.out⟩ (fun hHeld => ?_)
      clear hK K
      refine no_ 38 ?_
      refine one_ (i := 12) (N := some 42) #[true, true, true, true, true, true, true, true, true, true, true, true, true, false, false, false, false, false] rfl rfl (by kernel_rfl) (by decide) (fun K hK => ?_)
      refine goes_ Tryd.func118 (by kernel_rfl) rfl #[.slice Ab bl.length cb, .int .i64 ((k : Int) + 1)] (by rfl) rfl rfl (by simp only [List.map_toArray, List.map_cons, List.map_nil]; rfl) ?_
      refine (pick_calls ((k : Int) + 1) _ (Kd.C_below HRB.out HB.out) hcb).mono ?_
      rintro e W7 ⟨p2, rfl, _, hb⟩
      refine ⟨_, rfl, ?_⟩
      have hg := g_below hb
      replace Cq := Lib.hid (Kd.C_below Cq.out (below_g hg))
      replace Rb := Lib.hid (R_typed_grown Rb.out hg (fun g e => by cases e))
      replace Rc := Lib.hid (R_typed_grown Rc.out hg (fun g e => by cases e))
      replace HK := Lib.hid (blk_grown HK.out hg (by simp))
      replace HZ := Lib.hid (blk_grown HZ.out hg (by simp))
      replace HX := Lib.hid (blk_grown HX.out hg (by simp))
      replace HB := Lib.hid (HB.out.trans (below_weaken hb HB.out.size))
      clear hb hg
      refine hK.out _ _ ⟨(blk_cell HK.out 0).trans rfl, (blk_cell HK.out 1).trans rfl, (blk_cell HK.out 2).trans rfl, (blk_cell HX.out 0).trans rfl, (blk_cell HX.out 1).trans rfl, (blk_cell HX.out 2).trans rfl, (blk_cell HX.out 3).trans rfl, (blk_cell HX.out 4).trans rfl, (HB.out.cell (p := ⟨b, o + k * 3 + 2, none⟩) hbl).trans HX2.out⟩ (fun hHeld => ?_)
      clear hK K
      refine no_ 42 ?_
      refine one_ (i := 13) (N := some 43) #[true, true, true, true, true, true, true, true, true, true, true, true, true, true, false, false, false, false] rfl rfl (by kernel_rfl) (by decide) (fun K hK => ?_)
      refine goes_ Tryd.func118 (by kernel_rfl) rfl #[.slice Aq (allL sky 3 0).length cq, .int .i64 p2] (by rfl) rfl rfl (by simp only [List.map_toArray, List.map_cons, List.map_nil]; rfl) ?_
      refine (pick_calls p2 _ Cq.out hlq).mono ?_
      rintro e W8 ⟨sv, rfl, hsv, hb⟩
      refine ⟨_, rfl, ?_⟩
      have hg := g_below hb
      replace Cq := Lib.hid (Kd.C_below Cq.out (below_g hg))
      replace Rb := Lib.hid (R_typed_grown Rb.out hg (fun g e => by cases e))
      replace Rc := Lib.hid (R_typed_grown Rc.out hg (fun g e => by cases e))
      replace HK := Lib.hid (blk_grown HK.out hg (by simp))
      replace HZ := Lib.hid (blk_grown HZ.out hg (by simp))
      replace HX := Lib.hid (blk_grown HX.out hg (by simp))
      replace HB := Lib.hid (HB.out.trans (below_weaken hb HB.out.size))
      clear hb hg
      refine hK.out _ _ ⟨(blk_cell HK.out 0).trans rfl, (blk_cell HK.out 1).trans rfl, (blk_cell HK.out 2).trans rfl, (blk_cell HX.out 0).trans rfl, (blk_cell HX.out 1).trans rfl, (blk_cell HX.out 2).trans rfl, (blk_cell HX.out 3).trans rfl, (blk_cell HX.out 4).trans rfl, (HB.out.cell (p := ⟨b, o + k * 3 + 2, none⟩) hbl).trans HX2.out⟩ (fun hHeld => ?_)
      clear hK K
      refine no_ 43 ?_
      refine one_ (i := 14) (N := some 44) #[true, true, true, true, true, true, true, true, true, true, true, true, true, true, true, false, false, false] rfl rfl (by kernel_rfl) (by decide) (fun K hK => ?_)
      refine Kd.R_lit_step (Kd.int .i64) (w0 := w) (w.heap.size) 3 (by rfl) rfl (xs := ([sv] : List Int)) (inner := [.int .i64 sv]) (ok := fun _ => True) (okp := fun _ => True) ?hr_ ?hp_ (fun _ hk => hk) trivial HB.out HB.out.size (by simp) ?_
      (case hr_ => first | (go_simp; done) | (go_simp; rfl))
      (case hp_ => exact (Reps.one rfl (Reps.none _ _)))
      intro vf W9 ho hb hg hnew_
      have Pb_f := Lib.hid (sep_new Rb.out hnew_)
      have Pf_b := Lib.hid (sep_sym Pb_f.out)
      have Pc_f := Lib.hid (sep_new Rc.out hnew_)
      have Pf_c := Lib.hid (sep_sym Pc_f.out)
      clear hnew_
      replace Cq := Lib.hid (Kd.C_below Cq.out (below_g hg))
      replace Rb := Lib.hid (R_typed_grown Rb.out hg (fun g e => by cases e))
      replace Rc := Lib.hid (R_typed_grown Rc.out hg (fun g e => by cases e))
      replace HK := Lib.hid (blk_grown HK.out hg (by simp))
      replace HZ := Lib.hid (blk_grown HZ.out hg (by simp))
      replace HX := Lib.hid (blk_grown HX.out hg (by simp))
      replace HB := Lib.hid (hb)
      have Rf := Lib.hid ho
      clear ho hb hg
      refine hK.out _ _ ⟨(blk_cell HK.out 0).trans rfl, (blk_cell HK.out 1).trans rfl, (blk_cell HK.out 2).trans rfl, (blk_cell HX.out 0).trans rfl, (blk_cell HX.out 1).trans rfl, (blk_cell HX.out 2).trans rfl, (blk_cell HX.out 3).trans rfl, (blk_cell HX.out 4).trans rfl, (HB.out.cell (p := ⟨b, o + k * 3 + 2, none⟩) hbl).trans HX2.out⟩ (fun hHeld => ?_)
      clear hK K
      refine no_ 44 ?_
      refine one_ (i := 15) (N := some 45) #[true, true, true, true, true, true, true, true, true, true, true, true, true, true, true, true, false, false] rfl rfl (by kernel_rfl) (by decide) (fun K hK => ?_)
      obtain ⟨Ay_, cy_, ey_⟩ := Kd.R_slice Rf.out
      subst ey_
      refine Kd.R_append_rows_step (Kd.int .i64) (w0 := w) (w.heap.size) (by rfl) (.tmp 31) (.tmp 44) 45 3 (.int .i64 0) 8 rfl Tryd.underlying45 info3 rfl (by decide) (by omega) (.slice As ms cs) sl [sv] _ _ _ (fun _ => True) (fun _ => False) rfl rfl Rb.out ((Kd.R_reads' Rf.out).2.2) (fun x_ cs_ h_ => h_) (fun _ h => h.elim) (fun _ _ => trivial) HB.out HB.out.size (by simp only [List.length_cons, List.length_nil]; omega) ?_
      intro vg W10 ho hb hg hat
      have Pc_g := Lib.hid (sep_app Pc_b.out Rc.out hat)
      have Pg_c := Lib.hid (sep_sym Pc_g.out)
      replace Rc := Lib.hid (R_grown_ne (by decide) Rc.out hg Pc_b.out)
      replace HK := Lib.hid (blk_grown HK.out hg (own_ne Rb.out HK.out (by decide)))
      replace HZ := Lib.hid (blk_grown HZ.out hg (own_ne Rb.out HZ.out (by decide)))
      replace HX := Lib.hid (blk_grown HX.out hg (own_ne Rb.out HX.out (by decide)))
      replace HB := Lib.hid (hb)
      clear Rb Rf
      obtain ⟨xg, hx_⟩ : ∃ l_, l_ = (sl ++ [sv]) := ⟨_, rfl⟩
      rw [← hx_] at ho
      have Eg := Lib.hid hx_
      clear hx_
      have Rg : Hid (Kd.R (Kd.int .i64) 3 W10 (w.heap.size) (fun _ => True) vg (xg)) := Lib.hid (by first | exact ho | simpa using ho | (rw [HLM.out]; simpa using ho))
      clear ho hb hg hat
      obtain ⟨Ag, cg, eg⟩ := Kd.R_slice Rg.out
      subst eg
      refine hK.out _ _ ⟨(blk_cell HK.out 0).trans rfl, (blk_cell HK.out 1).trans rfl, (blk_cell HK.out 2).trans rfl, (blk_cell HX.out 0).trans rfl, (blk_cell HX.out 1).trans rfl, (blk_cell HX.out 2).trans rfl, (blk_cell HX.out 3).trans rfl, (blk_cell HX.out 4).trans rfl, (HB.out.cell (p := ⟨b, o + k * 3 + 2, none⟩) hbl).trans HX2.out⟩ (fun hHeld => ?_)
      clear hK K
      refine no_ 45 ?_
      refine pu_ 16 (some 46) ?_
      refine last_ (i := 17) (N := none) #[true, true, true, true, true, true, true, true, true, true, true, true, true, true, true, true, true, true] rfl rfl (by kernel_rfl) (by decide) (fun K hK => ?_)
      have cX_0 := (blk_cell HX.out 0).trans rfl
      have cX_1 := (blk_cell HX.out 1).trans rfl
      have cX_2 := (blk_cell HX.out 2).trans rfl
      have cX_3 := (blk_cell HX.out 3).trans rfl
      have cX_4 := (blk_cell HX.out 4).trans rfl
      have fX_0 := blk_frozen HX.out 0
      have fX_1 := blk_frozen HX.out 1
      have fX_2 := blk_frozen HX.out 2
      have fX_3 := blk_frozen HX.out 3
      have fX_4 := blk_frozen HX.out 4
      have lX := blk_lt HX.out
      refine skip_ (w1 := ?_) (by rfl) rfl ?_ ?_
      rotate_left
      · go_simp
        rfl
      refine hK.out _ _ ?_
      clear hK K
      refine done_ (by kernel_rfl) ?_

      clear cX_0 cX_1 cX_2 cX_3 cX_4 fX_0 fX_1 fX_2 fX_3 fX_4 lX
      obtain ⟨W11, hnw⟩ : ∃ W, W = (W10.setCell ⟨w.heap.size + 1 + 1, 1, none⟩ (.slice Ag xg.length cg)) := ⟨_, rfl⟩
      rw [← hnw]
      have hg : W10.grownBy W11 (some (w.heap.size + 1 + 1)) := by rw [hnw]; exact (g_put (g_refl W10 (some (w.heap.size + 1 + 1))) 1 (.slice Ag xg.length cg))
      have HXq := Lib.hid (show W11.heap[w.heap.size + 1 + 1]? = some (.cells #[.slice Ac xc.length cc, .slice Ag xg.length cg, .slice none 0 0, .int .i64 0, .int .i64 0] 77 (0, 0)) by rw [hnw]; exact blk_put (HX.out) 1 (.slice Ag xg.length cg) rfl)
      have HOLD := HX
      replace Rc := Lib.hid (R_typed_grown Rc.out hg (fun g e => by injection e with e; subst e; exact ⟨_, _, HOLD.out, by decide⟩))
      replace Rg := Lib.hid (R_typed_grown Rg.out hg (fun g e => by injection e with e; subst e; exact ⟨_, _, HOLD.out, by decide⟩))
      replace HK := Lib.hid (blk_grown HK.out hg (fun e => by injection e with e; exact absurd e (blk_ne HK.out HX.out (by decide))))
      replace HZ := Lib.hid (blk_grown HZ.out hg (fun e => by injection e with e; omega))
      clear HOLD
      clear HX
      have HX := HXq
      clear HXq
      replace HB := Lib.hid (HB.out.grown hg HB.out.size (fun k e => by injection e with e; have := HB.out.size; omega))
      clear hg hnw
      have hin := pick_in d4 d5 hsv
      have hday : ∀ i (h : i < (pre ++ [(wv, sv)]).length) (h2 : i < l1.length), DayIn l1[i] (pre ++ [(wv, sv)])[i] := day_snoc HPR.out.2.2.2 HPR.out.1 hlt ⟨by rw [← HLH.out.1]; exact hwv.1, by rw [← HLH.out.2.1]; exact hwv.2, hin.1, hin.2.1, by rw [← HLH.out.2.2]; exact hin.2.2⟩
      have HDAY := Lib.hid hday
      clear hin hday hsv hwv
      go_wp2
      go_roundg g1
      case measure => omega
      case rel => exact ⟨k + 1, Ac, Ag, _, cc, _, cg, xc, xg, pre ++ [(wv, sv)], by go_num, ⟨by have := HKK.out; omega⟩, ⟨by have := HPR.out.1; simp; omega, by rw [Ec.out, HPR.out.2.1]; simp, by rw [Eg.out, HPR.out.2.2.1]; simp, HDAY.out⟩, ⟨HK.out⟩, ⟨HZ.out⟩, ⟨HX.out⟩, ⟨Rc.out⟩, ⟨Rg.out⟩, ⟨Pc_g.out⟩, ⟨HB.out⟩⟩
end Go.Proofs.YthgjedagbgmgmaaDoor.Pr
namespace Go.Proofs.YthgjedagbgmgmaaDoor.Pr
open Go.RowKit Go.Proofs.YthgjedagbgmgmaaDoorW.PrintWords Go.Proofs.YthgjedagbgmgmaaDoorW.PrintLast Go.Proofs.YthgjedagbgmgmaaDoorW.PrintMore
set_option linter.unusedVariables false
set_option linter.unusedSimpArgs false
set_option maxHeartbeats 8000000 in
set_option maxRecDepth 100000 in
theorem water_none (A0 A1 A2 Ab : Option Addr) (c0 c1 c2 cb : Nat) (l0 : List S92) (l1 : List S90) (l2 : List S43) (bl : List Int) (w : World) (HSO : Hid (∀ W, Below w.heap.size w W → Calls Tryd.prog 56 #[.agg #[.slice A0 l0.length c0, .slice A1 l1.length c1, .slice A2 l2.length c2]] W fun e w' => e = .returned (.bool false) ∧ Below W.heap.size W w')) (HRO : Hid (∀ W, Below w.heap.size w W → Calls Tryd.prog 27 #[] W fun e w' => e = .returned (.bool true) ∧ Below W.heap.size W w')) :
    Calls Tryd.prog 12 #[.agg #[.slice A0 l0.length c0, .slice A1 l1.length c1, .slice A2 l2.length c2], .slice Ab bl.length cb] w fun e w' => e = .returned (.bool true) ∧ Below w.heap.size w w' := by
  go_enter Tryd.func12, Tryd.ntmps12
  have HB := Lib.hid (Below.refl w.heap.size w)
  go_wp2_with fail
  obtain ⟨W1, hnw⟩ : ∃ W, W = (w.alloc (.cells #[.slice A0 l0.length c0, .slice A1 l1.length c1, .slice A2 l2.length c2] 26)) := ⟨_, rfl⟩
  rw [← hnw]
  have hg : w.grownBy W1 (none) := by rw [hnw]; exact (g_all (g_refl w (none)) (.cells #[.slice A0 l0.length c0, .slice A1 l1.length c1, .slice A2 l2.length c2] 26))
  have HK := Lib.hid (show W1.heap[w.heap.size]? = some (.cells #[.slice A0 l0.length c0, .slice A1 l1.length c1, .slice A2 l2.length c2] 26 (0, 0)) by rw [hnw]; exact blk_at w (.cells #[.slice A0 l0.length c0, .slice A1 l1.length c1, .slice A2 l2.length c2] 26) _ (by simp))
  replace HB := Lib.hid (HB.out.grown hg HB.out.size (fun k e => by cases e))
  clear hg hnw
  refine (HSO.out _ HB.out).mono ?_
  rintro e W2 ⟨rfl, hb⟩
  have hg := g_below hb
  replace HK := Lib.hid (blk_grown HK.out hg (by simp))
  replace HB := Lib.hid (HB.out.trans (below_weaken hb HB.out.size))
  clear hb hg
  have cK_0 := (blk_cell HK.out 0).trans rfl
  have cK_1 := (blk_cell HK.out 1).trans rfl
  have cK_2 := (blk_cell HK.out 2).trans rfl
  have lK := blk_lt HK.out
  go_wp2_with fail
  clear cK_0 cK_1 cK_2 lK
  refine (HRO.out _ HB.out).mono ?_
  rintro e W3 ⟨rfl, hb⟩
  have hg := g_below hb
  replace HK := Lib.hid (blk_grown HK.out hg (by simp))
  replace HB := Lib.hid (HB.out.trans (below_weaken hb HB.out.size))
  clear hb hg
  have cK_0 := (blk_cell HK.out 0).trans rfl
  have cK_1 := (blk_cell HK.out 1).trans rfl
  have cK_2 := (blk_cell HK.out 2).trans rfl
  have lK := blk_lt HK.out
  clear cK_0 cK_1 cK_2 lK
  go_wp2
  go_ret
  exact ⟨ret_true (by first | rfl | (simp; done) | (simp; omega)), HB.out⟩
set_option maxHeartbeats 8000000 in
set_option maxRecDepth 100000 in
theorem water_walk (A0 A1 A2 Ab : Option Addr) (c0 c1 c2 cb : Nat) (l0 : List S92) (l1 : List S90) (l2 : List S43) (bl : List Int) (last : Nat) (w : World) (hl5 : (last : Int) ≤ 4) (hlast : IntKind.i64.wrap ((l1.length : Int) - 1) = (last : Int)) (HSO : Hid (∀ W, Below w.heap.size w W → Calls Tryd.prog 56 #[.agg #[.slice A0 l0.length c0, .slice A1 l1.length c1, .slice A2 l2.length c2]] W fun e w' => e = .returned (.bool true) ∧ Below W.heap.size W w')) (HRO : Hid (∀ W, Below w.heap.size w W → Calls Tryd.prog 27 #[] W fun e w' => e = .returned (.bool true) ∧ Below W.heap.size W w')) (HTR : Hid (∀ W, Below w.heap.size w W → Calls Tryd.prog 57 #[.agg #[.slice A0 l0.length c0, .slice A1 l1.length c1, .slice A2 l2.length c2], .slice Ab bl.length cb] W fun e w' => ∃ (nd : Nat) (wl sl kb : List Int) (la lo : Int) (Aw : Option Addr) (cw : Nat) (As : Option Addr) (cs : Nat) (Ak : Option Addr) (ck : Nat), e = .returned (.agg #[.slice Aw nd cw, .slice As nd cs, .slice Ak kb.length ck, .int .i64 la, .int .i64 lo]) ∧ Kd.R (Kd.int .i64) 3 w' w.heap.size (fun _ => True) (.slice Aw nd cw) wl ∧ Kd.R (Kd.int .i64) 3 w' w.heap.size (fun _ => True) (.slice As nd cs) sl ∧ Kd.R (Kd.int .i64) 3 w' w.heap.size (fun _ => True) (.slice Ak kb.length ck) kb ∧ Hid (∃ (lk : List S43) (at_ er s sh : Int), Hid (∀ W, Below w.heap.size w W → Kd.C (Kd.int .i64) W Ak kb.length kb → Calls Tryd.prog 58 #[.agg #[.slice A0 l0.length c0, .slice A1 l1.length c1, .slice A2 l2.length c2], .agg #[.slice Aw nd cw, .slice As nd cs, .slice Ak kb.length ck, .int .i64 la, .int .i64 lo]] W fun e w' => ∃ A c, e = .returned (.agg #[.slice A0 l0.length c0, .slice A1 l1.length c1, .slice A lk.length c]) ∧ Kd.R k43 43 w' w.heap.size (fun _ => True) (.slice A lk.length c) lk ∧ Below W.heap.size W w') ∧ Hid (∀ W Ac cc, Below w.heap.size w W → Kd.C k43 W Ac lk.length lk → lk.length ≤ cc → Calls Tryd.prog 36 #[.agg #[.slice A0 l0.length c0, .slice A1 l1.length c1, .slice Ac lk.length cc]] W fun e w' => e = .returned (.tuple #[.int .i64 at_, .int .i64 er]) ∧ Below W.heap.size W w') ∧ Hid (∀ W Ac cc, Below w.heap.size w W → Kd.C k43 W Ac lk.length lk → lk.length ≤ cc → Calls Tryd.prog 21 #[.agg #[.slice A0 l0.length c0, .slice A1 l1.length c1, .slice Ac lk.length cc], .int .i64 (last : Int)] W fun e w' => e = .returned (.tuple #[.agg #[.int .i64 s, .int .i64 sh], .int .i64 0]) ∧ Below W.heap.size W w') ∧ Hid ((er = 4 ∧ at_ = 0) ∨ (er = 0 ∧ ∃ (a : Nat) (sky : Int) (sw kb2 : List Int) (la2 lo2 mb : Int), at_ = (a : Int) ∧ Hid (∀ W, Calls Tryd.prog 60 #[.int .i64 (a : Int), .int .i64 0, .int .i64 (last : Int)] W fun e w' => e = .returned (.bool true) ∧ Below W.heap.size W w') ∧ Hid (∀ W Ac cc, Below w.heap.size w W → Kd.C k43 W Ac lk.length lk → lk.length ≤ cc → Calls Tryd.prog 25 #[.agg #[.slice A0 l0.length c0, .slice A1 l1.length c1, .slice Ac lk.length cc], .int .i64 (a : Int)] W fun e w' => e = .returned (.tuple #[.int .i64 sky, .int .i64 0]) ∧ Below W.heap.size W w') ∧ Hid (∀ W, Calls Tryd.prog 61 #[.int .i64 sky, .int .i64 0] W fun e w' => e = .returned (.bool true) ∧ Below W.heap.size W w') ∧ Hid (∀ W, Kd.C (Kd.int .i64) W As sl.length sl → nd ≤ cs → Calls Tryd.prog 65 #[.slice As nd cs, .int .i64 (a : Int)] W fun e w' => ∃ A5 c5, e = .returned (.slice A5 nd c5) ∧ Kd.R (Kd.int .i64) 3 w' W.heap.size (fun _ => True) (.slice A5 nd c5) sw ∧ Below W.heap.size W w') ∧ Hid (∀ W A5 c5, Below w.heap.size w W → Kd.C (Kd.int .i64) W Aw wl.length wl → Kd.C (Kd.int .i64) W A5 sw.length sw → Calls Tryd.prog 64 #[.agg #[.slice A0 l0.length c0, .slice A1 l1.length c1, .slice A2 l2.length c2], .slice Aw nd cw, .slice A5 nd c5] W fun e w' => ∃ A6 c6, e = .returned (.agg #[.slice Aw nd cw, .slice A5 nd c5, .slice A6 kb2.length c6, .int .i64 la2, .int .i64 lo2]) ∧ Kd.R (Kd.int .i64) 3 w' W.heap.size (fun _ => True) (.slice A6 kb2.length c6) kb2 ∧ Below W.heap.size W w') ∧ Hid (∀ (W : World) A, Kd.C (Kd.int .i64) W A kb2.length kb2 → ∃ b o, A = some ⟨b, o, none⟩ ∧ b < W.heap.size ∧ last < kb2.length ∧ W.cell? ⟨b, o + last, none⟩ = some (.int .i64 mb)) ∧ s < mb))) ∧ Below W.heap.size W w')) :
    Calls Tryd.prog 12 #[.agg #[.slice A0 l0.length c0, .slice A1 l1.length c1, .slice A2 l2.length c2], .slice Ab bl.length cb] w fun e w' => e = .returned (.bool true) ∧ Below w.heap.size w w' := by
  go_enter Tryd.func12, Tryd.ntmps12
  have HB := Lib.hid (Below.refl w.heap.size w)
  go_wp2_with fail
  obtain ⟨W1, hnw⟩ : ∃ W, W = (w.alloc (.cells #[.slice A0 l0.length c0, .slice A1 l1.length c1, .slice A2 l2.length c2] 26)) := ⟨_, rfl⟩
  rw [← hnw]
  have hg : w.grownBy W1 (none) := by rw [hnw]; exact (g_all (g_refl w (none)) (.cells #[.slice A0 l0.length c0, .slice A1 l1.length c1, .slice A2 l2.length c2] 26))
  have HK := Lib.hid (show W1.heap[w.heap.size]? = some (.cells #[.slice A0 l0.length c0, .slice A1 l1.length c1, .slice A2 l2.length c2] 26 (0, 0)) by rw [hnw]; exact blk_at w (.cells #[.slice A0 l0.length c0, .slice A1 l1.length c1, .slice A2 l2.length c2] 26) _ (by simp))
  replace HB := Lib.hid (HB.out.grown hg HB.out.size (fun k e => by cases e))
  clear hg hnw
  refine (HSO.out _ HB.out).mono ?_
  rintro e W2 ⟨rfl, hb⟩
  have hg := g_below hb
  replace HK := Lib.hid (blk_grown HK.out hg (by simp))
  replace HB := Lib.hid (HB.out.trans (below_weaken hb HB.out.size))
  clear hb hg
  have cK_0 := (blk_cell HK.out 0).trans rfl
  have cK_1 := (blk_cell HK.out 1).trans rfl
  have cK_2 := (blk_cell HK.out 2).trans rfl
  have lK := blk_lt HK.out
  go_wp2_with fail
  clear cK_0 cK_1 cK_2 lK
  refine (HTR.out _ HB.out).mono ?_
  rintro e W3 ⟨nd, wl, sl, kb, la, lo, Aw, cw, As, cs, Ak, ck, rfl, h1_, h2_, h3_, hrest, hb⟩
  have Rw := Lib.hid h1_
  have Rs := Lib.hid h2_
  have Rk := Lib.hid h3_
  have HREST := Lib.hid hrest.out
  clear h1_ h2_ h3_ hrest
  have hg := g_below hb
  replace HK := Lib.hid (blk_grown HK.out hg (by simp))
  replace HB := Lib.hid (HB.out.trans (below_weaken hb HB.out.size))
  clear hb hg
  have cK_0 := (blk_cell HK.out 0).trans rfl
  have cK_1 := (blk_cell HK.out 1).trans rfl
  have cK_2 := (blk_cell HK.out 2).trans rfl
  have lK := blk_lt HK.out
  obtain ⟨lk, at_, er, s, sh, HRG, HWA, HBO, HC⟩ := HREST.out
  clear HREST
  go_wp2_with fail
  clear cK_0 cK_1 cK_2 lK
  have LqK_3 := blk_lt HK.out
  obtain ⟨W4, hnw⟩ : ∃ W, W = (W3.alloc (.cells #[.slice Aw nd cw, .slice As nd cs, .slice Ak kb.length ck, .int .i64 la, .int .i64 lo] 77)) := ⟨_, rfl⟩
  rw [← hnw]
  have hg : W3.grownBy W4 (none) := by rw [hnw]; exact (g_all (g_refl W3 (none)) (.cells #[.slice Aw nd cw, .slice As nd cs, .slice Ak kb.length ck, .int .i64 la, .int .i64 lo] 77))
  have HT := Lib.hid (show W4.heap[W3.heap.size]? = some (.cells #[.slice Aw nd cw, .slice As nd cs, .slice Ak kb.length ck, .int .i64 la, .int .i64 lo] 77 (0, 0)) by rw [hnw]; exact blk_at W3 (.cells #[.slice Aw nd cw, .slice As nd cs, .slice Ak kb.length ck, .int .i64 la, .int .i64 lo] 77) _ (by simp))
  replace Rw := Lib.hid (R_typed_grown Rw.out hg (fun g e => by cases e))
  replace Rs := Lib.hid (R_typed_grown Rs.out hg (fun g e => by cases e))
  replace Rk := Lib.hid (R_typed_grown Rk.out hg (fun g e => by cases e))
  replace HK := Lib.hid (blk_grown HK.out hg (by simp))
  replace HB := Lib.hid (HB.out.grown hg HB.out.size (fun k e => by cases e))
  clear hg hnw
  refine (HRG.out _ HB.out (Kd.R_reads' Rk.out).2.2).mono ?_
  rintro e W5 ⟨Ax, cx, rfl, h9_, hb⟩
  have Rl := Lib.hid h9_
  clear h9_
  have hg := g_below hb
  replace Rw := Lib.hid (R_typed_grown Rw.out hg (fun g e => by cases e))
  replace Rs := Lib.hid (R_typed_grown Rs.out hg (fun g e => by cases e))
  replace Rk := Lib.hid (R_typed_grown Rk.out hg (fun g e => by cases e))
  replace HK := Lib.hid (blk_grown HK.out hg (by simp))
  replace HT := Lib.hid (blk_grown HT.out hg (by simp))
  replace HB := Lib.hid (HB.out.trans (below_weaken hb HB.out.size))
  clear hb hg
  have cK_0 := (blk_cell HK.out 0).trans rfl
  have cK_1 := (blk_cell HK.out 1).trans rfl
  have cK_2 := (blk_cell HK.out 2).trans rfl
  have lK := blk_lt HK.out
  have cT_0 := (blk_cell HT.out 0).trans rfl
  have cT_1 := (blk_cell HT.out 1).trans rfl
  have cT_2 := (blk_cell HT.out 2).trans rfl
  have cT_3 := (blk_cell HT.out 3).trans rfl
  have cT_4 := (blk_cell HT.out 4).trans rfl
  have lT := blk_lt HT.out
  go_wp2_with fail
  clear cK_0 cK_1 cK_2 lK cT_0 cT_1 cT_2 cT_3 cT_4 lT
  have LqK_5 := blk_lt HK.out
  have LqT_5 := blk_lt HT.out
  obtain ⟨W6, hnw⟩ : ∃ W, W = (W5.alloc (.cells #[.slice A0 l0.length c0, .slice A1 l1.length c1, .slice Ax lk.length cx] 26)) := ⟨_, rfl⟩
  rw [← hnw]
  have hg : W5.grownBy W6 (none) := by rw [hnw]; exact (g_all (g_refl W5 (none)) (.cells #[.slice A0 l0.length c0, .slice A1 l1.length c1, .slice Ax lk.length cx] 26))
  have HX := Lib.hid (show W6.heap[W5.heap.size]? = some (.cells #[.slice A0 l0.length c0, .slice A1 l1.length c1, .slice Ax lk.length cx] 26 (0, 0)) by rw [hnw]; exact blk_at W5 (.cells #[.slice A0 l0.length c0, .slice A1 l1.length c1, .slice Ax lk.length cx] 26) _ (by simp))
  replace Rw := Lib.hid (R_typed_grown Rw.out hg (fun g e => by cases e))
  replace Rs := Lib.hid (R_typed_grown Rs.out hg (fun g e => by cases e))
  replace Rk := Lib.hid (R_typed_grown Rk.out hg (fun g e => by cases e))
  replace Rl := Lib.hid (R_typed_grown Rl.out hg (fun g e => by cases e))
  replace HK := Lib.hid (blk_grown HK.out hg (by simp))
  replace HT := Lib.hid (blk_grown HT.out hg (by simp))
  replace HB := Lib.hid (HB.out.grown hg HB.out.size (fun k e => by cases e))
  clear hg hnw
  refine (HWA.out _ _ _ HB.out (Kd.R_reads' Rl.out).2.2 (Kd.R_reads' Rl.out).2.1).mono ?_
  rintro e W7 ⟨rfl, hb⟩
  have hg := g_below hb
  replace Rw := Lib.hid (R_typed_grown Rw.out hg (fun g e => by cases e))
  replace Rs := Lib.hid (R_typed_grown Rs.out hg (fun g e => by cases e))
  replace Rk := Lib.hid (R_typed_grown Rk.out hg (fun g e => by cases e))
  replace Rl := Lib.hid (R_typed_grown Rl.out hg (fun g e => by cases e))
  replace HK := Lib.hid (blk_grown HK.out hg (by simp))
  replace HT := Lib.hid (blk_grown HT.out hg (by simp))
  replace HX := Lib.hid (blk_grown HX.out hg (by simp))
  replace HB := Lib.hid (HB.out.trans (below_weaken hb HB.out.size))
  clear hb hg
  have cK_0 := (blk_cell HK.out 0).trans rfl
  have cK_1 := (blk_cell HK.out 1).trans rfl
  have cK_2 := (blk_cell HK.out 2).trans rfl
  have lK := blk_lt HK.out
  have cT_0 := (blk_cell HT.out 0).trans rfl
  have cT_1 := (blk_cell HT.out 1).trans rfl
  have cT_2 := (blk_cell HT.out 2).trans rfl
  have cT_3 := (blk_cell HT.out 3).trans rfl
  have cT_4 := (blk_cell HT.out 4).trans rfl
  have lT := blk_lt HT.out
  have cX_0 := (blk_cell HX.out 0).trans rfl
  have cX_1 := (blk_cell HX.out 1).trans rfl
  have cX_2 := (blk_cell HX.out 2).trans rfl
  have lX := blk_lt HX.out
  go_wp2_with fail
  clear cK_0 cK_1 cK_2 lK cT_0 cT_1 cT_2 cT_3 cT_4 lT cX_0 cX_1 cX_2 lX
  refine (HBO.out _ _ _ HB.out (Kd.R_reads' Rl.out).2.2 (Kd.R_reads' Rl.out).2.1).mono ?_
  rintro e W8 ⟨rfl, hb⟩
  have hg := g_below hb
  replace Rw := Lib.hid (R_typed_grown Rw.out hg (fun g e => by cases e))
  replace Rs := Lib.hid (R_typed_grown Rs.out hg (fun g e => by cases e))
  replace Rk := Lib.hid (R_typed_grown Rk.out hg (fun g e => by cases e))
  replace Rl := Lib.hid (R_typed_grown Rl.out hg (fun g e => by cases e))
  replace HK := Lib.hid (blk_grown HK.out hg (by simp))
  replace HT := Lib.hid (blk_grown HT.out hg (by simp))
  replace HX := Lib.hid (blk_grown HX.out hg (by simp))
  replace HB := Lib.hid (HB.out.trans (below_weaken hb HB.out.size))
  clear hb hg
  have cK_0 := (blk_cell HK.out 0).trans rfl
  have cK_1 := (blk_cell HK.out 1).trans rfl
  have cK_2 := (blk_cell HK.out 2).trans rfl
  have lK := blk_lt HK.out
  have cT_0 := (blk_cell HT.out 0).trans rfl
  have cT_1 := (blk_cell HT.out 1).trans rfl
  have cT_2 := (blk_cell HT.out 2).trans rfl
  have cT_3 := (blk_cell HT.out 3).trans rfl
  have cT_4 := (blk_cell HT.out 4).trans rfl
  have lT := blk_lt HT.out
  have cX_0 := (blk_cell HX.out 0).trans rfl
  have cX_1 := (blk_cell HX.out 1).trans rfl
  have cX_2 := (blk_cell HX.out 2).trans rfl
  have lX := blk_lt HX.out
  rcases HC.out with ⟨rfl, rfl⟩ | ⟨rfl, a, sky, sw, kb2, la2, lo2, mb, rfl, HAM, HSK, HIN, HWT, HRN, HMB, hsm⟩
  · clear HC
    go_wp2_with fail
    clear cK_0 cK_1 cK_2 lK cT_0 cT_1 cT_2 cT_3 cT_4 lT cX_0 cX_1 cX_2 lX
    have LqK_8 := blk_lt HK.out
    have LqT_8 := blk_lt HT.out
    have LqX_8 := blk_lt HX.out
    obtain ⟨W9, hnw⟩ : ∃ W, W = (W8.alloc (.cells #[.int .i64 s, .int .i64 sh] 32)) := ⟨_, rfl⟩
    rw [← hnw]
    have hg : W8.grownBy W9 (none) := by rw [hnw]; exact (g_all (g_refl W8 (none)) (.cells #[.int .i64 s, .int .i64 sh] 32))
    have HS := Lib.hid (show W9.heap[W8.heap.size]? = some (.cells #[.int .i64 s, .int .i64 sh] 32 (0, 0)) by rw [hnw]; exact blk_at W8 (.cells #[.int .i64 s, .int .i64 sh] 32) _ (by simp))
    replace Rw := Lib.hid (R_typed_grown Rw.out hg (fun g e => by cases e))
    replace Rs := Lib.hid (R_typed_grown Rs.out hg (fun g e => by cases e))
    replace Rk := Lib.hid (R_typed_grown Rk.out hg (fun g e => by cases e))
    replace Rl := Lib.hid (R_typed_grown Rl.out hg (fun g e => by cases e))
    replace HK := Lib.hid (blk_grown HK.out hg (by simp))
    replace HT := Lib.hid (blk_grown HT.out hg (by simp))
    replace HX := Lib.hid (blk_grown HX.out hg (by simp))
    replace HB := Lib.hid (HB.out.grown hg HB.out.size (fun k e => by cases e))
    clear hg hnw
    refine (HRO.out _ HB.out).mono ?_
    rintro e W10 ⟨rfl, hb⟩
    have hg := g_below hb
    replace Rw := Lib.hid (R_typed_grown Rw.out hg (fun g e => by cases e))
    replace Rs := Lib.hid (R_typed_grown Rs.out hg (fun g e => by cases e))
    replace Rk := Lib.hid (R_typed_grown Rk.out hg (fun g e => by cases e))
    replace Rl := Lib.hid (R_typed_grown Rl.out hg (fun g e => by cases e))
    replace HK := Lib.hid (blk_grown HK.out hg (by simp))
    replace HT := Lib.hid (blk_grown HT.out hg (by simp))
    replace HX := Lib.hid (blk_grown HX.out hg (by simp))
    replace HS := Lib.hid (blk_grown HS.out hg (by simp))
    replace HB := Lib.hid (HB.out.trans (below_weaken hb HB.out.size))
    clear hb hg
    have cK_0 := (blk_cell HK.out 0).trans rfl
    have cK_1 := (blk_cell HK.out 1).trans rfl
    have cK_2 := (blk_cell HK.out 2).trans rfl
    have lK := blk_lt HK.out
    have cT_0 := (blk_cell HT.out 0).trans rfl
    have cT_1 := (blk_cell HT.out 1).trans rfl
    have cT_2 := (blk_cell HT.out 2).trans rfl
    have cT_3 := (blk_cell HT.out 3).trans rfl
    have cT_4 := (blk_cell HT.out 4).trans rfl
    have lT := blk_lt HT.out
    have cX_0 := (blk_cell HX.out 0).trans rfl
    have cX_1 := (blk_cell HX.out 1).trans rfl
    have cX_2 := (blk_cell HX.out 2).trans rfl
    have lX := blk_lt HX.out
    have cS_0 := (blk_cell HS.out 0).trans rfl
    have cS_1 := (blk_cell HS.out 1).trans rfl
    have lS := blk_lt HS.out
    clear cK_0 cK_1 cK_2 lK cT_0 cT_1 cT_2 cT_3 cT_4 lT cX_0 cX_1 cX_2 lX cS_0 cS_1 lS
    go_wp2
    go_ret
    exact ⟨ret_true (by first | rfl | (simp; done) | (simp; omega)), HB.out⟩

  · skip
    clear HC
    go_wp2_with fail
    clear cK_0 cK_1 cK_2 lK cT_0 cT_1 cT_2 cT_3 cT_4 lT cX_0 cX_1 cX_2 lX
    have LqK_8 := blk_lt HK.out
    have LqT_8 := blk_lt HT.out
    have LqX_8 := blk_lt HX.out
    obtain ⟨W9, hnw⟩ : ∃ W, W = (W8.alloc (.cells #[.int .i64 s, .int .i64 sh] 32)) := ⟨_, rfl⟩
    rw [← hnw]
    have hg : W8.grownBy W9 (none) := by rw [hnw]; exact (g_all (g_refl W8 (none)) (.cells #[.int .i64 s, .int .i64 sh] 32))
    have HS := Lib.hid (show W9.heap[W8.heap.size]? = some (.cells #[.int .i64 s, .int .i64 sh] 32 (0, 0)) by rw [hnw]; exact blk_at W8 (.cells #[.int .i64 s, .int .i64 sh] 32) _ (by simp))
    replace Rw := Lib.hid (R_typed_grown Rw.out hg (fun g e => by cases e))
    replace Rs := Lib.hid (R_typed_grown Rs.out hg (fun g e => by cases e))
    replace Rk := Lib.hid (R_typed_grown Rk.out hg (fun g e => by cases e))
    replace Rl := Lib.hid (R_typed_grown Rl.out hg (fun g e => by cases e))
    replace HK := Lib.hid (blk_grown HK.out hg (by simp))
    replace HT := Lib.hid (blk_grown HT.out hg (by simp))
    replace HX := Lib.hid (blk_grown HX.out hg (by simp))
    replace HB := Lib.hid (HB.out.grown hg HB.out.size (fun k e => by cases e))
    clear hg hnw
    refine (HAM.out _).mono ?_
    rintro e W10 ⟨rfl, hb⟩
    have hg := g_below hb
    replace Rw := Lib.hid (R_typed_grown Rw.out hg (fun g e => by cases e))
    replace Rs := Lib.hid (R_typed_grown Rs.out hg (fun g e => by cases e))
    replace Rk := Lib.hid (R_typed_grown Rk.out hg (fun g e => by cases e))
    replace Rl := Lib.hid (R_typed_grown Rl.out hg (fun g e => by cases e))
    replace HK := Lib.hid (blk_grown HK.out hg (by simp))
    replace HT := Lib.hid (blk_grown HT.out hg (by simp))
    replace HX := Lib.hid (blk_grown HX.out hg (by simp))
    replace HS := Lib.hid (blk_grown HS.out hg (by simp))
    replace HB := Lib.hid (HB.out.trans (below_weaken hb HB.out.size))
    clear hb hg
    have cK_0 := (blk_cell HK.out 0).trans rfl
    have cK_1 := (blk_cell HK.out 1).trans rfl
    have cK_2 := (blk_cell HK.out 2).trans rfl
    have lK := blk_lt HK.out
    have cT_0 := (blk_cell HT.out 0).trans rfl
    have cT_1 := (blk_cell HT.out 1).trans rfl
    have cT_2 := (blk_cell HT.out 2).trans rfl
    have cT_3 := (blk_cell HT.out 3).trans rfl
    have cT_4 := (blk_cell HT.out 4).trans rfl
    have lT := blk_lt HT.out
    have cX_0 := (blk_cell HX.out 0).trans rfl
    have cX_1 := (blk_cell HX.out 1).trans rfl
    have cX_2 := (blk_cell HX.out 2).trans rfl
    have lX := blk_lt HX.out
    have cS_0 := (blk_cell HS.out 0).trans rfl
    have cS_1 := (blk_cell HS.out 1).trans rfl
    have lS := blk_lt HS.out
    go_wp2_with fail
    clear cK_0 cK_1 cK_2 lK cT_0 cT_1 cT_2 cT_3 cT_4 lT cX_0 cX_1 cX_2 lX cS_0 cS_1 lS
    refine (HSK.out _ _ _ HB.out (Kd.R_reads' Rl.out).2.2 (Kd.R_reads' Rl.out).2.1).mono ?_
    rintro e W11 ⟨rfl, hb⟩
    have hg := g_below hb
    replace Rw := Lib.hid (R_typed_grown Rw.out hg (fun g e => by cases e))
    replace Rs := Lib.hid (R_typed_grown Rs.out hg (fun g e => by cases e))
    replace Rk := Lib.hid (R_typed_grown Rk.out hg (fun g e => by cases e))
    replace Rl := Lib.hid (R_typed_grown Rl.out hg (fun g e => by cases e))
    replace HK := Lib.hid (blk_grown HK.out hg (by simp))
    replace HT := Lib.hid (blk_grown HT.out hg (by simp))
    replace HX := Lib.hid (blk_grown HX.out hg (by simp))
    replace HS := Lib.hid (blk_grown HS.out hg (by simp))
    replace HB := Lib.hid (HB.out.trans (below_weaken hb HB.out.size))
    clear hb hg
    have cK_0 := (blk_cell HK.out 0).trans rfl
    have cK_1 := (blk_cell HK.out 1).trans rfl
    have cK_2 := (blk_cell HK.out 2).trans rfl
    have lK := blk_lt HK.out
    have cT_0 := (blk_cell HT.out 0).trans rfl
    have cT_1 := (blk_cell HT.out 1).trans rfl
    have cT_2 := (blk_cell HT.out 2).trans rfl
    have cT_3 := (blk_cell HT.out 3).trans rfl
    have cT_4 := (blk_cell HT.out 4).trans rfl
    have lT := blk_lt HT.out
    have cX_0 := (blk_cell HX.out 0).trans rfl
    have cX_1 := (blk_cell HX.out 1).trans rfl
    have cX_2 := (blk_cell HX.out 2).trans rfl
    have lX := blk_lt HX.out
    have cS_0 := (blk_cell HS.out 0).trans rfl
    have cS_1 := (blk_cell HS.out 1).trans rfl
    have lS := blk_lt HS.out
    go_upto_region 14 with fail
    clear cK_0 cK_1 cK_2 lK cT_0 cT_1 cT_2 cT_3 cT_4 lT cX_0 cX_1 cX_2 lX cS_0 cS_1 lS
    have LrK_14 := blk_lt HK.out
    have LrT_14 := blk_lt HT.out
    have LrX_14 := blk_lt HX.out
    have LrS_14 := blk_lt HS.out
    have HQ := Lib.hid (Nat.le_refl W11.heap.size)
    have hb : Below W11.heap.size W11 W11.drew := (Below.refl _ _).drew
    have hg := g_below hb
    replace HQ := Lib.hid (Nat.le_trans HQ.out hg.size)
    replace Rw := Lib.hid (R_typed_grown Rw.out hg (fun g e => by cases e))
    replace Rs := Lib.hid (R_typed_grown Rs.out hg (fun g e => by cases e))
    replace Rk := Lib.hid (R_typed_grown Rk.out hg (fun g e => by cases e))
    replace Rl := Lib.hid (R_typed_grown Rl.out hg (fun g e => by cases e))
    replace HK := Lib.hid (blk_grown HK.out hg (by simp))
    replace HT := Lib.hid (blk_grown HT.out hg (by simp))
    replace HX := Lib.hid (blk_grown HX.out hg (by simp))
    replace HS := Lib.hid (blk_grown HS.out hg (by simp))
    replace HB := Lib.hid (HB.out.trans (below_weaken hb HB.out.size))
    clear hb hg
    refine start_ (n := 10) (S := fun w' => w'.cell? ⟨w.heap.size, 0, none⟩ = some (.slice A0 l0.length c0) ∧ w'.cell? ⟨w.heap.size, 1, none⟩ = some (.slice A1 l1.length c1) ∧ w'.cell? ⟨w.heap.size, 2, none⟩ = some (.slice A2 l2.length c2) ∧ w'.cell? ⟨W3.heap.size, 0, none⟩ = some (.slice Aw nd cw) ∧ w'.cell? ⟨W3.heap.size, 1, none⟩ = some (.slice As nd cs) ∧ w'.cell? ⟨W3.heap.size, 2, none⟩ = some (.slice Ak kb.length ck) ∧ w'.cell? ⟨W3.heap.size, 3, none⟩ = some (.int .i64 la) ∧ w'.cell? ⟨W3.heap.size, 4, none⟩ = some (.int .i64 lo)) (ds := [9]) #[false, false, false, false, false, false, false, false, false, false] (by kernel_rfl) rfl rfl ⟨(blk_cell HK.out 0).trans rfl, (blk_cell HK.out 1).trans rfl, (blk_cell HK.out 2).trans rfl, (blk_cell HT.out 0).trans rfl, (blk_cell HT.out 1).trans rfl, (blk_cell HT.out 2).trans rfl, (blk_cell HT.out 3).trans rfl, (blk_cell HT.out 4).trans rfl⟩ (fun hHeld => ?_)
    refine pu_ 1 (some 69) ?_
    refine pu_ 3 (some 71) ?_
    refine pu_ 5 (some 73) ?_
    refine ta_ 0 (some 68) (s := hHeld) (y := by rintro w' ⟨s0, s1, s2, s3, s4, s5, s6, s7⟩; go_simp; with_reducible rfl) (h := ?_)
    refine ta_ 2 (some 70) (s := hHeld) (y := by rintro w' ⟨s0, s1, s2, s3, s4, s5, s6, s7⟩; go_simp; with_reducible rfl) (h := ?_)
    refine ta_ 4 (some 72) (s := hHeld) (y := by rintro w' ⟨s0, s1, s2, s3, s4, s5, s6, s7⟩; go_simp; with_reducible rfl) (h := ?_)
    refine join_ (σ := Option Addr × Nat × Option Addr × Nat × Nat) 1 #[true, true, true, true, true, true, true, true, true, false] (fun zz => [(74, .slice zz.1 nd zz.2.1), (75, .agg #[.slice Aw nd cw, .slice zz.1 nd zz.2.1, .slice zz.2.2.1 kb2.length zz.2.2.2.1, .int .i64 la2, .int .i64 lo2]), (13, .pointer (some ⟨zz.2.2.2.2, 0, none⟩))]) (fun zz w' => w'.heap[w.heap.size]? = some (.cells #[.slice A0 l0.length c0, .slice A1 l1.length c1, .slice A2 l2.length c2] 26 (0, 0)) ∧ w'.heap[W3.heap.size]? = some (.cells #[.slice Aw nd cw, .slice As nd cs, .slice Ak kb.length ck, .int .i64 la, .int .i64 lo] 77 (0, 0)) ∧ w'.heap[W5.heap.size]? = some (.cells #[.slice A0 l0.length c0, .slice A1 l1.length c1, .slice Ax lk.length cx] 26 (0, 0)) ∧ w'.heap[W8.heap.size]? = some (.cells #[.int .i64 s, .int .i64 sh] 32 (0, 0)) ∧ Below w.heap.size w w' ∧ Kd.R (Kd.int .i64) 3 w' (w.heap.size) (fun _ => True) (.slice Aw nd cw) (wl) ∧ Kd.R (Kd.int .i64) 3 w' (w.heap.size) (fun _ => True) (.slice As nd cs) (sl) ∧ Kd.R (Kd.int .i64) 3 w' (w.heap.size) (fun _ => True) (.slice Ak kb.length ck) (kb) ∧ Kd.R k43 43 w' (w.heap.size) (fun _ => True) (.slice Ax lk.length cx) (lk) ∧ w'.cell? ⟨w.heap.size, 0, none⟩ = some (.slice A0 l0.length c0) ∧ w'.cell? ⟨w.heap.size, 1, none⟩ = some (.slice A1 l1.length c1) ∧ w'.cell? ⟨w.heap.size, 2, none⟩ = some (.slice A2 l2.length c2) ∧ w'.cell? ⟨W3.heap.size, 0, none⟩ = some (.slice Aw nd cw) ∧ w'.cell? ⟨W3.heap.size, 1, none⟩ = some (.slice As nd cs) ∧ w'.cell? ⟨W3.heap.size, 2, none⟩ = some (.slice Ak kb.length ck) ∧ w'.cell? ⟨W3.heap.size, 3, none⟩ = some (.int .i64 la) ∧ w'.cell? ⟨W3.heap.size, 4, none⟩ = some (.int .i64 lo) ∧ Kd.R (Kd.int .i64) 3 w' (w.heap.size) (fun _ => True) (.slice zz.2.2.1 kb2.length zz.2.2.2.1) (kb2) ∧ w'.heap[zz.2.2.2.2]? = some (.cells #[.slice none 0 0, .slice none 0 0, .slice none 0 0, .int .i64 0, .int .i64 0] 77 (0, 0)) ∧ W11.heap.size ≤ zz.2.2.2.2) ?_ ?_
    rotate_left
    · intro hCont
      refine two_ (i := 6) (j := 8) (Ni := some 74) (Nj := some 13) #[true, true, true, true, true, true, true, false, false, false] #[true, true, true, true, true, true, false, false, true, false] rfl rfl rfl rfl (by kernel_rfl) (by decide) (by decide) (fun K hK => ?_) (fun K hK => ?_)
      · skip
        refine goes_ Tryd.func65 (by kernel_rfl) rfl #[.slice As nd cs, .int .i64 (a : Int)] (by rfl) rfl rfl (by simp only [List.map_toArray, List.map_cons, List.map_nil]; rfl) ?_
        refine (HWT.out _ (Kd.R_reads' Rs.out).2.2 (Kd.R_reads' Rs.out).2.1).mono ?_
        rintro e W12 ⟨A5, c5, rfl, h5, hb⟩
        refine ⟨_, rfl, ?_⟩
        have R5 := Lib.hid (Kd.R_lower h5 HB.out.size)
        clear h5
        have hg := g_below hb
        replace HQ := Lib.hid (Nat.le_trans HQ.out hg.size)
        replace Rw := Lib.hid (R_typed_grown Rw.out hg (fun g e => by cases e))
        replace Rs := Lib.hid (R_typed_grown Rs.out hg (fun g e => by cases e))
        replace Rk := Lib.hid (R_typed_grown Rk.out hg (fun g e => by cases e))
        replace Rl := Lib.hid (R_typed_grown Rl.out hg (fun g e => by cases e))
        replace HK := Lib.hid (blk_grown HK.out hg (by simp))
        replace HT := Lib.hid (blk_grown HT.out hg (by simp))
        replace HX := Lib.hid (blk_grown HX.out hg (by simp))
        replace HS := Lib.hid (blk_grown HS.out hg (by simp))
        replace HB := Lib.hid (HB.out.trans (below_weaken hb HB.out.size))
        clear hb hg
        refine hK.out _ _ ⟨(blk_cell HK.out 0).trans rfl, (blk_cell HK.out 1).trans rfl, (blk_cell HK.out 2).trans rfl, (blk_cell HT.out 0).trans rfl, (blk_cell HT.out 1).trans rfl, (blk_cell HT.out 2).trans rfl, (blk_cell HT.out 3).trans rfl, (blk_cell HT.out 4).trans rfl⟩ (fun hHeld => ?_)
        clear hK K
        refine no_ 74 ?_
        refine two_ (i := 7) (j := 8) (Ni := some 75) (Nj := some 13) #[true, true, true, true, true, true, true, true, false, false] #[true, true, true, true, true, true, true, false, true, false] rfl rfl rfl rfl (by kernel_rfl) (by decide) (by decide) (fun K hK => ?_) (fun K hK => ?_)
        · skip
          refine goes_ Tryd.func64 (by kernel_rfl) rfl #[.agg #[.slice A0 l0.length c0, .slice A1 l1.length c1, .slice A2 l2.length c2], .slice Aw nd cw, .slice A5 nd c5] (by rfl) rfl rfl (by simp only [List.map_toArray, List.map_cons, List.map_nil]; rfl) ?_
          refine (HRN.out _ A5 c5 HB.out (Kd.R_reads' Rw.out).2.2 (Kd.R_reads' R5.out).2.2).mono ?_
          rintro e W13 ⟨A6, c6, rfl, h6, hb⟩
          refine ⟨_, rfl, ?_⟩
          have R6 := Lib.hid (Kd.R_lower h6 HB.out.size)
          clear h6
          have hg := g_below hb
          replace HQ := Lib.hid (Nat.le_trans HQ.out hg.size)
          replace Rw := Lib.hid (R_typed_grown Rw.out hg (fun g e => by cases e))
          replace Rs := Lib.hid (R_typed_grown Rs.out hg (fun g e => by cases e))
          replace Rk := Lib.hid (R_typed_grown Rk.out hg (fun g e => by cases e))
          replace Rl := Lib.hid (R_typed_grown Rl.out hg (fun g e => by cases e))
          replace R5 := Lib.hid (R_typed_grown R5.out hg (fun g e => by cases e))
          replace HK := Lib.hid (blk_grown HK.out hg (by simp))
          replace HT := Lib.hid (blk_grown HT.out hg (by simp))
          replace HX := Lib.hid (blk_grown HX.out hg (by simp))
          replace HS := Lib.hid (blk_grown HS.out hg (by simp))
          replace HB := Lib.hid (HB.out.trans (below_weaken hb HB.out.size))
          clear hb hg
          refine hK.out _ _ ⟨(blk_cell HK.out 0).trans rfl, (blk_cell HK.out 1).trans rfl, (blk_cell HK.out 2).trans rfl, (blk_cell HT.out 0).trans rfl, (blk_cell HT.out 1).trans rfl, (blk_cell HT.out 2).trans rfl, (blk_cell HT.out 3).trans rfl, (blk_cell HT.out 4).trans rfl⟩ (fun hHeld => ?_)
          clear hK K
          refine no_ 75 ?_
          refine one_ (i := 8) (N := some 13) #[true, true, true, true, true, true, true, true, true, false] rfl rfl (by kernel_rfl) (by decide) (fun K hK => ?_)
          refine value_ (w1 := ?_) (v := ?_) (by rfl) rfl ?_ ?_
          rotate_left 2
          · go_simp
            constructor
            · rfl
            · rfl
          obtain ⟨W14, hnw⟩ : ∃ W, W = (W13).alloc (.cells #[.slice none 0 0, .slice none 0 0, .slice none 0 0, .int .i64 0, .int .i64 0] 77) := ⟨_, rfl⟩
          rw [show (W13).alloc (.cells #[.slice none 0 0, .slice none 0 0, .slice none 0 0, .int .i64 0, .int .i64 0] 77) = W14 from hnw.symm]
          have hg : (W13).grownBy W14 none := by rw [hnw]; exact g_all (g_refl _ _) _
          have HM := Lib.hid (show W14.heap[W13.heap.size]? = some (.cells #[.slice none 0 0, .slice none 0 0, .slice none 0 0, .int .i64 0, .int .i64 0] 77 (0, 0)) by rw [hnw]; exact blk_new _ _)
          have SM : W11.heap.size ≤ W13.heap.size := HQ.out
          replace HQ := Lib.hid (Nat.le_trans HQ.out hg.size)
          replace Rw := Lib.hid (R_typed_grown Rw.out hg (fun g e => by cases e))
          replace Rs := Lib.hid (R_typed_grown Rs.out hg (fun g e => by cases e))
          replace Rk := Lib.hid (R_typed_grown Rk.out hg (fun g e => by cases e))
          replace Rl := Lib.hid (R_typed_grown Rl.out hg (fun g e => by cases e))
          replace R5 := Lib.hid (R_typed_grown R5.out hg (fun g e => by cases e))
          replace R6 := Lib.hid (R_typed_grown R6.out hg (fun g e => by cases e))
          replace HK := Lib.hid (blk_grown HK.out hg (by simp))
          replace HT := Lib.hid (blk_grown HT.out hg (by simp))
          replace HX := Lib.hid (blk_grown HX.out hg (by simp))
          replace HS := Lib.hid (blk_grown HS.out hg (by simp))
          replace HB := Lib.hid (HB.out.grown hg HB.out.size (fun k e => by cases e))
          clear hg hnw
          refine hK.out _ _ ⟨(blk_cell HK.out 0).trans rfl, (blk_cell HK.out 1).trans rfl, (blk_cell HK.out 2).trans rfl, (blk_cell HT.out 0).trans rfl, (blk_cell HT.out 1).trans rfl, (blk_cell HT.out 2).trans rfl, (blk_cell HT.out 3).trans rfl, (blk_cell HT.out 4).trans rfl⟩ (fun hHeld => ?_)
          clear hK K
          refine no_ 13 ?_
          exact norm_ (by first | (simp only [putAll, Act.put, List.setIfInBounds_toArray, List.set_cons_zero, List.set_cons_succ]; done) | (simp only [putAll, Act.put, List.setIfInBounds_toArray, List.set_cons_zero, List.set_cons_succ]; rfl)) (hCont (A5, c5, A6, c6, W13.heap.size) _ ⟨HK.out, HT.out, HX.out, HS.out, HB.out, Rw.out, Rs.out, Rk.out, Rl.out, (blk_cell HK.out 0).trans rfl, (blk_cell HK.out 1).trans rfl, (blk_cell HK.out 2).trans rfl, (blk_cell HT.out 0).trans rfl, (blk_cell HT.out 1).trans rfl, (blk_cell HT.out 2).trans rfl, (blk_cell HT.out 3).trans rfl, (blk_cell HT.out 4).trans rfl, R6.out, HM.out, SM⟩)
        · skip
          refine value_ (w1 := ?_) (v := ?_) (by rfl) rfl ?_ ?_
          rotate_left 2
          · go_simp
            constructor
            · rfl
            · rfl
          obtain ⟨W13, hnw⟩ : ∃ W, W = (W12).alloc (.cells #[.slice none 0 0, .slice none 0 0, .slice none 0 0, .int .i64 0, .int .i64 0] 77) := ⟨_, rfl⟩
          rw [show (W12).alloc (.cells #[.slice none 0 0, .slice none 0 0, .slice none 0 0, .int .i64 0, .int .i64 0] 77) = W13 from hnw.symm]
          have hg : (W12).grownBy W13 none := by rw [hnw]; exact g_all (g_refl _ _) _
          have HM := Lib.hid (show W13.heap[W12.heap.size]? = some (.cells #[.slice none 0 0, .slice none 0 0, .slice none 0 0, .int .i64 0, .int .i64 0] 77 (0, 0)) by rw [hnw]; exact blk_new _ _)
          have SM : W11.heap.size ≤ W12.heap.size := HQ.out
          replace HQ := Lib.hid (Nat.le_trans HQ.out hg.size)
          replace Rw := Lib.hid (R_typed_grown Rw.out hg (fun g e => by cases e))
          replace Rs := Lib.hid (R_typed_grown Rs.out hg (fun g e => by cases e))
          replace Rk := Lib.hid (R_typed_grown Rk.out hg (fun g e => by cases e))
          replace Rl := Lib.hid (R_typed_grown Rl.out hg (fun g e => by cases e))
          replace R5 := Lib.hid (R_typed_grown R5.out hg (fun g e => by cases e))
          replace HK := Lib.hid (blk_grown HK.out hg (by simp))
          replace HT := Lib.hid (blk_grown HT.out hg (by simp))
          replace HX := Lib.hid (blk_grown HX.out hg (by simp))
          replace HS := Lib.hid (blk_grown HS.out hg (by simp))
          replace HB := Lib.hid (HB.out.grown hg HB.out.size (fun k e => by cases e))
          clear hg hnw
          refine hK.out _ _ ⟨(blk_cell HK.out 0).trans rfl, (blk_cell HK.out 1).trans rfl, (blk_cell HK.out 2).trans rfl, (blk_cell HT.out 0).trans rfl, (blk_cell HT.out 1).trans rfl, (blk_cell HT.out 2).trans rfl, (blk_cell HT.out 3).trans rfl, (blk_cell HT.out 4).trans rfl⟩ (fun hHeld => ?_)
          clear hK K
          refine no_ 13 ?_
          refine one_ (i := 7) (N := some 75) #[true, true, true, true, true, true, true, true, true, false] rfl rfl (by kernel_rfl) (by decide) (fun K hK => ?_)
          refine goes_ Tryd.func64 (by kernel_rfl) rfl #[.agg #[.slice A0 l0.length c0, .slice A1 l1.length c1, .slice A2 l2.length c2], .slice Aw nd cw, .slice A5 nd c5] (by rfl) rfl rfl (by simp only [List.map_toArray, List.map_cons, List.map_nil]; rfl) ?_
          refine (HRN.out _ A5 c5 HB.out (Kd.R_reads' Rw.out).2.2 (Kd.R_reads' R5.out).2.2).mono ?_
          rintro e W14 ⟨A6, c6, rfl, h6, hb⟩
          refine ⟨_, rfl, ?_⟩
          have R6 := Lib.hid (Kd.R_lower h6 HB.out.size)
          clear h6
          have hg := g_below hb
          replace HQ := Lib.hid (Nat.le_trans HQ.out hg.size)
          replace Rw := Lib.hid (R_typed_grown Rw.out hg (fun g e => by cases e))
          replace Rs := Lib.hid (R_typed_grown Rs.out hg (fun g e => by cases e))
          replace Rk := Lib.hid (R_typed_grown Rk.out hg (fun g e => by cases e))
          replace Rl := Lib.hid (R_typed_grown Rl.out hg (fun g e => by cases e))
          replace R5 := Lib.hid (R_typed_grown R5.out hg (fun g e => by cases e))
          replace HK := Lib.hid (blk_grown HK.out hg (by simp))
          replace HT := Lib.hid (blk_grown HT.out hg (by simp))
          replace HX := Lib.hid (blk_grown HX.out hg (by simp))
          replace HS := Lib.hid (blk_grown HS.out hg (by simp))
          replace HM := Lib.hid (blk_grown HM.out hg (by simp))
          replace HB := Lib.hid (HB.out.trans (below_weaken hb HB.out.size))
          clear hb hg
          refine hK.out _ _ ⟨(blk_cell HK.out 0).trans rfl, (blk_cell HK.out 1).trans rfl, (blk_cell HK.out 2).trans rfl, (blk_cell HT.out 0).trans rfl, (blk_cell HT.out 1).trans rfl, (blk_cell HT.out 2).trans rfl, (blk_cell HT.out 3).trans rfl, (blk_cell HT.out 4).trans rfl⟩ (fun hHeld => ?_)
          clear hK K
          refine no_ 75 ?_
          exact norm_ (by first | (simp only [putAll, Act.put, List.setIfInBounds_toArray, List.set_cons_zero, List.set_cons_succ]; done) | (simp only [putAll, Act.put, List.setIfInBounds_toArray, List.set_cons_zero, List.set_cons_succ]; rfl)) (hCont (A5, c5, A6, c6, W12.heap.size) _ ⟨HK.out, HT.out, HX.out, HS.out, HB.out, Rw.out, Rs.out, Rk.out, Rl.out, (blk_cell HK.out 0).trans rfl, (blk_cell HK.out 1).trans rfl, (blk_cell HK.out 2).trans rfl, (blk_cell HT.out 0).trans rfl, (blk_cell HT.out 1).trans rfl, (blk_cell HT.out 2).trans rfl, (blk_cell HT.out 3).trans rfl, (blk_cell HT.out 4).trans rfl, R6.out, HM.out, SM⟩)
      · skip
        refine value_ (w1 := ?_) (v := ?_) (by rfl) rfl ?_ ?_
        rotate_left 2
        · go_simp
          constructor
          · rfl
          · rfl
        obtain ⟨W12, hnw⟩ : ∃ W, W = (W11.drew).alloc (.cells #[.slice none 0 0, .slice none 0 0, .slice none 0 0, .int .i64 0, .int .i64 0] 77) := ⟨_, rfl⟩
        rw [show ((W11).alloc (.cells #[.slice none 0 0, .slice none 0 0, .slice none 0 0, .int .i64 0, .int .i64 0] 77)).drew = W12 from hnw.symm]
        have hg : (W11.drew).grownBy W12 none := by rw [hnw]; exact g_all (g_refl _ _) _
        have HM := Lib.hid (show W12.heap[W11.heap.size]? = some (.cells #[.slice none 0 0, .slice none 0 0, .slice none 0 0, .int .i64 0, .int .i64 0] 77 (0, 0)) by rw [hnw]; exact blk_new _ _)
        have SM : W11.heap.size ≤ W11.heap.size := HQ.out
        replace HQ := Lib.hid (Nat.le_trans HQ.out hg.size)
        replace Rw := Lib.hid (R_typed_grown Rw.out hg (fun g e => by cases e))
        replace Rs := Lib.hid (R_typed_grown Rs.out hg (fun g e => by cases e))
        replace Rk := Lib.hid (R_typed_grown Rk.out hg (fun g e => by cases e))
        replace Rl := Lib.hid (R_typed_grown Rl.out hg (fun g e => by cases e))
        replace HK := Lib.hid (blk_grown HK.out hg (by simp))
        replace HT := Lib.hid (blk_grown HT.out hg (by simp))
        replace HX := Lib.hid (blk_grown HX.out hg (by simp))
        replace HS := Lib.hid (blk_grown HS.out hg (by simp))
        replace HB := Lib.hid (HB.out.grown hg HB.out.size (fun k e => by cases e))
        clear hg hnw
        refine hK.out _ _ ⟨(blk_cell HK.out 0).trans rfl, (blk_cell HK.out 1).trans rfl, (blk_cell HK.out 2).trans rfl, (blk_cell HT.out 0).trans rfl, (blk_cell HT.out 1).trans rfl, (blk_cell HT.out 2).trans rfl, (blk_cell HT.out 3).trans rfl, (blk_cell HT.out 4).trans rfl⟩ (fun hHeld => ?_)
        clear hK K
        refine no_ 13 ?_
        refine one_ (i := 6) (N := some 74) #[true, true, true, true, true, true, true, false, true, false] rfl rfl (by kernel_rfl) (by decide) (fun K hK => ?_)
        refine goes_ Tryd.func65 (by kernel_rfl) rfl #[.slice As nd cs, .int .i64 (a : Int)] (by rfl) rfl rfl (by simp only [List.map_toArray, List.map_cons, List.map_nil]; rfl) ?_
        refine (HWT.out _ (Kd.R_reads' Rs.out).2.2 (Kd.R_reads' Rs.out).2.1).mono ?_
        rintro e W13 ⟨A5, c5, rfl, h5, hb⟩
        refine ⟨_, rfl, ?_⟩
        have R5 := Lib.hid (Kd.R_lower h5 HB.out.size)
        clear h5
        have hg := g_below hb
        replace HQ := Lib.hid (Nat.le_trans HQ.out hg.size)
        replace Rw := Lib.hid (R_typed_grown Rw.out hg (fun g e => by cases e))
        replace Rs := Lib.hid (R_typed_grown Rs.out hg (fun g e => by cases e))
        replace Rk := Lib.hid (R_typed_grown Rk.out hg (fun g e => by cases e))
        replace Rl := Lib.hid (R_typed_grown Rl.out hg (fun g e => by cases e))
        replace HK := Lib.hid (blk_grown HK.out hg (by simp))
        replace HT := Lib.hid (blk_grown HT.out hg (by simp))
        replace HX := Lib.hid (blk_grown HX.out hg (by simp))
        replace HS := Lib.hid (blk_grown HS.out hg (by simp))
        replace HM := Lib.hid (blk_grown HM.out hg (by simp))
        replace HB := Lib.hid (HB.out.trans (below_weaken hb HB.out.size))
        clear hb hg
        refine hK.out _ _ ⟨(blk_cell HK.out 0).trans rfl, (blk_cell HK.out 1).trans rfl, (blk_cell HK.out 2).trans rfl, (blk_cell HT.out 0).trans rfl, (blk_cell HT.out 1).trans rfl, (blk_cell HT.out 2).trans rfl, (blk_cell HT.out 3).trans rfl, (blk_cell HT.out 4).trans rfl⟩ (fun hHeld => ?_)
        clear hK K
        refine no_ 74 ?_
        refine one_ (i := 7) (N := some 75) #[true, true, true, true, true, true, true, true, true, false] rfl rfl (by kernel_rfl) (by decide) (fun K hK => ?_)
        refine goes_ Tryd.func64 (by kernel_rfl) rfl #[.agg #[.slice A0 l0.length c0, .slice A1 l1.length c1, .slice A2 l2.length c2], .slice Aw nd cw, .slice A5 nd c5] (by rfl) rfl rfl (by simp only [List.map_toArray, List.map_cons, List.map_nil]; rfl) ?_
        refine (HRN.out _ A5 c5 HB.out (Kd.R_reads' Rw.out).2.2 (Kd.R_reads' R5.out).2.2).mono ?_
        rintro e W14 ⟨A6, c6, rfl, h6, hb⟩
        refine ⟨_, rfl, ?_⟩
        have R6 := Lib.hid (Kd.R_lower h6 HB.out.size)
        clear h6
        have hg := g_below hb
        replace HQ := Lib.hid (Nat.le_trans HQ.out hg.size)
        replace Rw := Lib.hid (R_typed_grown Rw.out hg (fun g e => by cases e))
        replace Rs := Lib.hid (R_typed_grown Rs.out hg (fun g e => by cases e))
        replace Rk := Lib.hid (R_typed_grown Rk.out hg (fun g e => by cases e))
        replace Rl := Lib.hid (R_typed_grown Rl.out hg (fun g e => by cases e))
        replace R5 := Lib.hid (R_typed_grown R5.out hg (fun g e => by cases e))
        replace HK := Lib.hid (blk_grown HK.out hg (by simp))
        replace HT := Lib.hid (blk_grown HT.out hg (by simp))
        replace HX := Lib.hid (blk_grown HX.out hg (by simp))
        replace HS := Lib.hid (blk_grown HS.out hg (by simp))
        replace HM := Lib.hid (blk_grown HM.out hg (by simp))
        replace HB := Lib.hid (HB.out.trans (below_weaken hb HB.out.size))
        clear hb hg
        refine hK.out _ _ ⟨(blk_cell HK.out 0).trans rfl, (blk_cell HK.out 1).trans rfl, (blk_cell HK.out 2).trans rfl, (blk_cell HT.out 0).trans rfl, (blk_cell HT.out 1).trans rfl, (blk_cell HT.out 2).trans rfl, (blk_cell HT.out 3).trans rfl, (blk_cell HT.out 4).trans rfl⟩ (fun hHeld => ?_)
        clear hK K
        refine no_ 75 ?_
        exact norm_ (by first | (simp only [putAll, Act.put, List.setIfInBounds_toArray, List.set_cons_zero, List.set_cons_succ]; done) | (simp only [putAll, Act.put, List.setIfInBounds_toArray, List.set_cons_zero, List.set_cons_succ]; rfl)) (hCont (A5, c5, A6, c6, W11.heap.size) _ ⟨HK.out, HT.out, HX.out, HS.out, HB.out, Rw.out, Rs.out, Rk.out, Rl.out, (blk_cell HK.out 0).trans rfl, (blk_cell HK.out 1).trans rfl, (blk_cell HK.out 2).trans rfl, (blk_cell HT.out 0).trans rfl, (blk_cell HT.out 1).trans rfl, (blk_cell HT.out 2).trans rfl, (blk_cell HT.out 3).trans rfl, (blk_cell HT.out 4).trans rfl, R6.out, HM.out, SM⟩)
    rintro ⟨A5, c5, A6, c6, gM_⟩ w' ⟨aHK, aHT, aHX, aHS, aHB, aRw, aRs, aRk, aRl, q0, q1, q2, q3, q4, q5, q6, q7, aR6, aHM, aSM⟩
    have hHeld : w'.cell? ⟨w.heap.size, 0, none⟩ = some (.slice A0 l0.length c0) ∧ w'.cell? ⟨w.heap.size, 1, none⟩ = some (.slice A1 l1.length c1) ∧ w'.cell? ⟨w.heap.size, 2, none⟩ = some (.slice A2 l2.length c2) ∧ w'.cell? ⟨W3.heap.size, 0, none⟩ = some (.slice Aw nd cw) ∧ w'.cell? ⟨W3.heap.size, 1, none⟩ = some (.slice As nd cs) ∧ w'.cell? ⟨W3.heap.size, 2, none⟩ = some (.slice Ak kb.length ck) ∧ w'.cell? ⟨W3.heap.size, 3, none⟩ = some (.int .i64 la) ∧ w'.cell? ⟨W3.heap.size, 4, none⟩ = some (.int .i64 lo) := ⟨q0, q1, q2, q3, q4, q5, q6, q7⟩
    (try clear HK)
    have HK := Lib.hid aHK
    (try clear HT)
    have HT := Lib.hid aHT
    (try clear HX)
    have HX := Lib.hid aHX
    (try clear HS)
    have HS := Lib.hid aHS
    (try clear HB)
    have HB := Lib.hid aHB
    (try clear Rw)
    have Rw := Lib.hid aRw
    (try clear Rs)
    have Rs := Lib.hid aRs
    (try clear Rk)
    have Rk := Lib.hid aRk
    (try clear Rl)
    have Rl := Lib.hid aRl
    (try clear R6)
    have R6 := Lib.hid (show Kd.R (Kd.int .i64) 3 w' (w.heap.size) (fun _ => True) (.slice A6 kb2.length c6) (kb2) from aR6)
    (try clear HM)
    have HM := Lib.hid (show w'.heap[gM_]? = some (.cells #[.slice none 0 0, .slice none 0 0, .slice none 0 0, .int .i64 0, .int .i64 0] 77 (0, 0)) from aHM)
    have SM : W11.heap.size ≤ gM_ := aSM
    clear aHK aHT aHX aHS aHB aRw aRs aRk aRl aR6 aHM aSM q0 q1 q2 q3 q4 q5 q6 q7
    refine norm_ (a' := ?_) ?_ ?_
    rotate_left
    · simp only [putAll, Act.put, List.setIfInBounds_toArray, List.set_cons_zero, List.set_cons_succ]
      rfl
    refine last_ (i := 9) (N := none) #[true, true, true, true, true, true, true, true, true, true] rfl rfl (by kernel_rfl) (by decide) (fun K hK => ?_)
    have cM_0 := (blk_cell HM.out 0).trans rfl
    have cM_1 := (blk_cell HM.out 1).trans rfl
    have cM_2 := (blk_cell HM.out 2).trans rfl
    have cM_3 := (blk_cell HM.out 3).trans rfl
    have cM_4 := (blk_cell HM.out 4).trans rfl
    have fM_0 := blk_frozen HM.out 0
    have fM_1 := blk_frozen HM.out 1
    have fM_2 := blk_frozen HM.out 2
    have fM_3 := blk_frozen HM.out 3
    have fM_4 := blk_frozen HM.out 4
    have lM := blk_lt HM.out
    refine skip_ (w1 := ?_) (by rfl) rfl ?_ ?_
    rotate_left
    · go_simp
      rfl
    refine hK.out _ _ ?_
    clear hK K
    refine done_ (by kernel_rfl) ?_

    clear HQ
    clear cM_0 cM_1 cM_2 cM_3 cM_4 fM_0 fM_1 fM_2 fM_3 fM_4 lM
    obtain ⟨W32, hnw⟩ : ∃ W, W = (((((w'.setCell ⟨gM_, 0, none⟩ (.slice Aw nd cw)).setCell ⟨gM_, 1, none⟩ (.slice A5 nd c5)).setCell ⟨gM_, 2, none⟩ (.slice A6 kb2.length c6)).setCell ⟨gM_, 3, none⟩ (.int .i64 la2)).setCell ⟨gM_, 4, none⟩ (.int .i64 lo2)) := ⟨_, rfl⟩
    rw [← hnw]
    have hg : w'.grownBy W32 (some (gM_)) := by rw [hnw]; exact (g_put (g_put (g_put (g_put (g_put (g_refl w' (some (gM_))) 0 (.slice Aw nd cw)) 1 (.slice A5 nd c5)) 2 (.slice A6 kb2.length c6)) 3 (.int .i64 la2)) 4 (.int .i64 lo2))
    have HMq := Lib.hid (show W32.heap[gM_]? = some (.cells #[.slice Aw nd cw, .slice A5 nd c5, .slice A6 kb2.length c6, .int .i64 la2, .int .i64 lo2] 77 (0, 0)) by rw [hnw]; exact blk_put (blk_put (blk_put (blk_put (blk_put (HM.out) 0 (.slice Aw nd cw) rfl) 1 (.slice A5 nd c5) rfl) 2 (.slice A6 kb2.length c6) rfl) 3 (.int .i64 la2) rfl) 4 (.int .i64 lo2) rfl)
    have HOLD := HM
    replace Rw := Lib.hid (R_typed_grown Rw.out hg (fun g e => by injection e with e; subst e; exact ⟨_, _, HOLD.out, by decide⟩))
    replace Rs := Lib.hid (R_typed_grown Rs.out hg (fun g e => by injection e with e; subst e; exact ⟨_, _, HOLD.out, by decide⟩))
    replace Rk := Lib.hid (R_typed_grown Rk.out hg (fun g e => by injection e with e; subst e; exact ⟨_, _, HOLD.out, by decide⟩))
    replace Rl := Lib.hid (R_typed_grown Rl.out hg (fun g e => by injection e with e; subst e; exact ⟨_, _, HOLD.out, by decide⟩))
    replace R6 := Lib.hid (R_typed_grown R6.out hg (fun g e => by injection e with e; subst e; exact ⟨_, _, HOLD.out, by decide⟩))
    replace HK := Lib.hid (blk_grown HK.out hg (fun e => by injection e with e; exact absurd e (blk_ne HK.out HM.out (by decide))))
    replace HT := Lib.hid (blk_grown HT.out hg (fun e => by injection e with e; omega))
    replace HX := Lib.hid (blk_grown HX.out hg (fun e => by injection e with e; exact absurd e (blk_ne HX.out HM.out (by decide))))
    replace HS := Lib.hid (blk_grown HS.out hg (fun e => by injection e with e; exact absurd e (blk_ne HS.out HM.out (by decide))))
    clear HOLD
    clear HM
    have HM := HMq
    clear HMq
    replace HB := Lib.hid (HB.out.grown hg HB.out.size (fun k e => by injection e with e; have := HB.out.size; omega))
    clear hg hnw
    obtain ⟨b6, o6, e6, hb6, hll6, hy6⟩ := HMB.out _ _ (Kd.R_reads' R6.out).2.2
    subst e6
    have Y6 := Lib.hid hy6
    clear hy6
    clear R6
    have hsm2 : decide (s < mb) = true := decide_eq_true hsm
    have cK_0 := (blk_cell HK.out 0).trans rfl
    have cK_1 := (blk_cell HK.out 1).trans rfl
    have cK_2 := (blk_cell HK.out 2).trans rfl
    have lK := blk_lt HK.out
    have cT_0 := (blk_cell HT.out 0).trans rfl
    have cT_1 := (blk_cell HT.out 1).trans rfl
    have cT_2 := (blk_cell HT.out 2).trans rfl
    have cT_3 := (blk_cell HT.out 3).trans rfl
    have cT_4 := (blk_cell HT.out 4).trans rfl
    have lT := blk_lt HT.out
    have cX_0 := (blk_cell HX.out 0).trans rfl
    have cX_1 := (blk_cell HX.out 1).trans rfl
    have cX_2 := (blk_cell HX.out 2).trans rfl
    have lX := blk_lt HX.out
    have cS_0 := (blk_cell HS.out 0).trans rfl
    have cS_1 := (blk_cell HS.out 1).trans rfl
    have lS := blk_lt HS.out
    have cM_0 := (blk_cell HM.out 0).trans rfl
    have cM_1 := (blk_cell HM.out 1).trans rfl
    have cM_2 := (blk_cell HM.out 2).trans rfl
    have cM_3 := (blk_cell HM.out 3).trans rfl
    have cM_4 := (blk_cell HM.out 4).trans rfl
    have lM := blk_lt HM.out
    go_upto_region 15 with fail
    clear cK_0 cK_1 cK_2 lK cT_0 cT_1 cT_2 cT_3 cT_4 lT cX_0 cX_1 cX_2 lX cS_0 cS_1 lS cM_0 cM_1 cM_2 cM_3 cM_4 lM
    have hb : Below W32.heap.size W32 W32.drew := (Below.refl _ _).drew
    have hg := g_below hb
    replace Y6 := Lib.hid (World.grownBy.cell hg Y6.out (by simp))
    replace Rw := Lib.hid (R_typed_grown Rw.out hg (fun g e => by cases e))
    replace Rs := Lib.hid (R_typed_grown Rs.out hg (fun g e => by cases e))
    replace Rk := Lib.hid (R_typed_grown Rk.out hg (fun g e => by cases e))
    replace Rl := Lib.hid (R_typed_grown Rl.out hg (fun g e => by cases e))
    replace HK := Lib.hid (blk_grown HK.out hg (by simp))
    replace HT := Lib.hid (blk_grown HT.out hg (by simp))
    replace HX := Lib.hid (blk_grown HX.out hg (by simp))
    replace HS := Lib.hid (blk_grown HS.out hg (by simp))
    replace HM := Lib.hid (blk_grown HM.out hg (by simp))
    replace HB := Lib.hid (HB.out.trans (below_weaken hb HB.out.size))
    clear hb hg
    refine start_ (n := 23) (S := fun w' => w'.cell? ⟨w.heap.size, 0, none⟩ = some (.slice A0 l0.length c0) ∧ w'.cell? ⟨w.heap.size, 1, none⟩ = some (.slice A1 l1.length c1) ∧ w'.cell? ⟨w.heap.size, 2, none⟩ = some (.slice A2 l2.length c2) ∧ w'.cell? ⟨W8.heap.size, 0, none⟩ = some (.int .i64 s) ∧ w'.cell? ⟨W8.heap.size, 1, none⟩ = some (.int .i64 sh) ∧ w'.cell? ⟨gM_, 0, none⟩ = some (.slice Aw nd cw) ∧ w'.cell? ⟨gM_, 1, none⟩ = some (.slice A5 nd c5) ∧ w'.cell? ⟨gM_, 2, none⟩ = some (.slice (some ⟨b6, o6, none⟩) kb2.length c6) ∧ w'.cell? ⟨gM_, 3, none⟩ = some (.int .i64 la2) ∧ w'.cell? ⟨gM_, 4, none⟩ = some (.int .i64 lo2) ∧ w'.cell? ⟨b6, o6 + last, none⟩ = some (.int .i64 mb)) (ds := []) #[false, false, false, false, false, false, false, false, false, false, false, false, false, false, false, false, false, false, false, false, false, false, false] (by kernel_rfl) rfl rfl ⟨(blk_cell HK.out 0).trans rfl, (blk_cell HK.out 1).trans rfl, (blk_cell HK.out 2).trans rfl, (blk_cell HS.out 0).trans rfl, (blk_cell HS.out 1).trans rfl, (blk_cell HM.out 0).trans rfl, (blk_cell HM.out 1).trans rfl, (blk_cell HM.out 2).trans rfl, (blk_cell HM.out 3).trans rfl, (blk_cell HM.out 4).trans rfl, Y6.out⟩ (fun hHeld => ?_)
    refine pu_ 0 (some 76) ?_
    refine pu_ 1 (some 77) ?_
    refine pu_ 2 (some 78) ?_
    refine pu_ 3 (some 79) ?_
    refine one_ (i := 4) (N := some 80) #[true, true, true, true, true, false, false, false, false, false, false, false, false, false, false, false, false, false, false, false, false, false, false] rfl rfl (by kernel_rfl) (by decide) (fun K hK => ?_)
    refine goes_ Tryd.func61 (by kernel_rfl) rfl #[.int .i64 sky, .int .i64 0] (by rfl) rfl rfl (by simp only [List.map_toArray, List.map_cons, List.map_nil]; rfl) ?_
    refine (HIN.out _).mono ?_
    rintro e W33 ⟨rfl, hb⟩
    refine ⟨_, rfl, ?_⟩
    have hg := g_below hb
    replace Y6 := Lib.hid (World.grownBy.cell hg Y6.out (by simp))
    replace Rw := Lib.hid (R_typed_grown Rw.out hg (fun g e => by cases e))
    replace Rs := Lib.hid (R_typed_grown Rs.out hg (fun g e => by cases e))
    replace Rk := Lib.hid (R_typed_grown Rk.out hg (fun g e => by cases e))
    replace Rl := Lib.hid (R_typed_grown Rl.out hg (fun g e => by cases e))
    replace HK := Lib.hid (blk_grown HK.out hg (by simp))
    replace HT := Lib.hid (blk_grown HT.out hg (by simp))
    replace HX := Lib.hid (blk_grown HX.out hg (by simp))
    replace HS := Lib.hid (blk_grown HS.out hg (by simp))
    replace HM := Lib.hid (blk_grown HM.out hg (by simp))
    replace HB := Lib.hid (HB.out.trans (below_weaken hb HB.out.size))
    clear hb hg
    refine hK.out _ _ ⟨(blk_cell HK.out 0).trans rfl, (blk_cell HK.out 1).trans rfl, (blk_cell HK.out 2).trans rfl, (blk_cell HS.out 0).trans rfl, (blk_cell HS.out 1).trans rfl, (blk_cell HM.out 0).trans rfl, (blk_cell HM.out 1).trans rfl, (blk_cell HM.out 2).trans rfl, (blk_cell HM.out 3).trans rfl, (blk_cell HM.out 4).trans rfl, Y6.out⟩ (fun hHeld => ?_)
    clear hK K
    refine no_ 80 ?_
    refine pu_ 5 (some 81) ?_
    refine pu_ 6 (some 82) ?_
    refine pu_ 7 (some 83) ?_
    refine pu_ 9 (some 85) ?_
    refine pu_ 15 (some 91) ?_
    refine ta_ 8 (some 84) (s := hHeld) (y := by rintro w' ⟨s0, s1, s2, s3, s4, s5, s6, s7, s8, s9, s10⟩; go_simp; with_reducible rfl) (h := ?_)
    refine ta_ 10 (some 86) (s := hHeld) (y := by rintro w' ⟨s0, s1, s2, s3, s4, s5, s6, s7, s8, s9, s10⟩; go_simp; with_reducible rfl) (h := ?_)
    refine pu_ 11 (some 87) ?_
    refine pu_ 12 (some 88) ?_
    refine pu_ 13 (some 89) ?_
    refine ta_ 14 (some 90) (s := hHeld) (y := by rintro w' ⟨s0, s1, s2, s3, s4, s5, s6, s7, s8, s9, s10⟩; go_simp; with_reducible rfl) (h := ?_)
    refine ta_ 16 (some 92) (s := hHeld) (y := by rintro w' ⟨s0, s1, s2, s3, s4, s5, s6, s7, s8, s9, s10⟩; go_simp; with_reducible rfl) (h := ?_)
    refine pu_ 17 (some 93) ?_
    refine pu_ 18 (some 94) ?_
    refine pu_ 19 (some 95) ?_
    refine one_ (i := 20) (N := some 96) #[true, true, true, true, true, true, true, true, true, true, true, true, true, true, true, true, true, true, true, true, true, false, false] rfl rfl (by kernel_rfl) (by decide) (fun K hK => ?_)
    refine goes_ Tryd.func27 (by kernel_rfl) rfl #[] (by rfl) rfl rfl (by simp only [List.map_toArray, List.map_nil]) ?_
    refine (HRO.out _ HB.out).mono ?_
    rintro e W34 ⟨rfl, hb⟩
    refine ⟨_, rfl, ?_⟩
    have hg := g_below hb
    replace Y6 := Lib.hid (World.grownBy.cell hg Y6.out (by simp))
    replace Rw := Lib.hid (R_typed_grown Rw.out hg (fun g e => by cases e))
    replace Rs := Lib.hid (R_typed_grown Rs.out hg (fun g e => by cases e))
    replace Rk := Lib.hid (R_typed_grown Rk.out hg (fun g e => by cases e))
    replace Rl := Lib.hid (R_typed_grown Rl.out hg (fun g e => by cases e))
    replace HK := Lib.hid (blk_grown HK.out hg (by simp))
    replace HT := Lib.hid (blk_grown HT.out hg (by simp))
    replace HX := Lib.hid (blk_grown HX.out hg (by simp))
    replace HS := Lib.hid (blk_grown HS.out hg (by simp))
    replace HM := Lib.hid (blk_grown HM.out hg (by simp))
    replace HB := Lib.hid (HB.out.trans (below_weaken hb HB.out.size))
    clear hb hg
    refine hK.out _ _ ⟨(blk_cell HK.out 0).trans rfl, (blk_cell HK.out 1).trans rfl, (blk_cell HK.out 2).trans rfl, (blk_cell HS.out 0).trans rfl, (blk_cell HS.out 1).trans rfl, (blk_cell HM.out 0).trans rfl, (blk_cell HM.out 1).trans rfl, (blk_cell HM.out 2).trans rfl, (blk_cell HM.out 3).trans rfl, (blk_cell HM.out 4).trans rfl, Y6.out⟩ (fun hHeld => ?_)
    clear hK K
    refine no_ 96 ?_
    refine pu_ 21 (some 97) ?_
    refine pu_ 22 (some 4) ?_
    refine done_ (by kernel_rfl) ?_

    go_wp2
    go_ret
    exact ⟨ret_true (by first | rfl | (simp; done) | (simp; omega)), HB.out⟩
end Go.Proofs.YthgjedagbgmgmaaDoor.Pr
namespace Go.Proofs.YthgjedagbgmgmaaDoor.Pr
open Go.RowKit Go.Proofs.YthgjedagbgmgmaaDoorW.PrintWords Go.Proofs.YthgjedagbgmgmaaDoorW.PrintLast Go.Proofs.YthgjedagbgmgmaaDoorW.PrintMore
set_option linter.unusedVariables false
set_option linter.unusedSimpArgs false
section
variable {l0 : List S92} {l1 : List S90} {l2 : List S43} {ch : Ch}
theorem seen_right (hok : okBook l0 l1 l2 = true) (hc : OkCh l1 ch) : l2.map (seenL (boundsK l0 ch)) = rightLooks l0 ch l2 := by
  unfold rightLooks
  refine List.map_congr_left fun x hx => ?_
  have hf := (okBook_parts hok).2.2.2.2.2 x hx
  unfold okLook at hf
  simp only [Bool.and_eq_true, decide_eq_true_eq] at hf
  have hb := (boundsK_get hok hc (d := x.f0.toNat) (by omega)).1
  unfold seenL
  rw [List.getD_eq_getElem?_getD, hb]
  rfl
theorem seen_range (hok : okBook l0 l1 l2 = true) (hc : OkCh l1 ch) : ∀ x ∈ l2, 0 ≤ x.f0 ∧ x.f0 < (boundsK l0 ch).length := by
  intro x hx
  have hf := (okBook_parts hok).2.2.2.2.2 x hx
  unfold okLook at hf
  simp only [Bool.and_eq_true, decide_eq_true_eq] at hf
  rw [boundsK_length hok hc]
  omega
theorem boundsK_last {ch : Ch} {n : Nat} (h : ch.length = n + 1) : (boundsK l0 ch)[n]? = some (lastK l0 ch kn0).at_ := by
  unfold boundsK
  rw [List.getElem?_map, lastK_get l0 ch kn0 n h]
  rfl
/-- What is so, and a book whose looks are right. -/
theorem known_book (A0 A1 A2 Ab : Option Addr) (c0 c1 c2 cb : Nat) (l0 : List S92) (l1 : List S90) (l2 : List S43) (bl : List Int) (w : World) (h : BookAt w A0 A1 A2 c0 c1 c2 l0 l1 l2) (hb : Kd.C (Kd.int .i64) w Ab bl.length bl) (hcb : bl.length ≤ cb) (hok : okBook l0 l1 l2 = true) {P : Nat → List Int → List Int → List Int → Int → Int → Option Addr → Nat → Option Addr → Nat → Option Addr → Nat → Prop}
    (hP : ∀ (ch : Ch) Aw cw As cs Ak ck, OkCh l1 ch → P ch.length (ch.map (·.1)) (ch.map (·.2)) (boundsK l0 ch) (lastK l0 ch kn0).laid (lastK l0 ch kn0).lost Aw cw As cs Ak ck) :
    ∀ W, Below w.heap.size w W → Calls Tryd.prog 57 #[.agg #[.slice A0 l0.length c0, .slice A1 l1.length c1, .slice A2 l2.length c2], .slice Ab bl.length cb] W fun e w' => ∃ (nd : Nat) (wl sl kb : List Int) (la lo : Int) (Aw : Option Addr) (cw : Nat) (As : Option Addr) (cs : Nat) (Ak : Option Addr) (ck : Nat), e = .returned (.agg #[.slice Aw nd cw, .slice As nd cs, .slice Ak kb.length ck, .int .i64 la, .int .i64 lo]) ∧ Kd.R (Kd.int .i64) 3 w' w.heap.size (fun _ => True) (.slice Aw nd cw) wl ∧ Kd.R (Kd.int .i64) 3 w' w.heap.size (fun _ => True) (.slice As nd cs) sl ∧ Kd.R (Kd.int .i64) 3 w' w.heap.size (fun _ => True) (.slice Ak kb.length ck) kb ∧ Hid (P nd wl sl kb la lo Aw cw As cs Ak ck) ∧ Below W.heap.size W w' := by
  intro W hW
  refine (truly_calls A0 A1 A2 Ab c0 c1 l2.length c2 cb l0 l1 l2 bl hok W (h.below hW).r0 (h.below hW).r1 (Kd.C_below hb hW) hcb).mono ?_
  rintro e w' ⟨ch, hc, Aw, cw, As, cs, Ak, ck, rfl, h1, h2, h3, hb'⟩
  exact ⟨ch.length, ch.map (·.1), ch.map (·.2), boundsK l0 ch, _, _, Aw, cw, As, cs, Ak, ck, rfl, Kd.R_lower h1 hW.size, Kd.R_lower h2 hW.size, Kd.R_lower h3 hW.size, Lib.hid (hP ch Aw cw As cs Ak ck hc), hb'⟩
theorem known_rightly (A0 A1 A2 Aw As Ak : Option Addr) (c0 c1 c2 cw cs ck : Nat) (l0 : List S92) (l1 : List S90) (l2 : List S43) (w : World) (h : BookAt w A0 A1 A2 c0 c1 c2 l0 l1 l2) (hok : okBook l0 l1 l2 = true) {ch : Ch} (hc : OkCh l1 ch) (la lo : Int) :
    ∀ W, Below w.heap.size w W → Kd.C (Kd.int .i64) W Ak (boundsK l0 ch).length (boundsK l0 ch) → Calls Tryd.prog 58 #[.agg #[.slice A0 l0.length c0, .slice A1 l1.length c1, .slice A2 l2.length c2], .agg #[.slice Aw ch.length cw, .slice As ch.length cs, .slice Ak (boundsK l0 ch).length ck, .int .i64 la, .int .i64 lo]] W fun e w' => ∃ A c, e = .returned (.agg #[.slice A0 l0.length c0, .slice A1 l1.length c1, .slice A (rightLooks l0 ch l2).length c]) ∧ Kd.R k43 43 w' w.heap.size (fun _ => True) (.slice A (rightLooks l0 ch l2).length c) (rightLooks l0 ch l2) ∧ Below W.heap.size W w' := by
  intro W hW hk
  refine (rightly_calls A0 A1 A2 Aw As Ak l0.length l1.length c0 c1 c2 ch.length ch.length cw cs ck la lo l2 (boundsK l0 ch) (okBook_parts hok).2.2.1 (seen_range hok hc) W (h.below hW).r2 hk).mono ?_
  rintro e w' ⟨A, c, rfl, hr, hb⟩
  rw [seen_right hok hc] at hr ⊢
  exact ⟨A, c, rfl, Kd.R_lower hr hW.size, hb⟩
end
section
variable (A0 A1 : Option Addr) (c0 c1 : Nat) (l0 : List S92) (l1 : List S90) (lk : List S43) (w : World) (hG : GOK w) {A2 : Option Addr} {c2 : Nat} {l2 : List S43} (h : BookAt w A0 A1 A2 c0 c1 c2 l0 l1 l2)
include hG h
theorem kb_bound (d : Int) {r : Int × Int × Int} (e : boundF l0 l1 lk d = r) : ∀ W Ac cc, Below w.heap.size w W → Kd.C k43 W Ac lk.length lk → lk.length ≤ cc → Calls Tryd.prog 21 #[.agg #[.slice A0 l0.length c0, .slice A1 l1.length c1, .slice Ac lk.length cc], .int .i64 d] W fun e w' => e = .returned (.tuple #[.agg #[.int .i64 r.1, .int .i64 r.2.1], .int .i64 r.2.2]) ∧ Below W.heap.size W w' := fun W Ac cc hW hr hc => by
  have := bound_calls A0 A1 Ac c0 c1 cc l0 l1 lk W (hG.below hW) (h.below hW).r0 h.c0 (h.below hW).r1 h.c1 hr hc d
  rw [e] at this
  exact this
theorem kb_sky (d : Int) {r : Int × Int} (e : skyF l0 l1 lk d = r) : ∀ W Ac cc, Below w.heap.size w W → Kd.C k43 W Ac lk.length lk → lk.length ≤ cc → Calls Tryd.prog 25 #[.agg #[.slice A0 l0.length c0, .slice A1 l1.length c1, .slice Ac lk.length cc], .int .i64 d] W fun e w' => e = .returned (.tuple #[.int .i64 r.1, .int .i64 r.2]) ∧ Below W.heap.size W w' := fun W Ac cc hW hr hc => by
  have := sky_calls A0 A1 Ac c0 c1 cc l0 l1 lk W (hG.below hW) (h.below hW).r0 h.c0 (h.below hW).r1 h.c1 hr hc d
  rw [e] at this
  exact this
theorem kb_water {r : Int × Int} (e : waterF l0 l1 lk = r) : ∀ W Ac cc, Below w.heap.size w W → Kd.C k43 W Ac lk.length lk → lk.length ≤ cc → Calls Tryd.prog 36 #[.agg #[.slice A0 l0.length c0, .slice A1 l1.length c1, .slice Ac lk.length cc]] W fun e w' => e = .returned (.tuple #[.int .i64 r.1, .int .i64 r.2]) ∧ Below W.heap.size W w' := fun W Ac cc hW hr hc => by
  have := water_calls A0 A1 Ac c0 c1 cc l0 l1 lk W (hG.below hW) (h.below hW).r0 h.c0 (h.below hW).r1 h.c1 hr hc
  rw [e] at this
  exact this
end
end Go.Proofs.YthgjedagbgmgmaaDoor.Pr
namespace Go.Proofs.YthgjedagbgmgmaaDoor.Pr
open Go.RowKit Go.Proofs.YthgjedagbgmgmaaDoorW.PrintWords Go.Proofs.YthgjedagbgmgmaaDoorW.PrintLast Go.Proofs.YthgjedagbgmgmaaDoorW.PrintMore
set_option linter.unusedVariables false
set_option linter.unusedSimpArgs false
theorem watered_law {sl : List Int} {a : Nat} (ha : a < sl.length) (hl : sl.length ≤ 5) : macadamlaw07_watered.f sl a = some (if sl[a] = 0 then sl.set a 1 else sl) := by
  unfold macadamlaw07_watered.f
  simp only [Option.bind_some, List.nil_append, List.length_nil]
  rw [if_pos (by omega), if_pos (by omega), if_pos (by omega), rd_at ha, Int.toNat_natCast]
  by_cases h : sl[a] = 0
  · rw [if_pos h, if_pos h]
  · rw [if_neg h, if_neg h]
theorem wet_skies (ch : Ch) (a i : Nat) (hi : i < ch.length) (h : i < ((wetC (onF a) 0 ch).map (·.2)).length) : ((wetC (onF a) 0 ch).map (·.2))[i] = if i = a ∧ ch[i].2 = 0 then 1 else ch[i].2 := by
  have hw : i < (wetC (onF a) 0 ch).length := by rw [wetC_length]; exact hi
  rw [List.getElem_map, wetC_on ch hi hw]
theorem watered_wet {ch : Ch} {a : Nat} (ha : a < ch.length) : (if (ch.map (·.2))[a]'(by simpa using ha) = 0 then (ch.map (·.2)).set a 1 else ch.map (·.2)) = (wetC (onF a) 0 ch).map (·.2) := by
  by_cases z : (ch.map (·.2))[a]'(by simpa using ha) = 0
  · rw [if_pos z]
    rw [List.getElem_map] at z
    refine List.ext_getElem (by simp [wetC_length]) fun i h1 h2 => ?_
    have hi : i < ch.length := by simpa using h1
    rw [wet_skies ch a i hi h2, List.getElem_set]
    by_cases e : a = i
    · subst e
      rw [if_pos rfl, if_pos ⟨rfl, z⟩]
    · rw [if_neg e, if_neg (fun q => e q.1.symm), List.getElem_map]
  · rw [if_neg z]
    rw [List.getElem_map] at z
    refine List.ext_getElem (by simp [wetC_length]) fun i h1 h2 => ?_
    have hi : i < ch.length := by simpa using h1
    rw [wet_skies ch a i hi h2, List.getElem_map]
    by_cases e : i = a
    · subst e
      rw [if_neg (fun q => z q.2)]
    · rw [if_neg (fun q => e q.1)]
theorem wet_wagons (ch : Ch) (a : Nat) : (wetC (onF a) 0 ch).map (·.1) = ch.map (·.1) := by
  refine List.ext_getElem (by simp [wetC_length]) fun i h1 h2 => ?_
  have hi : i < (wetC (onF a) 0 ch).length := by simpa using h1
  have hi' : i < ch.length := by rw [wetC_length] at hi; exact hi
  rw [List.getElem_map, List.getElem_map, wetC_on ch hi' hi]
set_option maxHeartbeats 1000000 in
theorem rollWater_calls (A0 A1 A2 Ab : Option Addr) (c0 c1 c2 cb : Nat) (l0 : List S92) (l1 : List S90) (l2 : List S43) (bl : List Int) (w : World) (hG : GOK w) (h : BookAt w A0 A1 A2 c0 c1 c2 l0 l1 l2) (hb : Kd.C (Kd.int .i64) w Ab bl.length bl) (hcb : bl.length ≤ cb) :
    Calls Tryd.prog 12 #[.agg #[.slice A0 l0.length c0, .slice A1 l1.length c1, .slice A2 l2.length c2], .slice Ab bl.length cb] w fun e w' => e = .returned (.bool true) ∧ Below w.heap.size w w' := by
  have HSOB := fun W (hW : Below w.heap.size w W) => sound_calls A0 A1 A2 c0 c1 c2 l0 l1 l2 W (h.below hW)
  have HRO := fun W (hW : Below w.heap.size w W) => rolled_calls W (hG.below hW)
  cases hok : okBook l0 l1 l2 with
  | false =>
    rw [hok] at HSOB
    exact water_none A0 A1 A2 Ab c0 c1 c2 cb l0 l1 l2 bl w (Lib.hid HSOB) (Lib.hid HRO)
  | true =>
    rw [hok] at HSOB
    obtain ⟨o1, o2, o3, o4, _, o6, o7⟩ := ok_facts hok
    have hlast : IntKind.i64.wrap ((l1.length : Int) - 1) = ((l1.length - 1 : Nat) : Int) := by
      rw [show ((l1.length - 1 : Nat) : Int) = (l1.length : Int) - 1 by omega]
      exact IntWalk.i64_in _ (by omega)
    refine water_walk A0 A1 A2 Ab c0 c1 c2 cb l0 l1 l2 bl (l1.length - 1) w (by omega) hlast (Lib.hid HSOB) (Lib.hid HRO) (Lib.hid (known_book A0 A1 A2 Ab c0 c1 c2 cb l0 l1 l2 bl w h hb hcb hok fun ch Aw cw As cs Ak ck hc => ?_))
    have hok' := rightLooks_ok (ks := l2) hok hc
    have hg := rightLooks_good hok hc
    obtain ⟨s, t, e1, hor⟩ := true_water hok' hg
    refine ⟨rightLooks l0 ch l2, (waterF l0 l1 (rightLooks l0 ch l2)).1, (waterF l0 l1 (rightLooks l0 ch l2)).2, s, t, Lib.hid (known_rightly A0 A1 A2 Aw As Ak c0 c1 c2 cw cs ck l0 l1 l2 w h hok hc _ _), Lib.hid (kb_water A0 A1 c0 c1 l0 l1 _ w hG h rfl), Lib.hid (kb_bound A0 A1 c0 c1 l0 l1 _ w hG h _ e1), Lib.hid ?_⟩
    rcases hor with e2 | ⟨a, e2, ha, ⟨sky, e3, k1, k2, k3⟩, hlt⟩
    · rw [e2]
      exact .inl ⟨rfl, rfl⟩
    · rw [e2]
      have hca : a < ch.length := by rw [hc.1]; exact ha
      have hokd := okBook_set hok a (dampDay_ok ((okBook_parts hok).2.2.2.2.1 _ (List.getElem_mem ha)))
      have hcd := damp_up hok ha hc
      have hwl : (wetC (onF a) 0 ch).length = ch.length := wetC_length _ _ _
      refine .inr ⟨rfl, a, sky, (wetC (onF a) 0 ch).map (·.2), boundsK l0 (wetC (onF a) 0 ch), (lastK l0 (wetC (onF a) 0 ch) kn0).laid, (lastK l0 (wetC (onF a) 0 ch) kn0).lost, (lastK l0 (wetC (onF a) 0 ch) kn0).at_, rfl, Lib.hid (amid_true (by omega) (by omega)), Lib.hid (kb_sky A0 A1 c0 c1 l0 l1 _ w hG h _ e3), Lib.hid fun W => ?_, Lib.hid fun W hr hcs => ?_, Lib.hid fun W A5 c5 hW h1 h2 => ?_, Lib.hid fun W A hr => ?_, hlt⟩
      · have := in_calls (s := sky) (j := 0) (by omega) (by omega) (by decide) (by decide) W
        rw [show hasSky sky (0 : Int).toNat = true by unfold hasSky; rw [show (0 : Int).toNat = 0 from rfl, Int.pow_zero, Int.ediv_one, k3]; rfl] at this
        exact this
      · have hll : (ch.map (·.2)).length = ch.length := List.length_map _
        have := macadamlaw07_watered.calls As cs (ch.map (·.2)) a _ W hr (by rw [hll]; exact hcs) (watered_law (by rw [hll]; exact hca) (by rw [hll, hc.1]; exact o3))
        rw [watered_wet hca] at this
        rw [hll] at this
        refine this.mono ?_
        rintro e w' ⟨v, rfl, hr', hb'⟩
        obtain ⟨A5, c5, rfl⟩ := Kd.R_slice hr'
        rw [List.length_map, hwl] at hr' ⊢
        exact ⟨A5, c5, rfl, hr', hb'⟩
      · have hbd := okCh_all hokd hcd
        rw [← wet_wagons ch a] at h1
        have := run_calls A0 A1 A2 Aw A5 c0 l1.length c1 l2.length c2 cw c5 l0 (wetC (onF a) 0 ch) W (h.below hW).r0 o2 (fun i hi => o7 _ (List.getElem_mem hi)) hbd.1 hbd.2 h1 h2
        rw [hwl] at this
        exact this
      · have hlk := boundsK_last (l0 := l0) (ch := wetC (onF a) 0 ch) (n := l1.length - 1) (by rw [hwl, hc.1]; omega)
        obtain ⟨hi, e⟩ := List.getElem?_eq_some_iff.1 hlk
        obtain ⟨b, o, eA, hbl, hc'⟩ := cell_int hr hi
        rw [e] at hc'
        exact ⟨b, o, eA, hbl, hi, hc'⟩
end Go.Proofs.YthgjedagbgmgmaaDoor.Pr
