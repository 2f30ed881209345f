/- Part 6 of the proof that RollTrue answers true: contracts and laws, merged by a program. -/
import Derived.Test.YthgjedagbgmgmaaDoorCards
import Derived.Test.YthgjedagbgmgmaaDoorTie
import Derived.WalkKit
import Derived.ProofKit
import Derived.OpenShut
import Derived.Deep.DeepHandedRow
import Derived.Deep.DeepWitnessRowRef
import Derived.Lib.LaidTab
import Derived.Lib.LaidU8
import Derived.LaidMore
import Derived.Lib.SmallJoins
import Derived.Deep.Slices
import Derived.Carry
import Derived.Laws.IdiomArrays
import Derived.SevenTiedAt
import Derived.IntWalk
import Derived.Test.YthgjedagbgmgmaaDoorRollTrueA5
namespace Go.Proofs.YthgjedagbgmgmaaDoor.Pr
open Go.RowKit Go.Proofs.YthgjedagbgmgmaaDoorW.PrintWords Go.Proofs.YthgjedagbgmgmaaDoorW.PrintLast Go.Proofs.YthgjedagbgmgmaaDoorW.PrintMore
set_option linter.unusedVariables false
set_option linter.unusedSimpArgs false
/-- The first number from m on with which it goes on. -/
def chooseL (next : List Int → Option (List Int)) (s : List Int) : Nat → Nat → Option (List Int)
  | 0, _ => none
  | g + 1, m => match next (s ++ [(m : Int)]) with
    | some l => some l
    | none => chooseL next s g (m + 1)
/-- Where the next number begins. -/
def startOf (s : List Int) : Nat := match s.getLast? with
  | none => 0
  | some x => (x + 1).toNat
theorem startOf_some {s : List Int} {x : Int} (h : s.getLast? = some x) : startOf s = (x + 1).toNat := by unfold startOf; rw [h]
/-- The first rising row that begins with s and has f numbers more, below n. -/
def chooseF (ok : List Int → Bool) (n : Nat) : Nat → List Int → Option (List Int)
  | 0, s => if ok s then some s else none
  | f + 1, s => chooseL (chooseF ok n f) s (n - startOf s) (startOf s)
/-- The first number of looks with which there is a row. -/
def chooseAll (ok : List Int → Bool) (n : Nat) : Nat → Nat → Option (List Int)
  | 0, _ => none
  | g + 1, m => match chooseF ok n m [] with
    | some l => some l
    | none => chooseAll ok n g (m + 1)
def okBut (ls : List S92) (ds : List S90) (ks : List S43) (but : List Int) : Bool := decide (0 < (truthsAll ls ds ks but).length)
/-- What a row of choose's is. -/
def ChP (r : Option (List Int)) (v : Value) (W : World) : Prop := ∀ L, r = some L → ∃ A c, v = .slice A L.length c ∧ FRow eI 1 W A L ∧ L.length ≤ c
theorem inf3 : (Tryd.prog.info? 3).map (fun i => (i.zero, i.size, i.bytes)) = some (some (.int .i64 0), 1, 8) := by kernel_rfl
set_option maxHeartbeats 4000000 in
set_option maxRecDepth 100000 in
theorem choose0_calls (g1 g2 : Nat) (A0 A1 A2 : Option Addr) (c0 c1 c2 : Nat) (l0 : List S92) (l1 : List S90) (l2 : List S43) (w0 : World) (hG : GOK w0) (hr0 : FRow e92 2 w0 A0 l0) (hc0 : l0.length ≤ c0) (hr1 : FRow e90 3 w0 A1 l1) (hr2 : FRow e43 2 w0 A2 l2) (hc2 : l2.length ≤ c2) (hok : okBook l0 l1 l2 = true)
    (hg1 : w0.heap[g1]? = some (.cells #[.slice A0 l0.length c0, .slice A1 l1.length c1, .slice A2 l2.length c2] 26 (0, 0))) (hg2 : w0.heap[g2]? = some (.cells #[.func (.func 102) #[] #[.pointer (some ⟨g1, 0, none⟩), .pointer (some ⟨g2, 0, none⟩)]] 146 (0, 0))) (W : World) (A : Option Addr) (c : Nat) (s : List Int) (hB : Below w0.heap.size w0 W) (hF : FRow eI 1 W A s) (hc : s.length ≤ c) (hs4 : s.length ≤ 4) :
    Calls Tryd.prog 102 #[.slice A s.length c, .int .i64 (s.length : Int), .pointer (some ⟨g1, 0, none⟩), .pointer (some ⟨g2, 0, none⟩)] W fun e w' => ∃ v, e = .returned (.tuple #[v, .bool (if okBut l0 l1 l2 s = true then some s else none).isSome]) ∧ ChP (if okBut l0 l1 l2 s = true then some s else none) v w' ∧ Below W.heap.size W w' := by
  obtain ⟨o1, o2, o3, o4, o5, o6, o7⟩ := ok_facts hok
  obtain ⟨T, hT⟩ : ∃ T, T = truthsAll l0 l1 l2 s := ⟨_, rfl⟩
  have hob : okBut l0 l1 l2 s = decide (0 < T.length) := by rw [hT]; rfl
  have HOP : Hid (∀ W', Below W.heap.size W W' → Calls Tryd.prog 75 #[.agg #[.slice A0 l0.length c0, .slice A1 l1.length c1, .slice A2 l2.length c2], .slice A s.length c] W' fun e W9 => ∃ At ct m, e = .returned (.agg #[.slice A0 l0.length c0, .slice A1 l1.length c1, .slice A2 l2.length c2, .map (some m), .slice At T.length ct]) ∧ Below W'.heap.size W' W9) :=
    Lib.hid fun W' hW' => (opened_calls A0 A1 A2 A c0 c1 c2 c l0 l1 l2 s W' (hG.below (hB.trans (below_weaken hW' hB.size))) (hr0.below (hB.trans (below_weaken hW' hB.size))) (hr1.below (hB.trans (below_weaken hW' hB.size))) (hr2.below (hB.trans (below_weaken hW' hB.size))) (hF.below hW') hc0 hc2 hc o1 o2 o3 (by omega) (by omega) o6).mono (by
      rintro e W9 ⟨At, ct, m, rfl, _, _, _, hb⟩
      rw [← hT]
      exact ⟨At, ct, m, rfl, hb⟩)
  have hfl : ∀ A' m ct W, (Instr.field 107 (.agg #[.slice A0 l0.length c0, .slice A1 l1.length c1, .slice A2 l2.length c2, .map (some m), .slice A' T.length ct]) 2).run Tryd.prog W = .ok (.slice A' T.length ct) W := fun _ _ _ _ => field107 _ _ _ _ _ _ _ _ _ _ _ _ _ _
  have hg1W := blk_below hg1 hB
  have k0 := (blk_cell hg1W 0).trans rfl
  have k1 := (blk_cell hg1W 1).trans rfl
  have k2 := (blk_cell hg1W 2).trans rfl
  have HF := Lib.hid hF
  have hq : ((s.length : Int) == (s.length : Int)) = true := beq_self_eq_true _
  obtain ⟨q, hqq⟩ : ∃ q, q = okBut l0 l1 l2 s := ⟨_, rfl⟩
  have hsome : (if okBut l0 l1 l2 s = true then some s else none).isSome = q := by rw [hqq]; cases okBut l0 l1 l2 s <;> rfl
  have hch : ∀ w', Below W.heap.size W w' → ChP (if okBut l0 l1 l2 s = true then some s else none) (.slice A s.length c) w' := by
    intro w' hb L hL
    have : s = L := by
      split at hL
      · exact Option.some.inj hL
      · cases hL
    subst this
    exact ⟨A, c, rfl, hF.below hb, hc⟩
  rw [hsome]
  have HCH := Lib.hid hch
  have HQ := Lib.hid (hqq.trans hob)
  have HFL := Lib.hid hfl
  clear hT hob hG hr0 hr1 hr2 hok hg1 hg2 hg1W hF o1 o2 o3 o4 o5 o6 o7 hsome hch hqq hfl hB
  generalize (if okBut l0 l1 l2 s = true then some s else none) = RR at HCH ⊢
  have hfl := HFL.out
  go_enter Tryd.func102, Tryd.ntmps102
  go_wp2_with (go_at_call 75; refine (HOP.out _ ?hw).mono ?_; (case hw => exact by repeat (first | exact Below.refl _ _ | refine Below.alloc ?_ (by simp <;> omega) _ | refine Below.setCell ?_ (by simp <;> omega) _ | apply Below.drew)); rintro e w3 ⟨At, ct, m, rfl, hB3⟩)
  go_ret2
  exact ⟨_, by rw [HQ.out]; rfl, HCH.out _ hB3, hB3⟩
set_option maxHeartbeats 4000000 in
set_option maxRecDepth 100000 in
theorem choose_step (g1 g2 : Nat) (A0 A1 A2 : Option Addr) (c0 c1 c2 : Nat) (l0 : List S92) (l1 : List S90) (l2 : List S43) (w0 : World) (hG : GOK w0) (hr0 : FRow e92 2 w0 A0 l0) (hc0 : l0.length ≤ c0) (hr1 : FRow e90 3 w0 A1 l1) (hr2 : FRow e43 2 w0 A2 l2) (hc2 : l2.length ≤ c2) (hok : okBook l0 l1 l2 = true)
    (hg1 : w0.heap[g1]? = some (.cells #[.slice A0 l0.length c0, .slice A1 l1.length c1, .slice A2 l2.length c2] 26 (0, 0))) (hg2 : w0.heap[g2]? = some (.cells #[.func (.func 102) #[] #[.pointer (some ⟨g1, 0, none⟩), .pointer (some ⟨g2, 0, none⟩)]] 146 (0, 0))) (f many : Nat)
    (ih : ∀ (W : World) (A : Option Addr) (c : Nat) (s : List Int), Below w0.heap.size w0 W → FRow eI 1 W A s → s.length ≤ c → s.length + f = many → many ≤ 4 → (∀ x ∈ s, 0 ≤ x ∧ x < (l2.length : Int)) →
      Calls Tryd.prog 102 #[.slice A s.length c, .int .i64 (many : Int), .pointer (some ⟨g1, 0, none⟩), .pointer (some ⟨g2, 0, none⟩)] W fun e w' => ∃ v, e = .returned (.tuple #[v, .bool (chooseF (okBut l0 l1 l2) l2.length f s).isSome]) ∧ ChP (chooseF (okBut l0 l1 l2) l2.length f s) v w' ∧ Below W.heap.size W w')
    (W : World) (A : Option Addr) (c : Nat) (s : List Int) (hB : Below w0.heap.size w0 W) (hF : FRow eI 1 W A s) (hc : s.length ≤ c) (hm : s.length + (f + 1) = many) (hm4 : many ≤ 4) (hx : ∀ x ∈ s, 0 ≤ x ∧ x < (l2.length : Int)) :
    Calls Tryd.prog 102 #[.slice A s.length c, .int .i64 (many : Int), .pointer (some ⟨g1, 0, none⟩), .pointer (some ⟨g2, 0, none⟩)] W fun e w' => ∃ v, e = .returned (.tuple #[v, .bool (chooseF (okBut l0 l1 l2) l2.length (f + 1) s).isSome]) ∧ ChP (chooseF (okBut l0 l1 l2) l2.length (f + 1) s) v w' ∧ Below W.heap.size W w' := by
  obtain ⟨i3, hi3, hz0, hz1, hz2⟩ := info_parts inf3
  have hl24 : l2.length ≤ 4 := (ok_facts hok).2.2.2.2.1
  have hg1W := blk_below hg1 hB
  have hg2W := blk_below hg2 hB
  have k2 := (blk_cell hg1W 2).trans rfl
  have HG1 := Lib.hid hg1W
  have HG2 := Lib.hid hg2W
  have HFLAT : Hid (∀ W', Below W.heap.size W W' → ∀ b, A = some b → ∀ j u, (s.flatMap eI)[j]? = some u → W'.cell? (b.add j) = some u) :=
    Lib.hid fun W' hW' => frow_flat eI_len (hF.below hW')
  have hst : startOf s ≤ l2.length := by
    unfold startOf
    split
    · omega
    · rename_i x hx'
      have := hx x (List.mem_of_getLast? hx')
      omega
  obtain ⟨n9, hn9⟩ : ∃ n, n = s.length + 1 := ⟨_, rfl⟩
  have HIHM : Hid (∀ (m : Nat), m < l2.length → ∀ (W' : World) (A9 : Option Addr) (c9 : Nat), Below W.heap.size W W' → FRow eI 1 W' A9 (s ++ [(m : Int)]) → n9 ≤ c9 →
      Calls Tryd.prog 102 #[.slice A9 n9 c9, .int .i64 (many : Int), .pointer (some ⟨g1, 0, none⟩), .pointer (some ⟨g2, 0, none⟩)] W' fun e w' => ∃ v, e = .returned (.tuple #[v, .bool (chooseF (okBut l0 l1 l2) l2.length f (s ++ [(m : Int)])).isSome]) ∧ ChP (chooseF (okBut l0 l1 l2) l2.length f (s ++ [(m : Int)])) v w' ∧ Below W'.heap.size W' w') := by
    refine Lib.hid fun m hml W' A9 c9 hW' hF9 hc9 => ?_
    have hl : (s ++ [(m : Int)]).length = n9 := by simp [hn9]
    have := ih W' A9 c9 (s ++ [(m : Int)]) (hB.trans (below_weaken hW' hB.size)) hF9 (by rw [hl]; exact hc9) (by rw [hl, hn9]; omega) hm4 (fun x hxm => by
      rcases List.mem_append.1 hxm with h | h
      · exact hx x h
      · simp at h; omega)
    rw [hl] at this
    exact this
  have hne : ((s.length : Int) == (many : Int)) = false := beq_eq_false_iff_ne.2 (by omega)
  have hs4 : s.length ≤ 4 := by omega
  have HN9 : Hid (∀ m : Nat, (s ++ [(m : Int)]).length = n9) := Lib.hid fun m => by simp [hn9]
  have HLF : Hid (chooseF (okBut l0 l1 l2) l2.length (f + 1) s = chooseL (chooseF (okBut l0 l1 l2) l2.length f) s (l2.length - startOf s) (startOf s)) := Lib.hid rfl
  have hlast : s.length = 0 ∧ startOf s = 0 ∨ ∃ (j : Nat) (x : Int) (b o : Nat), s.length = j + 1 ∧ A = some ⟨b, o, none⟩ ∧ W.cell? ⟨b, o + j, none⟩ = some (.int .i64 x) ∧ x + 1 = (startOf s : Int) ∧ 0 ≤ x ∧ x < 4 := by
    by_cases hs0 : s.length = 0
    · left
      refine ⟨hs0, ?_⟩
      rw [List.length_eq_zero_iff.1 hs0]
      rfl
    · right
      obtain ⟨j, hj⟩ : ∃ j, s.length = j + 1 := ⟨s.length - 1, by omega⟩
      have hsj : s[j]? = some (s[j]'(by omega)) := List.getElem?_eq_getElem (by omega)
      rcases hF with h | ⟨b, o, e, _, hcc⟩
      · rw [h] at hs0; simp at hs0
      · have hcj := hcc j _ hsj 0 _ rfl
        simp only [Nat.mul_one, Nat.add_zero] at hcj
        have hxj := hx _ (List.getElem_mem (l := s) (n := j) (by omega))
        refine ⟨j, _, b, o, hj, e, hcj, ?_, hxj.1, by omega⟩
        have hgl : s.getLast? = some (s[j]'(by omega)) := by
          rw [List.getLast?_eq_getElem?, show s.length - 1 = j by omega]
          exact hsj
        rw [startOf_some hgl]
        omega
  obtain ⟨RR, hRR⟩ : ∃ R, R = chooseF (okBut l0 l1 l2) l2.length (f + 1) s := ⟨_, rfl⟩
  rw [← hRR]
  have HRR := Lib.hid (hRR.trans HLF.out)
  have HF := Lib.hid hF
  obtain ⟨st, hst2⟩ : ∃ n, n = startOf s := ⟨_, rfl⟩
  rw [← hst2] at HRR hst hlast
  clear hG hr0 hr1 hr2 hok hg1 hg2 hg1W hg2W hF hx ih hB hn9 hm hRR HLF hst2
  obtain ⟨n8, hn8⟩ : ∃ n, n = s.length := ⟨_, rfl⟩
  have HN8 : Hid (s.length = n8) := Lib.hid hn8.symm
  rw [← hn8] at hlast hne hs4 hc ⊢
  clear hn8
  rcases hlast with ⟨rfl, rfl⟩ | ⟨j, x, b, o, rfl, rfl, hcx, hxst, hx0, hx4⟩
  · go_enter Tryd.func102, Tryd.ntmps102
    go_wp2
    go_loopg [10] (l2.length - 0) (fun gk v10 wr => ∃ (m : Nat), v10 = .int .i64 m ∧ Aside0 (m + gk = l2.length) ∧ Aside0 (RR = chooseL (chooseF (okBut l0 l1 l2) l2.length f) s gk m) ∧ Aside0 (wr.heap[g2]? = some (.cells #[.func (.func 102) #[] #[.pointer (some ⟨g1, 0, none⟩), .pointer (some ⟨g2, 0, none⟩)]] 146 (0, 0))) ∧ Aside0 (wr.heap[g1]? = some (.cells #[.slice A0 l0.length c0, .slice A1 l1.length c1, .slice A2 l2.length c2] 26 (0, 0))) ∧ Aside0 (Below W.heap.size W wr))
    case atStart =>  exact ⟨0, rfl, ⟨by omega⟩, ⟨by first | exact HRR.out | (rw [HRR.out]; congr 1; omega)⟩, ⟨HG2.out⟩, ⟨HG1.out⟩, ⟨Below.refl _ _⟩⟩
    case round =>
      obtain ⟨m, rfl, HK, HS, HG2R, HG1R, HBR⟩ := hrel
      have k2 := (blk_cell HG1R.out 2).trans rfl
      cases gk with
      | zero =>
        have hge : ¬ m < l2.length := by have := HK.out; omega
        have HNO : Hid (RR = none) := Lib.hid HS.out
        have hch : ∀ v w', ChP RR v w' := fun v w' L hL => by rw [HNO.out] at hL; cases hL
        have HCH := Lib.hid hch
        have HIS : Hid (RR.isSome = false) := Lib.hid (by rw [HNO.out]; rfl)
        clear hch
        go_wp2
        go_ret2
        exact ⟨_, by rw [HIS.out]; rfl, HCH.out _ _, HBR.out⟩
      | succ g1' =>
        have hlt : m < l2.length := by have := HK.out; omega
        obtain ⟨R9, hR9⟩ : ∃ R, R = chooseF (okBut l0 l1 l2) l2.length f (s ++ [(m : Int)]) := ⟨_, rfl⟩
        have HIH := Lib.hid (HIHM.out m hlt)
        rw [← hR9] at HIH
        have hm4 : m ≤ 4 := by omega
        cases R9 with
        | none =>
          have HSN : Hid (RR = chooseL (chooseF (okBut l0 l1 l2) l2.length f) s g1' (m + 1)) := by
            refine Lib.hid ?_
            rw [HS.out]
            show (match chooseF (okBut l0 l1 l2) l2.length f (s ++ [(m : Int)]) with | some l => some l | none => _) = _
            rw [← hR9]
          clear hR9
          go_upto_region 10 with fail
          have hBP : Below wr.heap.size wr wr.drew := by repeat (first | exact Below.refl _ _ | refine Below.alloc ?_ (by simp <;> omega) _ | refine Below.setCell ?_ (by simp <;> omega) _ | apply Below.drew)
          have HG2D := Lib.hid (blk_below HG2R.out hBP)
          have HBD := Lib.hid (HBR.out.trans (below_weaken hBP HBR.out.size))
          have HN9 := Lib.hid (HN9.out m)
          clear hBP
          refine start_ (n := 15) (S := fun w' => w'.cell? ⟨g2, 0, none⟩ = some (.func (.func 102) #[] #[.pointer (some ⟨g1, 0, none⟩), .pointer (some ⟨g2, 0, none⟩)])) (ds := []) #[false, false, false, false, false, false, false, false, false, false, false, false, false, false, false] (by kernel_rfl) rfl rfl ((blk_cell HG2D.out 0).trans rfl) (fun hHeld => ?_)
          refine pu_ 1 (some 43) ?_
          refine pu_ 2 (some 44) ?_
          refine pu_ 3 (some 45) ?_
          refine pu_ 4 (some 46) ?_
          refine pu_ 5 (some 47) ?_
          refine pu_ 8 (some 50) ?_
          refine take_ (i := 0) (N := some 42) (v := ?_) (a' := ?_) #[true, true, true, true, true, true, false, false, true, false, false, false, false, false, false] rfl rfl (by kernel_rfl) (fun _ _ _ h => h) (Or.inl ⟨by rfl, ?_⟩) hHeld ?_ ?_
          rotate_left
          · intro w' s0
            go_simp
            with_reducible rfl
          rotate_left
          · simp only [Act.put, List.setIfInBounds_toArray, List.set_cons_zero, List.set_cons_succ, i64_w, i32_w]
            rfl
          refine one_ (i := 6) (N := some 48) #[true, true, true, true, true, true, true, false, true, false, false, false, false, false, false] rfl rfl (by kernel_rfl) (by decide) (fun K hK => ?_)
          refine value_ (w1 := ?_) (v := ?_) (by rfl) rfl ?_ ?_
          rotate_left 2
          · go_simp
            constructor
            · rfl
            · rfl
          have h2a := blk_alloc HG2D.out (.cells #[.int .i64 (m : Int)] 3)
          have hnw := blk_new wr.drew (.cells #[.int .i64 (m : Int)] 3)
          have HHA := Lib.hid (HBD.out.alloc HBD.out.size (.cells #[.int .i64 (m : Int)] 3))
          refine hK.out _ _ ((blk_cell h2a 0).trans rfl) (fun hHeld => ?_)
          clear hK K
          refine no_ 48 ?_
          refine one_ (i := 7) (N := some 49) #[true, true, true, true, true, true, true, true, true, false, false, false, false, false, false] rfl rfl (by kernel_rfl) (by decide) (fun K hK => ?_)
          refine step_append_grows rfl (.tmp 46) (.tmp 48) 45 (by rfl) 3 i3 _ 1 8 Tryd.underlying45 hi3 hz0 hz1 hz2 rfl (by decide) A 0 0 (s.flatMap eI) (by rfl) (fun _ => ⟨rfl, rfl⟩) (by rw [flat_length eI_len s, HN8.out]) (HFLAT.out _ HHA.out) ⟨wr.drew.heap.size, 0, none⟩ 1 1 [.int .i64 (m : Int)] (by rfl) rfl ?aC ?aO (by omega) (by unfold maxLen; omega) (by omega) ?_
          (case aC => exact fun j u hj => (cell_add hnw j).trans (by simpa using hj))
          (case aO => exact fun u hu => by simp at hu; rcases hu with rfl; rfl)
          intro v6 w9 ho9 hg9
          have h29 := (hg9.block _ (blk_lt h2a) (by simp)).trans h2a
          have HB9 := Lib.hid (HHA.out.grown hg9 (by have := HHA.out.size; omega) (fun j ej => by simp at ej))
          rw [show s.flatMap eI ++ [.int .i64 (m : Int)] = (s ++ [(m : Int)]).flatMap eI by simp [eI]] at ho9
          obtain ⟨eL, A9, c9, ev, hF9, hc9⟩ := frow_own' eI_len (by decide) ho9
          clear eL
          rw [HN9.out] at ev hc9
          subst ev
          have HC9 := Lib.hid hc9
          have HF9 := Lib.hid hF9
          clear hc9 hF9 ho9 hg9 hnw
          refine hK.out _ _ ((blk_cell h29 0).trans rfl) (fun hHeld => ?_)
          clear hK K
          refine no_ 49 ?_
          refine one_ (i := 9) (N := some 51) #[true, true, true, true, true, true, true, true, true, true, false, false, false, false, false] rfl rfl (by kernel_rfl) (by decide) (fun K hK => ?_)
          refine goesV_ Tryd.func102 (by kernel_rfl) rfl #[.slice A9 n9 c9, .int .i64 (many : Int), .pointer (some ⟨g1, 0, none⟩), .pointer (some ⟨g2, 0, none⟩)] #[] #[.pointer (some ⟨g1, 0, none⟩), .pointer (some ⟨g2, 0, none⟩)] (by rfl) rfl rfl rfl (by simp only [List.map_toArray, List.map_cons, List.map_nil]; rfl) ?_
          refine (HIH.out _ A9 c9 HB9.out HF9.out HC9.out).mono ?_
          rintro e w10 ⟨v, rfl, hP, hb⟩
          refine ⟨_, rfl, ?_⟩
          have h210 := blk_below h29 hb
          have HB10 := Lib.hid (HB9.out.trans (below_weaken hb HB9.out.size))
          have HP := Lib.hid hP
          clear hP hb
          refine hK.out _ _ ((blk_cell h210 0).trans rfl) (fun hHeld => ?_)
          clear hK K
          refine no_ 51 ?_
          refine pu_ 10 (some 41) ?_
          refine pu_ 11 (some 52) ?_
          refine pu_ 12 (some 53) ?_
          refine pu_ 13 (some 11) ?_
          refine pu_ 14 (some 12) ?_
          refine done_ (by kernel_rfl) ?_

          go_wp2
          go_roundg g1'
          case measure => omega
          case rel => exact ⟨m + 1, by go_num, ⟨by have := HK.out; omega⟩, ⟨HSN.out⟩, ⟨h210⟩, ⟨blk_below HG1.out HB10.out⟩, ⟨HB10.out⟩⟩
        | some L =>
          have HSS : Hid (RR = some L) := by
            refine Lib.hid ?_
            rw [HS.out]
            show (match chooseF (okBut l0 l1 l2) l2.length f (s ++ [(m : Int)]) with | some l => some l | none => _) = _
            rw [← hR9]
          have HIS : Hid (RR.isSome = true) := Lib.hid (by rw [HSS.out]; rfl)
          clear hR9
          go_upto_region 10 with fail
          have hBP : Below wr.heap.size wr wr.drew := by repeat (first | exact Below.refl _ _ | refine Below.alloc ?_ (by simp <;> omega) _ | refine Below.setCell ?_ (by simp <;> omega) _ | apply Below.drew)
          have HG2D := Lib.hid (blk_below HG2R.out hBP)
          have HBD := Lib.hid (HBR.out.trans (below_weaken hBP HBR.out.size))
          have HN9 := Lib.hid (HN9.out m)
          clear hBP
          refine start_ (n := 15) (S := fun w' => w'.cell? ⟨g2, 0, none⟩ = some (.func (.func 102) #[] #[.pointer (some ⟨g1, 0, none⟩), .pointer (some ⟨g2, 0, none⟩)])) (ds := []) #[false, false, false, false, false, false, false, false, false, false, false, false, false, false, false] (by kernel_rfl) rfl rfl ((blk_cell HG2D.out 0).trans rfl) (fun hHeld => ?_)
          refine pu_ 1 (some 43) ?_
          refine pu_ 2 (some 44) ?_
          refine pu_ 3 (some 45) ?_
          refine pu_ 4 (some 46) ?_
          refine pu_ 5 (some 47) ?_
          refine pu_ 8 (some 50) ?_
          refine take_ (i := 0) (N := some 42) (v := ?_) (a' := ?_) #[true, true, true, true, true, true, false, false, true, false, false, false, false, false, false] rfl rfl (by kernel_rfl) (fun _ _ _ h => h) (Or.inl ⟨by rfl, ?_⟩) hHeld ?_ ?_
          rotate_left
          · intro w' s0
            go_simp
            with_reducible rfl
          rotate_left
          · simp only [Act.put, List.setIfInBounds_toArray, List.set_cons_zero, List.set_cons_succ, i64_w, i32_w]
            rfl
          refine one_ (i := 6) (N := some 48) #[true, true, true, true, true, true, true, false, true, false, false, false, false, false, false] rfl rfl (by kernel_rfl) (by decide) (fun K hK => ?_)
          refine value_ (w1 := ?_) (v := ?_) (by rfl) rfl ?_ ?_
          rotate_left 2
          · go_simp
            constructor
            · rfl
            · rfl
          have h2a := blk_alloc HG2D.out (.cells #[.int .i64 (m : Int)] 3)
          have hnw := blk_new wr.drew (.cells #[.int .i64 (m : Int)] 3)
          have HHA := Lib.hid (HBD.out.alloc HBD.out.size (.cells #[.int .i64 (m : Int)] 3))
          refine hK.out _ _ ((blk_cell h2a 0).trans rfl) (fun hHeld => ?_)
          clear hK K
          refine no_ 48 ?_
          refine one_ (i := 7) (N := some 49) #[true, true, true, true, true, true, true, true, true, false, false, false, false, false, false] rfl rfl (by kernel_rfl) (by decide) (fun K hK => ?_)
          refine step_append_grows rfl (.tmp 46) (.tmp 48) 45 (by rfl) 3 i3 _ 1 8 Tryd.underlying45 hi3 hz0 hz1 hz2 rfl (by decide) A 0 0 (s.flatMap eI) (by rfl) (fun _ => ⟨rfl, rfl⟩) (by rw [flat_length eI_len s, HN8.out]) (HFLAT.out _ HHA.out) ⟨wr.drew.heap.size, 0, none⟩ 1 1 [.int .i64 (m : Int)] (by rfl) rfl ?aC ?aO (by omega) (by unfold maxLen; omega) (by omega) ?_
          (case aC => exact fun j u hj => (cell_add hnw j).trans (by simpa using hj))
          (case aO => exact fun u hu => by simp at hu; rcases hu with rfl; rfl)
          intro v6 w9 ho9 hg9
          have h29 := (hg9.block _ (blk_lt h2a) (by simp)).trans h2a
          have HB9 := Lib.hid (HHA.out.grown hg9 (by have := HHA.out.size; omega) (fun j ej => by simp at ej))
          rw [show s.flatMap eI ++ [.int .i64 (m : Int)] = (s ++ [(m : Int)]).flatMap eI by simp [eI]] at ho9
          obtain ⟨eL, A9, c9, ev, hF9, hc9⟩ := frow_own' eI_len (by decide) ho9
          clear eL
          rw [HN9.out] at ev hc9
          subst ev
          have HC9 := Lib.hid hc9
          have HF9 := Lib.hid hF9
          clear hc9 hF9 ho9 hg9 hnw
          refine hK.out _ _ ((blk_cell h29 0).trans rfl) (fun hHeld => ?_)
          clear hK K
          refine no_ 49 ?_
          refine one_ (i := 9) (N := some 51) #[true, true, true, true, true, true, true, true, true, true, false, false, false, false, false] rfl rfl (by kernel_rfl) (by decide) (fun K hK => ?_)
          refine goesV_ Tryd.func102 (by kernel_rfl) rfl #[.slice A9 n9 c9, .int .i64 (many : Int), .pointer (some ⟨g1, 0, none⟩), .pointer (some ⟨g2, 0, none⟩)] #[] #[.pointer (some ⟨g1, 0, none⟩), .pointer (some ⟨g2, 0, none⟩)] (by rfl) rfl rfl rfl (by simp only [List.map_toArray, List.map_cons, List.map_nil]; rfl) ?_
          refine (HIH.out _ A9 c9 HB9.out HF9.out HC9.out).mono ?_
          rintro e w10 ⟨v, rfl, hP, hb⟩
          refine ⟨_, rfl, ?_⟩
          have h210 := blk_below h29 hb
          have HB10 := Lib.hid (HB9.out.trans (below_weaken hb HB9.out.size))
          have HP := Lib.hid hP
          clear hP hb
          refine hK.out _ _ ((blk_cell h210 0).trans rfl) (fun hHeld => ?_)
          clear hK K
          refine no_ 51 ?_
          refine pu_ 10 (some 41) ?_
          refine pu_ 11 (some 52) ?_
          refine pu_ 12 (some 53) ?_
          refine pu_ 13 (some 11) ?_
          refine pu_ 14 (some 12) ?_
          refine done_ (by kernel_rfl) ?_

          go_wp2
          go_ret2
          exact ⟨_, by rw [HIS.out]; rfl, by rw [HSS.out]; exact HP.out, HB10.out⟩

  · have HXST := Lib.hid hxst
    have hcI : ((j : Int) + 1 ≤ (c : Int)) = True := eq_true (by omega)
    have hjI : ((0 : Int) ≤ (j : Int) + 1) = True := eq_true (by omega)
    clear hxst
    go_enter Tryd.func102, Tryd.ntmps102
    go_wp2
    go_loopg [10] (l2.length - st) (fun gk v10 wr => ∃ (m : Nat), v10 = .int .i64 m ∧ Aside0 (m + gk = l2.length) ∧ Aside0 (RR = chooseL (chooseF (okBut l0 l1 l2) l2.length f) s gk m) ∧ Aside0 (wr.heap[g2]? = some (.cells #[.func (.func 102) #[] #[.pointer (some ⟨g1, 0, none⟩), .pointer (some ⟨g2, 0, none⟩)]] 146 (0, 0))) ∧ Aside0 (wr.heap[g1]? = some (.cells #[.slice A0 l0.length c0, .slice A1 l1.length c1, .slice A2 l2.length c2] 26 (0, 0))) ∧ Aside0 (Below W.heap.size W wr))
    case atStart => have hxx := HXST.out; exact ⟨st, by rw [HXST.out], ⟨by omega⟩, ⟨by first | exact HRR.out | (rw [HRR.out]; congr 1; omega)⟩, ⟨HG2.out⟩, ⟨HG1.out⟩, ⟨Below.refl _ _⟩⟩
    case round =>
      obtain ⟨m, rfl, HK, HS, HG2R, HG1R, HBR⟩ := hrel
      have k2 := (blk_cell HG1R.out 2).trans rfl
      cases gk with
      | zero =>
        have hge : ¬ m < l2.length := by have := HK.out; omega
        have HNO : Hid (RR = none) := Lib.hid HS.out
        have hch : ∀ v w', ChP RR v w' := fun v w' L hL => by rw [HNO.out] at hL; cases hL
        have HCH := Lib.hid hch
        have HIS : Hid (RR.isSome = false) := Lib.hid (by rw [HNO.out]; rfl)
        clear hch
        go_wp2
        go_ret2
        exact ⟨_, by rw [HIS.out]; rfl, HCH.out _ _, HBR.out⟩
      | succ g1' =>
        have hlt : m < l2.length := by have := HK.out; omega
        obtain ⟨R9, hR9⟩ : ∃ R, R = chooseF (okBut l0 l1 l2) l2.length f (s ++ [(m : Int)]) := ⟨_, rfl⟩
        have HIH := Lib.hid (HIHM.out m hlt)
        rw [← hR9] at HIH
        have hm4 : m ≤ 4 := by omega
        cases R9 with
        | none =>
          have HSN : Hid (RR = chooseL (chooseF (okBut l0 l1 l2) l2.length f) s g1' (m + 1)) := by
            refine Lib.hid ?_
            rw [HS.out]
            show (match chooseF (okBut l0 l1 l2) l2.length f (s ++ [(m : Int)]) with | some l => some l | none => _) = _
            rw [← hR9]
          clear hR9
          go_upto_region 10 with fail
          have hBP : Below wr.heap.size wr wr.drew := by repeat (first | exact Below.refl _ _ | refine Below.alloc ?_ (by simp <;> omega) _ | refine Below.setCell ?_ (by simp <;> omega) _ | apply Below.drew)
          have HG2D := Lib.hid (blk_below HG2R.out hBP)
          have HBD := Lib.hid (HBR.out.trans (below_weaken hBP HBR.out.size))
          have HN9 := Lib.hid (HN9.out m)
          clear hBP
          refine start_ (n := 15) (S := fun w' => w'.cell? ⟨g2, 0, none⟩ = some (.func (.func 102) #[] #[.pointer (some ⟨g1, 0, none⟩), .pointer (some ⟨g2, 0, none⟩)])) (ds := []) #[false, false, false, false, false, false, false, false, false, false, false, false, false, false, false] (by kernel_rfl) rfl rfl ((blk_cell HG2D.out 0).trans rfl) (fun hHeld => ?_)
          refine pu_ 1 (some 43) ?_
          refine pu_ 2 (some 44) ?_
          refine pu_ 3 (some 45) ?_
          refine pu_ 4 (some 46) ?_
          refine pu_ 5 (some 47) ?_
          refine pu_ 8 (some 50) ?_
          refine take_ (i := 0) (N := some 42) (v := ?_) (a' := ?_) #[true, true, true, true, true, true, false, false, true, false, false, false, false, false, false] rfl rfl (by kernel_rfl) (fun _ _ _ h => h) (Or.inl ⟨by rfl, ?_⟩) hHeld ?_ ?_
          rotate_left
          · intro w' s0
            go_simp
            with_reducible rfl
          rotate_left
          · simp only [Act.put, List.setIfInBounds_toArray, List.set_cons_zero, List.set_cons_succ, i64_w, i32_w]
            rfl
          refine one_ (i := 6) (N := some 48) #[true, true, true, true, true, true, true, false, true, false, false, false, false, false, false] rfl rfl (by kernel_rfl) (by decide) (fun K hK => ?_)
          refine value_ (w1 := ?_) (v := ?_) (by rfl) rfl ?_ ?_
          rotate_left 2
          · go_simp
            constructor
            · rfl
            · rfl
          have h2a := blk_alloc HG2D.out (.cells #[.int .i64 (m : Int)] 3)
          have hnw := blk_new wr.drew (.cells #[.int .i64 (m : Int)] 3)
          have HHA := Lib.hid (HBD.out.alloc HBD.out.size (.cells #[.int .i64 (m : Int)] 3))
          refine hK.out _ _ ((blk_cell h2a 0).trans rfl) (fun hHeld => ?_)
          clear hK K
          refine no_ 48 ?_
          refine one_ (i := 7) (N := some 49) #[true, true, true, true, true, true, true, true, true, false, false, false, false, false, false] rfl rfl (by kernel_rfl) (by decide) (fun K hK => ?_)
          refine step_append_grows rfl (.tmp 46) (.tmp 48) 45 (by rfl) 3 i3 _ 1 8 Tryd.underlying45 hi3 hz0 hz1 hz2 rfl (by decide) (some ⟨b, o, none⟩) (j + 1) (j + 1) (s.flatMap eI) (by rfl) (fun h => by cases h) (by rw [flat_length eI_len s, HN8.out]) (HFLAT.out _ HHA.out) ⟨wr.drew.heap.size, 0, none⟩ 1 1 [.int .i64 (m : Int)] (by rfl) rfl ?aC ?aO (by omega) (by unfold maxLen; omega) (by omega) ?_
          (case aC => exact fun j u hj => (cell_add hnw j).trans (by simpa using hj))
          (case aO => exact fun u hu => by simp at hu; rcases hu with rfl; rfl)
          intro v6 w9 ho9 hg9
          have h29 := (hg9.block _ (blk_lt h2a) (by simp)).trans h2a
          have HB9 := Lib.hid (HHA.out.grown hg9 (by have := HHA.out.size; omega) (fun j ej => by simp at ej))
          rw [show s.flatMap eI ++ [.int .i64 (m : Int)] = (s ++ [(m : Int)]).flatMap eI by simp [eI]] at ho9
          obtain ⟨eL, A9, c9, ev, hF9, hc9⟩ := frow_own' eI_len (by decide) ho9
          clear eL
          rw [HN9.out] at ev hc9
          subst ev
          have HC9 := Lib.hid hc9
          have HF9 := Lib.hid hF9
          clear hc9 hF9 ho9 hg9 hnw
          refine hK.out _ _ ((blk_cell h29 0).trans rfl) (fun hHeld => ?_)
          clear hK K
          refine no_ 49 ?_
          refine one_ (i := 9) (N := some 51) #[true, true, true, true, true, true, true, true, true, true, false, false, false, false, false] rfl rfl (by kernel_rfl) (by decide) (fun K hK => ?_)
          refine goesV_ Tryd.func102 (by kernel_rfl) rfl #[.slice A9 n9 c9, .int .i64 (many : Int), .pointer (some ⟨g1, 0, none⟩), .pointer (some ⟨g2, 0, none⟩)] #[] #[.pointer (some ⟨g1, 0, none⟩), .pointer (some ⟨g2, 0, none⟩)] (by rfl) rfl rfl rfl (by simp only [List.map_toArray, List.map_cons, List.map_nil]; rfl) ?_
          refine (HIH.out _ A9 c9 HB9.out HF9.out HC9.out).mono ?_
          rintro e w10 ⟨v, rfl, hP, hb⟩
          refine ⟨_, rfl, ?_⟩
          have h210 := blk_below h29 hb
          have HB10 := Lib.hid (HB9.out.trans (below_weaken hb HB9.out.size))
          have HP := Lib.hid hP
          clear hP hb
          refine hK.out _ _ ((blk_cell h210 0).trans rfl) (fun hHeld => ?_)
          clear hK K
          refine no_ 51 ?_
          refine pu_ 10 (some 41) ?_
          refine pu_ 11 (some 52) ?_
          refine pu_ 12 (some 53) ?_
          refine pu_ 13 (some 11) ?_
          refine pu_ 14 (some 12) ?_
          refine done_ (by kernel_rfl) ?_

          go_wp2
          go_roundg g1'
          case measure => omega
          case rel => exact ⟨m + 1, by go_num, ⟨by have := HK.out; omega⟩, ⟨HSN.out⟩, ⟨h210⟩, ⟨blk_below HG1.out HB10.out⟩, ⟨HB10.out⟩⟩
        | some L =>
          have HSS : Hid (RR = some L) := by
            refine Lib.hid ?_
            rw [HS.out]
            show (match chooseF (okBut l0 l1 l2) l2.length f (s ++ [(m : Int)]) with | some l => some l | none => _) = _
            rw [← hR9]
          have HIS : Hid (RR.isSome = true) := Lib.hid (by rw [HSS.out]; rfl)
          clear hR9
          go_upto_region 10 with fail
          have hBP : Below wr.heap.size wr wr.drew := by repeat (first | exact Below.refl _ _ | refine Below.alloc ?_ (by simp <;> omega) _ | refine Below.setCell ?_ (by simp <;> omega) _ | apply Below.drew)
          have HG2D := Lib.hid (blk_below HG2R.out hBP)
          have HBD := Lib.hid (HBR.out.trans (below_weaken hBP HBR.out.size))
          have HN9 := Lib.hid (HN9.out m)
          clear hBP
          refine start_ (n := 15) (S := fun w' => w'.cell? ⟨g2, 0, none⟩ = some (.func (.func 102) #[] #[.pointer (some ⟨g1, 0, none⟩), .pointer (some ⟨g2, 0, none⟩)])) (ds := []) #[false, false, false, false, false, false, false, false, false, false, false, false, false, false, false] (by kernel_rfl) rfl rfl ((blk_cell HG2D.out 0).trans rfl) (fun hHeld => ?_)
          refine pu_ 1 (some 43) ?_
          refine pu_ 2 (some 44) ?_
          refine pu_ 3 (some 45) ?_
          refine pu_ 4 (some 46) ?_
          refine pu_ 5 (some 47) ?_
          refine pu_ 8 (some 50) ?_
          refine take_ (i := 0) (N := some 42) (v := ?_) (a' := ?_) #[true, true, true, true, true, true, false, false, true, false, false, false, false, false, false] rfl rfl (by kernel_rfl) (fun _ _ _ h => h) (Or.inl ⟨by rfl, ?_⟩) hHeld ?_ ?_
          rotate_left
          · intro w' s0
            go_simp
            with_reducible rfl
          rotate_left
          · simp only [Act.put, List.setIfInBounds_toArray, List.set_cons_zero, List.set_cons_succ, i64_w, i32_w]
            rfl
          refine one_ (i := 6) (N := some 48) #[true, true, true, true, true, true, true, false, true, false, false, false, false, false, false] rfl rfl (by kernel_rfl) (by decide) (fun K hK => ?_)
          refine value_ (w1 := ?_) (v := ?_) (by rfl) rfl ?_ ?_
          rotate_left 2
          · go_simp
            constructor
            · rfl
            · rfl
          have h2a := blk_alloc HG2D.out (.cells #[.int .i64 (m : Int)] 3)
          have hnw := blk_new wr.drew (.cells #[.int .i64 (m : Int)] 3)
          have HHA := Lib.hid (HBD.out.alloc HBD.out.size (.cells #[.int .i64 (m : Int)] 3))
          refine hK.out _ _ ((blk_cell h2a 0).trans rfl) (fun hHeld => ?_)
          clear hK K
          refine no_ 48 ?_
          refine one_ (i := 7) (N := some 49) #[true, true, true, true, true, true, true, true, true, false, false, false, false, false, false] rfl rfl (by kernel_rfl) (by decide) (fun K hK => ?_)
          refine step_append_grows rfl (.tmp 46) (.tmp 48) 45 (by rfl) 3 i3 _ 1 8 Tryd.underlying45 hi3 hz0 hz1 hz2 rfl (by decide) (some ⟨b, o, none⟩) (j + 1) (j + 1) (s.flatMap eI) (by rfl) (fun h => by cases h) (by rw [flat_length eI_len s, HN8.out]) (HFLAT.out _ HHA.out) ⟨wr.drew.heap.size, 0, none⟩ 1 1 [.int .i64 (m : Int)] (by rfl) rfl ?aC ?aO (by omega) (by unfold maxLen; omega) (by omega) ?_
          (case aC => exact fun j u hj => (cell_add hnw j).trans (by simpa using hj))
          (case aO => exact fun u hu => by simp at hu; rcases hu with rfl; rfl)
          intro v6 w9 ho9 hg9
          have h29 := (hg9.block _ (blk_lt h2a) (by simp)).trans h2a
          have HB9 := Lib.hid (HHA.out.grown hg9 (by have := HHA.out.size; omega) (fun j ej => by simp at ej))
          rw [show s.flatMap eI ++ [.int .i64 (m : Int)] = (s ++ [(m : Int)]).flatMap eI by simp [eI]] at ho9
          obtain ⟨eL, A9, c9, ev, hF9, hc9⟩ := frow_own' eI_len (by decide) ho9
          clear eL
          rw [HN9.out] at ev hc9
          subst ev
          have HC9 := Lib.hid hc9
          have HF9 := Lib.hid hF9
          clear hc9 hF9 ho9 hg9 hnw
          refine hK.out _ _ ((blk_cell h29 0).trans rfl) (fun hHeld => ?_)
          clear hK K
          refine no_ 49 ?_
          refine one_ (i := 9) (N := some 51) #[true, true, true, true, true, true, true, true, true, true, false, false, false, false, false] rfl rfl (by kernel_rfl) (by decide) (fun K hK => ?_)
          refine goesV_ Tryd.func102 (by kernel_rfl) rfl #[.slice A9 n9 c9, .int .i64 (many : Int), .pointer (some ⟨g1, 0, none⟩), .pointer (some ⟨g2, 0, none⟩)] #[] #[.pointer (some ⟨g1, 0, none⟩), .pointer (some ⟨g2, 0, none⟩)] (by rfl) rfl rfl rfl (by simp only [List.map_toArray, List.map_cons, List.map_nil]; rfl) ?_
          refine (HIH.out _ A9 c9 HB9.out HF9.out HC9.out).mono ?_
          rintro e w10 ⟨v, rfl, hP, hb⟩
          refine ⟨_, rfl, ?_⟩
          have h210 := blk_below h29 hb
          have HB10 := Lib.hid (HB9.out.trans (below_weaken hb HB9.out.size))
          have HP := Lib.hid hP
          clear hP hb
          refine hK.out _ _ ((blk_cell h210 0).trans rfl) (fun hHeld => ?_)
          clear hK K
          refine no_ 51 ?_
          refine pu_ 10 (some 41) ?_
          refine pu_ 11 (some 52) ?_
          refine pu_ 12 (some 53) ?_
          refine pu_ 13 (some 11) ?_
          refine pu_ 14 (some 12) ?_
          refine done_ (by kernel_rfl) ?_

          go_wp2
          go_ret2
          exact ⟨_, by rw [HIS.out]; rfl, by rw [HSS.out]; exact HP.out, HB10.out⟩
end Go.Proofs.YthgjedagbgmgmaaDoor.Pr
namespace Go.Proofs.YthgjedagbgmgmaaDoor.Pr
open Go.RowKit Go.Proofs.YthgjedagbgmgmaaDoorW.PrintWords Go.Proofs.YthgjedagbgmgmaaDoorW.PrintLast Go.Proofs.YthgjedagbgmgmaaDoorW.PrintMore
set_option linter.unusedVariables false
set_option linter.unusedSimpArgs false
theorem choose_calls (g1 g2 : Nat) (A0 A1 A2 : Option Addr) (c0 c1 c2 : Nat) (l0 : List S92) (l1 : List S90) (l2 : List S43) (w0 : World) (hG : GOK w0) (hr0 : FRow e92 2 w0 A0 l0) (hc0 : l0.length ≤ c0) (hr1 : FRow e90 3 w0 A1 l1) (hr2 : FRow e43 2 w0 A2 l2) (hc2 : l2.length ≤ c2) (hok : okBook l0 l1 l2 = true)
    (hg1 : w0.heap[g1]? = some (.cells #[.slice A0 l0.length c0, .slice A1 l1.length c1, .slice A2 l2.length c2] 26 (0, 0))) (hg2 : w0.heap[g2]? = some (.cells #[.func (.func 102) #[] #[.pointer (some ⟨g1, 0, none⟩), .pointer (some ⟨g2, 0, none⟩)]] 146 (0, 0))) (f : Nat) : ∀ (many : Nat) (W : World) (A : Option Addr) (c : Nat) (s : List Int), Below w0.heap.size w0 W → FRow eI 1 W A s → s.length ≤ c → s.length + f = many → many ≤ 4 → (∀ x ∈ s, 0 ≤ x ∧ x < (l2.length : Int)) →
      Calls Tryd.prog 102 #[.slice A s.length c, .int .i64 (many : Int), .pointer (some ⟨g1, 0, none⟩), .pointer (some ⟨g2, 0, none⟩)] W fun e w' => ∃ v, e = .returned (.tuple #[v, .bool (chooseF (okBut l0 l1 l2) l2.length f s).isSome]) ∧ ChP (chooseF (okBut l0 l1 l2) l2.length f s) v w' ∧ Below W.heap.size W w' := by
  induction f with
  | zero =>
    intro many W A c s hB hF hc hm hm4 hx
    obtain rfl : s.length = many := by omega
    exact choose0_calls g1 g2 A0 A1 A2 c0 c1 c2 l0 l1 l2 w0 hG hr0 hc0 hr1 hr2 hc2 hok hg1 hg2 W A c s hB hF hc hm4
  | succ f ih =>
    intro many W A c s hB hF hc hm hm4 hx
    exact choose_step g1 g2 A0 A1 A2 c0 c1 c2 l0 l1 l2 w0 hG hr0 hc0 hr1 hr2 hc2 hok hg1 hg2 f many (ih many) W A c s hB hF hc hm hm4 hx
/-- The looks that must be wrong. -/
def wrongF (ls : List S92) (ds : List S90) (ks : List S43) : List Int × Int := if okBook ls ds ks then ((chooseAll (okBut ls ds ks) ks.length (ks.length + 1) 0).getD [], 0) else ([], 70)
def SliceOf (L : List Int) (v : Value) (W : World) : Prop := ∃ A c, v = .slice A L.length c ∧ FRow eI 1 W A L ∧ L.length ≤ c
set_option maxHeartbeats 4000000 in
set_option maxRecDepth 100000 in
theorem wrong_calls (A0 A1 A2 : Option Addr) (c0 c1 c2 : Nat) (l0 : List S92) (l1 : List S90) (l2 : List S43) (w : World) (hG : GOK w) (hr0 : Kd.C k92 w A0 l0.length l0) (hc0 : l0.length ≤ c0) (hr1 : Kd.C k90 w A1 l1.length l1) (hc1 : l1.length ≤ c1) (hr2 : Kd.C k43 w A2 l2.length l2) (hc2 : l2.length ≤ c2) :
    Calls Tryd.prog 40 #[.agg #[.slice A0 l0.length c0, .slice A1 l1.length c1, .slice A2 l2.length c2]] w fun e w' => ∃ v, e = .returned (.tuple #[v, .int .i64 (wrongF l0 l1 l2).2]) ∧ SliceOf (wrongF l0 l1 l2).1 v w' ∧ Below w.heap.size w w' := by
  have h0 : (l0.length : Int) ≤ 9223372036854775807 := by have := hr0.2.1; omega
  have h1 : (l1.length : Int) ≤ 9223372036854775807 := by have := hr1.2.1; omega
  have h2 : (l2.length : Int) ≤ 9223372036854775807 := by have := hr2.2.1; omega
  obtain ⟨ok, hok⟩ : ∃ b, b = okBook l0 l1 l2 := ⟨_, rfl⟩
  have HCC : ∀ W, Below w.heap.size w W → Calls Tryd.prog 19 #[.agg #[.slice A0 l0.length c0, .slice A1 l1.length c1, .slice A2 l2.length c2]] W fun e w' => e = .returned (.int .i64 (if ok then 0 else 70)) ∧ Below W.heap.size W w' := by
    intro W hW
    rw [hok]
    exact check_calls A0 A1 A2 c0 c1 c2 l0 l1 l2 W (Kd.C_below hr0 hW) hc0 (Kd.C_below hr1 hW) hc1 (Kd.C_below hr2 hW) hc2 h0 h1 h2
  unfold wrongF
  rw [← hok]
  have HOK := Lib.hid hok
  have HG := Lib.hid hG
  have H0 := Lib.hid (row92 hr0)
  have H1 := Lib.hid (row90 hr1)
  have H2 := Lib.hid (row43 hr2)
  clear hok hG hr0 hr1 hr2 h0 h1 h2
  cases ok
  · simp only [Bool.false_eq_true, if_false] at HCC ⊢
    go_enter Tryd.func40, Tryd.ntmps40
    go_wp2_with (go_at_call 19; refine (HCC _ ?hw).mono ?_; (case hw => exact by repeat (first | exact Below.refl _ _ | refine Below.alloc ?_ (by simp <;> omega) _ | refine Below.setCell ?_ (by simp <;> omega) _ | apply Below.drew)); rintro e w1 ⟨rfl, hB1⟩)
    go_ret2
    exact ⟨_, rfl, ⟨none, 0, rfl, .inl rfl, Nat.le_refl _⟩, ((Below.refl w.heap.size w).alloc (Nat.le_refl _) _).trans (below_weaken hB1 (by simp))⟩
  · simp only [if_true] at HCC ⊢
    have hl24 : l2.length ≤ 4 := (ok_facts HOK.out.symm).2.2.2.2.1
    obtain ⟨RR, hRR⟩ : ∃ R, R = chooseAll (okBut l0 l1 l2) l2.length (l2.length + 1) 0 := ⟨_, rfl⟩
    rw [← hRR]
    have HRR := Lib.hid hRR
    clear hRR
    obtain ⟨RD, hRD⟩ : ∃ R, R = RR.getD [] := ⟨_, rfl⟩
    rw [← hRD]
    have HRD := Lib.hid hRD
    clear hRD
    go_enter Tryd.func40, Tryd.ntmps40
    go_wp2_with fail
    refine (HCC _ ?hw).mono ?_
    (case hw => exact by repeat (first | exact Below.refl _ _ | refine Below.alloc ?_ (by simp <;> omega) _ | refine Below.setCell ?_ (by simp <;> omega) _ | apply Below.drew))
    rintro e w1 ⟨rfl, hB1⟩
    have hg1 : w1.heap[w.heap.size]? = some (.cells #[.slice A0 l0.length c0, .slice A1 l1.length c1, .slice A2 l2.length c2] 26 (0, 0)) := blk_below (blk_new w _) hB1
    have HG1 := Lib.hid hg1
    have k2 := (blk_cell hg1 2).trans rfl
    have l1' := blk_lt hg1
    have HB1 := Lib.hid ((show Below w.heap.size w _ from by repeat (first | exact Below.refl _ _ | refine Below.alloc ?_ (by simp <;> omega) _ | refine Below.setCell ?_ (by simp <;> omega) _ | apply Below.drew)).trans (below_weaken hB1 (by simp)))
    have hCH : ∀ (WC : World), Below w1.heap.size w1 WC → WC.heap[w1.heap.size]? = some (.cells #[.func (.func 102) #[] #[.pointer (some ⟨w.heap.size, 0, none⟩), .pointer (some ⟨w1.heap.size, 0, none⟩)]] 146 (0, 0)) → ∀ (many : Nat) (W : World), Below WC.heap.size WC W → many ≤ 4 →
        Calls Tryd.prog 102 #[.slice none 0 0, .int .i64 (many : Int), .pointer (some ⟨w.heap.size, 0, none⟩), .pointer (some ⟨w1.heap.size, 0, none⟩)] W fun e w' => ∃ v, e = .returned (.tuple #[v, .bool (chooseF (okBut l0 l1 l2) l2.length many []).isSome]) ∧ ChP (chooseF (okBut l0 l1 l2) l2.length many []) v w' ∧ Below W.heap.size W w' := by
      intro WC hWC hcl many W hW hm4
      have hww := HB1.out.trans (below_weaken hWC HB1.out.size)
      exact choose_calls w.heap.size w1.heap.size A0 A1 A2 c0 c1 c2 l0 l1 l2 WC (HG.out.below hww) (H0.out.below hww) hc0 (H1.out.below hww) (H2.out.below hww) hc2 HOK.out.symm (blk_below HG1.out hWC) hcl many many W none 0 [] hW (.inl rfl) (Nat.le_refl _) (by simp) hm4 (fun x hx => by simp at hx)
    have HCH := Lib.hid hCH
    clear hg1 hB1 hCH HCC
    go_wp2
    obtain ⟨WC, hWC⟩ : ∃ W, W = w1.alloc (.cells #[.func (.func 102) #[] #[.pointer (some ⟨w.heap.size, 0, none⟩), .pointer (some ⟨w1.heap.size, 0, none⟩)]] 146) := ⟨_, rfl⟩
    rw [← hWC]
    have hBC : Below w1.heap.size w1 WC := by rw [hWC]; exact by repeat (first | exact Below.refl _ _ | refine Below.alloc ?_ (by simp <;> omega) _ | refine Below.setCell ?_ (by simp <;> omega) _ | apply Below.drew)
    have HCL := Lib.hid (show WC.heap[w1.heap.size]? = some (.cells #[.func (.func 102) #[] #[.pointer (some ⟨w.heap.size, 0, none⟩), .pointer (some ⟨w1.heap.size, 0, none⟩)]] 146 (0, 0)) by rw [hWC]; exact blk_new _ _)
    have HCHW := Lib.hid (HCH.out WC hBC HCL.out)
    have HBC := Lib.hid (HB1.out.trans (below_weaken hBC HB1.out.size))
    clear hWC hBC HCH k2
    go_loopg [19] (l2.length + 1) (fun gk v19 wr => ∃ (k : Nat), v19 = .int .i64 k ∧ Aside0 (k + gk = l2.length + 1) ∧ Aside0 (RR = chooseAll (okBut l0 l1 l2) l2.length gk k) ∧ Aside0 (Below WC.heap.size WC wr))
    case atStart => exact ⟨0, rfl, ⟨by omega⟩, ⟨HRR.out⟩, ⟨Below.refl _ _⟩⟩
    case round =>
      obtain ⟨k, rfl, HK, HS, HBR⟩ := hrel
      cases gk with
      | zero =>
        have hge : ¬ (k : Int) < (l2.length : Int) + 1 := by have := HK.out; omega
        have HNO : Hid (RD = []) := Lib.hid (by rw [HRD.out, HS.out]; rfl)
        go_wp2
        go_ret2
        exact ⟨_, rfl, by rw [HNO.out]; exact ⟨none, 0, rfl, .inl rfl, Nat.le_refl _⟩, HBC.out.trans (below_weaken HBR.out HBC.out.size)⟩
      | succ g1 =>
        have hlt : (k : Int) < (l2.length : Int) + 1 := by have := HK.out; omega
        have hk4 : k ≤ 4 := by omega
        have hclc := (blk_cell (blk_below HCL.out HBR.out) 0).trans rfl
        obtain ⟨R9, hR9⟩ : ∃ R, R = chooseF (okBut l0 l1 l2) l2.length k [] := ⟨_, rfl⟩
        have HIH := Lib.hid (HCHW.out k wr HBR.out hk4)
        rw [← hR9] at HIH
        cases R9 with
        | none =>
          have HSN : Hid (RR = chooseAll (okBut l0 l1 l2) l2.length g1 (k + 1)) := by
            refine Lib.hid ?_
            rw [HS.out]
            show (match chooseF (okBut l0 l1 l2) l2.length k [] with | some l => some l | none => _) = _
            rw [← hR9]
          clear hR9
          go_wp2_with fail
          refine HIH.out.mono ?_
          rintro e w9 ⟨v, rfl, _, hB9⟩
          have HB9 := Lib.hid (HBR.out.trans (below_weaken hB9 HBR.out.size))
          clear hB9 hclc
          go_wp2
          go_roundg g1
          case measure => omega
          case rel => exact ⟨k + 1, by go_num, ⟨by have := HK.out; omega⟩, ⟨HSN.out⟩, ⟨HB9.out⟩⟩
        | some L =>
          have HSS : Hid (RD = L) := by
            refine Lib.hid ?_
            rw [HRD.out, HS.out]
            show (match chooseF (okBut l0 l1 l2) l2.length k [] with | some l => some l | none => _).getD [] = _
            rw [← hR9]
            rfl
          clear hR9
          go_wp2_with fail
          refine HIH.out.mono ?_
          rintro e w9 ⟨v, rfl, hP, hB9⟩
          obtain ⟨A9, c9, rfl, hF9, hc9⟩ := hP L rfl
          have HB9 := Lib.hid (HBR.out.trans (below_weaken hB9 HBR.out.size))
          have HF9 := Lib.hid hF9
          have hcI : ((L.length : Int) ≤ (c9 : Int)) = True := eq_true (by omega)
          clear hB9 hclc hF9 hP hc9
          go_wp2
          go_ret2
          exact ⟨_, rfl, by rw [HSS.out]; exact ⟨A9, L.length, rfl, HF9.out, Nat.le_refl _⟩, HBC.out.trans (below_weaken HB9.out HBC.out.size)⟩
end Go.Proofs.YthgjedagbgmgmaaDoor.Pr
namespace Go.Proofs.YthgjedagbgmgmaaDoor.Pr
open Go.RowKit Go.Proofs.YthgjedagbgmgmaaDoorW.PrintWords Go.Proofs.YthgjedagbgmgmaaDoorW.PrintLast Go.Proofs.YthgjedagbgmgmaaDoorW.PrintMore
attribute [local go_sem] max2_int min2_int max_two min_two -- for this text's walks alone
set_option linter.unusedVariables false
set_option linter.unusedSimpArgs false
def macadamref00_Reach.f (a0 : Int) (a1 : Int) : Option (Int × Int) := some (a0, a1)
set_option maxHeartbeats 8000000 in
set_option maxRecDepth 100000 in
theorem macadamref00_Reach.calls (a0 : Int) (a1 : Int) (r1 : Int) (r2 : Int) (w : World) (h : macadamref00_Reach.f a0 a1 = some (r1, r2)) :
    Calls Tryd.prog 55 #[.int .i64 a0, .int .i64 a1] w fun e w' => e = .returned (.agg #[.int .i64 r1, .int .i64 r2]) ∧ Below w.heap.size w w' := by
  have hu32 := Tryd.underlying32
  have HB := Aside0.mk (Below.refl w.heap.size w)
  have H : (some (a0, a1)) = some (r1, r2) := h
  clear h
  simp only [Option.some.injEq, Prod.mk.injEq] at H
  obtain ⟨rfl, rfl⟩ := H
  go_enter Tryd.func55, Tryd.ntmps55
  go_wp2_with (first | ((with_reducible refine gate_dst (N := 4) rfl ?_); refine box_event ?hg (N := 4) ?hd (cs := #[.int .i64 0, .int .i64 0]) (t := 32) ?hr ?_; (case hd => rfl); (case hg => rfl); (case hr => first | (go_simp; done) | (go_simp; rfl)); intro gb121 hg w3 hbox hb; have n0_ := Aside0.mk (below_step (by repeat (first | (with_reducible first | exact HB.out | apply below_alloc | apply pw_below_drewN | apply below_drew1) | exact HB.out)) hb); have n1_ := Aside0.mk (hbox); have n2_ := Aside0.mk ((by rw [hg]; exact (below_size (by repeat (first | (with_reducible first | exact HB.out | apply below_alloc | apply pw_below_drewN | apply below_drew1) | exact HB.out))) : w.heap.size ≤ gb121)); have n3_ := Aside0.mk ((by rw [hg]; exact (below_size (by repeat (first | (with_reducible first | exact HB.out | apply below_alloc | apply pw_below_drewN | apply below_drew1) | exact HB.out))) : w.heap.size ≤ gb121)); clear HB; have HB := n0_; have BK121 := n1_; have GW121 := n2_; have GE121 := n3_; clear n0_ n1_ n2_ n3_; clear hb hbox hg; have hcz4_0 : w3.cell? ⟨gb121, 0, none⟩ = some (.int .i64 0) := (blk_cell BK121.out 0).trans rfl; have hcz4_1 : w3.cell? ⟨gb121, 1, none⟩ = some (.int .i64 0) := (blk_cell BK121.out 1).trans rfl; have hfz4_0 := blk_frozen BK121.out 0; have hfz4_1 := blk_frozen BK121.out 1))
  refine bodyPost_ret (results_cell_row rfl _ _ gb121 32 #[.int .i64 a0, .int .i64 a1] (0, 0) _ rfl (by (with_reducible repeat (first | refine blk_drewN ?_ _ | refine blk_drew ?_ | refine blk_alloc ?_ _)); refine blk_put (cs := #[.int .i64 a0, .int .i64 0]) ?_ 1 _ rfl; (with_reducible repeat (first | refine blk_drewN ?_ _ | refine blk_drew ?_ | refine blk_alloc ?_ _)); refine blk_put (cs := #[.int .i64 0, .int .i64 0]) ?_ 0 _ rfl; (with_reducible repeat (first | refine blk_drewN ?_ _ | refine blk_drew ?_ | refine blk_alloc ?_ _)); exact BK121.out) Tryd.underlying32 rfl (by kernel_rfl)) rfl ?_
  exact ⟨by first | rfl | exact congrArg (fun b_ => Ending.returned (.bool b_)) HT.out | (simp [errW_none, errW_some] <;> rfl) | (simp [*, errW_none, errW_some] <;> rfl), by repeat (first | (with_reducible first | exact HB.out | apply below_alloc | apply pw_below_drewN | apply below_drew1 | refine below_set ?_ GE121.out) | exact HB.out)⟩
def macadamlaw07_day.f (a0 : Int) (a1 : Int) (a2 : Int) : Option (Int × Int × Int) := (macadamref00_Reach.f a0 a1).bind fun bt123 => (some (bt123.1, bt123.2, a2))
set_option maxHeartbeats 8000000 in
set_option maxRecDepth 100000 in
theorem macadamlaw07_day.calls (a0 : Int) (a1 : Int) (a2 : Int) (r1 : Int) (r2 : Int) (r3 : Int) (w : World) (h : macadamlaw07_day.f a0 a1 a2 = some (r1, r2, r3)) :
    Calls Tryd.prog 120 #[.int .i64 a0, .int .i64 a1, .int .i64 a2] w fun e w' => e = .returned (.agg #[.int .i64 r1, .int .i64 r2, .int .i64 r3]) ∧ Below w.heap.size w w' := by
  have hu90 := Tryd.underlying90
  have HB := Aside0.mk (Below.refl w.heap.size w)
  have H : ((macadamref00_Reach.f a0 a1).bind fun bt123 => (some (bt123.1, bt123.2, a2))) = some (r1, r2, r3) := h
  clear h
  replace H := Option.bind_eq_some_iff.mp H
  obtain ⟨⟨t123, t124⟩, A40, H⟩ := H
  replace H : (some (t123, t124, a2)) = some (r1, r2, r3) := H
  have A4 := Aside0.mk A40
  clear A40
  simp only [Option.some.injEq, Prod.mk.injEq] at H
  obtain ⟨rfl, rfl, rfl⟩ := H
  go_enter Tryd.func120, Tryd.ntmps120
  go_wp2_with (first | ((with_reducible refine gate_dst (N := 6) rfl ?_); refine box_event ?hg (N := 6) ?hd (cs := #[.int .i64 0, .int .i64 0, .int .i64 0]) (t := 90) ?hr ?_; (case hd => rfl); (case hg => rfl); (case hr => first | (go_simp; done) | (go_simp; rfl)); intro gb122 hg w5 hbox hb; have n0_ := Aside0.mk (below_step (by repeat (first | (with_reducible first | exact HB.out | apply below_alloc | apply pw_below_drewN | apply below_drew1) | exact HB.out)) hb); have n1_ := Aside0.mk (hbox); have n2_ := Aside0.mk ((by rw [hg]; exact (below_size (by repeat (first | (with_reducible first | exact HB.out | apply below_alloc | apply pw_below_drewN | apply below_drew1) | exact HB.out))) : w.heap.size ≤ gb122)); have n3_ := Aside0.mk ((by rw [hg]; exact (below_size (by repeat (first | (with_reducible first | exact HB.out | apply below_alloc | apply pw_below_drewN | apply below_drew1) | exact HB.out))) : w.heap.size ≤ gb122)); clear HB; have HB := n0_; have BK122 := n1_; have GW122 := n2_; have GE122 := n3_; clear n0_ n1_ n2_ n3_; clear hb hbox hg) | ((with_reducible refine gate_callee (f := 55) rfl ?_); refine goesL_ (some 9) rfl rfl Tryd.func55 (by kernel_rfl) rfl #[.int .i64 a0, .int .i64 a1] rfl (by (try simp only [List.map_toArray, List.map_cons, List.map_nil]); first | done | rfl | (simp only [List.length_drop, List.length_take]; rfl)) ?_; (with_reducible refine (macadamref00_Reach.calls a0 a1 t123 t124 _ A4.out).mono ?_); rintro e w6 ⟨rfl, hb⟩; refine ⟨_, rfl, ?_⟩; have n0_ := Aside0.mk (blk_below (g := gb122) (o := .cells #[.int .i64 0, .int .i64 0, .int .i64 0] 90 (0, 0)) (by (with_reducible repeat (first | refine blk_drewN ?_ _ | refine blk_drew ?_ | refine blk_alloc ?_ _)); exact BK122.out) hb); have n1_ := Aside0.mk (below_step (by repeat (first | (with_reducible first | exact HB.out | apply below_alloc | apply pw_below_drewN | apply below_drew1 | refine below_set ?_ GE122.out) | exact HB.out)) hb); clear BK122; clear HB; have BK122 := n0_; have HB := n1_; clear n0_ n1_; (try clear hb); (try clear hb2); (try clear hk); (try clear hi); have hcz7_0 : w6.cell? ⟨gb122, 0, none⟩ = some (.int .i64 0) := (blk_cell BK122.out 0).trans rfl; have hcz7_1 : w6.cell? ⟨gb122, 1, none⟩ = some (.int .i64 0) := (blk_cell BK122.out 1).trans rfl; have hcz7_2 : w6.cell? ⟨gb122, 2, none⟩ = some (.int .i64 0) := (blk_cell BK122.out 2).trans rfl; have hfz7_0 := blk_frozen BK122.out 0; have hfz7_1 := blk_frozen BK122.out 1; have hfz7_2 := blk_frozen BK122.out 2))
  refine bodyPost_ret (results_cell_row rfl _ _ gb122 90 #[.int .i64 t123, .int .i64 t124, .int .i64 a2] (0, 0) _ rfl (by (with_reducible repeat (first | refine blk_drewN ?_ _ | refine blk_drew ?_ | refine blk_alloc ?_ _)); refine blk_put (cs := #[.int .i64 t123, .int .i64 t124, .int .i64 0]) ?_ 2 _ rfl; (with_reducible repeat (first | refine blk_drewN ?_ _ | refine blk_drew ?_ | refine blk_alloc ?_ _)); refine blk_put (cs := #[.int .i64 t123, .int .i64 0, .int .i64 0]) ?_ 1 _ rfl; (with_reducible repeat (first | refine blk_drewN ?_ _ | refine blk_drew ?_ | refine blk_alloc ?_ _)); refine blk_put (cs := #[.int .i64 0, .int .i64 0, .int .i64 0]) ?_ 0 _ rfl; (with_reducible repeat (first | refine blk_drewN ?_ _ | refine blk_drew ?_ | refine blk_alloc ?_ _)); exact BK122.out) Tryd.underlying90 rfl (by kernel_rfl)) rfl ?_
  exact ⟨by first | rfl | exact congrArg (fun b_ => Ending.returned (.bool b_)) HT.out | (simp [errW_none, errW_some] <;> rfl) | (simp [*, errW_none, errW_some] <;> rfl), by repeat (first | (with_reducible first | exact HB.out | apply below_alloc | apply pw_below_drewN | apply below_drew1 | refine below_set ?_ GE122.out) | exact HB.out)⟩
def macadamlaw07_book.f (l0 : List (S43)) : Option ((List (S92)) × (List (S90)) × (List (S43))) := (macadamlaw07_day.f 3 4 2).bind fun bt129 => ((macadamlaw07_day.f 2 3 3).bind fun bt132 => ((macadamlaw07_day.f 3 3 6).bind fun bt135 => ((macadamlaw07_day.f 4 4 2).bind fun bt138 => (some ((([(⟨5, 4⟩ : S92), (⟨4, 3⟩ : S92)] : List (S92))), (([(⟨(⟨bt129.1, bt129.2.1⟩ : S32), bt129.2.2⟩ : S90), (⟨(⟨bt132.1, bt132.2.1⟩ : S32), bt132.2.2⟩ : S90), (⟨(⟨bt135.1, bt135.2.1⟩ : S32), bt135.2.2⟩ : S90), (⟨(⟨bt138.1, bt138.2.1⟩ : S32), bt138.2.2⟩ : S90)] : List (S90))), l0)))))
set_option maxHeartbeats 8000000 in
set_option maxRecDepth 100000 in
theorem macadamlaw07_book.calls (P0_ : Nat → Prop) (u9000_ : Value) (l0 : List (S43)) (r1 : List (S92)) (r2 : List (S90)) (r3 : List (S43)) (w0 w : World) (hB : Below w0.heap.size w0 w) (ho0 : Kd.R k43 43 w w0.heap.size P0_ u9000_ l0) (h : macadamlaw07_book.f l0 = some (r1, r2, r3)) :
    Calls Tryd.prog 71 #[u9000_] w fun e w' => ∃ v0_ v1_ v2_ : Value, e = .returned (.agg #[v0_, v1_, v2_]) ∧ Kd.R k92 92 w' w0.heap.size (fun k_ => (P0_ k_ ∨ w.heap.size ≤ k_)) v0_ r1 ∧ Kd.R k90 90 w' w0.heap.size (fun k_ => (P0_ k_ ∨ w.heap.size ≤ k_)) v1_ r2 ∧ Kd.R k43 43 w' w0.heap.size (fun k_ => (P0_ k_ ∨ w.heap.size ≤ k_)) v2_ r3 ∧ Below w0.heap.size w0 w' ∧ Kept w w' (fun k_ => P0_ k_) := by
  have hu26 := Tryd.underlying26
  have hu92 := Tryd.underlying92
  have HO0 := Aside0.mk (show Kd.R k43 43 w w0.heap.size (fun k_ => (P0_ k_ ∨ w.heap.size ≤ k_)) u9000_ l0 from Kd.R_mono ho0 (fun k_ hk => (.inl hk)))
  have HK := Aside0.mk (Kept.refl w (fun k_ => P0_ k_))
  have HW0 := Aside0.mk hB.size
  have HB := Aside0.mk hB
  clear hB
  have H : ((macadamlaw07_day.f 3 4 2).bind fun bt129 => ((macadamlaw07_day.f 2 3 3).bind fun bt132 => ((macadamlaw07_day.f 3 3 6).bind fun bt135 => ((macadamlaw07_day.f 4 4 2).bind fun bt138 => (some ((([(⟨5, 4⟩ : S92), (⟨4, 3⟩ : S92)] : List (S92))), (([(⟨(⟨bt129.1, bt129.2.1⟩ : S32), bt129.2.2⟩ : S90), (⟨(⟨bt132.1, bt132.2.1⟩ : S32), bt132.2.2⟩ : S90), (⟨(⟨bt135.1, bt135.2.1⟩ : S32), bt135.2.2⟩ : S90), (⟨(⟨bt138.1, bt138.2.1⟩ : S32), bt138.2.2⟩ : S90)] : List (S90))), l0)))))) = some (r1, r2, r3) := h
  clear h
  obtain ⟨y126, hy126⟩ : ∃ y_ : List (S92), y_ = (([(⟨5, 4⟩ : S92), (⟨4, 3⟩ : S92)] : List (S92))) := ⟨_, rfl⟩
  replace H : ((macadamlaw07_day.f 3 4 2).bind fun bt129 => ((macadamlaw07_day.f 2 3 3).bind fun bt132 => ((macadamlaw07_day.f 3 3 6).bind fun bt135 => ((macadamlaw07_day.f 4 4 2).bind fun bt138 => (some (y126, (([(⟨(⟨bt129.1, bt129.2.1⟩ : S32), bt129.2.2⟩ : S90), (⟨(⟨bt132.1, bt132.2.1⟩ : S32), bt132.2.2⟩ : S90), (⟨(⟨bt135.1, bt135.2.1⟩ : S32), bt135.2.2⟩ : S90), (⟨(⟨bt138.1, bt138.2.1⟩ : S32), bt138.2.2⟩ : S90)] : List (S90))), l0)))))) = some (r1, r2, r3) := by first | (rw [hy126]; with_reducible exact H) | (have H2_ := (Option.bind_some _ _).symm.trans H; rw [hy126]; with_reducible exact H2_) | (have H2_ := (Option.bind_some _ _).symm.trans H; with_reducible exact H2_) | with_reducible exact H | (rw [hy126]; exact H) | exact H
  have Ny126 := Aside0.mk hy126
  clear hy126
  replace H := Option.bind_eq_some_iff.mp H
  obtain ⟨⟨t129, t130, t131⟩, A20, H⟩ := H
  replace H : ((macadamlaw07_day.f 2 3 3).bind fun bt132 => ((macadamlaw07_day.f 3 3 6).bind fun bt135 => ((macadamlaw07_day.f 4 4 2).bind fun bt138 => (some (y126, (([(⟨(⟨t129, t130⟩ : S32), t131⟩ : S90), (⟨(⟨bt132.1, bt132.2.1⟩ : S32), bt132.2.2⟩ : S90), (⟨(⟨bt135.1, bt135.2.1⟩ : S32), bt135.2.2⟩ : S90), (⟨(⟨bt138.1, bt138.2.1⟩ : S32), bt138.2.2⟩ : S90)] : List (S90))), l0))))) = some (r1, r2, r3) := H
  have A2 := Aside0.mk A20
  clear A20
  replace H := Option.bind_eq_some_iff.mp H
  obtain ⟨⟨t132, t133, t134⟩, A30, H⟩ := H
  replace H : ((macadamlaw07_day.f 3 3 6).bind fun bt135 => ((macadamlaw07_day.f 4 4 2).bind fun bt138 => (some (y126, (([(⟨(⟨t129, t130⟩ : S32), t131⟩ : S90), (⟨(⟨t132, t133⟩ : S32), t134⟩ : S90), (⟨(⟨bt135.1, bt135.2.1⟩ : S32), bt135.2.2⟩ : S90), (⟨(⟨bt138.1, bt138.2.1⟩ : S32), bt138.2.2⟩ : S90)] : List (S90))), l0)))) = some (r1, r2, r3) := H
  have A3 := Aside0.mk A30
  clear A30
  replace H := Option.bind_eq_some_iff.mp H
  obtain ⟨⟨t135, t136, t137⟩, A40, H⟩ := H
  replace H : ((macadamlaw07_day.f 4 4 2).bind fun bt138 => (some (y126, (([(⟨(⟨t129, t130⟩ : S32), t131⟩ : S90), (⟨(⟨t132, t133⟩ : S32), t134⟩ : S90), (⟨(⟨t135, t136⟩ : S32), t137⟩ : S90), (⟨(⟨bt138.1, bt138.2.1⟩ : S32), bt138.2.2⟩ : S90)] : List (S90))), l0))) = some (r1, r2, r3) := H
  have A4 := Aside0.mk A40
  clear A40
  replace H := Option.bind_eq_some_iff.mp H
  obtain ⟨⟨t138, t139, t140⟩, A50, H⟩ := H
  replace H : (some (y126, (([(⟨(⟨t129, t130⟩ : S32), t131⟩ : S90), (⟨(⟨t132, t133⟩ : S32), t134⟩ : S90), (⟨(⟨t135, t136⟩ : S32), t137⟩ : S90), (⟨(⟨t138, t139⟩ : S32), t140⟩ : S90)] : List (S90))), l0)) = some (r1, r2, r3) := H
  have A5 := Aside0.mk A50
  clear A50
  obtain ⟨y141, hy141⟩ : ∃ y_ : List (S90), y_ = (([(⟨(⟨t129, t130⟩ : S32), t131⟩ : S90), (⟨(⟨t132, t133⟩ : S32), t134⟩ : S90), (⟨(⟨t135, t136⟩ : S32), t137⟩ : S90), (⟨(⟨t138, t139⟩ : S32), t140⟩ : S90)] : List (S90))) := ⟨_, rfl⟩
  replace H : (some (y126, y141, l0)) = some (r1, r2, r3) := by first | (rw [hy141]; with_reducible exact H) | (have H2_ := (Option.bind_some _ _).symm.trans H; rw [hy141]; with_reducible exact H2_) | (have H2_ := (Option.bind_some _ _).symm.trans H; with_reducible exact H2_) | with_reducible exact H | (rw [hy141]; exact H) | exact H
  have Ny141 := Aside0.mk hy141
  clear hy141
  simp only [Option.some.injEq, Prod.mk.injEq] at H
  obtain ⟨rfl, rfl, rfl⟩ := H
  go_enter Tryd.func71, Tryd.ntmps71
  go_wp2_with (first | ((with_reducible refine gate_dst (N := 2) rfl ?_); refine box_event ?hg (N := 2) ?hd (cs := #[.slice none 0 0, .slice none 0 0, .slice none 0 0]) (t := 26) ?hr ?_; (case hd => rfl); (case hg => rfl); (case hr => first | (go_simp; done) | (go_simp; rfl)); intro gb125 hg w6 hbox hb; have n0_ := Aside0.mk (Kd.R_below (by (with_reducible repeat (first | apply Kd.R_alloc | apply Kd.R_drewN | apply Kd.R_drew)); exact HO0.out) hb); have n1_ := Aside0.mk (Kept.below (S := (fun k_ => P0_ k_)) (by repeat (first | (with_reducible first | exact HK.out | apply Kept.alloc | apply Kept.drewN | apply Kept.drew) | exact HK.out)) hb); have n2_ := Aside0.mk (below_step (by repeat (first | (with_reducible first | exact HB.out | apply below_alloc | apply pw_below_drewN | apply below_drew1) | exact HB.out)) hb); have n3_ := Aside0.mk (hbox); have n4_ := Aside0.mk ((by rw [hg]; exact (by first | exact HK.out.1 | exact (show Kept w _ (fun k_ => P0_ k_) from by repeat (first | (with_reducible first | exact HK.out | apply Kept.alloc | apply Kept.drewN | apply Kept.drew) | exact HK.out)).1) : w.heap.size ≤ gb125)); have n5_ := Aside0.mk ((by rw [hg]; exact (below_size (by repeat (first | (with_reducible first | exact HB.out | apply below_alloc | apply pw_below_drewN | apply below_drew1) | exact HB.out))) : w0.heap.size ≤ gb125)); clear HO0; clear HK; clear HB; have HO0 := n0_; have HK := n1_; have HB := n2_; have BK125 := n3_; have GW125 := n4_; have GE125 := n5_; clear n0_ n1_ n2_ n3_ n4_ n5_; clear hb hbox hg) | ((with_reducible refine gate_dst (N := 5) rfl ?_); refine Kd.R_lit k92 _ 92 ?hg (N := 5) ?hd (xs := ([(⟨5, 4⟩ : S92), (⟨4, 3⟩ : S92)] : List (S92))) (inner := [.int .i64 5, .int .i64 4, .int .i64 4, .int .i64 3]) (ok := fun _ => True) (okp := fun _ => True) ?hr ?hp (fun _ hk => hk) trivial (Below.refl _ _) (Nat.le_refl _) (by simp) ?_; (case hd => rfl); (case hg => rfl); (case hr => first | (go_simp; done) | (go_simp; rfl)); (case hp => exact (Reps.c2 (show Kd.M k92 _ _ _ (⟨5, 4⟩ : S92) [.int .i64 5, .int .i64 4] from (k92_mkM _ _ _ (⟨5, 4⟩ : S92) )) (Reps.c2 (show Kd.M k92 _ _ _ (⟨4, 3⟩ : S92) [.int .i64 4, .int .i64 3] from (k92_mkM _ _ _ (⟨4, 3⟩ : S92) )) (Reps.none _ _)))); intro v127 w7 ho8 hb hg_ hnew_; clear hg_ hnew_; (first | rw [← Ny126.out] at ho8 | (simp only [Int.reduceToNat] at ho8; rw [← Ny126.out] at ho8)); have n0_ := Aside0.mk (Kd.R_below (by (with_reducible repeat (first | apply Kd.R_alloc | apply Kd.R_drewN | apply Kd.R_drew)); exact HO0.out) hb); have n1_ := Aside0.mk (Kd.R_lower (Kd.R_newM (M := fun k_ => (P0_ k_ ∨ w.heap.size ≤ k_)) ho8 (by first | exact HK.out.1 | exact (show Kept w _ (fun k_ => P0_ k_) from by repeat (first | (with_reducible first | exact HK.out | apply Kept.alloc | apply Kept.drewN | apply Kept.drew | refine Kept.setCell ?_ (.inr GW125.out) _) | exact HK.out)).1) (fun k_ h_ => .inr h_)) (below_size (by repeat (first | (with_reducible first | exact HB.out | apply below_alloc | apply pw_below_drewN | apply below_drew1 | refine below_set ?_ GE125.out) | exact HB.out)))); have n2_ := Aside0.mk (blk_below (g := gb125) (o := .cells #[.slice none 0 0, .slice none 0 0, .slice none 0 0] 26 (0, 0)) (by (with_reducible repeat (first | refine blk_drewN ?_ _ | refine blk_drew ?_ | refine blk_alloc ?_ _)); exact BK125.out) hb); have n3_ := Aside0.mk (Kept.below (S := (fun k_ => P0_ k_)) (by repeat (first | (with_reducible first | exact HK.out | apply Kept.alloc | apply Kept.drewN | apply Kept.drew | refine Kept.setCell ?_ (.inr GW125.out) _) | exact HK.out)) hb); have n4_ := Aside0.mk (below_step (by repeat (first | (with_reducible first | exact HB.out | apply below_alloc | apply pw_below_drewN | apply below_drew1 | refine below_set ?_ GE125.out) | exact HB.out)) hb); clear HO0; clear BK125; clear HK; clear HB; have HO0 := n0_; have HO128 := n1_; have BK125 := n2_; have HK := n3_; have HB := n4_; clear n0_ n1_ n2_ n3_ n4_; clear hb ho8) | ((with_reducible refine gate_callee (f := 120) rfl ?_); refine goesL_ (some 6) rfl rfl Tryd.func120 (by kernel_rfl) rfl #[.int .i64 3, .int .i64 4, .int .i64 2] rfl (by (try simp only [List.map_toArray, List.map_cons, List.map_nil]); first | done | rfl | (simp only [List.length_drop, List.length_take]; rfl)) ?_; (with_reducible refine (macadamlaw07_day.calls 3 4 2 t129 t130 t131 _ A2.out).mono ?_); rintro e w9 ⟨rfl, hb⟩; refine ⟨_, rfl, ?_⟩; have n0_ := Aside0.mk (Kd.R_below (by (with_reducible repeat (first | apply Kd.R_alloc | apply Kd.R_drewN | apply Kd.R_drew)); exact HO0.out) hb); have n1_ := Aside0.mk (Kd.R_below (by (with_reducible repeat (first | apply Kd.R_alloc | apply Kd.R_drewN | apply Kd.R_drew)); exact HO128.out) hb); have n2_ := Aside0.mk (blk_below (g := gb125) (o := .cells #[.slice none 0 0, .slice none 0 0, .slice none 0 0] 26 (0, 0)) (by (with_reducible repeat (first | refine blk_drewN ?_ _ | refine blk_drew ?_ | refine blk_alloc ?_ _)); exact BK125.out) hb); have n3_ := Aside0.mk (Kept.below (S := (fun k_ => P0_ k_)) (by repeat (first | (with_reducible first | exact HK.out | apply Kept.alloc | apply Kept.drewN | apply Kept.drew | refine Kept.setCell ?_ (.inr GW125.out) _) | exact HK.out)) hb); have n4_ := Aside0.mk (below_step (by repeat (first | (with_reducible first | exact HB.out | apply below_alloc | apply pw_below_drewN | apply below_drew1 | refine below_set ?_ GE125.out) | exact HB.out)) hb); clear HO0; clear HO128; clear BK125; clear HK; clear HB; have HO0 := n0_; have HO128 := n1_; have BK125 := n2_; have HK := n3_; have HB := n4_; clear n0_ n1_ n2_ n3_ n4_; (try clear hb); (try clear hb2); (try clear hk); (try clear hi)) | ((with_reducible refine gate_callee (f := 120) rfl ?_); refine goesL_ (some 7) rfl rfl Tryd.func120 (by kernel_rfl) rfl #[.int .i64 2, .int .i64 3, .int .i64 3] rfl (by (try simp only [List.map_toArray, List.map_cons, List.map_nil]); first | done | rfl | (simp only [List.length_drop, List.length_take]; rfl)) ?_; (with_reducible refine (macadamlaw07_day.calls 2 3 3 t132 t133 t134 _ A3.out).mono ?_); rintro e w10 ⟨rfl, hb⟩; refine ⟨_, rfl, ?_⟩; have n0_ := Aside0.mk (Kd.R_below (by (with_reducible repeat (first | apply Kd.R_alloc | apply Kd.R_drewN | apply Kd.R_drew)); exact HO0.out) hb); have n1_ := Aside0.mk (Kd.R_below (by (with_reducible repeat (first | apply Kd.R_alloc | apply Kd.R_drewN | apply Kd.R_drew)); exact HO128.out) hb); have n2_ := Aside0.mk (blk_below (g := gb125) (o := .cells #[.slice none 0 0, .slice none 0 0, .slice none 0 0] 26 (0, 0)) (by (with_reducible repeat (first | refine blk_drewN ?_ _ | refine blk_drew ?_ | refine blk_alloc ?_ _)); exact BK125.out) hb); have n3_ := Aside0.mk (Kept.below (S := (fun k_ => P0_ k_)) (by repeat (first | (with_reducible first | exact HK.out | apply Kept.alloc | apply Kept.drewN | apply Kept.drew | refine Kept.setCell ?_ (.inr GW125.out) _) | exact HK.out)) hb); have n4_ := Aside0.mk (below_step (by repeat (first | (with_reducible first | exact HB.out | apply below_alloc | apply pw_below_drewN | apply below_drew1 | refine below_set ?_ GE125.out) | exact HB.out)) hb); clear HO0; clear HO128; clear BK125; clear HK; clear HB; have HO0 := n0_; have HO128 := n1_; have BK125 := n2_; have HK := n3_; have HB := n4_; clear n0_ n1_ n2_ n3_ n4_; (try clear hb); (try clear hb2); (try clear hk); (try clear hi)) | ((with_reducible refine gate_callee (f := 120) rfl ?_); refine goesL_ (some 8) rfl rfl Tryd.func120 (by kernel_rfl) rfl #[.int .i64 3, .int .i64 3, .int .i64 6] rfl (by (try simp only [List.map_toArray, List.map_cons, List.map_nil]); first | done | rfl | (simp only [List.length_drop, List.length_take]; rfl)) ?_; (with_reducible refine (macadamlaw07_day.calls 3 3 6 t135 t136 t137 _ A4.out).mono ?_); rintro e w11 ⟨rfl, hb⟩; refine ⟨_, rfl, ?_⟩; have n0_ := Aside0.mk (Kd.R_below (by (with_reducible repeat (first | apply Kd.R_alloc | apply Kd.R_drewN | apply Kd.R_drew)); exact HO0.out) hb); have n1_ := Aside0.mk (Kd.R_below (by (with_reducible repeat (first | apply Kd.R_alloc | apply Kd.R_drewN | apply Kd.R_drew)); exact HO128.out) hb); have n2_ := Aside0.mk (blk_below (g := gb125) (o := .cells #[.slice none 0 0, .slice none 0 0, .slice none 0 0] 26 (0, 0)) (by (with_reducible repeat (first | refine blk_drewN ?_ _ | refine blk_drew ?_ | refine blk_alloc ?_ _)); exact BK125.out) hb); have n3_ := Aside0.mk (Kept.below (S := (fun k_ => P0_ k_)) (by repeat (first | (with_reducible first | exact HK.out | apply Kept.alloc | apply Kept.drewN | apply Kept.drew | refine Kept.setCell ?_ (.inr GW125.out) _) | exact HK.out)) hb); have n4_ := Aside0.mk (below_step (by repeat (first | (with_reducible first | exact HB.out | apply below_alloc | apply pw_below_drewN | apply below_drew1 | refine below_set ?_ GE125.out) | exact HB.out)) hb); clear HO0; clear HO128; clear BK125; clear HK; clear HB; have HO0 := n0_; have HO128 := n1_; have BK125 := n2_; have HK := n3_; have HB := n4_; clear n0_ n1_ n2_ n3_ n4_; (try clear hb); (try clear hb2); (try clear hk); (try clear hi)) | ((with_reducible refine gate_callee (f := 120) rfl ?_); refine goesL_ (some 9) rfl rfl Tryd.func120 (by kernel_rfl) rfl #[.int .i64 4, .int .i64 4, .int .i64 2] rfl (by (try simp only [List.map_toArray, List.map_cons, List.map_nil]); first | done | rfl | (simp only [List.length_drop, List.length_take]; rfl)) ?_; (with_reducible refine (macadamlaw07_day.calls 4 4 2 t138 t139 t140 _ A5.out).mono ?_); rintro e w12 ⟨rfl, hb⟩; refine ⟨_, rfl, ?_⟩; have n0_ := Aside0.mk (Kd.R_below (by (with_reducible repeat (first | apply Kd.R_alloc | apply Kd.R_drewN | apply Kd.R_drew)); exact HO0.out) hb); have n1_ := Aside0.mk (Kd.R_below (by (with_reducible repeat (first | apply Kd.R_alloc | apply Kd.R_drewN | apply Kd.R_drew)); exact HO128.out) hb); have n2_ := Aside0.mk (blk_below (g := gb125) (o := .cells #[.slice none 0 0, .slice none 0 0, .slice none 0 0] 26 (0, 0)) (by (with_reducible repeat (first | refine blk_drewN ?_ _ | refine blk_drew ?_ | refine blk_alloc ?_ _)); exact BK125.out) hb); have n3_ := Aside0.mk (Kept.below (S := (fun k_ => P0_ k_)) (by repeat (first | (with_reducible first | exact HK.out | apply Kept.alloc | apply Kept.drewN | apply Kept.drew | refine Kept.setCell ?_ (.inr GW125.out) _) | exact HK.out)) hb); have n4_ := Aside0.mk (below_step (by repeat (first | (with_reducible first | exact HB.out | apply below_alloc | apply pw_below_drewN | apply below_drew1 | refine below_set ?_ GE125.out) | exact HB.out)) hb); clear HO0; clear HO128; clear BK125; clear HK; clear HB; have HO0 := n0_; have HO128 := n1_; have BK125 := n2_; have HK := n3_; have HB := n4_; clear n0_ n1_ n2_ n3_ n4_; (try clear hb); (try clear hb2); (try clear hk); (try clear hi)) | ((with_reducible refine gate_dst (N := 10) rfl ?_); refine Kd.R_lit k90 _ 90 ?hg (N := 10) ?hd (xs := ([(⟨(⟨t129, t130⟩ : S32), t131⟩ : S90), (⟨(⟨t132, t133⟩ : S32), t134⟩ : S90), (⟨(⟨t135, t136⟩ : S32), t137⟩ : S90), (⟨(⟨t138, t139⟩ : S32), t140⟩ : S90)] : List (S90))) (inner := [.int .i64 t129, .int .i64 t130, .int .i64 t131, .int .i64 t132, .int .i64 t133, .int .i64 t134, .int .i64 t135, .int .i64 t136, .int .i64 t137, .int .i64 t138, .int .i64 t139, .int .i64 t140]) (ok := fun _ => True) (okp := fun _ => True) ?hr ?hp (fun _ hk => hk) trivial (Below.refl _ _) (Nat.le_refl _) (by simp) ?_; (case hd => rfl); (case hg => rfl); (case hr => first | (go_simp; done) | (go_simp; rfl)); (case hp => exact (Reps.c3 (show Kd.M k90 _ _ _ (⟨(⟨t129, t130⟩ : S32), t131⟩ : S90) [.int .i64 t129, .int .i64 t130, .int .i64 t131] from (k90_mkM _ _ _ (⟨(⟨t129, t130⟩ : S32), t131⟩ : S90) )) (Reps.c3 (show Kd.M k90 _ _ _ (⟨(⟨t132, t133⟩ : S32), t134⟩ : S90) [.int .i64 t132, .int .i64 t133, .int .i64 t134] from (k90_mkM _ _ _ (⟨(⟨t132, t133⟩ : S32), t134⟩ : S90) )) (Reps.c3 (show Kd.M k90 _ _ _ (⟨(⟨t135, t136⟩ : S32), t137⟩ : S90) [.int .i64 t135, .int .i64 t136, .int .i64 t137] from (k90_mkM _ _ _ (⟨(⟨t135, t136⟩ : S32), t137⟩ : S90) )) (Reps.c3 (show Kd.M k90 _ _ _ (⟨(⟨t138, t139⟩ : S32), t140⟩ : S90) [.int .i64 t138, .int .i64 t139, .int .i64 t140] from (k90_mkM _ _ _ (⟨(⟨t138, t139⟩ : S32), t140⟩ : S90) )) (Reps.none _ _)))))); intro v142 w13 ho14 hb hg_ hnew_; clear hg_ hnew_; (first | rw [← Ny141.out] at ho14 | (simp only [Int.reduceToNat] at ho14; rw [← Ny141.out] at ho14)); have n0_ := Aside0.mk (Kd.R_below (by (with_reducible repeat (first | apply Kd.R_alloc | apply Kd.R_drewN | apply Kd.R_drew)); exact HO0.out) hb); have n1_ := Aside0.mk (Kd.R_below (by (with_reducible repeat (first | apply Kd.R_alloc | apply Kd.R_drewN | apply Kd.R_drew)); exact HO128.out) hb); have n2_ := Aside0.mk (Kd.R_lower (Kd.R_newM (M := fun k_ => (P0_ k_ ∨ w.heap.size ≤ k_)) ho14 (by first | exact HK.out.1 | exact (show Kept w _ (fun k_ => P0_ k_) from by repeat (first | (with_reducible first | exact HK.out | apply Kept.alloc | apply Kept.drewN | apply Kept.drew | refine Kept.setCell ?_ (.inr GW125.out) _) | exact HK.out)).1) (fun k_ h_ => .inr h_)) (below_size (by repeat (first | (with_reducible first | exact HB.out | apply below_alloc | apply pw_below_drewN | apply below_drew1 | refine below_set ?_ GE125.out) | exact HB.out)))); have n3_ := Aside0.mk (blk_below (g := gb125) (o := .cells #[.slice none 0 0, .slice none 0 0, .slice none 0 0] 26 (0, 0)) (by (with_reducible repeat (first | refine blk_drewN ?_ _ | refine blk_drew ?_ | refine blk_alloc ?_ _)); exact BK125.out) hb); have n4_ := Aside0.mk (Kept.below (S := (fun k_ => P0_ k_)) (by repeat (first | (with_reducible first | exact HK.out | apply Kept.alloc | apply Kept.drewN | apply Kept.drew | refine Kept.setCell ?_ (.inr GW125.out) _) | exact HK.out)) hb); have n5_ := Aside0.mk (below_step (by repeat (first | (with_reducible first | exact HB.out | apply below_alloc | apply pw_below_drewN | apply below_drew1 | refine below_set ?_ GE125.out) | exact HB.out)) hb); clear HO0; clear HO128; clear BK125; clear HK; clear HB; have HO0 := n0_; have HO128 := n1_; have HO143 := n2_; have BK125 := n3_; have HK := n4_; have HB := n5_; clear n0_ n1_ n2_ n3_ n4_ n5_; clear hb ho14; obtain ⟨Ao15, co15, eo15⟩ := Kd.R_slice HO0.out; subst eo15; obtain ⟨Ao16, co16, eo16⟩ := Kd.R_slice HO143.out; subst eo16; obtain ⟨Ao17, co17, eo17⟩ := Kd.R_slice HO128.out; subst eo17; have hcz18_0 : w13.cell? ⟨gb125, 0, none⟩ = some (.slice none 0 0) := (blk_cell BK125.out 0).trans rfl; have hcz18_1 : w13.cell? ⟨gb125, 1, none⟩ = some (.slice none 0 0) := (blk_cell BK125.out 1).trans rfl; have hcz18_2 : w13.cell? ⟨gb125, 2, none⟩ = some (.slice none 0 0) := (blk_cell BK125.out 2).trans rfl; have hfz18_0 := blk_frozen BK125.out 0; have hfz18_1 := blk_frozen BK125.out 1; have hfz18_2 := blk_frozen BK125.out 2))
  refine bodyPost_ret (results_cell_row rfl _ _ gb125 26 #[.slice Ao17 y126.length co17, .slice Ao16 y141.length co16, .slice Ao15 l0.length co15] (0, 0) _ rfl (by (with_reducible repeat (first | refine blk_drewN ?_ _ | refine blk_drew ?_ | refine blk_alloc ?_ _)); refine blk_put (cs := #[.slice Ao17 y126.length co17, .slice Ao16 y141.length co16, .slice none 0 0]) ?_ 2 _ rfl; (with_reducible repeat (first | refine blk_drewN ?_ _ | refine blk_drew ?_ | refine blk_alloc ?_ _)); refine blk_put (cs := #[.slice Ao17 y126.length co17, .slice none 0 0, .slice none 0 0]) ?_ 1 _ rfl; (with_reducible repeat (first | refine blk_drewN ?_ _ | refine blk_drew ?_ | refine blk_alloc ?_ _)); refine blk_put (cs := #[.slice none 0 0, .slice none 0 0, .slice none 0 0]) ?_ 0 _ rfl; (with_reducible repeat (first | refine blk_drewN ?_ _ | refine blk_drew ?_ | refine blk_alloc ?_ _)); exact BK125.out) Tryd.underlying26 rfl (by kernel_rfl)) rfl ?_
  exact ⟨_, _, _, by first | rfl | exact congrArg (fun b_ => Ending.returned (.bool b_)) HT.out | (simp [errW_none, errW_some] <;> rfl) | (simp [*, errW_none, errW_some] <;> rfl), by (with_reducible repeat (first | apply Kd.R_alloc | apply Kd.R_drewN | apply Kd.R_drew)); exact Kd.R_mono (Kd.R_far (p := ⟨gb125, 2, none⟩) (Kd.R_far (p := ⟨gb125, 1, none⟩) (Kd.R_far (p := ⟨gb125, 0, none⟩) (Kd.R_types HO128.out BK125.out (by decide)) (fun _ hk => hk.2) (.slice Ao17 y126.length co17)) (fun _ hk => hk.2) (.slice Ao16 y141.length co16)) (fun _ hk => hk.2) (.slice Ao15 l0.length co15)) (fun _ hk => hk.1.1), by (with_reducible repeat (first | apply Kd.R_alloc | apply Kd.R_drewN | apply Kd.R_drew)); exact Kd.R_mono (Kd.R_far (p := ⟨gb125, 2, none⟩) (Kd.R_far (p := ⟨gb125, 1, none⟩) (Kd.R_far (p := ⟨gb125, 0, none⟩) (Kd.R_types HO143.out BK125.out (by decide)) (fun _ hk => hk.2) (.slice Ao17 y126.length co17)) (fun _ hk => hk.2) (.slice Ao16 y141.length co16)) (fun _ hk => hk.2) (.slice Ao15 l0.length co15)) (fun _ hk => hk.1.1), by (with_reducible repeat (first | apply Kd.R_alloc | apply Kd.R_drewN | apply Kd.R_drew)); exact Kd.R_mono (Kd.R_far (p := ⟨gb125, 2, none⟩) (Kd.R_far (p := ⟨gb125, 1, none⟩) (Kd.R_far (p := ⟨gb125, 0, none⟩) (Kd.R_types HO0.out BK125.out (by decide)) (fun _ hk => hk.2) (.slice Ao17 y126.length co17)) (fun _ hk => hk.2) (.slice Ao16 y141.length co16)) (fun _ hk => hk.2) (.slice Ao15 l0.length co15)) (fun _ hk => hk.1), by repeat (first | (with_reducible first | exact HB.out | apply below_alloc | apply pw_below_drewN | apply below_drew1 | refine below_set ?_ GE125.out) | exact HB.out), by repeat (first | (with_reducible first | exact HK.out | apply Kept.alloc | apply Kept.drewN | apply Kept.drew | refine Kept.setCell ?_ (.inr GW125.out) _) | exact HK.out)⟩
def macadamlaw07_own.f  : Option ((List (S92)) × (List (S90)) × (List (S43))) := (macadamlaw07_book.f ([] : List (S43))).bind fun bt145 => (some (bt145.1, bt145.2.1, bt145.2.2))
set_option maxHeartbeats 8000000 in
set_option maxRecDepth 100000 in
theorem macadamlaw07_own.calls  (r1 : List (S92)) (r2 : List (S90)) (r3 : List (S43)) (w : World) (h : macadamlaw07_own.f  = some (r1, r2, r3)) :
    Calls Tryd.prog 70 #[] w fun e w' => ∃ v0_ v1_ v2_ : Value, e = .returned (.agg #[v0_, v1_, v2_]) ∧ Kd.R k92 92 w' w.heap.size (fun _ => True) v0_ r1 ∧ Kd.R k90 90 w' w.heap.size (fun _ => True) v1_ r2 ∧ Kd.R k43 43 w' w.heap.size (fun _ => True) v2_ r3 ∧ Below w.heap.size w w' := by
  have hu26 := Tryd.underlying26
  have HB := Aside0.mk (Below.refl w.heap.size w)
  have H : ((macadamlaw07_book.f ([] : List (S43))).bind fun bt145 => (some (bt145.1, bt145.2.1, bt145.2.2))) = some (r1, r2, r3) := h
  clear h
  replace H := Option.bind_eq_some_iff.mp H
  obtain ⟨⟨t145, t148, t151⟩, A10, H⟩ := H
  replace H : (some (t145, t148, t151)) = some (r1, r2, r3) := H
  have A1 := Aside0.mk A10
  clear A10
  simp only [Option.some.injEq, Prod.mk.injEq] at H
  obtain ⟨rfl, rfl, rfl⟩ := H
  go_enter Tryd.func70, Tryd.ntmps70
  go_wp2_with (first | ((with_reducible refine gate_dst (N := 0) rfl ?_); refine box_event ?hg (N := 0) ?hd (cs := #[.slice none 0 0, .slice none 0 0, .slice none 0 0]) (t := 26) ?hr ?_; (case hd => rfl); (case hg => rfl); (case hr => first | (go_simp; done) | (go_simp; rfl)); intro gb144 hg w2 hbox hb; have n0_ := Aside0.mk (below_step (by repeat (first | (with_reducible first | exact HB.out | apply below_alloc | apply pw_below_drewN | apply below_drew1) | exact HB.out)) hb); have n1_ := Aside0.mk (hbox); have n2_ := Aside0.mk ((by rw [hg]; exact (below_size (by repeat (first | (with_reducible first | exact HB.out | apply below_alloc | apply pw_below_drewN | apply below_drew1) | exact HB.out))) : w.heap.size ≤ gb144)); have n3_ := Aside0.mk ((by rw [hg]; exact (below_size (by repeat (first | (with_reducible first | exact HB.out | apply below_alloc | apply pw_below_drewN | apply below_drew1) | exact HB.out))) : w.heap.size ≤ gb144)); clear HB; have HB := n0_; have BK144 := n1_; have GW144 := n2_; have GE144 := n3_; clear n0_ n1_ n2_ n3_; clear hb hbox hg) | ((with_reducible refine gate_callee (f := 71) rfl ?_); refine goesL_ (some 1) rfl rfl Tryd.func71 (by kernel_rfl) rfl #[.slice none 0 0] rfl (by (try simp only [List.map_toArray, List.map_cons, List.map_nil]); first | done | rfl | (simp only [List.length_drop, List.length_take]; rfl)) ?_; (refine (macadamlaw07_book.calls (fun k_ => some k_ = (.slice none 0 0 : Value).ownBlock) (.slice none 0 0) ([] : List (S43)) t145 t148 t151 w _ ?side1 ?side2 A1.out).mono ?_); (case side1 => repeat (first | (with_reducible first | exact HB.out | apply below_alloc | apply pw_below_drewN | apply below_drew1 | refine below_set ?_ GE144.out) | exact HB.out)); (case side2 => exact Kd.R_nil _ _ _ _ _); rintro e w3 ⟨v146, v149, v152, rfl, ho0, ho1, ho2, hb, hkp⟩; refine ⟨_, rfl, ?_⟩; have n0_ := Aside0.mk (blk_kept (by (with_reducible repeat (first | refine blk_drewN ?_ _ | refine blk_drew ?_ | refine blk_alloc ?_ _)); exact BK144.out) hkp (fun hs_ => (fun e_ => by simp [Value.ownBlock] at e_) hs_)); have n1_ := Aside0.mk (Kd.R_mono (ok' := fun k_ => True) ho0 (fun k_ hk_ => trivial)); have n2_ := Aside0.mk (Kd.R_mono (ok' := fun k_ => True) ho1 (fun k_ hk_ => trivial)); have n3_ := Aside0.mk (Kd.R_mono (ok' := fun k_ => True) ho2 (fun k_ hk_ => trivial)); have n4_ := Aside0.mk (hb); clear BK144; clear HB; have BK144 := n0_; have HO147 := n1_; have HO150 := n2_; have HO153 := n3_; have HB := n4_; clear n0_ n1_ n2_ n3_ n4_; (try clear hb); (try clear hkp); (try clear ho0); (try clear ho1); (try clear ho2); obtain ⟨Ao4, co4, eo4⟩ := Kd.R_slice HO147.out; subst eo4; have hcz5_0 : w3.cell? ⟨gb144, 0, none⟩ = some (.slice none 0 0) := (blk_cell BK144.out 0).trans rfl; have hcz5_1 : w3.cell? ⟨gb144, 1, none⟩ = some (.slice none 0 0) := (blk_cell BK144.out 1).trans rfl; have hcz5_2 : w3.cell? ⟨gb144, 2, none⟩ = some (.slice none 0 0) := (blk_cell BK144.out 2).trans rfl; have hfz5_0 := blk_frozen BK144.out 0; have hfz5_1 := blk_frozen BK144.out 1; have hfz5_2 := blk_frozen BK144.out 2; obtain ⟨Ao6, co6, eo6⟩ := Kd.R_slice HO150.out; subst eo6; obtain ⟨Ao7, co7, eo7⟩ := Kd.R_slice HO153.out; subst eo7))
  refine bodyPost_ret (results_cell_row rfl _ _ gb144 26 #[.slice Ao4 t145.length co4, .slice Ao6 t148.length co6, .slice Ao7 t151.length co7] (0, 0) _ rfl (by (with_reducible repeat (first | refine blk_drewN ?_ _ | refine blk_drew ?_ | refine blk_alloc ?_ _)); refine blk_put (cs := #[.slice Ao4 t145.length co4, .slice Ao6 t148.length co6, .slice none 0 0]) ?_ 2 _ rfl; (with_reducible repeat (first | refine blk_drewN ?_ _ | refine blk_drew ?_ | refine blk_alloc ?_ _)); refine blk_put (cs := #[.slice Ao4 t145.length co4, .slice none 0 0, .slice none 0 0]) ?_ 1 _ rfl; (with_reducible repeat (first | refine blk_drewN ?_ _ | refine blk_drew ?_ | refine blk_alloc ?_ _)); refine blk_put (cs := #[.slice none 0 0, .slice none 0 0, .slice none 0 0]) ?_ 0 _ rfl; (with_reducible repeat (first | refine blk_drewN ?_ _ | refine blk_drew ?_ | refine blk_alloc ?_ _)); exact BK144.out) Tryd.underlying26 rfl (by kernel_rfl)) rfl ?_
  exact ⟨_, _, _, by first | rfl | exact congrArg (fun b_ => Ending.returned (.bool b_)) HT.out | (simp [errW_none, errW_some] <;> rfl) | (simp [*, errW_none, errW_some] <;> rfl), by (with_reducible repeat (first | apply Kd.R_alloc | apply Kd.R_drewN | apply Kd.R_drew)); exact Kd.R_mono (Kd.R_far (p := ⟨gb144, 2, none⟩) (Kd.R_far (p := ⟨gb144, 1, none⟩) (Kd.R_far (p := ⟨gb144, 0, none⟩) (Kd.R_types HO147.out BK144.out (by decide)) (fun _ hk => hk.2) (.slice Ao4 t145.length co4)) (fun _ hk => hk.2) (.slice Ao6 t148.length co6)) (fun _ hk => hk.2) (.slice Ao7 t151.length co7)) (fun _ hk => trivial), by (with_reducible repeat (first | apply Kd.R_alloc | apply Kd.R_drewN | apply Kd.R_drew)); exact Kd.R_mono (Kd.R_far (p := ⟨gb144, 2, none⟩) (Kd.R_far (p := ⟨gb144, 1, none⟩) (Kd.R_far (p := ⟨gb144, 0, none⟩) (Kd.R_types HO150.out BK144.out (by decide)) (fun _ hk => hk.2) (.slice Ao4 t145.length co4)) (fun _ hk => hk.2) (.slice Ao6 t148.length co6)) (fun _ hk => hk.2) (.slice Ao7 t151.length co7)) (fun _ hk => trivial), by (with_reducible repeat (first | apply Kd.R_alloc | apply Kd.R_drewN | apply Kd.R_drew)); exact Kd.R_mono (Kd.R_far (p := ⟨gb144, 2, none⟩) (Kd.R_far (p := ⟨gb144, 1, none⟩) (Kd.R_far (p := ⟨gb144, 0, none⟩) (Kd.R_types HO153.out BK144.out (by decide)) (fun _ hk => hk.2) (.slice Ao4 t145.length co4)) (fun _ hk => hk.2) (.slice Ao6 t148.length co6)) (fun _ hk => hk.2) (.slice Ao7 t151.length co7)) (fun _ hk => trivial), by repeat (first | (with_reducible first | exact HB.out | apply below_alloc | apply pw_below_drewN | apply below_drew1 | refine below_set ?_ GE144.out) | exact HB.out)⟩
def macadamlaw07_early.f  : Option ((List (S92)) × (List (S90)) × (List (S43))) := (macadamlaw07_book.f (([(⟨1, 1⟩ : S43)] : List (S43)))).bind fun bt158 => (some (bt158.1, bt158.2.1, bt158.2.2))
set_option maxHeartbeats 8000000 in
set_option maxRecDepth 100000 in
theorem macadamlaw07_early.calls  (r1 : List (S92)) (r2 : List (S90)) (r3 : List (S43)) (w : World) (h : macadamlaw07_early.f  = some (r1, r2, r3)) :
    Calls Tryd.prog 74 #[] w fun e w' => ∃ v0_ v1_ v2_ : Value, e = .returned (.agg #[v0_, v1_, v2_]) ∧ Kd.R k92 92 w' w.heap.size (fun _ => True) v0_ r1 ∧ Kd.R k90 90 w' w.heap.size (fun _ => True) v1_ r2 ∧ Kd.R k43 43 w' w.heap.size (fun _ => True) v2_ r3 ∧ Below w.heap.size w w' := by
  have hu26 := Tryd.underlying26
  have hu43 := Tryd.underlying43
  have HB := Aside0.mk (Below.refl w.heap.size w)
  have H : ((macadamlaw07_book.f (([(⟨1, 1⟩ : S43)] : List (S43)))).bind fun bt158 => (some (bt158.1, bt158.2.1, bt158.2.2))) = some (r1, r2, r3) := h
  clear h
  obtain ⟨y155, hy155⟩ : ∃ y_ : List (S43), y_ = (([(⟨1, 1⟩ : S43)] : List (S43))) := ⟨_, rfl⟩
  replace H : ((macadamlaw07_book.f y155).bind fun bt158 => (some (bt158.1, bt158.2.1, bt158.2.2))) = some (r1, r2, r3) := by first | (rw [hy155]; with_reducible exact H) | (have H2_ := (Option.bind_some _ _).symm.trans H; rw [hy155]; with_reducible exact H2_) | (have H2_ := (Option.bind_some _ _).symm.trans H; with_reducible exact H2_) | with_reducible exact H | (rw [hy155]; exact H) | exact H
  have Ny155 := Aside0.mk hy155
  clear hy155
  replace H := Option.bind_eq_some_iff.mp H
  obtain ⟨⟨t158, t161, t164⟩, A10, H⟩ := H
  replace H : (some (t158, t161, t164)) = some (r1, r2, r3) := H
  have A1 := Aside0.mk A10
  clear A10
  simp only [Option.some.injEq, Prod.mk.injEq] at H
  obtain ⟨rfl, rfl, rfl⟩ := H
  go_enter Tryd.func74, Tryd.ntmps74
  go_wp2_with (first | ((with_reducible refine gate_dst (N := 0) rfl ?_); refine box_event ?hg (N := 0) ?hd (cs := #[.slice none 0 0, .slice none 0 0, .slice none 0 0]) (t := 26) ?hr ?_; (case hd => rfl); (case hg => rfl); (case hr => first | (go_simp; done) | (go_simp; rfl)); intro gb154 hg w2 hbox hb; have n0_ := Aside0.mk (below_step (by repeat (first | (with_reducible first | exact HB.out | apply below_alloc | apply pw_below_drewN | apply below_drew1) | exact HB.out)) hb); have n1_ := Aside0.mk (hbox); have n2_ := Aside0.mk ((by rw [hg]; exact (below_size (by repeat (first | (with_reducible first | exact HB.out | apply below_alloc | apply pw_below_drewN | apply below_drew1) | exact HB.out))) : w.heap.size ≤ gb154)); have n3_ := Aside0.mk ((by rw [hg]; exact (below_size (by repeat (first | (with_reducible first | exact HB.out | apply below_alloc | apply pw_below_drewN | apply below_drew1) | exact HB.out))) : w.heap.size ≤ gb154)); clear HB; have HB := n0_; have BK154 := n1_; have GW154 := n2_; have GE154 := n3_; clear n0_ n1_ n2_ n3_; clear hb hbox hg) | ((with_reducible refine gate_dst (N := 2) rfl ?_); refine Kd.R_lit k43 _ 43 ?hg (N := 2) ?hd (xs := ([(⟨1, 1⟩ : S43)] : List (S43))) (inner := [.int .i64 1, .int .i64 1]) (ok := fun _ => True) (okp := fun _ => True) ?hr ?hp (fun _ hk => hk) trivial (Below.refl _ _) (Nat.le_refl _) (by simp) ?_; (case hd => rfl); (case hg => rfl); (case hr => first | (go_simp; done) | (go_simp; rfl)); (case hp => exact (Reps.c2 (show Kd.M k43 _ _ _ (⟨1, 1⟩ : S43) [.int .i64 1, .int .i64 1] from (k43_mkM _ _ _ (⟨1, 1⟩ : S43) )) (Reps.none _ _))); intro v156 w3 ho4 hb hg_ hnew_; clear hg_ hnew_; (first | rw [← Ny155.out] at ho4 | (simp only [Int.reduceToNat] at ho4; rw [← Ny155.out] at ho4)); have n0_ := Aside0.mk (Kd.R_lower ho4 (below_size (by repeat (first | (with_reducible first | exact HB.out | apply below_alloc | apply pw_below_drewN | apply below_drew1 | refine below_set ?_ GE154.out) | exact HB.out)))); have n1_ := Aside0.mk (blk_below (g := gb154) (o := .cells #[.slice none 0 0, .slice none 0 0, .slice none 0 0] 26 (0, 0)) (by (with_reducible repeat (first | refine blk_drewN ?_ _ | refine blk_drew ?_ | refine blk_alloc ?_ _)); exact BK154.out) hb); have n2_ := Aside0.mk (below_step (by repeat (first | (with_reducible first | exact HB.out | apply below_alloc | apply pw_below_drewN | apply below_drew1 | refine below_set ?_ GE154.out) | exact HB.out)) hb); clear BK154; clear HB; have HO157 := n0_; have BK154 := n1_; have HB := n2_; clear n0_ n1_ n2_; clear hb ho4; obtain ⟨Ao5, co5, eo5⟩ := Kd.R_slice HO157.out; subst eo5) | ((with_reducible refine gate_callee (f := 71) rfl ?_); refine goesL_ (some 3) rfl rfl Tryd.func71 (by kernel_rfl) rfl #[.slice Ao5 y155.length co5] rfl (by (try simp only [List.map_toArray, List.map_cons, List.map_nil]); first | done | rfl | (simp only [List.length_drop, List.length_take]; rfl)) ?_; (with_reducible refine (macadamlaw07_book.calls (fun k_ => some k_ = (.slice Ao5 y155.length co5 : Value).ownBlock) (.slice Ao5 y155.length co5) y155 t158 t161 t164 w _ ?side1 ?side2 A1.out).mono ?_); (case side1 => repeat (first | (with_reducible first | exact HB.out | apply below_alloc | apply pw_below_drewN | apply below_drew1 | refine below_set ?_ GE154.out) | exact HB.out)); (case side2 => exact Kd.R_tight rfl HO157.out); rintro e w6 ⟨v159, v162, v165, rfl, ho0, ho1, ho2, hb, hkp⟩; refine ⟨_, rfl, ?_⟩; have n0_ := Aside0.mk (blk_kept (by (with_reducible repeat (first | refine blk_drewN ?_ _ | refine blk_drew ?_ | refine blk_alloc ?_ _)); exact BK154.out) hkp (fun hs_ => (fun e_ => (Kd.R_ne HO157.out BK154.out (by decide)) e_) hs_)); have n1_ := Aside0.mk (Kd.R_mono (ok' := fun k_ => True) ho0 (fun k_ hk_ => trivial)); have n2_ := Aside0.mk (Kd.R_mono (ok' := fun k_ => True) ho1 (fun k_ hk_ => trivial)); have n3_ := Aside0.mk (Kd.R_mono (ok' := fun k_ => True) ho2 (fun k_ hk_ => trivial)); have n4_ := Aside0.mk (hb); clear BK154; clear HB; clear HO157; have BK154 := n0_; have HO160 := n1_; have HO163 := n2_; have HO166 := n3_; have HB := n4_; clear n0_ n1_ n2_ n3_ n4_; (try clear hb); (try clear hkp); (try clear ho0); (try clear ho1); (try clear ho2); obtain ⟨Ao7, co7, eo7⟩ := Kd.R_slice HO160.out; subst eo7; have hcz8_0 : w6.cell? ⟨gb154, 0, none⟩ = some (.slice none 0 0) := (blk_cell BK154.out 0).trans rfl; have hcz8_1 : w6.cell? ⟨gb154, 1, none⟩ = some (.slice none 0 0) := (blk_cell BK154.out 1).trans rfl; have hcz8_2 : w6.cell? ⟨gb154, 2, none⟩ = some (.slice none 0 0) := (blk_cell BK154.out 2).trans rfl; have hfz8_0 := blk_frozen BK154.out 0; have hfz8_1 := blk_frozen BK154.out 1; have hfz8_2 := blk_frozen BK154.out 2; obtain ⟨Ao9, co9, eo9⟩ := Kd.R_slice HO163.out; subst eo9; obtain ⟨Ao10, co10, eo10⟩ := Kd.R_slice HO166.out; subst eo10))
  refine bodyPost_ret (results_cell_row rfl _ _ gb154 26 #[.slice Ao7 t158.length co7, .slice Ao9 t161.length co9, .slice Ao10 t164.length co10] (0, 0) _ rfl (by (with_reducible repeat (first | refine blk_drewN ?_ _ | refine blk_drew ?_ | refine blk_alloc ?_ _)); refine blk_put (cs := #[.slice Ao7 t158.length co7, .slice Ao9 t161.length co9, .slice none 0 0]) ?_ 2 _ rfl; (with_reducible repeat (first | refine blk_drewN ?_ _ | refine blk_drew ?_ | refine blk_alloc ?_ _)); refine blk_put (cs := #[.slice Ao7 t158.length co7, .slice none 0 0, .slice none 0 0]) ?_ 1 _ rfl; (with_reducible repeat (first | refine blk_drewN ?_ _ | refine blk_drew ?_ | refine blk_alloc ?_ _)); refine blk_put (cs := #[.slice none 0 0, .slice none 0 0, .slice none 0 0]) ?_ 0 _ rfl; (with_reducible repeat (first | refine blk_drewN ?_ _ | refine blk_drew ?_ | refine blk_alloc ?_ _)); exact BK154.out) Tryd.underlying26 rfl (by kernel_rfl)) rfl ?_
  exact ⟨_, _, _, by first | rfl | exact congrArg (fun b_ => Ending.returned (.bool b_)) HT.out | (simp [errW_none, errW_some] <;> rfl) | (simp [*, errW_none, errW_some] <;> rfl), by (with_reducible repeat (first | apply Kd.R_alloc | apply Kd.R_drewN | apply Kd.R_drew)); exact Kd.R_mono (Kd.R_far (p := ⟨gb154, 2, none⟩) (Kd.R_far (p := ⟨gb154, 1, none⟩) (Kd.R_far (p := ⟨gb154, 0, none⟩) (Kd.R_types HO160.out BK154.out (by decide)) (fun _ hk => hk.2) (.slice Ao7 t158.length co7)) (fun _ hk => hk.2) (.slice Ao9 t161.length co9)) (fun _ hk => hk.2) (.slice Ao10 t164.length co10)) (fun _ hk => trivial), by (with_reducible repeat (first | apply Kd.R_alloc | apply Kd.R_drewN | apply Kd.R_drew)); exact Kd.R_mono (Kd.R_far (p := ⟨gb154, 2, none⟩) (Kd.R_far (p := ⟨gb154, 1, none⟩) (Kd.R_far (p := ⟨gb154, 0, none⟩) (Kd.R_types HO163.out BK154.out (by decide)) (fun _ hk => hk.2) (.slice Ao7 t158.length co7)) (fun _ hk => hk.2) (.slice Ao9 t161.length co9)) (fun _ hk => hk.2) (.slice Ao10 t164.length co10)) (fun _ hk => trivial), by (with_reducible repeat (first | apply Kd.R_alloc | apply Kd.R_drewN | apply Kd.R_drew)); exact Kd.R_mono (Kd.R_far (p := ⟨gb154, 2, none⟩) (Kd.R_far (p := ⟨gb154, 1, none⟩) (Kd.R_far (p := ⟨gb154, 0, none⟩) (Kd.R_types HO166.out BK154.out (by decide)) (fun _ hk => hk.2) (.slice Ao7 t158.length co7)) (fun _ hk => hk.2) (.slice Ao9 t161.length co9)) (fun _ hk => hk.2) (.slice Ao10 t164.length co10)) (fun _ hk => trivial), by repeat (first | (with_reducible first | exact HB.out | apply below_alloc | apply pw_below_drewN | apply below_drew1 | refine below_set ?_ GE154.out) | exact HB.out)⟩
def macadamlaw07_late.f  : Option ((List (S92)) × (List (S90)) × (List (S43))) := (macadamlaw07_book.f (([(⟨2, 0⟩ : S43)] : List (S43)))).bind fun bt171 => (some (bt171.1, bt171.2.1, bt171.2.2))
set_option maxHeartbeats 8000000 in
set_option maxRecDepth 100000 in
theorem macadamlaw07_late.calls  (r1 : List (S92)) (r2 : List (S90)) (r3 : List (S43)) (w : World) (h : macadamlaw07_late.f  = some (r1, r2, r3)) :
    Calls Tryd.prog 73 #[] w fun e w' => ∃ v0_ v1_ v2_ : Value, e = .returned (.agg #[v0_, v1_, v2_]) ∧ Kd.R k92 92 w' w.heap.size (fun _ => True) v0_ r1 ∧ Kd.R k90 90 w' w.heap.size (fun _ => True) v1_ r2 ∧ Kd.R k43 43 w' w.heap.size (fun _ => True) v2_ r3 ∧ Below w.heap.size w w' := by
  have hu26 := Tryd.underlying26
  have hu43 := Tryd.underlying43
  have HB := Aside0.mk (Below.refl w.heap.size w)
  have H : ((macadamlaw07_book.f (([(⟨2, 0⟩ : S43)] : List (S43)))).bind fun bt171 => (some (bt171.1, bt171.2.1, bt171.2.2))) = some (r1, r2, r3) := h
  clear h
  obtain ⟨y168, hy168⟩ : ∃ y_ : List (S43), y_ = (([(⟨2, 0⟩ : S43)] : List (S43))) := ⟨_, rfl⟩
  replace H : ((macadamlaw07_book.f y168).bind fun bt171 => (some (bt171.1, bt171.2.1, bt171.2.2))) = some (r1, r2, r3) := by first | (rw [hy168]; with_reducible exact H) | (have H2_ := (Option.bind_some _ _).symm.trans H; rw [hy168]; with_reducible exact H2_) | (have H2_ := (Option.bind_some _ _).symm.trans H; with_reducible exact H2_) | with_reducible exact H | (rw [hy168]; exact H) | exact H
  have Ny168 := Aside0.mk hy168
  clear hy168
  replace H := Option.bind_eq_some_iff.mp H
  obtain ⟨⟨t171, t174, t177⟩, A10, H⟩ := H
  replace H : (some (t171, t174, t177)) = some (r1, r2, r3) := H
  have A1 := Aside0.mk A10
  clear A10
  simp only [Option.some.injEq, Prod.mk.injEq] at H
  obtain ⟨rfl, rfl, rfl⟩ := H
  go_enter Tryd.func73, Tryd.ntmps73
  go_wp2_with (first | ((with_reducible refine gate_dst (N := 0) rfl ?_); refine box_event ?hg (N := 0) ?hd (cs := #[.slice none 0 0, .slice none 0 0, .slice none 0 0]) (t := 26) ?hr ?_; (case hd => rfl); (case hg => rfl); (case hr => first | (go_simp; done) | (go_simp; rfl)); intro gb167 hg w2 hbox hb; have n0_ := Aside0.mk (below_step (by repeat (first | (with_reducible first | exact HB.out | apply below_alloc | apply pw_below_drewN | apply below_drew1) | exact HB.out)) hb); have n1_ := Aside0.mk (hbox); have n2_ := Aside0.mk ((by rw [hg]; exact (below_size (by repeat (first | (with_reducible first | exact HB.out | apply below_alloc | apply pw_below_drewN | apply below_drew1) | exact HB.out))) : w.heap.size ≤ gb167)); have n3_ := Aside0.mk ((by rw [hg]; exact (below_size (by repeat (first | (with_reducible first | exact HB.out | apply below_alloc | apply pw_below_drewN | apply below_drew1) | exact HB.out))) : w.heap.size ≤ gb167)); clear HB; have HB := n0_; have BK167 := n1_; have GW167 := n2_; have GE167 := n3_; clear n0_ n1_ n2_ n3_; clear hb hbox hg) | ((with_reducible refine gate_dst (N := 2) rfl ?_); refine Kd.R_lit k43 _ 43 ?hg (N := 2) ?hd (xs := ([(⟨2, 0⟩ : S43)] : List (S43))) (inner := [.int .i64 2, .int .i64 0]) (ok := fun _ => True) (okp := fun _ => True) ?hr ?hp (fun _ hk => hk) trivial (Below.refl _ _) (Nat.le_refl _) (by simp) ?_; (case hd => rfl); (case hg => rfl); (case hr => first | (go_simp; done) | (go_simp; rfl)); (case hp => exact (Reps.c2 (show Kd.M k43 _ _ _ (⟨2, 0⟩ : S43) [.int .i64 2, .int .i64 0] from (k43_mkM _ _ _ (⟨2, 0⟩ : S43) )) (Reps.none _ _))); intro v169 w3 ho4 hb hg_ hnew_; clear hg_ hnew_; (first | rw [← Ny168.out] at ho4 | (simp only [Int.reduceToNat] at ho4; rw [← Ny168.out] at ho4)); have n0_ := Aside0.mk (Kd.R_lower ho4 (below_size (by repeat (first | (with_reducible first | exact HB.out | apply below_alloc | apply pw_below_drewN | apply below_drew1 | refine below_set ?_ GE167.out) | exact HB.out)))); have n1_ := Aside0.mk (blk_below (g := gb167) (o := .cells #[.slice none 0 0, .slice none 0 0, .slice none 0 0] 26 (0, 0)) (by (with_reducible repeat (first | refine blk_drewN ?_ _ | refine blk_drew ?_ | refine blk_alloc ?_ _)); exact BK167.out) hb); have n2_ := Aside0.mk (below_step (by repeat (first | (with_reducible first | exact HB.out | apply below_alloc | apply pw_below_drewN | apply below_drew1 | refine below_set ?_ GE167.out) | exact HB.out)) hb); clear BK167; clear HB; have HO170 := n0_; have BK167 := n1_; have HB := n2_; clear n0_ n1_ n2_; clear hb ho4; obtain ⟨Ao5, co5, eo5⟩ := Kd.R_slice HO170.out; subst eo5) | ((with_reducible refine gate_callee (f := 71) rfl ?_); refine goesL_ (some 3) rfl rfl Tryd.func71 (by kernel_rfl) rfl #[.slice Ao5 y168.length co5] rfl (by (try simp only [List.map_toArray, List.map_cons, List.map_nil]); first | done | rfl | (simp only [List.length_drop, List.length_take]; rfl)) ?_; (with_reducible refine (macadamlaw07_book.calls (fun k_ => some k_ = (.slice Ao5 y168.length co5 : Value).ownBlock) (.slice Ao5 y168.length co5) y168 t171 t174 t177 w _ ?side1 ?side2 A1.out).mono ?_); (case side1 => repeat (first | (with_reducible first | exact HB.out | apply below_alloc | apply pw_below_drewN | apply below_drew1 | refine below_set ?_ GE167.out) | exact HB.out)); (case side2 => exact Kd.R_tight rfl HO170.out); rintro e w6 ⟨v172, v175, v178, rfl, ho0, ho1, ho2, hb, hkp⟩; refine ⟨_, rfl, ?_⟩; have n0_ := Aside0.mk (blk_kept (by (with_reducible repeat (first | refine blk_drewN ?_ _ | refine blk_drew ?_ | refine blk_alloc ?_ _)); exact BK167.out) hkp (fun hs_ => (fun e_ => (Kd.R_ne HO170.out BK167.out (by decide)) e_) hs_)); have n1_ := Aside0.mk (Kd.R_mono (ok' := fun k_ => True) ho0 (fun k_ hk_ => trivial)); have n2_ := Aside0.mk (Kd.R_mono (ok' := fun k_ => True) ho1 (fun k_ hk_ => trivial)); have n3_ := Aside0.mk (Kd.R_mono (ok' := fun k_ => True) ho2 (fun k_ hk_ => trivial)); have n4_ := Aside0.mk (hb); clear BK167; clear HB; clear HO170; have BK167 := n0_; have HO173 := n1_; have HO176 := n2_; have HO179 := n3_; have HB := n4_; clear n0_ n1_ n2_ n3_ n4_; (try clear hb); (try clear hkp); (try clear ho0); (try clear ho1); (try clear ho2); obtain ⟨Ao7, co7, eo7⟩ := Kd.R_slice HO173.out; subst eo7; have hcz8_0 : w6.cell? ⟨gb167, 0, none⟩ = some (.slice none 0 0) := (blk_cell BK167.out 0).trans rfl; have hcz8_1 : w6.cell? ⟨gb167, 1, none⟩ = some (.slice none 0 0) := (blk_cell BK167.out 1).trans rfl; have hcz8_2 : w6.cell? ⟨gb167, 2, none⟩ = some (.slice none 0 0) := (blk_cell BK167.out 2).trans rfl; have hfz8_0 := blk_frozen BK167.out 0; have hfz8_1 := blk_frozen BK167.out 1; have hfz8_2 := blk_frozen BK167.out 2; obtain ⟨Ao9, co9, eo9⟩ := Kd.R_slice HO176.out; subst eo9; obtain ⟨Ao10, co10, eo10⟩ := Kd.R_slice HO179.out; subst eo10))
  refine bodyPost_ret (results_cell_row rfl _ _ gb167 26 #[.slice Ao7 t171.length co7, .slice Ao9 t174.length co9, .slice Ao10 t177.length co10] (0, 0) _ rfl (by (with_reducible repeat (first | refine blk_drewN ?_ _ | refine blk_drew ?_ | refine blk_alloc ?_ _)); refine blk_put (cs := #[.slice Ao7 t171.length co7, .slice Ao9 t174.length co9, .slice none 0 0]) ?_ 2 _ rfl; (with_reducible repeat (first | refine blk_drewN ?_ _ | refine blk_drew ?_ | refine blk_alloc ?_ _)); refine blk_put (cs := #[.slice Ao7 t171.length co7, .slice none 0 0, .slice none 0 0]) ?_ 1 _ rfl; (with_reducible repeat (first | refine blk_drewN ?_ _ | refine blk_drew ?_ | refine blk_alloc ?_ _)); refine blk_put (cs := #[.slice none 0 0, .slice none 0 0, .slice none 0 0]) ?_ 0 _ rfl; (with_reducible repeat (first | refine blk_drewN ?_ _ | refine blk_drew ?_ | refine blk_alloc ?_ _)); exact BK167.out) Tryd.underlying26 rfl (by kernel_rfl)) rfl ?_
  exact ⟨_, _, _, by first | rfl | exact congrArg (fun b_ => Ending.returned (.bool b_)) HT.out | (simp [errW_none, errW_some] <;> rfl) | (simp [*, errW_none, errW_some] <;> rfl), by (with_reducible repeat (first | apply Kd.R_alloc | apply Kd.R_drewN | apply Kd.R_drew)); exact Kd.R_mono (Kd.R_far (p := ⟨gb167, 2, none⟩) (Kd.R_far (p := ⟨gb167, 1, none⟩) (Kd.R_far (p := ⟨gb167, 0, none⟩) (Kd.R_types HO173.out BK167.out (by decide)) (fun _ hk => hk.2) (.slice Ao7 t171.length co7)) (fun _ hk => hk.2) (.slice Ao9 t174.length co9)) (fun _ hk => hk.2) (.slice Ao10 t177.length co10)) (fun _ hk => trivial), by (with_reducible repeat (first | apply Kd.R_alloc | apply Kd.R_drewN | apply Kd.R_drew)); exact Kd.R_mono (Kd.R_far (p := ⟨gb167, 2, none⟩) (Kd.R_far (p := ⟨gb167, 1, none⟩) (Kd.R_far (p := ⟨gb167, 0, none⟩) (Kd.R_types HO176.out BK167.out (by decide)) (fun _ hk => hk.2) (.slice Ao7 t171.length co7)) (fun _ hk => hk.2) (.slice Ao9 t174.length co9)) (fun _ hk => hk.2) (.slice Ao10 t177.length co10)) (fun _ hk => trivial), by (with_reducible repeat (first | apply Kd.R_alloc | apply Kd.R_drewN | apply Kd.R_drew)); exact Kd.R_mono (Kd.R_far (p := ⟨gb167, 2, none⟩) (Kd.R_far (p := ⟨gb167, 1, none⟩) (Kd.R_far (p := ⟨gb167, 0, none⟩) (Kd.R_types HO179.out BK167.out (by decide)) (fun _ hk => hk.2) (.slice Ao7 t171.length co7)) (fun _ hk => hk.2) (.slice Ao9 t174.length co9)) (fun _ hk => hk.2) (.slice Ao10 t177.length co10)) (fun _ hk => trivial), by repeat (first | (with_reducible first | exact HB.out | apply below_alloc | apply pw_below_drewN | apply below_drew1 | refine below_set ?_ GE167.out) | exact HB.out)⟩
def macadamlaw07_torn.f  : Option ((List (S92)) × (List (S90)) × (List (S43))) := (macadamlaw07_book.f (([(⟨1, 1⟩ : S43), (⟨2, 0⟩ : S43)] : List (S43)))).bind fun bt184 => (some (bt184.1, bt184.2.1, bt184.2.2))
set_option maxHeartbeats 8000000 in
set_option maxRecDepth 100000 in
theorem macadamlaw07_torn.calls  (r1 : List (S92)) (r2 : List (S90)) (r3 : List (S43)) (w : World) (h : macadamlaw07_torn.f  = some (r1, r2, r3)) :
    Calls Tryd.prog 72 #[] w fun e w' => ∃ v0_ v1_ v2_ : Value, e = .returned (.agg #[v0_, v1_, v2_]) ∧ Kd.R k92 92 w' w.heap.size (fun _ => True) v0_ r1 ∧ Kd.R k90 90 w' w.heap.size (fun _ => True) v1_ r2 ∧ Kd.R k43 43 w' w.heap.size (fun _ => True) v2_ r3 ∧ Below w.heap.size w w' := by
  have hu26 := Tryd.underlying26
  have hu43 := Tryd.underlying43
  have HB := Aside0.mk (Below.refl w.heap.size w)
  have H : ((macadamlaw07_book.f (([(⟨1, 1⟩ : S43), (⟨2, 0⟩ : S43)] : List (S43)))).bind fun bt184 => (some (bt184.1, bt184.2.1, bt184.2.2))) = some (r1, r2, r3) := h
  clear h
  obtain ⟨y181, hy181⟩ : ∃ y_ : List (S43), y_ = (([(⟨1, 1⟩ : S43), (⟨2, 0⟩ : S43)] : List (S43))) := ⟨_, rfl⟩
  replace H : ((macadamlaw07_book.f y181).bind fun bt184 => (some (bt184.1, bt184.2.1, bt184.2.2))) = some (r1, r2, r3) := by first | (rw [hy181]; with_reducible exact H) | (have H2_ := (Option.bind_some _ _).symm.trans H; rw [hy181]; with_reducible exact H2_) | (have H2_ := (Option.bind_some _ _).symm.trans H; with_reducible exact H2_) | with_reducible exact H | (rw [hy181]; exact H) | exact H
  have Ny181 := Aside0.mk hy181
  clear hy181
  replace H := Option.bind_eq_some_iff.mp H
  obtain ⟨⟨t184, t187, t190⟩, A10, H⟩ := H
  replace H : (some (t184, t187, t190)) = some (r1, r2, r3) := H
  have A1 := Aside0.mk A10
  clear A10
  simp only [Option.some.injEq, Prod.mk.injEq] at H
  obtain ⟨rfl, rfl, rfl⟩ := H
  go_enter Tryd.func72, Tryd.ntmps72
  go_wp2_with (first | ((with_reducible refine gate_dst (N := 0) rfl ?_); refine box_event ?hg (N := 0) ?hd (cs := #[.slice none 0 0, .slice none 0 0, .slice none 0 0]) (t := 26) ?hr ?_; (case hd => rfl); (case hg => rfl); (case hr => first | (go_simp; done) | (go_simp; rfl)); intro gb180 hg w2 hbox hb; have n0_ := Aside0.mk (below_step (by repeat (first | (with_reducible first | exact HB.out | apply below_alloc | apply pw_below_drewN | apply below_drew1) | exact HB.out)) hb); have n1_ := Aside0.mk (hbox); have n2_ := Aside0.mk ((by rw [hg]; exact (below_size (by repeat (first | (with_reducible first | exact HB.out | apply below_alloc | apply pw_below_drewN | apply below_drew1) | exact HB.out))) : w.heap.size ≤ gb180)); have n3_ := Aside0.mk ((by rw [hg]; exact (below_size (by repeat (first | (with_reducible first | exact HB.out | apply below_alloc | apply pw_below_drewN | apply below_drew1) | exact HB.out))) : w.heap.size ≤ gb180)); clear HB; have HB := n0_; have BK180 := n1_; have GW180 := n2_; have GE180 := n3_; clear n0_ n1_ n2_ n3_; clear hb hbox hg) | ((with_reducible refine gate_dst (N := 3) rfl ?_); refine Kd.R_lit k43 _ 43 ?hg (N := 3) ?hd (xs := ([(⟨1, 1⟩ : S43), (⟨2, 0⟩ : S43)] : List (S43))) (inner := [.int .i64 1, .int .i64 1, .int .i64 2, .int .i64 0]) (ok := fun _ => True) (okp := fun _ => True) ?hr ?hp (fun _ hk => hk) trivial (Below.refl _ _) (Nat.le_refl _) (by simp) ?_; (case hd => rfl); (case hg => rfl); (case hr => first | (go_simp; done) | (go_simp; rfl)); (case hp => exact (Reps.c2 (show Kd.M k43 _ _ _ (⟨1, 1⟩ : S43) [.int .i64 1, .int .i64 1] from (k43_mkM _ _ _ (⟨1, 1⟩ : S43) )) (Reps.c2 (show Kd.M k43 _ _ _ (⟨2, 0⟩ : S43) [.int .i64 2, .int .i64 0] from (k43_mkM _ _ _ (⟨2, 0⟩ : S43) )) (Reps.none _ _)))); intro v182 w3 ho4 hb hg_ hnew_; clear hg_ hnew_; (first | rw [← Ny181.out] at ho4 | (simp only [Int.reduceToNat] at ho4; rw [← Ny181.out] at ho4)); have n0_ := Aside0.mk (Kd.R_lower ho4 (below_size (by repeat (first | (with_reducible first | exact HB.out | apply below_alloc | apply pw_below_drewN | apply below_drew1 | refine below_set ?_ GE180.out) | exact HB.out)))); have n1_ := Aside0.mk (blk_below (g := gb180) (o := .cells #[.slice none 0 0, .slice none 0 0, .slice none 0 0] 26 (0, 0)) (by (with_reducible repeat (first | refine blk_drewN ?_ _ | refine blk_drew ?_ | refine blk_alloc ?_ _)); exact BK180.out) hb); have n2_ := Aside0.mk (below_step (by repeat (first | (with_reducible first | exact HB.out | apply below_alloc | apply pw_below_drewN | apply below_drew1 | refine below_set ?_ GE180.out) | exact HB.out)) hb); clear BK180; clear HB; have HO183 := n0_; have BK180 := n1_; have HB := n2_; clear n0_ n1_ n2_; clear hb ho4; obtain ⟨Ao5, co5, eo5⟩ := Kd.R_slice HO183.out; subst eo5) | ((with_reducible refine gate_callee (f := 71) rfl ?_); refine goesL_ (some 4) rfl rfl Tryd.func71 (by kernel_rfl) rfl #[.slice Ao5 y181.length co5] rfl (by (try simp only [List.map_toArray, List.map_cons, List.map_nil]); first | done | rfl | (simp only [List.length_drop, List.length_take]; rfl)) ?_; (with_reducible refine (macadamlaw07_book.calls (fun k_ => some k_ = (.slice Ao5 y181.length co5 : Value).ownBlock) (.slice Ao5 y181.length co5) y181 t184 t187 t190 w _ ?side1 ?side2 A1.out).mono ?_); (case side1 => repeat (first | (with_reducible first | exact HB.out | apply below_alloc | apply pw_below_drewN | apply below_drew1 | refine below_set ?_ GE180.out) | exact HB.out)); (case side2 => exact Kd.R_tight rfl HO183.out); rintro e w6 ⟨v185, v188, v191, rfl, ho0, ho1, ho2, hb, hkp⟩; refine ⟨_, rfl, ?_⟩; have n0_ := Aside0.mk (blk_kept (by (with_reducible repeat (first | refine blk_drewN ?_ _ | refine blk_drew ?_ | refine blk_alloc ?_ _)); exact BK180.out) hkp (fun hs_ => (fun e_ => (Kd.R_ne HO183.out BK180.out (by decide)) e_) hs_)); have n1_ := Aside0.mk (Kd.R_mono (ok' := fun k_ => True) ho0 (fun k_ hk_ => trivial)); have n2_ := Aside0.mk (Kd.R_mono (ok' := fun k_ => True) ho1 (fun k_ hk_ => trivial)); have n3_ := Aside0.mk (Kd.R_mono (ok' := fun k_ => True) ho2 (fun k_ hk_ => trivial)); have n4_ := Aside0.mk (hb); clear BK180; clear HB; clear HO183; have BK180 := n0_; have HO186 := n1_; have HO189 := n2_; have HO192 := n3_; have HB := n4_; clear n0_ n1_ n2_ n3_ n4_; (try clear hb); (try clear hkp); (try clear ho0); (try clear ho1); (try clear ho2); obtain ⟨Ao7, co7, eo7⟩ := Kd.R_slice HO186.out; subst eo7; have hcz8_0 : w6.cell? ⟨gb180, 0, none⟩ = some (.slice none 0 0) := (blk_cell BK180.out 0).trans rfl; have hcz8_1 : w6.cell? ⟨gb180, 1, none⟩ = some (.slice none 0 0) := (blk_cell BK180.out 1).trans rfl; have hcz8_2 : w6.cell? ⟨gb180, 2, none⟩ = some (.slice none 0 0) := (blk_cell BK180.out 2).trans rfl; have hfz8_0 := blk_frozen BK180.out 0; have hfz8_1 := blk_frozen BK180.out 1; have hfz8_2 := blk_frozen BK180.out 2; obtain ⟨Ao9, co9, eo9⟩ := Kd.R_slice HO189.out; subst eo9; obtain ⟨Ao10, co10, eo10⟩ := Kd.R_slice HO192.out; subst eo10))
  refine bodyPost_ret (results_cell_row rfl _ _ gb180 26 #[.slice Ao7 t184.length co7, .slice Ao9 t187.length co9, .slice Ao10 t190.length co10] (0, 0) _ rfl (by (with_reducible repeat (first | refine blk_drewN ?_ _ | refine blk_drew ?_ | refine blk_alloc ?_ _)); refine blk_put (cs := #[.slice Ao7 t184.length co7, .slice Ao9 t187.length co9, .slice none 0 0]) ?_ 2 _ rfl; (with_reducible repeat (first | refine blk_drewN ?_ _ | refine blk_drew ?_ | refine blk_alloc ?_ _)); refine blk_put (cs := #[.slice Ao7 t184.length co7, .slice none 0 0, .slice none 0 0]) ?_ 1 _ rfl; (with_reducible repeat (first | refine blk_drewN ?_ _ | refine blk_drew ?_ | refine blk_alloc ?_ _)); refine blk_put (cs := #[.slice none 0 0, .slice none 0 0, .slice none 0 0]) ?_ 0 _ rfl; (with_reducible repeat (first | refine blk_drewN ?_ _ | refine blk_drew ?_ | refine blk_alloc ?_ _)); exact BK180.out) Tryd.underlying26 rfl (by kernel_rfl)) rfl ?_
  exact ⟨_, _, _, by first | rfl | exact congrArg (fun b_ => Ending.returned (.bool b_)) HT.out | (simp [errW_none, errW_some] <;> rfl) | (simp [*, errW_none, errW_some] <;> rfl), by (with_reducible repeat (first | apply Kd.R_alloc | apply Kd.R_drewN | apply Kd.R_drew)); exact Kd.R_mono (Kd.R_far (p := ⟨gb180, 2, none⟩) (Kd.R_far (p := ⟨gb180, 1, none⟩) (Kd.R_far (p := ⟨gb180, 0, none⟩) (Kd.R_types HO186.out BK180.out (by decide)) (fun _ hk => hk.2) (.slice Ao7 t184.length co7)) (fun _ hk => hk.2) (.slice Ao9 t187.length co9)) (fun _ hk => hk.2) (.slice Ao10 t190.length co10)) (fun _ hk => trivial), by (with_reducible repeat (first | apply Kd.R_alloc | apply Kd.R_drewN | apply Kd.R_drew)); exact Kd.R_mono (Kd.R_far (p := ⟨gb180, 2, none⟩) (Kd.R_far (p := ⟨gb180, 1, none⟩) (Kd.R_far (p := ⟨gb180, 0, none⟩) (Kd.R_types HO189.out BK180.out (by decide)) (fun _ hk => hk.2) (.slice Ao7 t184.length co7)) (fun _ hk => hk.2) (.slice Ao9 t187.length co9)) (fun _ hk => hk.2) (.slice Ao10 t190.length co10)) (fun _ hk => trivial), by (with_reducible repeat (first | apply Kd.R_alloc | apply Kd.R_drewN | apply Kd.R_drew)); exact Kd.R_mono (Kd.R_far (p := ⟨gb180, 2, none⟩) (Kd.R_far (p := ⟨gb180, 1, none⟩) (Kd.R_far (p := ⟨gb180, 0, none⟩) (Kd.R_types HO192.out BK180.out (by decide)) (fun _ hk => hk.2) (.slice Ao7 t184.length co7)) (fun _ hk => hk.2) (.slice Ao9 t187.length co9)) (fun _ hk => hk.2) (.slice Ao10 t190.length co10)) (fun _ hk => trivial), by repeat (first | (with_reducible first | exact HB.out | apply below_alloc | apply pw_below_drewN | apply below_drew1 | refine below_set ?_ GE180.out) | exact HB.out)⟩
def macadamref00_Like.l0 : Nat → List Int → List Int → Bool → Int → Option (Bool)
  | 0, _, _, _, _ => none
  | k + 1, x0, x1, x5, x6 => if x5 = true then (if x6 < (x0.length : Int) then (if 0 ≤ x6 then (if x6 < (x1.length : Int) then (macadamref00_Like.l0 k x0 x1 ((rd x0 x6) == (rd x1 x6)) (wrap64 (x6 + 1))) else (none)) else (none)) else (some x5)) else (some x5)
def macadamref00_Like.f (k : Nat) (l0 : List Int) (l1 : List Int) : Option (Bool) := macadamref00_Like.l0 k l0 l1 ((l0.length : Int) == (l1.length : Int)) 0
set_option maxHeartbeats 8000000 in
set_option maxRecDepth 100000 in
theorem macadamref00_Like.calls (k : Nat) (A0 : Option Addr) (c0 : Nat) (l0 : List Int) (A1 : Option Addr) (c1 : Nat) (l1 : List Int) (r : Bool) (w : World) (hr0 : Kd.C (Kd.int .i64) w A0 l0.length l0) (hc0 : l0.length ≤ c0) (hr1 : Kd.C (Kd.int .i64) w A1 l1.length l1) (hc1 : l1.length ≤ c1) (h : macadamref00_Like.f k l0 l1 = some r) :
    Calls Tryd.prog 42 #[.slice A0 l0.length c0, .slice A1 l1.length c1] w fun e w' => e = .returned (.bool r) ∧ Drawn0 w w' := by
  have HR0 := Aside0.mk hr0
  have HC0 := Aside0.mk hc0
  clear hr0 hc0
  have HR1 := Aside0.mk hr1
  have HC1 := Aside0.mk hc1
  clear hr1 hc1
  have H : (macadamref00_Like.l0 k l0 l1 ((l0.length : Int) == (l1.length : Int)) 0) = some r := h
  clear h
  have H' := Aside0.mk H
  clear H
  go_enter Tryd.func42, Tryd.ntmps42
  go_wp2
  repeat (go_quiet (fail); try go_wp2)
  go_loopg [5, 6] k (fun kq v5 v6 w' => ∃ (x5_1 : Bool) (x6_1 : Int), v5 = .bool x5_1 ∧ v6 = .int .i64 x6_1 ∧ Aside0 (macadamref00_Like.l0 kq l0 l1 x5_1 x6_1 = some r) ∧ Aside0 (kq ≤ k) ∧ Drawn0 w w')
  case atStart => exact ⟨(((l0.length : Int) == (l1.length : Int))), (0), (by first | rfl | (simp; done) | (simp [*]; done)), (by first | rfl | (simp; done) | (simp [*]; done)), H', ⟨Nat.le_refl _⟩, by repeat (first | exact Drawn0.refl _ | apply Drawn0.step)⟩
  case round =>
    clear H'
    try clear c1
    try clear p2
    obtain ⟨x5_1, x6_1, rfl, rfl, HA, HK1, ⟨m1, rfl⟩⟩ := hrel
    cases gk with
    | zero => exact absurd HA.out (by simp [macadamref00_Like.l0])
    | succ k1 =>
      have H := HA.out
      clear HA
      simp only [macadamref00_Like.l0] at H
      by_cases c3 : x5_1 = true
      · subst c3
        have H1 : (if x6_1 < (l0.length : Int) then (if 0 ≤ x6_1 then (if x6_1 < (l1.length : Int) then (macadamref00_Like.l0 k1 l0 l1 ((rd l0 x6_1) == (rd l1 x6_1)) (wrap64 (x6_1 + 1))) else (none)) else (none)) else (some true)) = some r := by rw [if_pos rfl] at H; exact H
        clear H
        have H := H1
        clear H1
        by_cases c4 : x6_1 < (l0.length : Int)
        · rw [if_pos c4] at H
          have c4b0 : decide (x6_1 < (l0.length : Int)) = true := decide_eq_true c4
          clear c4
          by_cases c5 : 0 ≤ x6_1
          · rw [if_pos c5] at H
            have c5b0 : decide (0 ≤ x6_1) = true := decide_eq_true c5
            clear c5
            by_cases c6 : x6_1 < (l1.length : Int)
            · rw [if_pos c6] at H
              have c6b0 : decide (x6_1 < (l1.length : Int)) = true := decide_eq_true c6
              clear c6
              have H' := Aside0.mk H
              clear H
              have p193 : 0 ≤ (x6_1 : Int) := of_decide_eq_true (by first | (with_reducible assumption) | assumption)
              have q193 : x6_1 < (l0.length : Int) := of_decide_eq_true (by first | (with_reducible assumption) | assumption)
              obtain ⟨ad193, e193, hx193_0⟩ := Kd.at_int HR0.out x6_1 p193 q193
              cases e193
              replace p193 := eq_true p193
              replace q193 := eq_true q193
              have p194 : 0 ≤ (x6_1 : Int) := of_decide_eq_true (by first | (with_reducible assumption) | assumption)
              have q194 : x6_1 < (l1.length : Int) := of_decide_eq_true (by first | (with_reducible assumption) | assumption)
              obtain ⟨ad194, e194, hx194_0⟩ := Kd.at_int HR1.out x6_1 p194 q194
              cases e194
              replace p194 := eq_true p194
              replace q194 := eq_true q194
              go_wp2
              repeat (go_quiet (fail); try go_wp2)
              go_roundg k1
              case measure => have := HK1.out; omega
              case rel => exact ⟨(((rd l0 x6_1) == (rd l1 x6_1))), (wrap64 (x6_1 + 1)), (by first | rfl | (simp; done) | (simp [*]; done)), (by first | rfl | (simp; done) | (simp [*]; done)), H', ⟨by have := HK1.out; omega⟩, by repeat (first | exact Drawn0.refl _ | apply Drawn0.step)⟩
            · rw [if_neg c6] at H
              exact absurd H (by simp)
          · rw [if_neg c5] at H
            exact absurd H (by simp)
        · rw [if_neg c4] at H
          have c4b0 : decide (x6_1 < (l0.length : Int)) = false := decide_eq_false c4
          clear c4
          obtain rfl := Option.some.inj H
          go_wp2
          repeat (go_quiet (fail); try go_wp2)
          go_ret
          exact ⟨by first | rfl | (simp; done) | (simp [*]; done), by repeat (first | exact Drawn0.refl _ | apply Drawn0.step)⟩
      · replace c3 := Bool.eq_false_iff.mpr c3
        subst c3
        have H1 : (some false) = some r := by rw [if_neg (show ¬ (false = true) by decide)] at H; exact H
        clear H
        have H := H1
        clear H1
        obtain rfl := Option.some.inj H
        go_wp2
        repeat (go_quiet (fail); try go_wp2)
        go_ret
        exact ⟨by first | rfl | (simp; done) | (simp [*]; done), by repeat (first | exact Drawn0.refl _ | apply Drawn0.step)⟩
def macadamref00_Wrap.f (a0 : Int) (a1 : Int) : Option (Int) := if a1 ≤ 0 then (some 0) else (if a1 = 0 then (none) else (if (Int.tmod a0 a1) < 0 then (some (wrap64 ((Int.tmod a0 a1) + a1))) else (some (Int.tmod a0 a1))))
set_option maxHeartbeats 8000000 in
set_option maxRecDepth 100000 in
theorem macadamref00_Wrap.calls (a0 : Int) (a1 : Int) (r : Int) (w : World) (h : macadamref00_Wrap.f a0 a1 = some r) :
    Calls Tryd.prog 47 #[.int .i64 a0, .int .i64 a1] w fun e w' => e = .returned (.int .i64 r) ∧ Drawn0 w w' := by
  have H : (if a1 ≤ 0 then (some 0) else (if a1 = 0 then (none) else (if (Int.tmod a0 a1) < 0 then (some (wrap64 ((Int.tmod a0 a1) + a1))) else (some (Int.tmod a0 a1))))) = some r := h
  clear h
  by_cases c3 : a1 ≤ 0
  · rw [if_pos c3] at H
    have c3b0 : decide (a1 ≤ 0) = true := decide_eq_true c3
    clear c3
    obtain rfl := Option.some.inj H
    go_enter Tryd.func47, Tryd.ntmps47
    go_wp2
    go_ret
    exact ⟨by first | rfl | (simp; done) | (simp [*]; done), by repeat (first | exact Drawn0.refl _ | apply Drawn0.step)⟩
  · rw [if_neg c3] at H
    have c3b0 : decide (a1 ≤ 0) = false := decide_eq_false c3
    clear c3
    by_cases c4 : a1 = 0
    · rw [if_pos c4] at H
      exact absurd H (by simp)
    · rw [if_neg c4] at H
      have c4b0 : (a1 == 0) = false := beq_eq_false_iff_ne.mpr c4
      have c4b1 : (a1 != 0) = true := bne_iff_ne.mpr c4
      by_cases c5 : (Int.tmod a0 a1) < 0
      · rw [if_pos c5] at H
        have c5b0 : decide ((Int.tmod a0 a1) < 0) = true := decide_eq_true c5
        clear c5
        obtain rfl := Option.some.inj H
        go_enter Tryd.func47, Tryd.ntmps47
        go_wp2
        go_ret
        exact ⟨by first | rfl | (simp; done) | (simp [*]; done), by repeat (first | exact Drawn0.refl _ | apply Drawn0.step)⟩
      · rw [if_neg c5] at H
        have c5b0 : decide ((Int.tmod a0 a1) < 0) = false := decide_eq_false c5
        clear c5
        obtain rfl := Option.some.inj H
        go_enter Tryd.func47, Tryd.ntmps47
        go_wp2
        go_ret
        exact ⟨by first | rfl | (simp; done) | (simp [*]; done), by repeat (first | exact Drawn0.refl _ | apply Drawn0.step)⟩
def macadamref00_Amid.f (a0 : Int) (a1 : Int) (a2 : Int) : Option (Bool) := if a1 ≤ a0 then (some (decide (a0 ≤ a2))) else (some false)
set_option maxHeartbeats 8000000 in
set_option maxRecDepth 100000 in
theorem macadamref00_Amid.calls (a0 : Int) (a1 : Int) (a2 : Int) (r : Bool) (w : World) (h : macadamref00_Amid.f a0 a1 a2 = some r) :
    Calls Tryd.prog 60 #[.int .i64 a0, .int .i64 a1, .int .i64 a2] w fun e w' => e = .returned (.bool r) ∧ Drawn0 w w' := by
  have H : (if a1 ≤ a0 then (some (decide (a0 ≤ a2))) else (some false)) = some r := h
  clear h
  by_cases c4 : a1 ≤ a0
  · rw [if_pos c4] at H
    have c4b0 : decide (a1 ≤ a0) = true := decide_eq_true c4
    clear c4
    obtain rfl := Option.some.inj H
    go_enter Tryd.func60, Tryd.ntmps60
    go_wp2
    go_ret
    exact ⟨by first | rfl | (simp; done) | (simp [*]; done), by repeat (first | exact Drawn0.refl _ | apply Drawn0.step)⟩
  · rw [if_neg c4] at H
    have c4b0 : decide (a1 ≤ a0) = false := decide_eq_false c4
    clear c4
    obtain rfl := Option.some.inj H
    go_enter Tryd.func60, Tryd.ntmps60
    go_wp2
    go_ret
    exact ⟨by first | rfl | (simp; done) | (simp [*]; done), by repeat (first | exact Drawn0.refl _ | apply Drawn0.step)⟩
def macadamref00_Sane.f (a0_0 : Int) (a0_1 : Int) (a1 : Int) (a2 : Int) (a3 : Int) : Option (Bool) := if a1 ≤ a0_0 then (if a0_0 ≤ a0_1 then (if a0_1 ≤ a2 then (some (decide ((wrap64 (a0_1 - a0_0)) ≤ a3))) else (some false)) else (some false)) else (some false)
set_option maxHeartbeats 8000000 in
set_option maxRecDepth 100000 in
theorem macadamref00_Sane.calls (a0_0 : Int) (a0_1 : Int) (a1 : Int) (a2 : Int) (a3 : Int) (r : Bool) (w : World) (h : macadamref00_Sane.f a0_0 a0_1 a1 a2 a3 = some r) :
    Calls Tryd.prog 62 #[.agg #[.int .i64 a0_0, .int .i64 a0_1], .int .i64 a1, .int .i64 a2, .int .i64 a3] w fun e w' => e = .returned (.bool r) ∧ Below w.heap.size w w' := by
  have hu32 := Tryd.underlying32
  have HB := Aside0.mk (Below.refl w.heap.size w)
  have H : (if a1 ≤ a0_0 then (if a0_0 ≤ a0_1 then (if a0_1 ≤ a2 then (some (decide ((wrap64 (a0_1 - a0_0)) ≤ a3))) else (some false)) else (some false)) else (some false)) = some r := h
  clear h
  by_cases c5 : a1 ≤ a0_0
  · rw [if_pos c5] at H
    have c5b0 : decide (a1 ≤ a0_0) = true := decide_eq_true c5
    clear c5
    by_cases c6 : a0_0 ≤ a0_1
    · rw [if_pos c6] at H
      have c6b0 : decide (a0_0 ≤ a0_1) = true := decide_eq_true c6
      clear c6
      by_cases c7 : a0_1 ≤ a2
      · rw [if_pos c7] at H
        have c7b0 : decide (a0_1 ≤ a2) = true := decide_eq_true c7
        clear c7
        obtain rfl := Option.some.inj H
        go_enter Tryd.func62, Tryd.ntmps62
        go_wp2_with (first | ((with_reducible refine gate_dst (N := 4) rfl ?_); refine box_event ?hg (N := 4) ?hd (cs := #[.int .i64 a0_0, .int .i64 a0_1]) (t := 32) ?hr ?_; (case hd => rfl); (case hg => rfl); (case hr => first | (go_simp; done) | (go_simp; rfl)); intro gb195 hg w8 hbox hb; have n0_ := Aside0.mk (below_step (by repeat (first | (with_reducible first | exact HB.out | apply below_alloc | apply pw_below_drewN | apply below_drew1) | exact HB.out)) hb); have n1_ := Aside0.mk (hbox); have n2_ := Aside0.mk ((by rw [hg]; exact (below_size (by repeat (first | (with_reducible first | exact HB.out | apply below_alloc | apply pw_below_drewN | apply below_drew1) | exact HB.out))) : w.heap.size ≤ gb195)); have n3_ := Aside0.mk ((by rw [hg]; exact (below_size (by repeat (first | (with_reducible first | exact HB.out | apply below_alloc | apply pw_below_drewN | apply below_drew1) | exact HB.out))) : w.heap.size ≤ gb195)); clear HB; have HB := n0_; have BK195 := n1_; have GW195 := n2_; have GE195 := n3_; clear n0_ n1_ n2_ n3_; clear hb hbox hg; have hcz9_0 : w8.cell? ⟨gb195, 0, none⟩ = some (.int .i64 a0_0) := (blk_cell BK195.out 0).trans rfl; have hcz9_1 : w8.cell? ⟨gb195, 1, none⟩ = some (.int .i64 a0_1) := (blk_cell BK195.out 1).trans rfl; have hfz9_0 := blk_frozen BK195.out 0; have hfz9_1 := blk_frozen BK195.out 1))
        go_ret
        exact ⟨by first | rfl | exact congrArg (fun b_ => Ending.returned (.bool b_)) HT.out | (simp [errW_none, errW_some] <;> rfl) | (simp [*, errW_none, errW_some] <;> rfl), by repeat (first | (with_reducible first | exact HB.out | apply below_alloc | apply pw_below_drewN | apply below_drew1 | refine below_set ?_ GE195.out) | exact HB.out)⟩
      · rw [if_neg c7] at H
        have c7b0 : decide (a0_1 ≤ a2) = false := decide_eq_false c7
        clear c7
        obtain rfl := Option.some.inj H
        go_enter Tryd.func62, Tryd.ntmps62
        go_wp2_with (first | ((with_reducible refine gate_dst (N := 4) rfl ?_); refine box_event ?hg (N := 4) ?hd (cs := #[.int .i64 a0_0, .int .i64 a0_1]) (t := 32) ?hr ?_; (case hd => rfl); (case hg => rfl); (case hr => first | (go_simp; done) | (go_simp; rfl)); intro gb195 hg w10 hbox hb; have n0_ := Aside0.mk (below_step (by repeat (first | (with_reducible first | exact HB.out | apply below_alloc | apply pw_below_drewN | apply below_drew1) | exact HB.out)) hb); have n1_ := Aside0.mk (hbox); have n2_ := Aside0.mk ((by rw [hg]; exact (below_size (by repeat (first | (with_reducible first | exact HB.out | apply below_alloc | apply pw_below_drewN | apply below_drew1) | exact HB.out))) : w.heap.size ≤ gb195)); have n3_ := Aside0.mk ((by rw [hg]; exact (below_size (by repeat (first | (with_reducible first | exact HB.out | apply below_alloc | apply pw_below_drewN | apply below_drew1) | exact HB.out))) : w.heap.size ≤ gb195)); clear HB; have HB := n0_; have BK195 := n1_; have GW195 := n2_; have GE195 := n3_; clear n0_ n1_ n2_ n3_; clear hb hbox hg; have hcz11_0 : w10.cell? ⟨gb195, 0, none⟩ = some (.int .i64 a0_0) := (blk_cell BK195.out 0).trans rfl; have hcz11_1 : w10.cell? ⟨gb195, 1, none⟩ = some (.int .i64 a0_1) := (blk_cell BK195.out 1).trans rfl; have hfz11_0 := blk_frozen BK195.out 0; have hfz11_1 := blk_frozen BK195.out 1))
        go_ret
        exact ⟨by first | rfl | exact congrArg (fun b_ => Ending.returned (.bool b_)) HT.out | (simp [errW_none, errW_some] <;> rfl) | (simp [*, errW_none, errW_some] <;> rfl), by repeat (first | (with_reducible first | exact HB.out | apply below_alloc | apply pw_below_drewN | apply below_drew1 | refine below_set ?_ GE195.out) | exact HB.out)⟩
    · rw [if_neg c6] at H
      have c6b0 : decide (a0_0 ≤ a0_1) = false := decide_eq_false c6
      clear c6
      obtain rfl := Option.some.inj H
      go_enter Tryd.func62, Tryd.ntmps62
      go_wp2_with (first | ((with_reducible refine gate_dst (N := 4) rfl ?_); refine box_event ?hg (N := 4) ?hd (cs := #[.int .i64 a0_0, .int .i64 a0_1]) (t := 32) ?hr ?_; (case hd => rfl); (case hg => rfl); (case hr => first | (go_simp; done) | (go_simp; rfl)); intro gb195 hg w12 hbox hb; have n0_ := Aside0.mk (below_step (by repeat (first | (with_reducible first | exact HB.out | apply below_alloc | apply pw_below_drewN | apply below_drew1) | exact HB.out)) hb); have n1_ := Aside0.mk (hbox); have n2_ := Aside0.mk ((by rw [hg]; exact (below_size (by repeat (first | (with_reducible first | exact HB.out | apply below_alloc | apply pw_below_drewN | apply below_drew1) | exact HB.out))) : w.heap.size ≤ gb195)); have n3_ := Aside0.mk ((by rw [hg]; exact (below_size (by repeat (first | (with_reducible first | exact HB.out | apply below_alloc | apply pw_below_drewN | apply below_drew1) | exact HB.out))) : w.heap.size ≤ gb195)); clear HB; have HB := n0_; have BK195 := n1_; have GW195 := n2_; have GE195 := n3_; clear n0_ n1_ n2_ n3_; clear hb hbox hg; have hcz13_0 : w12.cell? ⟨gb195, 0, none⟩ = some (.int .i64 a0_0) := (blk_cell BK195.out 0).trans rfl; have hcz13_1 : w12.cell? ⟨gb195, 1, none⟩ = some (.int .i64 a0_1) := (blk_cell BK195.out 1).trans rfl; have hfz13_0 := blk_frozen BK195.out 0; have hfz13_1 := blk_frozen BK195.out 1))
      go_ret
      exact ⟨by first | rfl | exact congrArg (fun b_ => Ending.returned (.bool b_)) HT.out | (simp [errW_none, errW_some] <;> rfl) | (simp [*, errW_none, errW_some] <;> rfl), by repeat (first | (with_reducible first | exact HB.out | apply below_alloc | apply pw_below_drewN | apply below_drew1 | refine below_set ?_ GE195.out) | exact HB.out)⟩
  · rw [if_neg c5] at H
    have c5b0 : decide (a1 ≤ a0_0) = false := decide_eq_false c5
    clear c5
    obtain rfl := Option.some.inj H
    go_enter Tryd.func62, Tryd.ntmps62
    go_wp2_with (first | ((with_reducible refine gate_dst (N := 4) rfl ?_); refine box_event ?hg (N := 4) ?hd (cs := #[.int .i64 a0_0, .int .i64 a0_1]) (t := 32) ?hr ?_; (case hd => rfl); (case hg => rfl); (case hr => first | (go_simp; done) | (go_simp; rfl)); intro gb195 hg w14 hbox hb; have n0_ := Aside0.mk (below_step (by repeat (first | (with_reducible first | exact HB.out | apply below_alloc | apply pw_below_drewN | apply below_drew1) | exact HB.out)) hb); have n1_ := Aside0.mk (hbox); have n2_ := Aside0.mk ((by rw [hg]; exact (below_size (by repeat (first | (with_reducible first | exact HB.out | apply below_alloc | apply pw_below_drewN | apply below_drew1) | exact HB.out))) : w.heap.size ≤ gb195)); have n3_ := Aside0.mk ((by rw [hg]; exact (below_size (by repeat (first | (with_reducible first | exact HB.out | apply below_alloc | apply pw_below_drewN | apply below_drew1) | exact HB.out))) : w.heap.size ≤ gb195)); clear HB; have HB := n0_; have BK195 := n1_; have GW195 := n2_; have GE195 := n3_; clear n0_ n1_ n2_ n3_; clear hb hbox hg; have hcz15_0 : w14.cell? ⟨gb195, 0, none⟩ = some (.int .i64 a0_0) := (blk_cell BK195.out 0).trans rfl; have hcz15_1 : w14.cell? ⟨gb195, 1, none⟩ = some (.int .i64 a0_1) := (blk_cell BK195.out 1).trans rfl; have hfz15_0 := blk_frozen BK195.out 0; have hfz15_1 := blk_frozen BK195.out 1))
    go_ret
    exact ⟨by first | rfl | exact congrArg (fun b_ => Ending.returned (.bool b_)) HT.out | (simp [errW_none, errW_some] <;> rfl) | (simp [*, errW_none, errW_some] <;> rfl), by repeat (first | (with_reducible first | exact HB.out | apply below_alloc | apply pw_below_drewN | apply below_drew1 | refine below_set ?_ GE195.out) | exact HB.out)⟩
end Go.Proofs.YthgjedagbgmgmaaDoor.Pr
namespace Go.Proofs.YthgjedagbgmgmaaDoor.Pr
open Go.RowKit Go.Proofs.YthgjedagbgmgmaaDoorW.PrintWords Go.Proofs.YthgjedagbgmgmaaDoorW.PrintLast Go.Proofs.YthgjedagbgmgmaaDoorW.PrintMore
set_option linter.unusedVariables false
set_option linter.unusedSimpArgs false
def ownL : List S92 := [⟨5, 4⟩, ⟨4, 3⟩]
def ownD : List S90 := [⟨⟨3, 4⟩, 2⟩, ⟨⟨2, 3⟩, 3⟩, ⟨⟨3, 3⟩, 6⟩, ⟨⟨4, 4⟩, 2⟩]
def ownK : List S43 := []
def earlyK : List S43 := [⟨1, 1⟩]
def lateK : List S43 := [⟨2, 0⟩]
def tornK : List S43 := [⟨1, 1⟩, ⟨2, 0⟩]
/-- A book lies in memory. -/
structure BookAt (W : World) (A0 A1 A2 : Option Addr) (c0 c1 c2 : Nat) (l0 : List S92) (l1 : List S90) (l2 : List S43) : Prop where
  r0 : Kd.C k92 W A0 l0.length l0
  c0 : l0.length ≤ c0
  r1 : Kd.C k90 W A1 l1.length l1
  c1 : l1.length ≤ c1
  r2 : Kd.C k43 W A2 l2.length l2
  c2 : l2.length ≤ c2
theorem BookAt.below {W W' : World} {A0 A1 A2 : Option Addr} {c0 c1 c2 : Nat} {l0 : List S92} {l1 : List S90} {l2 : List S43} (h : BookAt W A0 A1 A2 c0 c1 c2 l0 l1 l2) (hb : Below W.heap.size W W') : BookAt W' A0 A1 A2 c0 c1 c2 l0 l1 l2 :=
  ⟨Kd.C_below h.r0 hb, h.c0, Kd.C_below h.r1 hb, h.c1, Kd.C_below h.r2 hb, h.c2⟩
theorem book_of {W : World} {base : Nat} {p0 p1 p2 : Nat → Prop} {v0 v1 v2 : Value} {l0 : List S92} {l1 : List S90} {l2 : List S43} (h0 : Kd.R k92 92 W base p0 v0 l0) (h1 : Kd.R k90 90 W base p1 v1 l1) (h2 : Kd.R k43 43 W base p2 v2 l2) :
    ∃ A0 A1 A2 c0 c1 c2, v0 = .slice A0 l0.length c0 ∧ v1 = .slice A1 l1.length c1 ∧ v2 = .slice A2 l2.length c2 ∧ BookAt W A0 A1 A2 c0 c1 c2 l0 l1 l2 := by
  obtain ⟨A0, c0, rfl⟩ := Kd.R_slice h0
  obtain ⟨A1, c1, rfl⟩ := Kd.R_slice h1
  obtain ⟨A2, c2, rfl⟩ := Kd.R_slice h2
  obtain ⟨_, a2, a3⟩ := Kd.R_reads' h0
  obtain ⟨_, b2, b3⟩ := Kd.R_reads' h1
  obtain ⟨_, d2, d3⟩ := Kd.R_reads' h2
  exact ⟨A0, A1, A2, c0, c1, c2, rfl, rfl, rfl, a3, a2, b3, b2, d3, d2⟩
theorem ownB_calls (w : World) : Calls Tryd.prog 70 #[] w fun e w' => ∃ A0 A1 A2 c0 c1 c2, e = .returned (.agg #[.slice A0 2 c0, .slice A1 4 c1, .slice A2 0 c2]) ∧ BookAt w' A0 A1 A2 c0 c1 c2 ownL ownD ownK ∧ Below w.heap.size w w' :=
  (macadamlaw07_own.calls ownL ownD ownK w (by rfl)).mono (by
    rintro e w' ⟨v0, v1, v2, rfl, h0, h1, h2, hb⟩
    obtain ⟨A0, A1, A2, c0, c1, c2, rfl, rfl, rfl, hk⟩ := book_of h0 h1 h2
    exact ⟨A0, A1, A2, c0, c1, c2, rfl, hk, hb⟩)
theorem earlyB_calls (w : World) : Calls Tryd.prog 74 #[] w fun e w' => ∃ A0 A1 A2 c0 c1 c2, e = .returned (.agg #[.slice A0 2 c0, .slice A1 4 c1, .slice A2 1 c2]) ∧ BookAt w' A0 A1 A2 c0 c1 c2 ownL ownD earlyK ∧ Below w.heap.size w w' :=
  (macadamlaw07_early.calls ownL ownD earlyK w (by rfl)).mono (by
    rintro e w' ⟨v0, v1, v2, rfl, h0, h1, h2, hb⟩
    obtain ⟨A0, A1, A2, c0, c1, c2, rfl, rfl, rfl, hk⟩ := book_of h0 h1 h2
    exact ⟨A0, A1, A2, c0, c1, c2, rfl, hk, hb⟩)
theorem lateB_calls (w : World) : Calls Tryd.prog 73 #[] w fun e w' => ∃ A0 A1 A2 c0 c1 c2, e = .returned (.agg #[.slice A0 2 c0, .slice A1 4 c1, .slice A2 1 c2]) ∧ BookAt w' A0 A1 A2 c0 c1 c2 ownL ownD lateK ∧ Below w.heap.size w w' :=
  (macadamlaw07_late.calls ownL ownD lateK w (by rfl)).mono (by
    rintro e w' ⟨v0, v1, v2, rfl, h0, h1, h2, hb⟩
    obtain ⟨A0, A1, A2, c0, c1, c2, rfl, rfl, rfl, hk⟩ := book_of h0 h1 h2
    exact ⟨A0, A1, A2, c0, c1, c2, rfl, hk, hb⟩)
theorem tornB_calls (w : World) : Calls Tryd.prog 72 #[] w fun e w' => ∃ A0 A1 A2 c0 c1 c2, e = .returned (.agg #[.slice A0 2 c0, .slice A1 4 c1, .slice A2 2 c2]) ∧ BookAt w' A0 A1 A2 c0 c1 c2 ownL ownD tornK ∧ Below w.heap.size w w' :=
  (macadamlaw07_torn.calls ownL ownD tornK w (by rfl)).mono (by
    rintro e w' ⟨v0, v1, v2, rfl, h0, h1, h2, hb⟩
    obtain ⟨A0, A1, A2, c0, c1, c2, rfl, rfl, rfl, hk⟩ := book_of h0 h1 h2
    exact ⟨A0, A1, A2, c0, c1, c2, rfl, hk, hb⟩)
theorem ev0 : boundF ownL ownD ownK 3 = (0, 2, 0) := by decide +kernel
theorem ev1 : laidF ownL ownD ownK = (7, 10, 0) := by decide +kernel
theorem ev2 : skyF ownL ownD lateK 2 = (4, 0) := by decide +kernel
theorem ev3 : doneF ownL ownD earlyK = (3, 0) := by decide +kernel
theorem ev4 : waterF ownL ownD ownK = (1, 0) := by decide +kernel
theorem ev5 : lostF ownL ownD earlyK = (0, 3, 0) := by decide +kernel
theorem ev6 : wagonsF ownL ownD ownK 1 = (2, 3, 0) := by decide +kernel
theorem ev7 : perhapsF ownL ownD ownK = (3, 0) := by decide +kernel
theorem ev8 : fitsF ownL ownD ownK ⟨3, 0⟩ = (true, 0) := by decide +kernel
theorem ev9 : wrongF ownL ownD tornK = ([0], 0) := by decide +kernel
theorem ev10 : rightF ownL ownD ownK = (true, 0) := by decide +kernel
end Go.Proofs.YthgjedagbgmgmaaDoor.Pr
namespace Go.Proofs.YthgjedagbgmgmaaDoor.Pr
open Go.ChangeShapes Go.WideShapes Go.ChangeAt Go.RowKit Go.Joins Go.Deep
open Go.Proofs.YthgjedagbgmgmaaDoorW.PrintWords Go.Proofs.YthgjedagbgmgmaaDoorW.PrintLast Go.Proofs.YthgjedagbgmgmaaDoorW.PrintMore
set_option linter.unusedVariables false
set_option linter.unusedSimpArgs false
theorem own : ownKnob Tryd.prog.godebug = none := by kernel_rfl
theorem laidOut : laidOutB Tryd.prog = true := by kernel_rfl
theorem gBegin : Tryd.prog.globalNamed "macadam/roll.begin" = some 0 := by kernel_rfl
theorem gSkies : Tryd.prog.globalNamed "macadam/roll.skies" = some 3 := by kernel_rfl
theorem tBegin : (Tryd.prog.globals[0]?).map (·.type) = some 116 := by kernel_rfl
theorem tSkies : (Tryd.prog.globals[3]?).map (·.type) = some 217 := by kernel_rfl
theorem cells2 : Tryd.prog.cellsOf 3 = 1 ∧ Tryd.prog.cellsOf 116 = 2 ∧ Tryd.prog.cellsOf 216 = 1 ∧ Tryd.prog.cellsOf 217 = 3 ∧ Tryd.prog.cellsOf 92 = 2 ∧ Tryd.prog.cellsOf 43 = 2 ∧ Tryd.prog.cellsOf 90 = 3 ∧ Tryd.prog.cellsOf 32 = 2 := by
  refine ⟨?_, ?_, ?_, ?_, ?_, ?_, ?_, ?_⟩ <;> kernel_rfl
def rollLaid : List (String × DataW Unit) := [("macadam/roll.begin", Rows.laid_macadam_roll_begin), ("macadam/roll.skies", Rows.laid_macadam_roll_skies)]
/-- What the rows' list gives. -/
theorem gok_of_laid {W : World} (h : laidMetH Tryd.prog rollLaid W) : GOK W := by
  have hd := (laidMetH_iff.1 h).1
  obtain ⟨g, t, cs, fuel, p, hg, ht, hv, htr⟩ := Go.Lib.laidMet.reads hd (n := "macadam/roll.begin") (d := Rows.laid_macadam_roll_begin) (by simp [rollLaid, Rows.laid_macadam_roll_begin, Rows.laid_macadam_roll_skies, DataW.handleName?])
  obtain rfl := Option.some.inj (gBegin.symm.trans hg)
  obtain rfl := Option.some.inj (tBegin.symm.trans ht)
  obtain ⟨y0, y1, n, hx, hl, h0, h1⟩ := trod_struct2 Tryd.underlying116 htr
  have hcs : cs.toList = [.int .i64 0, .int .i64 (-1)] := by
    rw [cells2.2.1] at hl
    rw [cells2.1] at h0 h1
    obtain ⟨a, ha, ea, _⟩ := DataW.trod_int Tryd.underlying3 h0
    obtain ⟨b, hb, eb, _⟩ := DataW.trod_int Tryd.underlying3 h1
    have hx1 := congrArg Prod.fst hx
    simp only [Rows.laid_macadam_roll_begin, ea, eb] at hx1
    injection hx1 with hx1
    injection hx1 with e0 hx1
    injection hx1 with e1 _
    injection e0 with e0
    injection e0 with _ e0
    injection e1 with e1
    injection e1 with _ e1
    subst e0
    subst e1
    match hm : cs.toList, hl with
    | [c0, c1], _ =>
      rw [hm] at ha hb
      simp at ha hb
      rw [ha, hb]
  obtain ⟨g, t, cs3, fuel, p, hg3, ht3, hv3, htr3⟩ := h.funcs (n := "macadam/roll.skies") (List.mem_cons_of_mem _ (List.mem_singleton.2 rfl))
  obtain rfl := Option.some.inj (gSkies.symm.trans hg3)
  obtain rfl := Option.some.inj (tSkies.symm.trans ht3)
  obtain ⟨xs, m, _, hx3, hl3, hxl, hall⟩ := DataW.trod_array Tryd.underlying217 htr3
  rw [cells2.2.2.2.1] at hl3
  have hfs : cs3.toList = [.func (.func 198) #[] #[], .func (.func 193) #[] #[], .func (.func 199) #[] #[]] := by
    rw [cells2.2.2.1] at hall
    match hm : cs3.toList, hl3, hxs : xs, hxl with
    | [c0, c1, c2], _, [x0, x1, x2], _ =>
      rw [hm] at hall
      have a0 := hall 0 (by omega)
      have a1 := hall 1 (by omega)
      have a2 := hall 2 (by omega)
      simp at a0 a1 a2
      have hf := congrArg Prod.fst hx3
      simp only [List.map_cons, List.map_nil] at hf
      have hf' : (DataW.agg [DataW.held [40, 109, 97, 99, 97, 100, 97, 109, 47, 114, 111, 108, 108, 46, 115, 116, 97, 116, 101, 41, 46, 100, 114, 121], DataW.held [40, 109, 97, 99, 97, 100, 97, 109, 47, 114, 111, 108, 108, 46, 115, 116, 97, 116, 101, 41, 46, 100, 97, 109, 112], DataW.held [40, 109, 97, 99, 97, 100, 97, 109, 47, 114, 111, 108, 108, 46, 115, 116, 97, 116, 101, 41, 46, 119, 101, 116]] : DataW (List UInt8)) = DataW.agg [x0.1, x1.1, x2.1] := hf
      injection hf' with hf'
      injection hf' with e0 hf'
      injection hf' with e1 hf'
      injection hf' with e2 _
      obtain ⟨d0, q0⟩ := x0
      obtain ⟨d1, q1⟩ := x1
      obtain ⟨d2, q2⟩ := x2
      simp only at e0 e1 e2
      subst e0
      subst e1
      subst e2
      rw [func_of_trod (f0 := 198) Tryd.underlying216 (by kernel_rfl) a0, func_of_trod (f0 := 193) Tryd.underlying216 (by kernel_rfl) a1, func_of_trod (f0 := 199) Tryd.underlying216 (by kernel_rfl) a2]
  have c0 := World.var?_cell hg hv
  have c3 := World.var?_cell hg3 hv3
  have e0 : cs = #[.int .i64 0, .int .i64 (-1)] := by rw [← Array.toList_inj]; exact hcs
  have e3 : cs3 = #[.func (.func 198) #[] #[], .func (.func 193) #[] #[], .func (.func 199) #[] #[]] := by rw [← Array.toList_inj]; exact hfs
  subst e0
  subst e3
  have s0 := c3 0
  exact ⟨World.block_lt_of_cell? W ⟨3, 0, none⟩ (c3 0), c0 0, c0 1, c3 0, c3 1, c3 2⟩
section
variable {H : Type} {enc : TypeId × Value → H} {w : World} {base : Nat} {spare : Nat → Bool} {held : Bool}
theorem cells_at {P : Program} {b n : Nat} {a : Addr} {cs : List Value} (h : w.cells? b a n = some cs) : cs.length = n ∧ ∀ j, j < n → w.cell? (a.add j) = cs[j]? := by
  obtain ⟨_, hl, hat⟩ := World.cells?_some h
  exact ⟨hl, hat⟩
theorem elem92 {fuel : Nat} {cs : List Value} {y : DataW H × List MemPlace} (h : DataW.trod enc Tryd.prog w base spare held fuel 92 cs = some y) : ∃ x : S92, cs = e92 x := by
  obtain ⟨y0, y1, n, hx, hl, h0, h1⟩ := trod_struct2 Tryd.underlying92 h
  rw [cells2.2.2.2.2.1] at hl
  rw [cells2.1] at h0 h1
  obtain ⟨a, ha, _, _⟩ := DataW.trod_int Tryd.underlying3 h0
  obtain ⟨b, hb, _, _⟩ := DataW.trod_int Tryd.underlying3 h1
  match cs, hl with
  | [c0, c1], _ =>
    simp at ha hb
    exact ⟨⟨a, b⟩, by rw [ha, hb]; rfl⟩
theorem elem43 {fuel : Nat} {cs : List Value} {y : DataW H × List MemPlace} (h : DataW.trod enc Tryd.prog w base spare held fuel 43 cs = some y) : ∃ x : S43, cs = e43 x := by
  obtain ⟨y0, y1, n, hx, hl, h0, h1⟩ := trod_struct2 Tryd.underlying43 h
  rw [cells2.2.2.2.2.2.1] at hl
  rw [cells2.1] at h0 h1
  obtain ⟨a, ha, _, _⟩ := DataW.trod_int Tryd.underlying3 h0
  obtain ⟨b, hb, _, _⟩ := DataW.trod_int Tryd.underlying3 h1
  match cs, hl with
  | [c0, c1], _ =>
    simp at ha hb
    exact ⟨⟨a, b⟩, by rw [ha, hb]; rfl⟩
set_option maxRecDepth 100000 in
theorem elem90 {fuel : Nat} {cs : List Value} {y : DataW H × List MemPlace} (h : DataW.trod enc Tryd.prog w base spare held fuel 90 cs = some y) : ∃ x : S90, cs = e90 x := by
  obtain ⟨y0, y1, n, hx, hl, h0, h1⟩ := trod_struct2 Tryd.underlying90 h
  rw [cells2.2.2.2.2.2.2.1] at hl
  obtain ⟨b, hb, _, _⟩ := DataW.trod_int Tryd.underlying3 h1
  obtain ⟨z0, z1, n, hz, hlz, g0, g1⟩ := trod_struct2 Tryd.underlying32 h0
  rw [cells2.1] at g0 g1
  obtain ⟨a, ha, _, _⟩ := DataW.trod_int Tryd.underlying3 g0
  obtain ⟨d, hd, _, _⟩ := DataW.trod_int Tryd.underlying3 g1
  match cs, hl with
  | [c0, c1, c2], _ =>
    simp [cells2.2.2.2.2.2.2.2, cells2.1] at ha hb hd
    exact ⟨⟨⟨a, d⟩, b⟩, by rw [ha, hb, hd]; rfl⟩
/-- A slice of elements that came in, as a row. -/
theorem open_rowOf {α : Type} {d : Kd α} {enc' : α → List Value} {t e sz : Nat} {v : Value} {y : DataW H × List MemPlace} {n : Nat} (ht : Tryd.prog.underlying t = some (.slice e)) (hsz : Tryd.prog.cellsOf e = sz) (hd : d.sz = sz) (hl : ∀ x, (enc' x).length = sz) (hK : ∀ x, d.K w x (enc' x))
    (he : ∀ {fuel : Nat} {cs : List Value} {y : DataW H × List MemPlace}, DataW.trod enc Tryd.prog w base spare held fuel e cs = some y → ∃ x : α, cs = enc' x) (h : DataW.trod enc Tryd.prog w base spare held n t [v] = some y) :
    ∃ A l c, v = .slice A l.length c ∧ Kd.C d w A l.length l ∧ l.length ≤ c := by
  rcases open_slice ht h with ⟨hcs, _⟩ | ⟨a, len, cap, m, n', D, Pl, hcs, hb, hl1, hm, hmm, hx, hi⟩
  · injection hcs with hcs
    exact ⟨none, [], 0, hcs, ⟨rfl, by simp, fun h => by simp at h⟩, Nat.le_refl _⟩
  · injection hcs with hcs
    subst hcs
    have hml : len ≤ m := by
      rw [hmm]
      split <;> omega
    have hel : ∀ i, i < len → ∃ x : α, ∀ j, j < sz → w.cell? ((a.add (i * sz)).add j) = (enc' x)[j]? := by
      intro i hil
      obtain ⟨cs', hc, htr⟩ := hi i (by omega)
      obtain ⟨x, rfl⟩ := he htr
      rw [hsz] at hc
      exact ⟨x, (cells_at (P := Tryd.prog) hc).2⟩
    obtain ⟨l, hll, hat⟩ : ∃ l : List α, l.length = len ∧ ∀ i (h : i < l.length), ∀ j, j < sz → w.cell? ((a.add (i * sz)).add j) = (enc' l[i])[j]? := by
      clear hi hx hmm hm hl1 h hml
      induction len with
      | zero => exact ⟨[], rfl, fun i h => by simp at h⟩
      | succ k ih =>
        obtain ⟨l, hl', hat⟩ := ih (fun i hi => hel i (by omega))
        obtain ⟨x, hx⟩ := hel k (by omega)
        refine ⟨l ++ [x], by simp [hl'], fun i h j hj => ?_⟩
        by_cases hik : i < l.length
        · rw [List.getElem_append_left hik]
          exact hat i hik j hj
        · have : i = l.length := by simp at h; omega
          subst this
          rw [List.getElem_append_right (Nat.le_refl _)]
          simp only [Nat.sub_self, List.getElem_singleton]
          rw [hl']
          exact hx j hj
    subst hll
    refine ⟨some a, l, cap, rfl, ⟨rfl, by unfold maxLen at hm; omega, fun hp => ⟨a, rfl, fun j p hj => ?_⟩⟩, hl1⟩
    have hjl : j < l.length := (List.getElem?_eq_some_iff.1 hj).1
    have hpe : l[j] = p := (List.getElem?_eq_some_iff.1 hj).2
    refine ⟨enc' p, by rw [hl, hd], hK p, fun i u hu => ?_⟩
    have hil : i < sz := by
      have := (List.getElem?_eq_some_iff.1 hu).1
      rwa [hl] at this
    rw [hd, ← Go.Deep.add_add, hat j hjl i hil, hpe]
    exact hu
set_option maxRecDepth 100000 in
theorem open_book {r : Reach} {b0 : Nat} {v : Value} {d : DataW H} {p : List MemPlace} (hv : Value.okWide Tryd.prog w r b0 26 v) (h : DataW.Trod enc Tryd.prog w base spare held 26 v d p) :
    ∃ A0 A1 A2 c0 c1 c2 l0 l1 l2, v = .agg #[.slice A0 (l0 : List S92).length c0, .slice A1 (l1 : List S90).length c1, .slice A2 (l2 : List S43).length c2] ∧ BookAt w A0 A1 A2 c0 c1 c2 l0 l1 l2 := by
  obtain ⟨v0, v1, v2, y0, y1, y2, n, rfl, _, _, h0, h1, h2⟩ := open_agg3 Tryd.underlying26 (by kernel_rfl) (by kernel_rfl) hv h
  obtain ⟨A0, l0, c0, rfl, r0, q0⟩ := open_rowOf (d := k92) (enc' := e92) Tryd.underlying22 cells2.2.2.2.2.1 rfl (fun _ => rfl) (fun x => k92_mk w x) (fun h => elem92 h) h0
  obtain ⟨A1, l1, c1, rfl, r1, q1⟩ := open_rowOf (d := k90) (enc' := e90) Tryd.underlying23 cells2.2.2.2.2.2.2.1 rfl (fun _ => rfl) (fun x => k90_mk w x) (fun h => elem90 h) h1
  obtain ⟨A2, l2, c2, rfl, r2, q2⟩ := open_rowOf (d := k43) (enc' := e43) Tryd.underlying24 cells2.2.2.2.2.2.1 rfl (fun _ => rfl) (fun x => k43_mk w x) (fun h => elem43 h) h2
  exact ⟨A0, A1, A2, c0, c1, c2, l0, l1, l2, rfl, r0, q0, r1, q1, r2, q2⟩
end
theorem door_met (os : Os) (args : Array Value) : laidMetH Tryd.prog rollLaid ((World.doorLaid Tryd.prog 600 os).forCall (fun _ _ => 0) ⟨#[], args, []⟩).memory :=
  laidMetH_of_parts3 (fuel := 8) (laidMet_of_run' 8 (by kernel_rfl) (by kernel_rfl)) (by kernel_rfl) (by kernel_rfl)
end Go.Proofs.YthgjedagbgmgmaaDoor.Pr
namespace Go.Proofs.YthgjedagbgmgmaaDoor.Pr
open Go.ChangeShapes Go.WideShapes Go.ChangeAt Go.RowKit Go.Joins Go.Deep
open Go.Proofs.YthgjedagbgmgmaaDoorW.PrintWords Go.Proofs.YthgjedagbgmgmaaDoorW.PrintLast Go.Proofs.YthgjedagbgmgmaaDoorW.PrintMore
set_option linter.unusedVariables false
set_option linter.unusedSimpArgs false
theorem elemI {H : Type} {enc : TypeId × Value → H} {w : World} {base : Nat} {spare : Nat → Bool} {held : Bool} {fuel : Nat} {cs : List Value} {y : DataW H × List MemPlace} (h : DataW.trod enc Tryd.prog w base spare held fuel 3 cs = some y) : ∃ x : Int, cs = eI x := by
  obtain ⟨a, ha, _, _⟩ := DataW.trod_int Tryd.underlying3 h
  exact ⟨a, ha⟩
set_option maxRecDepth 100000 in
theorem open_ints1 {H : Type} {enc : TypeId × Value → H} {w : World} {base : Nat} {spare : Nat → Bool} {held : Bool} {r : Reach} {b0 : Nat} {v : Value} {d : DataW H} {p : List MemPlace} (hv : Value.okWide Tryd.prog w r b0 45 v) (h : DataW.Trod enc Tryd.prog w base spare held 45 v d p) :
    ∃ A l c, v = .slice A (l : List Int).length c ∧ Kd.C (Kd.int .i64) w A l.length l ∧ l.length ≤ c := by
  obtain ⟨a, n, c, rfl⟩ := okWide_slice Tryd.underlying45 hv
  obtain ⟨fuel, hf⟩ := h
  have hf' : DataW.trod enc Tryd.prog w base spare held fuel 45 [.slice a n c] = some (d, p) := by simpa [Value.cells] using hf
  exact open_rowOf (d := Kd.int .i64) (enc' := eI) Tryd.underlying45 cells2.1 rfl (fun _ => rfl) (fun x => rfl) (fun h => elemI h) hf'
end Go.Proofs.YthgjedagbgmgmaaDoor.Pr
namespace Go.Proofs.YthgjedagbgmgmaaDoor.Pr
open Go.RowKit Go.Proofs.YthgjedagbgmgmaaDoorW.PrintWords Go.Proofs.YthgjedagbgmgmaaDoorW.PrintLast Go.Proofs.YthgjedagbgmgmaaDoorW.PrintMore
set_option linter.unusedVariables false
set_option linter.unusedSimpArgs false
theorem C_of_frow {w : World} {A : Option Addr} {xs : List Int} (h : FRow eI 1 w A xs) (hn : xs.length ≤ 1000) : Kd.C (Kd.int .i64) w A xs.length xs := by
  refine ⟨rfl, by omega, fun hp => ?_⟩
  rcases h with rfl | ⟨b, o, e, _, hc⟩
  · simp at hp
  · refine ⟨_, e, fun j p hj => ⟨eI p, rfl, rfl, fun i u hu => ?_⟩⟩
    rw [Addr.add_mid, ← Nat.add_assoc]
    exact hc j p hj i u hu
theorem rl0 (W : World) (A0 A1 A2 : Option Addr) (c0 c1 c2 : Nat) (hG : GOK W) (h : BookAt W A0 A1 A2 c0 c1 c2 ownL ownD ownK) : Calls Tryd.prog 21 #[.agg #[.slice A0 2 c0, .slice A1 4 c1, .slice A2 0 c2], .int .i64 3] W fun e w' => e = .returned (.tuple #[.agg #[.int .i64 0, .int .i64 2], .int .i64 0]) ∧ Below W.heap.size W w' := by
  have hc := bound_calls A0 A1 A2 c0 c1 c2 ownL ownD ownK W hG h.r0 h.c0 h.r1 h.c1 h.r2 h.c2 3
  rw [ev0] at hc
  exact hc
theorem rl1 (W : World) (A0 A1 A2 : Option Addr) (c0 c1 c2 : Nat) (hG : GOK W) (h : BookAt W A0 A1 A2 c0 c1 c2 ownL ownD ownK) : Calls Tryd.prog 30 #[.agg #[.slice A0 2 c0, .slice A1 4 c1, .slice A2 0 c2]] W fun e w' => e = .returned (.tuple #[.agg #[.int .i64 7, .int .i64 10], .int .i64 0]) ∧ Below W.heap.size W w' := by
  have hc := laid_calls A0 A1 A2 c0 c1 c2 ownL ownD ownK W hG h.r0 h.c0 h.r1 h.c1 h.r2 h.c2
  rw [ev1] at hc
  exact hc
theorem rl2 (W : World) (A0 A1 A2 : Option Addr) (c0 c1 c2 : Nat) (hG : GOK W) (h : BookAt W A0 A1 A2 c0 c1 c2 ownL ownD lateK) : Calls Tryd.prog 25 #[.agg #[.slice A0 2 c0, .slice A1 4 c1, .slice A2 1 c2], .int .i64 2] W fun e w' => e = .returned (.tuple #[.int .i64 4, .int .i64 0]) ∧ Below W.heap.size W w' := by
  have hc := sky_calls A0 A1 A2 c0 c1 c2 ownL ownD lateK W hG h.r0 h.c0 h.r1 h.c1 h.r2 h.c2 2
  rw [ev2] at hc
  exact hc
theorem rl3 (W : World) (A0 A1 A2 : Option Addr) (c0 c1 c2 : Nat) (hG : GOK W) (h : BookAt W A0 A1 A2 c0 c1 c2 ownL ownD earlyK) : Calls Tryd.prog 32 #[.agg #[.slice A0 2 c0, .slice A1 4 c1, .slice A2 1 c2]] W fun e w' => e = .returned (.tuple #[.int .i64 3, .int .i64 0]) ∧ Below W.heap.size W w' := by
  have hc := done_calls A0 A1 A2 c0 c1 c2 ownL ownD earlyK W hG h.r0 h.c0 h.r1 h.c1 h.r2 h.c2
  rw [ev3] at hc
  exact hc
theorem rl4 (W : World) (A0 A1 A2 : Option Addr) (c0 c1 c2 : Nat) (hG : GOK W) (h : BookAt W A0 A1 A2 c0 c1 c2 ownL ownD ownK) : Calls Tryd.prog 36 #[.agg #[.slice A0 2 c0, .slice A1 4 c1, .slice A2 0 c2]] W fun e w' => e = .returned (.tuple #[.int .i64 1, .int .i64 0]) ∧ Below W.heap.size W w' := by
  have hc := water_calls A0 A1 A2 c0 c1 c2 ownL ownD ownK W hG h.r0 h.c0 h.r1 h.c1 h.r2 h.c2
  rw [ev4] at hc
  exact hc
theorem rl5 (W : World) (A0 A1 A2 : Option Addr) (c0 c1 c2 : Nat) (hG : GOK W) (h : BookAt W A0 A1 A2 c0 c1 c2 ownL ownD earlyK) : Calls Tryd.prog 28 #[.agg #[.slice A0 2 c0, .slice A1 4 c1, .slice A2 1 c2]] W fun e w' => e = .returned (.tuple #[.agg #[.int .i64 0, .int .i64 3], .int .i64 0]) ∧ Below W.heap.size W w' := by
  have hc := lost_calls A0 A1 A2 c0 c1 c2 ownL ownD earlyK W hG h.r0 h.c0 h.r1 h.c1 h.r2 h.c2
  rw [ev5] at hc
  exact hc
theorem rl6 (W : World) (A0 A1 A2 : Option Addr) (c0 c1 c2 : Nat) (hG : GOK W) (h : BookAt W A0 A1 A2 c0 c1 c2 ownL ownD ownK) : Calls Tryd.prog 23 #[.agg #[.slice A0 2 c0, .slice A1 4 c1, .slice A2 0 c2], .int .i64 1] W fun e w' => e = .returned (.tuple #[.agg #[.int .i64 2, .int .i64 3], .int .i64 0]) ∧ Below W.heap.size W w' := by
  have hc := wagons_calls A0 A1 A2 c0 c1 c2 ownL ownD ownK W hG h.r0 h.c0 h.r1 h.c1 h.r2 h.c2 1
  rw [ev6] at hc
  exact hc
theorem rl7 (W : World) (A0 A1 A2 : Option Addr) (c0 c1 c2 : Nat) (hG : GOK W) (h : BookAt W A0 A1 A2 c0 c1 c2 ownL ownD ownK) : Calls Tryd.prog 34 #[.agg #[.slice A0 2 c0, .slice A1 4 c1, .slice A2 0 c2]] W fun e w' => e = .returned (.tuple #[.int .i64 3, .int .i64 0]) ∧ Below W.heap.size W w' := by
  have hc := perhaps_calls A0 A1 A2 c0 c1 c2 ownL ownD ownK W hG h.r0 h.c0 h.r1 h.c1 h.r2 h.c2
  rw [ev7] at hc
  exact hc
theorem rl8 (W : World) (A0 A1 A2 : Option Addr) (c0 c1 c2 : Nat) (hG : GOK W) (h : BookAt W A0 A1 A2 c0 c1 c2 ownL ownD ownK) : Calls Tryd.prog 38 #[.agg #[.slice A0 2 c0, .slice A1 4 c1, .slice A2 0 c2], .agg #[.int .i64 3, .int .i64 0]] W fun e w' => e = .returned (.tuple #[.bool true, .int .i64 0]) ∧ Below W.heap.size W w' := by
  have hc := fits_calls A0 A1 A2 c0 c1 c2 ownL ownD ownK W hG h.r0 h.c0 h.r1 h.c1 h.r2 h.c2 ⟨3, 0⟩
  rw [ev8] at hc
  exact hc
theorem rl9 (W : World) (A0 A1 A2 : Option Addr) (c0 c1 c2 : Nat) (hG : GOK W) (h : BookAt W A0 A1 A2 c0 c1 c2 ownL ownD tornK) : Calls Tryd.prog 40 #[.agg #[.slice A0 2 c0, .slice A1 4 c1, .slice A2 2 c2]] W fun e w' => ∃ A c, e = .returned (.tuple #[.slice A 1 c, .int .i64 0]) ∧ Kd.C (Kd.int .i64) w' A 1 [0] ∧ 1 ≤ c ∧ Below W.heap.size W w' := by
  have hc := wrong_calls A0 A1 A2 c0 c1 c2 ownL ownD tornK W hG h.r0 h.c0 h.r1 h.c1 h.r2 h.c2
  rw [ev9] at hc
  refine hc.mono ?_
  rintro e w' ⟨v, rfl, ⟨A, c, rfl, hF, hcc⟩, hb⟩
  exact ⟨A, c, rfl, C_of_frow hF (by decide), hcc, hb⟩
theorem rl10 (W : World) (A0 A1 A2 : Option Addr) (c0 c1 c2 : Nat) (hG : GOK W) (h : BookAt W A0 A1 A2 c0 c1 c2 ownL ownD ownK) : Calls Tryd.prog 17 #[.agg #[.slice A0 2 c0, .slice A1 4 c1, .slice A2 0 c2]] W fun e w' => e = .returned (.tuple #[.bool true, .int .i64 0]) ∧ Below W.heap.size W w' := by
  have hc := rightX_calls A0 A1 A2 c0 c1 c2 ownL ownD ownK W hG h.r0 h.c0 h.r1 h.c1 h.r2 h.c2
  rw [ev10] at hc
  exact hc
theorem C_new (W : World) : Kd.C (Kd.int .i64) (W.alloc (.cells #[.int .i64 0] 3)) (some ⟨W.heap.size, 0, none⟩) 1 [0] := by
  have h : FRow eI 1 (W.alloc (.cells #[.int .i64 0] 3)) (some ⟨W.heap.size, 0, none⟩) [0] := by
    refine .inr ⟨W.heap.size, 0, rfl, by simp, fun i x hx j v hv => ?_⟩
    rcases i with _ | i
    · rcases j with _ | j
      · injection hx with hx
        subst hx
        injection hv with hv
        subst hv
        exact (blk_cell (blk_new W _) 0).trans rfl
      · simp [eI] at hv
    · simp at hx
  exact C_of_frow h (by decide)
set_option maxHeartbeats 4000000 in
set_option maxRecDepth 100000 in
theorem rolled_calls (w : World) (hG : GOK w) : Calls Tryd.prog 27 #[] w fun e w' => e = .returned (.bool true) ∧ Below w.heap.size w w' := by
  go_enter Tryd.func27, Tryd.ntmps27
  have HG := Lib.hid hG
  clear hG
  have HB0 := Lib.hid (Below.refl w.heap.size w)
  go_wp2_with fail
  refine (ownB_calls _).mono ?_
  rintro e w1 ⟨A0, A1, A2, c0, c1, c2, rfl, hk, hb⟩
  have HB1 := Lib.hid (HB0.out.trans (below_weaken hb (HB0.out.size)))
  have HK := Lib.hid hk
  clear hk
  clear hb
  go_wp2_with fail
  refine (rl0 _ A0 A1 A2 c0 c1 c2 (HG.out.below HB1.out) HK.out).mono ?_
  rintro e w2 ⟨rfl, hb⟩
  have HB2 := Lib.hid (HB1.out.trans (below_weaken hb (HB1.out.size)))
  clear HK
  clear hb
  go_wp2_with fail
  refine (ownB_calls _).mono ?_
  rintro e w3 ⟨A0, A1, A2, c0, c1, c2, rfl, hk, hb⟩
  have K3 := Lib.hid (blk_below (blk_new w2 (.cells #[.int .i64 0, .int .i64 2] 32)) hb)
  have HB3 := Lib.hid ((HB2.out.alloc HB2.out.size (.cells #[.int .i64 0, .int .i64 2] 32)).trans (below_weaken hb ((HB2.out.alloc HB2.out.size (.cells #[.int .i64 0, .int .i64 2] 32)).size)))
  have HK := Lib.hid hk
  clear hk
  clear hb
  go_wp2_with fail
  refine (rl1 _ A0 A1 A2 c0 c1 c2 (HG.out.below HB3.out) HK.out).mono ?_
  rintro e w4 ⟨rfl, hb⟩
  have K3n := Lib.hid (blk_below K3.out hb)
  clear K3
  have K3 := K3n
  clear K3n
  have HB4 := Lib.hid (HB3.out.trans (below_weaken hb (HB3.out.size)))
  clear HK
  clear hb
  go_wp2_with fail
  refine (lateB_calls _).mono ?_
  rintro e w5 ⟨A0, A1, A2, c0, c1, c2, rfl, hk, hb⟩
  have K3n := Lib.hid (blk_below (blk_alloc K3.out (.cells #[.int .i64 7, .int .i64 10] 32)) hb)
  clear K3
  have K3 := K3n
  clear K3n
  have K5 := Lib.hid (blk_below (blk_new w4 (.cells #[.int .i64 7, .int .i64 10] 32)) hb)
  have HB5 := Lib.hid ((HB4.out.alloc HB4.out.size (.cells #[.int .i64 7, .int .i64 10] 32)).trans (below_weaken hb ((HB4.out.alloc HB4.out.size (.cells #[.int .i64 7, .int .i64 10] 32)).size)))
  have HK := Lib.hid hk
  clear hk
  clear hb
  go_wp2_with fail
  refine (rl2 _ A0 A1 A2 c0 c1 c2 (HG.out.below HB5.out) HK.out).mono ?_
  rintro e w6 ⟨rfl, hb⟩
  have K3n := Lib.hid (blk_below K3.out hb)
  clear K3
  have K3 := K3n
  clear K3n
  have K5n := Lib.hid (blk_below K5.out hb)
  clear K5
  have K5 := K5n
  clear K5n
  have HB6 := Lib.hid (HB5.out.trans (below_weaken hb (HB5.out.size)))
  clear HK
  clear hb
  go_wp2_with fail
  refine (earlyB_calls _).mono ?_
  rintro e w7 ⟨A0, A1, A2, c0, c1, c2, rfl, hk, hb⟩
  have K3n := Lib.hid (blk_below K3.out hb)
  clear K3
  have K3 := K3n
  clear K3n
  have K5n := Lib.hid (blk_below K5.out hb)
  clear K5
  have K5 := K5n
  clear K5n
  have HB7 := Lib.hid (HB6.out.trans (below_weaken hb (HB6.out.size)))
  have HK := Lib.hid hk
  clear hk
  clear hb
  go_wp2_with fail
  refine (rl3 _ A0 A1 A2 c0 c1 c2 (HG.out.below HB7.out) HK.out).mono ?_
  rintro e w8 ⟨rfl, hb⟩
  have K3n := Lib.hid (blk_below K3.out hb)
  clear K3
  have K3 := K3n
  clear K3n
  have K5n := Lib.hid (blk_below K5.out hb)
  clear K5
  have K5 := K5n
  clear K5n
  have HB8 := Lib.hid (HB7.out.trans (below_weaken hb (HB7.out.size)))
  clear HK
  clear hb
  go_wp2_with fail
  refine (ownB_calls _).mono ?_
  rintro e w9 ⟨A0, A1, A2, c0, c1, c2, rfl, hk, hb⟩
  have K3n := Lib.hid (blk_below K3.out hb)
  clear K3
  have K3 := K3n
  clear K3n
  have K5n := Lib.hid (blk_below K5.out hb)
  clear K5
  have K5 := K5n
  clear K5n
  have HB9 := Lib.hid (HB8.out.trans (below_weaken hb (HB8.out.size)))
  have HK := Lib.hid hk
  clear hk
  clear hb
  go_wp2_with fail
  refine (rl4 _ A0 A1 A2 c0 c1 c2 (HG.out.below HB9.out) HK.out).mono ?_
  rintro e w10 ⟨rfl, hb⟩
  have K3n := Lib.hid (blk_below K3.out hb)
  clear K3
  have K3 := K3n
  clear K3n
  have K5n := Lib.hid (blk_below K5.out hb)
  clear K5
  have K5 := K5n
  clear K5n
  have HB10 := Lib.hid (HB9.out.trans (below_weaken hb (HB9.out.size)))
  clear HK
  clear hb
  go_upto_region 6 with fail
  have hBD : Below w10.heap.size w10 w10.drew := by repeat (first | exact Below.refl _ _ | refine Below.alloc ?_ (by simp <;> omega) _ | refine Below.setCell ?_ (by simp <;> omega) _ | apply Below.drew)
  have K3D := Lib.hid (blk_below K3.out hBD)
  have K5D := Lib.hid (blk_below K5.out hBD)
  have HBD := Lib.hid (HB10.out.trans (below_weaken hBD HB10.out.size))
  clear hBD
  refine start_ (n := 40) (S := fun w' => w'.cell? ⟨w2.heap.size, 0, none⟩ = some (.int .i64 0) ∧ w'.cell? ⟨w2.heap.size, 1, none⟩ = some (.int .i64 2) ∧ w'.cell? ⟨w4.heap.size, 0, none⟩ = some (.int .i64 7) ∧ w'.cell? ⟨w4.heap.size, 1, none⟩ = some (.int .i64 10)) (ds := []) #[false, false, false, false, false, false, false, false, false, false, false, false, false, false, false, false, false, false, false, false, false, false, false, false, false, false, false, false, false, false, false, false, false, false, false, false, false, false, false, false] (by kernel_rfl) rfl rfl ⟨(blk_cell (K3D.out) 0).trans rfl, (blk_cell (K3D.out) 1).trans rfl, (blk_cell (K5D.out) 0).trans rfl, (blk_cell (K5D.out) 1).trans rfl⟩ (fun hHeld => ?_)
  refine pu_ 0 (some 43) ?_
  refine pu_ 1 (some 44) ?_
  refine pu_ 2 (some 45) ?_
  refine pu_ 3 (some 46) ?_
  refine pu_ 4 (some 47) ?_
  refine pu_ 5 (some 48) ?_
  refine pu_ 6 (some 49) ?_
  refine pu_ 7 (some 50) ?_
  refine pu_ 8 (some 51) ?_
  refine pu_ 9 (some 52) ?_
  refine pu_ 10 (some 53) ?_
  refine pu_ 11 (some 54) ?_
  refine pu_ 12 (some 55) ?_
  refine pu_ 13 (some 56) ?_
  refine pu_ 14 (some 57) ?_
  refine pu_ 15 (some 58) ?_
  refine pu_ 16 (some 59) ?_
  refine pu_ 17 (some 60) ?_
  refine pu_ 18 (some 61) ?_
  refine ta_ 19 (some 62) (s := hHeld) (y := by rintro w' ⟨s0, s1, s2, s3⟩; go_simp; with_reducible rfl) (h := ?_)
  refine one_ (i := 20) (N := some 63) #[true, true, true, true, true, true, true, true, true, true, true, true, true, true, true, true, true, true, true, true, true, false, false, false, false, false, false, false, false, false, false, false, false, false, false, false, false, false, false, false] rfl rfl (by kernel_rfl) (by decide) (fun K hK => ?_)
  refine goes_ Tryd.func55 (by kernel_rfl) rfl #[.int .i64 0, .int .i64 2] (by rfl) rfl rfl (by simp only [List.map_toArray, List.map_cons, List.map_nil]; rfl) ?_
  refine (macadamref00_Reach.calls 0 2 0 2 _ rfl).mono ?_
  rintro e wr6_0 ⟨rfl, hb⟩
  refine ⟨_, rfl, ?_⟩
  have K3r0 := Lib.hid (blk_below K3D.out hb)
  have K5r0 := Lib.hid (blk_below K5D.out hb)
  have HBr0 := Lib.hid (HBD.out.trans (below_weaken hb HBD.out.size))
  refine hK.out _ _ ⟨(blk_cell (K3r0.out) 0).trans rfl, (blk_cell (K3r0.out) 1).trans rfl, (blk_cell (K5r0.out) 0).trans rfl, (blk_cell (K5r0.out) 1).trans rfl⟩ (fun hHeld => ?_)
  clear hK K
  refine no_ 63 ?_
  refine pu_ 21 (some 64) ?_
  refine pu_ 22 (some 65) ?_
  refine pu_ 23 (some 66) ?_
  refine ta_ 24 (some 67) (s := hHeld) (y := by rintro w' ⟨s0, s1, s2, s3⟩; go_simp; with_reducible rfl) (h := ?_)
  refine one_ (i := 25) (N := some 68) #[true, true, true, true, true, true, true, true, true, true, true, true, true, true, true, true, true, true, true, true, true, true, true, true, true, true, false, false, false, false, false, false, false, false, false, false, false, false, false, false] rfl rfl (by kernel_rfl) (by decide) (fun K hK => ?_)
  refine goes_ Tryd.func55 (by kernel_rfl) rfl #[.int .i64 7, .int .i64 10] (by rfl) rfl rfl (by simp only [List.map_toArray, List.map_cons, List.map_nil]; rfl) ?_
  refine (macadamref00_Reach.calls 7 10 7 10 _ rfl).mono ?_
  rintro e w90 ⟨rfl, hb⟩
  refine ⟨_, rfl, ?_⟩
  have K3r1 := Lib.hid (blk_below K3r0.out hb)
  have K5r1 := Lib.hid (blk_below K5r0.out hb)
  have HBr1 := Lib.hid (HBr0.out.trans (below_weaken hb HBr0.out.size))
  refine hK.out _ _ ⟨(blk_cell (K3r1.out) 0).trans rfl, (blk_cell (K3r1.out) 1).trans rfl, (blk_cell (K5r1.out) 0).trans rfl, (blk_cell (K5r1.out) 1).trans rfl⟩ (fun hHeld => ?_)
  clear hK K
  refine no_ 68 ?_
  refine pu_ 26 (some 69) ?_
  refine pu_ 27 (some 70) ?_
  refine pu_ 28 (some 71) ?_
  refine pu_ 29 (some 72) ?_
  refine pu_ 30 (some 73) ?_
  refine pu_ 31 (some 74) ?_
  refine pu_ 32 (some 75) ?_
  refine pu_ 33 (some 76) ?_
  refine pu_ 34 (some 77) ?_
  refine pu_ 35 (some 78) ?_
  refine pu_ 36 (some 79) ?_
  refine pu_ 37 (some 80) ?_
  refine pu_ 38 (some 81) ?_
  refine pu_ 39 (some 82) ?_
  refine done_ (by kernel_rfl) ?_

  have HB90 := HBr1
  go_wp2_with fail
  refine (earlyB_calls _).mono ?_
  rintro e w11 ⟨A0, A1, A2, c0, c1, c2, rfl, hk, hb⟩
  have HB11 := Lib.hid (HB90.out.trans (below_weaken hb (HB90.out.size)))
  have HK := Lib.hid hk
  clear hk
  clear hb
  go_wp2_with fail
  refine (rl5 _ A0 A1 A2 c0 c1 c2 (HG.out.below HB11.out) HK.out).mono ?_
  rintro e w12 ⟨rfl, hb⟩
  have HB12 := Lib.hid (HB11.out.trans (below_weaken hb (HB11.out.size)))
  clear HK
  clear hb
  go_wp2_with fail
  refine (ownB_calls _).mono ?_
  rintro e w13 ⟨A0, A1, A2, c0, c1, c2, rfl, hk, hb⟩
  have K13 := Lib.hid (blk_below (blk_new w12 (.cells #[.int .i64 0, .int .i64 3] 32)) hb)
  have HB13 := Lib.hid ((HB12.out.alloc HB12.out.size (.cells #[.int .i64 0, .int .i64 3] 32)).trans (below_weaken hb ((HB12.out.alloc HB12.out.size (.cells #[.int .i64 0, .int .i64 3] 32)).size)))
  have HK := Lib.hid hk
  clear hk
  clear hb
  go_wp2_with fail
  refine (rl6 _ A0 A1 A2 c0 c1 c2 (HG.out.below HB13.out) HK.out).mono ?_
  rintro e w14 ⟨rfl, hb⟩
  have K13n := Lib.hid (blk_below K13.out hb)
  clear K13
  have K13 := K13n
  clear K13n
  have HB14 := Lib.hid (HB13.out.trans (below_weaken hb (HB13.out.size)))
  clear HK
  clear hb
  go_wp2_with fail
  refine (ownB_calls _).mono ?_
  rintro e w15 ⟨A0, A1, A2, c0, c1, c2, rfl, hk, hb⟩
  have K13n := Lib.hid (blk_below (blk_alloc K13.out (.cells #[.int .i64 2, .int .i64 3] 32)) hb)
  clear K13
  have K13 := K13n
  clear K13n
  have K15 := Lib.hid (blk_below (blk_new w14 (.cells #[.int .i64 2, .int .i64 3] 32)) hb)
  have HB15 := Lib.hid ((HB14.out.alloc HB14.out.size (.cells #[.int .i64 2, .int .i64 3] 32)).trans (below_weaken hb ((HB14.out.alloc HB14.out.size (.cells #[.int .i64 2, .int .i64 3] 32)).size)))
  have HK := Lib.hid hk
  clear hk
  clear hb
  go_wp2_with fail
  refine (rl7 _ A0 A1 A2 c0 c1 c2 (HG.out.below HB15.out) HK.out).mono ?_
  rintro e w16 ⟨rfl, hb⟩
  have K13n := Lib.hid (blk_below K13.out hb)
  clear K13
  have K13 := K13n
  clear K13n
  have K15n := Lib.hid (blk_below K15.out hb)
  clear K15
  have K15 := K15n
  clear K15n
  have HB16 := Lib.hid (HB15.out.trans (below_weaken hb (HB15.out.size)))
  clear HK
  clear hb
  go_wp2_with fail
  refine (ownB_calls _).mono ?_
  rintro e w17 ⟨A0, A1, A2, c0, c1, c2, rfl, hk, hb⟩
  have K13n := Lib.hid (blk_below K13.out hb)
  clear K13
  have K13 := K13n
  clear K13n
  have K15n := Lib.hid (blk_below K15.out hb)
  clear K15
  have K15 := K15n
  clear K15n
  have HB17 := Lib.hid (HB16.out.trans (below_weaken hb (HB16.out.size)))
  have HK := Lib.hid hk
  clear hk
  clear hb
  go_wp2_with fail
  refine (rl8 _ A0 A1 A2 c0 c1 c2 (HG.out.below HB17.out) HK.out).mono ?_
  rintro e w18 ⟨rfl, hb⟩
  have K13n := Lib.hid (blk_below K13.out hb)
  clear K13
  have K13 := K13n
  clear K13n
  have K15n := Lib.hid (blk_below K15.out hb)
  clear K15
  have K15 := K15n
  clear K15n
  have HB18 := Lib.hid (HB17.out.trans (below_weaken hb (HB17.out.size)))
  clear HK
  clear hb
  go_wp2_with fail
  refine (tornB_calls _).mono ?_
  rintro e w19 ⟨A0, A1, A2, c0, c1, c2, rfl, hk, hb⟩
  have K13n := Lib.hid (blk_below K13.out hb)
  clear K13
  have K13 := K13n
  clear K13n
  have K15n := Lib.hid (blk_below K15.out hb)
  clear K15
  have K15 := K15n
  clear K15n
  have HB19 := Lib.hid (HB18.out.trans (below_weaken hb (HB18.out.size)))
  have HK := Lib.hid hk
  clear hk
  clear hb
  go_wp2_with fail
  refine (rl9 _ A0 A1 A2 c0 c1 c2 (HG.out.below HB19.out) HK.out).mono ?_
  rintro e w20 ⟨A9, c9, rfl, hw9, hc9, hb⟩
  have K13n := Lib.hid (blk_below K13.out hb)
  clear K13
  have K13 := K13n
  clear K13n
  have K15n := Lib.hid (blk_below K15.out hb)
  clear K15
  have K15 := K15n
  clear K15n
  have HB20 := Lib.hid (HB19.out.trans (below_weaken hb (HB19.out.size)))
  have HW9 := Lib.hid hw9
  have HC9 := Lib.hid hc9
  clear hw9 hc9 HK
  clear hb
  go_wp2_with fail
  refine (ownB_calls _).mono ?_
  rintro e w21 ⟨A0, A1, A2, c0, c1, c2, rfl, hk, hb⟩
  have K13n := Lib.hid (blk_below K13.out hb)
  clear K13
  have K13 := K13n
  clear K13n
  have K15n := Lib.hid (blk_below K15.out hb)
  clear K15
  have K15 := K15n
  clear K15n
  have HB21 := Lib.hid (HB20.out.trans (below_weaken hb (HB20.out.size)))
  have HW9n := Lib.hid (Kd.C_below HW9.out hb)
  clear HW9
  have HW9 := HW9n
  clear HW9n
  have HK := Lib.hid hk
  clear hk
  clear hb
  go_wp2_with fail
  refine (rl10 _ A0 A1 A2 c0 c1 c2 (HG.out.below HB21.out) HK.out).mono ?_
  rintro e w22 ⟨rfl, hb⟩
  have K13n := Lib.hid (blk_below K13.out hb)
  clear K13
  have K13 := K13n
  clear K13n
  have K15n := Lib.hid (blk_below K15.out hb)
  clear K15
  have K15 := K15n
  clear K15n
  have HB22 := Lib.hid (HB21.out.trans (below_weaken hb (HB21.out.size)))
  have HW9n := Lib.hid (Kd.C_below HW9.out hb)
  clear HW9
  have HW9 := HW9n
  clear HW9n
  clear HK
  clear hb
  go_upto_region 14 with fail
  have hBD : Below w22.heap.size w22 w22.drew := by repeat (first | exact Below.refl _ _ | refine Below.alloc ?_ (by simp <;> omega) _ | refine Below.setCell ?_ (by simp <;> omega) _ | apply Below.drew)
  have K13D := Lib.hid (blk_below K13.out hBD)
  have K15D := Lib.hid (blk_below K15.out hBD)
  have HBD := Lib.hid (HB22.out.trans (below_weaken hBD HB22.out.size))
  have hcD := Kd.C_below HW9.out hBD
  clear hBD
  refine start_ (n := 48) (S := fun w' => w'.cell? ⟨w12.heap.size, 0, none⟩ = some (.int .i64 0) ∧ w'.cell? ⟨w12.heap.size, 1, none⟩ = some (.int .i64 3) ∧ w'.cell? ⟨w14.heap.size, 0, none⟩ = some (.int .i64 2) ∧ w'.cell? ⟨w14.heap.size, 1, none⟩ = some (.int .i64 3)) (ds := []) #[false, false, false, false, false, false, false, false, false, false, false, false, false, false, false, false, false, false, false, false, false, false, false, false, false, false, false, false, false, false, false, false, false, false, false, false, false, false, false, false, false, false, false, false, false, false, false, false] (by kernel_rfl) rfl rfl ⟨(blk_cell (K13D.out) 0).trans rfl, (blk_cell (K13D.out) 1).trans rfl, (blk_cell (K15D.out) 0).trans rfl, (blk_cell (K15D.out) 1).trans rfl⟩ (fun hHeld => ?_)
  refine pu_ 0 (some 114) ?_
  refine pu_ 1 (some 115) ?_
  refine pu_ 2 (some 116) ?_
  refine pu_ 3 (some 117) ?_
  refine pu_ 4 (some 118) ?_
  refine pu_ 5 (some 119) ?_
  refine pu_ 6 (some 120) ?_
  refine pu_ 7 (some 121) ?_
  refine pu_ 8 (some 122) ?_
  refine pu_ 9 (some 123) ?_
  refine pu_ 10 (some 124) ?_
  refine pu_ 11 (some 125) ?_
  refine pu_ 12 (some 126) ?_
  refine pu_ 13 (some 127) ?_
  refine pu_ 14 (some 128) ?_
  refine pu_ 15 (some 129) ?_
  refine pu_ 16 (some 130) ?_
  refine pu_ 17 (some 131) ?_
  refine pu_ 18 (some 132) ?_
  refine pu_ 19 (some 133) ?_
  refine pu_ 20 (some 134) ?_
  refine pu_ 21 (some 135) ?_
  refine pu_ 22 (some 136) ?_
  refine ta_ 23 (some 137) (s := hHeld) (y := by rintro w' ⟨s0, s1, s2, s3⟩; go_simp; with_reducible rfl) (h := ?_)
  refine one_ (i := 24) (N := some 138) #[true, true, true, true, true, true, true, true, true, true, true, true, true, true, true, true, true, true, true, true, true, true, true, true, true, false, false, false, false, false, false, false, false, false, false, false, false, false, false, false, false, false, false, false, false, false, false, false] rfl rfl (by kernel_rfl) (by decide) (fun K hK => ?_)
  refine goes_ Tryd.func55 (by kernel_rfl) rfl #[.int .i64 0, .int .i64 3] (by rfl) rfl rfl (by simp only [List.map_toArray, List.map_cons, List.map_nil]; rfl) ?_
  refine (macadamref00_Reach.calls 0 3 0 3 _ rfl).mono ?_
  rintro e wr14_0 ⟨rfl, hb⟩
  refine ⟨_, rfl, ?_⟩
  have K13r0 := Lib.hid (blk_below K13D.out hb)
  have K15r0 := Lib.hid (blk_below K15D.out hb)
  have HBr0 := Lib.hid (HBD.out.trans (below_weaken hb HBD.out.size))
  have hcr0 := Kd.C_below hcD hb
  refine hK.out _ _ ⟨(blk_cell (K13r0.out) 0).trans rfl, (blk_cell (K13r0.out) 1).trans rfl, (blk_cell (K15r0.out) 0).trans rfl, (blk_cell (K15r0.out) 1).trans rfl⟩ (fun hHeld => ?_)
  clear hK K
  refine no_ 138 ?_
  refine pu_ 25 (some 139) ?_
  refine pu_ 26 (some 140) ?_
  refine pu_ 27 (some 141) ?_
  refine ta_ 28 (some 142) (s := hHeld) (y := by rintro w' ⟨s0, s1, s2, s3⟩; go_simp; with_reducible rfl) (h := ?_)
  refine one_ (i := 29) (N := some 143) #[true, true, true, true, true, true, true, true, true, true, true, true, true, true, true, true, true, true, true, true, true, true, true, true, true, true, true, true, true, true, false, false, false, false, false, false, false, false, false, false, false, false, false, false, false, false, false, false] rfl rfl (by kernel_rfl) (by decide) (fun K hK => ?_)
  refine goes_ Tryd.func55 (by kernel_rfl) rfl #[.int .i64 2, .int .i64 3] (by rfl) rfl rfl (by simp only [List.map_toArray, List.map_cons, List.map_nil]; rfl) ?_
  refine (macadamref00_Reach.calls 2 3 2 3 _ rfl).mono ?_
  rintro e wr14_1 ⟨rfl, hb⟩
  refine ⟨_, rfl, ?_⟩
  have K13r1 := Lib.hid (blk_below K13r0.out hb)
  have K15r1 := Lib.hid (blk_below K15r0.out hb)
  have HBr1 := Lib.hid (HBr0.out.trans (below_weaken hb HBr0.out.size))
  have hcr1 := Kd.C_below hcr0 hb
  refine hK.out _ _ ⟨(blk_cell (K13r1.out) 0).trans rfl, (blk_cell (K13r1.out) 1).trans rfl, (blk_cell (K15r1.out) 0).trans rfl, (blk_cell (K15r1.out) 1).trans rfl⟩ (fun hHeld => ?_)
  clear hK K
  refine no_ 143 ?_
  refine pu_ 30 (some 144) ?_
  refine pu_ 31 (some 145) ?_
  refine pu_ 32 (some 146) ?_
  refine pu_ 33 (some 147) ?_
  refine pu_ 34 (some 148) ?_
  refine pu_ 35 (some 149) ?_
  refine pu_ 36 (some 150) ?_
  refine pu_ 37 (some 151) ?_
  refine pu_ 38 (some 152) ?_
  refine pu_ 39 (some 153) ?_
  refine pu_ 40 (some 154) ?_
  refine one_ (i := 41) (N := some 155) #[true, true, true, true, true, true, true, true, true, true, true, true, true, true, true, true, true, true, true, true, true, true, true, true, true, true, true, true, true, true, true, true, true, true, true, true, true, true, true, true, true, true, false, false, false, false, false, false] rfl rfl (by kernel_rfl) (by decide) (fun K hK => ?_)
  refine value_ (w1 := ?_) (v := ?_) (by rfl) rfl ?_ ?_
  rotate_left 2
  · go_simp
    constructor
    · rfl
    · rfl
  have hal : Below (wr14_1).heap.size (wr14_1) ((wr14_1).alloc (.cells #[.int .i64 0] 3)) := (Below.refl _ _).alloc (Nat.le_refl _) _
  have HBb := Lib.hid (HBr1.out.trans (below_weaken hal HBr1.out.size))
  have hcb := Kd.C_below hcr1 hal
  have hnb := C_new wr14_1
  have K13b := Lib.hid (blk_below K13r1.out hal)
  have K15b := Lib.hid (blk_below K15r1.out hal)
  refine hK.out _ _ ⟨(blk_cell (K13b.out) 0).trans rfl, (blk_cell (K13b.out) 1).trans rfl, (blk_cell (K15b.out) 0).trans rfl, (blk_cell (K15b.out) 1).trans rfl⟩ (fun hHeld => ?_)
  clear hK K
  refine no_ 155 ?_
  refine one_ (i := 42) (N := some 156) #[true, true, true, true, true, true, true, true, true, true, true, true, true, true, true, true, true, true, true, true, true, true, true, true, true, true, true, true, true, true, true, true, true, true, true, true, true, true, true, true, true, true, true, false, false, false, false, false] rfl rfl (by kernel_rfl) (by decide) (fun K hK => ?_)
  refine goes_ Tryd.func42 (by kernel_rfl) rfl #[.slice A9 1 c9, .slice (some ⟨(wr14_1).heap.size, 0, none⟩) 1 1] (by rfl) rfl rfl (by simp only [List.map_toArray, List.map_cons, List.map_nil]; rfl) ?_
  refine (macadamref00_Like.calls 5 A9 c9 [0] (some ⟨(wr14_1).heap.size, 0, none⟩) 1 [0] true _ hcb HC9.out hnb (Nat.le_refl _) (by decide +kernel)).mono ?_
  rintro e wl ⟨rfl, hd⟩
  refine ⟨_, rfl, ?_⟩
  have hb := hd.below
  have HBl := Lib.hid (HBb.out.trans (below_weaken hb HBb.out.size))
  have K13l := Lib.hid (blk_below K13b.out hb)
  have K15l := Lib.hid (blk_below K15b.out hb)
  refine hK.out _ _ ⟨(blk_cell (K13l.out) 0).trans rfl, (blk_cell (K13l.out) 1).trans rfl, (blk_cell (K15l.out) 0).trans rfl, (blk_cell (K15l.out) 1).trans rfl⟩ (fun hHeld => ?_)
  clear hK K
  refine no_ 156 ?_
  refine pu_ 43 (some 157) ?_
  refine pu_ 44 (some 158) ?_
  refine pu_ 45 (some 159) ?_
  refine pu_ 46 (some 160) ?_
  refine pu_ 47 (some 0) ?_
  refine done_ (by kernel_rfl) ?_

  go_wp2
  go_ret
  exact ⟨rfl, HBl.out⟩
end Go.Proofs.YthgjedagbgmgmaaDoor.Pr
namespace Go.Proofs.YthgjedagbgmgmaaDoor.Pr
open Go.RowKit Go.Proofs.YthgjedagbgmgmaaDoorW.PrintWords Go.Proofs.YthgjedagbgmgmaaDoorW.PrintLast Go.Proofs.YthgjedagbgmgmaaDoorW.PrintMore
set_option linter.unusedVariables false
set_option linter.unusedSimpArgs false
theorem amid_calls (n a b : Int) (w : World) : Calls Tryd.prog 60 #[.int .i64 n, .int .i64 a, .int .i64 b] w fun e w' => e = .returned (.bool (decide (a ≤ n ∧ n ≤ b))) ∧ Below w.heap.size w w' := by
  have h : macadamref00_Amid.f n a b = some (decide (a ≤ n ∧ n ≤ b)) := by
    unfold macadamref00_Amid.f
    by_cases h : a ≤ n
    · rw [if_pos h]; simp [h]
    · rw [if_neg h]; simp [h]
  exact (macadamref00_Amid.calls n a b _ w h).mono (by rintro e w' ⟨rfl, hd⟩; exact ⟨rfl, hd.below⟩)
theorem amid_true {n a b : Int} (h0 : a ≤ n) (h1 : n ≤ b) (w : World) : Calls Tryd.prog 60 #[.int .i64 n, .int .i64 a, .int .i64 b] w fun e w' => e = .returned (.bool true) ∧ Below w.heap.size w w' := by
  have h := amid_calls n a b w
  rw [decide_eq_true ⟨h0, h1⟩] at h
  exact h
theorem sane_true {lo hi a b c : Int} (h0 : a ≤ lo) (h1 : lo ≤ hi) (h2 : hi ≤ b) (h3 : hi - lo ≤ c) (hb : b ≤ 1000) (ha : 0 ≤ a) (w : World) : Calls Tryd.prog 62 #[.agg #[.int .i64 lo, .int .i64 hi], .int .i64 a, .int .i64 b, .int .i64 c] w fun e w' => e = .returned (.bool true) ∧ Below w.heap.size w w' := by
  refine macadamref00_Sane.calls lo hi a b c true w ?_
  unfold macadamref00_Sane.f
  rw [if_pos h0, if_pos h1, if_pos h2, wrap64_id (by omega) (by omega), decide_eq_true h3]
set_option maxHeartbeats 4000000 in
set_option maxRecDepth 100000 in
theorem sound_no (A0 A1 A2 : Option Addr) (c0 c1 c2 : Nat) (l0 : List S92) (l1 : List S90) (l2 : List S43) (w : World) (h : BookAt w A0 A1 A2 c0 c1 c2 l0 l1 l2) (hok : okBook l0 l1 l2 = false) :
    Calls Tryd.prog 56 #[.agg #[.slice A0 l0.length c0, .slice A1 l1.length c1, .slice A2 l2.length c2]] w fun e w' => e = .returned (.bool false) ∧ Below w.heap.size w w' := by
  have HCC : Hid (∀ W, Below w.heap.size w W → Calls Tryd.prog 19 #[.agg #[.slice A0 l0.length c0, .slice A1 l1.length c1, .slice A2 l2.length c2]] W fun e w' => e = .returned (.int .i64 70) ∧ Below W.heap.size W w') := by
    refine Lib.hid fun W hW => ?_
    have hc := check_calls A0 A1 A2 c0 c1 c2 l0 l1 l2 W (Kd.C_below h.r0 hW) h.c0 (Kd.C_below h.r1 hW) h.c1 (Kd.C_below h.r2 hW) h.c2 (by have := h.r0.2.1; omega) (by have := h.r1.2.1; omega) (by have := h.r2.2.1; omega)
    rw [hok] at hc
    exact hc
  clear h hok
  go_enter Tryd.func56, Tryd.ntmps56
  go_wp2_with (go_at_call 19; refine (HCC.out _ ?hw).mono ?_; (case hw => exact by repeat (first | exact Below.refl _ _ | refine Below.alloc ?_ (by simp <;> omega) _ | refine Below.setCell ?_ (by simp <;> omega) _ | apply Below.drew)); rintro e w1 ⟨rfl, hB1⟩)
  have HB1 := Lib.hid ((show Below w.heap.size w _ from by repeat (first | exact Below.refl _ _ | refine Below.alloc ?_ (by simp <;> omega) _ | refine Below.setCell ?_ (by simp <;> omega) _ | apply Below.drew)).trans (below_weaken hB1 (by simp)))
  clear hB1
  go_loopg [3, 4] (0) (fun gk v3 v4 wr => v3 = .bool false ∧ v4 = .int .i64 0 ∧ Aside0 (Below w.heap.size w wr))
  case atStart => exact ⟨rfl, rfl, ⟨HB1.out⟩⟩
  case round =>
    obtain ⟨rfl, rfl, HBR⟩ := hrel
    go_wp2
    obtain ⟨wo, rfl⟩ : ∃ wo : World, wo = wr := ⟨_, rfl⟩
    go_loopg [3, 5] (0) (fun gk v3 v5 wr => v3 = .bool false ∧ v5 = .int .i64 0 ∧ Aside0 (Below w.heap.size w wr))
    case atStart => exact ⟨rfl, rfl, ⟨HBR.out⟩⟩
    case round =>
      obtain ⟨rfl, rfl, HBR2⟩ := hrel
      go_wp2
      go_ret
      exact ⟨rfl, HBR2.out⟩
set_option maxHeartbeats 4000000 in
set_option maxRecDepth 100000 in
theorem sound_yes (A0 A1 A2 : Option Addr) (c0 c1 c2 : Nat) (l0 : List S92) (l1 : List S90) (l2 : List S43) (w : World) (h : BookAt w A0 A1 A2 c0 c1 c2 l0 l1 l2) (hok : okBook l0 l1 l2 = true) :
    Calls Tryd.prog 56 #[.agg #[.slice A0 l0.length c0, .slice A1 l1.length c1, .slice A2 l2.length c2]] w fun e w' => e = .returned (.bool true) ∧ Below w.heap.size w w' := by
  have HCC : Hid (∀ W, Below w.heap.size w W → Calls Tryd.prog 19 #[.agg #[.slice A0 l0.length c0, .slice A1 l1.length c1, .slice A2 l2.length c2]] W fun e w' => e = .returned (.int .i64 0) ∧ Below W.heap.size W w') := by
    refine Lib.hid fun W hW => ?_
    have hc := check_calls A0 A1 A2 c0 c1 c2 l0 l1 l2 W (Kd.C_below h.r0 hW) h.c0 (Kd.C_below h.r1 hW) h.c1 (Kd.C_below h.r2 hW) h.c2 (by have := h.r0.2.1; omega) (by have := h.r1.2.1; omega) (by have := h.r2.2.1; omega)
    rw [hok] at hc
    exact hc
  obtain ⟨o1, o2, o3, o4, o5, o6, o7⟩ := ok_facts hok
  have hlk : ∀ x ∈ l2, 0 ≤ x.f0 ∧ x.f0 ≤ (l1.length : Int) - 1 ∧ 0 ≤ x.f1 ∧ x.f1 ≤ (l0.length : Int) := by
    intro x hx
    unfold okBook at hok
    simp only [Bool.and_eq_true, List.all_eq_true] at hok
    have := hok.2 x hx
    unfold okLook at this
    simp only [Bool.and_eq_true, decide_eq_true_eq] at this
    omega
  have hdy : ∀ x ∈ l1, okDay x = true := by
    unfold okBook at hok
    simp only [Bool.and_eq_true, List.all_eq_true] at hok
    exact hok.1.2
  have HLK := Lib.hid hlk
  have HDY := Lib.hid hdy
  have HR1 := Lib.hid (row90 h.r1)
  have HR2 := Lib.hid (row43 h.r2)
  have HA0 := Lib.hid (amid_true (n := (l0.length : Int)) (a := 1) (b := 4) (by omega) (by omega))
  have HA1 := Lib.hid (amid_true (n := (l1.length : Int)) (a := 1) (b := 5) (by omega) (by omega))
  have l2I : (l2.length : Int) ≤ 4 := by omega
  have l1I : (1 : Int) ≤ (l1.length : Int) := by omega
  have l1J : (l1.length : Int) ≤ 5 := by omega
  clear h hok o6 o7 hlk hdy
  go_enter Tryd.func56, Tryd.ntmps56
  go_wp2_with fail
  refine (HCC.out _ ?hw).mono ?_
  (case hw => exact by repeat (first | exact Below.refl _ _ | refine Below.alloc ?_ (by simp <;> omega) _ | refine Below.setCell ?_ (by simp <;> omega) _ | apply Below.drew))
  rintro e w1 ⟨rfl, hB1⟩
  have hk := blk_below (blk_new w (.cells #[.slice A0 l0.length c0, .slice A1 l1.length c1, .slice A2 l2.length c2] 26)) hB1
  have HB1 := Lib.hid ((show Below w.heap.size w _ from by repeat (first | exact Below.refl _ _ | refine Below.alloc ?_ (by simp <;> omega) _ | refine Below.setCell ?_ (by simp <;> omega) _ | apply Below.drew)).trans (below_weaken hB1 (by simp)))
  have k0 := (blk_cell hk 0).trans rfl
  have HK := Lib.hid hk
  clear hB1 hk
  go_wp2_with fail
  clear k0
  refine (HA0.out _).mono ?_
  rintro e w2 ⟨rfl, hB2⟩
  have hk := blk_below HK.out hB2
  have HB2 := Lib.hid (HB1.out.trans (below_weaken hB2 HB1.out.size))
  have k0 := (blk_cell hk 1).trans rfl
  have HK2 := Lib.hid hk
  clear hB2 hk
  go_wp2_with fail
  clear k0
  refine (HA1.out _).mono ?_
  rintro e w3 ⟨rfl, hB3⟩
  have hk := blk_below HK2.out hB3
  have HB3 := Lib.hid (HB2.out.trans (below_weaken hB3 HB2.out.size))
  have k0 := (blk_cell hk 2).trans rfl
  have HK3 := Lib.hid hk
  clear hB3 hk
  go_wp2
  clear k0
  go_loopg [3, 4] (l1.length) (fun gk v3 v4 wr => ∃ k : Nat, v3 = .bool true ∧ v4 = .int .i64 k ∧ Aside0 (k + gk = l1.length) ∧ Aside0 (wr.heap[w.heap.size]? = some (.cells #[.slice A0 l0.length c0, .slice A1 l1.length c1, .slice A2 l2.length c2] 26 (0, 0))) ∧ Aside0 (Below w.heap.size w wr))
  case atStart => exact ⟨0, rfl, rfl, ⟨by omega⟩, ⟨HK3.out⟩, ⟨HB3.out⟩⟩
  case round =>
    obtain ⟨k, rfl, rfl, HKK, HKB, HBR⟩ := hrel
    have k1 := (blk_cell HKB.out 1).trans rfl
    cases gk with
    | zero =>
      have hge : ¬ k < l1.length := by have := HKK.out; omega
      go_wp2
      clear k1
      obtain ⟨wo, rfl⟩ : ∃ wo : World, wo = wr := ⟨_, rfl⟩
      have HKB2 := Lib.hid HKB.out
      have HBR2 := Lib.hid HBR.out
      clear HKB HBR hge HKK
      go_loopg [3, 5] (l2.length) (fun gk v3 v5 wr => ∃ k : Nat, v3 = .bool true ∧ v5 = .int .i64 k ∧ Aside0 (k + gk = l2.length) ∧ Aside0 (wr.heap[w.heap.size]? = some (.cells #[.slice A0 l0.length c0, .slice A1 l1.length c1, .slice A2 l2.length c2] 26 (0, 0))) ∧ Aside0 (Below w.heap.size w wr))
      case atStart => exact ⟨0, rfl, rfl, ⟨by omega⟩, ⟨HKB2.out⟩, ⟨HBR2.out⟩⟩
      case round =>
        obtain ⟨k, rfl, rfl, HKK, HKB, HBR⟩ := hrel
        have k2 := (blk_cell HKB.out 2).trans rfl
        cases gk with
        | zero =>
          have hge : ¬ k < l2.length := by have := HKK.out; omega
          go_wp2
          go_ret
          exact ⟨rfl, HBR.out⟩
        | succ g1 =>
          have hlt : k < l2.length := by have := HKK.out; omega
          obtain ⟨b, o, rfl, hbl, q0, q1⟩ := at43 HR2.out k hlt
          have hlkk := HLK.out _ (List.getElem_mem hlt)
          obtain ⟨x0, hx0⟩ : ∃ x, x = l2[k].f0 := ⟨_, rfl⟩
          obtain ⟨x1, hx1⟩ : ∃ x, x = l2[k].f1 := ⟨_, rfl⟩
          rw [← hx0] at q0 hlkk
          rw [← hx1] at q1 hlkk
          obtain ⟨hx00, hx01, hx10, hx11⟩ := hlkk
          have QC0 := Lib.hid q0
          have QC1 := Lib.hid q1
          have hk4 : (k : Int) < (l2.length : Int) := by omega
          clear hx0 hx1 q0 q1
          go_upto_region 9 with fail
          clear k2
          have hwl : IntKind.i64.wrap ((l1.length : Int) - 1) = (l1.length : Int) - 1 := IntWalk.i64_in _ (by omega)
          have hBD : Below wr.heap.size wr wr.drew := by repeat (first | exact Below.refl _ _ | refine Below.alloc ?_ (by simp <;> omega) _ | refine Below.setCell ?_ (by simp <;> omega) _ | apply Below.drew)
          have HKD := Lib.hid (blk_below HKB.out hBD)
          have HWD := Lib.hid (HBR.out.trans (below_weaken hBD HBR.out.size))
          clear hBD
          refine start_ (n := 24) (S := fun w' => w'.cell? ⟨w.heap.size, 0, none⟩ = some (.slice A0 l0.length c0) ∧ w'.cell? ⟨w.heap.size, 1, none⟩ = some (.slice A1 l1.length c1) ∧ w'.cell? ⟨w.heap.size, 2, none⟩ = some (.slice (some ⟨b, o, none⟩) l2.length c2) ∧ w'.cell? ⟨b, o + k * 2, none⟩ = some (.int .i64 x0) ∧ w'.cell? ⟨b, o + k * 2 + 1, none⟩ = some (.int .i64 x1)) (ds := []) #[false, false, false, false, false, false, false, false, false, false, false, false, false, false, false, false, false, false, false, false, false, false, false, false] (by kernel_rfl) rfl rfl ⟨(blk_cell HKD.out 0).trans rfl, (blk_cell HKD.out 1).trans rfl, (blk_cell HKD.out 2).trans rfl, (HWD.out.cell (p := ⟨b, o + k * 2, none⟩) hbl).trans QC0.out, (HWD.out.cell (p := ⟨b, o + k * 2 + 1, none⟩) hbl).trans QC1.out⟩ (fun hHeld => ?_)
          refine pu_ 0 (some 63) ?_
          refine pu_ 2 (some 65) ?_
          refine pu_ 6 (some 69) ?_
          refine ta_ 1 (some 64) (s := hHeld) (y := by rintro w' ⟨s0, s1, s2, s3, s4⟩; go_simp; with_reducible rfl) (h := ?_)
          refine pu_ 3 (some 66) ?_
          refine pu_ 4 (some 67) ?_
          refine ta_ 5 (some 68) (s := hHeld) (y := by rintro w' ⟨s0, s1, s2, s3, s4⟩; go_simp; with_reducible rfl) (h := ?_)
          refine ta_ 7 (some 70) (s := hHeld) (y := by rintro w' ⟨s0, s1, s2, s3, s4⟩; go_simp; with_reducible rfl) (h := ?_)
          refine pu_ 8 (some 71) ?_
          refine pu_ 9 (some 72) ?_
          refine one_ (i := 10) (N := some 73) #[true, true, true, true, true, true, true, true, true, true, true, false, false, false, false, false, false, false, false, false, false, false, false, false] rfl rfl (by kernel_rfl) (by decide) (fun K hK => ?_)
          refine goes_ Tryd.func60 (by kernel_rfl) rfl #[.int .i64 x0, .int .i64 0, .int .i64 ((l1.length : Int) - 1)] (by rfl) rfl rfl (by simp only [List.map_toArray, List.map_cons, List.map_nil]; rfl) ?_
          refine (amid_true hx00 hx01 _).mono ?_
          rintro e w7 ⟨rfl, hb⟩
          refine ⟨_, rfl, ?_⟩
          have h7 := blk_below HKD.out hb
          have HW7 := Lib.hid (HWD.out.trans (below_weaken hb HWD.out.size))
          refine hK.out _ _ ⟨(blk_cell h7 0).trans rfl, (blk_cell h7 1).trans rfl, (blk_cell h7 2).trans rfl, (HW7.out.cell (p := ⟨b, o + k * 2, none⟩) hbl).trans QC0.out, (HW7.out.cell (p := ⟨b, o + k * 2 + 1, none⟩) hbl).trans QC1.out⟩ (fun hHeld => ?_)
          clear hK K
          refine no_ 73 ?_
          refine pu_ 11 (some 74) ?_
          refine pu_ 12 (some 75) ?_
          refine pu_ 14 (some 77) ?_
          refine pu_ 18 (some 81) ?_
          refine ta_ 13 (some 76) (s := hHeld) (y := by rintro w' ⟨s0, s1, s2, s3, s4⟩; go_simp; with_reducible rfl) (h := ?_)
          refine pu_ 15 (some 78) ?_
          refine pu_ 16 (some 79) ?_
          refine ta_ 17 (some 80) (s := hHeld) (y := by rintro w' ⟨s0, s1, s2, s3, s4⟩; go_simp; with_reducible rfl) (h := ?_)
          refine ta_ 19 (some 82) (s := hHeld) (y := by rintro w' ⟨s0, s1, s2, s3, s4⟩; go_simp; with_reducible rfl) (h := ?_)
          refine pu_ 20 (some 83) ?_
          refine one_ (i := 21) (N := some 84) #[true, true, true, true, true, true, true, true, true, true, true, true, true, true, true, true, true, true, true, true, true, true, false, false] rfl rfl (by kernel_rfl) (by decide) (fun K hK => ?_)
          refine goes_ Tryd.func60 (by kernel_rfl) rfl #[.int .i64 x1, .int .i64 0, .int .i64 (l0.length : Int)] (by rfl) rfl rfl (by simp only [List.map_toArray, List.map_cons, List.map_nil]; rfl) ?_
          refine (amid_true hx10 hx11 _).mono ?_
          rintro e w8 ⟨rfl, hb8⟩
          refine ⟨_, rfl, ?_⟩
          have h8 := blk_below h7 hb8
          have HW8 := Lib.hid (HW7.out.trans (below_weaken hb8 HW7.out.size))
          refine hK.out _ _ ⟨(blk_cell h8 0).trans rfl, (blk_cell h8 1).trans rfl, (blk_cell h8 2).trans rfl, (HW8.out.cell (p := ⟨b, o + k * 2, none⟩) hbl).trans QC0.out, (HW8.out.cell (p := ⟨b, o + k * 2 + 1, none⟩) hbl).trans QC1.out⟩ (fun hHeld => ?_)
          clear hK K
          refine no_ 84 ?_
          refine pu_ 22 (some 85) ?_
          refine pu_ 23 (some 3) ?_
          refine done_ (by kernel_rfl) ?_

          go_wp2
          go_roundg g1
          case measure => omega
          case rel => exact ⟨k + 1, rfl, by go_num, ⟨by have := HKK.out; omega⟩, ⟨h8⟩, ⟨HW8.out⟩⟩
    | succ g1 =>
      have hlt : k < l1.length := by have := HKK.out; omega
      obtain ⟨b, o, rfl, hbl, q0, q1, q2⟩ := at90 HR1.out k hlt
      have hd := HDY.out _ (List.getElem_mem hlt)
      obtain ⟨lo, hlo⟩ : ∃ x, x = l1[k].f0.f0 := ⟨_, rfl⟩
      obtain ⟨hi, hhi⟩ : ∃ x, x = l1[k].f0.f1 := ⟨_, rfl⟩
      obtain ⟨sk, hsk⟩ : ∃ x, x = l1[k].f1 := ⟨_, rfl⟩
      unfold okDay at hd
      simp only [Bool.and_eq_true, decide_eq_true_eq] at hd
      rw [← hlo] at q0 hd
      rw [← hhi] at q1 hd
      rw [← hsk] at q2 hd
      obtain ⟨⟨d1, d2, d3, d4⟩, d5, d6⟩ := hd
      have HS := Lib.hid (sane_true (a := 0) (b := 20) (c := 1) d1 d2 d3 d4 (by omega) (by omega))
      have HA := Lib.hid (amid_true d5 d6)
      have QC2 := Lib.hid q2
      have c0' := (HBR.out.cell (p := ⟨b, o + k * 3, none⟩) hbl).trans q0
      have c1' := (HBR.out.cell (p := ⟨b, o + k * 3 + 1, none⟩) hbl).trans q1
      clear hlo hhi hsk q0 q1 q2 d1 d2 d3 d4 d5 d6
      go_wp2_with fail
      refine (HS.out _).mono ?_
      rintro e w7 ⟨rfl, hb7⟩
      clear c0' c1' k1
      have h7 := blk_below HKB.out hb7
      have HB7 := Lib.hid (HBR.out.trans (below_weaken hb7 HBR.out.size))
      have k1 := (blk_cell h7 1).trans rfl
      have c2' := (HB7.out.cell (p := ⟨b, o + k * 3 + 2, none⟩) hbl).trans QC2.out
      have HK7 := Lib.hid h7
      clear hb7 h7
      go_wp2_with fail
      refine (HA.out _).mono ?_
      rintro e w8 ⟨rfl, hb8⟩
      have h8 := blk_below HK7.out hb8
      have HB8 := Lib.hid (HB7.out.trans (below_weaken hb8 HB7.out.size))
      have HK8 := Lib.hid h8
      clear hb8 h8 k1 c2'
      go_wp2
      go_roundg g1
      case measure => omega
      case rel => exact ⟨k + 1, rfl, by go_num, ⟨by have := HKK.out; omega⟩, ⟨HK8.out⟩, ⟨HB8.out⟩⟩
theorem sound_calls (A0 A1 A2 : Option Addr) (c0 c1 c2 : Nat) (l0 : List S92) (l1 : List S90) (l2 : List S43) (w : World) (h : BookAt w A0 A1 A2 c0 c1 c2 l0 l1 l2) :
    Calls Tryd.prog 56 #[.agg #[.slice A0 l0.length c0, .slice A1 l1.length c1, .slice A2 l2.length c2]] w fun e w' => e = .returned (.bool (okBook l0 l1 l2)) ∧ Below w.heap.size w w' := by
  cases hok : okBook l0 l1 l2
  · exact sound_no A0 A1 A2 c0 c1 c2 l0 l1 l2 w h hok
  · exact sound_yes A0 A1 A2 c0 c1 c2 l0 l1 l2 w h hok
end Go.Proofs.YthgjedagbgmgmaaDoor.Pr
namespace Go.Proofs.YthgjedagbgmgmaaDoor.Pr
open Go.RowKit Go.Proofs.YthgjedagbgmgmaaDoorW.PrintWords Go.Proofs.YthgjedagbgmgmaaDoorW.PrintLast Go.Proofs.YthgjedagbgmgmaaDoorW.PrintMore
set_option linter.unusedVariables false
set_option linter.unusedSimpArgs false
/-- The state of a road alone: how many layers are bound, and by how many wagons the next one was rolled. -/
def stepS (ls : List S92) (q : Int × Int) (s k : Int) : Int × Int :=
  if q.1 = ls.length then q else
  if s = 1 then (if (ls.getD q.1.toNat z92).f0 ≤ (if q.2 = -1 then 0 else q.2) + k then (q.1 + 1, -1) else (q.1, (if q.2 = -1 then 0 else q.2) + k))
  else if s = 2 then (q.1, -1) else (q.1, if q.2 = -1 then 0 else q.2)
/-- All states at the ends of the days. -/
def states (ls : List S92) : Ch → Int × Int → List (Int × Int)
  | [], _ => []
  | p :: c, q => stepS ls q p.2 p.1 :: states ls c (stepS ls q p.2 p.1)
end Go.Proofs.YthgjedagbgmgmaaDoor.Pr
namespace Go.Proofs.YthgjedagbgmgmaaDoor.Pr
open Go.RowKit Go.Proofs.YthgjedagbgmgmaaDoorW.PrintWords Go.Proofs.YthgjedagbgmgmaaDoorW.PrintLast Go.Proofs.YthgjedagbgmgmaaDoorW.PrintMore
set_option linter.unusedVariables false
set_option linter.unusedSimpArgs false
theorem rdAt_get {ls : List S92} {c : Ch} {d : Nat} (h : d < c.length) : rdAt ls c d = (roadFrom ls c r00)[d]'(by rw [roadFrom_length]; exact h) := by
  unfold rdAt
  rw [List.getD_eq_getElem?_getD, List.getElem?_eq_getElem]
  rfl
section
variable {ls : List S92} {ds : List S90} {ks : List S43}
theorem bspan_told (hok : okBook ls ds ks = true) (hT : 0 < (truthsAll ls ds ks []).length) {d : Nat} (hd : d < ds.length) :
    Told (good ls ds ks []) (fun c => (rdAt ls c d).bound) (bspan (truthsAll ls ds ks []) d).1 (bspan (truthsAll ls ds ks []) d).2 :=
  told_span hT (fun c hc => enc0_bound (mem_good.1 hc).1 (ok_facts hok).2.2.1 d hd)
theorem bspan_ends (hok : okBook ls ds ks = true) (hT : 0 < (truthsAll ls ds ks []).length) {d : Nat} (hd : d < ds.length) :
    0 ≤ (bspan (truthsAll ls ds ks []) d).1 ∧ (bspan (truthsAll ls ds ks []) d).1 ≤ (bspan (truthsAll ls ds ks []) d).2 ∧ (bspan (truthsAll ls ds ks []) d).2 ≤ ls.length := by
  have t1 := bspan_told hok hT hd
  obtain ⟨c, hc, ec⟩ := t1.elo
  obtain ⟨c', hc', ec'⟩ := t1.ehi
  have a1 := rdAt_ok (ls := ls) hok (mem_good.1 hc).1 hd
  have a2 := rdAt_ok (ls := ls) hok (mem_good.1 hc').1 hd
  have a3 := (t1.all c hc).2
  have b0 := a1.b0
  have b1 := a2.b1
  omega
end
theorem firstFrom_law (g : Nat → Int) (n : Int) : ∀ k d, (firstFrom g n k d = (0, 4) ∧ ∀ j, d ≤ j → j < d + k → g j ≠ n) ∨ ∃ j : Nat, firstFrom g n k d = ((j : Int), 0) ∧ d ≤ j ∧ j < d + k ∧ g j = n ∧ ∀ i, d ≤ i → i < j → g i ≠ n := by
  intro k
  induction k with
  | zero => intro d; exact .inl ⟨rfl, fun j h1 h2 => by omega⟩
  | succ k ih =>
    intro d
    unfold firstFrom
    by_cases h : g d = n
    · rw [if_pos h]
      exact .inr ⟨d, rfl, Nat.le_refl _, by omega, h, fun i h1 h2 => by omega⟩
    · rw [if_neg h]
      rcases ih (d + 1) with ⟨h1, h2⟩ | ⟨j, h1, h2, h3, h4, h5⟩
      · refine .inl ⟨h1, fun j hj hj2 => ?_⟩
        by_cases e : j = d
        · rw [e]; exact h
        · exact h2 j (by omega) (by omega)
      · refine .inr ⟨j, h1, by omega, by omega, h4, fun i hi hi2 => ?_⟩
        by_cases e : i = d
        · rw [e]; exact h
        · exact h5 i (by omega) hi2
section
variable {ls : List S92} {ds : List S90} {ks : List S43}
theorem askCode_true_zero (hok : okBook ls ds ks = true) (hT : 0 < (truthsAll ls ds ks []).length) : askCode ls ds ks true = 0 := by
  unfold askCode
  rw [if_pos hok, if_pos rfl, if_neg (by omega)]
end
end Go.Proofs.YthgjedagbgmgmaaDoor.Pr
namespace Go.Proofs.YthgjedagbgmgmaaDoor.Pr
open Go.RowKit Go.Proofs.YthgjedagbgmgmaaDoorW.PrintWords Go.Proofs.YthgjedagbgmgmaaDoorW.PrintLast Go.Proofs.YthgjedagbgmgmaaDoorW.PrintMore
set_option linter.unusedVariables false
set_option linter.unusedSimpArgs false
theorem ret_true {b : Bool} (h : b = true) : Ending.returned (.bool b) = .returned (.bool true) := by rw [h]
theorem wrap_law (n : Int) (m : Nat) (hm : 0 < m) (hm2 : m ≤ 1000) : ∃ d : Nat, macadamref00_Wrap.f n m = some (d : Int) ∧ d < m := by
  have hmi : (0 : Int) < (m : Int) := by omega
  unfold macadamref00_Wrap.f
  rw [if_neg (by omega), if_neg (by omega)]
  have h1 := Int.tmod_lt_of_pos n hmi
  have h2 : -(m : Int) < Int.tmod n m := by
    have h := Int.tmod_lt_of_pos (-n) hmi
    rw [Int.neg_tmod] at h
    omega
  by_cases h : Int.tmod n m < 0
  · rw [if_pos h, wrap64_id (by omega) (by omega)]
    exact ⟨(Int.tmod n m + m).toNat, by congr 1; omega, by omega⟩
  · rw [if_neg h]
    exact ⟨(Int.tmod n m).toNat, by congr 1; omega, by omega⟩
theorem wrap_calls (n : Int) (m : Nat) (hm : 0 < m) (hm2 : m ≤ 1000) : ∃ d : Nat, d < m ∧ ∀ w, Calls Tryd.prog 47 #[.int .i64 n, .int .i64 (m : Int)] w fun e w' => e = .returned (.int .i64 (d : Int)) ∧ Below w.heap.size w w' := by
  obtain ⟨d, h, hd⟩ := wrap_law n m hm hm2
  exact ⟨d, hd, fun w => (macadamref00_Wrap.calls n m d w h).mono (by rintro e w' ⟨rfl, hd⟩; exact ⟨rfl, hd.below⟩)⟩
theorem isDay_true {d n : Nat} (h : d < n) : decide (0 ≤ (d : Int) ∧ (d : Int) ≤ (n : Int) - 1) = true := decide_eq_true (by omega)
theorem boundF_eq {ls : List S92} {ds : List S90} {ks : List S43} (hok : okBook ls ds ks = true) (hT : 0 < (truthsAll ls ds ks []).length) {d : Nat} (hd : d < ds.length) :
    boundF ls ds ks d = ((bspan (truthsAll ls ds ks []) d).1, (bspan (truthsAll ls ds ks []) d).2, 0) := by
  unfold boundF
  rw [isDay_true hd, if_pos (askCode_true_zero hok hT)]
  rfl
end Go.Proofs.YthgjedagbgmgmaaDoor.Pr
namespace Go.Proofs.YthgjedagbgmgmaaDoor.Pr
open Go.RowKit Go.Proofs.YthgjedagbgmgmaaDoorW.PrintWords Go.Proofs.YthgjedagbgmgmaaDoorW.PrintLast Go.Proofs.YthgjedagbgmgmaaDoorW.PrintMore
set_option linter.unusedVariables false
set_option linter.unusedSimpArgs false
/-- Is a look right, or one of some? -/
def rightLook (x : S43) (day bound : Int) (but : List Int) (k : Nat) : Bool := !(x.f0 == day && x.f1 != bound && !decide ((k : Int) ∈ but))
theorem rightFrom_cons (x : S43) (xs : List S43) (day bound : Int) (but : List Int) (k : Nat) : rightFrom (x :: xs) day bound but k = (rightLook x day bound but k && rightFrom xs day bound but (k + 1)) := rfl
theorem rightFrom_iff (but : List Int) (day bound : Int) : ∀ (ks : List S43) (k : Nat), rightFrom ks day bound but k = true ↔ ∀ i (h : i < ks.length), ks[i].f0 = day → ((k + i : Nat) : Int) ∉ but → ks[i].f1 = bound := by
  intro ks
  induction ks with
  | nil => intro k; simp [rightFrom]
  | cons x xs ih =>
    intro k
    rw [rightFrom_cons, Bool.and_eq_true, ih]
    have h0 : rightLook x day bound but k = true ↔ (x.f0 = day → (k : Int) ∉ but → x.f1 = bound) := by
      unfold rightLook
      by_cases h1 : x.f0 = day
      · by_cases h2 : (k : Int) ∈ but
        · simp [h1, h2]
        · by_cases h3 : x.f1 = bound <;> simp [h1, h2, h3]
      · simp [h1]
    rw [h0]
    constructor
    · rintro ⟨a, b⟩ i hi
      cases i with
      | zero => exact a
      | succ i =>
        have := b i (by simpa using hi)
        rw [show k + 1 + i = k + (i + 1) by omega] at this
        exact this
    · intro h
      refine ⟨h 0 (by simp), fun i hi => ?_⟩
      have := h (i + 1) (by simpa using hi)
      rw [show k + (i + 1) = k + 1 + i by omega] at this
      exact this
/-- What a choice in which the looks are right is. -/
theorem mem_good' {ls : List S92} {ds : List S90} {looks : List S43} {but : List Int} {c : Ch} : c ∈ good ls ds looks but ↔ OkCh ds c ∧ ∀ i (h : i < looks.length), (i : Int) ∉ but → ∀ d : Nat, d < ds.length → looks[i].f0 = d → looks[i].f1 = (rdAt ls c d).bound := by
  rw [mem_good]
  constructor
  · rintro ⟨h1, h2⟩
    refine ⟨h1, fun i hi hb d hd e => ?_⟩
    have hl : d < (roadFrom ls c r00).length := by rw [roadFrom_length, h1.1]; exact hd
    have h3 := (okRoad_iff looks but _ 0).1 h2 d hl
    rw [Nat.zero_add] at h3
    have h4 := (rightFrom_iff but d _ looks 0).1 h3 i hi e (by rwa [Nat.zero_add])
    rw [h4, rdAt_get (by rw [h1.1]; exact hd)]
  · rintro ⟨h1, h2⟩
    refine ⟨h1, (okRoad_iff looks but _ 0).2 fun d hl => (rightFrom_iff but _ _ looks 0).2 fun i hi e hb => ?_⟩
    have hd : d < ds.length := by rw [roadFrom_length, h1.1] at hl; exact hl
    rw [Nat.zero_add] at e hb
    have := h2 i hi hb d hd e
    rwa [rdAt_get (by rw [h1.1]; exact hd)] at this
theorem truths_pos {ls : List S92} {ds : List S90} {ks : List S43} {but : List Int} : 0 < (truthsAll ls ds ks but).length ↔ ∃ c, c ∈ good ls ds ks but := by
  rw [truthsAll_length]
  constructor
  · intro h
    exact ⟨_, List.getElem_mem h⟩
  · rintro ⟨c, hc⟩
    exact List.length_pos_of_mem hc
section
variable {ls : List S92} {ds : List S90} {ks : List S43}
end
end Go.Proofs.YthgjedagbgmgmaaDoor.Pr
namespace Go.Proofs.YthgjedagbgmgmaaDoor.Pr
open Go.RowKit Go.Proofs.YthgjedagbgmgmaaDoorW.PrintWords Go.Proofs.YthgjedagbgmgmaaDoorW.PrintLast Go.Proofs.YthgjedagbgmgmaaDoorW.PrintMore
set_option linter.unusedVariables false
set_option linter.unusedSimpArgs false
theorem orI_bit {set s j : Int} (h0 : 0 ≤ set) (h7 : set ≤ 7) (s0 : 0 ≤ s) (s2 : s ≤ 2) (j0 : 0 ≤ j) (j2 : j ≤ 2) : orI set s / 2 ^ j.toNat % 2 = 1 ↔ set / 2 ^ j.toNat % 2 = 1 ∨ s = j := by
  have hs : s = 0 ∨ s = 1 ∨ s = 2 := by omega
  have hj : j = 0 ∨ j = 1 ∨ j = 2 := by omega
  rcases hs with rfl | rfl | rfl <;> rcases hj with rfl | rfl | rfl <;> rcases cases8 h0 h7 with rfl | rfl | rfl | rfl | rfl | rfl | rfl | rfl <;> decide +kernel
/-- What a set of skies holds. -/
theorem skySet_law {d : Nat} : ∀ (T : List (List Int)) (q : Int), (∀ t ∈ T, 0 ≤ t.getD (5 + d) 0 ∧ t.getD (5 + d) 0 ≤ 2) → 0 ≤ q → q ≤ 7 →
    0 ≤ skySet T d q ∧ skySet T d q ≤ 7 ∧ ∀ j : Int, 0 ≤ j → j ≤ 2 → (skySet T d q / 2 ^ j.toNat % 2 = 1 ↔ q / 2 ^ j.toNat % 2 = 1 ∨ ∃ t ∈ T, t.getD (5 + d) 0 = j) := by
  intro T
  induction T with
  | nil => intro q _ h0 h7; exact ⟨h0, h7, fun j _ _ => by simp [skySet]⟩
  | cons t T ih =>
    intro q hT h0 h7
    have ht := hT t (by simp)
    obtain ⟨b0, b7⟩ := orI_bounds (s := t.getD (5 + d) 0) h0 h7
    obtain ⟨i0, i7, i⟩ := ih (orI q (t.getD (5 + d) 0)) (fun x hx => hT x (by simp [hx])) b0 b7
    refine ⟨i0, i7, fun j j0 j2 => ?_⟩
    refine (i j j0 j2).trans ?_
    rw [orI_bit h0 h7 ht.1 ht.2 j0 j2, or_assoc]
    simp
theorem mem_truths {ls : List S92} {ds : List S90} {ks : List S43} {but : List Int} {t : List Int} : t ∈ truthsAll ls ds ks but ↔ ∃ c ∈ good ls ds ks but, enc0 ls c = t := by
  rw [truthsAll_good]
  exact List.mem_map
end Go.Proofs.YthgjedagbgmgmaaDoor.Pr
namespace Go.Proofs.YthgjedagbgmgmaaDoor.Pr
open Go.RowKit Go.Proofs.YthgjedagbgmgmaaDoorW.PrintWords Go.Proofs.YthgjedagbgmgmaaDoorW.PrintLast Go.Proofs.YthgjedagbgmgmaaDoorW.PrintMore
set_option linter.unusedVariables false
set_option linter.unusedSimpArgs false
/-- What a day can be. -/
def DayIn (x : S90) (p : Int × Int) : Prop := x.f0.f0 ≤ p.1 ∧ p.1 ≤ x.f0.f1 ∧ 0 ≤ p.2 ∧ p.2 ≤ 2 ∧ hasSky x.f1 p.2.toNat = true
theorem good_nil {ls : List S92} {ds : List S90} {but : List Int} {c : Ch} : c ∈ good ls ds [] but ↔ OkCh ds c := by
  rw [mem_good']
  exact ⟨fun h => h.1, fun h => ⟨h, fun i hi => absurd hi (by simp)⟩⟩
theorem day_some {x : S90} (h : okDay x = true) : ∃ p, DayIn x p := by
  unfold okDay at h
  simp only [Bool.and_eq_true, decide_eq_true_eq] at h
  obtain ⟨⟨h1, h2, h3, h4⟩, h5, h6⟩ := h
  obtain ⟨⟨lo, hi⟩, sky⟩ := x
  simp only at h1 h2 h3 h4 h5 h6
  have h7 : sky = 1 ∨ sky = 2 ∨ sky = 3 ∨ sky = 4 ∨ sky = 5 ∨ sky = 6 ∨ sky = 7 := by omega
  rcases h7 with rfl | rfl | rfl | rfl | rfl | rfl | rfl
  · exact ⟨(lo, 0), Int.le_refl _, h2, by show (0 : Int) ≤ 0; omega, by show (0 : Int) ≤ 2; omega, (show hasSky 1 0 = true by decide)⟩
  · exact ⟨(lo, 1), Int.le_refl _, h2, by show (0 : Int) ≤ 1; omega, by show (1 : Int) ≤ 2; omega, (show hasSky 2 1 = true by decide)⟩
  · exact ⟨(lo, 0), Int.le_refl _, h2, by show (0 : Int) ≤ 0; omega, by show (0 : Int) ≤ 2; omega, (show hasSky 3 0 = true by decide)⟩
  · exact ⟨(lo, 2), Int.le_refl _, h2, by show (0 : Int) ≤ 2; omega, by show (2 : Int) ≤ 2; omega, (show hasSky 4 2 = true by decide)⟩
  · exact ⟨(lo, 0), Int.le_refl _, h2, by show (0 : Int) ≤ 0; omega, by show (0 : Int) ≤ 2; omega, (show hasSky 5 0 = true by decide)⟩
  · exact ⟨(lo, 1), Int.le_refl _, h2, by show (0 : Int) ≤ 1; omega, by show (1 : Int) ≤ 2; omega, (show hasSky 6 1 = true by decide)⟩
  · exact ⟨(lo, 0), Int.le_refl _, h2, by show (0 : Int) ≤ 0; omega, by show (0 : Int) ≤ 2; omega, (show hasSky 7 0 = true by decide)⟩
theorem choice_some : ∀ (ds : List S90), (∀ x ∈ ds, okDay x = true) → ∃ c, OkCh ds c := by
  intro ds
  induction ds with
  | nil => intro _; exact ⟨[], rfl, fun i h => absurd h (by simp)⟩
  | cons x ds ih =>
    intro h
    obtain ⟨p, hp⟩ := day_some (h x (by simp))
    obtain ⟨c, hl, hc⟩ := ih fun y hy => h y (by simp [hy])
    refine ⟨p :: c, by simp [hl], fun i h1 h2 => ?_⟩
    cases i with
    | zero => exact hp
    | succ i => exact hc i (by simpa using h1) (by simpa using h2)
section
variable {ls : List S92} {ds : List S90} {ks : List S43}
theorem okBook_parts (h : okBook ls ds ks = true) : (1 ≤ ls.length ∧ ls.length ≤ 4) ∧ (1 ≤ ds.length ∧ ds.length ≤ 5) ∧ ks.length ≤ 4 ∧ (∀ x ∈ ls, okLayer x = true) ∧ (∀ x ∈ ds, okDay x = true) ∧ ∀ x ∈ ks, okLook ls.length ds.length x = true := by
  unfold okBook at h
  simp only [Bool.and_eq_true, decide_eq_true_eq, List.all_eq_true] at h
  obtain ⟨⟨⟨⟨⟨a, b⟩, c⟩, d⟩, e⟩, f⟩ := h
  exact ⟨a, b, c, d, e, f⟩
theorem okBook_mk (h1 : 1 ≤ ls.length ∧ ls.length ≤ 4) (h2 : 1 ≤ ds.length ∧ ds.length ≤ 5) (h3 : ks.length ≤ 4) (h4 : ∀ x ∈ ls, okLayer x = true) (h5 : ∀ x ∈ ds, okDay x = true) (h6 : ∀ x ∈ ks, okLook ls.length ds.length x = true) : okBook ls ds ks = true := by
  unfold okBook
  rw [decide_eq_true h1, decide_eq_true h2, decide_eq_true h3, List.all_eq_true.2 h4, List.all_eq_true.2 h5, List.all_eq_true.2 h6]
  rfl
theorem okBook_nolooks (h : okBook ls ds ks = true) : okBook ls ds [] = true := by
  obtain ⟨a, b, c, d, e, f⟩ := okBook_parts h
  exact okBook_mk a b (by simp) d e (by simp)
theorem truths_nolooks (h : okBook ls ds [] = true) : 0 < (truthsAll ls ds [] []).length := by
  obtain ⟨c, hc⟩ := choice_some ds (okBook_parts h).2.2.2.2.1
  exact truths_pos.2 ⟨c, good_nil.2 hc⟩
end
theorem okCh_zero {ds : List S90} {c : Ch} (hd : ∀ x ∈ ds, okDay x = true) (h : OkCh ds c) : ∀ i (hi : i < c.length), 0 ≤ c[i].1 := by
  intro i hi
  have hi' : i < ds.length := by rw [← h.1]; exact hi
  have h1 := (h.2 i hi hi').1
  have h2 := hd _ (List.getElem_mem hi')
  unfold okDay at h2
  simp only [Bool.and_eq_true, decide_eq_true_eq] at h2
  omega
section
variable {ls : List S92} {ds : List S90} {ks : List S43}
end
end Go.Proofs.YthgjedagbgmgmaaDoor.Pr
namespace Go.Proofs.YthgjedagbgmgmaaDoor.Pr
open Go.RowKit Go.Proofs.YthgjedagbgmgmaaDoorW.PrintWords Go.Proofs.YthgjedagbgmgmaaDoorW.PrintLast Go.Proofs.YthgjedagbgmgmaaDoorW.PrintMore
set_option linter.unusedVariables false
set_option linter.unusedSimpArgs false
/-- Does a row come before another? -/
def soonerL : List Int → List Int → Bool
  | [], [] => false
  | [], _ :: _ => true
  | _ :: _, [] => false
  | x :: xs, y :: ys => if x = y then soonerL xs ys else decide (x < y)
def fewerL (l m : List Int) : Bool := if l.length = m.length then soonerL l m else decide (l.length < m.length)
/-- A row that rises from a number on, below another. -/
def Ris (n : Nat) : Nat → List Int → Prop
  | _, [] => True
  | a, x :: xs => (a : Int) ≤ x ∧ x < n ∧ Ris n (x + 1).toNat xs
theorem startOf_snoc (s : List Int) (m : Int) : startOf (s ++ [m]) = (m + 1).toNat := startOf_some (by simp)
/-- What choose does from a number on. -/
theorem chooseL_law {ok : List Int → Bool} {n f : Nat} {s : List Int}
    (h0 : ∀ m : Nat, m < n → chooseF ok n f (s ++ [(m : Int)]) = none → ∀ t, Ris n (m + 1) t → t.length = f → ok (s ++ (m : Int) :: t) = false)
    (h1 : ∀ (m : Nat) L, m < n → chooseF ok n f (s ++ [(m : Int)]) = some L → ∃ t, L = s ++ (m : Int) :: t ∧ Ris n (m + 1) t ∧ t.length = f ∧ ok L = true ∧ ∀ t', Ris n (m + 1) t' → t'.length = f → ok (s ++ (m : Int) :: t') = true → soonerL t' t = false) :
    ∀ (g m : Nat), m + g = n → 
      (chooseL (chooseF ok n f) s g m = none → ∀ t, Ris n m t → t.length = f + 1 → ok (s ++ t) = false) ∧
      (∀ L, chooseL (chooseF ok n f) s g m = some L → ∃ t, L = s ++ t ∧ Ris n m t ∧ t.length = f + 1 ∧ ok L = true ∧ ∀ t', Ris n m t' → t'.length = f + 1 → ok (s ++ t') = true → soonerL t' t = false) := by
  intro g
  induction g with
  | zero =>
    intro m hm
    refine ⟨fun _ t ht hl => ?_, fun L h => by simp [chooseL] at h⟩
    cases t with
    | nil => simp at hl
    | cons x t => obtain ⟨a, b, _⟩ := ht; omega
  | succ g ih =>
    intro m hm
    obtain ⟨i0, i1⟩ := ih (m + 1) (by omega)
    unfold chooseL
    cases hc : chooseF ok n f (s ++ [(m : Int)]) with
    | none =>
      dsimp only
      have hno := h0 m (by omega) hc
      refine ⟨fun h t ht hl => ?_, fun L h => ?_⟩
      · cases t with
        | nil => simp at hl
        | cons x t =>
          obtain ⟨a, b, c⟩ := ht
          by_cases e : x = (m : Int)
          · subst e
            exact hno t (by rwa [show ((m : Int) + 1).toNat = m + 1 by omega] at c) (by simpa using hl)
          · exact i0 h (x :: t) ⟨by omega, b, c⟩ hl
      · obtain ⟨t, e, hr, hl, hk, hm2⟩ := i1 L h
        refine ⟨t, e, ?_, hl, hk, fun t' ht' hl' hk' => ?_⟩
        · cases t with
          | nil => simp at hl
          | cons x t => exact ⟨by have := hr.1; omega, hr.2⟩
        · cases t' with
          | nil => simp at hl'
          | cons x t' =>
            obtain ⟨a, b, c⟩ := ht'
            by_cases e2 : x = (m : Int)
            · subst e2
              have := hno t' (by rwa [show ((m : Int) + 1).toNat = m + 1 by omega] at c) (by simpa using hl')
              rw [this] at hk'
              exact absurd hk' (by decide)
            · exact hm2 (x :: t') ⟨by omega, b, c⟩ hl' hk'
    | some L0 =>
      dsimp only
      refine ⟨fun h => (by cases h), fun L h => ?_⟩
      obtain rfl : L0 = L := Option.some.inj h
      obtain ⟨t, e, hr, hl, hk, hm2⟩ := h1 m L0 (by omega) hc
      refine ⟨(m : Int) :: t, e, ⟨Int.le_refl _, by omega, by rwa [show ((m : Int) + 1).toNat = m + 1 by omega]⟩, by simp [hl], hk, fun t' ht' hl' hk' => ?_⟩
      cases t' with
      | nil => simp at hl'
      | cons x t' =>
        obtain ⟨a, b, c⟩ := ht'
        unfold soonerL
        by_cases e2 : x = (m : Int)
        · subst e2
          rw [if_pos rfl]
          exact hm2 t' (by rwa [show ((m : Int) + 1).toNat = m + 1 by omega] at c) (by simpa using hl') hk'
        · rw [if_neg e2]
          exact decide_eq_false (by omega)
theorem chooseF_law {ok : List Int → Bool} {n : Nat} : ∀ (f : Nat) (s : List Int), startOf s ≤ n →
    (chooseF ok n f s = none → ∀ t, Ris n (startOf s) t → t.length = f → ok (s ++ t) = false) ∧
    (∀ L, chooseF ok n f s = some L → ∃ t, L = s ++ t ∧ Ris n (startOf s) t ∧ t.length = f ∧ ok L = true ∧ ∀ t', Ris n (startOf s) t' → t'.length = f → ok (s ++ t') = true → soonerL t' t = false) := by
  intro f
  induction f with
  | zero =>
    intro s hs
    unfold chooseF
    cases h : ok s with
    | false =>
      rw [if_neg (by decide)]
      refine ⟨fun _ t _ hl => ?_, fun L h => by cases h⟩
      rw [List.eq_nil_of_length_eq_zero hl, List.append_nil]
      exact h
    | true =>
      rw [if_pos rfl]
      refine ⟨fun h => (by cases h), fun L h' => ?_⟩
      obtain rfl : s = L := Option.some.inj h'
      refine ⟨[], by simp, trivial, rfl, h, fun t' _ hl _ => ?_⟩
      rw [List.eq_nil_of_length_eq_zero hl]
      rfl
  | succ f ih =>
    intro s hs
    unfold chooseF
    have hm : ∀ m : Nat, startOf (s ++ [(m : Int)]) = m + 1 := fun m => by rw [startOf_snoc]; omega
    have key : ∀ m : Nat, m < n → startOf (s ++ [(m : Int)]) ≤ n := fun m hmn => by rw [hm]; omega
    refine chooseL_law (fun m hmn h t ht hl => ?_) (fun m L hmn h => ?_) (n - startOf s) (startOf s) (by omega)
    · have := (ih (s ++ [(m : Int)]) (key m hmn)).1 h t (by rw [hm]; exact ht) hl
      rwa [List.append_assoc, List.singleton_append] at this
    · obtain ⟨t, e, hr, hl, hk, hm2⟩ := (ih (s ++ [(m : Int)]) (key m hmn)).2 L h
      rw [List.append_assoc, List.singleton_append] at e
      rw [hm] at hr hm2
      refine ⟨t, e, hr, hl, hk, fun t' ht' hl' hk' => hm2 t' ht' hl' ?_⟩
      rw [List.append_assoc, List.singleton_append]
      exact hk'
theorem chooseAll_law {ok : List Int → Bool} {n : Nat} : ∀ (g m : Nat),
    (chooseAll ok n g m = none → ∀ t, Ris n 0 t → m ≤ t.length → t.length < m + g → ok t = false) ∧
    (∀ L, chooseAll ok n g m = some L → Ris n 0 L ∧ m ≤ L.length ∧ L.length < m + g ∧ ok L = true ∧ ∀ t, Ris n 0 t → m ≤ t.length → ok t = true → fewerL t L = false) := by
  intro g
  induction g with
  | zero => intro m; exact ⟨fun _ t _ h1 h2 => by omega, fun L h => by simp [chooseAll] at h⟩
  | succ g ih =>
    intro m
    obtain ⟨i0, i1⟩ := ih (m + 1)
    have hc := chooseF_law (ok := ok) (n := n) m [] (by show 0 ≤ n; omega)
    have hs : startOf ([] : List Int) = 0 := rfl
    rw [hs] at hc
    unfold chooseAll
    cases h : chooseF ok n m [] with
    | none =>
      dsimp only
      have hno := hc.1 h
      refine ⟨fun h t ht h1 h2 => ?_, fun L h => ?_⟩
      · by_cases e : t.length = m
        · exact hno t ht e
        · exact i0 h t ht (by omega) (by omega)
      · obtain ⟨a, b, c, d, e⟩ := i1 L h
        refine ⟨a, by omega, by omega, d, fun t ht h1 hk => ?_⟩
        by_cases q : t.length = m
        · have := hno t ht q
          rw [List.nil_append, hk] at this
          exact absurd this (by decide)
        · exact e t ht (by omega) hk
    | some L0 =>
      dsimp only
      refine ⟨fun h => (by cases h), fun L h' => ?_⟩
      obtain rfl : L0 = L := Option.some.inj h'
      obtain ⟨t, e, hr, hl, hk, hm⟩ := hc.2 L0 h
      rw [List.nil_append] at e
      subst e
      refine ⟨hr, by omega, by omega, hk, fun t' ht' h1 hk' => ?_⟩
      unfold fewerL
      by_cases q : t'.length = L0.length
      · rw [if_pos q]
        exact hm t' ht' (by omega) (by rwa [List.nil_append])
      · rw [if_neg q]
        exact decide_eq_false (by omega)
/-- The looks that are not among some. -/
def withoutL : List S43 → List Int → Nat → List S43
  | [], _, _ => []
  | x :: xs, l, k => if (k : Int) ∈ l then withoutL xs l (k + 1) else x :: withoutL xs l (k + 1)
theorem rightFrom_without (day bound : Int) (l : List Int) : ∀ (ks : List S43) (k k' : Nat), rightFrom ks day bound l k = rightFrom (withoutL ks l k) day bound [] k' := by
  intro ks
  induction ks with
  | nil => intro k k'; rfl
  | cons x ks ih =>
    intro k k'
    unfold withoutL
    by_cases h : (k : Int) ∈ l
    · rw [if_pos h, rightFrom_cons, ← ih (k + 1) k']
      unfold rightLook
      simp [h]
    · rw [if_neg h, rightFrom_cons, rightFrom_cons, ← ih (k + 1) (k' + 1)]
      unfold rightLook
      simp [h]
theorem okRoad_without (ks : List S43) (l : List Int) : ∀ (rs : List Rd) (day : Nat), okRoad ks l day rs = okRoad (withoutL ks l 0) [] day rs := by
  intro rs
  induction rs with
  | nil => intro day; rfl
  | cons r rs ih =>
    intro day
    simp only [okRoad]
    rw [ih, rightFrom_without (day : Int) r.bound l ks 0 0]
theorem truths_without (ls : List S92) (ds : List S90) (ks : List S43) (l : List Int) : truthsAll ls ds ks l = truthsAll ls ds (withoutL ks l 0) [] := by
  rw [truthsAll_good, truthsAll_good]
  unfold good
  congr 1
  refine List.filter_congr fun c _ => ?_
  rw [okRoad_without]
theorem withoutL_sub (l : List Int) : ∀ (ks : List S43) (k : Nat), (withoutL ks l k).length ≤ ks.length ∧ ∀ x ∈ withoutL ks l k, x ∈ ks := by
  intro ks
  induction ks with
  | nil => intro k; exact ⟨Nat.le_refl _, fun x h => h⟩
  | cons y ks ih =>
    intro k
    obtain ⟨h1, h2⟩ := ih (k + 1)
    unfold withoutL
    by_cases h : (k : Int) ∈ l
    · rw [if_pos h]
      exact ⟨by simp; omega, fun x hx => List.mem_cons_of_mem _ (h2 x hx)⟩
    · rw [if_neg h]
      refine ⟨by simpa using h1, fun x hx => ?_⟩
      rcases List.mem_cons.1 hx with rfl | hx
      · simp
      · exact List.mem_cons_of_mem _ (h2 x hx)
theorem withoutL_all (l : List Int) : ∀ (ks : List S43) (k : Nat), (∀ i, i < ks.length → ((k + i : Nat) : Int) ∈ l) → withoutL ks l k = [] := by
  intro ks
  induction ks with
  | nil => intro k _; rfl
  | cons y ks ih =>
    intro k h
    unfold withoutL
    have h0 := h 0 (by simp)
    rw [Nat.add_zero] at h0
    rw [if_pos h0]
    exact ih (k + 1) fun i hi => by
      have := h (i + 1) (by simpa using hi)
      rwa [show k + (i + 1) = k + 1 + i by omega] at this
theorem ris_range (n : Nat) : ∀ (k a : Nat), a + k = n → Ris n a ((List.range' a k).map fun (i : Nat) => (i : Int)) := by
  intro k
  induction k with
  | zero => intro a _; trivial
  | succ k ih =>
    intro a h
    rw [List.range'_succ, List.map_cons]
    refine ⟨Int.le_refl _, by omega, ?_⟩
    rw [show ((a : Int) + 1).toNat = a + 1 by omega]
    exact ih (a + 1) (by omega)
section
variable {ls : List S92} {ds : List S90} {ks : List S43}
theorem okBook_without (hok : okBook ls ds ks = true) (l : List Int) : okBook ls ds (withoutL ks l 0) = true := by
  obtain ⟨a, b, c, d, e, f⟩ := okBook_parts hok
  obtain ⟨h1, h2⟩ := withoutL_sub l ks 0
  exact okBook_mk a b (by omega) d e fun x hx => f x (h2 x hx)
theorem right_without (hok : okBook ls ds ks = true) (l : List Int) : rightF ls ds (withoutL ks l 0) = (okBut ls ds ks l, 0) := by
  unfold rightF okBut
  rw [if_pos (okBook_without hok l), truths_without ls ds ks l]
/-- What Wrong tells. -/
theorem wrong_law (hok : okBook ls ds ks = true) : ∃ L, wrongF ls ds ks = (L, 0) ∧ L.length ≤ 4 ∧ Ris ks.length 0 L ∧ rightF ls ds ks = (decide (L.length = 0), 0) ∧ rightF ls ds (withoutL ks L 0) = (true, 0) ∧ ∀ l, Ris ks.length 0 l → ∃ b, rightF ls ds (withoutL ks l 0) = (b, 0) ∧ (b = true → fewerL l L = false) := by
  unfold wrongF
  rw [if_pos hok]
  obtain ⟨h0, h1⟩ := chooseAll_law (ok := okBut ls ds ks) (n := ks.length) (ks.length + 1) 0
  cases h : chooseAll (okBut ls ds ks) ks.length (ks.length + 1) 0 with
  | none =>
    have hr := ris_range ks.length ks.length 0 (by omega)
    have := h0 h _ hr (by omega) (by simp)
    have ht : okBut ls ds ks ((List.range' 0 ks.length).map fun (i : Nat) => (i : Int)) = true := by
      unfold okBut
      rw [truths_without, withoutL_all _ ks 0 (fun i hi => List.mem_map.2 ⟨i, by simp [List.mem_range']; omega, by simp⟩)]
      exact decide_eq_true (truths_nolooks (okBook_nolooks hok))
    rw [ht] at this
    exact absurd this (by decide)
  | some L =>
    obtain ⟨hr, _, hl, hk, hm⟩ := h1 L h
    have h4 := (okBook_parts hok).2.2.1
    have hn := withoutL_all
    refine ⟨L, rfl, by omega, hr, ?_, ?_, fun l hl => ⟨okBut ls ds ks l, right_without hok l, fun h => hm l hl (by omega) h⟩⟩
    · unfold rightF
      rw [if_pos hok]
      congr 1
      by_cases e : L.length = 0
      · rw [decide_eq_true e]
        rw [List.eq_nil_of_length_eq_zero e] at hk
        exact hk
      · rw [decide_eq_false e]
        cases hb : decide (0 < (truthsAll ls ds ks []).length) with
        | false => rfl
        | true =>
          have := hm [] trivial (by simp) hb
          unfold fewerL at this
          rw [if_neg (show ¬ ([] : List Int).length = L.length by simp only [List.length_nil]; omega)] at this
          have h9 : ¬ 0 < L.length := of_decide_eq_false this
          omega
    · rw [right_without hok, hk]
end
end Go.Proofs.YthgjedagbgmgmaaDoor.Pr
namespace Go.Proofs.YthgjedagbgmgmaaDoor.Pr
open Go.RowKit Go.Proofs.YthgjedagbgmgmaaDoorW.PrintWords Go.Proofs.YthgjedagbgmgmaaDoorW.PrintLast Go.Proofs.YthgjedagbgmgmaaDoorW.PrintMore
set_option linter.unusedVariables false
set_option linter.unusedSimpArgs false
/-- How many layers are bound, by how many wagons the next was rolled, and the stone that was laid and lost. -/
structure Kn where
  at_ : Int
  by_ : Int
  laid : Int
  lost : Int
/-- The stone of a layer. -/
def yardAt (ls : List S92) (b : Int) : Int := (ls.getD b.toNat z92).f1
def needAt (ls : List S92) (b : Int) : Int := (ls.getD b.toNat z92).f0
def Kn.lay (ls : List S92) (k : Kn) : Kn := if k.by_ < 0 then { k with by_ := 0, laid := k.laid + yardAt ls k.at_ } else k
def stepK (ls : List S92) (k : Kn) (s w : Int) : Kn :=
  if k.at_ = ls.length then k else
  if s = 2 then { k.lay ls with by_ := -1, lost := k.lost + yardAt ls k.at_ }
  else if s = 1 then (if needAt ls k.at_ ≤ (k.lay ls).by_ + w then { k.lay ls with at_ := k.at_ + 1, by_ := -1 } else { k.lay ls with by_ := (k.lay ls).by_ + w })
  else k.lay ls
def knFrom (ls : List S92) : Ch → Kn → List Kn
  | [], _ => []
  | p :: c, k => stepK ls k p.2 p.1 :: knFrom ls c (stepK ls k p.2 p.1)
def lastK (ls : List S92) : Ch → Kn → Kn
  | [], k => k
  | p :: c, k => lastK ls c (stepK ls k p.2 p.1)
def kn0 : Kn := ⟨0, -1, 0, 0⟩
def Rd.A (r : Rd) : List Int := [r.a0, r.a1, r.a2, r.a3]
def Rd.O (r : Rd) : List Int := [r.o0, r.o1, r.o2, r.o3]
/-- What lies on the road. -/
def stoneTo (ls : List S92) (b : Int) : Int := sumI ((ls.take b.toNat).map fun x => x.f1)
theorem yards_lay {ls : List S92} {r : Rd} (h0 : 0 ≤ r.bound) (h : r.bound < ls.length) (h4 : ls.length ≤ 4) : yardsI ls r.lay.A = yardsI ls r.A + yardAt ls r.bound ∧ r.lay.O = r.O := by
  obtain ⟨b, q, a0, a1, a2, a3, o0, o1, o2, o3⟩ := r
  dsimp only at h0 h
  have hb : b = 0 ∨ b = 1 ∨ b = 2 ∨ b = 3 := by omega
  match ls, h4 with
  | [], _ => simp at h; omega
  | [x], _ => rcases hb with rfl | rfl | rfl | rfl <;> first | (exfalso; simp at h; done) | (constructor <;> simp [yardsI, sumI, Rd.lay, Rd.A, Rd.O, yardAt, List.range, List.range.loop, Int.add_mul] <;> omega)
  | [x, y], _ => rcases hb with rfl | rfl | rfl | rfl <;> first | (exfalso; simp at h; done) | (constructor <;> simp [yardsI, sumI, Rd.lay, Rd.A, Rd.O, yardAt, List.range, List.range.loop, Int.add_mul] <;> omega)
  | [x, y, z], _ => rcases hb with rfl | rfl | rfl | rfl <;> first | (exfalso; simp at h; done) | (constructor <;> simp [yardsI, sumI, Rd.lay, Rd.A, Rd.O, yardAt, List.range, List.range.loop, Int.add_mul] <;> omega)
  | [x, y, z, u], _ => rcases hb with rfl | rfl | rfl | rfl <;> (constructor <;> simp [yardsI, sumI, Rd.lay, Rd.A, Rd.O, yardAt, List.range, List.range.loop, Int.add_mul] <;> omega)
theorem yards_lose {ls : List S92} {r : Rd} (h0 : 0 ≤ r.bound) (h : r.bound < ls.length) (h4 : ls.length ≤ 4) : yardsI ls r.lose.O = yardsI ls r.O + yardAt ls r.bound ∧ r.lose.A = r.A := by
  obtain ⟨b, q, a0, a1, a2, a3, o0, o1, o2, o3⟩ := r
  dsimp only at h0 h
  have hb : b = 0 ∨ b = 1 ∨ b = 2 ∨ b = 3 := by omega
  match ls, h4 with
  | [], _ => simp at h; omega
  | [x], _ => rcases hb with rfl | rfl | rfl | rfl <;> first | (exfalso; simp at h; done) | (constructor <;> simp [yardsI, sumI, Rd.lose, Rd.A, Rd.O, yardAt, List.range, List.range.loop, Int.add_mul] <;> omega)
  | [x, y], _ => rcases hb with rfl | rfl | rfl | rfl <;> first | (exfalso; simp at h; done) | (constructor <;> simp [yardsI, sumI, Rd.lose, Rd.A, Rd.O, yardAt, List.range, List.range.loop, Int.add_mul] <;> omega)
  | [x, y, z], _ => rcases hb with rfl | rfl | rfl | rfl <;> first | (exfalso; simp at h; done) | (constructor <;> simp [yardsI, sumI, Rd.lose, Rd.A, Rd.O, yardAt, List.range, List.range.loop, Int.add_mul] <;> omega)
  | [x, y, z, u], _ => rcases hb with rfl | rfl | rfl | rfl <;> (constructor <;> simp [yardsI, sumI, Rd.lose, Rd.A, Rd.O, yardAt, List.range, List.range.loop, Int.add_mul] <;> omega)
theorem stone_next {ls : List S92} {b : Int} (h0 : 0 ≤ b) (h : b < ls.length) : stoneTo ls (b + 1) = stoneTo ls b + yardAt ls b := by
  unfold stoneTo yardAt sumI
  have hb : b.toNat < ls.length := by omega
  rw [show (b + 1).toNat = b.toNat + 1 by omega, List.take_add_one, List.getElem?_eq_getElem hb, List.map_append, List.foldl_append, List.getD_eq_getElem?_getD, List.getElem?_eq_getElem hb]
  simp
/-- What is known of a road. -/
structure KnR (ls : List S92) (k : Kn) (r : Rd) : Prop where
  b : k.at_ = r.bound
  y : k.by_ = r.rolled
  a : k.laid = yardsI ls r.A
  o : k.lost = yardsI ls r.O
  b0 : 0 ≤ k.at_
  b1 : k.at_ ≤ ls.length
  y0 : -1 ≤ k.by_
  full : k.at_ = ls.length → k.by_ = -1
  lies : k.laid - k.lost = stoneTo ls k.at_ + (if k.by_ < 0 then 0 else yardAt ls k.at_)
theorem knR_begin {ls : List S92} (h1 : 1 ≤ ls.length) : KnR ls kn0 r00 := by
  have hz : yardsI ls [0, 0, 0, 0] = 0 := by
    unfold yardsI
    refine sumI_zero _ fun x hx => ?_
    obtain ⟨k, _, rfl⟩ := List.mem_map.1 hx
    have : ([0, 0, 0, 0] : List Int).getD k 0 = 0 := by
      match k with
      | 0 => rfl
      | 1 => rfl
      | 2 => rfl
      | 3 => rfl
      | k + 4 => rfl
    rw [this, Int.zero_mul]
  refine ⟨rfl, rfl, hz.symm, hz.symm, Int.le_refl _, by show (0 : Int) ≤ ls.length; omega, Int.le_refl _, fun _ => rfl, ?_⟩
  show (0 : Int) - 0 = stoneTo ls 0 + 0
  unfold stoneTo sumI
  simp
theorem lay_rel {ls : List S92} (h4 : ls.length ≤ 4) {k : Kn} {r : Rd} (h : KnR ls k r) (hlt : k.at_ < ls.length) :
    (k.lay ls).at_ = r.bound ∧ (k.lay ls).by_ = r.start.rolled ∧ (k.lay ls).laid = yardsI ls r.start.A ∧ (k.lay ls).lost = yardsI ls r.start.O ∧ r.start.bound = r.bound ∧ 0 ≤ (k.lay ls).by_ ∧ (k.lay ls).laid - (k.lay ls).lost = stoneTo ls k.at_ + yardAt ls k.at_ := by
  obtain ⟨b, y, a, o, b0, b1, y0, full, lies⟩ := h
  unfold Kn.lay Rd.start
  by_cases e : k.by_ < 0
  · have e2 : r.rolled = -1 := by omega
    rw [if_pos e, if_pos e2]
    rw [if_pos e] at lies
    obtain ⟨l1, l2⟩ := yards_lay (r := r) (by omega) (by omega) h4
    refine ⟨b, rfl, ?_, ?_, r.lay_bound, Int.le_refl _, ?_⟩
    · show k.laid + yardAt ls k.at_ = yardsI ls r.lay.A
      rw [l1, a, b]
    · show k.lost = yardsI ls r.lay.O
      rw [l2, o]
    · dsimp only; omega
  · have e2 : ¬ r.rolled = -1 := by omega
    rw [if_neg e, if_neg e2]
    rw [if_neg e] at lies
    exact ⟨b, y, a, o, rfl, by omega, lies⟩
theorem stepK_rel {ls : List S92} (h4 : ls.length ≤ 4) {k : Kn} {r : Rd} (h : KnR ls k r) {s w : Int} (hw : 0 ≤ w) : KnR ls (stepK ls k s w) (afterR ls r s w) := by
  by_cases hf : k.at_ = ls.length
  · have hf' : r.bound = ls.length := by rw [← h.b]; exact hf
    unfold stepK afterR
    rw [if_pos hf, if_pos hf']
    exact h
  · have hf' : ¬ r.bound = ls.length := by rw [← h.b]; exact hf
    have hlt : k.at_ < ls.length := by have := h.b1; omega
    obtain ⟨e1, e2, e3, e4, e5, e6, e7⟩ := lay_rel h4 h hlt
    have hb := h.b
    have b0 := h.b0
    have ew : (k.lay ls).at_ = k.at_ := by rw [e1, hb]
    have el : (k.lay ls).lost = k.lost := by unfold Kn.lay; split <;> rfl
    unfold stepK afterR
    rw [if_neg hf, if_neg hf']
    by_cases s2 : s = 2
    · subst s2
      rw [if_pos rfl, if_neg (by decide), if_pos rfl]
      have hd : r.start.drown 2 = r.start.lose := by unfold Rd.drown; rw [if_pos rfl]
      rw [hd]
      obtain ⟨l1, l2⟩ := yards_lose (r := r.start) (by rw [e5]; omega) (by rw [e5]; omega) h4
      refine ⟨?_, rfl, ?_, ?_, ?_, ?_, Int.le_refl _, fun _ => rfl, ?_⟩
      · exact e1
      · show (k.lay ls).laid = yardsI ls r.start.lose.A
        rw [l2, e3]
      · show k.lost + yardAt ls k.at_ = yardsI ls r.start.lose.O
        rw [l1, ← e4, e5, hb, el]
      · show 0 ≤ (k.lay ls).at_
        omega
      · show (k.lay ls).at_ ≤ ls.length
        omega
      · show (k.lay ls).laid - (k.lost + yardAt ls k.at_) = stoneTo ls (k.lay ls).at_ + 0
        rw [ew]
        omega
    · rw [if_neg s2]
      have hd : r.start.drown s = r.start := by unfold Rd.drown; rw [if_neg s2]
      rw [hd]
      by_cases s1 : s = 1
      · subst s1
        rw [if_pos rfl, if_pos rfl]
        have hn : (ls.getD r.bound.toNat z92).f0 = needAt ls k.at_ := by rw [hb]; rfl
        rw [hn, ← e2]
        by_cases hq : needAt ls k.at_ ≤ (k.lay ls).by_ + w
        · rw [if_pos hq, if_pos hq]
          refine ⟨?_, rfl, e3, e4, ?_, ?_, Int.le_refl _, fun _ => rfl, ?_⟩
          · show k.at_ + 1 = r.bound + 1
            rw [hb]
          · show 0 ≤ k.at_ + 1
            omega
          · show k.at_ + 1 ≤ ls.length
            omega
          · show (k.lay ls).laid - (k.lay ls).lost = stoneTo ls (k.at_ + 1) + 0
            rw [stone_next b0 hlt]
            omega
        · rw [if_neg hq, if_neg hq]
          refine ⟨e1, rfl, e3, e4, ?_, ?_, ?_, ?_, ?_⟩
          · show 0 ≤ (k.lay ls).at_
            omega
          · show (k.lay ls).at_ ≤ ls.length
            omega
          · show -1 ≤ (k.lay ls).by_ + w
            omega
          · intro q
            have q : (k.lay ls).at_ = ls.length := q
            omega
          · show (k.lay ls).laid - (k.lay ls).lost = stoneTo ls (k.lay ls).at_ + (if (k.lay ls).by_ + w < 0 then 0 else yardAt ls (k.lay ls).at_)
            rw [if_neg (by omega), ew]
            exact e7
      · rw [if_neg s1, if_neg s1, if_neg s2]
        refine ⟨e1, e2, e3, e4, ?_, ?_, by omega, fun q => by omega, ?_⟩
        · omega
        · omega
        · rw [if_neg (by omega), ew]
          exact e7
theorem knFrom_rel {ls : List S92} (h4 : ls.length ≤ 4) : ∀ (c : Ch) (k : Kn) (r : Rd), (∀ i (h : i < c.length), 0 ≤ c[i].1) → KnR ls k r →
    (knFrom ls c k).length = c.length ∧ ∀ (i : Nat) x y, (knFrom ls c k)[i]? = some x → (roadFrom ls c r)[i]? = some y → KnR ls x y := by
  intro c
  induction c with
  | nil => intro k r _ _; exact ⟨rfl, fun i x y h => by simp [knFrom] at h⟩
  | cons p c ih =>
    intro k r hc h
    have h1 : KnR ls (stepK ls k p.2 p.1) (afterR ls r p.2 p.1) := stepK_rel h4 h (s := p.2) (hc 0 (by simp))
    obtain ⟨i0, i1⟩ := ih _ _ (fun i hi => by have := hc (i + 1) (by simpa using hi); simpa using this) h1
    refine ⟨by simp [knFrom, i0], fun i x y hx hy => ?_⟩
    cases i with
    | zero =>
      simp only [knFrom, roadFrom, List.getElem?_cons_zero, Option.some.injEq] at hx hy
      rw [← hx, ← hy]
      exact h1
    | succ i =>
      simp only [knFrom, roadFrom, List.getElem?_cons_succ] at hx hy
      exact i1 i x y hx hy
theorem lastK_get (ls : List S92) : ∀ (c : Ch) (k : Kn) (n : Nat), c.length = n + 1 → (knFrom ls c k)[n]? = some (lastK ls c k) := by
  intro c
  induction c with
  | nil => intro k n h; simp at h
  | cons p c ih =>
    intro k n h
    cases n with
    | zero =>
      have : c = [] := List.eq_nil_of_length_eq_zero (by simpa using h)
      subst this
      rfl
    | succ n =>
      show (knFrom ls c _)[n]? = some (lastK ls c _)
      exact ih _ n (by simpa using h)
/-- How many layers are bound at the end of each day. -/
def boundsK (ls : List S92) (c : Ch) : List Int := (knFrom ls c kn0).map Kn.at_
section
variable {ls : List S92} {ds : List S90} {ks : List S43}
theorem kn_day (hok : okBook ls ds ks = true) {c : Ch} (hc : OkCh ds c) {d : Nat} (hd : d < ds.length) : ∃ k, (knFrom ls c kn0)[d]? = some k ∧ KnR ls k (rdAt ls c d) := by
  obtain ⟨a, b, _, _, e, _⟩ := okBook_parts hok
  have h0 := okCh_zero e hc
  obtain ⟨i0, i1⟩ := knFrom_rel a.2 c kn0 r00 h0 (knR_begin a.1)
  have hdc : d < c.length := by rw [hc.1]; exact hd
  have h1 : d < (knFrom ls c kn0).length := by rw [i0]; exact hdc
  have h2 : d < (roadFrom ls c r00).length := by rw [roadFrom_length]; exact hdc
  refine ⟨_, List.getElem?_eq_getElem h1, ?_⟩
  rw [rdAt_get hdc]
  exact i1 d _ _ (List.getElem?_eq_getElem h1) (List.getElem?_eq_getElem h2)
theorem boundsK_length (hok : okBook ls ds ks = true) {c : Ch} (hc : OkCh ds c) : (boundsK ls c).length = ds.length := by
  obtain ⟨a, b, _, _, e, _⟩ := okBook_parts hok
  unfold boundsK
  rw [List.length_map, (knFrom_rel a.2 c kn0 r00 (okCh_zero e hc) (knR_begin a.1)).1, hc.1]
theorem boundsK_get (hok : okBook ls ds ks = true) {c : Ch} (hc : OkCh ds c) {d : Nat} (hd : d < ds.length) : (boundsK ls c)[d]? = some (rdAt ls c d).bound ∧ 0 ≤ (rdAt ls c d).bound ∧ (rdAt ls c d).bound ≤ ls.length := by
  obtain ⟨k, h1, h2⟩ := kn_day hok hc hd
  unfold boundsK
  rw [List.getElem?_map, h1, ← h2.b]
  exact ⟨rfl, h2.b0, h2.b1⟩
theorem kn_last (hok : okBook ls ds ks = true) {c : Ch} (hc : OkCh ds c) : KnR ls (lastK ls c kn0) (rdAt ls c (ds.length - 1)) := by
  have b := (okBook_parts hok).2.1
  obtain ⟨k, h1, h2⟩ := kn_day hok hc (show ds.length - 1 < ds.length by omega)
  rw [lastK_get ls c kn0 (ds.length - 1) (by rw [hc.1]; omega)] at h1
  rwa [Option.some.inj h1]
theorem laidY_kn (hok : okBook ls ds ks = true) {c : Ch} (hc : OkCh ds c) : laidY ls ds (enc0 ls c) = (lastK ls c kn0).laid := by
  have b := (okBook_parts hok).2.1
  have hd : ds.length - 1 < ds.length := by omega
  have e := fun k hk => enc0_road (ls := ls) hc b.2 (ds.length - 1) hd k hk
  rw [(kn_last hok hc).a]
  unfold laidY Rd.A
  rw [e 2 (by omega), show 10 + (ds.length - 1) * 10 + 2 + 1 = 10 + (ds.length - 1) * 10 + 3 from rfl, show 10 + (ds.length - 1) * 10 + 2 + 2 = 10 + (ds.length - 1) * 10 + 4 from rfl, show 10 + (ds.length - 1) * 10 + 2 + 3 = 10 + (ds.length - 1) * 10 + 5 from rfl, e 3 (by omega), e 4 (by omega), e 5 (by omega)]
  rfl
theorem lostY_kn (hok : okBook ls ds ks = true) {c : Ch} (hc : OkCh ds c) : lostY ls ds (enc0 ls c) = (lastK ls c kn0).lost := by
  have b := (okBook_parts hok).2.1
  have hd : ds.length - 1 < ds.length := by omega
  have e := fun k hk => enc0_road (ls := ls) hc b.2 (ds.length - 1) hd k hk
  rw [(kn_last hok hc).o]
  unfold lostY Rd.O
  rw [e 6 (by omega), show 10 + (ds.length - 1) * 10 + 6 + 1 = 10 + (ds.length - 1) * 10 + 7 from rfl, show 10 + (ds.length - 1) * 10 + 6 + 2 = 10 + (ds.length - 1) * 10 + 8 from rfl, show 10 + (ds.length - 1) * 10 + 6 + 3 = 10 + (ds.length - 1) * 10 + 9 from rfl, e 7 (by omega), e 8 (by omega), e 9 (by omega)]
  rfl
theorem lost_told (hok : okBook ls ds ks = true) (hT : 0 < (truthsAll ls ds ks []).length) : ∃ a b : Int, lostF ls ds ks = (a, b, 0) ∧ Told (good ls ds ks []) (fun c => (lastK ls c kn0).lost) a b := by
  unfold lostF
  rw [if_pos (askCode_true_zero hok hT)]
  exact ⟨_, _, rfl, told_span hT fun c hc => lostY_kn hok (mem_good.1 hc).1⟩
theorem laid_told (hok : okBook ls ds ks = true) (hT : 0 < (truthsAll ls ds ks []).length) : ∃ a b : Int, laidF ls ds ks = (a, b, 0) ∧ Told (good ls ds ks []) (fun c => (lastK ls c kn0).laid) a b := by
  unfold laidF
  rw [if_pos (askCode_true_zero hok hT)]
  exact ⟨_, _, rfl, told_span hT fun c hc => laidY_kn hok (mem_good.1 hc).1⟩
theorem wagons_told (hok : okBook ls ds ks = true) (hT : 0 < (truthsAll ls ds ks []).length) {d : Nat} (hd : d < ds.length) : ∃ a b : Int, wagonsF ls ds ks d = (a, b, 0) ∧ Told (good ls ds ks []) (fun c => (c.getD d (0, 0)).1) a b := by
  unfold wagonsF
  rw [isDay_true hd, if_pos (askCode_true_zero hok hT), Int.toNat_natCast]
  exact ⟨_, _, rfl, told_span hT fun c hc => enc0_wagons (mem_good.1 hc).1 (ok_facts hok).2.2.1 d hd⟩
theorem bound_told (hok : okBook ls ds ks = true) (hT : 0 < (truthsAll ls ds ks []).length) {d : Nat} (hd : d < ds.length) : ∃ a b : Int, boundF ls ds ks d = (a, b, 0) ∧ bspan (truthsAll ls ds ks []) d = (a, b) ∧ Told (good ls ds ks []) (fun c => (rdAt ls c d).bound) a b :=
  ⟨_, _, boundF_eq hok hT hd, rfl, bspan_told hok hT hd⟩
theorem sky_told (hok : okBook ls ds ks = true) (hT : 0 < (truthsAll ls ds ks []).length) {d : Nat} (hd : d < ds.length) : ∃ a : Int, skyF ls ds ks d = (a, 0) ∧ 1 ≤ a ∧ a ≤ 7 ∧ ∀ j : Int, 0 ≤ j → j ≤ 2 → (a / 2 ^ j.toNat % 2 = 1 ↔ ∃ c ∈ good ls ds ks [], (c.getD d (0, 0)).2 = j) := by
  have h5 := (ok_facts hok).2.2.1
  unfold skyF
  rw [isDay_true hd, if_pos (askCode_true_zero hok hT), Int.toNat_natCast]
  obtain ⟨a0, a7, a⟩ := skySet_law (truthsAll ls ds ks []) 0 (truths_sky h5 hd) (by decide) (by decide)
  have key : ∀ j : Int, 0 ≤ j → j ≤ 2 → (skySet (truthsAll ls ds ks []) d 0 / 2 ^ j.toNat % 2 = 1 ↔ ∃ c ∈ good ls ds ks [], (c.getD d (0, 0)).2 = j) := by
    intro j j0 j2
    rw [a j j0 j2]
    have hz : ¬ ((0 : Int) / 2 ^ j.toNat % 2 = 1) := by
      have j3 : j = 0 ∨ j = 1 ∨ j = 2 := by omega
      rcases j3 with rfl | rfl | rfl <;> decide
    constructor
    · rintro (h | ⟨t, ht, e⟩)
      · exact absurd h hz
      · obtain ⟨c, hc, rfl⟩ := mem_truths.1 ht
        exact ⟨c, hc, by rw [← e, enc0_sky (mem_good.1 hc).1 h5 d hd]⟩
    · rintro ⟨c, hc, e⟩
      exact .inr ⟨enc0 ls c, mem_truths.2 ⟨c, hc, rfl⟩, by rw [enc0_sky (mem_good.1 hc).1 h5 d hd]; exact e⟩
  refine ⟨_, rfl, ?_, a7, key⟩
  obtain ⟨c, hc⟩ := truths_pos.1 hT
  have ho := (mem_good.1 hc).1
  have hdc : d < c.length := by rw [ho.1]; exact hd
  have hx := ho.2 d hdc hd
  have eq : (c.getD d (0, 0)).2 = c[d].2 := by rw [List.getD_eq_getElem?_getD, List.getElem?_eq_getElem hdc]; rfl
  have := (key _ hx.2.2.1 hx.2.2.2.1).2 ⟨c, hc, eq⟩
  rcases Int.lt_or_eq_of_le a0 with h | h
  · omega
  · rw [← h] at this
    simp at this
/-- The looks that see what is so. -/
def rightLooks (ls : List S92) (c : Ch) (ks : List S43) : List S43 := ks.map fun x => ⟨x.f0, (rdAt ls c x.f0.toNat).bound⟩
theorem rightLooks_ok (hok : okBook ls ds ks = true) {c : Ch} (hc : OkCh ds c) : okBook ls ds (rightLooks ls c ks) = true := by
  obtain ⟨a, b, k4, d, e, f⟩ := okBook_parts hok
  refine okBook_mk a b (by unfold rightLooks; simpa using k4) d e fun x hx => ?_
  unfold rightLooks at hx
  obtain ⟨y, hy, rfl⟩ := List.mem_map.1 hx
  have := f y hy
  unfold okLook at this ⊢
  simp only [Bool.and_eq_true, decide_eq_true_eq] at this ⊢
  obtain ⟨⟨y0, y1⟩, _⟩ := this
  have h := (boundsK_get hok hc (d := y.f0.toNat) (by omega)).2
  exact ⟨⟨y0, y1⟩, h⟩
theorem rightLooks_good (hok : okBook ls ds ks = true) {c : Ch} (hc : OkCh ds c) : c ∈ good ls ds (rightLooks ls c ks) [] := by
  rw [mem_good']
  refine ⟨hc, fun i hi _ d hd e => ?_⟩
  unfold rightLooks at hi e ⊢
  simp only [List.getElem_map] at e ⊢
  rw [e, Int.toNat_natCast]
end
end Go.Proofs.YthgjedagbgmgmaaDoor.Pr
namespace Go.Proofs.YthgjedagbgmgmaaDoor.Pr
open Go.RowKit Go.Proofs.YthgjedagbgmgmaaDoorW.PrintWords Go.Proofs.YthgjedagbgmgmaaDoorW.PrintLast Go.Proofs.YthgjedagbgmgmaaDoorW.PrintMore
set_option linter.unusedVariables false
set_option linter.unusedSimpArgs false
section
variable {ls : List S92} {ds : List S90} {ks : List S43} {c : Ch}
theorem right_told (hok : okBook ls ds ks = true) (hc : c ∈ good ls ds ks []) : rightF ls ds ks = (true, 0) ∧ wrongF ls ds ks = ([], 0) := by
  have hT : 0 < (truthsAll ls ds ks []).length := truths_pos.2 ⟨c, hc⟩
  have hr : rightF ls ds ks = (true, 0) := by
    unfold rightF
    rw [if_pos hok, decide_eq_true hT]
  refine ⟨hr, ?_⟩
  obtain ⟨L, h1, _, _, h2, _⟩ := wrong_law hok
  rw [hr] at h2
  have h3 : L.length = 0 := by
    have : decide (L.length = 0) = true := (congrArg Prod.fst h2).symm
    exact of_decide_eq_true this
  rw [h1, List.eq_nil_of_length_eq_zero h3]
theorem true_bound (hok : okBook ls ds ks = true) (hc : c ∈ good ls ds ks []) {d : Nat} (hd : d < ds.length) : ∃ a b : Int, boundF ls ds ks d = (a, b, 0) ∧ a ≤ (rdAt ls c d).bound ∧ (rdAt ls c d).bound ≤ b := by
  obtain ⟨a, b, h1, _, h2⟩ := bound_told hok (truths_pos.2 ⟨c, hc⟩) hd
  exact ⟨a, b, h1, h2.all c hc⟩
theorem true_wagons (hok : okBook ls ds ks = true) (hc : c ∈ good ls ds ks []) {d : Nat} (hd : d < ds.length) : ∃ a b : Int, wagonsF ls ds ks d = (a, b, 0) ∧ a ≤ (c.getD d (0, 0)).1 ∧ (c.getD d (0, 0)).1 ≤ b := by
  obtain ⟨a, b, h1, h2⟩ := wagons_told hok (truths_pos.2 ⟨c, hc⟩) hd
  exact ⟨a, b, h1, h2.all c hc⟩
theorem okCh_sky (hc : OkCh ds c) {d : Nat} (hd : d < ds.length) : 0 ≤ (c.getD d (0, 0)).2 ∧ (c.getD d (0, 0)).2 ≤ 2 := by
  have hdc : d < c.length := by rw [hc.1]; exact hd
  have hx := hc.2 d hdc hd
  rw [List.getD_eq_getElem?_getD, List.getElem?_eq_getElem hdc]
  exact ⟨hx.2.2.1, hx.2.2.2.1⟩
theorem true_sky (hok : okBook ls ds ks = true) (hc : c ∈ good ls ds ks []) {d : Nat} (hd : d < ds.length) : ∃ a : Int, skyF ls ds ks d = (a, 0) ∧ 1 ≤ a ∧ a ≤ 7 ∧ a / 2 ^ ((c.getD d (0, 0)).2).toNat % 2 = 1 := by
  obtain ⟨a, h1, h2, h3, h4⟩ := sky_told hok (truths_pos.2 ⟨c, hc⟩) hd
  have hs := okCh_sky (mem_good.1 hc).1 hd
  exact ⟨a, h1, h2, h3, (h4 _ hs.1 hs.2).2 ⟨c, hc, rfl⟩⟩
theorem true_lost (hok : okBook ls ds ks = true) (hc : c ∈ good ls ds ks []) : ∃ a b : Int, lostF ls ds ks = (a, b, 0) ∧ a ≤ (lastK ls c kn0).lost ∧ (lastK ls c kn0).lost ≤ b := by
  obtain ⟨a, b, h1, h2⟩ := lost_told hok (truths_pos.2 ⟨c, hc⟩)
  exact ⟨a, b, h1, h2.all c hc⟩
theorem true_laid (hok : okBook ls ds ks = true) (hc : c ∈ good ls ds ks []) : ∃ a b : Int, laidF ls ds ks = (a, b, 0) ∧ a ≤ (lastK ls c kn0).laid ∧ (lastK ls c kn0).laid ≤ b := by
  obtain ⟨a, b, h1, h2⟩ := laid_told hok (truths_pos.2 ⟨c, hc⟩)
  exact ⟨a, b, h1, h2.all c hc⟩
theorem true_done (hok : okBook ls ds ks = true) (hc : c ∈ good ls ds ks []) : doneF ls ds ks = (0, 4) ∨ ∃ j : Nat, doneF ls ds ks = ((j : Int), 0) ∧ j < ds.length ∧ (rdAt ls c j).bound = ls.length := by
  have hT : 0 < (truthsAll ls ds ks []).length := truths_pos.2 ⟨c, hc⟩
  unfold doneF
  rw [if_pos (askCode_true_zero hok hT)]
  rcases firstFrom_law (fun d => (bspan (truthsAll ls ds ks []) d).1) ls.length ds.length 0 with ⟨h1, _⟩ | ⟨j, h1, _, h3, h4, _⟩
  · exact .inl h1
  · refine .inr ⟨j, h1, by omega, ?_⟩
    have hj : j < ds.length := by omega
    have a := ((bspan_told hok hT hj).all c hc).1
    have b := (boundsK_get hok (mem_good.1 hc).1 hj).2.2
    omega
theorem true_perhaps (hok : okBook ls ds ks = true) (hc : c ∈ good ls ds ks []) : (perhapsF ls ds ks = (0, 4) ∧ ∀ d, d < ds.length → (rdAt ls c d).bound ≠ ls.length) ∨ ∃ i : Nat, perhapsF ls ds ks = ((i : Int), 0) ∧ i < ds.length ∧ ∀ d, d < ds.length → (rdAt ls c d).bound = ls.length → i ≤ d := by
  have hT : 0 < (truthsAll ls ds ks []).length := truths_pos.2 ⟨c, hc⟩
  have key : ∀ d, d < ds.length → (rdAt ls c d).bound = ls.length → (bspan (truthsAll ls ds ks []) d).2 = ls.length := by
    intro d hd e
    have a := ((bspan_told hok hT hd).all c hc).2
    have b := (bspan_ends hok hT hd).2.2
    omega
  unfold perhapsF
  rw [if_pos (askCode_true_zero hok hT)]
  rcases firstFrom_law (fun d => (bspan (truthsAll ls ds ks []) d).2) ls.length ds.length 0 with ⟨h1, h2⟩ | ⟨j, h1, _, h3, _, h5⟩
  · exact .inl ⟨h1, fun d hd e => h2 d (by omega) (by omega) (key d hd e)⟩
  · refine .inr ⟨j, h1, by omega, fun d hd e => ?_⟩
    rcases Nat.lt_or_ge d j with q | q
    · exact absurd (key d hd e) (h5 d (by omega) q)
    · exact q
theorem okCh_b (hok : okBook ls ds ks = true) (hc : OkCh ds c) {i : Nat} (hi : i < c.length) : 0 ≤ c[i].1 ∧ c[i].1 ≤ 20 ∧ 0 ≤ c[i].2 ∧ c[i].2 ≤ 2 := by
  have hi' : i < ds.length := by rw [← hc.1]; exact hi
  have h1 := hc.2 i hi hi'
  have h2 := (okBook_parts hok).2.2.2.2.1 _ (List.getElem_mem hi')
  unfold okDay at h2
  simp only [Bool.and_eq_true, decide_eq_true_eq] at h2
  omega
end
end Go.Proofs.YthgjedagbgmgmaaDoor.Pr
namespace Go.Proofs.YthgjedagbgmgmaaDoor.Pr
open Go.RowKit Go.Proofs.YthgjedagbgmgmaaDoorW.PrintWords Go.Proofs.YthgjedagbgmgmaaDoorW.PrintLast Go.Proofs.YthgjedagbgmgmaaDoorW.PrintMore
set_option linter.unusedVariables false
set_option linter.unusedSimpArgs false
theorem stepK_full {ls : List S92} {a : Nat} {b la lo s w : Int} (h : a = ls.length) : stepK ls ⟨a, b, la, lo⟩ s w = ⟨a, b, la, lo⟩ := by
  unfold stepK
  rw [if_pos (by dsimp only; omega)]
theorem stepK_lay {ls : List S92} {a : Nat} {b la lo : Int} (h : a < ls.length) {b1 l1 : Int} (hb : b1 = if b < 0 then 0 else b) (hl : l1 = if b < 0 then la + ls[a].f1 else la) : (⟨a, b, la, lo⟩ : Kn).lay ls = ⟨a, b1, l1, lo⟩ := by
  have hy : yardAt ls (a : Int) = ls[a].f1 := by unfold yardAt; rw [Int.toNat_natCast, List.getD_eq_getElem?_getD, List.getElem?_eq_getElem h]; rfl
  unfold Kn.lay
  dsimp only
  by_cases q : b < 0
  · rw [if_pos q] at hb hl ⊢
    rw [hb, hl, hy]
  · rw [if_neg q] at hb hl ⊢
    rw [hb, hl]
theorem stepK_some {ls : List S92} {a : Nat} {b la lo : Int} (h : a < ls.length) {b1 l1 : Int} (hb : b1 = if b < 0 then 0 else b) (hl : l1 = if b < 0 then la + ls[a].f1 else la) (w : Int) :
    stepK ls ⟨a, b, la, lo⟩ 2 w = ⟨a, -1, l1, lo + ls[a].f1⟩ ∧ (ls[a].f0 ≤ b1 + w → stepK ls ⟨a, b, la, lo⟩ 1 w = ⟨((a + 1 : Nat) : Int), -1, l1, lo⟩) ∧ (¬ ls[a].f0 ≤ b1 + w → stepK ls ⟨a, b, la, lo⟩ 1 w = ⟨a, b1 + w, l1, lo⟩) ∧ stepK ls ⟨a, b, la, lo⟩ 0 w = ⟨a, b1, l1, lo⟩ := by
  have hy : yardAt ls (a : Int) = ls[a].f1 := by unfold yardAt; rw [Int.toNat_natCast, List.getD_eq_getElem?_getD, List.getElem?_eq_getElem h]; rfl
  have hn : needAt ls (a : Int) = ls[a].f0 := by unfold needAt; rw [Int.toNat_natCast, List.getD_eq_getElem?_getD, List.getElem?_eq_getElem h]; rfl
  have hlay := stepK_lay (lo := lo) h hb hl
  have hne : ¬ (a : Int) = ls.length := by omega
  unfold stepK
  dsimp only
  rw [hlay, hy, hn]
  simp only [if_neg hne]
  refine ⟨rfl, fun q => ?_, fun q => ?_, rfl⟩
  · rw [if_neg (by decide), if_pos trivial, if_pos q]
    rfl
  · rw [if_neg (by decide), if_pos trivial, if_neg q]
theorem okCh_all {ls : List S92} {ds : List S90} {ks : List S43} {c : Ch} (hok : okBook ls ds ks = true) (hc : OkCh ds c) : c.length ≤ 5 ∧ ∀ i (h : i < c.length), 0 ≤ c[i].1 ∧ c[i].1 ≤ 20 ∧ 0 ≤ c[i].2 ∧ c[i].2 ≤ 2 :=
  ⟨by have := (okBook_parts hok).2.1; rw [hc.1]; omega, fun i hi => okCh_b hok hc hi⟩
end Go.Proofs.YthgjedagbgmgmaaDoor.Pr
namespace Go.Proofs.YthgjedagbgmgmaaDoor.Pr
open Go.RowKit Go.Proofs.YthgjedagbgmgmaaDoorW.PrintWords Go.Proofs.YthgjedagbgmgmaaDoorW.PrintLast Go.Proofs.YthgjedagbgmgmaaDoorW.PrintMore
attribute [local go_sem] max2_int min2_int max_two min_two -- for this text's walks alone
set_option linter.unusedVariables false
set_option linter.unusedSimpArgs false
def macadamref00_Holds.f (a0_0 : Int) (a0_1 : Int) (a1 : Int) : Option (Bool) := (macadamref00_Amid.f a1 a0_0 a0_1).bind fun t212 => (some t212)
set_option maxHeartbeats 8000000 in
set_option maxRecDepth 100000 in
theorem macadamref00_Holds.calls (a0_0 : Int) (a0_1 : Int) (a1 : Int) (r : Bool) (w : World) (h : macadamref00_Holds.f a0_0 a0_1 a1 = some r) :
    Calls Tryd.prog 59 #[.agg #[.int .i64 a0_0, .int .i64 a0_1], .int .i64 a1] w fun e w' => e = .returned (.bool r) ∧ Below w.heap.size w w' := by
  have hu32 := Tryd.underlying32
  have HB := Aside0.mk (Below.refl w.heap.size w)
  have H : ((macadamref00_Amid.f a1 a0_0 a0_1).bind fun t212 => (some t212)) = some r := h
  clear h
  replace H := Option.bind_eq_some_iff.mp H
  obtain ⟨t212, A30, H⟩ := H
  replace H : (some t212) = some r := H
  have A3 := Aside0.mk A30
  clear A30
  obtain rfl := Option.some.inj H
  go_enter Tryd.func59, Tryd.ntmps59
  go_wp2_with (first | ((with_reducible refine gate_dst (N := 2) rfl ?_); refine box_event ?hg (N := 2) ?hd (cs := #[.int .i64 a0_0, .int .i64 a0_1]) (t := 32) ?hr ?_; (case hd => rfl); (case hg => rfl); (case hr => first | (go_simp; done) | (go_simp; rfl)); intro gb211 hg w4 hbox hb; have n0_ := Aside0.mk (below_step (by repeat (first | (with_reducible first | exact HB.out | apply below_alloc | apply pw_below_drewN | apply below_drew1) | exact HB.out)) hb); have n1_ := Aside0.mk (hbox); have n2_ := Aside0.mk ((by rw [hg]; exact (below_size (by repeat (first | (with_reducible first | exact HB.out | apply below_alloc | apply pw_below_drewN | apply below_drew1) | exact HB.out))) : w.heap.size ≤ gb211)); have n3_ := Aside0.mk ((by rw [hg]; exact (below_size (by repeat (first | (with_reducible first | exact HB.out | apply below_alloc | apply pw_below_drewN | apply below_drew1) | exact HB.out))) : w.heap.size ≤ gb211)); clear HB; have HB := n0_; have BK211 := n1_; have GW211 := n2_; have GE211 := n3_; clear n0_ n1_ n2_ n3_; clear hb hbox hg; have hcz5_0 : w4.cell? ⟨gb211, 0, none⟩ = some (.int .i64 a0_0) := (blk_cell BK211.out 0).trans rfl; have hcz5_1 : w4.cell? ⟨gb211, 1, none⟩ = some (.int .i64 a0_1) := (blk_cell BK211.out 1).trans rfl; have hfz5_0 := blk_frozen BK211.out 0; have hfz5_1 := blk_frozen BK211.out 1) | ((with_reducible refine gate_callee (f := 60) rfl ?_); refine goesL_ (some 10) rfl rfl Tryd.func60 (by kernel_rfl) rfl #[.int .i64 a1, .int .i64 a0_0, .int .i64 a0_1] rfl (by (try simp only [List.map_toArray, List.map_cons, List.map_nil]); first | done | rfl | (simp only [List.length_drop, List.length_take]; rfl)) ?_; (with_reducible refine (macadamref00_Amid.calls a1 a0_0 a0_1 t212 _ A3.out).mono ?_); rintro e w' ⟨rfl, ⟨nd, rfl⟩⟩; refine ⟨_, rfl, ?_⟩))
  go_ret
  exact ⟨by first | rfl | exact congrArg (fun b_ => Ending.returned (.bool b_)) HT.out | (simp [errW_none, errW_some] <;> rfl) | (simp [*, errW_none, errW_some] <;> rfl), by repeat (first | (with_reducible first | exact HB.out | apply below_alloc | apply pw_below_drewN | apply below_drew1 | refine below_set ?_ GE211.out) | exact HB.out)⟩
def macadamref00_In.f (a0 : Int) (a1 : Int) : Option (Bool) := if 0 ≤ a1 then (some ((Go.bits .and .i64 (shr .i64 a0 a1) 1) == 1)) else (none)
set_option maxHeartbeats 8000000 in
set_option maxRecDepth 100000 in
theorem macadamref00_In.calls (a0 : Int) (a1 : Int) (r : Bool) (w : World) (h : macadamref00_In.f a0 a1 = some r) :
    Calls Tryd.prog 61 #[.int .i64 a0, .int .i64 a1] w fun e w' => e = .returned (.bool r) ∧ Drawn0 w w' := by
  have H : (if 0 ≤ a1 then (some ((Go.bits .and .i64 (shr .i64 a0 a1) 1) == 1)) else (none)) = some r := h
  clear h
  by_cases c3 : 0 ≤ a1
  · rw [if_pos c3] at H
    have c3b0 := eq_true c3
    have c3b1 : decide (0 ≤ a1) = true := decide_eq_true c3
    clear c3
    obtain ⟨ji4, hji4⟩ : ∃ j_ : Int, (shr .i64 a0 a1) = j_ := ⟨_, rfl⟩
    replace H : (some ((Go.bits .and .i64 (ji4) 1) == 1)) = some r := by first | (rw [hji4] at H; exact H) | (simp only [hji4] at H ⊢; exact H)
    have hji4_ : (a0 / 2 ^ min a1.toNat 64) = ji4 := hji4
    have hji4z : a1 ≤ 64 → (a0 / 2 ^ a1.toNat) = ji4 := shr_small hji4
    obtain rfl := Option.some.inj H
    go_enter Tryd.func61, Tryd.ntmps61
    go_wp2
    go_ret
    exact ⟨by first | rfl | (simp; done) | (simp only [← hji4] <;> (first | rfl | simp)) | (simp [*]; done), by repeat (first | exact Drawn0.refl _ | apply Drawn0.step)⟩
  · rw [if_neg c3] at H
    exact absurd H (by simp)
def macadamref00_From.f (a0_0 : Int) (a0_1 : Int) (a1 : Int) : Option (Int) := (macadamref00_Wrap.f a1 (wrap64 ((wrap64 (a0_1 - a0_0)) + 1))).bind fun t221 => (some (wrap64 (a0_0 + t221)))
set_option maxHeartbeats 8000000 in
set_option maxRecDepth 100000 in
theorem macadamref00_From.calls (a0_0 : Int) (a0_1 : Int) (a1 : Int) (r : Int) (w : World) (h : macadamref00_From.f a0_0 a0_1 a1 = some r) :
    Calls Tryd.prog 117 #[.agg #[.int .i64 a0_0, .int .i64 a0_1], .int .i64 a1] w fun e w' => e = .returned (.int .i64 r) ∧ Below w.heap.size w w' := by
  have hu32 := Tryd.underlying32
  have HB := Aside0.mk (Below.refl w.heap.size w)
  have H : ((macadamref00_Wrap.f a1 (wrap64 ((wrap64 (a0_1 - a0_0)) + 1))).bind fun t221 => (some (wrap64 (a0_0 + t221)))) = some r := h
  clear h
  replace H := Option.bind_eq_some_iff.mp H
  obtain ⟨t221, A30, H⟩ := H
  replace H : (some (wrap64 (a0_0 + t221))) = some r := H
  have A3 := Aside0.mk A30
  clear A30
  obtain rfl := Option.some.inj H
  go_enter Tryd.func117, Tryd.ntmps117
  go_wp2_with (first | ((with_reducible refine gate_dst (N := 2) rfl ?_); refine box_event ?hg (N := 2) ?hd (cs := #[.int .i64 a0_0, .int .i64 a0_1]) (t := 32) ?hr ?_; (case hd => rfl); (case hg => rfl); (case hr => first | (go_simp; done) | (go_simp; rfl)); intro gb220 hg w4 hbox hb; have n0_ := Aside0.mk (below_step (by repeat (first | (with_reducible first | exact HB.out | apply below_alloc | apply pw_below_drewN | apply below_drew1) | exact HB.out)) hb); have n1_ := Aside0.mk (hbox); have n2_ := Aside0.mk ((by rw [hg]; exact (below_size (by repeat (first | (with_reducible first | exact HB.out | apply below_alloc | apply pw_below_drewN | apply below_drew1) | exact HB.out))) : w.heap.size ≤ gb220)); have n3_ := Aside0.mk ((by rw [hg]; exact (below_size (by repeat (first | (with_reducible first | exact HB.out | apply below_alloc | apply pw_below_drewN | apply below_drew1) | exact HB.out))) : w.heap.size ≤ gb220)); clear HB; have HB := n0_; have BK220 := n1_; have GW220 := n2_; have GE220 := n3_; clear n0_ n1_ n2_ n3_; clear hb hbox hg; have hcz5_0 : w4.cell? ⟨gb220, 0, none⟩ = some (.int .i64 a0_0) := (blk_cell BK220.out 0).trans rfl; have hcz5_1 : w4.cell? ⟨gb220, 1, none⟩ = some (.int .i64 a0_1) := (blk_cell BK220.out 1).trans rfl; have hfz5_0 := blk_frozen BK220.out 0; have hfz5_1 := blk_frozen BK220.out 1) | (go_at_call 47; (with_reducible refine (macadamref00_Wrap.calls a1 (wrap64 ((wrap64 (a0_1 - a0_0)) + 1)) t221 _ A3.out).mono ?_); rintro e w' ⟨rfl, ⟨nd, rfl⟩⟩; (try first | exact ⟨rfl, _, World.drewN_drewN _ _ _⟩ | exact ⟨rfl, _, Eq.trans (World.drewN_drewN _ _ _) (congrArg (World.drewN _) (Nat.add_assoc _ _ _))⟩)))
  repeat (go_quiet (first | ((with_reducible refine gate_dst (N := 2) rfl ?_); refine box_event ?hg (N := 2) ?hd (cs := #[.int .i64 a0_0, .int .i64 a0_1]) (t := 32) ?hr ?_; (case hd => rfl); (case hg => rfl); (case hr => first | (go_simp; done) | (go_simp; rfl)); intro gb220 hg w4 hbox hb; have n0_ := Aside0.mk (below_step (by repeat (first | (with_reducible first | exact HB.out | apply below_alloc | apply pw_below_drewN | apply below_drew1) | exact HB.out)) hb); have n1_ := Aside0.mk (hbox); have n2_ := Aside0.mk ((by rw [hg]; exact (below_size (by repeat (first | (with_reducible first | exact HB.out | apply below_alloc | apply pw_below_drewN | apply below_drew1) | exact HB.out))) : w.heap.size ≤ gb220)); have n3_ := Aside0.mk ((by rw [hg]; exact (below_size (by repeat (first | (with_reducible first | exact HB.out | apply below_alloc | apply pw_below_drewN | apply below_drew1) | exact HB.out))) : w.heap.size ≤ gb220)); clear HB; have HB := n0_; have BK220 := n1_; have GW220 := n2_; have GE220 := n3_; clear n0_ n1_ n2_ n3_; clear hb hbox hg; have hcz5_0 : w4.cell? ⟨gb220, 0, none⟩ = some (.int .i64 a0_0) := (blk_cell BK220.out 0).trans rfl; have hcz5_1 : w4.cell? ⟨gb220, 1, none⟩ = some (.int .i64 a0_1) := (blk_cell BK220.out 1).trans rfl; have hfz5_0 := blk_frozen BK220.out 0; have hfz5_1 := blk_frozen BK220.out 1) | (go_at_call 47; (with_reducible refine (macadamref00_Wrap.calls a1 (wrap64 ((wrap64 (a0_1 - a0_0)) + 1)) t221 _ A3.out).mono ?_); rintro e w' ⟨rfl, ⟨nd, rfl⟩⟩; (try first | exact ⟨rfl, _, World.drewN_drewN _ _ _⟩ | exact ⟨rfl, _, Eq.trans (World.drewN_drewN _ _ _) (congrArg (World.drewN _) (Nat.add_assoc _ _ _))⟩))); try go_wp2_with (first | ((with_reducible refine gate_dst (N := 2) rfl ?_); refine box_event ?hg (N := 2) ?hd (cs := #[.int .i64 a0_0, .int .i64 a0_1]) (t := 32) ?hr ?_; (case hd => rfl); (case hg => rfl); (case hr => first | (go_simp; done) | (go_simp; rfl)); intro gb220 hg w4 hbox hb; have n0_ := Aside0.mk (below_step (by repeat (first | (with_reducible first | exact HB.out | apply below_alloc | apply pw_below_drewN | apply below_drew1) | exact HB.out)) hb); have n1_ := Aside0.mk (hbox); have n2_ := Aside0.mk ((by rw [hg]; exact (below_size (by repeat (first | (with_reducible first | exact HB.out | apply below_alloc | apply pw_below_drewN | apply below_drew1) | exact HB.out))) : w.heap.size ≤ gb220)); have n3_ := Aside0.mk ((by rw [hg]; exact (below_size (by repeat (first | (with_reducible first | exact HB.out | apply below_alloc | apply pw_below_drewN | apply below_drew1) | exact HB.out))) : w.heap.size ≤ gb220)); clear HB; have HB := n0_; have BK220 := n1_; have GW220 := n2_; have GE220 := n3_; clear n0_ n1_ n2_ n3_; clear hb hbox hg; have hcz5_0 : w4.cell? ⟨gb220, 0, none⟩ = some (.int .i64 a0_0) := (blk_cell BK220.out 0).trans rfl; have hcz5_1 : w4.cell? ⟨gb220, 1, none⟩ = some (.int .i64 a0_1) := (blk_cell BK220.out 1).trans rfl; have hfz5_0 := blk_frozen BK220.out 0; have hfz5_1 := blk_frozen BK220.out 1) | (go_at_call 47; (with_reducible refine (macadamref00_Wrap.calls a1 (wrap64 ((wrap64 (a0_1 - a0_0)) + 1)) t221 _ A3.out).mono ?_); rintro e w' ⟨rfl, ⟨nd, rfl⟩⟩; (try first | exact ⟨rfl, _, World.drewN_drewN _ _ _⟩ | exact ⟨rfl, _, Eq.trans (World.drewN_drewN _ _ _) (congrArg (World.drewN _) (Nat.add_assoc _ _ _))⟩))))
  go_ret
  exact ⟨by first | rfl | exact congrArg (fun b_ => Ending.returned (.bool b_)) HT.out | (simp [errW_none, errW_some] <;> rfl) | (simp [*, errW_none, errW_some] <;> rfl), by repeat (first | (with_reducible first | exact HB.out | apply below_alloc | apply pw_below_drewN | apply below_drew1 | refine below_set ?_ GE220.out) | exact HB.out)⟩
def macadamref00_Pick.f (l0 : List Int) (a1 : Int) : Option (Int) := if (l0.length : Int) = 0 then (some 0) else ((macadamref00_Wrap.f a1 (l0.length : Int)).bind fun t222 => (if 0 ≤ t222 then (if t222 < (l0.length : Int) then (some (rd l0 t222)) else (none)) else (none)))
set_option maxHeartbeats 8000000 in
set_option maxRecDepth 100000 in
theorem macadamref00_Pick.calls (A0 : Option Addr) (c0 : Nat) (l0 : List Int) (a1 : Int) (r : Int) (w : World) (hr0 : Kd.C (Kd.int .i64) w A0 l0.length l0) (hc0 : l0.length ≤ c0) (h : macadamref00_Pick.f l0 a1 = some r) :
    Calls Tryd.prog 118 #[.slice A0 l0.length c0, .int .i64 a1] w fun e w' => e = .returned (.int .i64 r) ∧ Drawn0 w w' := by
  have HR0 := Aside0.mk hr0
  have HC0 := Aside0.mk hc0
  clear hr0 hc0
  have H : (if (l0.length : Int) = 0 then (some 0) else ((macadamref00_Wrap.f a1 (l0.length : Int)).bind fun t222 => (if 0 ≤ t222 then (if t222 < (l0.length : Int) then (some (rd l0 t222)) else (none)) else (none)))) = some r := h
  clear h
  by_cases c3 : (l0.length : Int) = 0
  · rw [if_pos c3] at H
    have c3b0 : ((l0.length : Int) == 0) = true := beq_iff_eq.mpr c3
    have c3b1 : ((l0.length : Int) != 0) = false := bne_eq_false_iff_eq.mpr c3
    clear c3
    obtain rfl := Option.some.inj H
    go_enter Tryd.func118, Tryd.ntmps118
    go_wp2
    go_ret
    exact ⟨by first | rfl | (simp; done) | (simp [*]; done), by repeat (first | exact Drawn0.refl _ | apply Drawn0.step)⟩
  · rw [if_neg c3] at H
    have c3b0 : ((l0.length : Int) == 0) = false := beq_eq_false_iff_ne.mpr c3
    have c3b1 : ((l0.length : Int) != 0) = true := bne_iff_ne.mpr c3
    have c3b2 : ¬ (l0 = []) := fun h_ => c3 (by rw [h_]; rfl)
    replace H := Option.bind_eq_some_iff.mp H
    obtain ⟨t222, A40, H⟩ := H
    replace H : (if 0 ≤ t222 then (if t222 < (l0.length : Int) then (some (rd l0 t222)) else (none)) else (none)) = some r := H
    have A4 := Aside0.mk A40
    clear A40
    by_cases c5 : 0 ≤ t222
    · rw [if_pos c5] at H
      have c5b0 : decide (0 ≤ t222) = true := decide_eq_true c5
      clear c5
      by_cases c6 : t222 < (l0.length : Int)
      · rw [if_pos c6] at H
        have c6b0 : decide (t222 < (l0.length : Int)) = true := decide_eq_true c6
        clear c6
        obtain rfl := Option.some.inj H
        go_enter Tryd.func118, Tryd.ntmps118
        go_wp2_with (first | ((with_reducible refine gate_callee (f := 47) rfl ?_); refine goesL_ (some 12) rfl rfl Tryd.func47 (by kernel_rfl) rfl #[.int .i64 a1, .int .i64 (l0.length : Int)] rfl (by (try simp only [List.map_toArray, List.map_cons, List.map_nil]); first | done | rfl | (simp only [List.length_drop, List.length_take]; rfl)) ?_; (with_reducible refine (macadamref00_Wrap.calls a1 (l0.length : Int) t222 _ A4.out).mono ?_); rintro e w' ⟨rfl, ⟨nd, rfl⟩⟩; refine ⟨_, rfl, ?_⟩; have p223 : 0 ≤ (t222 : Int) := of_decide_eq_true (by first | (with_reducible assumption) | assumption); have q223 : t222 < (l0.length : Int) := of_decide_eq_true (by first | (with_reducible assumption) | assumption); obtain ⟨ad223, e223, hx223_0⟩ := Kd.at_int HR0.out t222 p223 q223; cases e223; replace p223 := eq_true p223; replace q223 := eq_true q223))
        go_ret
        exact ⟨by first | rfl | (simp; done) | (simp [*]; done), by repeat (first | exact Drawn0.refl _ | apply Drawn0.step)⟩
      · rw [if_neg c6] at H
        exact absurd H (by simp)
    · rw [if_neg c5] at H
      exact absurd H (by simp)
end Go.Proofs.YthgjedagbgmgmaaDoor.Pr
namespace Go.Proofs.YthgjedagbgmgmaaDoor.Pr
open Go.RowKit Go.Proofs.YthgjedagbgmgmaaDoorW.PrintWords Go.Proofs.YthgjedagbgmgmaaDoorW.PrintLast Go.Proofs.YthgjedagbgmgmaaDoorW.PrintMore
set_option linter.unusedVariables false
set_option linter.unusedSimpArgs false
theorem reps_lone {α : Type} {R : α → List Value → Prop} {sz : Nat} {p : α} {cs : List Value} (hl : cs.length = sz) (h : R p cs) : Reps R sz [p] cs := by
  refine ⟨by simp [hl], fun i x hx => ?_⟩
  cases i with
  | zero =>
    obtain rfl : p = x := by simpa using hx
    rw [Nat.zero_mul, List.drop_zero, List.take_of_length_le (by omega)]
    exact h
  | succ i => simp at hx
theorem in_law {s j : Int} (h0 : 0 ≤ s) (h7 : s ≤ 7) (j0 : 0 ≤ j) (j2 : j ≤ 2) : macadamref00_In.f s j = some (hasSky s j.toNat) := by
  have hj : j = 0 ∨ j = 1 ∨ j = 2 := by omega
  rcases hj with rfl | rfl | rfl <;> rcases cases8 h0 h7 with rfl | rfl | rfl | rfl | rfl | rfl | rfl | rfl <;> decide +kernel
theorem in_calls {s j : Int} (h0 : 0 ≤ s) (h7 : s ≤ 7) (j0 : 0 ≤ j) (j2 : j ≤ 2) (w : World) : Calls Tryd.prog 61 #[.int .i64 s, .int .i64 j] w fun e w' => e = .returned (.bool (hasSky s j.toNat)) ∧ Below w.heap.size w w' :=
  (macadamref00_In.calls s j _ w (in_law h0 h7 j0 j2)).mono (by rintro e w' ⟨rfl, hd⟩; exact ⟨rfl, hd.below⟩)
theorem sep_new {α : Type} {d : Kd α} {e : Nat} {W : World} {base : Nat} {ok : Nat → Prop} {v v1 : Value} {xs : List α} (h : Kd.R d e W base ok v xs) (hn : ∃ b, v1.ownBlock = some b ∧ W.heap.size ≤ b) : ∀ k, v.ownBlock = some k → v1.ownBlock ≠ some k := by
  intro k hk q
  obtain ⟨_, inner, ho, _⟩ := h
  obtain ⟨b, hb, hle⟩ := hn
  have := own_lt ho k hk
  rw [hb] at q
  injection q with q
  omega
theorem sep_sym {v v1 : Value} (h : ∀ k, v.ownBlock = some k → v1.ownBlock ≠ some k) : ∀ k, v1.ownBlock = some k → v.ownBlock ≠ some k := fun k hk q => h k q hk
theorem sep_app {α : Type} {d : Kd α} {e : Nat} {W : World} {base : Nat} {ok : Nat → Prop} {v u u1 : Value} {xs : List α} (hp : ∀ k, v.ownBlock = some k → u.ownBlock ≠ some k) (h : Kd.R d e W base ok v xs) (hat : u1.ownBlock = u.ownBlock ∨ ∃ b, u1.ownBlock = some b ∧ W.heap.size ≤ b) : ∀ k, v.ownBlock = some k → u1.ownBlock ≠ some k := by
  rcases hat with hat | hat
  · rw [hat]; exact hp
  · exact sep_new h hat
theorem R_grown_ne {α : Type} {d : Kd α} {e : Nat} {W W' : World} {base : Nat} {v : Value} {xs : List α} {row : Option Nat} (hE : d.E.length = 0) (h : Kd.R d e W base (fun _ => True) v xs) (hg : W.grownBy W' row) (hne : ∀ k, v.ownBlock = some k → row ≠ some k) : Kd.R d e W' base (fun _ => True) v xs := by
  obtain ⟨h0, inner, ho, hr⟩ := h
  refine ⟨h0, inner, own_move ho (fun k hk => hg.block k (own_lt ho k hk) (fun q => hne k hk q.symm)), hr.imp_ (fun _ _ hp => ?_)⟩
  have h2 := d.M_mono (ok' := fun _ => False) (fun k hk => by
    obtain ⟨_, _, _, q, hq, _⟩ := hk
    rw [List.eq_nil_of_length_eq_zero hE] at hq
    exact absurd hq (by simp)) (d.M_bound hp)
  exact d.M_mono (fun k hk => hk.elim) (d.M_move (fun k hk => hk.elim) h2)
theorem below_g {W W' : World} (h : W.grownBy W' none) : Below W.heap.size W W' := ⟨h.os, h.tape, h.output, h.size, fun k hk => h.block k hk (by simp)⟩
theorem g_below {W W' : World} (h : Below W.heap.size W W') : W.grownBy W' none := ⟨h.os, h.tape, h.output, h.size, fun k hk _ => h.block k hk⟩
theorem g_refl (W : World) (row : Option Nat) : W.grownBy W row := ⟨rfl, rfl, rfl, Nat.le_refl _, fun _ _ _ => rfl⟩
theorem g_all {W W' : World} {row : Option Nat} (h : W.grownBy W' row) (o : Obj) : W.grownBy (W'.alloc o) row := h.trans (World.grownBy_alloc W' o row)
theorem g_put {W W' : World} {g : Nat} (h : W.grownBy W' (some g)) (j : Nat) (u : Value) : W.grownBy (W'.setCell ⟨g, j, none⟩ u) (some g) :=
  ⟨h.os, h.tape, h.output, (show (W'.setCell ⟨g, j, none⟩ u).heap.size = W'.heap.size by simp) ▸ h.size, fun k hk hne => (Below.heap_setCell W' ⟨g, j, none⟩ u k (fun e => hne (by rw [e]))).trans (h.block k hk hne)⟩
theorem own_row_typed {α : Type} {d : Kd α} {e : Nat} {W : World} {base : Nat} {ok : Nat → Prop} {v : Value} {xs : List α} (h : Kd.R d e W base ok v xs) (g : Nat) (hg : v.ownBlock = some g) : ∃ cells, W.heap[g]? = some (.cells cells e (0, 0)) := by
  obtain ⟨_, inner, ho, _⟩ := h
  exact own_typed ho g hg
theorem own_ne {α : Type} {d : Kd α} {e : Nat} {W : World} {base : Nat} {ok : Nat → Prop} {v : Value} {xs : List α} (h : Kd.R d e W base ok v xs) {g : Nat} {cs : Array Value} {t : TypeId} (hb : W.heap[g]? = some (.cells cs t (0, 0))) (ht : t ≠ e) : some g ≠ v.ownBlock := by
  intro q
  obtain ⟨cells, hc⟩ := own_row_typed h g q.symm
  rw [hb] at hc
  injection hc with hc
  injection hc with _ hc _
  exact ht hc
theorem R_typed_grown {α : Type} {d : Kd α} {e : Nat} {W W' : World} {base : Nat} {ok : Nat → Prop} {v : Value} {xs : List α} {row : Option Nat} (h : Kd.R d e W base ok v xs) (hg : W.grownBy W' row) (hrow : ∀ g, row = some g → ∃ cells t, W.heap[g]? = some (.cells cells t (0, 0)) ∧ ∀ q, q ∈ e :: d.E → q ≠ t) : Kd.R d e W' base ok v xs := by
  cases row with
  | none => exact Kd.R_step h fun k _ hk => hg.block k hk (by simp)
  | some g =>
    obtain ⟨cells, t, hb, ht⟩ := hrow g rfl
    exact Kd.R_mono (Kd.R_step (Kd.R_types h hb ht) fun k hk hlt => hg.block k hlt (fun q => hk.2 (Option.some.inj q))) (fun _ hk => hk.1)
end Go.Proofs.YthgjedagbgmgmaaDoor.Pr
namespace Go.Proofs.YthgjedagbgmgmaaDoor.Pr
open Go.RowKit Go.Proofs.YthgjedagbgmgmaaDoorW.PrintWords Go.Proofs.YthgjedagbgmgmaaDoorW.PrintLast Go.Proofs.YthgjedagbgmgmaaDoorW.PrintMore
set_option linter.unusedVariables false
set_option linter.unusedSimpArgs false
theorem rd_at {l : List Int} {i : Nat} (h : i < l.length) : rd l (i : Int) = l[i] := by unfold rd; rw [Int.toNat_natCast, List.getD_eq_getElem?_getD, List.getElem?_eq_getElem h]; rfl
/-- The numbers of a set. -/
def allL (set : Int) : Nat → Nat → List Int
  | 0, _ => []
  | d + 1, i => if hasSky set i then (i : Int) :: allL set d (i + 1) else allL set d (i + 1)
theorem allL_len (set : Int) : ∀ d i, (allL set d i).length ≤ d := by
  intro d
  induction d with
  | zero => intro i; exact Nat.le_refl _
  | succ d ih =>
    intro i
    have := ih (i + 1)
    unfold allL
    split
    · simp only [List.length_cons]; omega
    · omega
theorem allL_mem (set : Int) : ∀ (d i : Nat) (x : Int), x ∈ allL set d i ↔ ∃ j : Nat, x = (j : Int) ∧ i ≤ j ∧ j < i + d ∧ hasSky set j = true := by
  intro d
  induction d with
  | zero =>
    intro i x
    unfold allL
    refine ⟨fun h => absurd h (by simp), fun ⟨j, _, h1, h2, _⟩ => by omega⟩
  | succ d ih =>
    intro i x
    unfold allL
    by_cases h : hasSky set i = true
    · rw [if_pos h, List.mem_cons, ih]
      constructor
      · rintro (rfl | ⟨j, rfl, h1, h2, h3⟩)
        · exact ⟨i, rfl, Nat.le_refl _, by omega, h⟩
        · exact ⟨j, rfl, by omega, by omega, h3⟩
      · rintro ⟨j, rfl, h1, h2, h3⟩
        by_cases e : j = i
        · left; rw [e]
        · exact .inr ⟨j, rfl, by omega, by omega, h3⟩
    · rw [if_neg h, ih]
      constructor
      · rintro ⟨j, rfl, h1, h2, h3⟩
        exact ⟨j, rfl, by omega, by omega, h3⟩
      · rintro ⟨j, rfl, h1, h2, h3⟩
        have : j ≠ i := by rintro rfl; exact h h3
        exact ⟨j, rfl, by omega, by omega, h3⟩
theorem allL_step (set : Int) (d i : Nat) : allL set (d + 1) i = (if hasSky set i then [(i : Int)] else []) ++ allL set d (i + 1) := by
  conv => lhs; unfold allL
  split <;> simp
theorem in_law' {s : Int} {j : Nat} (h0 : 0 ≤ s) (h7 : s ≤ 15) (j2 : j ≤ 3) : macadamref00_In.f s j = some (hasSky s j) := by
  have hj : j = 0 ∨ j = 1 ∨ j = 2 ∨ j = 3 := by omega
  have hs : s = 0 ∨ s = 1 ∨ s = 2 ∨ s = 3 ∨ s = 4 ∨ s = 5 ∨ s = 6 ∨ s = 7 ∨ s = 8 ∨ s = 9 ∨ s = 10 ∨ s = 11 ∨ s = 12 ∨ s = 13 ∨ s = 14 ∨ s = 15 := by omega
  rcases hj with rfl | rfl | rfl | rfl <;> rcases hs with rfl | rfl | rfl | rfl | rfl | rfl | rfl | rfl | rfl | rfl | rfl | rfl | rfl | rfl | rfl | rfl <;> decide +kernel
theorem in_calls' {s : Int} {j : Nat} (h0 : 0 ≤ s) (h7 : s ≤ 15) (j2 : j ≤ 3) (w : World) : Calls Tryd.prog 61 #[.int .i64 s, .int .i64 (j : Int)] w fun e w' => e = .returned (.bool (hasSky s j)) ∧ Below w.heap.size w w' :=
  (macadamref00_In.calls s j _ w (in_law' h0 h7 j2)).mono (by rintro e w' ⟨rfl, hd⟩; exact ⟨rfl, hd.below⟩)
end Go.Proofs.YthgjedagbgmgmaaDoor.Pr
namespace Go.Proofs.YthgjedagbgmgmaaDoor.Pr
open Go.RowKit Go.Proofs.YthgjedagbgmgmaaDoorW.PrintWords Go.Proofs.YthgjedagbgmgmaaDoorW.PrintLast Go.Proofs.YthgjedagbgmgmaaDoorW.PrintMore
set_option linter.unusedVariables false
set_option linter.unusedSimpArgs false
set_option maxHeartbeats 2000000 in
set_option maxRecDepth 100000 in
theorem all_calls (set : Int) (n : Nat) (h0 : 0 ≤ set) (h15 : set ≤ 15) (hn : n ≤ 4) (w : World) :
    Calls Tryd.prog 67 #[.int .i64 set, .int .i64 (n : Int)] w fun e w' => ∃ A c, e = .returned (.slice A (allL set n 0).length c) ∧ Kd.C (Kd.int .i64) w' A (allL set n 0).length (allL set n 0) ∧ (allL set n 0).length ≤ c ∧ Below w.heap.size w w' := by
  go_enter Tryd.func67, Tryd.ntmps67
  have HB := Lib.hid (Below.refl w.heap.size w)
  go_wp2_with ((with_reducible refine gate_dst (N := 7) rfl ?_); refine Kd.R_lit (Kd.int .i64) (w0 := w) w.heap.size 3 ?hg (N := 7) ?hd (xs := ([] : List Int)) (inner := []) (ok := fun _ => True) (okp := fun _ => True) ?hr ?hp (fun _ hk => hk) trivial HB.out HB.out.size (by simp) ?_; (case hd => rfl); (case hg => rfl); (case hr => first | (go_simp; done) | (go_simp; rfl)); (case hp => exact (Reps.none _ _)); intro va W1 ho hb hg hnew_; clear hnew_; replace HB := Lib.hid (hb); have Ra := Lib.hid ho; clear ho hb hg)
  obtain ⟨Aa, ca, ea⟩ := Kd.R_slice Ra.out
  subst ea
  go_loopg [5, 6] (n) (fun gk v5 v6 wr => ∃ (k : Nat) (A : Option Addr) (m c : Nat) (pre : List Int), v5 = .slice A m c ∧ v6 = .int .i64 (k : Int) ∧ Aside0 (k + gk = n) ∧ Aside0 (Kd.R (Kd.int .i64) 3 wr w.heap.size (fun _ => True) (.slice A m c) pre) ∧ Aside0 (allL set n 0 = pre ++ allL set gk k) ∧ Aside0 (Below w.heap.size w wr))
  case atStart => exact ⟨0, Aa, _, ca, [], rfl, rfl, ⟨by omega⟩, ⟨Ra.out⟩, ⟨rfl⟩, ⟨HB.out⟩⟩
  case round =>
    clear HB Ra
    obtain ⟨k, A, m, c, pre, rfl, rfl, HK, Ra, HS, HB⟩ := hrel
    cases gk with
    | zero =>
      have hge : ¬ k < n := by have := HK.out; omega
      go_wp2
      go_ret
      have hp : allL set n 0 = pre := by rw [HS.out]; exact List.append_nil _
      have hr := Kd.R_reads' Ra.out
      rw [hp]
      exact ⟨A, c, by rw [← hr.1]; rfl, hr.2.2, by rw [← hr.1]; exact hr.2.1, HB.out⟩
    | succ g1 =>
      have hlt : k < n := by have := HK.out; omega
      have hpl : pre.length ≤ n := by have := congrArg List.length HS.out; rw [List.length_append] at this; have := allL_len set n 0; omega
      go_wp2_with fail
      refine (in_calls' h0 h15 (by omega) _).mono ?_
      rintro e W1 ⟨rfl, hb⟩
      have hg := g_below hb
      replace Ra := Lib.hid (R_typed_grown Ra.out hg (fun g e => by cases e))
      replace HB := Lib.hid (HB.out.trans (below_weaken hb HB.out.size))
      clear hb hg
      cases hq : hasSky set k with
      | true =>
        go_wp2_with ((with_reducible refine gate_builtin (b := .append) (xs := #[.tmp 16, .tmp 18]) rfl ?_); at_builtin; refine Kd.R_append (Kd.int .i64) (w0 := w) w.heap.size rfl (.tmp 16) (.tmp 18) 45 3 (.int .i64 0) 8 rfl Tryd.underlying45 info3 rfl (by decide) (by omega) (.slice A m c) pre ((k : Int)) [.int .i64 (k : Int)] (fun _ => True) (fun _ => False) rfl rfl (rfl) (fun _ hk => hk.elim) (fun _ _ => trivial) Ra.out HB.out HB.out.size (by omega) ?_; intro vb W2 ho hb hg hat; replace HB := Lib.hid (hb); clear Ra; obtain ⟨xb, hx_⟩ : ∃ l_, l_ = (pre ++ [(k : Int)]) := ⟨_, rfl⟩; rw [← hx_] at ho; have Eb := Lib.hid hx_; clear hx_; have Rb := Lib.hid ho; clear ho hb hg hat; obtain ⟨Ab, cb, eb⟩ := Kd.R_slice Rb.out; subst eb)
        go_roundg g1
        case measure => omega
        case rel => exact ⟨k + 1, Ab, _, cb, _, rfl, by go_num, ⟨by have := HK.out; omega⟩, ⟨Rb.out⟩, ⟨by rw [Eb.out, HS.out, allL_step, hq]; simp⟩, ⟨HB.out⟩⟩

      | false =>
        go_wp2
        go_roundg g1
        case measure => omega
        case rel => exact ⟨k + 1, A, m, c, pre, rfl, by go_num, ⟨by have := HK.out; omega⟩, ⟨Ra.out⟩, ⟨by rw [HS.out, allL_step, hq]; simp⟩, ⟨HB.out⟩⟩
end Go.Proofs.YthgjedagbgmgmaaDoor.Pr
