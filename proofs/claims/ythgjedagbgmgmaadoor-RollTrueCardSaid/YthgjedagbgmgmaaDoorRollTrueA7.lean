/- Part 7 of the proof that RollTrue answers true: contracts and laws, merged by a program. -/
import Derived.Test.YthgjedagbgmgmaaDoorRollTrueA6
namespace Go.Proofs.YthgjedagbgmgmaaDoor.Pr
open Go.RowKit Go.Proofs.YthgjedagbgmgmaaDoorW.PrintWords Go.Proofs.YthgjedagbgmgmaaDoorW.PrintLast Go.Proofs.YthgjedagbgmgmaaDoorW.PrintMore
set_option linter.unusedVariables false
set_option linter.unusedSimpArgs false
theorem cell_int {w : World} {A : Option Addr} {l : List Int} (h : Kd.C (Kd.int .i64) w A l.length l) {i : Nat} (hi : i < l.length) : ∃ b o, A = some ⟨b, o, none⟩ ∧ b < w.heap.size ∧ w.cell? ⟨b, o + i, none⟩ = some (.int .i64 l[i]) := by
  have hf : FRow eI 1 w A l := FRow.of_C h (by decide) (fun x c hk => hk)
  rcases hf with rfl | ⟨b, o, e, hlt, hc⟩
  · simp at hi
  · refine ⟨b, o, e, hlt, ?_⟩
    have := hc i l[i] (List.getElem?_eq_getElem hi) 0 (.int .i64 l[i]) rfl
    rwa [Nat.mul_one, Nat.add_zero] at this
set_option maxHeartbeats 1000000 in
set_option maxRecDepth 100000 in
theorem run_calls (A0 A1 A2 Aw As : Option Addr) (c0 n1 c1 n2 c2 cw cs : Nat) (l0 : List S92) (ch : Ch) (w : World) (hr0 : Kd.C k92 w A0 l0.length l0) (h4 : l0.length ≤ 4) (hlb : ∀ i (h : i < l0.length), 1 ≤ l0[i].f0 ∧ l0[i].f0 ≤ 30 ∧ 1 ≤ l0[i].f1 ∧ l0[i].f1 ≤ 50) (h5 : ch.length ≤ 5) (hbd : ∀ i (h : i < ch.length), 0 ≤ ch[i].1 ∧ ch[i].1 ≤ 20 ∧ 0 ≤ ch[i].2 ∧ ch[i].2 ≤ 2)
    (hrw : Kd.C (Kd.int .i64) w Aw (ch.map (·.1)).length (ch.map (·.1))) (hrs : Kd.C (Kd.int .i64) w As (ch.map (·.2)).length (ch.map (·.2))) :
    Calls Tryd.prog 64 #[.agg #[.slice A0 l0.length c0, .slice A1 n1 c1, .slice A2 n2 c2], .slice Aw ch.length cw, .slice As ch.length cs] w fun e w' => ∃ A c, e = .returned (.agg #[.slice Aw ch.length cw, .slice As ch.length cs, .slice A (boundsK l0 ch).length c, .int .i64 (lastK l0 ch kn0).laid, .int .i64 (lastK l0 ch kn0).lost]) ∧ Kd.R (Kd.int .i64) 3 w' w.heap.size (fun _ => True) (.slice A (boundsK l0 ch).length c) (boundsK l0 ch) ∧ Below w.heap.size w w' := by
  have HLY := Lib.hid (fun (i : Nat) (hi : i < l0.length) => at92 (row92 hr0) i hi)
  have HLB := Lib.hid hlb
  have HBD := Lib.hid hbd
  have HWS : Hid (∀ i (h : i < ch.length), (∃ b o, Aw = some ⟨b, o, none⟩ ∧ b < w.heap.size ∧ w.cell? ⟨b, o + i, none⟩ = some (.int .i64 ch[i].1)) ∧ (∃ b o, As = some ⟨b, o, none⟩ ∧ b < w.heap.size ∧ w.cell? ⟨b, o + i, none⟩ = some (.int .i64 ch[i].2))) := Lib.hid fun i hi => ⟨by
      have := cell_int hrw (i := i) (by simpa using hi)
      simpa using this, by
      have := cell_int hrs (i := i) (by simpa using hi)
      simpa using this⟩
  clear hr0 hlb hbd hrw hrs
  go_enter Tryd.func64, Tryd.ntmps64
  have HB := Lib.hid (Below.refl w.heap.size w)
  go_wp2
  obtain ⟨W1, hnw⟩ : ∃ W, W = (((w.alloc (.cells #[.slice A0 l0.length c0, .slice A1 n1 c1, .slice A2 n2 c2] 26)).alloc (.cells #[.slice none 0 0, .slice none 0 0, .slice none 0 0, .int .i64 0, .int .i64 0] 77)).alloc (.cells #[.slice Aw ch.length cw, .slice As ch.length cs, .slice none 0 0, .int .i64 0, .int .i64 0] 77)) := ⟨_, rfl⟩
  rw [← hnw]
  have hg : w.grownBy W1 (none) := by rw [hnw]; exact (g_all (g_all (g_all (g_refl w (none)) (.cells #[.slice A0 l0.length c0, .slice A1 n1 c1, .slice A2 n2 c2] 26)) (.cells #[.slice none 0 0, .slice none 0 0, .slice none 0 0, .int .i64 0, .int .i64 0] 77)) (.cells #[.slice Aw ch.length cw, .slice As ch.length cs, .slice none 0 0, .int .i64 0, .int .i64 0] 77))
  have HK := Lib.hid (show W1.heap[w.heap.size]? = some (.cells #[.slice A0 l0.length c0, .slice A1 n1 c1, .slice A2 n2 c2] 26 (0, 0)) by rw [hnw]; exact blk_alloc (blk_alloc (blk_at w (.cells #[.slice A0 l0.length c0, .slice A1 n1 c1, .slice A2 n2 c2] 26) _ (by simp)) (.cells #[.slice none 0 0, .slice none 0 0, .slice none 0 0, .int .i64 0, .int .i64 0] 77)) (.cells #[.slice Aw ch.length cw, .slice As ch.length cs, .slice none 0 0, .int .i64 0, .int .i64 0] 77))
  have HZ := Lib.hid (show W1.heap[w.heap.size + 1]? = some (.cells #[.slice none 0 0, .slice none 0 0, .slice none 0 0, .int .i64 0, .int .i64 0] 77 (0, 0)) by rw [hnw]; exact blk_alloc (blk_at (w.alloc (.cells #[.slice A0 l0.length c0, .slice A1 n1 c1, .slice A2 n2 c2] 26)) (.cells #[.slice none 0 0, .slice none 0 0, .slice none 0 0, .int .i64 0, .int .i64 0] 77) _ (by simp)) (.cells #[.slice Aw ch.length cw, .slice As ch.length cs, .slice none 0 0, .int .i64 0, .int .i64 0] 77))
  have HX := Lib.hid (show W1.heap[w.heap.size + 1 + 1]? = some (.cells #[.slice Aw ch.length cw, .slice As ch.length cs, .slice none 0 0, .int .i64 0, .int .i64 0] 77 (0, 0)) by rw [hnw]; exact blk_at ((w.alloc (.cells #[.slice A0 l0.length c0, .slice A1 n1 c1, .slice A2 n2 c2] 26)).alloc (.cells #[.slice none 0 0, .slice none 0 0, .slice none 0 0, .int .i64 0, .int .i64 0] 77)) (.cells #[.slice Aw ch.length cw, .slice As ch.length cs, .slice none 0 0, .int .i64 0, .int .i64 0] 77) _ (by simp))
  replace HB := Lib.hid (HB.out.grown hg HB.out.size (fun k e => by cases e))
  clear hg hnw
  go_loopg [8, 9, 10] (ch.length) (fun gk v8 v9 v10 wr => ∃ (d a : Nat) (by_ laid lost : Int) (A : Option Addr) (m c : Nat) (pre : List Int), v8 = .int .i64 (a : Int) ∧ v9 = .int .i64 by_ ∧ v10 = .int .i64 (d : Int) ∧ Aside0 (d + gk = ch.length) ∧ Aside0 (boundsK l0 ch = pre ++ (knFrom l0 (ch.drop d) ⟨a, by_, laid, lost⟩).map Kn.at_) ∧ Aside0 (lastK l0 ch kn0 = lastK l0 (ch.drop d) ⟨a, by_, laid, lost⟩) ∧ Aside0 (a ≤ l0.length ∧ -1 ≤ by_ ∧ by_ ≤ 20 * (d : Int) ∧ 0 ≤ laid ∧ laid ≤ 50 * (d : Int) ∧ 0 ≤ lost ∧ lost ≤ 50 * (d : Int) ∧ pre.length ≤ d) ∧ Aside0 (wr.heap[w.heap.size]? = some (.cells #[.slice A0 l0.length c0, .slice A1 n1 c1, .slice A2 n2 c2] 26 (0, 0))) ∧ Aside0 (wr.heap[w.heap.size + 1]? = some (.cells #[.slice none 0 0, .slice none 0 0, .slice none 0 0, .int .i64 0, .int .i64 0] 77 (0, 0))) ∧ Aside0 (wr.heap[w.heap.size + 1 + 1]? = some (.cells #[.slice Aw ch.length cw, .slice As ch.length cs, .slice A m c, .int .i64 laid, .int .i64 lost] 77 (0, 0))) ∧ Aside0 (Kd.R (Kd.int .i64) 3 wr w.heap.size (fun _ => True) (.slice A m c) pre) ∧ Aside0 (Below w.heap.size w wr))
  case atStart => exact ⟨0, 0, -1, 0, 0, none, 0, 0, [], rfl, rfl, rfl, ⟨by omega⟩, ⟨rfl⟩, ⟨rfl⟩, ⟨by omega, by omega, by omega, by omega, by omega, by omega, by omega, by simp⟩, ⟨HK.out⟩, ⟨HZ.out⟩, ⟨HX.out⟩, ⟨Kd.R_nil _ _ _ _ _⟩, ⟨HB.out⟩⟩
  case round =>
    clear HB HK HZ HX
    obtain ⟨d, a, by_, laid, lost, A, m, c, pre, rfl, rfl, rfl, HKK, HS, HL, HI, HK, HZ, HX, Ra, HB⟩ := hrel
    cases gk with
    | zero =>
      have hge : ¬ d < ch.length := by have := HKK.out; omega
      have hp : boundsK l0 ch = pre := by rw [HS.out, List.drop_of_length_le (by omega)]; exact List.append_nil _
      have hl : lastK l0 ch kn0 = ⟨a, by_, laid, lost⟩ := by rw [HL.out, List.drop_of_length_le (by omega)]; rfl
      have HP := Lib.hid hp
      have HLL := Lib.hid hl
      clear hp hl
      have hm := (Kd.R_reads' Ra.out).1
      subst hm
      have cK_0 := (blk_cell HK.out 0).trans rfl
      have cK_1 := (blk_cell HK.out 1).trans rfl
      have cK_2 := (blk_cell HK.out 2).trans rfl
      have lK := blk_lt HK.out
      have cZ_0 := (blk_cell HZ.out 0).trans rfl
      have cZ_1 := (blk_cell HZ.out 1).trans rfl
      have cZ_2 := (blk_cell HZ.out 2).trans rfl
      have cZ_3 := (blk_cell HZ.out 3).trans rfl
      have cZ_4 := (blk_cell HZ.out 4).trans rfl
      have fZ_0 := blk_frozen HZ.out 0
      have fZ_1 := blk_frozen HZ.out 1
      have fZ_2 := blk_frozen HZ.out 2
      have fZ_3 := blk_frozen HZ.out 3
      have fZ_4 := blk_frozen HZ.out 4
      have lZ := blk_lt HZ.out
      have cX_0 := (blk_cell HX.out 0).trans rfl
      have cX_1 := (blk_cell HX.out 1).trans rfl
      have cX_2 := (blk_cell HX.out 2).trans rfl
      have cX_3 := (blk_cell HX.out 3).trans rfl
      have cX_4 := (blk_cell HX.out 4).trans rfl
      have lX := blk_lt HX.out
      go_wp2
      have hz := (blk_put (blk_put (blk_put (blk_put (blk_put HZ.out 0 (.slice Aw ch.length cw) rfl) 1 (.slice As ch.length cs) rfl) 2 (.slice A pre.length c) rfl) 3 (.int .i64 laid) rfl) 4 (.int .i64 lost) rfl)
      have hg := (g_put (g_put (g_put (g_put (g_put (g_refl wr (some (w.heap.size + 1))) 0 (.slice Aw ch.length cw)) 1 (.slice As ch.length cs)) 2 (.slice A pre.length c)) 3 (.int .i64 laid)) 4 (.int .i64 lost))
      have hR := R_typed_grown Ra.out hg (fun g e => by injection e with e; subst e; exact ⟨_, _, HZ.out, by decide⟩)
      rw [HP.out, HLL.out]
      refine bodyPost_ret (results_cell_row rfl _ _ (w.heap.size + 1) 77 #[.slice Aw ch.length cw, .slice As ch.length cs, .slice A pre.length c, .int .i64 laid, .int .i64 lost] (0, 0) _ rfl hz Tryd.underlying77 rfl (by kernel_rfl)) rfl ⟨A, c, rfl, hR, ?_⟩
      exact HB.out.grown hg HB.out.size (fun k e => by injection e with e; have := HB.out.size; omega)

    | succ g1 =>
      have hlt : d < ch.length := by have := HKK.out; omega
      have hd5 : d < 5 := by omega
      obtain ⟨i1, i2, i3, i4, i5, i6, i7, i8⟩ := HI.out
      obtain ⟨⟨wv, sv⟩, hp⟩ : ∃ p, p = ch[d] := ⟨_, rfl⟩
      obtain ⟨hw0, hw1⟩ := HWS.out d hlt
      rw [← hp] at hw0 hw1
      obtain ⟨kw0, kw20, ks0, ks2⟩ := HBD.out d hlt
      rw [← hp] at kw0 kw20 ks0 ks2
      dsimp only at hw0 hw1 kw0 kw20 ks0 ks2
      have hdr : ch.drop d = (wv, sv) :: ch.drop (d + 1) := by rw [List.drop_eq_getElem_cons hlt, hp]
      have HDR := Lib.hid hdr
      obtain ⟨bw, ow, eW, hbw, hcw0⟩ := hw0
      obtain ⟨bs, os, eS, hbs, hcs0⟩ := hw1
      have HWW := Lib.hid hcw0
      have HSS := Lib.hid hcs0
      have HEW := Lib.hid eW
      have HES := Lib.hid eS
      clear hp hcw0 hcs0 hdr eW eS
      have hEW := HEW.out
      have hES := HES.out
      subst hEW hES
      by_cases hat : a = l0.length
      · skip
        have HAT := Lib.hid hat
        clear hat
        have hal : ¬ a < l0.length := by have := HAT.out; omega
        have cK_0 := (blk_cell HK.out 0).trans rfl
        have cK_1 := (blk_cell HK.out 1).trans rfl
        have cK_2 := (blk_cell HK.out 2).trans rfl
        have lK := blk_lt HK.out
        have cZ_0 := (blk_cell HZ.out 0).trans rfl
        have cZ_1 := (blk_cell HZ.out 1).trans rfl
        have cZ_2 := (blk_cell HZ.out 2).trans rfl
        have cZ_3 := (blk_cell HZ.out 3).trans rfl
        have cZ_4 := (blk_cell HZ.out 4).trans rfl
        have lZ := blk_lt HZ.out
        have cX_0 := (blk_cell HX.out 0).trans rfl
        have cX_1 := (blk_cell HX.out 1).trans rfl
        have cX_2 := (blk_cell HX.out 2).trans rfl
        have cX_3 := (blk_cell HX.out 3).trans rfl
        have cX_4 := (blk_cell HX.out 4).trans rfl
        have fX_0 := blk_frozen HX.out 0
        have fX_1 := blk_frozen HX.out 1
        have fX_2 := blk_frozen HX.out 2
        have fX_3 := blk_frozen HX.out 3
        have fX_4 := blk_frozen HX.out 4
        have lX := blk_lt HX.out
        go_upto_region 5 with ((with_reducible refine gate_builtin (b := .append) (xs := #[.tmp 90, .tmp 92]) rfl ?_); at_builtin; refine Kd.R_append (Kd.int .i64) (w0 := w) w.heap.size rfl (.tmp 90) (.tmp 92) 45 3 (.int .i64 0) 8 rfl Tryd.underlying45 info3 rfl (by decide) (by omega) (.slice A m c) pre ((a : Int)) [.int .i64 (a : Int)] (fun _ => True) (fun _ => False) rfl rfl (rfl) (fun _ hk => hk.elim) (fun _ _ => trivial) Ra.out HB.out HB.out.size (by omega) ?_; intro vb W1 ho hb hg hat; clear cK_0 cK_1 cK_2 lK cZ_0 cZ_1 cZ_2 cZ_3 cZ_4 lZ cX_0 cX_1 cX_2 cX_3 cX_4 fX_0 fX_1 fX_2 fX_3 fX_4 lX; replace HK := Lib.hid (blk_grown HK.out hg (own_ne Ra.out HK.out (by decide))); replace HZ := Lib.hid (blk_grown HZ.out hg (own_ne Ra.out HZ.out (by decide))); replace HX := Lib.hid (blk_grown HX.out hg (own_ne Ra.out HX.out (by decide))); replace HB := Lib.hid (hb); clear Ra; obtain ⟨xb, hx_⟩ : ∃ l_, l_ = (pre ++ [(a : Int)]) := ⟨_, rfl⟩; rw [← hx_] at ho; have Eb := Lib.hid hx_; clear hx_; have Rb := Lib.hid ho; clear ho hb hg hat; obtain ⟨Ab, cb, eb⟩ := Kd.R_slice Rb.out; subst eb; have cK_0 := (blk_cell HK.out 0).trans rfl; have cK_1 := (blk_cell HK.out 1).trans rfl; have cK_2 := (blk_cell HK.out 2).trans rfl; have lK := blk_lt HK.out; have cZ_0 := (blk_cell HZ.out 0).trans rfl; have cZ_1 := (blk_cell HZ.out 1).trans rfl; have cZ_2 := (blk_cell HZ.out 2).trans rfl; have cZ_3 := (blk_cell HZ.out 3).trans rfl; have cZ_4 := (blk_cell HZ.out 4).trans rfl; have lZ := blk_lt HZ.out; have cX_0 := (blk_cell HX.out 0).trans rfl; have cX_1 := (blk_cell HX.out 1).trans rfl; have cX_2 := (blk_cell HX.out 2).trans rfl; have cX_3 := (blk_cell HX.out 3).trans rfl; have cX_4 := (blk_cell HX.out 4).trans rfl; have fX_0 := blk_frozen HX.out 0; have fX_1 := blk_frozen HX.out 1; have fX_2 := blk_frozen HX.out 2; have fX_3 := blk_frozen HX.out 3; have fX_4 := blk_frozen HX.out 4; have lX := blk_lt HX.out)
        clear cK_0 cK_1 cK_2 lK cZ_0 cZ_1 cZ_2 cZ_3 cZ_4 lZ cX_0 cX_1 cX_2 cX_3 cX_4 fX_0 fX_1 fX_2 fX_3 fX_4 lX
        obtain ⟨W2, hnw⟩ : ∃ W, W = (W1.setCell ⟨w.heap.size + 1 + 1, 2, none⟩ (.slice Ab xb.length cb)) := ⟨_, rfl⟩
        rw [← hnw]
        have hg : W1.grownBy W2 (some (w.heap.size + 1 + 1)) := by rw [hnw]; exact (g_put (g_refl W1 (some (w.heap.size + 1 + 1))) 2 (.slice Ab xb.length cb))
        have HXq := Lib.hid (show W2.heap[w.heap.size + 1 + 1]? = some (.cells #[.slice (some ⟨bw, ow, none⟩) ch.length cw, .slice (some ⟨bs, os, none⟩) ch.length cs, .slice Ab xb.length cb, .int .i64 laid, .int .i64 lost] 77 (0, 0)) by rw [hnw]; exact blk_put (HX.out) 2 (.slice Ab xb.length cb) rfl)
        have HOLD := HX
        replace Rb := Lib.hid (R_typed_grown Rb.out hg (fun g e => by injection e with e; subst e; exact ⟨_, _, HOLD.out, by decide⟩))
        replace HK := Lib.hid (blk_grown HK.out hg (fun e => by injection e with e; exact absurd e (blk_ne HK.out HX.out (by decide))))
        replace HZ := Lib.hid (blk_grown HZ.out hg (fun e => by injection e with e; omega))
        clear HOLD
        clear HX
        have HX := HXq
        clear HXq
        replace HB := Lib.hid (HB.out.grown hg HB.out.size (fun k e => by injection e with e; have := HB.out.size; omega))
        clear hg hnw
        go_wp2
        have hst := stepK_full (b := by_) (la := laid) (lo := lost) (s := sv) (w := wv) HAT.out
        go_roundg g1
        case measure => omega
        case rel => exact ⟨d + 1, a, by_, laid, lost, Ab, _, cb, xb, by first | rfl | go_num, rfl, by go_num, ⟨by have := HKK.out; omega⟩, ⟨by rw [HS.out, HDR.out, Eb.out]; simp only [knFrom, List.map_cons]; rw [hst]; simp⟩, ⟨by rw [HL.out, HDR.out]; simp only [lastK]; rw [hst]⟩, ⟨by have := congrArg List.length Eb.out; simp only [List.length_append, List.length_cons, List.length_nil] at this; refine ⟨?_, ?_, ?_, ?_, ?_, ?_, ?_, ?_⟩ <;> omega⟩, ⟨HK.out⟩, ⟨HZ.out⟩, ⟨HX.out⟩, ⟨Rb.out⟩, ⟨HB.out⟩⟩

      · skip
        have hlt2 : a < l0.length := by omega
        have hal : decide ((a : Int) < (l0.length : Int)) = true := decide_eq_true (by omega)
        obtain ⟨b0, o0, eA, hb0, hx0, hx1⟩ := HLY.out a hlt2
        subst eA
        obtain ⟨n1_, n2_, y1_, y2_⟩ := HLB.out a hlt2
        obtain ⟨yv, hyv⟩ : ∃ y, y = l0[a].f1 := ⟨_, rfl⟩
        obtain ⟨nv, hnv⟩ : ∃ y, y = l0[a].f0 := ⟨_, rfl⟩
        rw [← hyv] at hx1 y1_ y2_
        rw [← hnv] at hx0 n1_ n2_
        have HX0 := Lib.hid hx0
        have HX1 := Lib.hid hx1
        have HYV := Lib.hid hyv
        have HNV := Lib.hid hnv
        clear hx0 hx1 hyv hnv
        have hw1 : IntKind.i64.wrap (laid + yv) = laid + yv := IntWalk.i64_in _ (by omega)
        have hw2 : IntKind.i64.wrap (lost + yv) = lost + yv := IntWalk.i64_in _ (by omega)
        by_cases hby : by_ < 0
        · skip
          have hbb : decide (by_ < 0) = true := decide_eq_true hby
          have HBY := Lib.hid hby
          clear hby
          have cK_0 := (blk_cell HK.out 0).trans rfl
          have cK_1 := (blk_cell HK.out 1).trans rfl
          have cK_2 := (blk_cell HK.out 2).trans rfl
          have lK := blk_lt HK.out
          have cZ_0 := (blk_cell HZ.out 0).trans rfl
          have cZ_1 := (blk_cell HZ.out 1).trans rfl
          have cZ_2 := (blk_cell HZ.out 2).trans rfl
          have cZ_3 := (blk_cell HZ.out 3).trans rfl
          have cZ_4 := (blk_cell HZ.out 4).trans rfl
          have lZ := blk_lt HZ.out
          have cX_0 := (blk_cell HX.out 0).trans rfl
          have cX_1 := (blk_cell HX.out 1).trans rfl
          have cX_2 := (blk_cell HX.out 2).trans rfl
          have cX_3 := (blk_cell HX.out 3).trans rfl
          have cX_4 := (blk_cell HX.out 4).trans rfl
          have lX := blk_lt HX.out
          go_upto_region 7 with fail
          clear cK_0 cK_1 cK_2 lK cZ_0 cZ_1 cZ_2 cZ_3 cZ_4 lZ cX_0 cX_1 cX_2 cX_3 cX_4 lX
          have hb : Below wr.heap.size wr wr.drew := (Below.refl _ _).drew
          have hg := g_below hb
          replace Ra := Lib.hid (R_typed_grown Ra.out hg (fun g e => by cases e))
          replace HK := Lib.hid (blk_grown HK.out hg (by simp))
          replace HZ := Lib.hid (blk_grown HZ.out hg (by simp))
          replace HX := Lib.hid (blk_grown HX.out hg (by simp))
          replace HB := Lib.hid (HB.out.trans (below_weaken hb HB.out.size))
          clear hb hg
          refine start_ (n := 12) (S := fun w' => w'.cell? ⟨w.heap.size, 0, none⟩ = some (.slice (some ⟨b0, o0, none⟩) l0.length c0) ∧ w'.cell? ⟨w.heap.size, 1, none⟩ = some (.slice A1 n1 c1) ∧ w'.cell? ⟨w.heap.size, 2, none⟩ = some (.slice A2 n2 c2) ∧ w'.cell? ⟨w.heap.size + 1 + 1, 0, none⟩ = some (.slice (some ⟨bw, ow, none⟩) ch.length cw) ∧ w'.cell? ⟨w.heap.size + 1 + 1, 1, none⟩ = some (.slice (some ⟨bs, os, none⟩) ch.length cs) ∧ w'.cell? ⟨w.heap.size + 1 + 1, 2, none⟩ = some (.slice A m c) ∧ w'.cell? ⟨w.heap.size + 1 + 1, 3, none⟩ = some (.int .i64 laid) ∧ w'.cell? ⟨w.heap.size + 1 + 1, 4, none⟩ = some (.int .i64 lost) ∧ w'.cell? ⟨b0, o0 + a * 2 + 1, none⟩ = some (.int .i64 yv)) (ds := [11]) #[false, false, false, false, false, false, false, false, false, false, false, false] (by kernel_rfl) rfl rfl ⟨(blk_cell HK.out 0).trans rfl, (blk_cell HK.out 1).trans rfl, (blk_cell HK.out 2).trans rfl, (blk_cell HX.out 0).trans rfl, (blk_cell HX.out 1).trans rfl, (blk_cell HX.out 2).trans rfl, (blk_cell HX.out 3).trans rfl, (blk_cell HX.out 4).trans rfl, (HB.out.cell (p := ⟨b0, o0 + a * 2 + 1, none⟩) hb0).trans HX1.out⟩ (fun hHeld => ?_)
          refine pu_ 0 (some 29) ?_
          refine pu_ 2 (some 31) ?_
          refine pu_ 4 (some 33) ?_
          refine pu_ 9 (some 9) ?_
          refine ta_ 1 (some 30) (s := hHeld) (y := by rintro w' ⟨s0, s1, s2, s3, s4, s5, s6, s7, s8⟩; go_simp; with_reducible rfl) (h := ?_)
          refine ta_ 3 (some 32) (s := hHeld) (y := by rintro w' ⟨s0, s1, s2, s3, s4, s5, s6, s7, s8⟩; go_simp; with_reducible rfl) (h := ?_)
          refine pu_ 5 (some 34) ?_
          refine pu_ 6 (some 35) ?_
          refine ta_ 7 (some 36) (s := hHeld) (y := by rintro w' ⟨s0, s1, s2, s3, s4, s5, s6, s7, s8⟩; go_simp; with_reducible rfl) (h := ?_)
          refine pu_ 8 (some 37) ?_
          refine pu_ 10 (some 38) ?_
          refine last_ (i := 11) (N := none) #[true, true, true, true, true, true, true, true, true, true, true, true] rfl rfl (by kernel_rfl) (by decide) (fun K hK => ?_)
          have cX_0 := (blk_cell HX.out 0).trans rfl
          have cX_1 := (blk_cell HX.out 1).trans rfl
          have cX_2 := (blk_cell HX.out 2).trans rfl
          have cX_3 := (blk_cell HX.out 3).trans rfl
          have cX_4 := (blk_cell HX.out 4).trans rfl
          have fX_0 := blk_frozen HX.out 0
          have fX_1 := blk_frozen HX.out 1
          have fX_2 := blk_frozen HX.out 2
          have fX_3 := blk_frozen HX.out 3
          have fX_4 := blk_frozen HX.out 4
          have lX := blk_lt HX.out
          refine skip_ (w1 := ?_) (by rfl) rfl ?_ ?_
          rotate_left
          · go_simp
            rfl
          refine hK.out _ _ ?_
          clear hK K
          refine done_ (by kernel_rfl) ?_

          clear cX_0 cX_1 cX_2 cX_3 cX_4 fX_0 fX_1 fX_2 fX_3 fX_4 lX
          obtain ⟨W1, hnw_⟩ : ∃ W, W = ((wr.setCell ⟨w.heap.size + 1 + 1, 3, none⟩ (.int .i64 (laid + yv)))).drew := ⟨_, rfl⟩
          rw [← hnw_]
          have hnw : W1 = (wr.drew.setCell ⟨w.heap.size + 1 + 1, 3, none⟩ (.int .i64 (laid + yv))) := hnw_.trans rfl
          clear hnw_
          have hg : wr.drew.grownBy W1 (some (w.heap.size + 1 + 1)) := by rw [hnw]; exact (g_put (g_refl wr.drew (some (w.heap.size + 1 + 1))) 3 (.int .i64 (laid + yv)))
          have HXq := Lib.hid (show W1.heap[w.heap.size + 1 + 1]? = some (.cells #[.slice (some ⟨bw, ow, none⟩) ch.length cw, .slice (some ⟨bs, os, none⟩) ch.length cs, .slice A m c, .int .i64 (laid + yv), .int .i64 lost] 77 (0, 0)) by rw [hnw]; exact blk_put (HX.out) 3 (.int .i64 (laid + yv)) rfl)
          have HOLD := HX
          replace Ra := Lib.hid (R_typed_grown Ra.out hg (fun g e => by injection e with e; subst e; exact ⟨_, _, HOLD.out, by decide⟩))
          replace HK := Lib.hid (blk_grown HK.out hg (fun e => by injection e with e; exact absurd e (blk_ne HK.out HX.out (by decide))))
          replace HZ := Lib.hid (blk_grown HZ.out hg (fun e => by injection e with e; omega))
          clear HOLD
          clear HX
          have HX := HXq
          clear HXq
          replace HB := Lib.hid (HB.out.grown hg HB.out.size (fun k e => by injection e with e; have := HB.out.size; omega))
          clear hg hnw
          have cK_0 := (blk_cell HK.out 0).trans rfl
          have cK_1 := (blk_cell HK.out 1).trans rfl
          have cK_2 := (blk_cell HK.out 2).trans rfl
          have lK := blk_lt HK.out
          have cZ_0 := (blk_cell HZ.out 0).trans rfl
          have cZ_1 := (blk_cell HZ.out 1).trans rfl
          have cZ_2 := (blk_cell HZ.out 2).trans rfl
          have cZ_3 := (blk_cell HZ.out 3).trans rfl
          have cZ_4 := (blk_cell HZ.out 4).trans rfl
          have lZ := blk_lt HZ.out
          have cX_0 := (blk_cell HX.out 0).trans rfl
          have cX_1 := (blk_cell HX.out 1).trans rfl
          have cX_2 := (blk_cell HX.out 2).trans rfl
          have cX_3 := (blk_cell HX.out 3).trans rfl
          have cX_4 := (blk_cell HX.out 4).trans rfl
          have lX := blk_lt HX.out
          have hw3 : IntKind.i64.wrap wv = wv := IntWalk.i64_in _ (by omega)
          have hsv : sv = 0 ∨ sv = 1 ∨ sv = 2 := by omega
          rcases hsv with rfl | rfl | rfl
          · skip
            have ys := (HB.out.cell (p := ⟨bs, os + d, none⟩) hbs).trans HSS.out
            go_upto_region 14 with fail
            clear ys
            clear cK_0 cK_1 cK_2 lK cZ_0 cZ_1 cZ_2 cZ_3 cZ_4 lZ cX_0 cX_1 cX_2 cX_3 cX_4 lX
            have cK_0 := (blk_cell HK.out 0).trans rfl
            have cK_1 := (blk_cell HK.out 1).trans rfl
            have cK_2 := (blk_cell HK.out 2).trans rfl
            have lK := blk_lt HK.out
            have cZ_0 := (blk_cell HZ.out 0).trans rfl
            have cZ_1 := (blk_cell HZ.out 1).trans rfl
            have cZ_2 := (blk_cell HZ.out 2).trans rfl
            have cZ_3 := (blk_cell HZ.out 3).trans rfl
            have cZ_4 := (blk_cell HZ.out 4).trans rfl
            have lZ := blk_lt HZ.out
            have cX_0 := (blk_cell HX.out 0).trans rfl
            have cX_1 := (blk_cell HX.out 1).trans rfl
            have cX_2 := (blk_cell HX.out 2).trans rfl
            have cX_3 := (blk_cell HX.out 3).trans rfl
            have cX_4 := (blk_cell HX.out 4).trans rfl
            have fX_0 := blk_frozen HX.out 0
            have fX_1 := blk_frozen HX.out 1
            have fX_2 := blk_frozen HX.out 2
            have fX_3 := blk_frozen HX.out 3
            have fX_4 := blk_frozen HX.out 4
            have lX := blk_lt HX.out
            go_upto_region 5 with ((with_reducible refine gate_builtin (b := .append) (xs := #[.tmp 90, .tmp 92]) rfl ?_); at_builtin; refine Kd.R_append (Kd.int .i64) (w0 := w) w.heap.size rfl (.tmp 90) (.tmp 92) 45 3 (.int .i64 0) 8 rfl Tryd.underlying45 info3 rfl (by decide) (by omega) (.slice A m c) pre ((a : Int)) [.int .i64 (a : Int)] (fun _ => True) (fun _ => False) rfl rfl (rfl) (fun _ hk => hk.elim) (fun _ _ => trivial) Ra.out HB.out HB.out.size (by omega) ?_; intro vb W2 ho hb hg hat; clear cK_0 cK_1 cK_2 lK cZ_0 cZ_1 cZ_2 cZ_3 cZ_4 lZ cX_0 cX_1 cX_2 cX_3 cX_4 fX_0 fX_1 fX_2 fX_3 fX_4 lX; replace HK := Lib.hid (blk_grown HK.out hg (own_ne Ra.out HK.out (by decide))); replace HZ := Lib.hid (blk_grown HZ.out hg (own_ne Ra.out HZ.out (by decide))); replace HX := Lib.hid (blk_grown HX.out hg (own_ne Ra.out HX.out (by decide))); replace HB := Lib.hid (hb); clear Ra; obtain ⟨xb, hx_⟩ : ∃ l_, l_ = (pre ++ [(a : Int)]) := ⟨_, rfl⟩; rw [← hx_] at ho; have Eb := Lib.hid hx_; clear hx_; have Rb := Lib.hid ho; clear ho hb hg hat; obtain ⟨Ab, cb, eb⟩ := Kd.R_slice Rb.out; subst eb; have cK_0 := (blk_cell HK.out 0).trans rfl; have cK_1 := (blk_cell HK.out 1).trans rfl; have cK_2 := (blk_cell HK.out 2).trans rfl; have lK := blk_lt HK.out; have cZ_0 := (blk_cell HZ.out 0).trans rfl; have cZ_1 := (blk_cell HZ.out 1).trans rfl; have cZ_2 := (blk_cell HZ.out 2).trans rfl; have cZ_3 := (blk_cell HZ.out 3).trans rfl; have cZ_4 := (blk_cell HZ.out 4).trans rfl; have lZ := blk_lt HZ.out; have cX_0 := (blk_cell HX.out 0).trans rfl; have cX_1 := (blk_cell HX.out 1).trans rfl; have cX_2 := (blk_cell HX.out 2).trans rfl; have cX_3 := (blk_cell HX.out 3).trans rfl; have cX_4 := (blk_cell HX.out 4).trans rfl; have fX_0 := blk_frozen HX.out 0; have fX_1 := blk_frozen HX.out 1; have fX_2 := blk_frozen HX.out 2; have fX_3 := blk_frozen HX.out 3; have fX_4 := blk_frozen HX.out 4; have lX := blk_lt HX.out)
            clear cK_0 cK_1 cK_2 lK cZ_0 cZ_1 cZ_2 cZ_3 cZ_4 lZ cX_0 cX_1 cX_2 cX_3 cX_4 fX_0 fX_1 fX_2 fX_3 fX_4 lX
            obtain ⟨W3, hnw⟩ : ∃ W, W = (W2.setCell ⟨w.heap.size + 1 + 1, 2, none⟩ (.slice Ab xb.length cb)) := ⟨_, rfl⟩
            rw [← hnw]
            have hg : W2.grownBy W3 (some (w.heap.size + 1 + 1)) := by rw [hnw]; exact (g_put (g_refl W2 (some (w.heap.size + 1 + 1))) 2 (.slice Ab xb.length cb))
            have HXq := Lib.hid (show W3.heap[w.heap.size + 1 + 1]? = some (.cells #[.slice (some ⟨bw, ow, none⟩) ch.length cw, .slice (some ⟨bs, os, none⟩) ch.length cs, .slice Ab xb.length cb, .int .i64 (laid + yv), .int .i64 lost] 77 (0, 0)) by rw [hnw]; exact blk_put (HX.out) 2 (.slice Ab xb.length cb) rfl)
            have HOLD := HX
            replace Rb := Lib.hid (R_typed_grown Rb.out hg (fun g e => by injection e with e; subst e; exact ⟨_, _, HOLD.out, by decide⟩))
            replace HK := Lib.hid (blk_grown HK.out hg (fun e => by injection e with e; exact absurd e (blk_ne HK.out HX.out (by decide))))
            replace HZ := Lib.hid (blk_grown HZ.out hg (fun e => by injection e with e; omega))
            clear HOLD
            clear HX
            have HX := HXq
            clear HXq
            replace HB := Lib.hid (HB.out.grown hg HB.out.size (fun k e => by injection e with e; have := HB.out.size; omega))
            clear hg hnw
            go_wp2
            have hst := (stepK_some (b := by_) (la := laid) (lo := lost) hlt2 (b1 := 0) (l1 := laid + yv) (by rw [if_pos HBY.out]) (by rw [if_pos HBY.out, HYV.out]) wv).2.2.2
            go_roundg g1
            case measure => omega
            case rel => exact ⟨d + 1, a, 0, (laid + yv), lost, Ab, _, cb, xb, by first | rfl | go_num, rfl, by go_num, ⟨by have := HKK.out; omega⟩, ⟨by rw [HS.out, HDR.out, Eb.out]; simp only [knFrom, List.map_cons]; rw [hst]; simp⟩, ⟨by rw [HL.out, HDR.out]; simp only [lastK]; rw [hst]⟩, ⟨by have := congrArg List.length Eb.out; simp only [List.length_append, List.length_cons, List.length_nil] at this; refine ⟨?_, ?_, ?_, ?_, ?_, ?_, ?_, ?_⟩ <;> omega⟩, ⟨HK.out⟩, ⟨HZ.out⟩, ⟨HX.out⟩, ⟨Rb.out⟩, ⟨HB.out⟩⟩

          · skip
            have ys := (HB.out.cell (p := ⟨bs, os + d, none⟩) hbs).trans HSS.out
            have yw := (HB.out.cell (p := ⟨bw, ow + d, none⟩) hbw).trans HWW.out
            have yn := (HB.out.cell (p := ⟨b0, o0 + a * 2, none⟩) hb0).trans HX0.out
            by_cases hq : nv ≤ wv
            · skip
              have hqq : decide (nv ≤ wv) = true := decide_eq_true hq
              go_upto_region 14 with fail
              clear ys yw yn
              clear cK_0 cK_1 cK_2 lK cZ_0 cZ_1 cZ_2 cZ_3 cZ_4 lZ cX_0 cX_1 cX_2 cX_3 cX_4 lX
              have cK_0 := (blk_cell HK.out 0).trans rfl
              have cK_1 := (blk_cell HK.out 1).trans rfl
              have cK_2 := (blk_cell HK.out 2).trans rfl
              have lK := blk_lt HK.out
              have cZ_0 := (blk_cell HZ.out 0).trans rfl
              have cZ_1 := (blk_cell HZ.out 1).trans rfl
              have cZ_2 := (blk_cell HZ.out 2).trans rfl
              have cZ_3 := (blk_cell HZ.out 3).trans rfl
              have cZ_4 := (blk_cell HZ.out 4).trans rfl
              have lZ := blk_lt HZ.out
              have cX_0 := (blk_cell HX.out 0).trans rfl
              have cX_1 := (blk_cell HX.out 1).trans rfl
              have cX_2 := (blk_cell HX.out 2).trans rfl
              have cX_3 := (blk_cell HX.out 3).trans rfl
              have cX_4 := (blk_cell HX.out 4).trans rfl
              have fX_0 := blk_frozen HX.out 0
              have fX_1 := blk_frozen HX.out 1
              have fX_2 := blk_frozen HX.out 2
              have fX_3 := blk_frozen HX.out 3
              have fX_4 := blk_frozen HX.out 4
              have lX := blk_lt HX.out
              go_upto_region 5 with ((with_reducible refine gate_builtin (b := .append) (xs := #[.tmp 90, .tmp 92]) rfl ?_); at_builtin; refine Kd.R_append (Kd.int .i64) (w0 := w) w.heap.size rfl (.tmp 90) (.tmp 92) 45 3 (.int .i64 0) 8 rfl Tryd.underlying45 info3 rfl (by decide) (by omega) (.slice A m c) pre (((a : Int) + 1)) [.int .i64 ((a : Int) + 1)] (fun _ => True) (fun _ => False) rfl rfl (rfl) (fun _ hk => hk.elim) (fun _ _ => trivial) Ra.out HB.out HB.out.size (by omega) ?_; intro vb W2 ho hb hg hat; clear cK_0 cK_1 cK_2 lK cZ_0 cZ_1 cZ_2 cZ_3 cZ_4 lZ cX_0 cX_1 cX_2 cX_3 cX_4 fX_0 fX_1 fX_2 fX_3 fX_4 lX; replace HK := Lib.hid (blk_grown HK.out hg (own_ne Ra.out HK.out (by decide))); replace HZ := Lib.hid (blk_grown HZ.out hg (own_ne Ra.out HZ.out (by decide))); replace HX := Lib.hid (blk_grown HX.out hg (own_ne Ra.out HX.out (by decide))); replace HB := Lib.hid (hb); clear Ra; obtain ⟨xb, hx_⟩ : ∃ l_, l_ = (pre ++ [((a : Int) + 1)]) := ⟨_, rfl⟩; rw [← hx_] at ho; have Eb := Lib.hid hx_; clear hx_; have Rb := Lib.hid ho; clear ho hb hg hat; obtain ⟨Ab, cb, eb⟩ := Kd.R_slice Rb.out; subst eb; have cK_0 := (blk_cell HK.out 0).trans rfl; have cK_1 := (blk_cell HK.out 1).trans rfl; have cK_2 := (blk_cell HK.out 2).trans rfl; have lK := blk_lt HK.out; have cZ_0 := (blk_cell HZ.out 0).trans rfl; have cZ_1 := (blk_cell HZ.out 1).trans rfl; have cZ_2 := (blk_cell HZ.out 2).trans rfl; have cZ_3 := (blk_cell HZ.out 3).trans rfl; have cZ_4 := (blk_cell HZ.out 4).trans rfl; have lZ := blk_lt HZ.out; have cX_0 := (blk_cell HX.out 0).trans rfl; have cX_1 := (blk_cell HX.out 1).trans rfl; have cX_2 := (blk_cell HX.out 2).trans rfl; have cX_3 := (blk_cell HX.out 3).trans rfl; have cX_4 := (blk_cell HX.out 4).trans rfl; have fX_0 := blk_frozen HX.out 0; have fX_1 := blk_frozen HX.out 1; have fX_2 := blk_frozen HX.out 2; have fX_3 := blk_frozen HX.out 3; have fX_4 := blk_frozen HX.out 4; have lX := blk_lt HX.out)
              clear cK_0 cK_1 cK_2 lK cZ_0 cZ_1 cZ_2 cZ_3 cZ_4 lZ cX_0 cX_1 cX_2 cX_3 cX_4 fX_0 fX_1 fX_2 fX_3 fX_4 lX
              obtain ⟨W3, hnw⟩ : ∃ W, W = (W2.setCell ⟨w.heap.size + 1 + 1, 2, none⟩ (.slice Ab xb.length cb)) := ⟨_, rfl⟩
              rw [← hnw]
              have hg : W2.grownBy W3 (some (w.heap.size + 1 + 1)) := by rw [hnw]; exact (g_put (g_refl W2 (some (w.heap.size + 1 + 1))) 2 (.slice Ab xb.length cb))
              have HXq := Lib.hid (show W3.heap[w.heap.size + 1 + 1]? = some (.cells #[.slice (some ⟨bw, ow, none⟩) ch.length cw, .slice (some ⟨bs, os, none⟩) ch.length cs, .slice Ab xb.length cb, .int .i64 (laid + yv), .int .i64 lost] 77 (0, 0)) by rw [hnw]; exact blk_put (HX.out) 2 (.slice Ab xb.length cb) rfl)
              have HOLD := HX
              replace Rb := Lib.hid (R_typed_grown Rb.out hg (fun g e => by injection e with e; subst e; exact ⟨_, _, HOLD.out, by decide⟩))
              replace HK := Lib.hid (blk_grown HK.out hg (fun e => by injection e with e; exact absurd e (blk_ne HK.out HX.out (by decide))))
              replace HZ := Lib.hid (blk_grown HZ.out hg (fun e => by injection e with e; omega))
              clear HOLD
              clear HX
              have HX := HXq
              clear HXq
              replace HB := Lib.hid (HB.out.grown hg HB.out.size (fun k e => by injection e with e; have := HB.out.size; omega))
              clear hg hnw
              go_wp2
              have hst := (stepK_some (b := by_) (la := laid) (lo := lost) hlt2 (b1 := 0) (l1 := laid + yv) (by rw [if_pos HBY.out]) (by rw [if_pos HBY.out, HYV.out]) wv).2.1 (by rw [← HNV.out]; omega)
              go_roundg g1
              case measure => omega
              case rel => exact ⟨d + 1, a + 1, -1, (laid + yv), lost, Ab, _, cb, xb, by first | rfl | go_num, rfl, by go_num, ⟨by have := HKK.out; omega⟩, ⟨by rw [HS.out, HDR.out, Eb.out]; simp only [knFrom, List.map_cons]; rw [hst]; simp⟩, ⟨by rw [HL.out, HDR.out]; simp only [lastK]; rw [hst]⟩, ⟨by have := congrArg List.length Eb.out; simp only [List.length_append, List.length_cons, List.length_nil] at this; refine ⟨?_, ?_, ?_, ?_, ?_, ?_, ?_, ?_⟩ <;> omega⟩, ⟨HK.out⟩, ⟨HZ.out⟩, ⟨HX.out⟩, ⟨Rb.out⟩, ⟨HB.out⟩⟩

            · skip
              have hqq : decide (nv ≤ wv) = false := decide_eq_false hq
              go_upto_region 14 with fail
              clear ys yw yn
              clear cK_0 cK_1 cK_2 lK cZ_0 cZ_1 cZ_2 cZ_3 cZ_4 lZ cX_0 cX_1 cX_2 cX_3 cX_4 lX
              have cK_0 := (blk_cell HK.out 0).trans rfl
              have cK_1 := (blk_cell HK.out 1).trans rfl
              have cK_2 := (blk_cell HK.out 2).trans rfl
              have lK := blk_lt HK.out
              have cZ_0 := (blk_cell HZ.out 0).trans rfl
              have cZ_1 := (blk_cell HZ.out 1).trans rfl
              have cZ_2 := (blk_cell HZ.out 2).trans rfl
              have cZ_3 := (blk_cell HZ.out 3).trans rfl
              have cZ_4 := (blk_cell HZ.out 4).trans rfl
              have lZ := blk_lt HZ.out
              have cX_0 := (blk_cell HX.out 0).trans rfl
              have cX_1 := (blk_cell HX.out 1).trans rfl
              have cX_2 := (blk_cell HX.out 2).trans rfl
              have cX_3 := (blk_cell HX.out 3).trans rfl
              have cX_4 := (blk_cell HX.out 4).trans rfl
              have fX_0 := blk_frozen HX.out 0
              have fX_1 := blk_frozen HX.out 1
              have fX_2 := blk_frozen HX.out 2
              have fX_3 := blk_frozen HX.out 3
              have fX_4 := blk_frozen HX.out 4
              have lX := blk_lt HX.out
              go_upto_region 5 with ((with_reducible refine gate_builtin (b := .append) (xs := #[.tmp 90, .tmp 92]) rfl ?_); at_builtin; refine Kd.R_append (Kd.int .i64) (w0 := w) w.heap.size rfl (.tmp 90) (.tmp 92) 45 3 (.int .i64 0) 8 rfl Tryd.underlying45 info3 rfl (by decide) (by omega) (.slice A m c) pre ((a : Int)) [.int .i64 (a : Int)] (fun _ => True) (fun _ => False) rfl rfl (rfl) (fun _ hk => hk.elim) (fun _ _ => trivial) Ra.out HB.out HB.out.size (by omega) ?_; intro vb W2 ho hb hg hat; clear cK_0 cK_1 cK_2 lK cZ_0 cZ_1 cZ_2 cZ_3 cZ_4 lZ cX_0 cX_1 cX_2 cX_3 cX_4 fX_0 fX_1 fX_2 fX_3 fX_4 lX; replace HK := Lib.hid (blk_grown HK.out hg (own_ne Ra.out HK.out (by decide))); replace HZ := Lib.hid (blk_grown HZ.out hg (own_ne Ra.out HZ.out (by decide))); replace HX := Lib.hid (blk_grown HX.out hg (own_ne Ra.out HX.out (by decide))); replace HB := Lib.hid (hb); clear Ra; obtain ⟨xb, hx_⟩ : ∃ l_, l_ = (pre ++ [(a : Int)]) := ⟨_, rfl⟩; rw [← hx_] at ho; have Eb := Lib.hid hx_; clear hx_; have Rb := Lib.hid ho; clear ho hb hg hat; obtain ⟨Ab, cb, eb⟩ := Kd.R_slice Rb.out; subst eb; have cK_0 := (blk_cell HK.out 0).trans rfl; have cK_1 := (blk_cell HK.out 1).trans rfl; have cK_2 := (blk_cell HK.out 2).trans rfl; have lK := blk_lt HK.out; have cZ_0 := (blk_cell HZ.out 0).trans rfl; have cZ_1 := (blk_cell HZ.out 1).trans rfl; have cZ_2 := (blk_cell HZ.out 2).trans rfl; have cZ_3 := (blk_cell HZ.out 3).trans rfl; have cZ_4 := (blk_cell HZ.out 4).trans rfl; have lZ := blk_lt HZ.out; have cX_0 := (blk_cell HX.out 0).trans rfl; have cX_1 := (blk_cell HX.out 1).trans rfl; have cX_2 := (blk_cell HX.out 2).trans rfl; have cX_3 := (blk_cell HX.out 3).trans rfl; have cX_4 := (blk_cell HX.out 4).trans rfl; have fX_0 := blk_frozen HX.out 0; have fX_1 := blk_frozen HX.out 1; have fX_2 := blk_frozen HX.out 2; have fX_3 := blk_frozen HX.out 3; have fX_4 := blk_frozen HX.out 4; have lX := blk_lt HX.out)
              clear cK_0 cK_1 cK_2 lK cZ_0 cZ_1 cZ_2 cZ_3 cZ_4 lZ cX_0 cX_1 cX_2 cX_3 cX_4 fX_0 fX_1 fX_2 fX_3 fX_4 lX
              obtain ⟨W3, hnw⟩ : ∃ W, W = (W2.setCell ⟨w.heap.size + 1 + 1, 2, none⟩ (.slice Ab xb.length cb)) := ⟨_, rfl⟩
              rw [← hnw]
              have hg : W2.grownBy W3 (some (w.heap.size + 1 + 1)) := by rw [hnw]; exact (g_put (g_refl W2 (some (w.heap.size + 1 + 1))) 2 (.slice Ab xb.length cb))
              have HXq := Lib.hid (show W3.heap[w.heap.size + 1 + 1]? = some (.cells #[.slice (some ⟨bw, ow, none⟩) ch.length cw, .slice (some ⟨bs, os, none⟩) ch.length cs, .slice Ab xb.length cb, .int .i64 (laid + yv), .int .i64 lost] 77 (0, 0)) by rw [hnw]; exact blk_put (HX.out) 2 (.slice Ab xb.length cb) rfl)
              have HOLD := HX
              replace Rb := Lib.hid (R_typed_grown Rb.out hg (fun g e => by injection e with e; subst e; exact ⟨_, _, HOLD.out, by decide⟩))
              replace HK := Lib.hid (blk_grown HK.out hg (fun e => by injection e with e; exact absurd e (blk_ne HK.out HX.out (by decide))))
              replace HZ := Lib.hid (blk_grown HZ.out hg (fun e => by injection e with e; omega))
              clear HOLD
              clear HX
              have HX := HXq
              clear HXq
              replace HB := Lib.hid (HB.out.grown hg HB.out.size (fun k e => by injection e with e; have := HB.out.size; omega))
              clear hg hnw
              go_wp2
              have hst := (by have e := (stepK_some (b := by_) (la := laid) (lo := lost) hlt2 (b1 := 0) (l1 := laid + yv) (by rw [if_pos HBY.out]) (by rw [if_pos HBY.out, HYV.out]) wv).2.2.1 (by rw [← HNV.out]; omega); rwa [Int.zero_add] at e)
              go_roundg g1
              case measure => omega
              case rel => exact ⟨d + 1, a, wv, (laid + yv), lost, Ab, _, cb, xb, by first | rfl | go_num, rfl, by go_num, ⟨by have := HKK.out; omega⟩, ⟨by rw [HS.out, HDR.out, Eb.out]; simp only [knFrom, List.map_cons]; rw [hst]; simp⟩, ⟨by rw [HL.out, HDR.out]; simp only [lastK]; rw [hst]⟩, ⟨by have := congrArg List.length Eb.out; simp only [List.length_append, List.length_cons, List.length_nil] at this; refine ⟨?_, ?_, ?_, ?_, ?_, ?_, ?_, ?_⟩ <;> omega⟩, ⟨HK.out⟩, ⟨HZ.out⟩, ⟨HX.out⟩, ⟨Rb.out⟩, ⟨HB.out⟩⟩


          · skip
            have ys := (HB.out.cell (p := ⟨bs, os + d, none⟩) hbs).trans HSS.out
            go_upto_region 9 with fail
            clear ys
            clear cK_0 cK_1 cK_2 lK cZ_0 cZ_1 cZ_2 cZ_3 cZ_4 lZ cX_0 cX_1 cX_2 cX_3 cX_4 lX
            have hb : Below W1.heap.size W1 W1.drew := (Below.refl _ _).drew
            have hg := g_below hb
            replace Ra := Lib.hid (R_typed_grown Ra.out hg (fun g e => by cases e))
            replace HK := Lib.hid (blk_grown HK.out hg (by simp))
            replace HZ := Lib.hid (blk_grown HZ.out hg (by simp))
            replace HX := Lib.hid (blk_grown HX.out hg (by simp))
            replace HB := Lib.hid (HB.out.trans (below_weaken hb HB.out.size))
            clear hb hg
            refine start_ (n := 12) (S := fun w' => w'.cell? ⟨w.heap.size, 0, none⟩ = some (.slice (some ⟨b0, o0, none⟩) l0.length c0) ∧ w'.cell? ⟨w.heap.size, 1, none⟩ = some (.slice A1 n1 c1) ∧ w'.cell? ⟨w.heap.size, 2, none⟩ = some (.slice A2 n2 c2) ∧ w'.cell? ⟨w.heap.size + 1 + 1, 0, none⟩ = some (.slice (some ⟨bw, ow, none⟩) ch.length cw) ∧ w'.cell? ⟨w.heap.size + 1 + 1, 1, none⟩ = some (.slice (some ⟨bs, os, none⟩) ch.length cs) ∧ w'.cell? ⟨w.heap.size + 1 + 1, 2, none⟩ = some (.slice A m c) ∧ w'.cell? ⟨w.heap.size + 1 + 1, 3, none⟩ = some (.int .i64 (laid + yv)) ∧ w'.cell? ⟨w.heap.size + 1 + 1, 4, none⟩ = some (.int .i64 lost) ∧ w'.cell? ⟨b0, o0 + a * 2 + 1, none⟩ = some (.int .i64 yv)) (ds := [11]) #[false, false, false, false, false, false, false, false, false, false, false, false] (by kernel_rfl) rfl rfl ⟨(blk_cell HK.out 0).trans rfl, (blk_cell HK.out 1).trans rfl, (blk_cell HK.out 2).trans rfl, (blk_cell HX.out 0).trans rfl, (blk_cell HX.out 1).trans rfl, (blk_cell HX.out 2).trans rfl, (blk_cell HX.out 3).trans rfl, (blk_cell HX.out 4).trans rfl, (HB.out.cell (p := ⟨b0, o0 + a * 2 + 1, none⟩) hb0).trans HX1.out⟩ (fun hHeld => ?_)
            refine pu_ 0 (some 51) ?_
            refine pu_ 2 (some 53) ?_
            refine pu_ 4 (some 55) ?_
            refine pu_ 9 (some 9) ?_
            refine ta_ 1 (some 52) (s := hHeld) (y := by rintro w' ⟨s0, s1, s2, s3, s4, s5, s6, s7, s8⟩; go_simp; with_reducible rfl) (h := ?_)
            refine ta_ 3 (some 54) (s := hHeld) (y := by rintro w' ⟨s0, s1, s2, s3, s4, s5, s6, s7, s8⟩; go_simp; with_reducible rfl) (h := ?_)
            refine pu_ 5 (some 56) ?_
            refine pu_ 6 (some 57) ?_
            refine ta_ 7 (some 58) (s := hHeld) (y := by rintro w' ⟨s0, s1, s2, s3, s4, s5, s6, s7, s8⟩; go_simp; with_reducible rfl) (h := ?_)
            refine pu_ 8 (some 59) ?_
            refine pu_ 10 (some 60) ?_
            refine last_ (i := 11) (N := none) #[true, true, true, true, true, true, true, true, true, true, true, true] rfl rfl (by kernel_rfl) (by decide) (fun K hK => ?_)
            have cX_0 := (blk_cell HX.out 0).trans rfl
            have cX_1 := (blk_cell HX.out 1).trans rfl
            have cX_2 := (blk_cell HX.out 2).trans rfl
            have cX_3 := (blk_cell HX.out 3).trans rfl
            have cX_4 := (blk_cell HX.out 4).trans rfl
            have fX_0 := blk_frozen HX.out 0
            have fX_1 := blk_frozen HX.out 1
            have fX_2 := blk_frozen HX.out 2
            have fX_3 := blk_frozen HX.out 3
            have fX_4 := blk_frozen HX.out 4
            have lX := blk_lt HX.out
            refine skip_ (w1 := ?_) (by rfl) rfl ?_ ?_
            rotate_left
            · go_simp
              rfl
            refine hK.out _ _ ?_
            clear hK K
            refine done_ (by kernel_rfl) ?_

            clear cX_0 cX_1 cX_2 cX_3 cX_4 fX_0 fX_1 fX_2 fX_3 fX_4 lX
            obtain ⟨W2, hnw_⟩ : ∃ W, W = ((W1.setCell ⟨w.heap.size + 1 + 1, 4, none⟩ (.int .i64 (lost + yv)))).drew := ⟨_, rfl⟩
            rw [← hnw_]
            have hnw : W2 = (W1.drew.setCell ⟨w.heap.size + 1 + 1, 4, none⟩ (.int .i64 (lost + yv))) := hnw_.trans rfl
            clear hnw_
            have hg : W1.drew.grownBy W2 (some (w.heap.size + 1 + 1)) := by rw [hnw]; exact (g_put (g_refl W1.drew (some (w.heap.size + 1 + 1))) 4 (.int .i64 (lost + yv)))
            have HXq := Lib.hid (show W2.heap[w.heap.size + 1 + 1]? = some (.cells #[.slice (some ⟨bw, ow, none⟩) ch.length cw, .slice (some ⟨bs, os, none⟩) ch.length cs, .slice A m c, .int .i64 (laid + yv), .int .i64 (lost + yv)] 77 (0, 0)) by rw [hnw]; exact blk_put (HX.out) 4 (.int .i64 (lost + yv)) rfl)
            have HOLD := HX
            replace Ra := Lib.hid (R_typed_grown Ra.out hg (fun g e => by injection e with e; subst e; exact ⟨_, _, HOLD.out, by decide⟩))
            replace HK := Lib.hid (blk_grown HK.out hg (fun e => by injection e with e; exact absurd e (blk_ne HK.out HX.out (by decide))))
            replace HZ := Lib.hid (blk_grown HZ.out hg (fun e => by injection e with e; omega))
            clear HOLD
            clear HX
            have HX := HXq
            clear HXq
            replace HB := Lib.hid (HB.out.grown hg HB.out.size (fun k e => by injection e with e; have := HB.out.size; omega))
            clear hg hnw
            have cK_0 := (blk_cell HK.out 0).trans rfl
            have cK_1 := (blk_cell HK.out 1).trans rfl
            have cK_2 := (blk_cell HK.out 2).trans rfl
            have lK := blk_lt HK.out
            have cZ_0 := (blk_cell HZ.out 0).trans rfl
            have cZ_1 := (blk_cell HZ.out 1).trans rfl
            have cZ_2 := (blk_cell HZ.out 2).trans rfl
            have cZ_3 := (blk_cell HZ.out 3).trans rfl
            have cZ_4 := (blk_cell HZ.out 4).trans rfl
            have lZ := blk_lt HZ.out
            have cX_0 := (blk_cell HX.out 0).trans rfl
            have cX_1 := (blk_cell HX.out 1).trans rfl
            have cX_2 := (blk_cell HX.out 2).trans rfl
            have cX_3 := (blk_cell HX.out 3).trans rfl
            have cX_4 := (blk_cell HX.out 4).trans rfl
            have lX := blk_lt HX.out
            have ys := (HB.out.cell (p := ⟨bs, os + d, none⟩) hbs).trans HSS.out
            go_upto_region 14 with fail
            clear ys
            clear cK_0 cK_1 cK_2 lK cZ_0 cZ_1 cZ_2 cZ_3 cZ_4 lZ cX_0 cX_1 cX_2 cX_3 cX_4 lX
            have cK_0 := (blk_cell HK.out 0).trans rfl
            have cK_1 := (blk_cell HK.out 1).trans rfl
            have cK_2 := (blk_cell HK.out 2).trans rfl
            have lK := blk_lt HK.out
            have cZ_0 := (blk_cell HZ.out 0).trans rfl
            have cZ_1 := (blk_cell HZ.out 1).trans rfl
            have cZ_2 := (blk_cell HZ.out 2).trans rfl
            have cZ_3 := (blk_cell HZ.out 3).trans rfl
            have cZ_4 := (blk_cell HZ.out 4).trans rfl
            have lZ := blk_lt HZ.out
            have cX_0 := (blk_cell HX.out 0).trans rfl
            have cX_1 := (blk_cell HX.out 1).trans rfl
            have cX_2 := (blk_cell HX.out 2).trans rfl
            have cX_3 := (blk_cell HX.out 3).trans rfl
            have cX_4 := (blk_cell HX.out 4).trans rfl
            have fX_0 := blk_frozen HX.out 0
            have fX_1 := blk_frozen HX.out 1
            have fX_2 := blk_frozen HX.out 2
            have fX_3 := blk_frozen HX.out 3
            have fX_4 := blk_frozen HX.out 4
            have lX := blk_lt HX.out
            go_upto_region 5 with ((with_reducible refine gate_builtin (b := .append) (xs := #[.tmp 90, .tmp 92]) rfl ?_); at_builtin; refine Kd.R_append (Kd.int .i64) (w0 := w) w.heap.size rfl (.tmp 90) (.tmp 92) 45 3 (.int .i64 0) 8 rfl Tryd.underlying45 info3 rfl (by decide) (by omega) (.slice A m c) pre ((a : Int)) [.int .i64 (a : Int)] (fun _ => True) (fun _ => False) rfl rfl (rfl) (fun _ hk => hk.elim) (fun _ _ => trivial) Ra.out HB.out HB.out.size (by omega) ?_; intro vb W3 ho hb hg hat; clear cK_0 cK_1 cK_2 lK cZ_0 cZ_1 cZ_2 cZ_3 cZ_4 lZ cX_0 cX_1 cX_2 cX_3 cX_4 fX_0 fX_1 fX_2 fX_3 fX_4 lX; replace HK := Lib.hid (blk_grown HK.out hg (own_ne Ra.out HK.out (by decide))); replace HZ := Lib.hid (blk_grown HZ.out hg (own_ne Ra.out HZ.out (by decide))); replace HX := Lib.hid (blk_grown HX.out hg (own_ne Ra.out HX.out (by decide))); replace HB := Lib.hid (hb); clear Ra; obtain ⟨xb, hx_⟩ : ∃ l_, l_ = (pre ++ [(a : Int)]) := ⟨_, rfl⟩; rw [← hx_] at ho; have Eb := Lib.hid hx_; clear hx_; have Rb := Lib.hid ho; clear ho hb hg hat; obtain ⟨Ab, cb, eb⟩ := Kd.R_slice Rb.out; subst eb; have cK_0 := (blk_cell HK.out 0).trans rfl; have cK_1 := (blk_cell HK.out 1).trans rfl; have cK_2 := (blk_cell HK.out 2).trans rfl; have lK := blk_lt HK.out; have cZ_0 := (blk_cell HZ.out 0).trans rfl; have cZ_1 := (blk_cell HZ.out 1).trans rfl; have cZ_2 := (blk_cell HZ.out 2).trans rfl; have cZ_3 := (blk_cell HZ.out 3).trans rfl; have cZ_4 := (blk_cell HZ.out 4).trans rfl; have lZ := blk_lt HZ.out; have cX_0 := (blk_cell HX.out 0).trans rfl; have cX_1 := (blk_cell HX.out 1).trans rfl; have cX_2 := (blk_cell HX.out 2).trans rfl; have cX_3 := (blk_cell HX.out 3).trans rfl; have cX_4 := (blk_cell HX.out 4).trans rfl; have fX_0 := blk_frozen HX.out 0; have fX_1 := blk_frozen HX.out 1; have fX_2 := blk_frozen HX.out 2; have fX_3 := blk_frozen HX.out 3; have fX_4 := blk_frozen HX.out 4; have lX := blk_lt HX.out)
            clear cK_0 cK_1 cK_2 lK cZ_0 cZ_1 cZ_2 cZ_3 cZ_4 lZ cX_0 cX_1 cX_2 cX_3 cX_4 fX_0 fX_1 fX_2 fX_3 fX_4 lX
            obtain ⟨W4, hnw⟩ : ∃ W, W = (W3.setCell ⟨w.heap.size + 1 + 1, 2, none⟩ (.slice Ab xb.length cb)) := ⟨_, rfl⟩
            rw [← hnw]
            have hg : W3.grownBy W4 (some (w.heap.size + 1 + 1)) := by rw [hnw]; exact (g_put (g_refl W3 (some (w.heap.size + 1 + 1))) 2 (.slice Ab xb.length cb))
            have HXq := Lib.hid (show W4.heap[w.heap.size + 1 + 1]? = some (.cells #[.slice (some ⟨bw, ow, none⟩) ch.length cw, .slice (some ⟨bs, os, none⟩) ch.length cs, .slice Ab xb.length cb, .int .i64 (laid + yv), .int .i64 (lost + yv)] 77 (0, 0)) by rw [hnw]; exact blk_put (HX.out) 2 (.slice Ab xb.length cb) rfl)
            have HOLD := HX
            replace Rb := Lib.hid (R_typed_grown Rb.out hg (fun g e => by injection e with e; subst e; exact ⟨_, _, HOLD.out, by decide⟩))
            replace HK := Lib.hid (blk_grown HK.out hg (fun e => by injection e with e; exact absurd e (blk_ne HK.out HX.out (by decide))))
            replace HZ := Lib.hid (blk_grown HZ.out hg (fun e => by injection e with e; omega))
            clear HOLD
            clear HX
            have HX := HXq
            clear HXq
            replace HB := Lib.hid (HB.out.grown hg HB.out.size (fun k e => by injection e with e; have := HB.out.size; omega))
            clear hg hnw
            go_wp2
            have hst := (show stepK l0 ⟨a, by_, laid, lost⟩ 2 wv = ⟨a, -1, (laid + yv), lost + yv⟩ by have e := (stepK_some (b := by_) (la := laid) (lo := lost) hlt2 (b1 := 0) (l1 := laid + yv) (by rw [if_pos HBY.out]) (by rw [if_pos HBY.out, HYV.out]) wv).1; rw [← HYV.out] at e; exact e)
            go_roundg g1
            case measure => omega
            case rel => exact ⟨d + 1, a, -1, (laid + yv), (lost + yv), Ab, _, cb, xb, by first | rfl | go_num, rfl, by go_num, ⟨by have := HKK.out; omega⟩, ⟨by rw [HS.out, HDR.out, Eb.out]; simp only [knFrom, List.map_cons]; rw [hst]; simp⟩, ⟨by rw [HL.out, HDR.out]; simp only [lastK]; rw [hst]⟩, ⟨by have := congrArg List.length Eb.out; simp only [List.length_append, List.length_cons, List.length_nil] at this; refine ⟨?_, ?_, ?_, ?_, ?_, ?_, ?_, ?_⟩ <;> omega⟩, ⟨HK.out⟩, ⟨HZ.out⟩, ⟨HX.out⟩, ⟨Rb.out⟩, ⟨HB.out⟩⟩


        · skip
          have hbb : decide (by_ < 0) = false := decide_eq_false hby
          have HBY := Lib.hid hby
          clear hby
          have cK_0 := (blk_cell HK.out 0).trans rfl
          have cK_1 := (blk_cell HK.out 1).trans rfl
          have cK_2 := (blk_cell HK.out 2).trans rfl
          have lK := blk_lt HK.out
          have cZ_0 := (blk_cell HZ.out 0).trans rfl
          have cZ_1 := (blk_cell HZ.out 1).trans rfl
          have cZ_2 := (blk_cell HZ.out 2).trans rfl
          have cZ_3 := (blk_cell HZ.out 3).trans rfl
          have cZ_4 := (blk_cell HZ.out 4).trans rfl
          have lZ := blk_lt HZ.out
          have cX_0 := (blk_cell HX.out 0).trans rfl
          have cX_1 := (blk_cell HX.out 1).trans rfl
          have cX_2 := (blk_cell HX.out 2).trans rfl
          have cX_3 := (blk_cell HX.out 3).trans rfl
          have cX_4 := (blk_cell HX.out 4).trans rfl
          have lX := blk_lt HX.out
          have hw3 : IntKind.i64.wrap (by_ + wv) = by_ + wv := IntWalk.i64_in _ (by have := HBY.out; omega)
          have hsv : sv = 0 ∨ sv = 1 ∨ sv = 2 := by omega
          rcases hsv with rfl | rfl | rfl
          · skip
            have ys := (HB.out.cell (p := ⟨bs, os + d, none⟩) hbs).trans HSS.out
            go_upto_region 14 with fail
            clear ys
            clear cK_0 cK_1 cK_2 lK cZ_0 cZ_1 cZ_2 cZ_3 cZ_4 lZ cX_0 cX_1 cX_2 cX_3 cX_4 lX
            have cK_0 := (blk_cell HK.out 0).trans rfl
            have cK_1 := (blk_cell HK.out 1).trans rfl
            have cK_2 := (blk_cell HK.out 2).trans rfl
            have lK := blk_lt HK.out
            have cZ_0 := (blk_cell HZ.out 0).trans rfl
            have cZ_1 := (blk_cell HZ.out 1).trans rfl
            have cZ_2 := (blk_cell HZ.out 2).trans rfl
            have cZ_3 := (blk_cell HZ.out 3).trans rfl
            have cZ_4 := (blk_cell HZ.out 4).trans rfl
            have lZ := blk_lt HZ.out
            have cX_0 := (blk_cell HX.out 0).trans rfl
            have cX_1 := (blk_cell HX.out 1).trans rfl
            have cX_2 := (blk_cell HX.out 2).trans rfl
            have cX_3 := (blk_cell HX.out 3).trans rfl
            have cX_4 := (blk_cell HX.out 4).trans rfl
            have fX_0 := blk_frozen HX.out 0
            have fX_1 := blk_frozen HX.out 1
            have fX_2 := blk_frozen HX.out 2
            have fX_3 := blk_frozen HX.out 3
            have fX_4 := blk_frozen HX.out 4
            have lX := blk_lt HX.out
            go_upto_region 5 with ((with_reducible refine gate_builtin (b := .append) (xs := #[.tmp 90, .tmp 92]) rfl ?_); at_builtin; refine Kd.R_append (Kd.int .i64) (w0 := w) w.heap.size rfl (.tmp 90) (.tmp 92) 45 3 (.int .i64 0) 8 rfl Tryd.underlying45 info3 rfl (by decide) (by omega) (.slice A m c) pre ((a : Int)) [.int .i64 (a : Int)] (fun _ => True) (fun _ => False) rfl rfl (rfl) (fun _ hk => hk.elim) (fun _ _ => trivial) Ra.out HB.out HB.out.size (by omega) ?_; intro vb W1 ho hb hg hat; clear cK_0 cK_1 cK_2 lK cZ_0 cZ_1 cZ_2 cZ_3 cZ_4 lZ cX_0 cX_1 cX_2 cX_3 cX_4 fX_0 fX_1 fX_2 fX_3 fX_4 lX; replace HK := Lib.hid (blk_grown HK.out hg (own_ne Ra.out HK.out (by decide))); replace HZ := Lib.hid (blk_grown HZ.out hg (own_ne Ra.out HZ.out (by decide))); replace HX := Lib.hid (blk_grown HX.out hg (own_ne Ra.out HX.out (by decide))); replace HB := Lib.hid (hb); clear Ra; obtain ⟨xb, hx_⟩ : ∃ l_, l_ = (pre ++ [(a : Int)]) := ⟨_, rfl⟩; rw [← hx_] at ho; have Eb := Lib.hid hx_; clear hx_; have Rb := Lib.hid ho; clear ho hb hg hat; obtain ⟨Ab, cb, eb⟩ := Kd.R_slice Rb.out; subst eb; have cK_0 := (blk_cell HK.out 0).trans rfl; have cK_1 := (blk_cell HK.out 1).trans rfl; have cK_2 := (blk_cell HK.out 2).trans rfl; have lK := blk_lt HK.out; have cZ_0 := (blk_cell HZ.out 0).trans rfl; have cZ_1 := (blk_cell HZ.out 1).trans rfl; have cZ_2 := (blk_cell HZ.out 2).trans rfl; have cZ_3 := (blk_cell HZ.out 3).trans rfl; have cZ_4 := (blk_cell HZ.out 4).trans rfl; have lZ := blk_lt HZ.out; have cX_0 := (blk_cell HX.out 0).trans rfl; have cX_1 := (blk_cell HX.out 1).trans rfl; have cX_2 := (blk_cell HX.out 2).trans rfl; have cX_3 := (blk_cell HX.out 3).trans rfl; have cX_4 := (blk_cell HX.out 4).trans rfl; have fX_0 := blk_frozen HX.out 0; have fX_1 := blk_frozen HX.out 1; have fX_2 := blk_frozen HX.out 2; have fX_3 := blk_frozen HX.out 3; have fX_4 := blk_frozen HX.out 4; have lX := blk_lt HX.out)
            clear cK_0 cK_1 cK_2 lK cZ_0 cZ_1 cZ_2 cZ_3 cZ_4 lZ cX_0 cX_1 cX_2 cX_3 cX_4 fX_0 fX_1 fX_2 fX_3 fX_4 lX
            obtain ⟨W2, hnw⟩ : ∃ W, W = (W1.setCell ⟨w.heap.size + 1 + 1, 2, none⟩ (.slice Ab xb.length cb)) := ⟨_, rfl⟩
            rw [← hnw]
            have hg : W1.grownBy W2 (some (w.heap.size + 1 + 1)) := by rw [hnw]; exact (g_put (g_refl W1 (some (w.heap.size + 1 + 1))) 2 (.slice Ab xb.length cb))
            have HXq := Lib.hid (show W2.heap[w.heap.size + 1 + 1]? = some (.cells #[.slice (some ⟨bw, ow, none⟩) ch.length cw, .slice (some ⟨bs, os, none⟩) ch.length cs, .slice Ab xb.length cb, .int .i64 laid, .int .i64 lost] 77 (0, 0)) by rw [hnw]; exact blk_put (HX.out) 2 (.slice Ab xb.length cb) rfl)
            have HOLD := HX
            replace Rb := Lib.hid (R_typed_grown Rb.out hg (fun g e => by injection e with e; subst e; exact ⟨_, _, HOLD.out, by decide⟩))
            replace HK := Lib.hid (blk_grown HK.out hg (fun e => by injection e with e; exact absurd e (blk_ne HK.out HX.out (by decide))))
            replace HZ := Lib.hid (blk_grown HZ.out hg (fun e => by injection e with e; omega))
            clear HOLD
            clear HX
            have HX := HXq
            clear HXq
            replace HB := Lib.hid (HB.out.grown hg HB.out.size (fun k e => by injection e with e; have := HB.out.size; omega))
            clear hg hnw
            go_wp2
            have hst := (stepK_some (b := by_) (la := laid) (lo := lost) hlt2 (b1 := by_) (l1 := laid) (by rw [if_neg (by have := HBY.out; omega)]) (by rw [if_neg (by have := HBY.out; omega)]) wv).2.2.2
            go_roundg g1
            case measure => omega
            case rel => exact ⟨d + 1, a, by_, laid, lost, Ab, _, cb, xb, by first | rfl | go_num, rfl, by go_num, ⟨by have := HKK.out; omega⟩, ⟨by rw [HS.out, HDR.out, Eb.out]; simp only [knFrom, List.map_cons]; rw [hst]; simp⟩, ⟨by rw [HL.out, HDR.out]; simp only [lastK]; rw [hst]⟩, ⟨by have := congrArg List.length Eb.out; simp only [List.length_append, List.length_cons, List.length_nil] at this; refine ⟨?_, ?_, ?_, ?_, ?_, ?_, ?_, ?_⟩ <;> omega⟩, ⟨HK.out⟩, ⟨HZ.out⟩, ⟨HX.out⟩, ⟨Rb.out⟩, ⟨HB.out⟩⟩

          · skip
            have ys := (HB.out.cell (p := ⟨bs, os + d, none⟩) hbs).trans HSS.out
            have yw := (HB.out.cell (p := ⟨bw, ow + d, none⟩) hbw).trans HWW.out
            have yn := (HB.out.cell (p := ⟨b0, o0 + a * 2, none⟩) hb0).trans HX0.out
            by_cases hq : nv ≤ (by_ + wv)
            · skip
              have hqq : decide (nv ≤ (by_ + wv)) = true := decide_eq_true hq
              go_upto_region 14 with fail
              clear ys yw yn
              clear cK_0 cK_1 cK_2 lK cZ_0 cZ_1 cZ_2 cZ_3 cZ_4 lZ cX_0 cX_1 cX_2 cX_3 cX_4 lX
              have cK_0 := (blk_cell HK.out 0).trans rfl
              have cK_1 := (blk_cell HK.out 1).trans rfl
              have cK_2 := (blk_cell HK.out 2).trans rfl
              have lK := blk_lt HK.out
              have cZ_0 := (blk_cell HZ.out 0).trans rfl
              have cZ_1 := (blk_cell HZ.out 1).trans rfl
              have cZ_2 := (blk_cell HZ.out 2).trans rfl
              have cZ_3 := (blk_cell HZ.out 3).trans rfl
              have cZ_4 := (blk_cell HZ.out 4).trans rfl
              have lZ := blk_lt HZ.out
              have cX_0 := (blk_cell HX.out 0).trans rfl
              have cX_1 := (blk_cell HX.out 1).trans rfl
              have cX_2 := (blk_cell HX.out 2).trans rfl
              have cX_3 := (blk_cell HX.out 3).trans rfl
              have cX_4 := (blk_cell HX.out 4).trans rfl
              have fX_0 := blk_frozen HX.out 0
              have fX_1 := blk_frozen HX.out 1
              have fX_2 := blk_frozen HX.out 2
              have fX_3 := blk_frozen HX.out 3
              have fX_4 := blk_frozen HX.out 4
              have lX := blk_lt HX.out
              go_upto_region 5 with ((with_reducible refine gate_builtin (b := .append) (xs := #[.tmp 90, .tmp 92]) rfl ?_); at_builtin; refine Kd.R_append (Kd.int .i64) (w0 := w) w.heap.size rfl (.tmp 90) (.tmp 92) 45 3 (.int .i64 0) 8 rfl Tryd.underlying45 info3 rfl (by decide) (by omega) (.slice A m c) pre (((a : Int) + 1)) [.int .i64 ((a : Int) + 1)] (fun _ => True) (fun _ => False) rfl rfl (rfl) (fun _ hk => hk.elim) (fun _ _ => trivial) Ra.out HB.out HB.out.size (by omega) ?_; intro vb W1 ho hb hg hat; clear cK_0 cK_1 cK_2 lK cZ_0 cZ_1 cZ_2 cZ_3 cZ_4 lZ cX_0 cX_1 cX_2 cX_3 cX_4 fX_0 fX_1 fX_2 fX_3 fX_4 lX; replace HK := Lib.hid (blk_grown HK.out hg (own_ne Ra.out HK.out (by decide))); replace HZ := Lib.hid (blk_grown HZ.out hg (own_ne Ra.out HZ.out (by decide))); replace HX := Lib.hid (blk_grown HX.out hg (own_ne Ra.out HX.out (by decide))); replace HB := Lib.hid (hb); clear Ra; obtain ⟨xb, hx_⟩ : ∃ l_, l_ = (pre ++ [((a : Int) + 1)]) := ⟨_, rfl⟩; rw [← hx_] at ho; have Eb := Lib.hid hx_; clear hx_; have Rb := Lib.hid ho; clear ho hb hg hat; obtain ⟨Ab, cb, eb⟩ := Kd.R_slice Rb.out; subst eb; have cK_0 := (blk_cell HK.out 0).trans rfl; have cK_1 := (blk_cell HK.out 1).trans rfl; have cK_2 := (blk_cell HK.out 2).trans rfl; have lK := blk_lt HK.out; have cZ_0 := (blk_cell HZ.out 0).trans rfl; have cZ_1 := (blk_cell HZ.out 1).trans rfl; have cZ_2 := (blk_cell HZ.out 2).trans rfl; have cZ_3 := (blk_cell HZ.out 3).trans rfl; have cZ_4 := (blk_cell HZ.out 4).trans rfl; have lZ := blk_lt HZ.out; have cX_0 := (blk_cell HX.out 0).trans rfl; have cX_1 := (blk_cell HX.out 1).trans rfl; have cX_2 := (blk_cell HX.out 2).trans rfl; have cX_3 := (blk_cell HX.out 3).trans rfl; have cX_4 := (blk_cell HX.out 4).trans rfl; have fX_0 := blk_frozen HX.out 0; have fX_1 := blk_frozen HX.out 1; have fX_2 := blk_frozen HX.out 2; have fX_3 := blk_frozen HX.out 3; have fX_4 := blk_frozen HX.out 4; have lX := blk_lt HX.out)
              clear cK_0 cK_1 cK_2 lK cZ_0 cZ_1 cZ_2 cZ_3 cZ_4 lZ cX_0 cX_1 cX_2 cX_3 cX_4 fX_0 fX_1 fX_2 fX_3 fX_4 lX
              obtain ⟨W2, hnw⟩ : ∃ W, W = (W1.setCell ⟨w.heap.size + 1 + 1, 2, none⟩ (.slice Ab xb.length cb)) := ⟨_, rfl⟩
              rw [← hnw]
              have hg : W1.grownBy W2 (some (w.heap.size + 1 + 1)) := by rw [hnw]; exact (g_put (g_refl W1 (some (w.heap.size + 1 + 1))) 2 (.slice Ab xb.length cb))
              have HXq := Lib.hid (show W2.heap[w.heap.size + 1 + 1]? = some (.cells #[.slice (some ⟨bw, ow, none⟩) ch.length cw, .slice (some ⟨bs, os, none⟩) ch.length cs, .slice Ab xb.length cb, .int .i64 laid, .int .i64 lost] 77 (0, 0)) by rw [hnw]; exact blk_put (HX.out) 2 (.slice Ab xb.length cb) rfl)
              have HOLD := HX
              replace Rb := Lib.hid (R_typed_grown Rb.out hg (fun g e => by injection e with e; subst e; exact ⟨_, _, HOLD.out, by decide⟩))
              replace HK := Lib.hid (blk_grown HK.out hg (fun e => by injection e with e; exact absurd e (blk_ne HK.out HX.out (by decide))))
              replace HZ := Lib.hid (blk_grown HZ.out hg (fun e => by injection e with e; omega))
              clear HOLD
              clear HX
              have HX := HXq
              clear HXq
              replace HB := Lib.hid (HB.out.grown hg HB.out.size (fun k e => by injection e with e; have := HB.out.size; omega))
              clear hg hnw
              go_wp2
              have hst := (stepK_some (b := by_) (la := laid) (lo := lost) hlt2 (b1 := by_) (l1 := laid) (by rw [if_neg (by have := HBY.out; omega)]) (by rw [if_neg (by have := HBY.out; omega)]) wv).2.1 (by rw [← HNV.out]; omega)
              go_roundg g1
              case measure => omega
              case rel => exact ⟨d + 1, a + 1, -1, laid, lost, Ab, _, cb, xb, by first | rfl | go_num, rfl, by go_num, ⟨by have := HKK.out; omega⟩, ⟨by rw [HS.out, HDR.out, Eb.out]; simp only [knFrom, List.map_cons]; rw [hst]; simp⟩, ⟨by rw [HL.out, HDR.out]; simp only [lastK]; rw [hst]⟩, ⟨by have := congrArg List.length Eb.out; simp only [List.length_append, List.length_cons, List.length_nil] at this; refine ⟨?_, ?_, ?_, ?_, ?_, ?_, ?_, ?_⟩ <;> omega⟩, ⟨HK.out⟩, ⟨HZ.out⟩, ⟨HX.out⟩, ⟨Rb.out⟩, ⟨HB.out⟩⟩

            · skip
              have hqq : decide (nv ≤ (by_ + wv)) = false := decide_eq_false hq
              go_upto_region 14 with fail
              clear ys yw yn
              clear cK_0 cK_1 cK_2 lK cZ_0 cZ_1 cZ_2 cZ_3 cZ_4 lZ cX_0 cX_1 cX_2 cX_3 cX_4 lX
              have cK_0 := (blk_cell HK.out 0).trans rfl
              have cK_1 := (blk_cell HK.out 1).trans rfl
              have cK_2 := (blk_cell HK.out 2).trans rfl
              have lK := blk_lt HK.out
              have cZ_0 := (blk_cell HZ.out 0).trans rfl
              have cZ_1 := (blk_cell HZ.out 1).trans rfl
              have cZ_2 := (blk_cell HZ.out 2).trans rfl
              have cZ_3 := (blk_cell HZ.out 3).trans rfl
              have cZ_4 := (blk_cell HZ.out 4).trans rfl
              have lZ := blk_lt HZ.out
              have cX_0 := (blk_cell HX.out 0).trans rfl
              have cX_1 := (blk_cell HX.out 1).trans rfl
              have cX_2 := (blk_cell HX.out 2).trans rfl
              have cX_3 := (blk_cell HX.out 3).trans rfl
              have cX_4 := (blk_cell HX.out 4).trans rfl
              have fX_0 := blk_frozen HX.out 0
              have fX_1 := blk_frozen HX.out 1
              have fX_2 := blk_frozen HX.out 2
              have fX_3 := blk_frozen HX.out 3
              have fX_4 := blk_frozen HX.out 4
              have lX := blk_lt HX.out
              go_upto_region 5 with ((with_reducible refine gate_builtin (b := .append) (xs := #[.tmp 90, .tmp 92]) rfl ?_); at_builtin; refine Kd.R_append (Kd.int .i64) (w0 := w) w.heap.size rfl (.tmp 90) (.tmp 92) 45 3 (.int .i64 0) 8 rfl Tryd.underlying45 info3 rfl (by decide) (by omega) (.slice A m c) pre ((a : Int)) [.int .i64 (a : Int)] (fun _ => True) (fun _ => False) rfl rfl (rfl) (fun _ hk => hk.elim) (fun _ _ => trivial) Ra.out HB.out HB.out.size (by omega) ?_; intro vb W1 ho hb hg hat; clear cK_0 cK_1 cK_2 lK cZ_0 cZ_1 cZ_2 cZ_3 cZ_4 lZ cX_0 cX_1 cX_2 cX_3 cX_4 fX_0 fX_1 fX_2 fX_3 fX_4 lX; replace HK := Lib.hid (blk_grown HK.out hg (own_ne Ra.out HK.out (by decide))); replace HZ := Lib.hid (blk_grown HZ.out hg (own_ne Ra.out HZ.out (by decide))); replace HX := Lib.hid (blk_grown HX.out hg (own_ne Ra.out HX.out (by decide))); replace HB := Lib.hid (hb); clear Ra; obtain ⟨xb, hx_⟩ : ∃ l_, l_ = (pre ++ [(a : Int)]) := ⟨_, rfl⟩; rw [← hx_] at ho; have Eb := Lib.hid hx_; clear hx_; have Rb := Lib.hid ho; clear ho hb hg hat; obtain ⟨Ab, cb, eb⟩ := Kd.R_slice Rb.out; subst eb; have cK_0 := (blk_cell HK.out 0).trans rfl; have cK_1 := (blk_cell HK.out 1).trans rfl; have cK_2 := (blk_cell HK.out 2).trans rfl; have lK := blk_lt HK.out; have cZ_0 := (blk_cell HZ.out 0).trans rfl; have cZ_1 := (blk_cell HZ.out 1).trans rfl; have cZ_2 := (blk_cell HZ.out 2).trans rfl; have cZ_3 := (blk_cell HZ.out 3).trans rfl; have cZ_4 := (blk_cell HZ.out 4).trans rfl; have lZ := blk_lt HZ.out; have cX_0 := (blk_cell HX.out 0).trans rfl; have cX_1 := (blk_cell HX.out 1).trans rfl; have cX_2 := (blk_cell HX.out 2).trans rfl; have cX_3 := (blk_cell HX.out 3).trans rfl; have cX_4 := (blk_cell HX.out 4).trans rfl; have fX_0 := blk_frozen HX.out 0; have fX_1 := blk_frozen HX.out 1; have fX_2 := blk_frozen HX.out 2; have fX_3 := blk_frozen HX.out 3; have fX_4 := blk_frozen HX.out 4; have lX := blk_lt HX.out)
              clear cK_0 cK_1 cK_2 lK cZ_0 cZ_1 cZ_2 cZ_3 cZ_4 lZ cX_0 cX_1 cX_2 cX_3 cX_4 fX_0 fX_1 fX_2 fX_3 fX_4 lX
              obtain ⟨W2, hnw⟩ : ∃ W, W = (W1.setCell ⟨w.heap.size + 1 + 1, 2, none⟩ (.slice Ab xb.length cb)) := ⟨_, rfl⟩
              rw [← hnw]
              have hg : W1.grownBy W2 (some (w.heap.size + 1 + 1)) := by rw [hnw]; exact (g_put (g_refl W1 (some (w.heap.size + 1 + 1))) 2 (.slice Ab xb.length cb))
              have HXq := Lib.hid (show W2.heap[w.heap.size + 1 + 1]? = some (.cells #[.slice (some ⟨bw, ow, none⟩) ch.length cw, .slice (some ⟨bs, os, none⟩) ch.length cs, .slice Ab xb.length cb, .int .i64 laid, .int .i64 lost] 77 (0, 0)) by rw [hnw]; exact blk_put (HX.out) 2 (.slice Ab xb.length cb) rfl)
              have HOLD := HX
              replace Rb := Lib.hid (R_typed_grown Rb.out hg (fun g e => by injection e with e; subst e; exact ⟨_, _, HOLD.out, by decide⟩))
              replace HK := Lib.hid (blk_grown HK.out hg (fun e => by injection e with e; exact absurd e (blk_ne HK.out HX.out (by decide))))
              replace HZ := Lib.hid (blk_grown HZ.out hg (fun e => by injection e with e; omega))
              clear HOLD
              clear HX
              have HX := HXq
              clear HXq
              replace HB := Lib.hid (HB.out.grown hg HB.out.size (fun k e => by injection e with e; have := HB.out.size; omega))
              clear hg hnw
              go_wp2
              have hst := (stepK_some (b := by_) (la := laid) (lo := lost) hlt2 (b1 := by_) (l1 := laid) (by rw [if_neg (by have := HBY.out; omega)]) (by rw [if_neg (by have := HBY.out; omega)]) wv).2.2.1 (by rw [← HNV.out]; omega)
              go_roundg g1
              case measure => omega
              case rel => exact ⟨d + 1, a, (by_ + wv), laid, lost, Ab, _, cb, xb, by first | rfl | go_num, rfl, by go_num, ⟨by have := HKK.out; omega⟩, ⟨by rw [HS.out, HDR.out, Eb.out]; simp only [knFrom, List.map_cons]; rw [hst]; simp⟩, ⟨by rw [HL.out, HDR.out]; simp only [lastK]; rw [hst]⟩, ⟨by have := congrArg List.length Eb.out; simp only [List.length_append, List.length_cons, List.length_nil] at this; refine ⟨?_, ?_, ?_, ?_, ?_, ?_, ?_, ?_⟩ <;> omega⟩, ⟨HK.out⟩, ⟨HZ.out⟩, ⟨HX.out⟩, ⟨Rb.out⟩, ⟨HB.out⟩⟩


          · skip
            have ys := (HB.out.cell (p := ⟨bs, os + d, none⟩) hbs).trans HSS.out
            go_upto_region 9 with fail
            clear ys
            clear cK_0 cK_1 cK_2 lK cZ_0 cZ_1 cZ_2 cZ_3 cZ_4 lZ cX_0 cX_1 cX_2 cX_3 cX_4 lX
            have hb : Below wr.heap.size wr wr.drew := (Below.refl _ _).drew
            have hg := g_below hb
            replace Ra := Lib.hid (R_typed_grown Ra.out hg (fun g e => by cases e))
            replace HK := Lib.hid (blk_grown HK.out hg (by simp))
            replace HZ := Lib.hid (blk_grown HZ.out hg (by simp))
            replace HX := Lib.hid (blk_grown HX.out hg (by simp))
            replace HB := Lib.hid (HB.out.trans (below_weaken hb HB.out.size))
            clear hb hg
            refine start_ (n := 12) (S := fun w' => w'.cell? ⟨w.heap.size, 0, none⟩ = some (.slice (some ⟨b0, o0, none⟩) l0.length c0) ∧ w'.cell? ⟨w.heap.size, 1, none⟩ = some (.slice A1 n1 c1) ∧ w'.cell? ⟨w.heap.size, 2, none⟩ = some (.slice A2 n2 c2) ∧ w'.cell? ⟨w.heap.size + 1 + 1, 0, none⟩ = some (.slice (some ⟨bw, ow, none⟩) ch.length cw) ∧ w'.cell? ⟨w.heap.size + 1 + 1, 1, none⟩ = some (.slice (some ⟨bs, os, none⟩) ch.length cs) ∧ w'.cell? ⟨w.heap.size + 1 + 1, 2, none⟩ = some (.slice A m c) ∧ w'.cell? ⟨w.heap.size + 1 + 1, 3, none⟩ = some (.int .i64 laid) ∧ w'.cell? ⟨w.heap.size + 1 + 1, 4, none⟩ = some (.int .i64 lost) ∧ w'.cell? ⟨b0, o0 + a * 2 + 1, none⟩ = some (.int .i64 yv)) (ds := [11]) #[false, false, false, false, false, false, false, false, false, false, false, false] (by kernel_rfl) rfl rfl ⟨(blk_cell HK.out 0).trans rfl, (blk_cell HK.out 1).trans rfl, (blk_cell HK.out 2).trans rfl, (blk_cell HX.out 0).trans rfl, (blk_cell HX.out 1).trans rfl, (blk_cell HX.out 2).trans rfl, (blk_cell HX.out 3).trans rfl, (blk_cell HX.out 4).trans rfl, (HB.out.cell (p := ⟨b0, o0 + a * 2 + 1, none⟩) hb0).trans HX1.out⟩ (fun hHeld => ?_)
            refine pu_ 0 (some 51) ?_
            refine pu_ 2 (some 53) ?_
            refine pu_ 4 (some 55) ?_
            refine pu_ 9 (some 9) ?_
            refine ta_ 1 (some 52) (s := hHeld) (y := by rintro w' ⟨s0, s1, s2, s3, s4, s5, s6, s7, s8⟩; go_simp; with_reducible rfl) (h := ?_)
            refine ta_ 3 (some 54) (s := hHeld) (y := by rintro w' ⟨s0, s1, s2, s3, s4, s5, s6, s7, s8⟩; go_simp; with_reducible rfl) (h := ?_)
            refine pu_ 5 (some 56) ?_
            refine pu_ 6 (some 57) ?_
            refine ta_ 7 (some 58) (s := hHeld) (y := by rintro w' ⟨s0, s1, s2, s3, s4, s5, s6, s7, s8⟩; go_simp; with_reducible rfl) (h := ?_)
            refine pu_ 8 (some 59) ?_
            refine pu_ 10 (some 60) ?_
            refine last_ (i := 11) (N := none) #[true, true, true, true, true, true, true, true, true, true, true, true] rfl rfl (by kernel_rfl) (by decide) (fun K hK => ?_)
            have cX_0 := (blk_cell HX.out 0).trans rfl
            have cX_1 := (blk_cell HX.out 1).trans rfl
            have cX_2 := (blk_cell HX.out 2).trans rfl
            have cX_3 := (blk_cell HX.out 3).trans rfl
            have cX_4 := (blk_cell HX.out 4).trans rfl
            have fX_0 := blk_frozen HX.out 0
            have fX_1 := blk_frozen HX.out 1
            have fX_2 := blk_frozen HX.out 2
            have fX_3 := blk_frozen HX.out 3
            have fX_4 := blk_frozen HX.out 4
            have lX := blk_lt HX.out
            refine skip_ (w1 := ?_) (by rfl) rfl ?_ ?_
            rotate_left
            · go_simp
              rfl
            refine hK.out _ _ ?_
            clear hK K
            refine done_ (by kernel_rfl) ?_

            clear cX_0 cX_1 cX_2 cX_3 cX_4 fX_0 fX_1 fX_2 fX_3 fX_4 lX
            obtain ⟨W1, hnw_⟩ : ∃ W, W = ((wr.setCell ⟨w.heap.size + 1 + 1, 4, none⟩ (.int .i64 (lost + yv)))).drew := ⟨_, rfl⟩
            rw [← hnw_]
            have hnw : W1 = (wr.drew.setCell ⟨w.heap.size + 1 + 1, 4, none⟩ (.int .i64 (lost + yv))) := hnw_.trans rfl
            clear hnw_
            have hg : wr.drew.grownBy W1 (some (w.heap.size + 1 + 1)) := by rw [hnw]; exact (g_put (g_refl wr.drew (some (w.heap.size + 1 + 1))) 4 (.int .i64 (lost + yv)))
            have HXq := Lib.hid (show W1.heap[w.heap.size + 1 + 1]? = some (.cells #[.slice (some ⟨bw, ow, none⟩) ch.length cw, .slice (some ⟨bs, os, none⟩) ch.length cs, .slice A m c, .int .i64 laid, .int .i64 (lost + yv)] 77 (0, 0)) by rw [hnw]; exact blk_put (HX.out) 4 (.int .i64 (lost + yv)) rfl)
            have HOLD := HX
            replace Ra := Lib.hid (R_typed_grown Ra.out hg (fun g e => by injection e with e; subst e; exact ⟨_, _, HOLD.out, by decide⟩))
            replace HK := Lib.hid (blk_grown HK.out hg (fun e => by injection e with e; exact absurd e (blk_ne HK.out HX.out (by decide))))
            replace HZ := Lib.hid (blk_grown HZ.out hg (fun e => by injection e with e; omega))
            clear HOLD
            clear HX
            have HX := HXq
            clear HXq
            replace HB := Lib.hid (HB.out.grown hg HB.out.size (fun k e => by injection e with e; have := HB.out.size; omega))
            clear hg hnw
            have cK_0 := (blk_cell HK.out 0).trans rfl
            have cK_1 := (blk_cell HK.out 1).trans rfl
            have cK_2 := (blk_cell HK.out 2).trans rfl
            have lK := blk_lt HK.out
            have cZ_0 := (blk_cell HZ.out 0).trans rfl
            have cZ_1 := (blk_cell HZ.out 1).trans rfl
            have cZ_2 := (blk_cell HZ.out 2).trans rfl
            have cZ_3 := (blk_cell HZ.out 3).trans rfl
            have cZ_4 := (blk_cell HZ.out 4).trans rfl
            have lZ := blk_lt HZ.out
            have cX_0 := (blk_cell HX.out 0).trans rfl
            have cX_1 := (blk_cell HX.out 1).trans rfl
            have cX_2 := (blk_cell HX.out 2).trans rfl
            have cX_3 := (blk_cell HX.out 3).trans rfl
            have cX_4 := (blk_cell HX.out 4).trans rfl
            have lX := blk_lt HX.out
            have ys := (HB.out.cell (p := ⟨bs, os + d, none⟩) hbs).trans HSS.out
            go_upto_region 14 with fail
            clear ys
            clear cK_0 cK_1 cK_2 lK cZ_0 cZ_1 cZ_2 cZ_3 cZ_4 lZ cX_0 cX_1 cX_2 cX_3 cX_4 lX
            have cK_0 := (blk_cell HK.out 0).trans rfl
            have cK_1 := (blk_cell HK.out 1).trans rfl
            have cK_2 := (blk_cell HK.out 2).trans rfl
            have lK := blk_lt HK.out
            have cZ_0 := (blk_cell HZ.out 0).trans rfl
            have cZ_1 := (blk_cell HZ.out 1).trans rfl
            have cZ_2 := (blk_cell HZ.out 2).trans rfl
            have cZ_3 := (blk_cell HZ.out 3).trans rfl
            have cZ_4 := (blk_cell HZ.out 4).trans rfl
            have lZ := blk_lt HZ.out
            have cX_0 := (blk_cell HX.out 0).trans rfl
            have cX_1 := (blk_cell HX.out 1).trans rfl
            have cX_2 := (blk_cell HX.out 2).trans rfl
            have cX_3 := (blk_cell HX.out 3).trans rfl
            have cX_4 := (blk_cell HX.out 4).trans rfl
            have fX_0 := blk_frozen HX.out 0
            have fX_1 := blk_frozen HX.out 1
            have fX_2 := blk_frozen HX.out 2
            have fX_3 := blk_frozen HX.out 3
            have fX_4 := blk_frozen HX.out 4
            have lX := blk_lt HX.out
            go_upto_region 5 with ((with_reducible refine gate_builtin (b := .append) (xs := #[.tmp 90, .tmp 92]) rfl ?_); at_builtin; refine Kd.R_append (Kd.int .i64) (w0 := w) w.heap.size rfl (.tmp 90) (.tmp 92) 45 3 (.int .i64 0) 8 rfl Tryd.underlying45 info3 rfl (by decide) (by omega) (.slice A m c) pre ((a : Int)) [.int .i64 (a : Int)] (fun _ => True) (fun _ => False) rfl rfl (rfl) (fun _ hk => hk.elim) (fun _ _ => trivial) Ra.out HB.out HB.out.size (by omega) ?_; intro vb W2 ho hb hg hat; clear cK_0 cK_1 cK_2 lK cZ_0 cZ_1 cZ_2 cZ_3 cZ_4 lZ cX_0 cX_1 cX_2 cX_3 cX_4 fX_0 fX_1 fX_2 fX_3 fX_4 lX; replace HK := Lib.hid (blk_grown HK.out hg (own_ne Ra.out HK.out (by decide))); replace HZ := Lib.hid (blk_grown HZ.out hg (own_ne Ra.out HZ.out (by decide))); replace HX := Lib.hid (blk_grown HX.out hg (own_ne Ra.out HX.out (by decide))); replace HB := Lib.hid (hb); clear Ra; obtain ⟨xb, hx_⟩ : ∃ l_, l_ = (pre ++ [(a : Int)]) := ⟨_, rfl⟩; rw [← hx_] at ho; have Eb := Lib.hid hx_; clear hx_; have Rb := Lib.hid ho; clear ho hb hg hat; obtain ⟨Ab, cb, eb⟩ := Kd.R_slice Rb.out; subst eb; have cK_0 := (blk_cell HK.out 0).trans rfl; have cK_1 := (blk_cell HK.out 1).trans rfl; have cK_2 := (blk_cell HK.out 2).trans rfl; have lK := blk_lt HK.out; have cZ_0 := (blk_cell HZ.out 0).trans rfl; have cZ_1 := (blk_cell HZ.out 1).trans rfl; have cZ_2 := (blk_cell HZ.out 2).trans rfl; have cZ_3 := (blk_cell HZ.out 3).trans rfl; have cZ_4 := (blk_cell HZ.out 4).trans rfl; have lZ := blk_lt HZ.out; have cX_0 := (blk_cell HX.out 0).trans rfl; have cX_1 := (blk_cell HX.out 1).trans rfl; have cX_2 := (blk_cell HX.out 2).trans rfl; have cX_3 := (blk_cell HX.out 3).trans rfl; have cX_4 := (blk_cell HX.out 4).trans rfl; have fX_0 := blk_frozen HX.out 0; have fX_1 := blk_frozen HX.out 1; have fX_2 := blk_frozen HX.out 2; have fX_3 := blk_frozen HX.out 3; have fX_4 := blk_frozen HX.out 4; have lX := blk_lt HX.out)
            clear cK_0 cK_1 cK_2 lK cZ_0 cZ_1 cZ_2 cZ_3 cZ_4 lZ cX_0 cX_1 cX_2 cX_3 cX_4 fX_0 fX_1 fX_2 fX_3 fX_4 lX
            obtain ⟨W3, hnw⟩ : ∃ W, W = (W2.setCell ⟨w.heap.size + 1 + 1, 2, none⟩ (.slice Ab xb.length cb)) := ⟨_, rfl⟩
            rw [← hnw]
            have hg : W2.grownBy W3 (some (w.heap.size + 1 + 1)) := by rw [hnw]; exact (g_put (g_refl W2 (some (w.heap.size + 1 + 1))) 2 (.slice Ab xb.length cb))
            have HXq := Lib.hid (show W3.heap[w.heap.size + 1 + 1]? = some (.cells #[.slice (some ⟨bw, ow, none⟩) ch.length cw, .slice (some ⟨bs, os, none⟩) ch.length cs, .slice Ab xb.length cb, .int .i64 laid, .int .i64 (lost + yv)] 77 (0, 0)) by rw [hnw]; exact blk_put (HX.out) 2 (.slice Ab xb.length cb) rfl)
            have HOLD := HX
            replace Rb := Lib.hid (R_typed_grown Rb.out hg (fun g e => by injection e with e; subst e; exact ⟨_, _, HOLD.out, by decide⟩))
            replace HK := Lib.hid (blk_grown HK.out hg (fun e => by injection e with e; exact absurd e (blk_ne HK.out HX.out (by decide))))
            replace HZ := Lib.hid (blk_grown HZ.out hg (fun e => by injection e with e; omega))
            clear HOLD
            clear HX
            have HX := HXq
            clear HXq
            replace HB := Lib.hid (HB.out.grown hg HB.out.size (fun k e => by injection e with e; have := HB.out.size; omega))
            clear hg hnw
            go_wp2
            have hst := (show stepK l0 ⟨a, by_, laid, lost⟩ 2 wv = ⟨a, -1, laid, lost + yv⟩ by have e := (stepK_some (b := by_) (la := laid) (lo := lost) hlt2 (b1 := by_) (l1 := laid) (by rw [if_neg (by have := HBY.out; omega)]) (by rw [if_neg (by have := HBY.out; omega)]) wv).1; rw [← HYV.out] at e; exact e)
            go_roundg g1
            case measure => omega
            case rel => exact ⟨d + 1, a, -1, laid, (lost + yv), Ab, _, cb, xb, by first | rfl | go_num, rfl, by go_num, ⟨by have := HKK.out; omega⟩, ⟨by rw [HS.out, HDR.out, Eb.out]; simp only [knFrom, List.map_cons]; rw [hst]; simp⟩, ⟨by rw [HL.out, HDR.out]; simp only [lastK]; rw [hst]⟩, ⟨by have := congrArg List.length Eb.out; simp only [List.length_append, List.length_cons, List.length_nil] at this; refine ⟨?_, ?_, ?_, ?_, ?_, ?_, ?_, ?_⟩ <;> omega⟩, ⟨HK.out⟩, ⟨HZ.out⟩, ⟨HX.out⟩, ⟨Rb.out⟩, ⟨HB.out⟩⟩
end Go.Proofs.YthgjedagbgmgmaaDoor.Pr
namespace Go.Proofs.YthgjedagbgmgmaaDoor.Pr
open Go.RowKit Go.Proofs.YthgjedagbgmgmaaDoorW.PrintWords Go.Proofs.YthgjedagbgmgmaaDoorW.PrintLast Go.Proofs.YthgjedagbgmgmaaDoorW.PrintMore
set_option linter.unusedVariables false
set_option linter.unusedSimpArgs false
theorem wrap_law' (n : Int) (m : Nat) (hm : 0 < m) (hm2 : m ≤ 9223372036854775807) : ∃ d : Nat, macadamref00_Wrap.f n m = some (d : Int) ∧ d < m := by
  have hmi : (0 : Int) < (m : Int) := by omega
  unfold macadamref00_Wrap.f
  rw [if_neg (by omega), if_neg (by omega)]
  have h1 := Int.tmod_lt_of_pos n hmi
  have h2 : -(m : Int) < Int.tmod n m := by
    have h := Int.tmod_lt_of_pos (-n) hmi
    rw [Int.neg_tmod] at h
    omega
  by_cases h : Int.tmod n m < 0
  · rw [if_pos h, wrap64_id (by omega) (by omega)]
    exact ⟨(Int.tmod n m + m).toNat, by congr 1; omega, by omega⟩
  · rw [if_neg h]
    exact ⟨(Int.tmod n m).toNat, by congr 1; omega, by omega⟩
theorem pick_law (l : List Int) (a : Int) (hl : l.length ≤ 9223372036854775807) : ∃ r, macadamref00_Pick.f l a = some r ∧ (0 < l.length → r ∈ l) := by
  unfold macadamref00_Pick.f
  by_cases h : l.length = 0
  · rw [if_pos (by omega)]
    exact ⟨0, rfl, fun q => by omega⟩
  · rw [if_neg (by omega)]
    obtain ⟨d, hd, hlt⟩ := wrap_law' a l.length (by omega) hl
    rw [hd]
    simp only [Option.bind_some]
    rw [if_pos (by omega), if_pos (by omega), rd_at hlt]
    exact ⟨_, rfl, fun _ => List.getElem_mem hlt⟩
theorem pick_calls {A : Option Addr} {c : Nat} {l : List Int} (a : Int) (w : World) (hr : Kd.C (Kd.int .i64) w A l.length l) (hc : l.length ≤ c) : Calls Tryd.prog 118 #[.slice A l.length c, .int .i64 a] w fun e w' => ∃ r : Int, e = .returned (.int .i64 r) ∧ (0 < l.length → r ∈ l) ∧ Below w.heap.size w w' := by
  obtain ⟨r, h1, h2⟩ := pick_law l a (by have := hr.2.1; omega)
  exact (macadamref00_Pick.calls A c l a r w hr hc h1).mono (by rintro e w' ⟨rfl, hd⟩; exact ⟨r, rfl, h2, hd.below⟩)
theorem frSp_calls {lo hi : Int} (h0 : 0 ≤ lo) (h1 : lo ≤ hi) (h2 : hi ≤ 20) (n : Int) (w : World) : Calls Tryd.prog 117 #[.agg #[.int .i64 lo, .int .i64 hi], .int .i64 n] w fun e w' => ∃ r : Int, e = .returned (.int .i64 r) ∧ (lo ≤ r ∧ r ≤ hi) ∧ Below w.heap.size w w' := by
  obtain ⟨d, hd, hlt⟩ := wrap_law' n (hi - lo + 1).toNat (by omega) (by omega)
  refine (macadamref00_From.calls lo hi n (lo + d) w ?_).mono (by rintro e w' ⟨rfl, hd⟩; exact ⟨lo + d, rfl, by omega, hd⟩)
  unfold macadamref00_From.f
  rw [wrap64_id (x := hi - lo) (by omega) (by omega), wrap64_id (x := hi - lo + 1) (by omega) (by omega), show hi - lo + 1 = (((hi - lo + 1).toNat : Nat) : Int) by omega, hd]
  simp only [Option.bind_some]
  rw [wrap64_id (by omega) (by omega)]
theorem pick_in {s r : Int} (h1 : 1 ≤ s) (h7 : s ≤ 7) (h : 0 < (allL s 3 0).length → r ∈ allL s 3 0) : 0 ≤ r ∧ r ≤ 2 ∧ hasSky s r.toNat = true := by
  have hne : 0 < (allL s 3 0).length := by
    have hs : s = 1 ∨ s = 2 ∨ s = 3 ∨ s = 4 ∨ s = 5 ∨ s = 6 ∨ s = 7 := by omega
    rcases hs with rfl | rfl | rfl | rfl | rfl | rfl | rfl <;> decide
  obtain ⟨j, rfl, _, hj, hs⟩ := (allL_mem s 3 0 r).1 (h hne)
  exact ⟨by omega, by omega, by rwa [Int.toNat_natCast]⟩
theorem day_snoc {ds : List S90} {pre : Ch} {k : Nat} {p : Int × Int} (h : ∀ i (h : i < pre.length) (h2 : i < ds.length), DayIn ds[i] pre[i]) (hk : pre.length = k) (hlt : k < ds.length) (hp : DayIn ds[k] p) : ∀ i (h : i < (pre ++ [p]).length) (h2 : i < ds.length), DayIn ds[i] (pre ++ [p])[i] := by
  intro i hi h2
  by_cases q : i < pre.length
  · rw [List.getElem_append_left q]
    exact h i q h2
  · have : i = k := by simp at hi; omega
    subst this
    rw [List.getElem_append_right (by omega)]
    simpa using hp
/-- A look that sees what is so. -/
def seenL (kb : List Int) (x : S43) : S43 := ⟨x.f0, kb.getD x.f0.toNat 0⟩
set_option maxHeartbeats 1000000 in
set_option maxRecDepth 100000 in
theorem rightly_calls (A0 A1 A2 Aw As Ab : Option Addr) (n0 n1 c0 c1 c2 nw ns cw cs cb : Nat) (la lo : Int) (l2 : List S43) (kb : List Int) (h4 : l2.length ≤ 4) (hrg : ∀ x ∈ l2, 0 ≤ x.f0 ∧ x.f0 < kb.length) (w : World) (hr2 : Kd.C k43 w A2 l2.length l2) (hrb : Kd.C (Kd.int .i64) w Ab kb.length kb) :
    Calls Tryd.prog 58 #[.agg #[.slice A0 n0 c0, .slice A1 n1 c1, .slice A2 l2.length c2], .agg #[.slice Aw nw cw, .slice As ns cs, .slice Ab kb.length cb, .int .i64 la, .int .i64 lo]] w fun e w' => ∃ A c, e = .returned (.agg #[.slice A0 n0 c0, .slice A1 n1 c1, .slice A (l2.map (seenL kb)).length c]) ∧ Kd.R k43 43 w' w.heap.size (fun _ => True) (.slice A (l2.map (seenL kb)).length c) (l2.map (seenL kb)) ∧ Below w.heap.size w w' := by
  have HAT := Lib.hid (fun (i : Nat) (hi : i < l2.length) => at43 (row43 hr2) i hi)
  have HRB := Lib.hid hrb
  have HRG := Lib.hid hrg
  clear hr2 hrb hrg
  go_enter Tryd.func58, Tryd.ntmps58
  have HB := Lib.hid (Below.refl w.heap.size w)
  go_wp2
  obtain ⟨W1, hnw⟩ : ∃ W, W = ((((w.alloc (.cells #[.slice A0 n0 c0, .slice A1 n1 c1, .slice A2 l2.length c2] 26)).alloc (.cells #[.slice Aw nw cw, .slice As ns cs, .slice Ab kb.length cb, .int .i64 la, .int .i64 lo] 77)).alloc (.cells #[.slice none 0 0, .slice none 0 0, .slice none 0 0] 26)).alloc (.cells #[.slice A0 n0 c0, .slice A1 n1 c1, .slice none 0 0] 26)) := ⟨_, rfl⟩
  rw [← hnw]
  have hg : w.grownBy W1 (none) := by rw [hnw]; exact (g_all (g_all (g_all (g_all (g_refl w (none)) (.cells #[.slice A0 n0 c0, .slice A1 n1 c1, .slice A2 l2.length c2] 26)) (.cells #[.slice Aw nw cw, .slice As ns cs, .slice Ab kb.length cb, .int .i64 la, .int .i64 lo] 77)) (.cells #[.slice none 0 0, .slice none 0 0, .slice none 0 0] 26)) (.cells #[.slice A0 n0 c0, .slice A1 n1 c1, .slice none 0 0] 26))
  have HK := Lib.hid (show W1.heap[w.heap.size]? = some (.cells #[.slice A0 n0 c0, .slice A1 n1 c1, .slice A2 l2.length c2] 26 (0, 0)) by rw [hnw]; exact blk_alloc (blk_alloc (blk_alloc (blk_at w (.cells #[.slice A0 n0 c0, .slice A1 n1 c1, .slice A2 l2.length c2] 26) _ (by simp)) (.cells #[.slice Aw nw cw, .slice As ns cs, .slice Ab kb.length cb, .int .i64 la, .int .i64 lo] 77)) (.cells #[.slice none 0 0, .slice none 0 0, .slice none 0 0] 26)) (.cells #[.slice A0 n0 c0, .slice A1 n1 c1, .slice none 0 0] 26))
  have HN := Lib.hid (show W1.heap[w.heap.size + 1]? = some (.cells #[.slice Aw nw cw, .slice As ns cs, .slice Ab kb.length cb, .int .i64 la, .int .i64 lo] 77 (0, 0)) by rw [hnw]; exact blk_alloc (blk_alloc (blk_at (w.alloc (.cells #[.slice A0 n0 c0, .slice A1 n1 c1, .slice A2 l2.length c2] 26)) (.cells #[.slice Aw nw cw, .slice As ns cs, .slice Ab kb.length cb, .int .i64 la, .int .i64 lo] 77) _ (by simp)) (.cells #[.slice none 0 0, .slice none 0 0, .slice none 0 0] 26)) (.cells #[.slice A0 n0 c0, .slice A1 n1 c1, .slice none 0 0] 26))
  have HZ := Lib.hid (show W1.heap[w.heap.size + 1 + 1]? = some (.cells #[.slice none 0 0, .slice none 0 0, .slice none 0 0] 26 (0, 0)) by rw [hnw]; exact blk_alloc (blk_at ((w.alloc (.cells #[.slice A0 n0 c0, .slice A1 n1 c1, .slice A2 l2.length c2] 26)).alloc (.cells #[.slice Aw nw cw, .slice As ns cs, .slice Ab kb.length cb, .int .i64 la, .int .i64 lo] 77)) (.cells #[.slice none 0 0, .slice none 0 0, .slice none 0 0] 26) _ (by simp)) (.cells #[.slice A0 n0 c0, .slice A1 n1 c1, .slice none 0 0] 26))
  have HX := Lib.hid (show W1.heap[w.heap.size + 1 + 1 + 1]? = some (.cells #[.slice A0 n0 c0, .slice A1 n1 c1, .slice none 0 0] 26 (0, 0)) by rw [hnw]; exact blk_at (((w.alloc (.cells #[.slice A0 n0 c0, .slice A1 n1 c1, .slice A2 l2.length c2] 26)).alloc (.cells #[.slice Aw nw cw, .slice As ns cs, .slice Ab kb.length cb, .int .i64 la, .int .i64 lo] 77)).alloc (.cells #[.slice none 0 0, .slice none 0 0, .slice none 0 0] 26)) (.cells #[.slice A0 n0 c0, .slice A1 n1 c1, .slice none 0 0] 26) _ (by simp))
  replace HB := Lib.hid (HB.out.grown hg HB.out.size (fun k e => by cases e))
  clear hg hnw
  go_loopg [6] (l2.length) (fun gk v6 wr => ∃ (k : Nat) (A : Option Addr) (m c : Nat) (pre : List S43), v6 = .int .i64 (k : Int) ∧ Aside0 (k + gk = l2.length) ∧ Aside0 (wr.heap[w.heap.size]? = some (.cells #[.slice A0 n0 c0, .slice A1 n1 c1, .slice A2 l2.length c2] 26 (0, 0))) ∧ Aside0 (wr.heap[w.heap.size + 1]? = some (.cells #[.slice Aw nw cw, .slice As ns cs, .slice Ab kb.length cb, .int .i64 la, .int .i64 lo] 77 (0, 0))) ∧ Aside0 (wr.heap[w.heap.size + 1 + 1]? = some (.cells #[.slice none 0 0, .slice none 0 0, .slice none 0 0] 26 (0, 0))) ∧ Aside0 (wr.heap[w.heap.size + 1 + 1 + 1]? = some (.cells #[.slice A0 n0 c0, .slice A1 n1 c1, .slice A m c] 26 (0, 0))) ∧ Aside0 (Kd.R k43 43 wr w.heap.size (fun _ => True) (.slice A m c) pre) ∧ Aside0 (l2.map (seenL kb) = pre ++ (l2.drop k).map (seenL kb)) ∧ Aside0 (Below w.heap.size w wr))
  case atStart => exact ⟨0, none, 0, 0, [], rfl, ⟨by omega⟩, ⟨HK.out⟩, ⟨HN.out⟩, ⟨HZ.out⟩, ⟨HX.out⟩, ⟨Kd.R_nil _ _ _ _ _⟩, ⟨rfl⟩, ⟨HB.out⟩⟩
  case round =>
    clear HB HK HN HZ HX
    obtain ⟨k, A, m, c, pre, rfl, HKK, HK, HN, HZ, HX, Ra, HS, HB⟩ := hrel
    cases gk with
    | zero =>
      have hge : ¬ k < l2.length := by have := HKK.out; omega
      have hp : l2.map (seenL kb) = pre := by rw [HS.out, List.drop_of_length_le (by omega)]; exact List.append_nil _
      have HP := Lib.hid hp
      clear hp
      have hm := (Kd.R_reads' Ra.out).1
      subst hm
      have cK_0 := (blk_cell HK.out 0).trans rfl
      have cK_1 := (blk_cell HK.out 1).trans rfl
      have cK_2 := (blk_cell HK.out 2).trans rfl
      have lK := blk_lt HK.out
      have cN_0 := (blk_cell HN.out 0).trans rfl
      have cN_1 := (blk_cell HN.out 1).trans rfl
      have cN_2 := (blk_cell HN.out 2).trans rfl
      have cN_3 := (blk_cell HN.out 3).trans rfl
      have cN_4 := (blk_cell HN.out 4).trans rfl
      have lN := blk_lt HN.out
      have cZ_0 := (blk_cell HZ.out 0).trans rfl
      have cZ_1 := (blk_cell HZ.out 1).trans rfl
      have cZ_2 := (blk_cell HZ.out 2).trans rfl
      have fZ_0 := blk_frozen HZ.out 0
      have fZ_1 := blk_frozen HZ.out 1
      have fZ_2 := blk_frozen HZ.out 2
      have lZ := blk_lt HZ.out
      have cX_0 := (blk_cell HX.out 0).trans rfl
      have cX_1 := (blk_cell HX.out 1).trans rfl
      have cX_2 := (blk_cell HX.out 2).trans rfl
      have lX := blk_lt HX.out
      go_wp2
      have hz := blk_put (blk_put (blk_put HZ.out 0 (.slice A0 n0 c0) rfl) 1 (.slice A1 n1 c1) rfl) 2 (.slice A pre.length c) rfl
      have hg := g_put (g_put (g_put (g_refl wr (some (w.heap.size + 1 + 1))) 0 (.slice A0 n0 c0)) 1 (.slice A1 n1 c1)) 2 (.slice A pre.length c)
      have hR := R_typed_grown Ra.out hg (fun g e => by injection e with e; subst e; exact ⟨_, _, HZ.out, by decide⟩)
      rw [HP.out]
      refine bodyPost_ret (results_cell_row rfl _ _ (w.heap.size + 1 + 1) 26 #[.slice A0 n0 c0, .slice A1 n1 c1, .slice A pre.length c] (0, 0) _ rfl hz Tryd.underlying26 rfl (by kernel_rfl)) rfl ⟨A, c, rfl, hR, ?_⟩
      exact HB.out.grown hg HB.out.size (fun k e => by injection e with e; have := HB.out.size; omega)

    | succ g1 =>
      have hlt : k < l2.length := by have := HKK.out; omega
      have hpl : pre.length ≤ l2.length := by have := congrArg List.length HS.out; rw [List.length_append] at this; simp only [List.length_map] at this; omega
      obtain ⟨b, o, eA, hbl, hx0, _⟩ := HAT.out k hlt
      obtain ⟨lx, hlx⟩ : ∃ x, x = l2[k] := ⟨_, rfl⟩
      have hrange := HRG.out lx (by rw [hlx]; exact List.getElem_mem hlt)
      rw [← hlx] at hx0
      have hdr : l2.drop k = lx :: l2.drop (k + 1) := by rw [List.drop_eq_getElem_cons hlt, hlx]
      have HDR := Lib.hid hdr
      have HX0 := Lib.hid hx0
      obtain ⟨dn, hdn⟩ : ∃ n : Nat, lx.f0 = (n : Int) := ⟨lx.f0.toNat, by omega⟩
      have hdb : dn < kb.length := by omega
      obtain ⟨bb, ob, eB, hbb, hy0⟩ := cell_int HRB.out (i := dn) hdb
      obtain ⟨bv, hbv⟩ : ∃ x, x = kb[dn] := ⟨_, rfl⟩
      rw [← hbv] at hy0
      have HY0 := Lib.hid hy0
      have hsee : seenL kb lx = ⟨(dn : Int), bv⟩ := by unfold seenL; rw [hdn, Int.toNat_natCast, List.getD_eq_getElem?_getD, List.getElem?_eq_getElem hdb, hbv]; rfl
      have HSEE := Lib.hid hsee
      rw [hdn] at HX0
      subst eA eB
      clear hlx hx0 hy0 hdr hsee hbv hdn hrange
      have cK_0 := (blk_cell HK.out 0).trans rfl
      have cK_1 := (blk_cell HK.out 1).trans rfl
      have cK_2 := (blk_cell HK.out 2).trans rfl
      have lK := blk_lt HK.out
      have cN_0 := (blk_cell HN.out 0).trans rfl
      have cN_1 := (blk_cell HN.out 1).trans rfl
      have cN_2 := (blk_cell HN.out 2).trans rfl
      have cN_3 := (blk_cell HN.out 3).trans rfl
      have cN_4 := (blk_cell HN.out 4).trans rfl
      have lN := blk_lt HN.out
      have cZ_0 := (blk_cell HZ.out 0).trans rfl
      have cZ_1 := (blk_cell HZ.out 1).trans rfl
      have cZ_2 := (blk_cell HZ.out 2).trans rfl
      have lZ := blk_lt HZ.out
      have cX_0 := (blk_cell HX.out 0).trans rfl
      have cX_1 := (blk_cell HX.out 1).trans rfl
      have cX_2 := (blk_cell HX.out 2).trans rfl
      have lX := blk_lt HX.out
      have yx := (HB.out.cell (p := ⟨b, o + k * 2, none⟩) hbl).trans HX0.out
      go_upto_region 7 with fail
      clear yx
      clear cK_0 cK_1 cK_2 lK cN_0 cN_1 cN_2 cN_3 cN_4 lN cZ_0 cZ_1 cZ_2 lZ cX_0 cX_1 cX_2 lX
      have hb : Below wr.heap.size wr wr.drew := (Below.refl _ _).drew
      have hg := g_below hb
      replace Ra := Lib.hid (R_typed_grown Ra.out hg (fun g e => by cases e))
      replace HK := Lib.hid (blk_grown HK.out hg (by simp))
      replace HN := Lib.hid (blk_grown HN.out hg (by simp))
      replace HZ := Lib.hid (blk_grown HZ.out hg (by simp))
      replace HX := Lib.hid (blk_grown HX.out hg (by simp))
      replace HB := Lib.hid (HB.out.trans (below_weaken hb HB.out.size))
      clear hb hg
      refine start_ (n := 13) (S := fun w' => w'.cell? ⟨w.heap.size, 0, none⟩ = some (.slice A0 n0 c0) ∧ w'.cell? ⟨w.heap.size, 1, none⟩ = some (.slice A1 n1 c1) ∧ w'.cell? ⟨w.heap.size, 2, none⟩ = some (.slice (some ⟨b, o, none⟩) l2.length c2) ∧ w'.cell? ⟨w.heap.size + 1, 0, none⟩ = some (.slice Aw nw cw) ∧ w'.cell? ⟨w.heap.size + 1, 1, none⟩ = some (.slice As ns cs) ∧ w'.cell? ⟨w.heap.size + 1, 2, none⟩ = some (.slice (some ⟨bb, ob, none⟩) kb.length cb) ∧ w'.cell? ⟨w.heap.size + 1, 3, none⟩ = some (.int .i64 la) ∧ w'.cell? ⟨w.heap.size + 1, 4, none⟩ = some (.int .i64 lo) ∧ w'.cell? ⟨w.heap.size + 1 + 1, 0, none⟩ = some (.slice none 0 0) ∧ w'.cell? ⟨w.heap.size + 1 + 1, 1, none⟩ = some (.slice none 0 0) ∧ w'.cell? ⟨w.heap.size + 1 + 1, 2, none⟩ = some (.slice none 0 0) ∧ w'.cell? ⟨w.heap.size + 1 + 1 + 1, 0, none⟩ = some (.slice A0 n0 c0) ∧ w'.cell? ⟨w.heap.size + 1 + 1 + 1, 1, none⟩ = some (.slice A1 n1 c1) ∧ w'.cell? ⟨w.heap.size + 1 + 1 + 1, 2, none⟩ = some (.slice A m c) ∧ w'.cell? ⟨bb, ob + dn, none⟩ = some (.int .i64 bv)) (ds := [12]) #[false, false, false, false, false, false, false, false, false, false, false, false, false] (by kernel_rfl) rfl rfl ⟨(blk_cell HK.out 0).trans rfl, (blk_cell HK.out 1).trans rfl, (blk_cell HK.out 2).trans rfl, (blk_cell HN.out 0).trans rfl, (blk_cell HN.out 1).trans rfl, (blk_cell HN.out 2).trans rfl, (blk_cell HN.out 3).trans rfl, (blk_cell HN.out 4).trans rfl, (blk_cell HZ.out 0).trans rfl, (blk_cell HZ.out 1).trans rfl, (blk_cell HZ.out 2).trans rfl, (blk_cell HX.out 0).trans rfl, (blk_cell HX.out 1).trans rfl, (blk_cell HX.out 2).trans rfl, (HB.out.cell (p := ⟨bb, ob + dn, none⟩) hbb).trans HY0.out⟩ (fun hHeld => ?_)
      refine pu_ 0 (some 23) ?_
      refine pu_ 2 (some 25) ?_
      refine pu_ 3 (some 26) ?_
      refine pu_ 5 (some 28) ?_
      refine ta_ 1 (some 24) (s := hHeld) (y := by rintro w' ⟨s0, s1, s2, s3, s4, s5, s6, s7, s8, s9, s10, s11, s12, s13, s14⟩; go_simp; with_reducible rfl) (h := ?_)
      refine ta_ 4 (some 27) (s := hHeld) (y := by rintro w' ⟨s0, s1, s2, s3, s4, s5, s6, s7, s8, s9, s10, s11, s12, s13, s14⟩; go_simp; with_reducible rfl) (h := ?_)
      refine pu_ 6 (some 29) ?_
      refine ta_ 7 (some 30) (s := hHeld) (y := by rintro w' ⟨s0, s1, s2, s3, s4, s5, s6, s7, s8, s9, s10, s11, s12, s13, s14⟩; go_simp; with_reducible rfl) (h := ?_)
      refine pu_ 8 (some 31) ?_
      refine one_ (i := 9) (N := some 32) #[true, true, true, true, true, true, true, true, true, true, false, false, false] rfl rfl (by kernel_rfl) (by decide) (fun K hK => ?_)
      refine Kd.R_lit_step k43 (w0 := w) (w.heap.size) 43 (by rfl) rfl (xs := ([⟨(dn : Int), bv⟩] : List S43)) (inner := [.int .i64 (dn : Int), .int .i64 bv]) (ok := fun _ => True) (okp := fun _ => True) ?hr_ ?hp_ (fun _ hk => hk) trivial HB.out HB.out.size (by simp) ?_
      (case hr_ => first | (go_simp; done) | (go_simp; rfl))
      (case hp_ => exact (reps_lone rfl (k43_mkM _ _ _ ⟨(dn : Int), bv⟩)))
      intro ve W1 ho hb hg hnew_
      have Pa_e := Lib.hid (sep_new Ra.out hnew_)
      have Pe_a := Lib.hid (sep_sym Pa_e.out)
      clear hnew_
      replace Ra := Lib.hid (R_typed_grown Ra.out hg (fun g e => by cases e))
      replace HK := Lib.hid (blk_grown HK.out hg (by simp))
      replace HN := Lib.hid (blk_grown HN.out hg (by simp))
      replace HZ := Lib.hid (blk_grown HZ.out hg (by simp))
      replace HX := Lib.hid (blk_grown HX.out hg (by simp))
      replace HB := Lib.hid (hb)
      have Re := Lib.hid ho
      clear ho hb hg
      refine hK.out _ _ ⟨(blk_cell HK.out 0).trans rfl, (blk_cell HK.out 1).trans rfl, (blk_cell HK.out 2).trans rfl, (blk_cell HN.out 0).trans rfl, (blk_cell HN.out 1).trans rfl, (blk_cell HN.out 2).trans rfl, (blk_cell HN.out 3).trans rfl, (blk_cell HN.out 4).trans rfl, (blk_cell HZ.out 0).trans rfl, (blk_cell HZ.out 1).trans rfl, (blk_cell HZ.out 2).trans rfl, (blk_cell HX.out 0).trans rfl, (blk_cell HX.out 1).trans rfl, (blk_cell HX.out 2).trans rfl, (HB.out.cell (p := ⟨bb, ob + dn, none⟩) hbb).trans HY0.out⟩ (fun hHeld => ?_)
      clear hK K
      refine no_ 32 ?_
      refine one_ (i := 10) (N := some 33) #[true, true, true, true, true, true, true, true, true, true, true, false, false] rfl rfl (by kernel_rfl) (by decide) (fun K hK => ?_)
      obtain ⟨Ay_, cy_, ey_⟩ := Kd.R_slice Re.out
      subst ey_
      refine Kd.R_append_rows_step k43 (w0 := w) (w.heap.size) (by rfl) (.tmp 24) (.tmp 32) 24 43 (.agg #[.int .i64 0, .int .i64 0]) 16 rfl Tryd.underlying24 info43 rfl (by decide) (by omega) (.slice A m c) pre [⟨(dn : Int), bv⟩] _ _ _ (fun _ => True) (fun _ => False) rfl rfl Ra.out ((Kd.R_reads' Re.out).2.2) (fun x_ cs_ h_ => by rw [k43_open h_]; exact k43_mkM _ _ _ _) (fun _ h => h.elim) (fun _ _ => trivial) HB.out HB.out.size (by simp only [List.length_cons, List.length_nil]; omega) ?_
      intro vb W2 ho hb hg hat
      replace HK := Lib.hid (blk_grown HK.out hg (own_ne Ra.out HK.out (by decide)))
      replace HN := Lib.hid (blk_grown HN.out hg (own_ne Ra.out HN.out (by decide)))
      replace HZ := Lib.hid (blk_grown HZ.out hg (own_ne Ra.out HZ.out (by decide)))
      replace HX := Lib.hid (blk_grown HX.out hg (own_ne Ra.out HX.out (by decide)))
      replace HB := Lib.hid (hb)
      clear Ra Re
      obtain ⟨xb, hx_⟩ : ∃ l_, l_ = (pre ++ [⟨(dn : Int), bv⟩]) := ⟨_, rfl⟩
      rw [← hx_] at ho
      have Eb := Lib.hid hx_
      clear hx_
      have Rb : Hid (Kd.R k43 43 W2 (w.heap.size) (fun _ => True) vb (xb)) := Lib.hid (by first | exact ho | simpa using ho | (rw [HLM.out]; simpa using ho))
      clear ho hb hg hat
      obtain ⟨Ab1, cb1, eb⟩ := Kd.R_slice Rb.out
      subst eb
      refine hK.out _ _ ⟨(blk_cell HK.out 0).trans rfl, (blk_cell HK.out 1).trans rfl, (blk_cell HK.out 2).trans rfl, (blk_cell HN.out 0).trans rfl, (blk_cell HN.out 1).trans rfl, (blk_cell HN.out 2).trans rfl, (blk_cell HN.out 3).trans rfl, (blk_cell HN.out 4).trans rfl, (blk_cell HZ.out 0).trans rfl, (blk_cell HZ.out 1).trans rfl, (blk_cell HZ.out 2).trans rfl, (blk_cell HX.out 0).trans rfl, (blk_cell HX.out 1).trans rfl, (blk_cell HX.out 2).trans rfl, (HB.out.cell (p := ⟨bb, ob + dn, none⟩) hbb).trans HY0.out⟩ (fun hHeld => ?_)
      clear hK K
      refine no_ 33 ?_
      refine pu_ 11 (some 34) ?_
      refine last_ (i := 12) (N := none) #[true, true, true, true, true, true, true, true, true, true, true, true, true] rfl rfl (by kernel_rfl) (by decide) (fun K hK => ?_)
      have cX_0 := (blk_cell HX.out 0).trans rfl
      have cX_1 := (blk_cell HX.out 1).trans rfl
      have cX_2 := (blk_cell HX.out 2).trans rfl
      have fX_0 := blk_frozen HX.out 0
      have fX_1 := blk_frozen HX.out 1
      have fX_2 := blk_frozen HX.out 2
      have lX := blk_lt HX.out
      refine skip_ (w1 := ?_) (by rfl) rfl ?_ ?_
      rotate_left
      · go_simp
        rfl
      refine hK.out _ _ ?_
      clear hK K
      refine done_ (by kernel_rfl) ?_

      clear cX_0 cX_1 cX_2 fX_0 fX_1 fX_2 lX
      obtain ⟨W3, hnw⟩ : ∃ W, W = (W2.setCell ⟨w.heap.size + 1 + 1 + 1, 2, none⟩ (.slice Ab1 xb.length cb1)) := ⟨_, rfl⟩
      rw [← hnw]
      have hg : W2.grownBy W3 (some (w.heap.size + 1 + 1 + 1)) := by rw [hnw]; exact (g_put (g_refl W2 (some (w.heap.size + 1 + 1 + 1))) 2 (.slice Ab1 xb.length cb1))
      have HXq := Lib.hid (show W3.heap[w.heap.size + 1 + 1 + 1]? = some (.cells #[.slice A0 n0 c0, .slice A1 n1 c1, .slice Ab1 xb.length cb1] 26 (0, 0)) by rw [hnw]; exact blk_put (HX.out) 2 (.slice Ab1 xb.length cb1) rfl)
      have HOLD := HX
      replace Rb := Lib.hid (R_typed_grown Rb.out hg (fun g e => by injection e with e; subst e; exact ⟨_, _, HOLD.out, by decide⟩))
      replace HK := Lib.hid (blk_grown HK.out hg (fun e => by injection e with e; omega))
      replace HN := Lib.hid (blk_grown HN.out hg (fun e => by injection e with e; exact absurd e (blk_ne HN.out HX.out (by decide))))
      replace HZ := Lib.hid (blk_grown HZ.out hg (fun e => by injection e with e; omega))
      clear HOLD
      clear HX
      have HX := HXq
      clear HXq
      replace HB := Lib.hid (HB.out.grown hg HB.out.size (fun k e => by injection e with e; have := HB.out.size; omega))
      clear hg hnw
      go_wp2
      go_roundg g1
      case measure => omega
      case rel => exact ⟨k + 1, Ab1, _, cb1, xb, by go_num, ⟨by have := HKK.out; omega⟩, ⟨HK.out⟩, ⟨HN.out⟩, ⟨HZ.out⟩, ⟨HX.out⟩, ⟨Rb.out⟩, ⟨by rw [Eb.out, HS.out, HDR.out, List.map_cons, HSEE.out]; simp⟩, ⟨HB.out⟩⟩
set_option maxHeartbeats 1000000 in
set_option maxRecDepth 100000 in
theorem truly_calls (A0 A1 A2 Ab : Option Addr) (c0 c1 n2 c2 cb : Nat) (l0 : List S92) (l1 : List S90) (ks : List S43) (bl : List Int) (hok : okBook l0 l1 ks = true) (w : World) (hr0 : Kd.C k92 w A0 l0.length l0) (hr1 : Kd.C k90 w A1 l1.length l1) (hrb : Kd.C (Kd.int .i64) w Ab bl.length bl) (hcb : bl.length ≤ cb) :
    Calls Tryd.prog 57 #[.agg #[.slice A0 l0.length c0, .slice A1 l1.length c1, .slice A2 n2 c2], .slice Ab bl.length cb] w fun e w' => ∃ ch, OkCh l1 ch ∧ ∃ Aw cw As cs A c, e = .returned (.agg #[.slice Aw ch.length cw, .slice As ch.length cs, .slice A (boundsK l0 ch).length c, .int .i64 (lastK l0 ch kn0).laid, .int .i64 (lastK l0 ch kn0).lost]) ∧ Kd.R (Kd.int .i64) 3 w' w.heap.size (fun _ => True) (.slice Aw ch.length cw) (ch.map (·.1)) ∧ Kd.R (Kd.int .i64) 3 w' w.heap.size (fun _ => True) (.slice As ch.length cs) (ch.map (·.2)) ∧ Kd.R (Kd.int .i64) 3 w' w.heap.size (fun _ => True) (.slice A (boundsK l0 ch).length c) (boundsK l0 ch) ∧ Below w.heap.size w w' := by
  obtain ⟨o1, o2, o3, o4, _, o6, o7⟩ := ok_facts hok
  have HAT := Lib.hid (fun (i : Nat) (hi : i < l1.length) => at90 (row90 hr1) i hi)
  have HRB := Lib.hid hrb
  have HDB : Hid (∀ k (h : k < l1.length), 0 ≤ l1[k].f0.f0 ∧ l1[k].f0.f0 ≤ l1[k].f0.f1 ∧ l1[k].f0.f1 ≤ 20 ∧ 1 ≤ l1[k].f1 ∧ l1[k].f1 ≤ 7) := Lib.hid fun k h => by
    have := (okBook_parts hok).2.2.2.2.1 _ (List.getElem_mem h)
    unfold okDay at this
    simp only [Bool.and_eq_true, decide_eq_true_eq] at this
    exact ⟨this.1.1, this.1.2.1, this.1.2.2.1, this.2⟩
  have HRUN := Lib.hid (fun (W : World) (c : Ch) (Aw As : Option Addr) (cw cs : Nat) (hc : OkCh l1 c) (hW : Below w.heap.size w W) h1 h2 => run_calls A0 A1 A2 Aw As c0 l1.length c1 n2 c2 cw cs l0 c W (Kd.C_below hr0 hW) o2 (fun i hi => o7 _ (List.getElem_mem hi)) (okCh_all hok hc).1 (okCh_all hok hc).2 h1 h2)
  clear hr0 hr1 hrb o6 o7 hok
  go_enter Tryd.func57, Tryd.ntmps57
  have HB := Lib.hid (Below.refl w.heap.size w)
  go_wp2
  obtain ⟨W1, hnw⟩ : ∃ W, W = (((w.alloc (.cells #[.slice A0 l0.length c0, .slice A1 l1.length c1, .slice A2 n2 c2] 26)).alloc (.cells #[.slice none 0 0, .slice none 0 0, .slice none 0 0, .int .i64 0, .int .i64 0] 77)).alloc (.cells #[.slice none 0 0, .slice none 0 0, .slice none 0 0, .int .i64 0, .int .i64 0] 77)) := ⟨_, rfl⟩
  rw [← hnw]
  have hg : w.grownBy W1 (none) := by rw [hnw]; exact (g_all (g_all (g_all (g_refl w (none)) (.cells #[.slice A0 l0.length c0, .slice A1 l1.length c1, .slice A2 n2 c2] 26)) (.cells #[.slice none 0 0, .slice none 0 0, .slice none 0 0, .int .i64 0, .int .i64 0] 77)) (.cells #[.slice none 0 0, .slice none 0 0, .slice none 0 0, .int .i64 0, .int .i64 0] 77))
  have HK := Lib.hid (show W1.heap[w.heap.size]? = some (.cells #[.slice A0 l0.length c0, .slice A1 l1.length c1, .slice A2 n2 c2] 26 (0, 0)) by rw [hnw]; exact blk_alloc (blk_alloc (blk_at w (.cells #[.slice A0 l0.length c0, .slice A1 l1.length c1, .slice A2 n2 c2] 26) _ (by simp)) (.cells #[.slice none 0 0, .slice none 0 0, .slice none 0 0, .int .i64 0, .int .i64 0] 77)) (.cells #[.slice none 0 0, .slice none 0 0, .slice none 0 0, .int .i64 0, .int .i64 0] 77))
  have HZ := Lib.hid (show W1.heap[w.heap.size + 1]? = some (.cells #[.slice none 0 0, .slice none 0 0, .slice none 0 0, .int .i64 0, .int .i64 0] 77 (0, 0)) by rw [hnw]; exact blk_alloc (blk_at (w.alloc (.cells #[.slice A0 l0.length c0, .slice A1 l1.length c1, .slice A2 n2 c2] 26)) (.cells #[.slice none 0 0, .slice none 0 0, .slice none 0 0, .int .i64 0, .int .i64 0] 77) _ (by simp)) (.cells #[.slice none 0 0, .slice none 0 0, .slice none 0 0, .int .i64 0, .int .i64 0] 77))
  have HX := Lib.hid (show W1.heap[w.heap.size + 1 + 1]? = some (.cells #[.slice none 0 0, .slice none 0 0, .slice none 0 0, .int .i64 0, .int .i64 0] 77 (0, 0)) by rw [hnw]; exact blk_at ((w.alloc (.cells #[.slice A0 l0.length c0, .slice A1 l1.length c1, .slice A2 n2 c2] 26)).alloc (.cells #[.slice none 0 0, .slice none 0 0, .slice none 0 0, .int .i64 0, .int .i64 0] 77)) (.cells #[.slice none 0 0, .slice none 0 0, .slice none 0 0, .int .i64 0, .int .i64 0] 77) _ (by simp))
  replace HB := Lib.hid (HB.out.grown hg HB.out.size (fun k e => by cases e))
  clear hg hnw
  go_loopg [6] (l1.length) (fun gk v6 wr => ∃ (k : Nat) (Aw As : Option Addr) (mw cw ms cs : Nat) (wl sl : List Int) (pre : Ch), v6 = .int .i64 (k : Int) ∧ Aside0 (k + gk = l1.length) ∧ Aside0 (pre.length = k ∧ wl = pre.map (·.1) ∧ sl = pre.map (·.2) ∧ ∀ i (h : i < pre.length) (h2 : i < l1.length), DayIn l1[i] pre[i]) ∧ Aside0 (wr.heap[w.heap.size]? = some (.cells #[.slice A0 l0.length c0, .slice A1 l1.length c1, .slice A2 n2 c2] 26 (0, 0))) ∧ Aside0 (wr.heap[w.heap.size + 1]? = some (.cells #[.slice none 0 0, .slice none 0 0, .slice none 0 0, .int .i64 0, .int .i64 0] 77 (0, 0))) ∧ Aside0 (wr.heap[w.heap.size + 1 + 1]? = some (.cells #[.slice Aw mw cw, .slice As ms cs, .slice none 0 0, .int .i64 0, .int .i64 0] 77 (0, 0))) ∧ Aside0 (Kd.R (Kd.int .i64) 3 wr w.heap.size (fun _ => True) (.slice Aw mw cw) wl) ∧ Aside0 (Kd.R (Kd.int .i64) 3 wr w.heap.size (fun _ => True) (.slice As ms cs) sl) ∧ Aside0 (∀ k, (Value.slice Aw mw cw).ownBlock = some k → (Value.slice As ms cs).ownBlock ≠ some k) ∧ Aside0 (Below w.heap.size w wr))
  case atStart => exact ⟨0, none, none, 0, 0, 0, 0, [], [], [], rfl, ⟨by omega⟩, ⟨rfl, rfl, rfl, fun i h => absurd h (by simp)⟩, ⟨HK.out⟩, ⟨HZ.out⟩, ⟨HX.out⟩, ⟨Kd.R_nil _ _ _ _ _⟩, ⟨Kd.R_nil _ _ _ _ _⟩, ⟨fun k hk => by simp [Value.ownBlock] at hk⟩, ⟨HB.out⟩⟩
  case round =>
    clear HB HK HZ HX
    obtain ⟨k, Aw, As, mw, cw, ms, cs, wl, sl, pre, rfl, HKK, HPR, HK, HZ, HX, Ra, Rb, Pa_b, HB⟩ := hrel
    cases gk with
    | zero =>
      have hge : ¬ k < l1.length := by have := HKK.out; omega
      have hkl : k = l1.length := by have := HKK.out; omega
      have Ea : mw = wl.length := (Kd.R_reads' Ra.out).1
      have Eb : ms = sl.length := (Kd.R_reads' Rb.out).1
      obtain ⟨p1, p2, p3, p4⟩ := HPR.out
      have ha : mw = pre.length := by rw [Ea, p2, List.length_map]
      have hb_ : ms = pre.length := by rw [Eb, p3, List.length_map]
      clear Ea Eb
      subst p2 p3 ha hb_
      have HOK : Hid (OkCh l1 pre) := Lib.hid ⟨p1.trans hkl, p4⟩
      clear p1 p4 HPR hkl Pa_b
      have cK_0 := (blk_cell HK.out 0).trans rfl
      have cK_1 := (blk_cell HK.out 1).trans rfl
      have cK_2 := (blk_cell HK.out 2).trans rfl
      have lK := blk_lt HK.out
      have cZ_0 := (blk_cell HZ.out 0).trans rfl
      have cZ_1 := (blk_cell HZ.out 1).trans rfl
      have cZ_2 := (blk_cell HZ.out 2).trans rfl
      have cZ_3 := (blk_cell HZ.out 3).trans rfl
      have cZ_4 := (blk_cell HZ.out 4).trans rfl
      have lZ := blk_lt HZ.out
      have cX_0 := (blk_cell HX.out 0).trans rfl
      have cX_1 := (blk_cell HX.out 1).trans rfl
      have cX_2 := (blk_cell HX.out 2).trans rfl
      have cX_3 := (blk_cell HX.out 3).trans rfl
      have cX_4 := (blk_cell HX.out 4).trans rfl
      have lX := blk_lt HX.out
      go_wp2_with fail
      clear cK_0 cK_1 cK_2 lK cZ_0 cZ_1 cZ_2 cZ_3 cZ_4 lZ cX_0 cX_1 cX_2 cX_3 cX_4 lX
      refine (HRUN.out _ pre Aw As cw cs HOK.out HB.out (Kd.R_reads' Ra.out).2.2 (Kd.R_reads' Rb.out).2.2).mono ?_
      rintro e W1 ⟨A9, c9, rfl, h91, hb⟩
      have R9 := Lib.hid (Kd.R_lower h91 HB.out.size)
      clear h91
      have hg := g_below hb
      replace Ra := Lib.hid (R_typed_grown Ra.out hg (fun g e => by cases e))
      replace Rb := Lib.hid (R_typed_grown Rb.out hg (fun g e => by cases e))
      replace HK := Lib.hid (blk_grown HK.out hg (by simp))
      replace HZ := Lib.hid (blk_grown HZ.out hg (by simp))
      replace HX := Lib.hid (blk_grown HX.out hg (by simp))
      replace HB := Lib.hid (HB.out.trans (below_weaken hb HB.out.size))
      clear hb hg
      have cK_0 := (blk_cell HK.out 0).trans rfl
      have cK_1 := (blk_cell HK.out 1).trans rfl
      have cK_2 := (blk_cell HK.out 2).trans rfl
      have lK := blk_lt HK.out
      have cZ_0 := (blk_cell HZ.out 0).trans rfl
      have cZ_1 := (blk_cell HZ.out 1).trans rfl
      have cZ_2 := (blk_cell HZ.out 2).trans rfl
      have cZ_3 := (blk_cell HZ.out 3).trans rfl
      have cZ_4 := (blk_cell HZ.out 4).trans rfl
      have fZ_0 := blk_frozen HZ.out 0
      have fZ_1 := blk_frozen HZ.out 1
      have fZ_2 := blk_frozen HZ.out 2
      have fZ_3 := blk_frozen HZ.out 3
      have fZ_4 := blk_frozen HZ.out 4
      have lZ := blk_lt HZ.out
      have cX_0 := (blk_cell HX.out 0).trans rfl
      have cX_1 := (blk_cell HX.out 1).trans rfl
      have cX_2 := (blk_cell HX.out 2).trans rfl
      have cX_3 := (blk_cell HX.out 3).trans rfl
      have cX_4 := (blk_cell HX.out 4).trans rfl
      have lX := blk_lt HX.out
      go_wp2
      have hz := (blk_put (blk_put (blk_put (blk_put (blk_put HZ.out 0 (.slice Aw pre.length cw) rfl) 1 (.slice As pre.length cs) rfl) 2 (.slice A9 (boundsK l0 pre).length c9) rfl) 3 (.int .i64 (lastK l0 pre kn0).laid) rfl) 4 (.int .i64 (lastK l0 pre kn0).lost) rfl)
      have hg := (g_put (g_put (g_put (g_put (g_put (g_refl W1 (some (w.heap.size + 1))) 0 (.slice Aw pre.length cw)) 1 (.slice As pre.length cs)) 2 (.slice A9 (boundsK l0 pre).length c9)) 3 (.int .i64 (lastK l0 pre kn0).laid)) 4 (.int .i64 (lastK l0 pre kn0).lost))
      have ty : ∀ g', some (w.heap.size + 1) = some g' → ∃ cells t, W1.heap[g']? = some (.cells cells t (0, 0)) ∧ ∀ q, q ∈ 3 :: (Kd.int .i64).E → q ≠ t := fun g' e => by injection e with e; subst e; exact ⟨_, _, HZ.out, by decide⟩
      have hr1 := R_typed_grown Ra.out hg ty
      have hr2 := R_typed_grown Rb.out hg ty
      have hr9 := R_typed_grown R9.out hg ty
      refine bodyPost_ret (results_cell_row rfl _ _ (w.heap.size + 1) 77 #[.slice Aw pre.length cw, .slice As pre.length cs, .slice A9 (boundsK l0 pre).length c9, .int .i64 (lastK l0 pre kn0).laid, .int .i64 (lastK l0 pre kn0).lost] (0, 0) _ rfl hz Tryd.underlying77 rfl (by kernel_rfl)) rfl ⟨pre, HOK.out, Aw, cw, As, cs, A9, c9, rfl, hr1, hr2, hr9, ?_⟩
      exact HB.out.grown hg HB.out.size (fun k e => by injection e with e; have := HB.out.size; omega)

    | succ g1 =>
      have hlt : k < l1.length := by have := HKK.out; omega
      have hk5 : k < 5 := by omega
      have Pb_a := Lib.hid (sep_sym Pa_b.out)
      obtain ⟨b, o, eA, hbl, hx0, hx1, hx2⟩ := HAT.out k hlt
      obtain ⟨lo, hlo⟩ : ∃ x, x = l1[k].f0.f0 := ⟨_, rfl⟩
      obtain ⟨hi, hhi⟩ : ∃ x, x = l1[k].f0.f1 := ⟨_, rfl⟩
      obtain ⟨sky, hsk⟩ : ∃ x, x = l1[k].f1 := ⟨_, rfl⟩
      obtain ⟨d1, d2, d3, d4, d5⟩ := HDB.out k hlt
      rw [← hlo] at hx0 d1 d2
      rw [← hhi] at hx1 d2 d3
      rw [← hsk] at hx2 d4 d5
      have HX0 := Lib.hid hx0
      have HX1 := Lib.hid hx1
      have HX2 := Lib.hid hx2
      have HLH := Lib.hid (And.intro hlo (And.intro hhi hsk))
      have hwl : wl.length ≤ 5 := by have := HPR.out; rw [this.2.1, List.length_map]; omega
      have hsl : sl.length ≤ 5 := by have := HPR.out; rw [this.2.2.1, List.length_map]; omega
      have hk1 : IntKind.i64.wrap ((k : Int) + 1) = (k : Int) + 1 := IntWalk.i64_in _ (by omega)
      subst eA
      clear hlo hhi hsk hx0 hx1 hx2
      have cK_0 := (blk_cell HK.out 0).trans rfl
      have cK_1 := (blk_cell HK.out 1).trans rfl
      have cK_2 := (blk_cell HK.out 2).trans rfl
      have lK := blk_lt HK.out
      have cZ_0 := (blk_cell HZ.out 0).trans rfl
      have cZ_1 := (blk_cell HZ.out 1).trans rfl
      have cZ_2 := (blk_cell HZ.out 2).trans rfl
      have cZ_3 := (blk_cell HZ.out 3).trans rfl
      have cZ_4 := (blk_cell HZ.out 4).trans rfl
      have lZ := blk_lt HZ.out
      have cX_0 := (blk_cell HX.out 0).trans rfl
      have cX_1 := (blk_cell HX.out 1).trans rfl
      have cX_2 := (blk_cell HX.out 2).trans rfl
      have cX_3 := (blk_cell HX.out 3).trans rfl
      have cX_4 := (blk_cell HX.out 4).trans rfl
      have lX := blk_lt HX.out
      go_upto_region 5 with fail
      clear cK_0 cK_1 cK_2 lK cZ_0 cZ_1 cZ_2 cZ_3 cZ_4 lZ cX_0 cX_1 cX_2 cX_3 cX_4 lX
      have hb : Below wr.heap.size wr wr.drew := (Below.refl _ _).drew
      have hg := g_below hb
      replace Ra := Lib.hid (R_typed_grown Ra.out hg (fun g e => by cases e))
      replace Rb := Lib.hid (R_typed_grown Rb.out hg (fun g e => by cases e))
      replace HK := Lib.hid (blk_grown HK.out hg (by simp))
      replace HZ := Lib.hid (blk_grown HZ.out hg (by simp))
      replace HX := Lib.hid (blk_grown HX.out hg (by simp))
      replace HB := Lib.hid (HB.out.trans (below_weaken hb HB.out.size))
      clear hb hg
      refine start_ (n := 16) (S := fun w' => w'.cell? ⟨w.heap.size, 0, none⟩ = some (.slice A0 l0.length c0) ∧ w'.cell? ⟨w.heap.size, 1, none⟩ = some (.slice (some ⟨b, o, none⟩) l1.length c1) ∧ w'.cell? ⟨w.heap.size, 2, none⟩ = some (.slice A2 n2 c2) ∧ w'.cell? ⟨w.heap.size + 1 + 1, 0, none⟩ = some (.slice Aw mw cw) ∧ w'.cell? ⟨w.heap.size + 1 + 1, 1, none⟩ = some (.slice As ms cs) ∧ w'.cell? ⟨w.heap.size + 1 + 1, 2, none⟩ = some (.slice none 0 0) ∧ w'.cell? ⟨w.heap.size + 1 + 1, 3, none⟩ = some (.int .i64 0) ∧ w'.cell? ⟨w.heap.size + 1 + 1, 4, none⟩ = some (.int .i64 0) ∧ w'.cell? ⟨b, o + k * 3, none⟩ = some (.int .i64 lo) ∧ w'.cell? ⟨b, o + k * 3 + 1, none⟩ = some (.int .i64 hi)) (ds := [15]) #[false, false, false, false, false, false, false, false, false, false, false, false, false, false, false, false] (by kernel_rfl) rfl rfl ⟨(blk_cell HK.out 0).trans rfl, (blk_cell HK.out 1).trans rfl, (blk_cell HK.out 2).trans rfl, (blk_cell HX.out 0).trans rfl, (blk_cell HX.out 1).trans rfl, (blk_cell HX.out 2).trans rfl, (blk_cell HX.out 3).trans rfl, (blk_cell HX.out 4).trans rfl, (HB.out.cell (p := ⟨b, o + k * 3, none⟩) hbl).trans HX0.out, (HB.out.cell (p := ⟨b, o + k * 3 + 1, none⟩) hbl).trans HX1.out⟩ (fun hHeld => ?_)
      refine pu_ 0 (some 15) ?_
      refine pu_ 2 (some 17) ?_
      refine pu_ 4 (some 19) ?_
      refine pu_ 8 (some 23) ?_
      refine pu_ 9 (some 24) ?_
      refine ta_ 1 (some 16) (s := hHeld) (y := by rintro w' ⟨s0, s1, s2, s3, s4, s5, s6, s7, s8, s9⟩; go_simp; with_reducible rfl) (h := ?_)
      refine ta_ 3 (some 18) (s := hHeld) (y := by rintro w' ⟨s0, s1, s2, s3, s4, s5, s6, s7, s8, s9⟩; go_simp; with_reducible rfl) (h := ?_)
      refine pu_ 5 (some 20) ?_
      refine pu_ 6 (some 21) ?_
      refine ta_ 7 (some 22) (s := hHeld) (y := by rintro w' ⟨s0, s1, s2, s3, s4, s5, s6, s7, s8, s9⟩; go_simp; with_reducible rfl) (h := ?_)
      refine one_ (i := 10) (N := some 25) #[true, true, true, true, true, true, true, true, true, true, true, false, false, false, false, false] rfl rfl (by kernel_rfl) (by decide) (fun K hK => ?_)
      refine goes_ Tryd.func118 (by kernel_rfl) rfl #[.slice Ab bl.length cb, .int .i64 (k : Int)] (by rfl) rfl rfl (by simp only [List.map_toArray, List.map_cons, List.map_nil]; rfl) ?_
      refine (pick_calls (k : Int) _ (Kd.C_below HRB.out HB.out) hcb).mono ?_
      rintro e W1 ⟨p1, rfl, _, hb⟩
      refine ⟨_, rfl, ?_⟩
      have hg := g_below hb
      replace Ra := Lib.hid (R_typed_grown Ra.out hg (fun g e => by cases e))
      replace Rb := Lib.hid (R_typed_grown Rb.out hg (fun g e => by cases e))
      replace HK := Lib.hid (blk_grown HK.out hg (by simp))
      replace HZ := Lib.hid (blk_grown HZ.out hg (by simp))
      replace HX := Lib.hid (blk_grown HX.out hg (by simp))
      replace HB := Lib.hid (HB.out.trans (below_weaken hb HB.out.size))
      clear hb hg
      refine hK.out _ _ ⟨(blk_cell HK.out 0).trans rfl, (blk_cell HK.out 1).trans rfl, (blk_cell HK.out 2).trans rfl, (blk_cell HX.out 0).trans rfl, (blk_cell HX.out 1).trans rfl, (blk_cell HX.out 2).trans rfl, (blk_cell HX.out 3).trans rfl, (blk_cell HX.out 4).trans rfl, (HB.out.cell (p := ⟨b, o + k * 3, none⟩) hbl).trans HX0.out, (HB.out.cell (p := ⟨b, o + k * 3 + 1, none⟩) hbl).trans HX1.out⟩ (fun hHeld => ?_)
      clear hK K
      refine no_ 25 ?_
      refine one_ (i := 11) (N := some 26) #[true, true, true, true, true, true, true, true, true, true, true, true, false, false, false, false] rfl rfl (by kernel_rfl) (by decide) (fun K hK => ?_)
      refine goes_ Tryd.func117 (by kernel_rfl) rfl #[.agg #[.int .i64 lo, .int .i64 hi], .int .i64 p1] (by rfl) rfl rfl (by simp only [List.map_toArray, List.map_cons, List.map_nil]; rfl) ?_
      refine (frSp_calls d1 d2 d3 p1 _).mono ?_
      rintro e W2 ⟨wv, rfl, hwv, hb⟩
      refine ⟨_, rfl, ?_⟩
      have hg := g_below hb
      replace Ra := Lib.hid (R_typed_grown Ra.out hg (fun g e => by cases e))
      replace Rb := Lib.hid (R_typed_grown Rb.out hg (fun g e => by cases e))
      replace HK := Lib.hid (blk_grown HK.out hg (by simp))
      replace HZ := Lib.hid (blk_grown HZ.out hg (by simp))
      replace HX := Lib.hid (blk_grown HX.out hg (by simp))
      replace HB := Lib.hid (HB.out.trans (below_weaken hb HB.out.size))
      clear hb hg
      refine hK.out _ _ ⟨(blk_cell HK.out 0).trans rfl, (blk_cell HK.out 1).trans rfl, (blk_cell HK.out 2).trans rfl, (blk_cell HX.out 0).trans rfl, (blk_cell HX.out 1).trans rfl, (blk_cell HX.out 2).trans rfl, (blk_cell HX.out 3).trans rfl, (blk_cell HX.out 4).trans rfl, (HB.out.cell (p := ⟨b, o + k * 3, none⟩) hbl).trans HX0.out, (HB.out.cell (p := ⟨b, o + k * 3 + 1, none⟩) hbl).trans HX1.out⟩ (fun hHeld => ?_)
      clear hK K
      refine no_ 26 ?_
      refine one_ (i := 12) (N := some 27) #[true, true, true, true, true, true, true, true, true, true, true, true, true, false, false, false] rfl rfl (by kernel_rfl) (by decide) (fun K hK => ?_)
      refine Kd.R_lit_step (Kd.int .i64) (w0 := w) (w.heap.size) 3 (by rfl) rfl (xs := ([wv] : List Int)) (inner := [.int .i64 wv]) (ok := fun _ => True) (okp := fun _ => True) ?hr_ ?hp_ (fun _ hk => hk) trivial HB.out HB.out.size (by simp) ?_
      (case hr_ => first | (go_simp; done) | (go_simp; rfl))
      (case hp_ => exact (Reps.one rfl (Reps.none _ _)))
      intro ve W3 ho hb hg hnew_
      have Pa_e := Lib.hid (sep_new Ra.out hnew_)
      have Pe_a := Lib.hid (sep_sym Pa_e.out)
      have Pb_e := Lib.hid (sep_new Rb.out hnew_)
      have Pe_b := Lib.hid (sep_sym Pb_e.out)
      clear hnew_
      replace Ra := Lib.hid (R_typed_grown Ra.out hg (fun g e => by cases e))
      replace Rb := Lib.hid (R_typed_grown Rb.out hg (fun g e => by cases e))
      replace HK := Lib.hid (blk_grown HK.out hg (by simp))
      replace HZ := Lib.hid (blk_grown HZ.out hg (by simp))
      replace HX := Lib.hid (blk_grown HX.out hg (by simp))
      replace HB := Lib.hid (hb)
      have Re := Lib.hid ho
      clear ho hb hg
      refine hK.out _ _ ⟨(blk_cell HK.out 0).trans rfl, (blk_cell HK.out 1).trans rfl, (blk_cell HK.out 2).trans rfl, (blk_cell HX.out 0).trans rfl, (blk_cell HX.out 1).trans rfl, (blk_cell HX.out 2).trans rfl, (blk_cell HX.out 3).trans rfl, (blk_cell HX.out 4).trans rfl, (HB.out.cell (p := ⟨b, o + k * 3, none⟩) hbl).trans HX0.out, (HB.out.cell (p := ⟨b, o + k * 3 + 1, none⟩) hbl).trans HX1.out⟩ (fun hHeld => ?_)
      clear hK K
      refine no_ 27 ?_
      refine one_ (i := 13) (N := some 28) #[true, true, true, true, true, true, true, true, true, true, true, true, true, true, false, false] rfl rfl (by kernel_rfl) (by decide) (fun K hK => ?_)
      obtain ⟨Ay_, cy_, ey_⟩ := Kd.R_slice Re.out
      subst ey_
      refine Kd.R_append_rows_step (Kd.int .i64) (w0 := w) (w.heap.size) (by rfl) (.tmp 16) (.tmp 27) 45 3 (.int .i64 0) 8 rfl Tryd.underlying45 info3 rfl (by decide) (by omega) (.slice Aw mw cw) wl [wv] _ _ _ (fun _ => True) (fun _ => False) rfl rfl Ra.out ((Kd.R_reads' Re.out).2.2) (fun x_ cs_ h_ => h_) (fun _ h => h.elim) (fun _ _ => trivial) HB.out HB.out.size (by simp only [List.length_cons, List.length_nil]; omega) ?_
      intro vc W4 ho hb hg hat
      have Pb_c := Lib.hid (sep_app Pb_a.out Rb.out hat)
      have Pc_b := Lib.hid (sep_sym Pb_c.out)
      replace Rb := Lib.hid (R_grown_ne (by decide) Rb.out hg Pb_a.out)
      replace HK := Lib.hid (blk_grown HK.out hg (own_ne Ra.out HK.out (by decide)))
      replace HZ := Lib.hid (blk_grown HZ.out hg (own_ne Ra.out HZ.out (by decide)))
      replace HX := Lib.hid (blk_grown HX.out hg (own_ne Ra.out HX.out (by decide)))
      replace HB := Lib.hid (hb)
      clear Ra Re
      obtain ⟨xc, hx_⟩ : ∃ l_, l_ = (wl ++ [wv]) := ⟨_, rfl⟩
      rw [← hx_] at ho
      have Ec := Lib.hid hx_
      clear hx_
      have Rc : Hid (Kd.R (Kd.int .i64) 3 W4 (w.heap.size) (fun _ => True) vc (xc)) := Lib.hid (by first | exact ho | simpa using ho | (rw [HLM.out]; simpa using ho))
      clear ho hb hg hat
      obtain ⟨Ac, cc, ec⟩ := Kd.R_slice Rc.out
      subst ec
      refine hK.out _ _ ⟨(blk_cell HK.out 0).trans rfl, (blk_cell HK.out 1).trans rfl, (blk_cell HK.out 2).trans rfl, (blk_cell HX.out 0).trans rfl, (blk_cell HX.out 1).trans rfl, (blk_cell HX.out 2).trans rfl, (blk_cell HX.out 3).trans rfl, (blk_cell HX.out 4).trans rfl, (HB.out.cell (p := ⟨b, o + k * 3, none⟩) hbl).trans HX0.out, (HB.out.cell (p := ⟨b, o + k * 3 + 1, none⟩) hbl).trans HX1.out⟩ (fun hHeld => ?_)
      clear hK K
      refine no_ 28 ?_
      refine pu_ 14 (some 29) ?_
      refine last_ (i := 15) (N := none) #[true, true, true, true, true, true, true, true, true, true, true, true, true, true, true, true] rfl rfl (by kernel_rfl) (by decide) (fun K hK => ?_)
      have cX_0 := (blk_cell HX.out 0).trans rfl
      have cX_1 := (blk_cell HX.out 1).trans rfl
      have cX_2 := (blk_cell HX.out 2).trans rfl
      have cX_3 := (blk_cell HX.out 3).trans rfl
      have cX_4 := (blk_cell HX.out 4).trans rfl
      have fX_0 := blk_frozen HX.out 0
      have fX_1 := blk_frozen HX.out 1
      have fX_2 := blk_frozen HX.out 2
      have fX_3 := blk_frozen HX.out 3
      have fX_4 := blk_frozen HX.out 4
      have lX := blk_lt HX.out
      refine skip_ (w1 := ?_) (by rfl) rfl ?_ ?_
      rotate_left
      · go_simp
        rfl
      refine hK.out _ _ ?_
      clear hK K
      refine done_ (by kernel_rfl) ?_

      clear cX_0 cX_1 cX_2 cX_3 cX_4 fX_0 fX_1 fX_2 fX_3 fX_4 lX
      obtain ⟨W5, hnw⟩ : ∃ W, W = (W4.setCell ⟨w.heap.size + 1 + 1, 0, none⟩ (.slice Ac xc.length cc)) := ⟨_, rfl⟩
      rw [← hnw]
      have hg : W4.grownBy W5 (some (w.heap.size + 1 + 1)) := by rw [hnw]; exact (g_put (g_refl W4 (some (w.heap.size + 1 + 1))) 0 (.slice Ac xc.length cc))
      have HXq := Lib.hid (show W5.heap[w.heap.size + 1 + 1]? = some (.cells #[.slice Ac xc.length cc, .slice As ms cs, .slice none 0 0, .int .i64 0, .int .i64 0] 77 (0, 0)) by rw [hnw]; exact blk_put (HX.out) 0 (.slice Ac xc.length cc) rfl)
      have HOLD := HX
      replace Rb := Lib.hid (R_typed_grown Rb.out hg (fun g e => by injection e with e; subst e; exact ⟨_, _, HOLD.out, by decide⟩))
      replace Rc := Lib.hid (R_typed_grown Rc.out hg (fun g e => by injection e with e; subst e; exact ⟨_, _, HOLD.out, by decide⟩))
      replace HK := Lib.hid (blk_grown HK.out hg (fun e => by injection e with e; exact absurd e (blk_ne HK.out HX.out (by decide))))
      replace HZ := Lib.hid (blk_grown HZ.out hg (fun e => by injection e with e; omega))
      clear HOLD
      clear HX
      have HX := HXq
      clear HXq
      replace HB := Lib.hid (HB.out.grown hg HB.out.size (fun k e => by injection e with e; have := HB.out.size; omega))
      clear hg hnw
      have cK_0 := (blk_cell HK.out 0).trans rfl
      have cK_1 := (blk_cell HK.out 1).trans rfl
      have cK_2 := (blk_cell HK.out 2).trans rfl
      have lK := blk_lt HK.out
      have cZ_0 := (blk_cell HZ.out 0).trans rfl
      have cZ_1 := (blk_cell HZ.out 1).trans rfl
      have cZ_2 := (blk_cell HZ.out 2).trans rfl
      have cZ_3 := (blk_cell HZ.out 3).trans rfl
      have cZ_4 := (blk_cell HZ.out 4).trans rfl
      have lZ := blk_lt HZ.out
      have cX_0 := (blk_cell HX.out 0).trans rfl
      have cX_1 := (blk_cell HX.out 1).trans rfl
      have cX_2 := (blk_cell HX.out 2).trans rfl
      have cX_3 := (blk_cell HX.out 3).trans rfl
      have cX_4 := (blk_cell HX.out 4).trans rfl
      have lX := blk_lt HX.out
      go_upto_region 6 with fail
      clear cK_0 cK_1 cK_2 lK cZ_0 cZ_1 cZ_2 cZ_3 cZ_4 lZ cX_0 cX_1 cX_2 cX_3 cX_4 lX
      have hb : Below W5.heap.size W5 W5.drew := (Below.refl _ _).drew
      have hg := g_below hb
      replace Rb := Lib.hid (R_typed_grown Rb.out hg (fun g e => by cases e))
      replace Rc := Lib.hid (R_typed_grown Rc.out hg (fun g e => by cases e))
      replace HK := Lib.hid (blk_grown HK.out hg (by simp))
      replace HZ := Lib.hid (blk_grown HZ.out hg (by simp))
      replace HX := Lib.hid (blk_grown HX.out hg (by simp))
      replace HB := Lib.hid (HB.out.trans (below_weaken hb HB.out.size))
      clear hb hg
      refine start_ (n := 18) (S := fun w' => w'.cell? ⟨w.heap.size, 0, none⟩ = some (.slice A0 l0.length c0) ∧ w'.cell? ⟨w.heap.size, 1, none⟩ = some (.slice (some ⟨b, o, none⟩) l1.length c1) ∧ w'.cell? ⟨w.heap.size, 2, none⟩ = some (.slice A2 n2 c2) ∧ w'.cell? ⟨w.heap.size + 1 + 1, 0, none⟩ = some (.slice Ac xc.length cc) ∧ w'.cell? ⟨w.heap.size + 1 + 1, 1, none⟩ = some (.slice As ms cs) ∧ w'.cell? ⟨w.heap.size + 1 + 1, 2, none⟩ = some (.slice none 0 0) ∧ w'.cell? ⟨w.heap.size + 1 + 1, 3, none⟩ = some (.int .i64 0) ∧ w'.cell? ⟨w.heap.size + 1 + 1, 4, none⟩ = some (.int .i64 0) ∧ w'.cell? ⟨b, o + k * 3 + 2, none⟩ = some (.int .i64 sky)) (ds := [17]) #[false, false, false, false, false, false, false, false, false, false, false, false, false, false, false, false, false, false] (by kernel_rfl) rfl rfl ⟨(blk_cell HK.out 0).trans rfl, (blk_cell HK.out 1).trans rfl, (blk_cell HK.out 2).trans rfl, (blk_cell HX.out 0).trans rfl, (blk_cell HX.out 1).trans rfl, (blk_cell HX.out 2).trans rfl, (blk_cell HX.out 3).trans rfl, (blk_cell HX.out 4).trans rfl, (HB.out.cell (p := ⟨b, o + k * 3 + 2, none⟩) hbl).trans HX2.out⟩ (fun hHeld => ?_)
      refine pu_ 0 (some 30) ?_
      refine pu_ 2 (some 32) ?_
      refine pu_ 4 (some 34) ?_
      refine pu_ 9 (some 39) ?_
      refine pu_ 10 (some 40) ?_
      refine pu_ 11 (some 41) ?_
      refine ta_ 1 (some 31) (s := hHeld) (y := by rintro w' ⟨s0, s1, s2, s3, s4, s5, s6, s7, s8⟩; go_simp; with_reducible rfl) (h := ?_)
      refine ta_ 3 (some 33) (s := hHeld) (y := by rintro w' ⟨s0, s1, s2, s3, s4, s5, s6, s7, s8⟩; go_simp; with_reducible rfl) (h := ?_)
      refine pu_ 5 (some 35) ?_
      refine pu_ 6 (some 36) ?_
      refine ta_ 7 (some 37) (s := hHeld) (y := by rintro w' ⟨s0, s1, s2, s3, s4, s5, s6, s7, s8⟩; go_simp; with_reducible rfl) (h := ?_)
      refine one_ (i := 8) (N := some 38) #[true, true, true, true, true, true, true, true, true, true, true, true, false, false, false, false, false, false] rfl rfl (by kernel_rfl) (by decide) (fun K hK => ?_)
      refine goes_ Tryd.func67 (by kernel_rfl) rfl #[.int .i64 sky, .int .i64 3] (by rfl) rfl rfl (by simp only [List.map_toArray, List.map_cons, List.map_nil]; rfl) ?_
      refine ((all_calls sky 3 (by omega) (by omega) (by omega) _)).mono ?_
      rintro e W6 ⟨Aq, cq, rfl, hrq, hlq, hb⟩
      refine ⟨_, rfl, ?_⟩
      have Cq := Lib.hid hrq
      clear hrq
      have hg := g_below hb
      replace Rb := Lib.hid (R_typed_grown Rb.out hg (fun g e => by cases e))
      replace Rc := Lib.hid (R_typed_grown Rc.out hg (fun g e => by cases e))
      replace HK := Lib.hid (blk_grown HK.out hg (by simp))
      replace HZ := Lib.hid (blk_grown HZ.out hg (by simp))
      replace HX := Lib.hid (blk_grown HX.out hg (by simp))
      replace HB := Lib.hid (HB.out.trans (below_weaken hb HB.out.size))
      clear hb hg
      refine hK.out _ _ ⟨(blk_cell HK.out 0).trans rfl, (blk_cell HK.out 1).trans rfl, (blk_cell HK.out 2).trans rfl, (blk_cell HX.out 0).trans rfl, (blk_cell HX.out 1).trans rfl, (blk_cell HX.out 2).trans rfl, (blk_cell HX.out 3).trans rfl, (blk_cell HX.out 4).trans rfl, (HB.out.cell (p := ⟨b, o + k * 3 + 2, none⟩) hbl).trans HX2.out⟩ (fun hHeld => ?_)
      clear hK K
      refine no_ 38 ?_
      refine one_ (i := 12) (N := some 42) #[true, true, true, true, true, true, true, true, true, true, true, true, true, false, false, false, false, false] rfl rfl (by kernel_rfl) (by decide) (fun K hK => ?_)
      refine goes_ Tryd.func118 (by kernel_rfl) rfl #[.slice Ab bl.length cb, .int .i64 ((k : Int) + 1)] (by rfl) rfl rfl (by simp only [List.map_toArray, List.map_cons, List.map_nil]; rfl) ?_
      refine (pick_calls ((k : Int) + 1) _ (Kd.C_below HRB.out HB.out) hcb).mono ?_
      rintro e W7 ⟨p2, rfl, _, hb⟩
      refine ⟨_, rfl, ?_⟩
      have hg := g_below hb
      replace Cq := Lib.hid (Kd.C_below Cq.out (below_g hg))
      replace Rb := Lib.hid (R_typed_grown Rb.out hg (fun g e => by cases e))
      replace Rc := Lib.hid (R_typed_grown Rc.out hg (fun g e => by cases e))
      replace HK := Lib.hid (blk_grown HK.out hg (by simp))
      replace HZ := Lib.hid (blk_grown HZ.out hg (by simp))
      replace HX := Lib.hid (blk_grown HX.out hg (by simp))
      replace HB := Lib.hid (HB.out.trans (below_weaken hb HB.out.size))
      clear hb hg
      refine hK.out _ _ ⟨(blk_cell HK.out 0).trans rfl, (blk_cell HK.out 1).trans rfl, (blk_cell HK.out 2).trans rfl, (blk_cell HX.out 0).trans rfl, (blk_cell HX.out 1).trans rfl, (blk_cell HX.out 2).trans rfl, (blk_cell HX.out 3).trans rfl, (blk_cell HX.out 4).trans rfl, (HB.out.cell (p := ⟨b, o + k * 3 + 2, none⟩) hbl).trans HX2.out⟩ (fun hHeld => ?_)
      clear hK K
      refine no_ 42 ?_
      refine one_ (i := 13) (N := some 43) #[true, true, true, true, true, true, true, true, true, true, true, true, true, true, false, false, false, false] rfl rfl (by kernel_rfl) (by decide) (fun K hK => ?_)
      refine goes_ Tryd.func118 (by kernel_rfl) rfl #[.slice Aq (allL sky 3 0).length cq, .int .i64 p2] (by rfl) rfl rfl (by simp only [List.map_toArray, List.map_cons, List.map_nil]; rfl) ?_
      refine (pick_calls p2 _ Cq.out hlq).mono ?_
      rintro e W8 ⟨sv, rfl, hsv, hb⟩
      refine ⟨_, rfl, ?_⟩
      have hg := g_below hb
      replace Cq := Lib.hid (Kd.C_below Cq.out (below_g hg))
      replace Rb := Lib.hid (R_typed_grown Rb.out hg (fun g e => by cases e))
      replace Rc := Lib.hid (R_typed_grown Rc.out hg (fun g e => by cases e))
      replace HK := Lib.hid (blk_grown HK.out hg (by simp))
      replace HZ := Lib.hid (blk_grown HZ.out hg (by simp))
      replace HX := Lib.hid (blk_grown HX.out hg (by simp))
      replace HB := Lib.hid (HB.out.trans (below_weaken hb HB.out.size))
      clear hb hg
      refine hK.out _ _ ⟨(blk_cell HK.out 0).trans rfl, (blk_cell HK.out 1).trans rfl, (blk_cell HK.out 2).trans rfl, (blk_cell HX.out 0).trans rfl, (blk_cell HX.out 1).trans rfl, (blk_cell HX.out 2).trans rfl, (blk_cell HX.out 3).trans rfl, (blk_cell HX.out 4).trans rfl, (HB.out.cell (p := ⟨b, o + k * 3 + 2, none⟩) hbl).trans HX2.out⟩ (fun hHeld => ?_)
      clear hK K
      refine no_ 43 ?_
      refine one_ (i := 14) (N := some 44) #[true, true, true, true, true, true, true, true, true, true, true, true, true, true, true, false, false, false] rfl rfl (by kernel_rfl) (by decide) (fun K hK => ?_)
      refine Kd.R_lit_step (Kd.int .i64) (w0 := w) (w.heap.size) 3 (by rfl) rfl (xs := ([sv] : List Int)) (inner := [.int .i64 sv]) (ok := fun _ => True) (okp := fun _ => True) ?hr_ ?hp_ (fun _ hk => hk) trivial HB.out HB.out.size (by simp) ?_
      (case hr_ => first | (go_simp; done) | (go_simp; rfl))
      (case hp_ => exact (Reps.one rfl (Reps.none _ _)))
      intro vf W9 ho hb hg hnew_
      have Pb_f := Lib.hid (sep_new Rb.out hnew_)
      have Pf_b := Lib.hid (sep_sym Pb_f.out)
      have Pc_f := Lib.hid (sep_new Rc.out hnew_)
      have Pf_c := Lib.hid (sep_sym Pc_f.out)
      clear hnew_
      replace Cq := Lib.hid (Kd.C_below Cq.out (below_g hg))
      replace Rb := Lib.hid (R_typed_grown Rb.out hg (fun g e => by cases e))
      replace Rc := Lib.hid (R_typed_grown Rc.out hg (fun g e => by cases e))
      replace HK := Lib.hid (blk_grown HK.out hg (by simp))
      replace HZ := Lib.hid (blk_grown HZ.out hg (by simp))
      replace HX := Lib.hid (blk_grown HX.out hg (by simp))
      replace HB := Lib.hid (hb)
      have Rf := Lib.hid ho
      clear ho hb hg
      refine hK.out _ _ ⟨(blk_cell HK.out 0).trans rfl, (blk_cell HK.out 1).trans rfl, (blk_cell HK.out 2).trans rfl, (blk_cell HX.out 0).trans rfl, (blk_cell HX.out 1).trans rfl, (blk_cell HX.out 2).trans rfl, (blk_cell HX.out 3).trans rfl, (blk_cell HX.out 4).trans rfl, (HB.out.cell (p := ⟨b, o + k * 3 + 2, none⟩) hbl).trans HX2.out⟩ (fun hHeld => ?_)
      clear hK K
      refine no_ 44 ?_
      refine one_ (i := 15) (N := some 45) #[true, true, true, true, true, true, true, true, true, true, true, true, true, true, true, true, false, false] rfl rfl (by kernel_rfl) (by decide) (fun K hK => ?_)
      obtain ⟨Ay_, cy_, ey_⟩ := Kd.R_slice Rf.out
      subst ey_
      refine Kd.R_append_rows_step (Kd.int .i64) (w0 := w) (w.heap.size) (by rfl) (.tmp 31) (.tmp 44) 45 3 (.int .i64 0) 8 rfl Tryd.underlying45 info3 rfl (by decide) (by omega) (.slice As ms cs) sl [sv] _ _ _ (fun _ => True) (fun _ => False) rfl rfl Rb.out ((Kd.R_reads' Rf.out).2.2) (fun x_ cs_ h_ => h_) (fun _ h => h.elim) (fun _ _ => trivial) HB.out HB.out.size (by simp only [List.length_cons, List.length_nil]; omega) ?_
      intro vg W10 ho hb hg hat
      have Pc_g := Lib.hid (sep_app Pc_b.out Rc.out hat)
      have Pg_c := Lib.hid (sep_sym Pc_g.out)
      replace Rc := Lib.hid (R_grown_ne (by decide) Rc.out hg Pc_b.out)
      replace HK := Lib.hid (blk_grown HK.out hg (own_ne Rb.out HK.out (by decide)))
      replace HZ := Lib.hid (blk_grown HZ.out hg (own_ne Rb.out HZ.out (by decide)))
      replace HX := Lib.hid (blk_grown HX.out hg (own_ne Rb.out HX.out (by decide)))
      replace HB := Lib.hid (hb)
      clear Rb Rf
      obtain ⟨xg, hx_⟩ : ∃ l_, l_ = (sl ++ [sv]) := ⟨_, rfl⟩
      rw [← hx_] at ho
      have Eg := Lib.hid hx_
      clear hx_
      have Rg : Hid (Kd.R (Kd.int .i64) 3 W10 (w.heap.size) (fun _ => True) vg (xg)) := Lib.hid (by first | exact ho | simpa using ho | (rw [HLM.out]; simpa using ho))
      clear ho hb hg hat
      obtain ⟨Ag, cg, eg⟩ := Kd.R_slice Rg.out
      subst eg
      refine hK.out _ _ ⟨(blk_cell HK.out 0).trans rfl, (blk_cell HK.out 1).trans rfl, (blk_cell HK.out 2).trans rfl, (blk_cell HX.out 0).trans rfl, (blk_cell HX.out 1).trans rfl, (blk_cell HX.out 2).trans rfl, (blk_cell HX.out 3).trans rfl, (blk_cell HX.out 4).trans rfl, (HB.out.cell (p := ⟨b, o + k * 3 + 2, none⟩) hbl).trans HX2.out⟩ (fun hHeld => ?_)
      clear hK K
      refine no_ 45 ?_
      refine pu_ 16 (some 46) ?_
      refine last_ (i := 17) (N := none) #[true, true, true, true, true, true, true, true, true, true, true, true, true, true, true, true, true, true] rfl rfl (by kernel_rfl) (by decide) (fun K hK => ?_)
      have cX_0 := (blk_cell HX.out 0).trans rfl
      have cX_1 := (blk_cell HX.out 1).trans rfl
      have cX_2 := (blk_cell HX.out 2).trans rfl
      have cX_3 := (blk_cell HX.out 3).trans rfl
      have cX_4 := (blk_cell HX.out 4).trans rfl
      have fX_0 := blk_frozen HX.out 0
      have fX_1 := blk_frozen HX.out 1
      have fX_2 := blk_frozen HX.out 2
      have fX_3 := blk_frozen HX.out 3
      have fX_4 := blk_frozen HX.out 4
      have lX := blk_lt HX.out
      refine skip_ (w1 := ?_) (by rfl) rfl ?_ ?_
      rotate_left
      · go_simp
        rfl
      refine hK.out _ _ ?_
      clear hK K
      refine done_ (by kernel_rfl) ?_

      clear cX_0 cX_1 cX_2 cX_3 cX_4 fX_0 fX_1 fX_2 fX_3 fX_4 lX
      obtain ⟨W11, hnw⟩ : ∃ W, W = (W10.setCell ⟨w.heap.size + 1 + 1, 1, none⟩ (.slice Ag xg.length cg)) := ⟨_, rfl⟩
      rw [← hnw]
      have hg : W10.grownBy W11 (some (w.heap.size + 1 + 1)) := by rw [hnw]; exact (g_put (g_refl W10 (some (w.heap.size + 1 + 1))) 1 (.slice Ag xg.length cg))
      have HXq := Lib.hid (show W11.heap[w.heap.size + 1 + 1]? = some (.cells #[.slice Ac xc.length cc, .slice Ag xg.length cg, .slice none 0 0, .int .i64 0, .int .i64 0] 77 (0, 0)) by rw [hnw]; exact blk_put (HX.out) 1 (.slice Ag xg.length cg) rfl)
      have HOLD := HX
      replace Rc := Lib.hid (R_typed_grown Rc.out hg (fun g e => by injection e with e; subst e; exact ⟨_, _, HOLD.out, by decide⟩))
      replace Rg := Lib.hid (R_typed_grown Rg.out hg (fun g e => by injection e with e; subst e; exact ⟨_, _, HOLD.out, by decide⟩))
      replace HK := Lib.hid (blk_grown HK.out hg (fun e => by injection e with e; exact absurd e (blk_ne HK.out HX.out (by decide))))
      replace HZ := Lib.hid (blk_grown HZ.out hg (fun e => by injection e with e; omega))
      clear HOLD
      clear HX
      have HX := HXq
      clear HXq
      replace HB := Lib.hid (HB.out.grown hg HB.out.size (fun k e => by injection e with e; have := HB.out.size; omega))
      clear hg hnw
      have hin := pick_in d4 d5 hsv
      have hday : ∀ i (h : i < (pre ++ [(wv, sv)]).length) (h2 : i < l1.length), DayIn l1[i] (pre ++ [(wv, sv)])[i] := day_snoc HPR.out.2.2.2 HPR.out.1 hlt ⟨by rw [← HLH.out.1]; exact hwv.1, by rw [← HLH.out.2.1]; exact hwv.2, hin.1, hin.2.1, by rw [← HLH.out.2.2]; exact hin.2.2⟩
      have HDAY := Lib.hid hday
      clear hin hday hsv hwv
      go_wp2
      go_roundg g1
      case measure => omega
      case rel => exact ⟨k + 1, Ac, Ag, _, cc, _, cg, xc, xg, pre ++ [(wv, sv)], by go_num, ⟨by have := HKK.out; omega⟩, ⟨by have := HPR.out.1; simp; omega, by rw [Ec.out, HPR.out.2.1]; simp, by rw [Eg.out, HPR.out.2.2.1]; simp, HDAY.out⟩, ⟨HK.out⟩, ⟨HZ.out⟩, ⟨HX.out⟩, ⟨Rc.out⟩, ⟨Rg.out⟩, ⟨Pc_g.out⟩, ⟨HB.out⟩⟩
end Go.Proofs.YthgjedagbgmgmaaDoor.Pr
namespace Go.Proofs.YthgjedagbgmgmaaDoor.Pr
open Go.RowKit Go.Proofs.YthgjedagbgmgmaaDoorW.PrintWords Go.Proofs.YthgjedagbgmgmaaDoorW.PrintLast Go.Proofs.YthgjedagbgmgmaaDoorW.PrintMore
set_option linter.unusedVariables false
set_option linter.unusedSimpArgs false
theorem lt_of_get {l : List Int} {i : Nat} {v : Int} (h : l[i]? = some v) : i < l.length := (List.getElem?_eq_some_iff.1 h).1
theorem some_of_C {w : World} {A : Option Addr} {l : List Int} (h : Kd.C (Kd.int .i64) w A l.length l) {i : Nat} {v : Int} (hv : l[i]? = some v) : ∃ b o, A = some ⟨b, o, none⟩ := by
  obtain ⟨b, o, e, _⟩ := cell_int h (List.getElem?_eq_some_iff.1 hv).1
  exact ⟨b, o, e⟩
theorem cell_of_C {w : World} {b o : Nat} {l : List Int} (h : Kd.C (Kd.int .i64) w (some ⟨b, o, none⟩) l.length l) {i : Nat} {v : Int} (hv : l[i]? = some v) : w.cell? ⟨b, o + i, none⟩ = some (.int .i64 v) := by
  obtain ⟨hi, e⟩ := List.getElem?_eq_some_iff.1 hv
  obtain ⟨b', o', e', _, hc⟩ := cell_int h hi
  injection e' with e'
  injection e' with e1 e2
  subst e1
  subst e2
  rw [e] at hc
  exact hc
section
variable {l0 : List S92} {l1 : List S90} {l2 : List S43} {ch : Ch}
theorem seen_right (hok : okBook l0 l1 l2 = true) (hc : OkCh l1 ch) : l2.map (seenL (boundsK l0 ch)) = rightLooks l0 ch l2 := by
  unfold rightLooks
  refine List.map_congr_left fun x hx => ?_
  have hf := (okBook_parts hok).2.2.2.2.2 x hx
  unfold okLook at hf
  simp only [Bool.and_eq_true, decide_eq_true_eq] at hf
  have hb := (boundsK_get hok hc (d := x.f0.toNat) (by omega)).1
  unfold seenL
  rw [List.getD_eq_getElem?_getD, hb]
  rfl
theorem seen_range (hok : okBook l0 l1 l2 = true) (hc : OkCh l1 ch) : ∀ x ∈ l2, 0 ≤ x.f0 ∧ x.f0 < (boundsK l0 ch).length := by
  intro x hx
  have hf := (okBook_parts hok).2.2.2.2.2 x hx
  unfold okLook at hf
  simp only [Bool.and_eq_true, decide_eq_true_eq] at hf
  rw [boundsK_length hok hc]
  omega
/-- What is so, and a book whose looks are right. -/
theorem known_book (A0 A1 A2 Ab : Option Addr) (c0 c1 c2 cb : Nat) (l0 : List S92) (l1 : List S90) (l2 : List S43) (bl : List Int) (w : World) (h : BookAt w A0 A1 A2 c0 c1 c2 l0 l1 l2) (hb : Kd.C (Kd.int .i64) w Ab bl.length bl) (hcb : bl.length ≤ cb) (hok : okBook l0 l1 l2 = true) {P : Nat → List Int → List Int → List Int → Int → Int → Option Addr → Nat → Option Addr → Nat → Option Addr → Nat → Prop}
    (hP : ∀ (ch : Ch) Aw cw As cs Ak ck, OkCh l1 ch → P ch.length (ch.map (·.1)) (ch.map (·.2)) (boundsK l0 ch) (lastK l0 ch kn0).laid (lastK l0 ch kn0).lost Aw cw As cs Ak ck) :
    ∀ W, Below w.heap.size w W → Calls Tryd.prog 57 #[.agg #[.slice A0 l0.length c0, .slice A1 l1.length c1, .slice A2 l2.length c2], .slice Ab bl.length cb] W fun e w' => ∃ (nd : Nat) (wl sl kb : List Int) (la lo : Int) (Aw : Option Addr) (cw : Nat) (As : Option Addr) (cs : Nat) (Ak : Option Addr) (ck : Nat), e = .returned (.agg #[.slice Aw nd cw, .slice As nd cs, .slice Ak kb.length ck, .int .i64 la, .int .i64 lo]) ∧ Kd.R (Kd.int .i64) 3 w' w.heap.size (fun _ => True) (.slice Aw nd cw) wl ∧ Kd.R (Kd.int .i64) 3 w' w.heap.size (fun _ => True) (.slice As nd cs) sl ∧ Kd.R (Kd.int .i64) 3 w' w.heap.size (fun _ => True) (.slice Ak kb.length ck) kb ∧ Hid (P nd wl sl kb la lo Aw cw As cs Ak ck) ∧ Below W.heap.size W w' := by
  intro W hW
  refine (truly_calls A0 A1 A2 Ab c0 c1 l2.length c2 cb l0 l1 l2 bl hok W (h.below hW).r0 (h.below hW).r1 (Kd.C_below hb hW) hcb).mono ?_
  rintro e w' ⟨ch, hc, Aw, cw, As, cs, Ak, ck, rfl, h1, h2, h3, hb'⟩
  exact ⟨ch.length, ch.map (·.1), ch.map (·.2), boundsK l0 ch, _, _, Aw, cw, As, cs, Ak, ck, rfl, Kd.R_lower h1 hW.size, Kd.R_lower h2 hW.size, Kd.R_lower h3 hW.size, Lib.hid (hP ch Aw cw As cs Ak ck hc), hb'⟩
theorem known_rightly (A0 A1 A2 Aw As Ak : Option Addr) (c0 c1 c2 cw cs ck : Nat) (l0 : List S92) (l1 : List S90) (l2 : List S43) (w : World) (h : BookAt w A0 A1 A2 c0 c1 c2 l0 l1 l2) (hok : okBook l0 l1 l2 = true) {ch : Ch} (hc : OkCh l1 ch) (la lo : Int) :
    ∀ W, Below w.heap.size w W → Kd.C (Kd.int .i64) W Ak (boundsK l0 ch).length (boundsK l0 ch) → Calls Tryd.prog 58 #[.agg #[.slice A0 l0.length c0, .slice A1 l1.length c1, .slice A2 l2.length c2], .agg #[.slice Aw ch.length cw, .slice As ch.length cs, .slice Ak (boundsK l0 ch).length ck, .int .i64 la, .int .i64 lo]] W fun e w' => ∃ A c, e = .returned (.agg #[.slice A0 l0.length c0, .slice A1 l1.length c1, .slice A (rightLooks l0 ch l2).length c]) ∧ Kd.R k43 43 w' w.heap.size (fun _ => True) (.slice A (rightLooks l0 ch l2).length c) (rightLooks l0 ch l2) ∧ Below W.heap.size W w' := by
  intro W hW hk
  refine (rightly_calls A0 A1 A2 Aw As Ak l0.length l1.length c0 c1 c2 ch.length ch.length cw cs ck la lo l2 (boundsK l0 ch) (okBook_parts hok).2.2.1 (seen_range hok hc) W (h.below hW).r2 hk).mono ?_
  rintro e w' ⟨A, c, rfl, hr, hb⟩
  rw [seen_right hok hc] at hr ⊢
  exact ⟨A, c, rfl, Kd.R_lower hr hW.size, hb⟩
end
section
variable (A0 A1 : Option Addr) (c0 c1 : Nat) (l0 : List S92) (l1 : List S90) (lk : List S43) (w : World) (hG : GOK w) {A2 : Option Addr} {c2 : Nat} {l2 : List S43} (h : BookAt w A0 A1 A2 c0 c1 c2 l0 l1 l2)
include hG h
theorem kb_bound (d : Int) {r : Int × Int × Int} (e : boundF l0 l1 lk d = r) : ∀ W Ac cc, Below w.heap.size w W → Kd.C k43 W Ac lk.length lk → lk.length ≤ cc → Calls Tryd.prog 21 #[.agg #[.slice A0 l0.length c0, .slice A1 l1.length c1, .slice Ac lk.length cc], .int .i64 d] W fun e w' => e = .returned (.tuple #[.agg #[.int .i64 r.1, .int .i64 r.2.1], .int .i64 r.2.2]) ∧ Below W.heap.size W w' := fun W Ac cc hW hr hc => by
  have := bound_calls A0 A1 Ac c0 c1 cc l0 l1 lk W (hG.below hW) (h.below hW).r0 h.c0 (h.below hW).r1 h.c1 hr hc d
  rw [e] at this
  exact this
theorem kb_wagons (d : Int) {r : Int × Int × Int} (e : wagonsF l0 l1 lk d = r) : ∀ W Ac cc, Below w.heap.size w W → Kd.C k43 W Ac lk.length lk → lk.length ≤ cc → Calls Tryd.prog 23 #[.agg #[.slice A0 l0.length c0, .slice A1 l1.length c1, .slice Ac lk.length cc], .int .i64 d] W fun e w' => e = .returned (.tuple #[.agg #[.int .i64 r.1, .int .i64 r.2.1], .int .i64 r.2.2]) ∧ Below W.heap.size W w' := fun W Ac cc hW hr hc => by
  have := wagons_calls A0 A1 Ac c0 c1 cc l0 l1 lk W (hG.below hW) (h.below hW).r0 h.c0 (h.below hW).r1 h.c1 hr hc d
  rw [e] at this
  exact this
theorem kb_sky (d : Int) {r : Int × Int} (e : skyF l0 l1 lk d = r) : ∀ W Ac cc, Below w.heap.size w W → Kd.C k43 W Ac lk.length lk → lk.length ≤ cc → Calls Tryd.prog 25 #[.agg #[.slice A0 l0.length c0, .slice A1 l1.length c1, .slice Ac lk.length cc], .int .i64 d] W fun e w' => e = .returned (.tuple #[.int .i64 r.1, .int .i64 r.2]) ∧ Below W.heap.size W w' := fun W Ac cc hW hr hc => by
  have := sky_calls A0 A1 Ac c0 c1 cc l0 l1 lk W (hG.below hW) (h.below hW).r0 h.c0 (h.below hW).r1 h.c1 hr hc d
  rw [e] at this
  exact this
theorem kb_lost {r : Int × Int × Int} (e : lostF l0 l1 lk = r) : ∀ W Ac cc, Below w.heap.size w W → Kd.C k43 W Ac lk.length lk → lk.length ≤ cc → Calls Tryd.prog 28 #[.agg #[.slice A0 l0.length c0, .slice A1 l1.length c1, .slice Ac lk.length cc]] W fun e w' => e = .returned (.tuple #[.agg #[.int .i64 r.1, .int .i64 r.2.1], .int .i64 r.2.2]) ∧ Below W.heap.size W w' := fun W Ac cc hW hr hc => by
  have := lost_calls A0 A1 Ac c0 c1 cc l0 l1 lk W (hG.below hW) (h.below hW).r0 h.c0 (h.below hW).r1 h.c1 hr hc
  rw [e] at this
  exact this
theorem kb_laid {r : Int × Int × Int} (e : laidF l0 l1 lk = r) : ∀ W Ac cc, Below w.heap.size w W → Kd.C k43 W Ac lk.length lk → lk.length ≤ cc → Calls Tryd.prog 30 #[.agg #[.slice A0 l0.length c0, .slice A1 l1.length c1, .slice Ac lk.length cc]] W fun e w' => e = .returned (.tuple #[.agg #[.int .i64 r.1, .int .i64 r.2.1], .int .i64 r.2.2]) ∧ Below W.heap.size W w' := fun W Ac cc hW hr hc => by
  have := laid_calls A0 A1 Ac c0 c1 cc l0 l1 lk W (hG.below hW) (h.below hW).r0 h.c0 (h.below hW).r1 h.c1 hr hc
  rw [e] at this
  exact this
theorem kb_done {r : Int × Int} (e : doneF l0 l1 lk = r) : ∀ W Ac cc, Below w.heap.size w W → Kd.C k43 W Ac lk.length lk → lk.length ≤ cc → Calls Tryd.prog 32 #[.agg #[.slice A0 l0.length c0, .slice A1 l1.length c1, .slice Ac lk.length cc]] W fun e w' => e = .returned (.tuple #[.int .i64 r.1, .int .i64 r.2]) ∧ Below W.heap.size W w' := fun W Ac cc hW hr hc => by
  have := done_calls A0 A1 Ac c0 c1 cc l0 l1 lk W (hG.below hW) (h.below hW).r0 h.c0 (h.below hW).r1 h.c1 hr hc
  rw [e] at this
  exact this
theorem kb_perhaps {r : Int × Int} (e : perhapsF l0 l1 lk = r) : ∀ W Ac cc, Below w.heap.size w W → Kd.C k43 W Ac lk.length lk → lk.length ≤ cc → Calls Tryd.prog 34 #[.agg #[.slice A0 l0.length c0, .slice A1 l1.length c1, .slice Ac lk.length cc]] W fun e w' => e = .returned (.tuple #[.int .i64 r.1, .int .i64 r.2]) ∧ Below W.heap.size W w' := fun W Ac cc hW hr hc => by
  have := perhaps_calls A0 A1 Ac c0 c1 cc l0 l1 lk W (hG.below hW) (h.below hW).r0 h.c0 (h.below hW).r1 h.c1 hr hc
  rw [e] at this
  exact this
theorem kb_right {r : Bool × Int} (e : rightF l0 l1 lk = r) : ∀ W Ac cc, Below w.heap.size w W → Kd.C k43 W Ac lk.length lk → lk.length ≤ cc → Calls Tryd.prog 17 #[.agg #[.slice A0 l0.length c0, .slice A1 l1.length c1, .slice Ac lk.length cc]] W fun e w' => e = .returned (.tuple #[.bool r.1, .int .i64 r.2]) ∧ Below W.heap.size W w' := fun W Ac cc hW hr hc => by
  have := rightX_calls A0 A1 Ac c0 c1 cc l0 l1 lk W (hG.below hW) (h.below hW).r0 h.c0 (h.below hW).r1 h.c1 hr hc
  rw [e] at this
  exact this
end
end Go.Proofs.YthgjedagbgmgmaaDoor.Pr
