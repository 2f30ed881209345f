/- Part 3 of the proof that RollTrue answers true: contracts and laws, merged by a program. -/
import Derived.StillTailTactics
import Derived.Laws.EntriesVeiled
import Derived.Deep.MidRow
import Derived.OwnWalkIn
import Derived.MapKept
import Derived.Deep.DeepCutAuto
import Derived.Lib.Hide
import Derived.RangeFuncNested
import Derived.RangeFuncBound
import Derived.RangeFuncCalls
import Derived.RangeFuncLeaves
import Derived.TacticsInMore
import Derived.LoopNIn
import Derived.LoopIn
import Derived.WalkMore
import Derived.Great.BuildSlice
import Derived.Maps.OwnIn
import Derived.Shelf.Abstract
import Derived.Test.YthgjedagbgmgmaaDoorRollTrueA2
namespace Go.Proofs.YthgjedagbgmgmaaDoor.Pr
open Go.RowKit Go.Proofs.YthgjedagbgmgmaaDoorW.PrintWords Go.Proofs.YthgjedagbgmgmaaDoorW.PrintLast Go.Proofs.YthgjedagbgmgmaaDoorW.PrintMore
set_option linter.unusedVariables false
set_option linter.unusedSimpArgs false
section
variable {P : Program} {ops : Array Oper} {Q : Exit → Act → World → Prop} {md : Region.Mode} {S : World → Prop} {ds : List Nat}
theorem pu_ (i : Nat) (N : Option Tmp) {oi : Oper} {v : Value} {fuel : Nat} {l : Array Bool} {a : Act} {w : World} {l' : Array Bool} {a' : Act} (h : wpAnyLast P md ops Q S ds fuel l' a' w) (hl : l.setIfInBounds i true = l' := by simp only [List.setIfInBounds_toArray, List.set_cons_zero, List.set_cons_succ]; rfl) (hi : ops[i]? = some oi := by rfl) (hN : oi.dst = N := by rfl)
    (hc : anyB md ops l l' i = true := by kernel_rfl) (hQ : ∀ c a w, Q (.panic c) (a.put oi.dst v) w → Q (.panic c) a w := by exact fun _ _ _ h => h) (hy1 : Region.wanted oi (yielded ops a.tmps) = true := by rfl)
    (hy2 : ∀ w, (execOp a.eval oi).run P w = .ok (.value v) w := by intro w'; go_simp; with_reducible rfl) (ha : a.put N v = a' := by simp only [Act.put, List.setIfInBounds_toArray, List.set_cons_zero, List.set_cons_succ, i64_w, i32_w]; rfl) :
    wpAnyLast P md ops Q S ds (fuel + 1) l a w := pure_ l' hi hN hc hQ (.inl ⟨hy1, hy2⟩) ha h
theorem ta_ (i : Nat) (N : Option Tmp) {oi : Oper} {v : Value} {fuel : Nat} {l : Array Bool} {a : Act} {w : World} {l' : Array Bool} {a' : Act} (hl : l.setIfInBounds i true = l' := by simp only [List.setIfInBounds_toArray, List.set_cons_zero, List.set_cons_succ]; rfl) (hi : ops[i]? = some oi := by rfl) (hN : oi.dst = N := by rfl)
    (hc : takeB md ops ds l l' i = true := by kernel_rfl) (hQ : ∀ c a w, Q (.panic c) (a.put oi.dst v) w → Q (.panic c) a w := by exact fun _ _ _ h => h) (hy1 : Region.wanted oi (yielded ops a.tmps) = true := by rfl) (s : S w) (y : ∀ w, S w → (execOp a.eval oi).run P w = .ok (.value v) w)
    (ha : a.put N v = a' := by simp only [Act.put, List.setIfInBounds_toArray, List.set_cons_zero, List.set_cons_succ, i64_w, i32_w]; rfl) (h : wpAnyLast P md ops Q S ds fuel l' a' w) :
    wpAnyLast P md ops Q S ds (fuel + 1) l a w := take_ l' hi hN hc hQ (.inl ⟨hy1, y⟩) s ha h
theorem no_ (N : Tmp) {fuel : Nat} {l : Array Bool} {a a' : Act} {v : Value} {w : World} (h : wpAnyLast P md ops Q S ds fuel l a' w) (ha : a.put (some N) v = a' := by simp only [Act.put, List.setIfInBounds_toArray, List.set_cons_zero, List.set_cons_succ, i64_w, i32_w]; rfl) : wpAnyLast P md ops Q S ds fuel l (a.put (some N) v) w := norm_ ha h
end
section
variable {P : Program} {ops : Array Oper} {Q : Exit → Act → World → Prop}
theorem goesV_ {oi : Oper} {N : Option Tmp} {a : Act} {w : World} {K : Act → World → Prop} {f : FuncId} {fn : Func} {x : Operand} {xs : Array Operand} {ts : Array TypeId} (hf : P.funcs[f]? = some fn) (hname : (fn.name == "runtime.NumGoroutine") = false) (hb : fn.body.isSome = true) (args first cap : Array Value)
    (hw : Region.wanted oi (yielded ops a.tmps) = true) (hN : oi.dst = N) (hop : oi.op = .call { callee := .value x, args := xs, argTypes := ts }) (hx : a.eval x = .func (.func f) first cap) (hargs : first ++ xs.map a.eval ++ cap = args)
    (h : Calls P f args w fun e w' => ∃ v, e = .returned v ∧ K (a.put N v) w') : if Region.wanted oi (yielded ops a.tmps) = true then Oper.wp P oi a w K Q else K (a.put N undef) w := by
  refine call_ f args hw hN ?_ h
  have he := enters_ hf hname hb args w
  unfold execOp
  simp [hop, resolve, Deferred.ofValue, invoke, hx, hargs, he]
end
/-- A part of a row replaced. -/
def splice (C : List Value) (o : Nat) (vs : List Value) : List Value := C.take o ++ vs ++ C.drop (o + vs.length)
theorem splice_whole {C vs : List Value} (h : C.length = vs.length) : splice C 0 vs = vs := by
  simp [splice, h]
theorem blk_whole {W : World} {g : Nat} {t : TypeId} {C vs : List Value} (h : W.heap[g]? = some (.cells (splice C 0 vs).toArray t (0, 0))) (hl : C.length = vs.length) : W.heap[g]? = some (.cells vs.toArray t (0, 0)) := by rw [splice_whole hl] at h; exact h
theorem blk_splice {W : World} {g o : Nat} {t : TypeId} {C vs : List Value} (h : W.heap[g]? = some (.cells C.toArray t (0, 0))) (hl : o + vs.length ≤ C.length) :
    (W.setCells g o vs).heap[g]? = some (.cells (splice C o vs).toArray t (0, 0)) := by
  obtain ⟨cur', h1, h2, h3⟩ := setCells_row (e := t) vs o W C.toArray h (by simpa using hl)
  rw [h1]
  congr 2
  rw [← Array.toList_inj, h3]
  simp [splice]
theorem grown_setCells (W : World) (g o : Nat) (vs : List Value) : W.grownBy (W.setCells g o vs) (some g) := by
  obtain ⟨h1, h2, h3, h4⟩ := setCells_same g vs o W
  exact ⟨h1, h2, h3, Nat.le_of_eq h4.symm, fun k _ hne => setCells_far vs o k (fun e => hne (by rw [e]))⟩
section
variable {P : Program} {ops : Array Oper} {rest : List Oper} {o : Oper} {a : Act} {Q : Exit → Act → World → Prop} {W : World}
/-- A whole variable is stored into a block of one's own. -/
theorem store_blk (hgd : o.guard = none) (ty : TypeId) (x y : Operand) (ho : o.op = .store ty x y) (hN : o.dst = none) (g off : Nat) (C vs : List Value) (t : TypeId) (hx : a.eval x = .pointer (some ⟨g, off, none⟩)) (hy : a.eval y = .agg vs.toArray)
    (hg : W.heap[g]? = some (.cells C.toArray t (0, 0))) (hl : off + vs.length ≤ C.length) (hi : (P.info? ty).map (·.size) = some vs.length) (h1 : ∀ v ∈ vs, v.oneCell' = true)
    (h : ∀ W', W'.heap[g]? = some (.cells (splice C off vs).toArray t (0, 0)) → W.grownBy W' (some g) → W'.heap.size = W.heap.size → wpList P ops Q rest a W') : wpList P ops Q (o :: rest) a W := by
  have ht : W.there g off vs.toArray.size := fun j hj => by
    refine ⟨?_, blk_frozen hg _⟩
    rw [blk_cell hg]
    have : off + j < C.length := by simp at hj; omega
    simp [this]
  refine wpList_store_mid hgd ty x y ho g off vs.toArray hx hy ht (by simpa using hi) (all_oneCell_toArray h1) ?_
  rw [hN]
  exact h _ (blk_splice hg hl) (grown_setCells W g off vs) (setCells_same g vs off W).2.2.2
/-- A whole variable is loaded out of a known block. -/
theorem load_blk (hgd : o.guard = none) (ty : TypeId) (x : Operand) (ho : o.op = .load ty x) (g off : Nat) (C vs : List Value) (t : TypeId) (fr : Nat × Nat) (d : TypeDesc) (hx : a.eval x = .pointer (some ⟨g, off, none⟩))
    (hg : W.heap[g]? = some (.cells C.toArray t fr)) (hv : (C.drop off).take vs.length = vs) (hu : P.underlying ty = some d) (hd : d.isRow = true) (hi : (P.info? ty).map (·.size) = some vs.length)
    (h : wpList P ops Q rest (a.put o.dst (.agg vs.toArray)) W) : wpList P ops Q (o :: rest) a W := by
  refine wpList_load_mid hgd ty x ho g off hx vs d (fun j v hj => ?_) hu hd hi h
  rw [cell_of_row W g (off + j) C.toArray t fr hg]
  have hlt : j < vs.length := (List.getElem?_eq_some_iff.1 hj).1
  rw [← hv, List.getElem?_take, if_pos hlt, List.getElem?_drop] at hj
  simpa using hj
end
section
variable {F : Fence} {n : Nat} {P : Program} {ops : Array Oper} {rest : List Oper} {o : Oper} {a : Act} {Q : Exit → Act → World → Prop} {W : World}
theorem gateIn_dst {N : Tmp} (_hN : o.dst = some N) (h : wpListIn F n P ops Q (o :: rest) a W) : wpListIn F n P ops Q (o :: rest) a W := h
theorem gateIn_store {t : TypeId} {p : Tmp} {v : Operand} (_ho : o.op = .store t (.tmp p) v) (h : wpListIn F n P ops Q (o :: rest) a W) : wpListIn F n P ops Q (o :: rest) a W := h
/-- The same two in a fence. -/
theorem loadIn_blk (hgd : o.guard = none) (ty : TypeId) (x : Operand) (ho : o.op = .load ty x) (g off : Nat) (C vs : List Value) (t : TypeId) (fr : Nat × Nat) (d : TypeDesc) (hx : a.eval x = .pointer (some ⟨g, off, none⟩))
    (hg : W.heap[g]? = some (.cells C.toArray t fr)) (hv : (C.drop off).take vs.length = vs) (hu : P.underlying ty = some d) (hd : d.isRow = true) (hi : (P.info? ty).map (·.size) = some vs.length)
    (h : wpListIn F n P ops Q rest (a.put o.dst (.agg vs.toArray)) W) : wpListIn F n P ops Q (o :: rest) a W := by
  have hr : W.rangeAt g off vs := fun j v hj => by
    rw [cell_of_row W g (off + j) C.toArray t fr hg]
    have hlt : j < vs.length := (List.getElem?_eq_some_iff.1 hj).1
    rw [← hv, List.getElem?_take, if_pos hlt, List.getElem?_drop] at hj
    simpa using hj
  refine wpListIn_plain hgd fun K hK => ?_
  unfold Oper.wpIn
  refine ⟨by simp [Oper.about, ho], ?_⟩
  rw [Oper.semAt_eq _ _ _ (by rw [ho]; intro c hc; cases hc)]
  unfold execOp
  simp only [ho, hx, Instr.loadAt, Instr.sureAddr, Sem.run_bind, Sem.run_pure, Result.andThen_ok, run_loadVar_mid W g off ty vs d hr hu hd hi]
  exact hK _ _ h
theorem storeIn_blk (hgd : o.guard = none) (ty : TypeId) (x y : Operand) (ho : o.op = .store ty x y) (hN : o.dst = none) (g off : Nat) (C vs : List Value) (t : TypeId) (hx : a.eval x = .pointer (some ⟨g, off, none⟩)) (hy : a.eval y = .agg vs.toArray)
    (hg : W.heap[g]? = some (.cells C.toArray t (0, 0))) (hl : off + vs.length ≤ C.length) (hi : (P.info? ty).map (·.size) = some vs.length) (h1 : ∀ v ∈ vs, v.oneCell' = true)
    (h : ∀ W', W'.heap[g]? = some (.cells (splice C off vs).toArray t (0, 0)) → W.grownBy W' (some g) → W'.heap.size = W.heap.size → wpListIn F n P ops Q rest a W') : wpListIn F n P ops Q (o :: rest) a W := by
  have ht : W.there g off vs.toArray.size := fun j hj => by
    refine ⟨?_, blk_frozen hg _⟩
    rw [blk_cell hg]
    have : off + j < C.length := by simp at hj; omega
    simp [this]
  refine wpListIn_plain hgd fun K hK => ?_
  unfold Oper.wpIn
  refine ⟨by simp [Oper.about, ho], ?_⟩
  rw [Oper.semAt_eq _ _ _ (by rw [ho]; intro c hc; cases hc)]
  unfold execOp
  simp only [ho, hx, hy, Instr.storeAt, Instr.sureAddr, Sem.run_bind, Sem.run_pure, Result.andThen_ok, run_storeVar_mid W g off ty vs.toArray ht (by simpa using hi) (all_oneCell_toArray h1)]
  refine hK _ _ ?_
  rw [hN]
  exact h _ (blk_splice hg hl) (grown_setCells W g off vs) (setCells_same g vs off W).2.2.2
end
/-- Elements of sz cells each lie from an address on. -/
def FRow {α : Type} (enc : α → List Value) (sz : Nat) (w : World) (A : Option Addr) (xs : List α) : Prop :=
  xs = [] ∨ ∃ b o, A = some ⟨b, o, none⟩ ∧ b < w.heap.size ∧ ∀ i x, xs[i]? = some x → w.rangeAt b (o + i * sz) (enc x)
theorem FRow.below {α : Type} {enc : α → List Value} {sz : Nat} {w w' : World} {A : Option Addr} {xs : List α} (h : FRow enc sz w A xs) (hb : Below w.heap.size w w') : FRow enc sz w' A xs := by
  rcases h with h | ⟨b, o, e, hlt, hc⟩
  · exact .inl h
  · exact .inr ⟨b, o, e, Nat.lt_of_lt_of_le hlt hb.size, fun i x hx j v hv => (hb.cell (p := ⟨b, o + i * sz + j, none⟩) hlt).trans (hc i x hx j v hv)⟩
theorem cell_spot {w : World} {a : Addr} {v : Value} (h : w.cell? a = some v) : a.spot = none := by
  unfold World.cell? at h
  cases hs : a.spot with
  | none => rfl
  | some x => simp [hs] at h; split at h <;> simp_all
theorem FRow.of_C {α : Type} {d : Kd α} {enc : α → List Value} {w : World} {A : Option Addr} {xs : List α} (h : Kd.C d w A xs.length xs) (hp : 0 < d.sz) (he : ∀ x c, d.K w x c → c = enc x) : FRow enc d.sz w A xs := by
  by_cases hn : xs.length = 0
  · exact .inl (List.eq_nil_of_length_eq_zero hn)
  obtain ⟨ad, e, hc⟩ := h.2.2 (by omega)
  obtain ⟨c0, hl0, hK0, hc0⟩ := hc 0 _ (List.getElem?_eq_getElem (by omega))
  have h00 := hc0 0 _ (List.getElem?_eq_getElem (by omega))
  have hspot : ad.spot = none := by
    have := cell_spot h00
    simpa [Addr.add] using this
  obtain ⟨b, o, sp⟩ := ad
  simp only at hspot
  subst hspot
  refine .inr ⟨b, o, e, World.block_lt_of_cell? w ⟨b, o, none⟩ (by simpa [Addr.add] using h00), fun i x hx j v hv => ?_⟩
  obtain ⟨c, hl, hK, hcc⟩ := hc i x hx
  have hv' := hcc j v (by rw [he x c hK]; exact hv)
  rw [Addr.add_mid, ← Nat.add_assoc] at hv'
  exact hv'
def e92 (x : S92) : List Value := [.int .i64 x.f0, .int .i64 x.f1]
def e90 (x : S90) : List Value := [.int .i64 x.f0.f0, .int .i64 x.f0.f1, .int .i64 x.f1]
def e43 (x : S43) : List Value := [.int .i64 x.f0, .int .i64 x.f1]
theorem row92 {w : World} {A : Option Addr} {xs : List S92} (h : Kd.C k92 w A xs.length xs) : FRow e92 2 w A xs := FRow.of_C h (by decide) fun _ _ hK => k92_open hK
theorem row90 {w : World} {A : Option Addr} {xs : List S90} (h : Kd.C k90 w A xs.length xs) : FRow e90 3 w A xs := FRow.of_C h (by decide) fun _ _ hK => k90_open hK
theorem row43 {w : World} {A : Option Addr} {xs : List S43} (h : Kd.C k43 w A xs.length xs) : FRow e43 2 w A xs := FRow.of_C h (by decide) fun _ _ hK => k43_open hK
/-- The cells of a layer. -/
theorem at92 {w : World} {A : Option Addr} {xs : List S92} (h : FRow e92 2 w A xs) (i : Nat) (hi : i < xs.length) : ∃ b o, A = some ⟨b, o, none⟩ ∧ b < w.heap.size ∧
    w.cell? ⟨b, o + i * 2, none⟩ = some (.int .i64 xs[i].f0) ∧ w.cell? ⟨b, o + i * 2 + 1, none⟩ = some (.int .i64 xs[i].f1) := by
  rcases h with rfl | ⟨b, o, e, hlt, hc⟩
  · simp at hi
  · exact ⟨b, o, e, hlt, hc i _ (List.getElem?_eq_getElem hi) 0 _ rfl, hc i _ (List.getElem?_eq_getElem hi) 1 _ rfl⟩
end Go.Proofs.YthgjedagbgmgmaaDoor.Pr
namespace Go.Proofs.YthgjedagbgmgmaaDoor.Pr
open Go.RowKit Go.Proofs.YthgjedagbgmgmaaDoorW.PrintWords Go.Proofs.YthgjedagbgmgmaaDoorW.PrintLast Go.Proofs.YthgjedagbgmgmaaDoorW.PrintMore
set_option linter.unusedVariables false
set_option linter.unusedSimpArgs false
set_option maxHeartbeats 400000 in
theorem dry_calls (b r n y k : Int) (w : World) :
    Calls Tryd.prog 198 #[.agg #[.int .i64 b, .int .i64 r], .agg #[.int .i64 n, .int .i64 y], .int .i64 k] w
      fun e w' => e = .returned (.agg #[.int .i64 b, .int .i64 r]) ∧ Below w.heap.size w w' := by
  go_enter Tryd.func198, Tryd.ntmps198
  go_wp2
  refine bodyPost_ret (v := .agg #[.int .i64 b, .int .i64 r]) (by simp [results, Tryd.results198, go_sem]) rfl ⟨rfl, ?_⟩
  exact by repeat (first | exact Below.refl _ _ | refine Below.alloc ?_ (by simp <;> omega) _ | refine Below.setCell ?_ (by simp <;> omega) _ | apply Below.drew)
set_option maxHeartbeats 400000 in
theorem wet_calls (b r n y k : Int) (w : World) :
    Calls Tryd.prog 199 #[.agg #[.int .i64 b, .int .i64 r], .agg #[.int .i64 n, .int .i64 y], .int .i64 k] w
      fun e w' => e = .returned (.agg #[.int .i64 b, .int .i64 (-1)]) ∧ Below w.heap.size w w' := by
  go_enter Tryd.func199, Tryd.ntmps199
  go_wp2
  refine bodyPost_ret (v := .agg #[.int .i64 b, .int .i64 (-1)]) (by simp [results, Tryd.results199, go_sem]) rfl ⟨rfl, ?_⟩
  exact by repeat (first | exact Below.refl _ _ | refine Below.alloc ?_ (by simp <;> omega) _ | refine Below.setCell ?_ (by simp <;> omega) _ | apply Below.drew)
set_option maxHeartbeats 400000 in
theorem damp_calls (b r n y k : Int) (w : World) (hr : -1 ≤ r) (hr2 : r ≤ 1000) (hk : 0 ≤ k) (hk2 : k ≤ 20) (hb : 0 ≤ b) (hb2 : b ≤ 4) :
    Calls Tryd.prog 193 #[.agg #[.int .i64 b, .int .i64 r], .agg #[.int .i64 n, .int .i64 y], .int .i64 k] w
      fun e w' => e = .returned (if n ≤ r + k then .agg #[.int .i64 (b + 1), .int .i64 (-1)] else .agg #[.int .i64 b, .int .i64 (r + k)]) ∧ Below w.heap.size w w' := by
  by_cases h : n ≤ r + k
  · rw [if_pos h]
    go_enter Tryd.func193, Tryd.ntmps193
    go_wp2
    refine bodyPost_ret (v := .agg #[.int .i64 (b + 1), .int .i64 (-1)]) (by simp [results, Tryd.results193, go_sem]) rfl ⟨rfl, ?_⟩
    exact by repeat (first | exact Below.refl _ _ | refine Below.alloc ?_ (by simp <;> omega) _ | refine Below.setCell ?_ (by simp <;> omega) _ | apply Below.drew)
  · rw [if_neg h]
    go_enter Tryd.func193, Tryd.ntmps193
    go_wp2
    refine bodyPost_ret (v := .agg #[.int .i64 b, .int .i64 (r + k)]) (by simp [results, Tryd.results193, go_sem]) rfl ⟨rfl, ?_⟩
    exact by repeat (first | exact Below.refl _ _ | refine Below.alloc ?_ (by simp <;> omega) _ | refine Below.setCell ?_ (by simp <;> omega) _ | apply Below.drew)
set_option maxHeartbeats 400000 in
theorem unlaid_calls (w : World) :
    Calls Tryd.prog 125 #[] w fun e w' => e = .returned (.agg #[.int .i64 0, .int .i64 0, .int .i64 0, .int .i64 0]) ∧ Below w.heap.size w w' := by
  go_enter Tryd.func125, Tryd.ntmps125
  go_wp2
  refine bodyPost_ret (v := .agg #[.int .i64 0, .int .i64 0, .int .i64 0, .int .i64 0]) (by simp [results, Tryd.results125, go_sem]) rfl ⟨rfl, ?_⟩
  exact by repeat (first | exact Below.refl _ _ | refine Below.alloc ?_ (by simp <;> omega) _ | refine Below.setCell ?_ (by simp <;> omega) _ | apply Below.drew)
set_option maxHeartbeats 400000 in
theorem never1_calls (d s : Int) (w : World) :
    Calls Tryd.prog 130 #[.int .i64 d, .int .i64 s] w fun e w' => e = .returned (.int .i64 s) ∧ w = w' := by
  go_enter Tryd.func130, Tryd.ntmps130
  go_wp2
  go_ret
  exact ⟨rfl, rfl⟩
set_option maxHeartbeats 400000 in
theorem on1_calls (d s at_ : Int) (a : Addr) (w : World) (hc : w.cell? a = some (.int .i64 at_)) :
    Calls Tryd.prog 131 #[.int .i64 d, .int .i64 s, .pointer (some a)] w fun e w' => e = .returned (.int .i64 (if d = at_ ∧ s = 0 then 1 else s)) ∧ w = w' := by
  by_cases h1 : d = at_
  · subst h1
    by_cases h2 : s = 0
    · subst h2
      go_enter Tryd.func131, Tryd.ntmps131
      go_wp2
      go_ret
      exact ⟨by simp, rfl⟩
    · go_enter Tryd.func131, Tryd.ntmps131
      go_wp2
      go_ret
      exact ⟨by simp [h2], rfl⟩
  · go_enter Tryd.func131, Tryd.ntmps131
    go_wp2
    go_ret
    exact ⟨by simp [h1], rfl⟩
set_option maxHeartbeats 400000 in
theorem never_calls (w : World) :
    Calls Tryd.prog 99 #[] w fun e w' => e = .returned (.agg #[.func (.func 130) #[] #[]]) ∧ Below w.heap.size w w' := by
  go_enter Tryd.func99, Tryd.ntmps99
  go_wp2
  refine bodyPost_ret (v := .agg #[.func (.func 130) #[] #[]]) (by simp [results, Tryd.results99, go_sem]) rfl ⟨rfl, ?_⟩
  exact by repeat (first | exact Below.refl _ _ | refine Below.alloc ?_ (by simp <;> omega) _ | refine Below.setCell ?_ (by simp <;> omega) _ | apply Below.drew)
set_option maxHeartbeats 400000 in
theorem on_calls (d : Int) (w : World) :
    Calls Tryd.prog 100 #[.int .i64 d] w fun e w' => e = .returned (.agg #[.func (.func 131) #[] #[.pointer (some ⟨w.heap.size, 0, none⟩)]]) ∧ Below w.heap.size w w' ∧ w'.cell? ⟨w.heap.size, 0, none⟩ = some (.int .i64 d) ∧ w.heap.size < w'.heap.size := by
  go_enter Tryd.func100, Tryd.ntmps100
  go_wp2
  refine bodyPost_ret (v := .agg #[.func (.func 131) #[] #[.pointer (some ⟨w.heap.size, 0, none⟩)]]) (by simp [results, Tryd.results100, go_sem]) rfl ⟨rfl, ?_, ?_, ?_⟩
  · exact by repeat (first | exact Below.refl _ _ | refine Below.alloc ?_ (by simp <;> omega) _ | refine Below.setCell ?_ (by simp <;> omega) _ | apply Below.drew)
  · go_simp
  · simp; omega
set_option maxHeartbeats 400000 in
theorem done1_calls (a b : Int) (w : World) :
    Calls Tryd.prog 95 #[.agg #[.int .i64 a, .int .i64 b]] w fun e w' => e = .returned (.int .i64 a) ∧ Below w.heap.size w w' := by
  go_enter Tryd.func95, Tryd.ntmps95
  go_wp2
  go_ret
  exact ⟨rfl, by repeat (first | exact Below.refl _ _ | refine Below.alloc ?_ (by simp <;> omega) _ | refine Below.setCell ?_ (by simp <;> omega) _ | apply Below.drew)⟩
set_option maxHeartbeats 400000 in
theorem perhaps1_calls (a b : Int) (w : World) :
    Calls Tryd.prog 97 #[.agg #[.int .i64 a, .int .i64 b]] w fun e w' => e = .returned (.int .i64 b) ∧ Below w.heap.size w w' := by
  go_enter Tryd.func97, Tryd.ntmps97
  go_wp2
  go_ret
  exact ⟨rfl, by repeat (first | exact Below.refl _ _ | refine Below.alloc ?_ (by simp <;> omega) _ | refine Below.setCell ?_ (by simp <;> omega) _ | apply Below.drew)⟩
end Go.Proofs.YthgjedagbgmgmaaDoor.Pr
namespace Go.Proofs.YthgjedagbgmgmaaDoor.Pr
open Go.RowKit Go.Proofs.YthgjedagbgmgmaaDoorW.PrintWords Go.Proofs.YthgjedagbgmgmaaDoorW.PrintLast Go.Proofs.YthgjedagbgmgmaaDoorW.PrintMore
set_option linter.unusedVariables false
set_option linter.unusedSimpArgs false
theorem eqS116 (d : Nat) (w : World) (x0 y0 : Int) (x1 y1 : Int) :
    (Op.equalIn (d + 2) 116 (.agg #[.int .i64 x0, .int .i64 x1]) (.agg #[.int .i64 y0, .int .i64 y1])).run Tryd.prog w = .ok (x0 == y0 && (x1 == y1)) w := by
  refine eqA_of Tryd.underlying116 (by kernel_rfl) ?_
  refine eqf_cons (by rfl) (by go_simp; rfl) (by go_simp; rfl) (by go_simp) ?_
  exact eqf_last (by rfl) (by go_simp; rfl) (by go_simp; rfl) (by go_simp)
theorem eq116 (w : World) (x0 y0 : Int) (x1 y1 : Int) :
    (Op.equal 116 (.agg #[.int .i64 x0, .int .i64 x1]) (.agg #[.int .i64 y0, .int .i64 y1])).run Tryd.prog w = .ok (x0 == y0 && (x1 == y1)) w := eqS116 9998 w x0 y0 x1 y1
/-- The entries of the map: the first n layers' bare states. -/
def bareMap : Nat → List MapEntry
  | 0 => []
  | n + 1 => bareMap n ++ [{ key := .agg #[.int .i64 (n : Int), .int .i64 (-1)], val := .bool true, born := n }]
theorem checkS116 (d : Nat) (w : World) (e : Bool) (b r : Int) : (Instr.checkKey e (d + 2) 116 (.agg #[.int .i64 b, .int .i64 r])).run Tryd.prog w = .ok () w := by
  have hu : Tryd.prog.underlying 116 = _ := Tryd.underlying116
  have hu3 : Tryd.prog.underlying 3 = _ := Tryd.underlying3
  rw [Instr.checkKey]
  simp only [Sem.run_bind, run_underlying hu, Result.andThen]
  have h3 : ∀ x : Int, (Instr.checkKey e (d + 1) 3 (.int .i64 x)).run Tryd.prog w = .ok () w := by
    intro x
    rw [Instr.checkKey]
    simp [Sem.run_bind, run_underlying hu3, Result.andThen]
  have p0 : (part 3 #[.int .i64 b, .int .i64 r] 0).run Tryd.prog w = .ok (.int .i64 b) w := by go_simp
  have p1 : (part 3 #[.int .i64 b, .int .i64 r] 1).run Tryd.prog w = .ok (.int .i64 r) w := by go_simp
  simp [Sem.run_bind, h3, p0, p1, Result.andThen]
theorem checkKey116 (w : World) (e : Bool) (b r : Int) : (Instr.checkKey e 10000 116 (.agg #[.int .i64 b, .int .i64 r])).run Tryd.prog w = .ok () w := checkS116 9998 w e b r
theorem zero4 (w : World) : (zeroValue 4).run Tryd.prog w = .ok (.bool false) w := by kernel_rfl
theorem lookup_bare (w : World) (m : Nat) (c : Nat) (n : Nat) (h1 : 1 ≤ n) (h4 : n ≤ 4) (b r : Int) (hm : w.heap[m]? = some (.map (bareMap n).toArray c)) :
    (Instr.lookup 104 (.map (some m)) (.agg #[.int .i64 b, .int .i64 r]) false).run Tryd.prog w = .ok (.bool (decide (r = -1 ∧ 0 ≤ b ∧ b < n))) w := by
  have hu : Tryd.prog.underlying 104 = _ := Tryd.underlying104
  have hu2 : Tryd.prog.underlying 116 = _ := Tryd.underlying116
  by_cases hr : r = -1
  · subst hr
    obtain rfl | rfl | rfl | rfl : n = 1 ∨ n = 2 ∨ n = 3 ∨ n = 4 := by omega
    all_goals
      simp [Instr.lookup, Sem.run_bind, run_underlying hu, MapKept.run_getObj_map hm, checkKey116, bareMap, Instr.findKey, run_underlying hu2, Instr.findNow, Instr.sameNow, Instr.findAsking, eq116, Result.andThen]
      by_cases e0 : b = 0
      · subst e0; simp
      by_cases e1 : b = 1
      · subst e1; simp [zero4]
      by_cases e2 : b = 2
      · subst e2; simp [zero4]
      by_cases e3 : b = 3
      · subst e3; simp [zero4]
      simp [e0, e1, e2, e3, zero4]
      omega
  · obtain rfl | rfl | rfl | rfl : n = 1 ∨ n = 2 ∨ n = 3 ∨ n = 4 := by omega
    all_goals
      simp [Instr.lookup, Sem.run_bind, run_underlying hu, MapKept.run_getObj_map hm, checkKey116, bareMap, Instr.findKey, run_underlying hu2, Instr.findNow, Instr.sameNow, Instr.findAsking, eq116, Result.andThen, hr, zero4]
theorem update_bare (w : World) (m : Nat) (n : Nat) (h4 : n ≤ 3) (hm : w.heap[m]? = some (.map (bareMap n).toArray n)) :
    (Instr.mapUpdate 104 (.map (some m)) (.agg #[.int .i64 (n : Int), .int .i64 (-1)]) (.bool true)).run Tryd.prog w = .ok () { w with heap := w.heap.setIfInBounds m (.map (bareMap (n + 1)).toArray (n + 1)) } := by
  have hu : Tryd.prog.underlying 104 = _ := Tryd.underlying104
  have hu2 : Tryd.prog.underlying 116 = _ := Tryd.underlying116
  obtain rfl | rfl | rfl | rfl : n = 0 ∨ n = 1 ∨ n = 2 ∨ n = 3 := by omega
  all_goals
    simp [Instr.mapUpdate, Sem.run_bind, run_underlying hu, MapKept.run_getObj_map hm, checkKey116, bareMap, Instr.findKey, run_underlying hu2, Instr.findNow, Instr.sameNow, Instr.findAsking, eq116, Result.andThen, MapKept.run_setObj_map _ hm]
end Go.Proofs.YthgjedagbgmgmaaDoor.Pr
namespace Go.Proofs.YthgjedagbgmgmaaDoor.Pr
open Go.RowKit Go.Proofs.YthgjedagbgmgmaaDoorW.PrintWords Go.Proofs.YthgjedagbgmgmaaDoorW.PrintLast Go.Proofs.YthgjedagbgmgmaaDoorW.PrintMore
set_option linter.unusedVariables false
set_option linter.unusedSimpArgs false
structure Rd where
  bound : Int
  rolled : Int
  a0 : Int
  a1 : Int
  a2 : Int
  a3 : Int
  o0 : Int
  o1 : Int
  o2 : Int
  o3 : Int
def Rd.lay (r : Rd) : Rd := if r.bound = 0 then { r with a0 := r.a0 + 1 } else if r.bound = 1 then { r with a1 := r.a1 + 1 } else if r.bound = 2 then { r with a2 := r.a2 + 1 } else { r with a3 := r.a3 + 1 }
def Rd.lose (r : Rd) : Rd := if r.bound = 0 then { r with o0 := r.o0 + 1 } else if r.bound = 1 then { r with o1 := r.o1 + 1 } else if r.bound = 2 then { r with o2 := r.o2 + 1 } else { r with o3 := r.o3 + 1 }
def Rd.laidAt (r : Rd) : Int := if r.bound = 0 then r.a0 else if r.bound = 1 then r.a1 else if r.bound = 2 then r.a2 else r.a3
def Rd.lostAt (r : Rd) : Int := if r.bound = 0 then r.o0 else if r.bound = 1 then r.o1 else if r.bound = 2 then r.o2 else r.o3
/-- A layer is laid, if none lies there. -/
def Rd.start (r : Rd) : Rd := if r.rolled = -1 then { r.lay with rolled := 0 } else r
/-- The wet. -/
def Rd.drown (r : Rd) (sky : Int) : Rd := if sky = 2 then r.lose else r
/-- All counts are small. -/
structure Rd.Ok (n : Nat) (c : Int) (r : Rd) : Prop where
  b0 : 0 ≤ r.bound
  b1 : r.bound ≤ n
  r0 : -1 ≤ r.rolled
  r1 : r.rolled ≤ 20 * c
  a0 : 0 ≤ r.a0 ∧ r.a0 ≤ c
  a1 : 0 ≤ r.a1 ∧ r.a1 ≤ c
  a2 : 0 ≤ r.a2 ∧ r.a2 ≤ c
  a3 : 0 ≤ r.a3 ∧ r.a3 ≤ c
  o0 : 0 ≤ r.o0 ∧ r.o0 ≤ c
  o1 : 0 ≤ r.o1 ∧ r.o1 ≤ c
  o2 : 0 ≤ r.o2 ∧ r.o2 ≤ c
  o3 : 0 ≤ r.o3 ∧ r.o3 ≤ c
theorem Rd.laid_b {n : Nat} {c : Int} {r : Rd} (h : r.Ok n c) : 0 ≤ r.laidAt ∧ r.laidAt ≤ c := by
  unfold Rd.laidAt
  split; exact h.a0
  split; exact h.a1
  split; exact h.a2
  exact h.a3
theorem Rd.lost_b {n : Nat} {c : Int} {r : Rd} (h : r.Ok n c) : 0 ≤ r.lostAt ∧ r.lostAt ≤ c := by
  unfold Rd.lostAt
  split; exact h.o0
  split; exact h.o1
  split; exact h.o2
  exact h.o3
theorem blk_at (W : World) (o : Obj) (n : Nat) (h : n = W.heap.size) : (W.alloc o).heap[n]? = some o := by subst h; exact blk_new W o
theorem cases4 {b : Int} (h0 : 0 ≤ b) (h1 : b < 4) : b = 0 ∨ b = 1 ∨ b = 2 ∨ b = 3 := by omega
theorem at_lay {W : World} {g : Nat} {r : Rd} (h0 : 0 ≤ r.bound) (h4 : r.bound < 4) (h : W.heap[g]? = some (.cells #[.int .i64 r.bound, .int .i64 r.rolled, .int .i64 r.a0, .int .i64 r.a1, .int .i64 r.a2, .int .i64 r.a3, .int .i64 r.o0, .int .i64 r.o1, .int .i64 r.o2, .int .i64 r.o3] 120 (0, 0))) : W.cell? ⟨g, 2 + r.bound.toNat, none⟩ = some (.int .i64 r.laidAt) := by
  rw [blk_cell h]
  rcases cases4 h0 h4 with e | e | e | e <;> simp [Rd.laidAt, e]
theorem at_lost {W : World} {g : Nat} {r : Rd} (h0 : 0 ≤ r.bound) (h4 : r.bound < 4) (h : W.heap[g]? = some (.cells #[.int .i64 r.bound, .int .i64 r.rolled, .int .i64 r.a0, .int .i64 r.a1, .int .i64 r.a2, .int .i64 r.a3, .int .i64 r.o0, .int .i64 r.o1, .int .i64 r.o2, .int .i64 r.o3] 120 (0, 0))) : W.cell? ⟨g, 6 + r.bound.toNat, none⟩ = some (.int .i64 r.lostAt) := by
  rw [blk_cell h]
  rcases cases4 h0 h4 with e | e | e | e <;> simp [Rd.lostAt, e]
theorem put_lay {W : World} {g : Nat} {r : Rd} (h0 : 0 ≤ r.bound) (h4 : r.bound < 4) (h : W.heap[g]? = some (.cells #[.int .i64 r.bound, .int .i64 r.rolled, .int .i64 r.a0, .int .i64 r.a1, .int .i64 r.a2, .int .i64 r.a3, .int .i64 r.o0, .int .i64 r.o1, .int .i64 r.o2, .int .i64 r.o3] 120 (0, 0))) :
    ((W.setCell ⟨g, 2 + r.bound.toNat, none⟩ (.int .i64 (r.laidAt + 1))).setCell ⟨g, 1, none⟩ (.int .i64 0)).heap[g]? = some (.cells #[.int .i64 ({ r.lay with rolled := 0 } : Rd).bound, .int .i64 ({ r.lay with rolled := 0 } : Rd).rolled, .int .i64 ({ r.lay with rolled := 0 } : Rd).a0, .int .i64 ({ r.lay with rolled := 0 } : Rd).a1, .int .i64 ({ r.lay with rolled := 0 } : Rd).a2, .int .i64 ({ r.lay with rolled := 0 } : Rd).a3, .int .i64 ({ r.lay with rolled := 0 } : Rd).o0, .int .i64 ({ r.lay with rolled := 0 } : Rd).o1, .int .i64 ({ r.lay with rolled := 0 } : Rd).o2, .int .i64 ({ r.lay with rolled := 0 } : Rd).o3] 120 (0, 0)) := by
  refine blk_put (blk_set h _ _) 1 _ ?_
  rcases cases4 h0 h4 with e | e | e | e <;> simp [Rd.laidAt, Rd.lay, e]
theorem put_lost {W : World} {g : Nat} {r : Rd} (h0 : 0 ≤ r.bound) (h4 : r.bound < 4) (h : W.heap[g]? = some (.cells #[.int .i64 r.bound, .int .i64 r.rolled, .int .i64 r.a0, .int .i64 r.a1, .int .i64 r.a2, .int .i64 r.a3, .int .i64 r.o0, .int .i64 r.o1, .int .i64 r.o2, .int .i64 r.o3] 120 (0, 0))) :
    (W.setCell ⟨g, 6 + r.bound.toNat, none⟩ (.int .i64 (r.lostAt + 1))).heap[g]? = some (.cells #[.int .i64 r.lose.bound, .int .i64 r.lose.rolled, .int .i64 r.lose.a0, .int .i64 r.lose.a1, .int .i64 r.lose.a2, .int .i64 r.lose.a3, .int .i64 r.lose.o0, .int .i64 r.lose.o1, .int .i64 r.lose.o2, .int .i64 r.lose.o3] 120 (0, 0)) := by
  refine blk_put h _ _ ?_
  rcases cases4 h0 h4 with e | e | e | e <;> simp [Rd.lostAt, Rd.lose, e]
theorem Rd.lay_bound (r : Rd) : r.lay.bound = r.bound := by unfold Rd.lay; (repeat' split) <;> rfl
theorem Rd.lose_bound (r : Rd) : r.lose.bound = r.bound := by unfold Rd.lose; (repeat' split) <;> rfl
theorem Rd.lose_rolled (r : Rd) : r.lose.rolled = r.rolled := by unfold Rd.lose; (repeat' split) <;> rfl
theorem Rd.start_bound (r : Rd) : r.start.bound = r.bound := by unfold Rd.start; split; exact r.lay_bound; rfl
theorem Rd.drown_bound (r : Rd) (s : Int) : (r.drown s).bound = r.bound := by unfold Rd.drown; split; exact r.lose_bound; rfl
theorem Rd.drown_rolled (r : Rd) (s : Int) : (r.drown s).rolled = r.rolled := by unfold Rd.drown; split; exact r.lose_rolled; rfl
theorem Rd.start_lay {r : Rd} (h : (r.rolled == -1) = true) : r.start = { r.lay with rolled := 0 } := by unfold Rd.start; rw [if_pos (by simpa using h)]
theorem Rd.start_no {r : Rd} (h : (r.rolled == -1) = false) : r.start = r := by unfold Rd.start; rw [if_neg (by simpa using h)]
theorem Rd.start_ok {n : Nat} {c : Int} {r : Rd} (h : r.Ok n c) (hc : 0 ≤ c) : r.start.Ok n (c + 1) := by
  obtain ⟨h1, h2, h3, h4, h5, h6, h7, h8, h9, h10, h11, h12⟩ := h
  unfold Rd.start Rd.lay
  split
  · repeat' split
    all_goals exact ⟨by dsimp only; omega, by dsimp only; omega, by dsimp only; omega, by dsimp only; omega, by dsimp only; omega, by dsimp only; omega, by dsimp only; omega, by dsimp only; omega, by dsimp only; omega, by dsimp only; omega, by dsimp only; omega, by dsimp only; omega⟩
  · exact ⟨by omega, by omega, by omega, by omega, by omega, by omega, by omega, by omega, by omega, by omega, by omega, by omega⟩
set_option maxHeartbeats 4000000 in
set_option maxRecDepth 100000 in
theorem after_walk (A1 A2 At : Option Addr) (bl ol c0 n1 c1 n2 c2 nt ct m cl f : Nat) (fn : Func) (l0 : List S92) (w : World) (hG : GOK w)
    (hc0 : l0.length ≤ c0) (h1 : 1 ≤ l0.length) (h4 : l0.length ≤ 4)
    (hm : w.heap[m]? = some (.map (bareMap l0.length).toArray cl)) (r : Rd) (ok : r.Ok l0.length 9) (hlt : r.bound < l0.length) (sky k x0 x1 b' r' : Int) (hk0 : 0 ≤ k) (hk1 : k ≤ 20) (hs0 : 0 ≤ sky) (hs1 : sky ≤ 2)
    (hlx : bl < w.heap.size) (hx0 : w.cell? ⟨bl, ol + r.bound.toNat * 2, none⟩ = some (.int .i64 x0)) (hx1 : w.cell? ⟨bl, ol + r.bound.toNat * 2 + 1, none⟩ = some (.int .i64 x1))
    (hs : w.cell? ⟨3, sky.toNat, none⟩ = some (.func (.func f) #[] #[])) (hfn : Tryd.prog.funcs[f]? = some fn) (hname : (fn.name == "runtime.NumGoroutine") = false) (hbody : fn.body.isSome = true)
    (hF : ∀ W, Calls Tryd.prog f #[.agg #[.int .i64 r.bound, .int .i64 r.start.rolled], .agg #[.int .i64 x0, .int .i64 x1], .int .i64 k] W fun e w' => e = .returned (.agg #[.int .i64 b', .int .i64 r']) ∧ Below W.heap.size W w') :
    Calls Tryd.prog 129 #[.agg #[.slice (some ⟨bl, ol, none⟩) l0.length c0, .slice A1 n1 c1, .slice A2 n2 c2, .map (some m), .slice At nt ct], .agg #[.int .i64 r.bound, .int .i64 r.rolled, .int .i64 r.a0, .int .i64 r.a1, .int .i64 r.a2, .int .i64 r.a3, .int .i64 r.o0, .int .i64 r.o1, .int .i64 r.o2, .int .i64 r.o3], .int .i64 sky, .int .i64 k] w
      fun e w' => e = .returned (.agg #[.int .i64 ({ r.start.drown sky with bound := b', rolled := r' } : Rd).bound, .int .i64 ({ r.start.drown sky with bound := b', rolled := r' } : Rd).rolled, .int .i64 ({ r.start.drown sky with bound := b', rolled := r' } : Rd).a0, .int .i64 ({ r.start.drown sky with bound := b', rolled := r' } : Rd).a1, .int .i64 ({ r.start.drown sky with bound := b', rolled := r' } : Rd).a2, .int .i64 ({ r.start.drown sky with bound := b', rolled := r' } : Rd).a3, .int .i64 ({ r.start.drown sky with bound := b', rolled := r' } : Rd).o0, .int .i64 ({ r.start.drown sky with bound := b', rolled := r' } : Rd).o1, .int .i64 ({ r.start.drown sky with bound := b', rolled := r' } : Rd).o2, .int .i64 ({ r.start.drown sky with bound := b', rolled := r' } : Rd).o3]) ∧ Below w.heap.size w w' := by
  have hz := hG.size
  have hz0 : 0 < w.heap.size := by omega
  have hb0 := hG.b0
  have hb1 := hG.b1
  have hbd0 := ok.b0
  have hbd4 : r.bound < 4 := by omega
  have hmlt : m < w.heap.size := (Array.getElem?_eq_some_iff.1 hm).1
  obtain ⟨x2, hx2⟩ : ∃ x, (r.rolled == -1) = x := ⟨_, rfl⟩
  have hlk : ∀ b, b = r.bound → ∀ A B C, (Instr.lookup 104 (.map (some m)) (.agg #[.int .i64 b, .int .i64 r.rolled]) false).run Tryd.prog (((w.alloc A).alloc B).alloc C) = .ok (.bool x2) (((w.alloc A).alloc B).alloc C) := by
    rintro b rfl A B C
    rw [lookup_bare _ m cl l0.length h1 h4 r.bound r.rolled (by rw [Below.heap_alloc _ _ _ (by simp; omega), Below.heap_alloc _ _ _ (by simp; omega), Below.heap_alloc _ _ _ (by omega)]; exact hm)]
    rw [decide_eq_decide.2 (show (r.rolled = -1 ∧ 0 ≤ r.bound ∧ r.bound < ↑l0.length) ↔ r.rolled = -1 from ⟨fun h => h.1, fun h => ⟨h, hbd0, hlt⟩⟩)]
    rw [← hx2]
    rfl
  have heq : (r.bound == (l0.length : Int)) = false := beq_eq_false_iff_ne.2 (by omega)
  have HX2 := Lib.hid hx2
  have HL0 := Lib.hid hbd0
  have HLT := Lib.hid hlt
  have HO := Lib.hid ok
  have HG := Lib.hid hG
  have HX0 := Lib.hid hx0
  have HX1 := Lib.hid hx1
  have HS := Lib.hid hs
  have HF := Lib.hid hF
  clear hm ok hG hx2 hx0 hx1 hs hF
  go_enter Tryd.func129, Tryd.ntmps129
  go_upto_region 3 with fail
  go_cut [28] (fun s28 wx => s28 = .bool x2 ∧ wx.heap[w.heap.size]? = some (.cells #[.slice (some ⟨bl, ol, none⟩) l0.length c0, .slice A1 n1 c1, .slice A2 n2 c2, .map (some m), .slice At nt ct] 107 (0, 0)) ∧ wx.heap[w.heap.size + 1]? = some (.cells #[.int .i64 r.bound, .int .i64 r.rolled, .int .i64 r.a0, .int .i64 r.a1, .int .i64 r.a2, .int .i64 r.a3, .int .i64 r.o0, .int .i64 r.o1, .int .i64 r.o2, .int .i64 r.o3] 120 (0, 0)) ∧ wx.heap[w.heap.size + 1 + 1]? = some (.cells #[.int .i64 0, .int .i64 0, .int .i64 0, .int .i64 0, .int .i64 0, .int .i64 0, .int .i64 0, .int .i64 0, .int .i64 0, .int .i64 0] 120 (0, 0)) ∧ Below w.heap.size w wx)
  case first =>
    obtain ⟨x1, hx1⟩ : ∃ x, (r.bound == 0) = x := ⟨_, rfl⟩
    have hx2 := HX2.out
    cases x1 <;> cases x2
    all_goals
      go_wp2
      all_goals
        go_meet
        exact ⟨rfl, blk_alloc (blk_alloc (blk_new _ _) _) _, blk_alloc (blk_at (w.alloc _) _ _ (by simp)) _, blk_at _ _ _ (by simp), by repeat (first | exact Below.refl _ _ | refine Below.alloc ?_ (by simp <;> omega) _ | refine Below.setCell ?_ (by simp <;> omega) _ | apply Below.drew)⟩
  case rest =>
  obtain ⟨rfl, h4_, h5_, h8_, hB_⟩ := hcut
  clear hlk heq hb0 hb1 hmlt
  have H4 := Lib.hid h4_
  have H5 := Lib.hid h5_
  have H8 := Lib.hid h8_
  have HB := Lib.hid hB_
  clear h4_ h5_ h8_ hB_
  go_upto_if 28 with fail
  go_cut [] (fun wx => wx.heap[w.heap.size]? = some (.cells #[.slice (some ⟨bl, ol, none⟩) l0.length c0, .slice A1 n1 c1, .slice A2 n2 c2, .map (some m), .slice At nt ct] 107 (0, 0)) ∧ wx.heap[w.heap.size + 1]? = some (.cells #[.int .i64 r.start.bound, .int .i64 r.start.rolled, .int .i64 r.start.a0, .int .i64 r.start.a1, .int .i64 r.start.a2, .int .i64 r.start.a3, .int .i64 r.start.o0, .int .i64 r.start.o1, .int .i64 r.start.o2, .int .i64 r.start.o3] 120 (0, 0)) ∧ wx.heap[w.heap.size + 1 + 1]? = some (.cells #[.int .i64 0, .int .i64 0, .int .i64 0, .int .i64 0, .int .i64 0, .int .i64 0, .int .i64 0, .int .i64 0, .int .i64 0, .int .i64 0] 120 (0, 0)) ∧ Below w.heap.size w wx)
  case first =>
    cases x2
    · go_wp2
      go_meet
      rw [Rd.start_no HX2.out]
      exact ⟨H4.out, H5.out, H8.out, HB.out⟩
    · have hv := at_lay hbd0 hbd4 H5.out
      obtain ⟨v, hvv⟩ : ∃ v, v = r.laidAt := ⟨_, rfl⟩
      obtain ⟨hv0, hv1⟩ := Rd.laid_b HO.out
      rw [← hvv] at hv hv0 hv1
      have HV := Lib.hid hvv
      clear hvv
      have hc0_ := (blk_cell H5.out 0).trans rfl
      have hc1_ := (blk_cell H5.out 1).trans rfl
      have hf0_ := blk_frozen H5.out (2 + r.bound.toNat)
      have hf1_ := blk_frozen H5.out 1
      go_wp2
      go_meet
      have HVo := HV.out
      subst HVo
      rw [Rd.start_lay HX2.out]
      exact ⟨blk_far (blk_far H4.out (by simp) _) (by simp) _, put_lay hbd0 hbd4 H5.out, blk_far (blk_far H8.out (by simp) _) (by simp) _, by repeat (first | exact HB.out | refine Below.setCell ?_ (by simp) _)⟩
  case rest =>
  obtain ⟨h4_, h5_, h8_, hB_⟩ := hcut
  clear H4 H5 H8 HB
  have OK1 := Lib.hid (Rd.start_ok HO.out (by decide))
  obtain ⟨r1, hr1⟩ : ∃ r1, r1 = r.start := ⟨_, rfl⟩
  have hbd : r1.bound = r.bound := by rw [hr1]; exact r.start_bound
  rw [← hr1] at h5_ OK1
  have HR1 := Lib.hid hr1
  have HBD := Lib.hid hbd
  have hbd0' : 0 ≤ r1.bound := by omega
  have hbd4' : r1.bound < 4 := by omega
  have H4 := Lib.hid h4_
  have H5 := Lib.hid h5_
  have H8 := Lib.hid h8_
  have HB := Lib.hid hB_
  clear h4_ h5_ h8_ hB_ hr1 hbd hbd0 hbd4 hlt
  go_upto_if 41 with fail
  go_cut [] (fun wx => wx.heap[w.heap.size]? = some (.cells #[.slice (some ⟨bl, ol, none⟩) l0.length c0, .slice A1 n1 c1, .slice A2 n2 c2, .map (some m), .slice At nt ct] 107 (0, 0)) ∧ wx.heap[w.heap.size + 1]? = some (.cells #[.int .i64 (r1.drown sky).bound, .int .i64 (r1.drown sky).rolled, .int .i64 (r1.drown sky).a0, .int .i64 (r1.drown sky).a1, .int .i64 (r1.drown sky).a2, .int .i64 (r1.drown sky).a3, .int .i64 (r1.drown sky).o0, .int .i64 (r1.drown sky).o1, .int .i64 (r1.drown sky).o2, .int .i64 (r1.drown sky).o3] 120 (0, 0)) ∧ wx.heap[w.heap.size + 1 + 1]? = some (.cells #[.int .i64 0, .int .i64 0, .int .i64 0, .int .i64 0, .int .i64 0, .int .i64 0, .int .i64 0, .int .i64 0, .int .i64 0, .int .i64 0] 120 (0, 0)) ∧ Below w.heap.size w wx)
  case first =>
    obtain ⟨x3, hx3⟩ : ∃ x, (sky == 2) = x := ⟨_, rfl⟩
    have HX3 := Lib.hid hx3
    cases x3
    · go_wp2
      go_meet
      have e : r1.drown sky = r1 := by unfold Rd.drown; rw [if_neg (by simpa using HX3.out)]
      rw [e]
      exact ⟨H4.out, H5.out, H8.out, HB.out⟩
    · have hv := at_lost hbd0' hbd4' H5.out
      obtain ⟨v, hvv⟩ : ∃ v, v = r1.lostAt := ⟨_, rfl⟩
      obtain ⟨hv0, hv1⟩ := Rd.lost_b OK1.out
      rw [← hvv] at hv hv0 hv1
      have HV := Lib.hid hvv
      clear hvv
      have hc0_ := (blk_cell H5.out 0).trans rfl
      have hf0_ := blk_frozen H5.out (6 + r1.bound.toNat)
      go_wp2
      go_meet
      have HVo := HV.out
      subst HVo
      have e : r1.drown sky = r1.lose := by unfold Rd.drown; rw [if_pos (by simpa using HX3.out)]
      rw [e]
      exact ⟨blk_far H4.out (by simp) _, put_lost hbd0' hbd4' H5.out, blk_far H8.out (by simp) _, by repeat (first | exact HB.out | refine Below.setCell ?_ (by simp) _)⟩
  case rest =>
  obtain ⟨h4_, h5_, h8_, hB_⟩ := hcut
  clear H4 H5 H8 HB
  obtain ⟨r2, hr2⟩ : ∃ r2, r2 = r1.drown sky := ⟨_, rfl⟩
  have hbd : r2.bound = r.bound := by rw [hr2, Rd.drown_bound]; exact HBD.out
  have hrl : r2.rolled = r.start.rolled := by rw [hr2, Rd.drown_rolled, HR1.out]
  rw [← hr2] at h5_
  have hF := HF.out
  rw [← hbd, ← hrl] at hF
  have hx0 := (hB_.cell (p := ⟨bl, ol + r.bound.toNat * 2, none⟩) hlx).trans HX0.out
  have hx1 := (hB_.cell (p := ⟨bl, ol + r.bound.toNat * 2 + 1, none⟩) hlx).trans HX1.out
  have hs := (hB_.cell (p := ⟨3, sky.toNat, none⟩) hz).trans HS.out
  rw [← hbd] at hx0 hx1
  have HR2 := Lib.hid hr2
  have HBD2 := Lib.hid hbd
  have hbd0 : 0 ≤ r2.bound := by have := HBD2.out; have := HL0.out; omega
  have hbdl : r2.bound < l0.length := by have := HBD2.out; have := HLT.out; omega
  clear hr2 hbd hrl hbd0' hbd4' HX0 HX1 HS HF
  have hs3 : sky < 3 := by omega
  go_upto_region 8 with fail
  refine start_ (n := 17) (S := fun w' => w'.cell? ⟨3, sky.toNat, none⟩ = some (.func (.func f) #[] #[]) ∧ w'.cell? ⟨w.heap.size + 1, 0, none⟩ = some (.int .i64 r2.bound) ∧ w'.cell? ⟨w.heap.size + 1, 1, none⟩ = some (.int .i64 r2.rolled) ∧ w'.cell? ⟨w.heap.size, 0, none⟩ = some (.slice (some ⟨bl, ol, none⟩) l0.length c0) ∧ w'.cell? ⟨bl, ol + r2.bound.toNat * 2, none⟩ = some (.int .i64 x0) ∧ w'.cell? ⟨bl, ol + r2.bound.toNat * 2 + 1, none⟩ = some (.int .i64 x1) ∧ Below w.heap.size w w' ∧ w'.heap[w.heap.size + 1]? = some (.cells #[.int .i64 r2.bound, .int .i64 r2.rolled, .int .i64 r2.a0, .int .i64 r2.a1, .int .i64 r2.a2, .int .i64 r2.a3, .int .i64 r2.o0, .int .i64 r2.o1, .int .i64 r2.o2, .int .i64 r2.o3] 120 (0, 0)) ∧ w'.heap[w.heap.size + 1 + 1]? = some (.cells #[.int .i64 0, .int .i64 0, .int .i64 0, .int .i64 0, .int .i64 0, .int .i64 0, .int .i64 0, .int .i64 0, .int .i64 0, .int .i64 0] 120 (0, 0))) (ds := [14, 16]) #[false, false, false, false, false, false, false, false, false, false, false, false, false, false, false, false, false] (by kernel_rfl) rfl rfl ⟨hs, (blk_cell h5_ 0).trans rfl, (blk_cell h5_ 1).trans rfl, (blk_cell h4_ 0).trans rfl, hx0, hx1, hB_.drew, h5_, h8_⟩ (fun hHeld => ?_)
  refine pure_ (i := 0) (N := some 51) (v := ?_) (a' := ?_) #[true, false, false, false, false, false, false, false, false, false, false, false, false, false, false, false, false] rfl rfl (by kernel_rfl) (fun _ _ _ h => h) (Or.inl ⟨by rfl, ?_⟩) ?_ ?_
  rotate_left
  · intro w'
    go_simp
    with_reducible rfl
  rotate_left
  · simp only [Act.put, List.setIfInBounds_toArray, List.set_cons_zero, List.set_cons_succ, i64_w, i32_w]
    rfl
  refine pure_ (i := 1) (N := some 52) (v := ?_) (a' := ?_) #[true, true, false, false, false, false, false, false, false, false, false, false, false, false, false, false, false] rfl rfl (by kernel_rfl) (fun _ _ _ h => h) (Or.inl ⟨by rfl, ?_⟩) ?_ ?_
  rotate_left
  · intro w'
    go_simp
    with_reducible rfl
  rotate_left
  · simp only [Act.put, List.setIfInBounds_toArray, List.set_cons_zero, List.set_cons_succ, i64_w, i32_w]
    rfl
  refine pure_ (i := 3) (N := some 54) (v := ?_) (a' := ?_) #[true, true, false, true, false, false, false, false, false, false, false, false, false, false, false, false, false] rfl rfl (by kernel_rfl) (fun _ _ _ h => h) (Or.inl ⟨by rfl, ?_⟩) ?_ ?_
  rotate_left
  · intro w'
    go_simp
    with_reducible rfl
  rotate_left
  · simp only [Act.put, List.setIfInBounds_toArray, List.set_cons_zero, List.set_cons_succ, i64_w, i32_w]
    rfl
  refine pure_ (i := 5) (N := some 56) (v := ?_) (a' := ?_) #[true, true, false, true, false, true, false, false, false, false, false, false, false, false, false, false, false] rfl rfl (by kernel_rfl) (fun _ _ _ h => h) (Or.inl ⟨by rfl, ?_⟩) ?_ ?_
  rotate_left
  · intro w'
    go_simp
    with_reducible rfl
  rotate_left
  · simp only [Act.put, List.setIfInBounds_toArray, List.set_cons_zero, List.set_cons_succ, i64_w, i32_w]
    rfl
  refine pure_ (i := 6) (N := some 57) (v := ?_) (a' := ?_) #[true, true, false, true, false, true, true, false, false, false, false, false, false, false, false, false, false] rfl rfl (by kernel_rfl) (fun _ _ _ h => h) (Or.inl ⟨by rfl, ?_⟩) ?_ ?_
  rotate_left
  · intro w'
    go_simp
    with_reducible rfl
  rotate_left
  · simp only [Act.put, List.setIfInBounds_toArray, List.set_cons_zero, List.set_cons_succ, i64_w, i32_w]
    rfl
  refine pure_ (i := 8) (N := some 59) (v := ?_) (a' := ?_) #[true, true, false, true, false, true, true, false, true, false, false, false, false, false, false, false, false] rfl rfl (by kernel_rfl) (fun _ _ _ h => h) (Or.inl ⟨by rfl, ?_⟩) ?_ ?_
  rotate_left
  · intro w'
    go_simp
    with_reducible rfl
  rotate_left
  · simp only [Act.put, List.setIfInBounds_toArray, List.set_cons_zero, List.set_cons_succ, i64_w, i32_w]
    rfl
  refine pure_ (i := 9) (N := some 60) (v := ?_) (a' := ?_) #[true, true, false, true, false, true, true, false, true, true, false, false, false, false, false, false, false] rfl rfl (by kernel_rfl) (fun _ _ _ h => h) (Or.inl ⟨by rfl, ?_⟩) ?_ ?_
  rotate_left
  · intro w'
    go_simp
    with_reducible rfl
  rotate_left
  · simp only [Act.put, List.setIfInBounds_toArray, List.set_cons_zero, List.set_cons_succ, i64_w, i32_w]
    rfl
  refine pure_ (i := 13) (N := some 64) (v := ?_) (a' := ?_) #[true, true, false, true, false, true, true, false, true, true, false, false, false, true, false, false, false] rfl rfl (by kernel_rfl) (fun _ _ _ h => h) (Or.inl ⟨by rfl, ?_⟩) ?_ ?_
  rotate_left
  · intro w'
    go_simp
    with_reducible rfl
  rotate_left
  · simp only [Act.put, List.setIfInBounds_toArray, List.set_cons_zero, List.set_cons_succ, i64_w, i32_w]
    rfl
  refine take_ (i := 2) (N := some 53) (v := ?_) (a' := ?_) #[true, true, true, true, false, true, true, false, true, true, false, false, false, true, false, false, false] rfl rfl (by kernel_rfl) (fun _ _ _ h => h) (Or.inl ⟨by rfl, ?_⟩) hHeld ?_ ?_
  rotate_left
  · rintro w' ⟨s0, s1, s2, s3, s4, s5, s6, s7, s8⟩
    go_simp
    with_reducible rfl
  rotate_left
  · simp only [Act.put, List.setIfInBounds_toArray, List.set_cons_zero, List.set_cons_succ, i64_w, i32_w]
    rfl
  refine take_ (i := 4) (N := some 55) (v := ?_) (a' := ?_) #[true, true, true, true, true, true, true, false, true, true, false, false, false, true, false, false, false] rfl rfl (by kernel_rfl) (fun _ _ _ h => h) (Or.inl ⟨by rfl, ?_⟩) hHeld ?_ ?_
  rotate_left
  · rintro w' ⟨s0, s1, s2, s3, s4, s5, s6, s7, s8⟩
    go_simp
    with_reducible rfl
  rotate_left
  · simp only [Act.put, List.setIfInBounds_toArray, List.set_cons_zero, List.set_cons_succ, i64_w, i32_w]
    rfl
  refine take_ (i := 7) (N := some 58) (v := ?_) (a' := ?_) #[true, true, true, true, true, true, true, true, true, true, false, false, false, true, false, false, false] rfl rfl (by kernel_rfl) (fun _ _ _ h => h) (Or.inl ⟨by rfl, ?_⟩) hHeld ?_ ?_
  rotate_left
  · rintro w' ⟨s0, s1, s2, s3, s4, s5, s6, s7, s8⟩
    go_simp
    with_reducible rfl
  rotate_left
  · simp only [Act.put, List.setIfInBounds_toArray, List.set_cons_zero, List.set_cons_succ, i64_w, i32_w]
    rfl
  refine take_ (i := 10) (N := some 61) (v := ?_) (a' := ?_) #[true, true, true, true, true, true, true, true, true, true, true, false, false, true, false, false, false] rfl rfl (by kernel_rfl) (fun _ _ _ h => h) (Or.inl ⟨by rfl, ?_⟩) hHeld ?_ ?_
  rotate_left
  · rintro w' ⟨s0, s1, s2, s3, s4, s5, s6, s7, s8⟩
    go_simp
    with_reducible rfl
  rotate_left
  · simp only [Act.put, List.setIfInBounds_toArray, List.set_cons_zero, List.set_cons_succ, i64_w, i32_w]
    rfl
  refine pure_ (i := 11) (N := some 62) (v := ?_) (a' := ?_) #[true, true, true, true, true, true, true, true, true, true, true, true, false, true, false, false, false] rfl rfl (by kernel_rfl) (fun _ _ _ h => h) (Or.inl ⟨by rfl, ?_⟩) ?_ ?_
  rotate_left
  · intro w'
    go_simp
    with_reducible rfl
  rotate_left
  · simp only [Act.put, List.setIfInBounds_toArray, List.set_cons_zero, List.set_cons_succ, i64_w, i32_w]
    rfl
  refine take_ (i := 12) (N := some 63) (v := ?_) (a' := ?_) #[true, true, true, true, true, true, true, true, true, true, true, true, true, true, false, false, false] rfl rfl (by kernel_rfl) (fun _ _ _ h => h) (Or.inl ⟨by rfl, ?_⟩) hHeld ?_ ?_
  rotate_left
  · rintro w' ⟨s0, s1, s2, s3, s4, s5, s6, s7, s8⟩
    go_simp
    with_reducible rfl
  rotate_left
  · simp only [Act.put, List.setIfInBounds_toArray, List.set_cons_zero, List.set_cons_succ, i64_w, i32_w]
    rfl
  refine last_ (i := 14) (N := some 65) #[true, true, true, true, true, true, true, true, true, true, true, true, true, true, true, false, false] rfl rfl (by kernel_rfl) (by decide) (fun K hK => ?_)
  refine goesV_ hfn hname hbody #[.agg #[.int .i64 r2.bound, .int .i64 r2.rolled], .agg #[.int .i64 x0, .int .i64 x1], .int .i64 k] #[] #[] (by rfl) rfl rfl rfl (by simp only [List.map_toArray, List.map_cons, List.map_nil]; rfl) ?_
  refine (hF _).mono ?_
  rintro e w9 ⟨rfl, hb⟩
  refine ⟨_, rfl, ?_⟩
  have q5 := blk_below hHeld.2.2.2.2.2.2.2.1 hb
  have q8 := blk_below hHeld.2.2.2.2.2.2.2.2 hb
  have qB := below_step hHeld.2.2.2.2.2.2.1 hb
  have c0_ := (blk_cell q5 0).trans rfl
  have c1_ := (blk_cell q5 1).trans rfl
  have f0_ := blk_frozen q5 0
  have f1_ := blk_frozen q5 1
  clear hHeld hb
  refine hK.out _ _ ?_
  clear hK K
  refine norm_ (a' := ?_) ?_ ?_
  rotate_left
  · show Act.put _ (some 65) _ = _
    simp only [Act.put, List.setIfInBounds_toArray, List.set_cons_zero, List.set_cons_succ, i64_w, i32_w]
    rfl
  refine pure_ (i := 15) (N := some 66) (v := ?_) (a' := ?_) #[true, true, true, true, true, true, true, true, true, true, true, true, true, true, true, true, false] rfl rfl (by kernel_rfl) (fun _ _ _ h => h) (Or.inl ⟨by rfl, ?_⟩) ?_ ?_
  rotate_left
  · intro w'
    go_simp
    with_reducible rfl
  rotate_left
  · simp only [Act.put, List.setIfInBounds_toArray, List.set_cons_zero, List.set_cons_succ, i64_w, i32_w]
    rfl
  refine last_ (i := 16) (N := none) #[true, true, true, true, true, true, true, true, true, true, true, true, true, true, true, true, true] rfl rfl (by kernel_rfl) (by decide) (fun K hK => ?_)
  refine skip_ (w1 := ?_) (by rfl) rfl ?_ ?_
  rotate_left
  · go_simp
    rfl
  refine hK.out _ _ ?_
  clear hK K
  refine done_ (by kernel_rfl) ?_

  have p5 := blk_put (blk_put q5 0 (.int .i64 b') rfl) 1 (.int .i64 r') rfl
  have p8 := blk_far (p := ⟨w.heap.size + 1, 1, none⟩) (blk_far (p := ⟨w.heap.size + 1, 0, none⟩) q8 (show w.heap.size + 1 + 1 ≠ w.heap.size + 1 by omega) (.int .i64 b')) (show w.heap.size + 1 + 1 ≠ w.heap.size + 1 by omega) (.int .i64 r')
  have pB := Below.setCell (p := ⟨w.heap.size + 1, 1, none⟩) (Below.setCell (p := ⟨w.heap.size + 1, 0, none⟩) qB (by simp) (.int .i64 b')) (by simp) (.int .i64 r')
  generalize ((w9.setCell ⟨w.heap.size + 1, 0, none⟩ (.int .i64 b')).setCell ⟨w.heap.size + 1, 1, none⟩ (.int .i64 r')) = w10 at p5 p8 pB ⊢
  clear q5 q8 qB c0_ c1_ f0_ f1_
  have P5 := Lib.hid p5
  have P8 := Lib.hid p8
  have PB := Lib.hid pB
  clear p5 p8 pB
  go_wp2_with (first
    | ((with_reducible refine gate_dst (N := 67) rfl ?_); refine load_blk rfl 120 (.tmp 5) rfl (w.heap.size + 1) 0 _ [.int .i64 b', .int .i64 r', .int .i64 r2.a0, .int .i64 r2.a1, .int .i64 r2.a2, .int .i64 r2.a3, .int .i64 r2.o0, .int .i64 r2.o1, .int .i64 r2.o2, .int .i64 r2.o3] 120 (0, 0) _ rfl P5.out rfl Tryd.underlying120 rfl (by kernel_rfl) ?_)
    | ((with_reducible refine gate_store (t := 120) (p := 8) (v := .tmp 67) rfl ?_); refine store_blk rfl 120 (.tmp 8) (.tmp 67) rfl rfl (w.heap.size + 1 + 1) 0 _ [.int .i64 b', .int .i64 r', .int .i64 r2.a0, .int .i64 r2.a1, .int .i64 r2.a2, .int .i64 r2.a3, .int .i64 r2.o0, .int .i64 r2.o1, .int .i64 r2.o2, .int .i64 r2.o3] 120 rfl rfl P8.out (by simp) (by kernel_rfl) (by simp [Value.oneCell']) ?_; intro w11 h1_ h2_ h3_; have H1_ := Lib.hid h1_; have H2_ := Lib.hid h2_; clear h1_ h2_ h3_))
  have q8 := blk_whole H1_.out rfl
  refine bodyPost_ret (results_cell_row rfl _ _ (w.heap.size + 1 + 1) 120 _ (0, 0) _ rfl q8 Tryd.underlying120 rfl (by kernel_rfl)) rfl ⟨?_, ?_⟩
  · rw [HR2.out, HR1.out]
  · exact Below.grown PB.out H2_.out PB.out.size (fun k e => by cases e; omega)
end Go.Proofs.YthgjedagbgmgmaaDoor.Pr
namespace Go.Proofs.YthgjedagbgmgmaaDoor.Pr
open Go.RowKit Go.Proofs.YthgjedagbgmgmaaDoorW.PrintWords Go.Proofs.YthgjedagbgmgmaaDoorW.PrintLast Go.Proofs.YthgjedagbgmgmaaDoorW.PrintMore
set_option linter.unusedVariables false
set_option linter.unusedSimpArgs false
def Rd.arr (r : Rd) : Array Value := #[.int .i64 r.bound, .int .i64 r.rolled, .int .i64 r.a0, .int .i64 r.a1, .int .i64 r.a2, .int .i64 r.a3, .int .i64 r.o0, .int .i64 r.o1, .int .i64 r.o2, .int .i64 r.o3]
/-- The road after a day. -/
def afterR (ls : List S92) (r : Rd) (sky k : Int) : Rd :=
  if r.bound = ls.length then r else
  if sky = 1 then (if (ls.getD r.bound.toNat z92).f0 ≤ r.start.rolled + k then { r.start.drown sky with bound := r.bound + 1, rolled := -1 } else { r.start.drown sky with bound := r.bound, rolled := r.start.rolled + k })
  else if sky = 2 then { r.start.drown sky with bound := r.bound, rolled := -1 } else { r.start.drown sky with bound := r.bound, rolled := r.start.rolled }
set_option maxHeartbeats 1000000 in
set_option maxRecDepth 100000 in
theorem after_all (A0 A1 A2 At : Option Addr) (c0 n1 c1 n2 c2 nt ct m : Nat) (l0 : List S92) (w : World) (r : Rd) (sky k : Int) (h1 : l0.length ≤ 4) (hlt : r.bound = l0.length) :
    Calls Tryd.prog 129 #[.agg #[.slice A0 l0.length c0, .slice A1 n1 c1, .slice A2 n2 c2, .map (some m), .slice At nt ct], .agg #[.int .i64 r.bound, .int .i64 r.rolled, .int .i64 r.a0, .int .i64 r.a1, .int .i64 r.a2, .int .i64 r.a3, .int .i64 r.o0, .int .i64 r.o1, .int .i64 r.o2, .int .i64 r.o3], .int .i64 sky, .int .i64 k] w
      fun e w' => e = .returned (.agg #[.int .i64 r.bound, .int .i64 r.rolled, .int .i64 r.a0, .int .i64 r.a1, .int .i64 r.a2, .int .i64 r.a3, .int .i64 r.o0, .int .i64 r.o1, .int .i64 r.o2, .int .i64 r.o3]) ∧ Below w.heap.size w w' := by
  have heq : (r.bound == (l0.length : Int)) = true := beq_iff_eq.2 hlt
  clear hlt
  go_enter Tryd.func129, Tryd.ntmps129
  go_wp2
  refine bodyPost_ret (results_cell_row rfl _ _ (w.heap.size + 1 + 1) 120 #[.int .i64 r.bound, .int .i64 r.rolled, .int .i64 r.a0, .int .i64 r.a1, .int .i64 r.a2, .int .i64 r.a3, .int .i64 r.o0, .int .i64 r.o1, .int .i64 r.o2, .int .i64 r.o3] (0, 0) _ rfl (blk_at _ _ _ (by simp)) Tryd.underlying120 rfl (by kernel_rfl)) rfl ⟨rfl, by repeat (first | exact Below.refl _ _ | refine Below.alloc ?_ (by simp <;> omega) _ | refine Below.setCell ?_ (by simp <;> omega) _ | apply Below.drew)⟩
theorem after_calls (A0 A1 A2 At : Option Addr) (c0 n1 c1 n2 c2 nt ct m cl : Nat) (l0 : List S92) (w : World) (hG : GOK w) (hr0 : FRow e92 2 w A0 l0)
    (hc0 : l0.length ≤ c0) (h1 : 1 ≤ l0.length) (h4 : l0.length ≤ 4) (hm : w.heap[m]? = some (.map (bareMap l0.length).toArray cl)) (r : Rd) (ok : r.Ok l0.length 9) (sky k : Int) (hk0 : 0 ≤ k) (hk1 : k ≤ 20) (hs0 : 0 ≤ sky) (hs1 : sky ≤ 2) :
    Calls Tryd.prog 129 #[.agg #[.slice A0 l0.length c0, .slice A1 n1 c1, .slice A2 n2 c2, .map (some m), .slice At nt ct], .agg r.arr, .int .i64 sky, .int .i64 k] w
      fun e w' => e = .returned (.agg (afterR l0 r sky k).arr) ∧ Below w.heap.size w w' := by
  by_cases hb : r.bound = l0.length
  · unfold afterR
    rw [if_pos hb]
    exact after_all A0 A1 A2 At c0 n1 c1 n2 c2 nt ct m l0 w r sky k h4 hb
  · have hlt : r.bound < l0.length := by have := ok.b1; omega
    have hb0 := ok.b0
    have hst := Rd.start_ok ok (by decide)
    obtain ⟨bl, ol, rfl, hlx, hx0, hx1⟩ := at92 hr0 r.bound.toNat (by omega)
    have e : l0[r.bound.toNat]'(by omega) = l0.getD r.bound.toNat z92 := by rw [List.getD_eq_getElem?_getD, List.getElem?_eq_getElem (by omega)]; rfl
    rw [e] at hx0 hx1
    obtain h | h | h : sky = 0 ∨ sky = 1 ∨ sky = 2 := by omega
    · subst h
      refine (after_walk A1 A2 At bl ol c0 n1 c1 n2 c2 nt ct m cl 198 _ l0 w hG hc0 h1 h4 hm r ok hlt 0 k _ _ r.bound r.start.rolled hk0 hk1 (by decide) (by decide) hlx hx0 hx1 hG.s0 Tryd.func198 (by kernel_rfl) rfl (fun W => dry_calls _ _ _ _ _ W)).mono ?_
      rintro e w' ⟨rfl, hb'⟩
      refine ⟨?_, hb'⟩
      unfold afterR
      rw [if_neg hb]
      rfl
    · subst h
      by_cases hn : (l0.getD r.bound.toNat z92).f0 ≤ r.start.rolled + k
      · refine (after_walk A1 A2 At bl ol c0 n1 c1 n2 c2 nt ct m cl 193 _ l0 w hG hc0 h1 h4 hm r ok hlt 1 k _ _ (r.bound + 1) (-1) hk0 hk1 (by decide) (by decide) hlx hx0 hx1 hG.s1 Tryd.func193 (by kernel_rfl) rfl (fun W => (damp_calls _ _ _ _ _ W hst.r0 (by have := hst.r1; omega) hk0 hk1 hb0 (by omega)).mono ?_)).mono ?_
        · rintro e w' ⟨rfl, hb'⟩
          rw [if_pos hn]
          exact ⟨rfl, hb'⟩
        · rintro e w' ⟨rfl, hb'⟩
          refine ⟨?_, hb'⟩
          unfold afterR
          rw [if_neg hb, if_pos rfl, if_pos hn]
          rfl
      · refine (after_walk A1 A2 At bl ol c0 n1 c1 n2 c2 nt ct m cl 193 _ l0 w hG hc0 h1 h4 hm r ok hlt 1 k _ _ r.bound (r.start.rolled + k) hk0 hk1 (by decide) (by decide) hlx hx0 hx1 hG.s1 Tryd.func193 (by kernel_rfl) rfl (fun W => (damp_calls _ _ _ _ _ W hst.r0 (by have := hst.r1; omega) hk0 hk1 hb0 (by omega)).mono ?_)).mono ?_
        · rintro e w' ⟨rfl, hb'⟩
          rw [if_neg hn]
          exact ⟨rfl, hb'⟩
        · rintro e w' ⟨rfl, hb'⟩
          refine ⟨?_, hb'⟩
          unfold afterR
          rw [if_neg hb, if_pos rfl, if_neg hn]
          rfl
    · subst h
      refine (after_walk A1 A2 At bl ol c0 n1 c1 n2 c2 nt ct m cl 199 _ l0 w hG hc0 h1 h4 hm r ok hlt 2 k _ _ r.bound (-1) hk0 hk1 (by decide) (by decide) hlx hx0 hx1 hG.s2 Tryd.func199 (by kernel_rfl) rfl (fun W => wet_calls _ _ _ _ _ W)).mono ?_
      rintro e w' ⟨rfl, hb'⟩
      refine ⟨?_, hb'⟩
      unfold afterR
      rw [if_neg hb]
      rfl
def eI (x : Int) : List Value := [.int .i64 x]
/-- Where a number stands in a list; -1: nowhere. -/
def idxI (l : List Int) (x : Int) : Int := match l.idxOf? x with | some i => i | none => -1
theorem idxI_none {l : List Int} {x : Int} (h : ∀ j (hj : j < l.length), l[j] ≠ x) : idxI l x = -1 := by
  unfold idxI
  have : l.idxOf? x = none := by
    rw [List.idxOf?_eq_none_iff]
    intro hm
    obtain ⟨j, hj, e⟩ := List.getElem_of_mem hm
    exact h j hj e
  rw [this]
theorem idxI_some {l : List Int} {x : Int} {k : Nat} (hk : k < l.length) (hx : l[k] = x) (h : ∀ j (hj : j < k), l[j]'(by omega) ≠ x) : idxI l x = k := by
  unfold idxI
  have : l.idxOf? x = some k := by
    unfold List.idxOf?
    rw [List.findIdx?_eq_some_iff_getElem]
    exact ⟨hk, by simp [hx], fun j hj => by simpa using h j hj⟩
  rw [this]
theorem idxI_mem (l : List Int) (x : Int) : decide (0 ≤ idxI l x) = decide (x ∈ l) := by
  unfold idxI
  by_cases hm : x ∈ l
  · cases h : l.idxOf? x with
    | none => exact absurd hm (List.idxOf?_eq_none_iff.1 h)
    | some i => simp [hm]
  · have : l.idxOf? x = none := List.idxOf?_eq_none_iff.2 hm
    simp [this, hm]
set_option maxHeartbeats 1000000 in
theorem index_calls (A : Option Addr) (c : Nat) (l : List Int) (x : Int) (w : World) (hr : FRow eI 1 w A l) (hc : l.length ≤ c) (hm : l.length ≤ 1000) :
    Calls Tryd.prog 160 #[.slice A l.length c, .int .i64 x] w fun e w' => e = .returned (.int .i64 (idxI l x)) ∧ w = w' := by
  go_enter Tryd.func160, Tryd.ntmps160
  go_wp2
  go_loop [8] (fun i => ∃ k : Nat, i = .int .i64 k ∧ k ≤ l.length ∧ Hid (∀ j (hj : j < k) (hj' : j < l.length), l[j] ≠ x)) (fun i => l.length - (intOf i).toNat)
  case atStart => exact ⟨0, rfl, Nat.zero_le _, fun j hj => by omega⟩
  case round =>
    obtain ⟨k, rfl, hk, hall⟩ := hrel
    by_cases hlt : k < l.length
    · rcases hr with hr | ⟨b, o, rfl, hb, hcell⟩
      · exact absurd hlt (by simp [hr])
      have hcx := hcell k _ (List.getElem?_eq_getElem hlt) 0 _ rfl
      simp only [Nat.mul_one, Nat.add_zero] at hcx
      obtain ⟨y, hy⟩ : ∃ y, y = l[k] := ⟨_, rfl⟩
      rw [← hy] at hcx
      have HY := Lib.hid hy
      clear hy hcell
      obtain ⟨t, ht⟩ : ∃ t, (x == y) = t := ⟨_, rfl⟩
      cases t
      · have HT := Lib.hid ht
        go_wp2
        go_round
        case rel => exact ⟨k + 1, by go_num, by omega, fun j hj hj' => by
          by_cases hjk : j = k
          · subst hjk
            have h1 := HT.out
            have h2 := HY.out
            intro e
            rw [e] at h2
            rw [h2] at h1
            simp at h1
          · exact hall.out j (by omega) hj'⟩
        case measure => simp [intOf]; omega
      · have HT := Lib.hid ht
        go_wp2
        go_ret
        have hx : l[k] = x := by
          have h1 := HT.out
          have h2 := HY.out
          rw [← h2]
          exact (beq_iff_eq.1 h1).symm
        refine ⟨?_, rfl⟩
        rw [idxI_some hlt hx (fun j hj => hall.out j hj (by omega))]
        rfl
    · go_wp2
      go_ret
      refine ⟨?_, rfl⟩
      rw [idxI_none (fun j hj => hall.out j (by omega) hj)]
      rfl
set_option maxHeartbeats 1000000 in
theorem contains_calls (A : Option Addr) (c : Nat) (l : List Int) (x : Int) (w : World) (hr : FRow eI 1 w A l) (hc : l.length ≤ c) (hm : l.length ≤ 1000) :
    Calls Tryd.prog 134 #[.slice A l.length c, .int .i64 x] w fun e w' => e = .returned (.bool (decide (x ∈ l))) ∧ w = w' := by
  have C := index_calls A c l x w hr hc hm
  have hd := idxI_mem l x
  obtain ⟨i, hi⟩ : ∃ i, i = idxI l x := ⟨_, rfl⟩
  rw [← hi] at C hd
  rw [← hd]
  clear hd hi
  have HC := Lib.hid C
  clear C
  go_enter Tryd.func134, Tryd.ntmps134
  go_wp2_with (go_at_call 160; refine HC.out.mono ?_; rintro e w' ⟨rfl, rfl⟩)
  go_ret
  exact ⟨rfl, rfl⟩
end Go.Proofs.YthgjedagbgmgmaaDoor.Pr
namespace Go.Proofs.YthgjedagbgmgmaaDoor.Pr
open Go.RowKit Go.Proofs.YthgjedagbgmgmaaDoorW.PrintWords Go.Proofs.YthgjedagbgmgmaaDoorW.PrintLast Go.Proofs.YthgjedagbgmgmaaDoorW.PrintMore
set_option linter.unusedVariables false
set_option linter.unusedSimpArgs false
/-- Are all looks at the end of a day right, but some? -/
def rightFrom : List S43 → Int → Int → List Int → Nat → Bool
  | [], _, _, _, _ => true
  | x :: xs, day, bound, but, k => !(x.f0 == day && x.f1 != bound && !decide ((k : Int) ∈ but)) && rightFrom xs day bound but (k + 1)
theorem at43 {w : World} {A : Option Addr} {xs : List S43} (h : FRow e43 2 w A xs) (i : Nat) (hi : i < xs.length) : ∃ b o, A = some ⟨b, o, none⟩ ∧ b < w.heap.size ∧
    w.cell? ⟨b, o + i * 2, none⟩ = some (.int .i64 xs[i].f0) ∧ w.cell? ⟨b, o + i * 2 + 1, none⟩ = some (.int .i64 xs[i].f1) := by
  rcases h with rfl | ⟨b, o, e, hlt, hc⟩
  · simp at hi
  · exact ⟨b, o, e, hlt, hc i _ (List.getElem?_eq_getElem hi) 0 _ rfl, hc i _ (List.getElem?_eq_getElem hi) 1 _ rfl⟩
set_option maxHeartbeats 2000000 in
set_option maxRecDepth 100000 in
theorem right_calls (A0 A1 A2 At Ab : Option Addr) (n0 c0 n1 c1 c2 nt ct cb : Nat) (mp : Option Nat) (l2 : List S43) (but : List Int) (day bound : Int) (w : World) (hr : FRow e43 2 w A2 l2) (hb : FRow eI 1 w Ab but)
    (hc2 : l2.length ≤ c2) (hcb : but.length ≤ cb) (h2 : l2.length ≤ 1000) (hbl : but.length ≤ 1000) :
    Calls Tryd.prog 157 #[.agg #[.slice A0 n0 c0, .slice A1 n1 c1, .slice A2 l2.length c2, .map mp, .slice At nt ct], .int .i64 day, .int .i64 bound, .slice Ab but.length cb] w
      fun e w' => e = .returned (.bool (rightFrom l2 day bound but 0)) ∧ Below w.heap.size w w' := by
  have HR := Lib.hid hr
  have HB := Lib.hid hb
  clear hr hb
  go_enter Tryd.func157, Tryd.ntmps157
  go_wp2
  go_loopg [15] (l2.length) (fun gk v15 wr => ∃ k : Nat, v15 = .int .i64 k ∧ Aside0 (k + gk = l2.length) ∧ Aside0 (rightFrom l2 day bound but 0 = rightFrom (l2.drop k) day bound but k) ∧ Aside0 (Below w.heap.size w wr))
  case atStart => exact ⟨0, rfl, ⟨by simp⟩, ⟨rfl⟩, ⟨by repeat (first | exact Below.refl _ _ | refine Below.alloc ?_ (by simp <;> omega) _ | refine Below.setCell ?_ (by simp <;> omega) _ | apply Below.drew)⟩⟩
  case round =>
    obtain ⟨k, rfl, HK, HS, HW⟩ := hrel
    cases gk with
    | zero =>
      have hge : ¬ k < l2.length := by have := HK.out; omega
      go_wp2
      go_ret
      refine ⟨?_, HW.out⟩
      rw [HS.out, List.drop_of_length_le (by omega)]
      rfl
    | succ g1 =>
      have hlt : k < l2.length := by have := HK.out; omega
      have hws := HW.out.size
      obtain ⟨b, o, rfl, hbw, hx0, hx1⟩ := at43 (HR.out.below HW.out) k hlt
      have hdr : l2.drop k = l2[k] :: l2.drop (k + 1) := List.drop_eq_getElem_cons hlt
      have HD := Lib.hid hdr
      obtain ⟨x, hx⟩ : ∃ x, x = l2[k] := ⟨_, rfl⟩
      rw [← hx] at hx0 hx1 HD
      clear hx hdr
      have CC : ∀ W, Below w.heap.size w W → Calls Tryd.prog 134 #[.slice Ab but.length cb, .int .i64 (k : Int)] W fun e w' => e = .returned (.bool (decide ((k : Int) ∈ but))) ∧ W = w' := fun W hW => contains_calls Ab cb but k W (HB.out.below hW) hcb hbl
      have HCC := Lib.hid CC
      clear CC
      obtain ⟨t1, ht1⟩ : ∃ t, (x.f0 == day) = t := ⟨_, rfl⟩
      obtain ⟨t2, ht2⟩ : ∃ t, (x.f1 != bound) = t := ⟨_, rfl⟩
      obtain ⟨t3, ht3⟩ : ∃ t, decide ((k : Int) ∈ but) = t := ⟨_, rfl⟩
      have HN : Hid (rightFrom (x :: l2.drop (k + 1)) day bound but k = (!(t1 && t2 && !t3) && rightFrom (l2.drop (k + 1)) day bound but (k + 1))) := by rw [← ht1, ← ht2, ← ht3]; rfl
      rw [ht3] at HCC
      clear ht3
      have hx2 : (day == day) = true := beq_self_eq_true _
      cases t1
      · go_wp2
        go_roundg g1
        case measure => omega
        case rel => exact ⟨k + 1, by go_num, ⟨by have := HK.out; omega⟩, ⟨by rw [HS.out, HD.out, HN.out]; rfl⟩, ⟨Below.alloc HW.out hws _⟩⟩
      · cases t2
        · go_wp2
          go_roundg g1
          case measure => omega
          case rel => exact ⟨k + 1, by go_num, ⟨by have := HK.out; omega⟩, ⟨by rw [HS.out, HD.out, HN.out]; rfl⟩, ⟨Below.alloc HW.out hws _⟩⟩
        · cases t3
          · go_wp2_with (go_at_call 134; refine (HCC.out _ ?hw).mono ?_; (case hw => exact Below.alloc HW.out hws _); rintro e w' ⟨rfl, rfl⟩)
            go_ret
            exact ⟨by rw [HS.out, HD.out, HN.out]; rfl, Below.alloc HW.out hws _⟩
          · go_wp2_with (go_at_call 134; refine (HCC.out _ ?hw).mono ?_; (case hw => exact Below.alloc HW.out hws _); rintro e w' ⟨rfl, rfl⟩)
            go_roundg g1
            case measure => omega
            case rel => exact ⟨k + 1, by go_num, ⟨by have := HK.out; omega⟩, ⟨by rw [HS.out, HD.out, HN.out]; rfl⟩, ⟨Below.alloc HW.out hws _⟩⟩
end Go.Proofs.YthgjedagbgmgmaaDoor.Pr
namespace Go.Proofs.YthgjedagbgmgmaaDoor.Pr
open Go.RowKit Go.Proofs.YthgjedagbgmgmaaDoorW.PrintWords Go.Proofs.YthgjedagbgmgmaaDoorW.PrintLast Go.Proofs.YthgjedagbgmgmaaDoorW.PrintMore
set_option linter.unusedVariables false
set_option linter.unusedSimpArgs false
/-- A part of a row of numbers replaced. -/
def splice0 (C : List Int) (o : Nat) (vs : List Int) : List Int := C.take o ++ vs ++ C.drop (o + vs.length)
def encI (xs : List Int) : List Value := xs.map (Value.int .i64)
theorem encI_length (xs : List Int) : (encI xs).length = xs.length := by simp [encI]
theorem encI_one (xs : List Int) : ∀ v ∈ encI xs, v.oneCell' = true := by
  intro v hv
  obtain ⟨x, _, rfl⟩ := List.mem_map.1 hv
  rfl
theorem encI_splice (xs : List Int) (i : Nat) (ys : List Int) : splice (encI xs) i (encI ys) = encI (splice0 xs i ys) := by simp [encI, splice, splice0]
theorem splice0_length {xs : List Int} {i : Nat} {ys : List Int} (h : i + ys.length ≤ xs.length) : (splice0 xs i ys).length = xs.length := by simp [splice0]; omega
/-- What changes lies in S, or is new. -/
structure Chg (S : Nat → Prop) (W W' : World) : Prop where
  os : W'.os = W.os
  tape : W'.tape = W.tape
  output : W'.output = W.output
  size : W.heap.size ≤ W'.heap.size
  block : ∀ k, k < W.heap.size → ¬ S k → W'.heap[k]? = W.heap[k]?
/-- What lies in S stays. -/
structure KeepS (S : Nat → Prop) (W W' : World) : Prop where
  os : W'.os = W.os
  tape : W'.tape = W.tape
  output : W'.output = W.output
  size : W.heap.size ≤ W'.heap.size
  block : ∀ k, k < W.heap.size → S k → W'.heap[k]? = W.heap[k]?
theorem Chg.refl (S : Nat → Prop) (W : World) : Chg S W W := ⟨rfl, rfl, rfl, Nat.le_refl _, fun _ _ _ => rfl⟩
theorem Chg.trans {S : Nat → Prop} {A B C : World} (h : Chg S A B) (k : Chg S B C) : Chg S A C :=
  ⟨k.os.trans h.os, k.tape.trans h.tape, k.output.trans h.output, Nat.le_trans h.size k.size, fun i hi hs => (k.block i (Nat.lt_of_lt_of_le hi h.size) hs).trans (h.block i hi hs)⟩
theorem Chg.of_below {S : Nat → Prop} {A B : World} (h : Below A.heap.size A B) : Chg S A B := ⟨h.os, h.tape, h.output, h.size, fun k hk _ => h.block k hk⟩
theorem Chg.of_grown {S : Nat → Prop} {A B : World} {g : Nat} (h : A.grownBy B (some g)) (hg : S g) : Chg S A B := ⟨h.os, h.tape, h.output, h.size, fun k hk hs => h.block k hk (fun e => by cases e; exact hs hg)⟩
theorem Chg.alloc {S : Nat → Prop} {A B : World} (h : Chg S A B) (o : Obj) : Chg S A (B.alloc o) := h.trans (Chg.of_below ((Below.refl _ _).alloc (Nat.le_refl _) _))
theorem Chg.drew {S : Nat → Prop} {A B : World} (h : Chg S A B) : Chg S A B.drew := ⟨h.os, h.tape, h.output, h.size, h.block⟩
theorem KeepS.refl (S : Nat → Prop) (W : World) : KeepS S W W := ⟨rfl, rfl, rfl, Nat.le_refl _, fun _ _ _ => rfl⟩
theorem KeepS.trans {S : Nat → Prop} {A B C : World} (h : KeepS S A B) (k : KeepS S B C) : KeepS S A C :=
  ⟨k.os.trans h.os, k.tape.trans h.tape, k.output.trans h.output, Nat.le_trans h.size k.size, fun i hi hs => (k.block i (Nat.lt_of_lt_of_le hi h.size) hs).trans (h.block i hi hs)⟩
theorem KeepS.of_below {S : Nat → Prop} {A B : World} (h : Below A.heap.size A B) : KeepS S A B := ⟨h.os, h.tape, h.output, h.size, fun k hk _ => h.block k hk⟩
theorem KeepS.mono {S S' : Nat → Prop} {A B : World} (h : KeepS S A B) (hs : ∀ k, k < A.heap.size → S' k → S k) : KeepS S' A B := ⟨h.os, h.tape, h.output, h.size, fun k hk hsk => h.block k hk (hs k hk hsk)⟩
theorem KeepS.of_grown {S : Nat → Prop} {A B : World} {g : Nat} (h : A.grownBy B (some g)) (hg : ¬ S g) : KeepS S A B := ⟨h.os, h.tape, h.output, h.size, fun k hk hs => h.block k hk (fun e => by cases e; exact hg hs)⟩
theorem KeepS.drew {S : Nat → Prop} {A B : World} (h : KeepS S A B) : KeepS S A B.drew := ⟨h.os, h.tape, h.output, h.size, h.block⟩
/-- What the caller holds while truths come: it hangs on nothing of S. -/
structure Iter (J : (Nat → Prop) → List (List Int) → World → Prop) : Prop where
  step : ∀ {S S' pre W W'}, J S pre W → Chg S W W' → (∀ k, S' k → S k ∨ (W.heap.size ≤ k ∧ k < W'.heap.size)) → J S' pre W'
theorem Iter.keep {J : (Nat → Prop) → List (List Int) → World → Prop} (hJ : Iter J) {S pre W W'} (h : J S pre W) (hc : Chg S W W') : J S pre W' := hJ.step h hc fun _ hk => .inl hk
theorem Iter.turn {J : (Nat → Prop) → List (List Int) → World → Prop} (hJ : Iter J) {S S' : Nat → Prop} {pre W} (h : J S pre W) (hs : ∀ k, S' k → S k) : J S' pre W := hJ.step h (Chg.refl _ _) fun k hk => .inl (hs k hk)
/-- What the closure has captured, and what it reads. -/
structure Env (w0 W : World) (S : Nat → Prop) (bk : Array Value) (m n g3 g4 g5 g6 g7 l : Nat) (Ab : Option Addr) (nb cb : Nat) : Prop where
  below : Below w0.heap.size w0 W
  old : ∀ k, k < w0.heap.size → S k
  h3 : W.heap[g3]? = some (.cells bk 107 (0, 0))
  s3 : S g3
  h4 : W.heap[g4]? = some (.cells #[.func (.yield l) #[] #[]] 213 (0, 0))
  s4 : S g4
  h5 : W.heap[g5]? = some (.cells #[.func (.func 157) #[.agg bk] #[]] 214 (0, 0))
  s5 : S g5
  h6 : W.heap[g6]? = some (.cells #[.slice Ab nb cb] 45 (0, 0))
  s6 : S g6
  h7 : W.heap[g7]? = some (.cells #[.func (.func 158) #[] #[.pointer (some ⟨g3, 0, none⟩), .pointer (some ⟨g4, 0, none⟩), .pointer (some ⟨g5, 0, none⟩), .pointer (some ⟨g6, 0, none⟩), .pointer (some ⟨g7, 0, none⟩)]] 215 (0, 0))
  s7 : S g7
  hm : W.heap[m]? = some (.map (bareMap n).toArray n)
  sm : S m
theorem Env.keep {w0 W W' : World} {S : Nat → Prop} {bk : Array Value} {m n g3 g4 g5 g6 g7 l : Nat} {Ab : Option Addr} {nb cb : Nat} (h : Env w0 W S bk m n g3 g4 g5 g6 g7 l Ab nb cb) (hk : KeepS S W W') : Env w0 W' S bk m n g3 g4 g5 g6 g7 l Ab nb cb :=
  ⟨h.below.trans ⟨hk.os, hk.tape, hk.output, hk.size, fun k hk' => hk.block k (Nat.lt_of_lt_of_le hk' h.below.size) (h.old k hk')⟩, h.old,
   (hk.block _ (blk_lt h.h3) h.s3).trans h.h3, h.s3, (hk.block _ (blk_lt h.h4) h.s4).trans h.h4, h.s4, (hk.block _ (blk_lt h.h5) h.s5).trans h.h5, h.s5,
   (hk.block _ (blk_lt h.h6) h.s6).trans h.h6, h.s6, (hk.block _ (blk_lt h.h7) h.s7).trans h.h7, h.s7, (hk.block _ (blk_lt h.hm) h.sm).trans h.hm, h.sm⟩
theorem Env.turn {w0 W : World} {S S' : Nat → Prop} {bk : Array Value} {m n g3 g4 g5 g6 g7 l : Nat} {Ab : Option Addr} {nb cb : Nat} (h : Env w0 W S bk m n g3 g4 g5 g6 g7 l Ab nb cb) (hs : ∀ k, S k → S' k) : Env w0 W S' bk m n g3 g4 g5 g6 g7 l Ab nb cb :=
  ⟨h.below, fun k hk => hs k (h.old k hk), h.h3, hs _ h.s3, h.h4, hs _ h.s4, h.h5, hs _ h.s5, h.h6, hs _ h.s6, h.h7, hs _ h.s7, h.hm, hs _ h.sm⟩
/-- The next truth's place: the wagons, the sky and the road of a day. -/
def setT (t : List Int) (day : Nat) (wagons sky : Int) (r : Rd) : List Int := splice0 ((t.set day wagons).set (5 + day) sky) (10 + day * 10) [r.bound, r.rolled, r.a0, r.a1, r.a2, r.a3, r.o0, r.o1, r.o2, r.o3]
def hasSky (set : Int) (s : Nat) : Bool := set / 2 ^ s % 2 == 1
/-- All truths from a day on. -/
def truthsFrom (ls : List S92) (ds : List S90) (looks : List S43) (but : List Int) : Nat → List Int → Nat → Rd → List (List Int)
  | 0, t, _, _ => [t]
  | d + 1, t, day, r =>
    (List.range ((ds.getD day z90).f0.f1 - (ds.getD day z90).f0.f0 + 1).toNat).flatMap fun (n : Nat) => [0, 1, 2].flatMap fun (sky : Nat) =>
      if hasSky (ds.getD day z90).f1 sky then
        (if rightFrom looks day (afterR ls r sky ((ds.getD day z90).f0.f0 + n)).bound but 0 then
          truthsFrom ls ds looks but d (setT t day ((ds.getD day z90).f0.f0 + n) sky (afterR ls r sky ((ds.getD day z90).f0.f0 + n))) (day + 1) (afterR ls r sky ((ds.getD day z90).f0.f0 + n))
        else []) else []
set_option maxHeartbeats 2000000 in
set_option maxRecDepth 100000 in
theorem from0_calls (J : (Nat → Prop) → List (List Int) → World → Prop) (hJ : Iter J) (N l : Nat) (hY : ∀ S pre x W, J S pre W → x.length = 60 → pre.length < N → YieldAt Fence.wide 5 Tryd.prog l #[.agg (encI x).toArray] W fun e W' => e = .returned (.bool true) ∧ J S (pre ++ [x]) W' ∧ KeepS S W W')
    (A0 A1 A2 At Ab : Option Addr) (c0 c1 c2 nt ct m cb g3 g4 g5 g6 g7 : Nat) (l0 : List S92) (l1 : List S90) (l2 : List S43) (but : List Int) (w0 W : World) (S : Nat → Prop) (hE : Env w0 W S #[.slice A0 l0.length c0, .slice A1 l1.length c1, .slice A2 l2.length c2, .map (some m), .slice At nt ct] m l0.length g3 g4 g5 g6 g7 l Ab but.length cb)
    (pre : List (List Int)) (hj : J S pre W) (hp : pre.length < N) (t : List Int) (ht : t.length = 60) (r : Rd) (h5 : l1.length ≤ 5) :
    Calls Tryd.prog 158 #[.agg (encI t).toArray, .int .i64 l1.length, .agg r.arr, .pointer (some ⟨g3, 0, none⟩), .pointer (some ⟨g4, 0, none⟩), .pointer (some ⟨g5, 0, none⟩), .pointer (some ⟨g6, 0, none⟩), .pointer (some ⟨g7, 0, none⟩)] W
      fun e W' => e = .returned (.bool true) ∧ J S (pre ++ [t]) W' ∧ KeepS S W W' := by
  have hc3 := blk_cell hE.h3 1
  have hc4 := blk_cell hE.h4 0
  have hl3 := blk_lt hE.h3
  have hl4 := blk_lt hE.h4
  have HE := Lib.hid hE
  have HJ := Lib.hid hj
  have HT := Lib.hid ht
  clear hE hj ht
  have hq : ((l1.length : Int) == (l1.length : Int)) = true := beq_self_eq_true _
  go_enter Tryd.func158, Tryd.ntmps158
  go_upto_region 2 with fail
  obtain ⟨fn, tmps, assign, body, hy, hR⟩ := hY S pre t ((W.alloc (.cells (encI t).toArray 123)).alloc (.cells r.arr 120)) (hJ.keep HJ.out (((Chg.refl S W).alloc _).alloc _)) HT.out hp
  have HR := Lib.hid hR
  clear hR hY
  refine (wpIn_wide (n := 6)).1 ?_
  have HB := Lib.hid (blk_alloc (blk_new W (.cells (encI t).toArray 123)) (.cells r.arr 120))
  gi_wp2_with (first
    | ((with_reducible refine gateIn_dst (N := 24) rfl ?_); refine loadIn_blk rfl 123 (.tmp 8) rfl W.heap.size 0 (encI t) (encI t) 123 (0, 0) _ rfl HB.out (by simp) Tryd.underlying123 rfl (by rw [encI_length, HT.out]; kernel_rfl) ?_))
  refine HR.out.mono ?_
  rintro e W' ⟨rfl, hJ', hk⟩
  have HJ' := Lib.hid hJ'
  have HK := Lib.hid hk
  clear hJ' hk
  gi_wp2
  go_wp2
  go_ret
  exact ⟨rfl, HJ'.out, (KeepS.of_below (((Below.refl _ _).alloc (Nat.le_refl _) _).alloc (by simp) _)).trans HK.out⟩
end Go.Proofs.YthgjedagbgmgmaaDoor.Pr
namespace Go.Proofs.YthgjedagbgmgmaaDoor.Pr
open Go.RowKit Go.Proofs.YthgjedagbgmgmaaDoorW.PrintWords Go.Proofs.YthgjedagbgmgmaaDoorW.PrintLast Go.Proofs.YthgjedagbgmgmaaDoorW.PrintMore
set_option linter.unusedVariables false
set_option linter.unusedSimpArgs false
theorem Rd.Ok.mono {n : Nat} {c c' : Int} {r : Rd} (h : r.Ok n c) (hc : c ≤ c') : r.Ok n c' := by
  obtain ⟨h1, h2, h3, h4, h5, h6, h7, h8, h9, h10, h11, h12⟩ := h
  exact ⟨by omega, by omega, by omega, by omega, by omega, by omega, by omega, by omega, by omega, by omega, by omega, by omega⟩
theorem Rd.lose_ok {n : Nat} {c : Int} {r : Rd} (h : r.Ok n c) (h' : ∀ o, o = r.o0 ∨ o = r.o1 ∨ o = r.o2 ∨ o = r.o3 → o + 1 ≤ c) : r.lose.Ok n c := by
  have e0 := h' r.o0 (by simp)
  have e1 := h' r.o1 (by simp)
  have e2 := h' r.o2 (by simp)
  have e3 := h' r.o3 (by simp)
  obtain ⟨h1, h2, h3, h4, h5, h6, h7, h8, h9, h10, h11, h12⟩ := h
  unfold Rd.lose
  repeat' split
  all_goals exact ⟨by dsimp only; omega, by dsimp only; omega, by dsimp only; omega, by dsimp only; omega, by dsimp only; omega, by dsimp only; omega, by dsimp only; omega, by dsimp only; omega, by dsimp only; omega, by dsimp only; omega, by dsimp only; omega, by dsimp only; omega⟩
theorem Rd.start_o (r : Rd) : r.start.o0 = r.o0 ∧ r.start.o1 = r.o1 ∧ r.start.o2 = r.o2 ∧ r.start.o3 = r.o3 := by
  unfold Rd.start Rd.lay
  repeat' split
  all_goals exact ⟨rfl, rfl, rfl, rfl⟩
theorem Rd.start_rolled_le {n : Nat} {c : Int} {r : Rd} (h : r.Ok n c) (hc : 0 ≤ c) : 0 ≤ r.start.rolled ∧ r.start.rolled ≤ 20 * c := by
  have h0 := h.r0
  have h1 := h.r1
  unfold Rd.start
  split
  · exact ⟨by dsimp only; omega, by dsimp only; omega⟩
  · omega
theorem Rd.drown_ok {n : Nat} {c sky : Int} {r : Rd} (h : r.Ok n c) (hc : 0 ≤ c) : (r.start.drown sky).Ok n (c + 1) := by
  unfold Rd.drown
  split
  · refine Rd.lose_ok (Rd.start_ok h hc) ?_
    obtain ⟨e0, e1, e2, e3⟩ := r.start_o
    have := h.o0
    have := h.o1
    have := h.o2
    have := h.o3
    rintro o (rfl | rfl | rfl | rfl) <;> omega
  · exact Rd.start_ok h hc
theorem afterR_ok {ls : List S92} {c sky k : Int} {r : Rd} (h : r.Ok ls.length c) (hc : 0 ≤ c) (hk0 : 0 ≤ k) (hk1 : k ≤ 20) : (afterR ls r sky k).Ok ls.length (c + 1) := by
  have hd := Rd.drown_ok (sky := sky) h hc
  have hs := Rd.start_rolled_le h hc
  have hb := h.b0
  have hb1 := h.b1
  unfold afterR
  split
  · exact h.mono (by omega)
  · obtain ⟨h1, h2, h3, h4, h5, h6, h7, h8, h9, h10, h11, h12⟩ := hd
    repeat' split
    all_goals exact ⟨by dsimp only; omega, by dsimp only; omega, by dsimp only; omega, by dsimp only; omega, h5, h6, h7, h8, h9, h10, h11, h12⟩
theorem setT_length {t : List Int} (ht : t.length = 60) {day : Nat} (hd : day < 5) (w s : Int) (r : Rd) : (setT t day w s r).length = 60 := by
  unfold setT
  rw [splice0_length (by simp; omega)]
  simpa using ht
theorem splice0_get {C vs : List Int} {o : Nat} (h : o + vs.length ≤ C.length) (i : Nat) : (splice0 C o vs)[i]? = if i < o then C[i]? else if i < o + vs.length then vs[i - o]? else C[i]? := by
  unfold splice0
  rw [List.append_assoc, List.getElem?_append]
  have hl : (C.take o).length = o := by rw [List.length_take]; omega
  rw [hl]
  split
  · rename_i h1
    rw [List.getElem?_take, if_pos h1]
  · rename_i h1
    rw [List.getElem?_append]
    split
    · rename_i h2
      rw [if_pos (by omega)]
    · rename_i h2
      rw [if_neg (by omega), List.getElem?_drop]
      congr 1
      omega
theorem setT_get {t : List Int} (ht : t.length = 60) {day : Nat} (hd : day < 5) (w s : Int) (r : Rd) (i : Nat) :
    (setT t day w s r)[i]? = if 10 + day * 10 ≤ i ∧ i < 20 + day * 10 then [r.bound, r.rolled, r.a0, r.a1, r.a2, r.a3, r.o0, r.o1, r.o2, r.o3][i - (10 + day * 10)]? else if i = day then some w else if i = 5 + day then some s else t[i]? := by
  unfold setT
  rw [splice0_get (by simp; omega)]
  simp only [List.length_cons, List.length_nil]
  have hbase : ((t.set day w).set (5 + day) s)[i]? = if i = day then some w else if i = 5 + day then some s else t[i]? := by
    rw [List.getElem?_set, List.getElem?_set]
    by_cases h1 : i = day
    · subst h1
      rw [if_neg (by omega), if_pos rfl, if_pos (by omega), if_pos rfl]
    · by_cases h2 : i = 5 + day
      · subst h2
        rw [if_pos rfl, if_pos (by simp; omega), if_neg h1, if_pos rfl]
      · rw [if_neg (by omega), if_neg (by omega), if_neg h1, if_neg h2]
  by_cases h1 : i < 10 + day * 10
  · rw [if_pos h1, hbase, if_neg (by omega : ¬ (10 + day * 10 ≤ i ∧ i < 20 + day * 10))]
  · by_cases h2 : i < 20 + day * 10
    · rw [if_neg h1, if_pos (by omega), if_pos ⟨by omega, h2⟩]
    · rw [if_neg h1, if_neg (by omega), hbase, if_neg (by omega : ¬ (10 + day * 10 ≤ i ∧ i < 20 + day * 10))]
theorem setT_setT {t : List Int} (ht : t.length = 60) {day : Nat} (hd : day < 5) (w s : Int) (r : Rd) (w' s' : Int) (r' : Rd) : setT (setT t day w s r) day w' s' r' = setT t day w' s' r' := by
  apply List.ext_getElem?
  intro i
  rw [setT_get (setT_length ht hd w s r) hd, setT_get (r := r') ht hd w' s']
  by_cases h1 : 10 + day * 10 ≤ i ∧ i < 20 + day * 10
  · rw [if_pos h1, if_pos h1]
  · rw [if_neg h1, if_neg h1]
    by_cases h2 : i = day
    · rw [if_pos h2, if_pos h2]
    · rw [if_neg h2, if_neg h2]
      by_cases h3 : i = 5 + day
      · rw [if_pos h3, if_pos h3]
      · rw [if_neg h3, if_neg h3, setT_get ht hd, if_neg h1, if_neg h2, if_neg h3]
theorem at90 {w : World} {A : Option Addr} {xs : List S90} (h : FRow e90 3 w A xs) (i : Nat) (hi : i < xs.length) : ∃ b o, A = some ⟨b, o, none⟩ ∧ b < w.heap.size ∧
    w.cell? ⟨b, o + i * 3, none⟩ = some (.int .i64 xs[i].f0.f0) ∧ w.cell? ⟨b, o + i * 3 + 1, none⟩ = some (.int .i64 xs[i].f0.f1) ∧ w.cell? ⟨b, o + i * 3 + 2, none⟩ = some (.int .i64 xs[i].f1) := by
  rcases h with rfl | ⟨b, o, e, hlt, hc⟩
  · simp at hi
  · exact ⟨b, o, e, hlt, hc i _ (List.getElem?_eq_getElem hi) 0 _ rfl, hc i _ (List.getElem?_eq_getElem hi) 1 _ rfl, hc i _ (List.getElem?_eq_getElem hi) 2 _ rfl⟩
end Go.Proofs.YthgjedagbgmgmaaDoor.Pr
namespace Go.Proofs.YthgjedagbgmgmaaDoor.Pr
open Go.RowKit Go.Proofs.YthgjedagbgmgmaaDoorW.PrintWords Go.Proofs.YthgjedagbgmgmaaDoorW.PrintLast Go.Proofs.YthgjedagbgmgmaaDoorW.PrintMore
set_option linter.unusedVariables false
set_option linter.unusedSimpArgs false
/-- The truths that one number of wagons and one sky of a day lead to. -/
def truthsAt (ls : List S92) (ds : List S90) (looks : List S43) (but : List Int) (d : Nat) (t : List Int) (day : Nat) (r : Rd) (n sky : Nat) : List (List Int) :=
  if hasSky (ds.getD day z90).f1 sky then
    (if rightFrom looks day (afterR ls r sky ((ds.getD day z90).f0.f0 + n)).bound but 0 then
      truthsFrom ls ds looks but d (setT t day ((ds.getD day z90).f0.f0 + n) sky (afterR ls r sky ((ds.getD day z90).f0.f0 + n))) (day + 1) (afterR ls r sky ((ds.getD day z90).f0.f0 + n))
    else []) else []
/-- Those of one number of wagons; the first of them. -/
def skyTruths (ls : List S92) (ds : List S90) (looks : List S43) (but : List Int) (d : Nat) (t : List Int) (day : Nat) (r : Rd) (n s : Nat) : List (List Int) := (List.range s).flatMap fun sky => truthsAt ls ds looks but d t day r n sky
def dayTruths (ls : List S92) (ds : List S90) (looks : List S43) (but : List Int) (d : Nat) (t : List Int) (day : Nat) (r : Rd) (n : Nat) : List (List Int) := (List.range n).flatMap fun n => skyTruths ls ds looks but d t day r n 3
theorem truthsFrom_succ (ls : List S92) (ds : List S90) (looks : List S43) (but : List Int) (d : Nat) (t : List Int) (day : Nat) (r : Rd) :
    truthsFrom ls ds looks but (d + 1) t day r = dayTruths ls ds looks but d t day r ((ds.getD day z90).f0.f1 - (ds.getD day z90).f0.f0 + 1).toNat := rfl
theorem range_snoc {α : Type} (f : Nat → List α) (n : Nat) : (List.range (n + 1)).flatMap f = (List.range n).flatMap f ++ f n := by
  rw [List.range_succ, List.flatMap_append]
  simp
theorem skyTruths_succ (ls : List S92) (ds : List S90) (looks : List S43) (but : List Int) (d : Nat) (t : List Int) (day : Nat) (r : Rd) (n s : Nat) : skyTruths ls ds looks but d t day r n (s + 1) = skyTruths ls ds looks but d t day r n s ++ truthsAt ls ds looks but d t day r n s := by
  rw [skyTruths, range_snoc]
  rfl
theorem flat_len {α : Type} {f : Nat → List α} {b : Nat} (h : ∀ i, (f i).length ≤ b) (n : Nat) : ((List.range n).flatMap f).length ≤ n * b := by
  induction n with
  | zero => simp
  | succ n ih =>
    rw [range_snoc, List.length_append, Nat.succ_mul]
    have := h n
    omega
theorem skyTruths_len {ls : List S92} {ds : List S90} {looks : List S43} {but : List Int} {d : Nat} (h : ∀ t day r, (truthsFrom ls ds looks but d t day r).length ≤ 6 ^ d) (t : List Int) (day : Nat) (r : Rd) (n s : Nat) : (skyTruths ls ds looks but d t day r n s).length ≤ s * 6 ^ d := by
  refine flat_len (fun i => ?_) s
  unfold truthsAt
  split
  · split
    · exact h _ _ _
    · exact Nat.zero_le _
  · exact Nat.zero_le _
theorem dayTruths_len {ls : List S92} {ds : List S90} {looks : List S43} {but : List Int} {d : Nat} (h : ∀ t day r, (truthsFrom ls ds looks but d t day r).length ≤ 6 ^ d) (t : List Int) (day : Nat) (r : Rd) (n : Nat) : (dayTruths ls ds looks but d t day r n).length ≤ n * (3 * 6 ^ d) :=
  flat_len (fun i => skyTruths_len h t day r i 3) n
theorem truthsFrom_len {ls : List S92} {ds : List S90} {looks : List S43} {but : List Int} (h : ∀ x ∈ ds, x.f0.f1 ≤ x.f0.f0 + 1) : ∀ d t day r, (truthsFrom ls ds looks but d t day r).length ≤ 6 ^ d := by
  intro d
  induction d with
  | zero => intro t day r; simp [truthsFrom]
  | succ d ih =>
    intro t day r
    rw [truthsFrom_succ]
    have h1 := dayTruths_len ih t day r ((ds.getD day z90).f0.f1 - (ds.getD day z90).f0.f0 + 1).toNat
    have h2 : ((ds.getD day z90).f0.f1 - (ds.getD day z90).f0.f0 + 1).toNat ≤ 2 := by
      rw [List.getD_eq_getElem?_getD]
      cases e : ds[day]? with
      | none => simp [z90, z32]
      | some x => have := h x (List.mem_of_getElem? e); simp; omega
    have h3 := Nat.mul_le_mul_right (3 * 6 ^ d) h2
    rw [Nat.pow_succ]
    omega
theorem bit_and (sk : Int) (s : Nat) (h0 : 0 ≤ sk) (h7 : sk ≤ 7) (hs : s < 3) : (bits BinOp.and IntKind.i64 (sk / 2 ^ s) 1 == 0) = !hasSky sk s := by
  obtain ⟨k, rfl⟩ := Int.eq_ofNat_of_zero_le h0
  have hk : k < 8 := by omega
  have h : ∀ k : Fin 8, ∀ s : Fin 3, (bits BinOp.and IntKind.i64 (((k.1 : Nat) : Int) / 2 ^ s.1) 1 == 0) = !hasSky ((k.1 : Nat) : Int) s.1 := by decide
  exact h ⟨k, hk⟩ ⟨s, hs⟩
theorem KeepS.far {S : Nat → Prop} {W A B : World} (h : KeepS S W A) (hc : Chg (fun k => W.heap.size ≤ k) A B) : KeepS S W B :=
  ⟨hc.os.trans h.os, hc.tape.trans h.tape, hc.output.trans h.output, Nat.le_trans h.size hc.size, fun k hk hs => (hc.block k (Nat.lt_of_lt_of_le hk h.size) (by omega)).trans (h.block k hk hs)⟩
theorem KeepS.on {S S' : Nat → Prop} {W A B : World} (h : KeepS S W A) (hk : KeepS S' A B) (hs : ∀ j, S j → S' j) : KeepS S W B :=
  ⟨hk.os.trans h.os, hk.tape.trans h.tape, hk.output.trans h.output, Nat.le_trans h.size hk.size, fun k hk' hs' => (hk.block k (Nat.lt_of_lt_of_le hk' h.size) (hs k hs')).trans (h.block k hk' hs')⟩
theorem below_weaken {n n' : Nat} {A B : World} (h : Below n A B) (hn : n' ≤ n) : Below n' A B := ⟨h.os, h.tape, h.output, h.size, fun k hk => h.block k (Nat.lt_of_lt_of_le hk hn)⟩
section
variable {P : Program} {ops : Array Oper} {oi : Oper} {a : Act} {Q : Exit → Act → World → Prop} {W : World} {K : Act → World → Prop}
/-- A number is stored into a row of numbers. -/
theorem skip_int (hw : Region.wanted oi (yielded ops a.tmps) = true) (hN : oi.dst = none) (ty : TypeId) (x y : Operand) (ho : oi.op = .store ty x y) (g off : Nat) (C : List Int) (v : Int) (t : TypeId) (hx : a.eval x = .pointer (some ⟨g, off, none⟩)) (hy : a.eval y = .int .i64 v)
    (hg : W.heap[g]? = some (.cells (encI C).toArray t (0, 0))) (hl : off < C.length) (hi : (P.info? ty).map (·.size) = some 1)
    (h : ∀ W', W'.heap[g]? = some (.cells (encI (C.set off v)).toArray t (0, 0)) → W.grownBy W' (some g) → W'.heap.size = W.heap.size → K a W') : if Region.wanted oi (yielded ops a.tmps) = true then Oper.wp P oi a W K Q else K (a.put none undef) W := by
  have hc : W.there g off [Value.int .i64 v].length := fun j hj => by
    refine ⟨?_, blk_frozen hg _⟩
    rw [blk_cell hg]
    have : off + j < C.length := by simp at hj; omega
    simp [encI, this]
  have hrun := run_storeCells_cells (P := P) g off [Value.int .i64 v] 0 W (fun j hj => by simpa using (hc j (by simpa using hj)).1) (fun j hj => by simpa using (hc j (by simpa using hj)).2) (fun v hv => by simp at hv; subst hv; rfl)
  refine skip_ (w1 := W.setCells g off [Value.int .i64 v]) hw hN ?_ (h _ ?_ (grown_setCells W g off _) (setCells_same g _ off W).2.2.2)
  · unfold execOp
    cases hq : P.info? ty with
    | none => simp [hq] at hi
    | some i =>
      have hs : 1 = i.size := by simp [hq] at hi; omega
      simp only [Nat.add_zero] at hrun
      simp [ho, hx, hy, Instr.storeAt, Instr.sureAddr, storeVar, sizeOf, typeInfo, hq, Value.cells, ← hs, hrun]
  · rw [blk_splice hg (by simp [encI]; omega)]
    congr 2
    simp [splice, encI, List.set_eq_take_append_cons_drop, hl]
/-- A row of numbers is stored into another. -/
theorem skip_row (hw : Region.wanted oi (yielded ops a.tmps) = true) (hN : oi.dst = none) (ty : TypeId) (x y : Operand) (ho : oi.op = .store ty x y) (g off : Nat) (C vs : List Int) (t : TypeId) (hx : a.eval x = .pointer (some ⟨g, off, none⟩)) (hy : a.eval y = .agg (encI vs).toArray)
    (hg : W.heap[g]? = some (.cells (encI C).toArray t (0, 0))) (hl : off + vs.length ≤ C.length) (hi : (P.info? ty).map (·.size) = some vs.length)
    (h : ∀ W', W'.heap[g]? = some (.cells (encI (splice0 C off vs)).toArray t (0, 0)) → W.grownBy W' (some g) → W'.heap.size = W.heap.size → K a W') : if Region.wanted oi (yielded ops a.tmps) = true then Oper.wp P oi a W K Q else K (a.put none undef) W := by
  have hc : W.there g off (encI vs).toArray.size := fun j hj => by
    refine ⟨?_, blk_frozen hg _⟩
    rw [blk_cell hg]
    have : off + j < C.length := by simp [encI] at hj; omega
    simp [encI, this]
  refine skip_ (w1 := W.setCells g off (encI vs)) hw hN ?_ (h _ ?_ (grown_setCells W g off _) (setCells_same g _ off W).2.2.2)
  · unfold execOp
    simp only [ho, hx, hy, Instr.storeAt, Instr.sureAddr, Sem.run_bind, Sem.run_pure, Result.andThen_ok, run_storeVar_mid W g off ty _ hc (by simpa [encI] using hi) (all_oneCell_toArray (encI_one vs))]
  · rw [blk_splice hg (by simp [encI]; omega), encI_splice]
end
set_option maxHeartbeats 4000000 in
set_option maxRecDepth 100000 in
theorem from_step (J : (Nat → Prop) → List (List Int) → World → Prop) (hJ : Iter J) (N l : Nat) (hY : ∀ S pre x W, J S pre W → x.length = 60 → pre.length < N → YieldAt Fence.wide 5 Tryd.prog l #[.agg (encI x).toArray] W fun e W' => e = .returned (.bool true) ∧ J S (pre ++ [x]) W' ∧ KeepS S W W')
    (A0 A1 A2 At Ab : Option Addr) (c0 c1 c2 nt ct m cb g3 g4 g5 g6 g7 : Nat) (l0 : List S92) (l1 : List S90) (l2 : List S43) (but : List Int) (w0 : World) (hG : GOK w0) (hr0 : FRow e92 2 w0 A0 l0) (hr1 : FRow e90 3 w0 A1 l1) (hr2 : FRow e43 2 w0 A2 l2) (hrb : FRow eI 1 w0 Ab but) (hc0 : l0.length ≤ c0) (hc2 : l2.length ≤ c2) (hcb : but.length ≤ cb)
    (h01 : 1 ≤ l0.length) (h04 : l0.length ≤ 4) (h15 : l1.length ≤ 5) (h2l : l2.length ≤ 1000) (hbl : but.length ≤ 1000) (hdays : ∀ x ∈ l1, 0 ≤ x.f0.f0 ∧ x.f0.f0 ≤ x.f0.f1 ∧ x.f0.f1 ≤ 20 ∧ x.f0.f1 ≤ x.f0.f0 + 1 ∧ 0 ≤ x.f1 ∧ x.f1 ≤ 7)
    (d : Nat) (IH : ∀ (day : Nat) (W : World) (S : Nat → Prop) (hE : Env w0 W S #[.slice A0 l0.length c0, .slice A1 l1.length c1, .slice A2 l2.length c2, .map (some m), .slice At nt ct] m l0.length g3 g4 g5 g6 g7 l Ab but.length cb) (pre : List (List Int)) (_ : J S pre W) (t : List Int) (_ : t.length = 60) (r : Rd) (_ : r.Ok l0.length day) (_ : day + d = l1.length) (_ : pre.length + 6 ^ d ≤ N),
      Calls Tryd.prog 158 #[.agg (encI t).toArray, .int .i64 day, .agg r.arr, .pointer (some ⟨g3, 0, none⟩), .pointer (some ⟨g4, 0, none⟩), .pointer (some ⟨g5, 0, none⟩), .pointer (some ⟨g6, 0, none⟩), .pointer (some ⟨g7, 0, none⟩)] W
        fun e W' => e = .returned (.bool true) ∧ J S (pre ++ truthsFrom l0 l1 l2 but d t day r) W' ∧ KeepS S W W')
    (day : Nat) (W : World) (S : Nat → Prop) (hE : Env w0 W S #[.slice A0 l0.length c0, .slice A1 l1.length c1, .slice A2 l2.length c2, .map (some m), .slice At nt ct] m l0.length g3 g4 g5 g6 g7 l Ab but.length cb) (pre : List (List Int)) (hj : J S pre W) (t : List Int) (ht : t.length = 60) (r : Rd) (ok : r.Ok l0.length day) (hd : day + (d + 1) = l1.length) (hp : pre.length + 6 ^ (d + 1) ≤ N) :
    Calls Tryd.prog 158 #[.agg (encI t).toArray, .int .i64 day, .agg r.arr, .pointer (some ⟨g3, 0, none⟩), .pointer (some ⟨g4, 0, none⟩), .pointer (some ⟨g5, 0, none⟩), .pointer (some ⟨g6, 0, none⟩), .pointer (some ⟨g7, 0, none⟩)] W
      fun e W' => e = .returned (.bool true) ∧ J S (pre ++ truthsFrom l0 l1 l2 but (d + 1) t day r) W' ∧ KeepS S W W' := by
  have hdl : day < l1.length := by omega
  obtain ⟨bd, od, rfl, hbd, hy0, hy1, hy2⟩ := at90 hr1 day hdl
  have hyv := hdays _ (List.getElem_mem hdl)
  have hgd : l1.getD day z90 = l1[day] := by rw [List.getD_eq_getElem?_getD, List.getElem?_eq_getElem hdl]; rfl
  obtain ⟨lo, hlo⟩ : ∃ x, x = l1[day].f0.f0 := ⟨_, rfl⟩
  obtain ⟨hi, hhi⟩ : ∃ x, x = l1[day].f0.f1 := ⟨_, rfl⟩
  obtain ⟨sk, hsk⟩ : ∃ x, x = l1[day].f1 := ⟨_, rfl⟩
  have hcnt : (l1.getD day z90).f0.f1 - (l1.getD day z90).f0.f0 + 1 = hi - lo + 1 := by rw [hgd, hlo, hhi]
  have hfin : truthsFrom l0 l1 l2 but (d + 1) t day r = dayTruths l0 l1 l2 but d t day r (hi - lo + 1).toNat := by rw [truthsFrom_succ, hcnt]
  have HFIN := Lib.hid hfin
  clear hfin
  rw [← hlo] at hy0
  rw [← hhi] at hy1
  rw [← hsk] at hy2
  rw [← hlo, ← hhi, ← hsk] at hyv
  obtain ⟨v0, v1, v2, v3, v4, v5⟩ := hyv
  have HLO := Lib.hid hlo
  have HHI := Lib.hid hhi
  have HSK := Lib.hid hsk
  have HGD := Lib.hid hgd
  have HLEN := Lib.hid (truthsFrom_len (ls := l0) (looks := l2) (but := but) (fun x hx => (hdays x hx).2.2.2.1))
  clear hlo hhi hsk hgd hcnt hdays
  have hq : ((day : Int) == (l1.length : Int)) = false := beq_eq_false_iff_ne.2 (by omega)
  have q31 := (blk_cell hE.h3 0).trans rfl
  have q32 := (blk_cell hE.h3 1).trans rfl
  have q5 := (blk_cell hE.h5 0).trans rfl
  have q6 := (blk_cell hE.h6 0).trans rfl
  have q7 := (blk_cell hE.h7 0).trans rfl
  have b3 := blk_lt hE.h3
  have hy0 := (hE.below.cell (p := ⟨bd, od + day * 3, none⟩) hbd).trans hy0
  have hy1 := (hE.below.cell (p := ⟨bd, od + day * 3 + 1, none⟩) hbd).trans hy1
  have hy2 := (hE.below.cell (p := ⟨bd, od + day * 3 + 2, none⟩) hbd).trans hy2
  have hbdW : bd < W.heap.size := Nat.lt_of_lt_of_le hbd hE.below.size
  have HE := Lib.hid hE
  have HJ := Lib.hid hj
  have HT := Lib.hid ht
  have HO := Lib.hid ok
  have HIH := Lib.hid IH
  have HY := Lib.hid hY
  have HG := Lib.hid hG
  have H0 := Lib.hid hr0
  have H2 := Lib.hid hr2
  have HRB := Lib.hid hrb
  clear hE hj ht ok IH hY hG hr0 hr1 hr2 hrb
  go_enter Tryd.func158, Tryd.ntmps158
  go_wp2
  go_loopg [40] ((hi - lo + 1).toNat) (fun gk v40 wr => ∃ (n : Nat) (t' : List Int), v40 = .int .i64 n ∧ Aside0 ((n : Int) + gk = hi - lo + 1) ∧ Aside0 (t'.length = 60) ∧ Aside0 (∀ w s q, setT t' day w s q = setT t day w s q) ∧ Aside0 (wr.heap[W.heap.size]? = some (.cells (encI t').toArray 123 (0, 0))) ∧ Aside0 (wr.heap[W.heap.size + 1]? = some (.cells r.arr 120 (0, 0))) ∧ Aside0 (wr.heap[W.heap.size + 1 + 1]? = some (.cells #[.int .i64 lo, .int .i64 hi, .int .i64 sk] 90 (0, 0))) ∧ Aside0 (Env w0 wr (fun k => S k ∨ k = W.heap.size ∨ k = W.heap.size + 1 ∨ k = W.heap.size + 1 + 1) #[.slice A0 l0.length c0, .slice (some ⟨bd, od, none⟩) l1.length c1, .slice A2 l2.length c2, .map (some m), .slice At nt ct] m l0.length g3 g4 g5 g6 g7 l Ab but.length cb) ∧ Aside0 (J (fun k => S k ∨ k = W.heap.size ∨ k = W.heap.size + 1 ∨ k = W.heap.size + 1 + 1) (pre ++ dayTruths l0 l1 l2 but d t day r n) wr) ∧ Aside0 (KeepS S W wr))
  case atStart =>
    refine ⟨0, t, rfl, ⟨by omega⟩, ⟨HT.out⟩, ⟨fun _ _ _ => rfl⟩, ⟨blk_alloc (blk_alloc (blk_new _ _) _) _⟩, ⟨blk_alloc (blk_at (W.alloc _) _ _ (by simp)) _⟩, ⟨blk_at _ _ _ (by simp)⟩, ⟨?_⟩, ⟨?_⟩, ⟨?_⟩⟩
    · exact (HE.out.keep (KeepS.of_below (by repeat (first | exact Below.refl _ _ | refine Below.alloc ?_ (by simp <;> omega) _ | refine Below.setCell ?_ (by simp <;> omega) _ | apply Below.drew)))).turn (fun k hk => Or.inl hk)
    · show J _ (pre ++ []) _
      rw [List.append_nil]
      refine hJ.step (S' := (fun k => S k ∨ k = W.heap.size ∨ k = W.heap.size + 1 ∨ k = W.heap.size + 1 + 1)) HJ.out (Chg.of_below (by repeat (first | exact Below.refl _ _ | refine Below.alloc ?_ (by simp <;> omega) _ | refine Below.setCell ?_ (by simp <;> omega) _ | apply Below.drew))) ?_
      rintro k (hk | rfl | rfl | rfl)
      · exact .inl hk
      all_goals exact .inr ⟨by omega, by simp <;> omega⟩
    · exact KeepS.of_below (by repeat (first | exact Below.refl _ _ | refine Below.alloc ?_ (by simp <;> omega) _ | refine Below.setCell ?_ (by simp <;> omega) _ | apply Below.drew))
  case round =>
    obtain ⟨n, t', rfl, HN, HTL, HTS, HB8, HB10, HB12, HEN, HJN, HKN⟩ := hrel
    cases gk with
    | zero =>
      have hge : ¬ ((n : Int) < hi - lo + 1) := by have := HN.out; omega
      have e : (hi - lo + 1).toNat = n := by have := HN.out; omega
      go_wp2
      go_ret
      exact ⟨rfl, by rw [HFIN.out, e]; exact hJ.turn HJN.out (fun k hk => .inl hk), HKN.out⟩
    | succ g1 =>
      have hlt : (n : Int) < hi - lo + 1 := by have := HN.out; omega
      go_wp2
      go_step3
      go_wp2
      go_step3
      go_wp2
      go_loopg [43] 3 (fun gk v43 wr2 => ∃ (s : Nat) (t' : List Int), v43 = .int .i64 s ∧ Aside0 (s + gk = 3) ∧ Aside0 (t'.length = 60) ∧ Aside0 (∀ w s q, setT t' day w s q = setT t day w s q) ∧ Aside0 (wr2.heap[W.heap.size]? = some (.cells (encI t').toArray 123 (0, 0))) ∧ Aside0 (wr2.heap[W.heap.size + 1]? = some (.cells r.arr 120 (0, 0))) ∧ Aside0 (wr2.heap[W.heap.size + 1 + 1]? = some (.cells #[.int .i64 lo, .int .i64 hi, .int .i64 sk] 90 (0, 0))) ∧ Aside0 (Env w0 wr2 (fun k => S k ∨ k = W.heap.size ∨ k = W.heap.size + 1 ∨ k = W.heap.size + 1 + 1) #[.slice A0 l0.length c0, .slice (some ⟨bd, od, none⟩) l1.length c1, .slice A2 l2.length c2, .map (some m), .slice At nt ct] m l0.length g3 g4 g5 g6 g7 l Ab but.length cb) ∧ Aside0 (J (fun k => S k ∨ k = W.heap.size ∨ k = W.heap.size + 1 ∨ k = W.heap.size + 1 + 1) ((pre ++ dayTruths l0 l1 l2 but d t day r n) ++ skyTruths l0 l1 l2 but d t day r n s) wr2) ∧ Aside0 (KeepS S W wr2))
      case atStart => exact ⟨0, t', rfl, ⟨rfl⟩, HTL, HTS, HB8, HB10, HB12, HEN, ⟨by show J _ (_ ++ []) _; rw [List.append_nil]; exact HJN.out⟩, HKN⟩
      case round =>
        obtain ⟨s, t2, rfl, HS, HTL2, HTS2, HB82, HB102, HB122, HEN2, HJN2, HKN2⟩ := hrel
        cases gk with
        | zero =>
          have hge : ¬ ((s : Int) < 3) := by have := HS.out; omega
          have e3 : s = 3 := by have := HS.out; omega
          go_wp2
          go_roundg g1
          case measure => omega
          case rel =>
            subst e3
            refine ⟨n + 1, t2, by go_num, ⟨by have := HN.out; omega⟩, HTL2, HTS2, HB82, HB102, HB122, HEN2, ⟨?_⟩, HKN2⟩
            have h := HJN2.out
            rw [List.append_assoc] at h
            rw [dayTruths, range_snoc]
            exact h
        | succ g2 =>
          have hls : (s : Int) < 3 := by have := HS.out; omega
          have p0 := (blk_cell HB122.out 0).trans rfl
          have p1 := (blk_cell HB122.out 1).trans rfl
          have p2 := (blk_cell HB122.out 2).trans rfl
          have b12 := blk_lt HB122.out
          have b10 := blk_lt HB102.out
          have b8 := blk_lt HB82.out
          have p3 := (blk_cell HEN2.out.h3 0).trans rfl
          have p31 := (blk_cell HEN2.out.h3 1).trans rfl
          have p32 := (blk_cell HEN2.out.h3 2).trans rfl
          have p33 := (blk_cell HEN2.out.h3 3).trans rfl
          have p34 := (blk_cell HEN2.out.h3 4).trans rfl
          have p5 := (blk_cell HEN2.out.h5 0).trans rfl
          have p6 := (blk_cell HEN2.out.h6 0).trans rfl
          have p7 := (blk_cell HEN2.out.h7 0).trans rfl
          have b3 := blk_lt HEN2.out.h3
          have b5 := blk_lt HEN2.out.h5
          have b6 := blk_lt HEN2.out.h6
          have b7 := blk_lt HEN2.out.h7
          have hbt := bit_and sk s v4 v5 (by omega)
          obtain ⟨hb, HHB⟩ : ∃ b, b = hasSky sk s := ⟨_, rfl⟩
          rw [← HHB] at hbt
          have hsky : hasSky (l1.getD day z90).f1 s = hb := by rw [HGD.out, ← HSK.out, ← HHB]
          have HSKY := Lib.hid hsky
          clear hsky HHB
          cases hb
          · rw [Bool.not_false] at hbt
            go_wp2
            go_roundg g2
            case measure => omega
            case rel =>
              refine ⟨s + 1, t2, by go_num, ⟨by have := HS.out; omega⟩, HTL2, HTS2, HB82, HB102, HB122, HEN2, ⟨?_⟩, HKN2⟩
              have h := HJN2.out
              rw [skyTruths_succ, truthsAt, HSKY.out, if_neg (by simp), List.append_nil]
              exact h
          · rw [Bool.not_true] at hbt
            have hN1 : n ≤ 1 := by have := HN.out; omega
            have hsle : s ≤ 2 := by omega
            obtain ⟨r', hr'⟩ : ∃ x, x = afterR l0 r s (lo + n) := ⟨_, rfl⟩
            have hok' : r'.Ok l0.length (day + 1) := by rw [hr']; exact afterR_ok HO.out (by omega) (by omega) (by omega)
            have HOK := Lib.hid hok'
            have HA : Calls Tryd.prog 129 #[.agg #[.slice A0 l0.length c0, .slice (some ⟨bd, od, none⟩) l1.length c1, .slice A2 l2.length c2, .map (some m), .slice At nt ct], .agg r.arr, .int .i64 s, .int .i64 (lo + n)] wr (fun e w' => e = .returned (.agg r'.arr) ∧ Below wr.heap.size wr w') := by
              rw [hr']
              exact after_calls A0 (some ⟨bd, od, none⟩) A2 At c0 l1.length c1 l2.length c2 nt ct m l0.length l0 wr (HG.out.below HEN2.out.below) (H0.out.below HEN2.out.below) hc0 h01 h04 HEN2.out.hm r (HO.out.mono (by omega)) s (lo + n) (by omega) (by omega) (by omega) (by omega)
            have HRE := Lib.hid hr'
            have hvr : r.arr = #[.int .i64 r.bound, .int .i64 r.rolled, .int .i64 r.a0, .int .i64 r.a1, .int .i64 r.a2, .int .i64 r.a3, .int .i64 r.o0, .int .i64 r.o1, .int .i64 r.o2, .int .i64 r.o3] := rfl
            rw [hvr] at HA
            have z0 : wr.cell? ⟨W.heap.size + 1, 0, none⟩ = some (.int .i64 r.bound) := blk_cell HB102.out 0
            have z1 : wr.cell? ⟨W.heap.size + 1, 1, none⟩ = some (.int .i64 r.rolled) := blk_cell HB102.out 1
            have z2 : wr.cell? ⟨W.heap.size + 1, 2, none⟩ = some (.int .i64 r.a0) := blk_cell HB102.out 2
            have z3 : wr.cell? ⟨W.heap.size + 1, 3, none⟩ = some (.int .i64 r.a1) := blk_cell HB102.out 3
            have z4 : wr.cell? ⟨W.heap.size + 1, 4, none⟩ = some (.int .i64 r.a2) := blk_cell HB102.out 4
            have z5 : wr.cell? ⟨W.heap.size + 1, 5, none⟩ = some (.int .i64 r.a3) := blk_cell HB102.out 5
            have z6 : wr.cell? ⟨W.heap.size + 1, 6, none⟩ = some (.int .i64 r.o0) := blk_cell HB102.out 6
            have z7 : wr.cell? ⟨W.heap.size + 1, 7, none⟩ = some (.int .i64 r.o1) := blk_cell HB102.out 7
            have z8 : wr.cell? ⟨W.heap.size + 1, 8, none⟩ = some (.int .i64 r.o2) := blk_cell HB102.out 8
            have z9 : wr.cell? ⟨W.heap.size + 1, 9, none⟩ = some (.int .i64 r.o3) := blk_cell HB102.out 9
            clear hr' hok'
            obtain ⟨rb, rr, ra0, ra1, ra2, ra3, ro0, ro1, ro2, ro3⟩ := r'
            have hv : Rd.arr ⟨rb, rr, ra0, ra1, ra2, ra3, ro0, ro1, ro2, ro3⟩ = #[.int .i64 rb, .int .i64 rr, .int .i64 ra0, .int .i64 ra1, .int .i64 ra2, .int .i64 ra3, .int .i64 ro0, .int .i64 ro1, .int .i64 ro2, .int .i64 ro3] := rfl
            rw [hv] at HA
            have HAH := Lib.hid HA
            clear HA hv
            obtain ⟨qr, HQR⟩ : ∃ b, b = rightFrom l2 day rb but 0 := ⟨_, rfl⟩
            have HRT : ∀ W, Below wr.heap.size wr W → Calls Tryd.prog 157 #[.agg #[.slice A0 l0.length c0, .slice (some ⟨bd, od, none⟩) l1.length c1, .slice A2 l2.length c2, .map (some m), .slice At nt ct], .int .i64 day, .int .i64 rb, .slice Ab but.length cb] W (fun e w' => e = .returned (.bool qr) ∧ Below W.heap.size W w') := by
              intro W' hW'
              rw [HQR]
              exact right_calls A0 (some ⟨bd, od, none⟩) A2 At Ab l0.length c0 l1.length c1 c2 nt ct cb (some m) l2 but day rb W' ((H2.out.below HEN2.out.below).below hW') ((HRB.out.below HEN2.out.below).below hW') hc2 hcb h2l hbl
            have HR := Lib.hid HRT
            have HQ := Lib.hid HQR
            clear HRT HQR
            cases qr
            · go_wp2_with (first
                | (go_at_call 129; refine HAH.out.mono ?_; rintro e w1 ⟨rfl, hB1⟩; have p5 := (hB1.cell (p := ⟨g5, 0, none⟩) b5).trans p5; have p6 := (hB1.cell (p := ⟨g6, 0, none⟩) b6).trans p6; have p7 := (hB1.cell (p := ⟨g7, 0, none⟩) b7).trans p7; have b3 := Nat.lt_of_lt_of_le b3 hB1.size; have b5 := Nat.lt_of_lt_of_le b5 hB1.size; have b6 := Nat.lt_of_lt_of_le b6 hB1.size; have b7 := Nat.lt_of_lt_of_le b7 hB1.size; have b8 := Nat.lt_of_lt_of_le b8 hB1.size; have b10 := Nat.lt_of_lt_of_le b10 hB1.size; have b12 := Nat.lt_of_lt_of_le b12 hB1.size)
                | (go_at_call 157; refine (HR.out _ ?hw).mono ?_; (case hw => exact hB1.alloc hB1.size _); rintro e w3 ⟨rfl, hB3⟩))
              go_roundg g2
              case measure => omega
              case rel =>
                have hB := (hB1.alloc hB1.size (.cells (encI [rb, rr, ra0, ra1, ra2, ra3, ro0, ro1, ro2, ro3]).toArray 120)).trans (below_weaken hB3 (by simp; exact Nat.le_succ_of_le hB1.size))
                refine ⟨s + 1, t2, by go_num, ⟨by have := HS.out; omega⟩, HTL2, HTS2, ⟨blk_below HB82.out hB⟩, ⟨blk_below HB102.out hB⟩, ⟨blk_below HB122.out hB⟩, ⟨HEN2.out.keep (KeepS.of_below hB)⟩, ⟨?_⟩, ⟨HKN2.out.far (Chg.of_below hB)⟩⟩
                have h := hJ.keep HJN2.out (Chg.of_below hB)
                rw [skyTruths_succ, truthsAt, HSKY.out, if_pos rfl, HGD.out, ← HLO.out, ← HRE.out, ← HQ.out, if_neg (by simp), List.append_nil]
                exact h
            · go_wp2_with (first
                | (go_at_call 129; refine HAH.out.mono ?_; rintro e w1 ⟨rfl, hB1⟩; have p5 := (hB1.cell (p := ⟨g5, 0, none⟩) b5).trans p5; have p6 := (hB1.cell (p := ⟨g6, 0, none⟩) b6).trans p6; have p7 := (hB1.cell (p := ⟨g7, 0, none⟩) b7).trans p7; have b3 := Nat.lt_of_lt_of_le b3 hB1.size; have b5 := Nat.lt_of_lt_of_le b5 hB1.size; have b6 := Nat.lt_of_lt_of_le b6 hB1.size; have b7 := Nat.lt_of_lt_of_le b7 hB1.size; have b8 := Nat.lt_of_lt_of_le b8 hB1.size; have b10 := Nat.lt_of_lt_of_le b10 hB1.size; have b12 := Nat.lt_of_lt_of_le b12 hB1.size)
                | (go_at_call 157; refine (HR.out _ ?hw).mono ?_; (case hw => exact hB1.alloc hB1.size _); rintro e w3 ⟨rfl, hB3⟩))
              have hB := (hB1.alloc hB1.size (.cells (encI [rb, rr, ra0, ra1, ra2, ra3, ro0, ro1, ro2, ro3]).toArray 120)).trans (below_weaken hB3 (by simp; exact Nat.le_succ_of_le hB1.size))
              have h8 := blk_below HB82.out hB
              have h16 := blk_below (blk_new w1 _) hB3
              have l16 := blk_lt h16
              have HB := Lib.hid hB
              have HB1 := Lib.hid hB1
              have HB3 := Lib.hid hB3
              have dl5 : day < 5 := by omega
              have dl5i : (day : Int) < 5 := by omega
              clear hB hB1 hB3
              refine start_ (n := 15) (S := fun w' => w'.cell? ⟨w1.heap.size, 0, none⟩ = some (.int .i64 rb) ∧ w'.cell? ⟨w1.heap.size, 1, none⟩ = some (.int .i64 rr) ∧ w'.cell? ⟨w1.heap.size, 2, none⟩ = some (.int .i64 ra0) ∧ w'.cell? ⟨w1.heap.size, 3, none⟩ = some (.int .i64 ra1) ∧ w'.cell? ⟨w1.heap.size, 4, none⟩ = some (.int .i64 ra2) ∧ w'.cell? ⟨w1.heap.size, 5, none⟩ = some (.int .i64 ra3) ∧ w'.cell? ⟨w1.heap.size, 6, none⟩ = some (.int .i64 ro0) ∧ w'.cell? ⟨w1.heap.size, 7, none⟩ = some (.int .i64 ro1) ∧ w'.cell? ⟨w1.heap.size, 8, none⟩ = some (.int .i64 ro2) ∧ w'.cell? ⟨w1.heap.size, 9, none⟩ = some (.int .i64 ro3)) (ds := [14]) #[false, false, false, false, false, false, false, false, false, false, false, false, false, false, false] (by kernel_rfl) rfl rfl ⟨(blk_cell h16 0).trans rfl, (blk_cell h16 1).trans rfl, (blk_cell h16 2).trans rfl, (blk_cell h16 3).trans rfl, (blk_cell h16 4).trans rfl, (blk_cell h16 5).trans rfl, (blk_cell h16 6).trans rfl, (blk_cell h16 7).trans rfl, (blk_cell h16 8).trans rfl, (blk_cell h16 9).trans rfl⟩ (fun hHeld => ?_)
              refine pu_ 0 (some 70) ?_
              refine pu_ 1 (some 71) ?_
              refine pu_ 2 (some 72) ?_
              refine pu_ 3 (some 73) ?_
              refine pu_ 4 (some 74) ?_
              refine pu_ 6 (some 76) ?_
              refine pu_ 7 (some 77) ?_
              refine pu_ 9 (some 78) ?_
              refine pu_ 12 (some 80) ?_
              refine ta_ 5 (some 75) (s := hHeld) (y := by rintro w' ⟨s0, s1, s2, s3, s4, s5, s6, s7, s8, s9⟩; go_simp; with_reducible rfl) (h := ?_)
              refine one_ (i := 8) (N := none) #[true, true, true, true, true, true, true, true, true, true, false, false, true, false, false] rfl rfl (by kernel_rfl) (by decide) (fun K hK => ?_)
              refine skip_int (by rfl) rfl 3 _ _ rfl W.heap.size (day) (t2) (lo + n) 123 (by rfl) (by rfl) h8 (by simp [HTL2.out]; omega) (by kernel_rfl) ?_
              intro W0 h8a hg0 hs0
              have h16a := (hg0.block _ l16 (fun e => by simp at e; omega)).trans h16
              have l16a := blk_lt h16a
              refine hK.out _ _ ⟨(blk_cell h16a 0).trans rfl, (blk_cell h16a 1).trans rfl, (blk_cell h16a 2).trans rfl, (blk_cell h16a 3).trans rfl, (blk_cell h16a 4).trans rfl, (blk_cell h16a 5).trans rfl, (blk_cell h16a 6).trans rfl, (blk_cell h16a 7).trans rfl, (blk_cell h16a 8).trans rfl, (blk_cell h16a 9).trans rfl⟩ (fun hHeld => ?_)
              clear hK K
              refine pu_ 10 (some 79) ?_
              refine one_ (i := 11) (N := none) #[true, true, true, true, true, true, true, true, true, true, true, true, true, false, false] rfl rfl (by kernel_rfl) (by decide) (fun K hK => ?_)
              refine skip_int (by rfl) rfl 3 _ _ rfl W.heap.size (5 + day) (t2.set day (lo + n)) (s) 123 (by rfl) (by rfl) h8a (by simp [HTL2.out]; omega) (by kernel_rfl) ?_
              intro W1 h8b hg1 hs1
              have h16b := (hg1.block _ l16a (fun e => by simp at e; omega)).trans h16a
              have l16b := blk_lt h16b
              refine hK.out _ _ ⟨(blk_cell h16b 0).trans rfl, (blk_cell h16b 1).trans rfl, (blk_cell h16b 2).trans rfl, (blk_cell h16b 3).trans rfl, (blk_cell h16b 4).trans rfl, (blk_cell h16b 5).trans rfl, (blk_cell h16b 6).trans rfl, (blk_cell h16b 7).trans rfl, (blk_cell h16b 8).trans rfl, (blk_cell h16b 9).trans rfl⟩ (fun hHeld => ?_)
              clear hK K
              refine pu_ 13 (some 81) ?_
              refine last_ (i := 14) (N := none) #[true, true, true, true, true, true, true, true, true, true, true, true, true, true, true] rfl rfl (by kernel_rfl) (by decide) (fun K hK => ?_)
              refine skip_row (by rfl) rfl 120 _ _ rfl W.heap.size (10 + day * 10) ((t2.set day (lo + n)).set (5 + day) s) ([rb, rr, ra0, ra1, ra2, ra3, ro0, ro1, ro2, ro3]) 123 (by rfl) (by rfl) h8b (by simp [HTL2.out]; omega) (by kernel_rfl) ?_
              intro W2 h8c hg2 hs2
              have h16c := (hg2.block _ l16b (fun e => by simp at e; omega)).trans h16b
              have l16c := blk_lt h16c
              refine hK.out _ _ ?_
              clear hK K
              refine done_ (by kernel_rfl) ?_

              obtain ⟨T3, hT3⟩ : ∃ x, x = setT t day (lo + n) s ⟨rb, rr, ra0, ra1, ra2, ra3, ro0, ro1, ro2, ro3⟩ := ⟨_, rfl⟩
              have h8d : W2.heap[W.heap.size]? = some (.cells (encI T3).toArray 123 (0, 0)) := by rw [hT3, ← HTS2.out]; exact h8c
              have hT3l : T3.length = 60 := by rw [hT3]; exact setT_length HT.out dl5 _ _ _
              have hch : ∀ S' : Nat → Prop, S' W.heap.size → Chg S' wr W2 := fun S' h => ((((Chg.of_below HB.out).drew).trans (Chg.of_grown hg0 h)).trans (Chg.of_grown hg1 h)).trans (Chg.of_grown hg2 h)
              have hk14 : KeepS S W W2 := HKN2.out.far (hch _ (Nat.le_refl _))
              have he14 : Env w0 W2 (fun k => S k ∨ k = W.heap.size ∨ k = W.heap.size + 1 ∨ k = W.heap.size + 1 + 1) #[.slice A0 l0.length c0, .slice (some ⟨bd, od, none⟩) l1.length c1, .slice A2 l2.length c2, .map (some m), .slice At nt ct] m l0.length g3 g4 g5 g6 g7 l Ab but.length cb := (HE.out.keep hk14).turn (fun k hk => Or.inl hk)
              have hj14 := hJ.keep HJN2.out (hch _ (Or.inr (Or.inl rfl)))
              have h10 := ((hch (fun k => k = W.heap.size) rfl).block _ (blk_lt HB102.out) (by omega)).trans HB102.out
              have h12 := ((hch (fun k => k = W.heap.size) rfl).block _ (blk_lt HB122.out) (by omega)).trans HB122.out
              have hlen : ((pre ++ dayTruths l0 l1 l2 but d t day r n) ++ skyTruths l0 l1 l2 but d t day r n s).length + 6 ^ d ≤ N := by
                have h1 := dayTruths_len (HLEN.out d) t day r n
                have h2 := skyTruths_len (HLEN.out d) t day r n s
                have h3 : n * (3 * 6 ^ d) ≤ 1 * (3 * 6 ^ d) := Nat.mul_le_mul_right _ hN1
                have h4 : s * 6 ^ d ≤ 2 * 6 ^ d := Nat.mul_le_mul_right _ hsle
                rw [Nat.pow_succ] at hp
                rw [List.length_append, List.length_append]
                omega
              have hih := HIH.out (day + 1) W2 _ he14 _ hj14 T3 hT3l _ HOK.out (by omega) hlen
              have ed : ((day + 1 : Nat) : Int) = (day : Int) + 1 := by omega
              have hvv : Rd.arr ⟨rb, rr, ra0, ra1, ra2, ra3, ro0, ro1, ro2, ro3⟩ = #[.int .i64 rb, .int .i64 rr, .int .i64 ra0, .int .i64 ra1, .int .i64 ra2, .int .i64 ra3, .int .i64 ro0, .int .i64 ro1, .int .i64 ro2, .int .i64 ro3] := rfl
              rw [ed, hvv] at hih
              have HIH2 := Lib.hid hih
              have HT3 := Lib.hid hT3
              have HT3L := Lib.hid hT3l
              have HCH := Lib.hid hch
              have HK14 := Lib.hid hk14
              have HE14 := Lib.hid he14
              have H10 := Lib.hid h10
              have H12 := Lib.hid h12
              have H8D := Lib.hid h8d
              have c70 := (blk_cell he14.h7 0).trans rfl
              have c7l := blk_lt he14.h7
              have l16d := blk_lt h16c
              have l8d := blk_lt h8d
              have y0 : W2.cell? ⟨w1.heap.size, 0, none⟩ = some (.int .i64 rb) := blk_cell h16c 0
              have y1 : W2.cell? ⟨w1.heap.size, 1, none⟩ = some (.int .i64 rr) := blk_cell h16c 1
              have y2 : W2.cell? ⟨w1.heap.size, 2, none⟩ = some (.int .i64 ra0) := blk_cell h16c 2
              have y3 : W2.cell? ⟨w1.heap.size, 3, none⟩ = some (.int .i64 ra1) := blk_cell h16c 3
              have y4 : W2.cell? ⟨w1.heap.size, 4, none⟩ = some (.int .i64 ra2) := blk_cell h16c 4
              have y5 : W2.cell? ⟨w1.heap.size, 5, none⟩ = some (.int .i64 ra3) := blk_cell h16c 5
              have y6 : W2.cell? ⟨w1.heap.size, 6, none⟩ = some (.int .i64 ro0) := blk_cell h16c 6
              have y7 : W2.cell? ⟨w1.heap.size, 7, none⟩ = some (.int .i64 ro1) := blk_cell h16c 7
              have y8 : W2.cell? ⟨w1.heap.size, 8, none⟩ = some (.int .i64 ro2) := blk_cell h16c 8
              have y9 : W2.cell? ⟨w1.heap.size, 9, none⟩ = some (.int .i64 ro3) := blk_cell h16c 9
              clear hih hT3 hT3l hch hk14 he14 h10 h12 h8d hj14 hlen hvv ed h8 h8a h8b h8c h16 h16a h16b h16c hg0 hg1 hg2 hs0 hs1 hs2 z0 z1 z2 z3 z4 z5 z6 z7 z8 z9 p0 p1 p2 p3 p31 p32 p33 p34 p5 p6 p7
              clear hHeld
              go_wp2_with (first
                | refine load_blk rfl 123 (.tmp 8) rfl W.heap.size 0 (encI T3) (encI T3) 123 (0, 0) _ rfl H8D.out (by simp) Tryd.underlying123 rfl (by rw [encI_length, HT3L.out]; kernel_rfl) ?_
                | (go_at_call 158; refine HIH2.out.mono ?_; rintro e w5 ⟨rfl, hJ5, hK5⟩; have HJ5 := Lib.hid hJ5; have HK5 := Lib.hid hK5; clear hJ5 hK5))
              go_roundg g2
              case measure => omega
              case rel =>
                refine ⟨s + 1, T3, by go_num, ⟨by have := HS.out; omega⟩, ⟨HT3L.out⟩, ⟨fun w s q => by rw [HT3.out]; exact setT_setT HT.out dl5 _ _ _ _ _ _⟩, ⟨(HK5.out.block _ (blk_lt H8D.out) (Or.inr (Or.inl rfl))).trans H8D.out⟩, ⟨(HK5.out.block _ (blk_lt H10.out) (Or.inr (Or.inr (Or.inl rfl)))).trans H10.out⟩, ⟨(HK5.out.block _ (blk_lt H12.out) (Or.inr (Or.inr (Or.inr rfl)))).trans H12.out⟩, ⟨HE14.out.keep HK5.out⟩, ⟨?_⟩, ⟨HK14.out.on HK5.out (fun k hk => Or.inl hk)⟩⟩
                have h := HJ5.out
                rw [skyTruths_succ, truthsAt, HSKY.out, if_pos rfl, HGD.out, ← HLO.out, ← HRE.out, ← HQ.out, if_pos rfl, ← HT3.out, ← List.append_assoc]
                exact h
end Go.Proofs.YthgjedagbgmgmaaDoor.Pr
namespace Go.Proofs.YthgjedagbgmgmaaDoor.Pr
open Go.RowKit Go.Proofs.YthgjedagbgmgmaaDoorW.PrintWords Go.Proofs.YthgjedagbgmgmaaDoorW.PrintLast Go.Proofs.YthgjedagbgmgmaaDoorW.PrintMore
set_option linter.unusedVariables false
set_option linter.unusedSimpArgs false
set_option maxHeartbeats 1000000 in
theorem from_calls (J : (Nat → Prop) → List (List Int) → World → Prop) (hJ : Iter J) (N l : Nat) (hY : ∀ S pre x W, J S pre W → x.length = 60 → pre.length < N → YieldAt Fence.wide 5 Tryd.prog l #[.agg (encI x).toArray] W fun e W' => e = .returned (.bool true) ∧ J S (pre ++ [x]) W' ∧ KeepS S W W')
    (A0 A1 A2 At Ab : Option Addr) (c0 c1 c2 nt ct m cb g3 g4 g5 g6 g7 : Nat) (l0 : List S92) (l1 : List S90) (l2 : List S43) (but : List Int) (w0 : World) (hG : GOK w0) (hr0 : FRow e92 2 w0 A0 l0) (hr1 : FRow e90 3 w0 A1 l1) (hr2 : FRow e43 2 w0 A2 l2) (hrb : FRow eI 1 w0 Ab but) (hc0 : l0.length ≤ c0) (hc2 : l2.length ≤ c2) (hcb : but.length ≤ cb)
    (h01 : 1 ≤ l0.length) (h04 : l0.length ≤ 4) (h15 : l1.length ≤ 5) (h2l : l2.length ≤ 1000) (hbl : but.length ≤ 1000) (hdays : ∀ x ∈ l1, 0 ≤ x.f0.f0 ∧ x.f0.f0 ≤ x.f0.f1 ∧ x.f0.f1 ≤ 20 ∧ x.f0.f1 ≤ x.f0.f0 + 1 ∧ 0 ≤ x.f1 ∧ x.f1 ≤ 7)
    (d : Nat) : ∀ (day : Nat) (W : World) (S : Nat → Prop) (hE : Env w0 W S #[.slice A0 l0.length c0, .slice A1 l1.length c1, .slice A2 l2.length c2, .map (some m), .slice At nt ct] m l0.length g3 g4 g5 g6 g7 l Ab but.length cb) (pre : List (List Int)) (_ : J S pre W) (t : List Int) (_ : t.length = 60) (r : Rd) (_ : r.Ok l0.length day) (_ : day + d = l1.length) (_ : pre.length + 6 ^ d ≤ N),
      Calls Tryd.prog 158 #[.agg (encI t).toArray, .int .i64 day, .agg r.arr, .pointer (some ⟨g3, 0, none⟩), .pointer (some ⟨g4, 0, none⟩), .pointer (some ⟨g5, 0, none⟩), .pointer (some ⟨g6, 0, none⟩), .pointer (some ⟨g7, 0, none⟩)] W
        fun e W' => e = .returned (.bool true) ∧ J S (pre ++ truthsFrom l0 l1 l2 but d t day r) W' ∧ KeepS S W W' := by
  induction d with
  | zero =>
    intro day W S hE pre hj t ht r ok hd hp
    obtain rfl : day = l1.length := by omega
    exact from0_calls J hJ N l hY A0 A1 A2 At Ab c0 c1 c2 nt ct m cb g3 g4 g5 g6 g7 l0 l1 l2 but w0 W S hE pre hj (by rw [Nat.pow_zero] at hp; omega) t ht r h15
  | succ d ih =>
    intro day W S hE pre hj t ht r ok hd hp
    exact from_step J hJ N l hY A0 A1 A2 At Ab c0 c1 c2 nt ct m cb g3 g4 g5 g6 g7 l0 l1 l2 but w0 hG hr0 hr1 hr2 hrb hc0 hc2 hcb h01 h04 h15 h2l hbl hdays d ih day W S hE pre hj t ht r ok hd hp
/-- The road at first. -/
def r00 : Rd := ⟨0, -1, 0, 0, 0, 0, 0, 0, 0, 0⟩
theorem r00_ok (n : Nat) : r00.Ok n 0 := ⟨by decide, by show (0 : Int) ≤ n; omega, by decide, by decide, by decide, by decide, by decide, by decide, by decide, by decide, by decide, by decide⟩
/-- No truth yet. -/
def t00 : List Int := List.replicate 60 0
/-- All truths of a book. -/
def truthsAll (ls : List S92) (ds : List S90) (looks : List S43) (but : List Int) : List (List Int) := truthsFrom ls ds looks but ds.length t00 0 r00
theorem t00_enc : (encI t00).toArray = #[.int .i64 0, .int .i64 0, .int .i64 0, .int .i64 0, .int .i64 0, .int .i64 0, .int .i64 0, .int .i64 0, .int .i64 0, .int .i64 0, .int .i64 0, .int .i64 0, .int .i64 0, .int .i64 0, .int .i64 0, .int .i64 0, .int .i64 0, .int .i64 0, .int .i64 0, .int .i64 0, .int .i64 0, .int .i64 0, .int .i64 0, .int .i64 0, .int .i64 0, .int .i64 0, .int .i64 0, .int .i64 0, .int .i64 0, .int .i64 0, .int .i64 0, .int .i64 0, .int .i64 0, .int .i64 0, .int .i64 0, .int .i64 0, .int .i64 0, .int .i64 0, .int .i64 0, .int .i64 0, .int .i64 0, .int .i64 0, .int .i64 0, .int .i64 0, .int .i64 0, .int .i64 0, .int .i64 0, .int .i64 0, .int .i64 0, .int .i64 0, .int .i64 0, .int .i64 0, .int .i64 0, .int .i64 0, .int .i64 0, .int .i64 0, .int .i64 0, .int .i64 0, .int .i64 0, .int .i64 0] := by rfl
set_option maxHeartbeats 4000000 in
set_option maxRecDepth 100000 in
theorem days1_calls (J : (Nat → Prop) → List (List Int) → World → Prop) (hJ : Iter J) (N l : Nat) (hY : ∀ S pre x W, J S pre W → x.length = 60 → pre.length < N → YieldAt Fence.wide 5 Tryd.prog l #[.agg (encI x).toArray] W fun e W' => e = .returned (.bool true) ∧ J S (pre ++ [x]) W' ∧ KeepS S W W')
    (A0 A1 A2 At Ab : Option Addr) (c0 c1 c2 nt ct m cb g1 g2 : Nat) (l0 : List S92) (l1 : List S90) (l2 : List S43) (but : List Int) (w0 : World) (hG : GOK w0) (hr0 : FRow e92 2 w0 A0 l0) (hr1 : FRow e90 3 w0 A1 l1) (hr2 : FRow e43 2 w0 A2 l2) (hrb : FRow eI 1 w0 Ab but) (hc0 : l0.length ≤ c0) (hc2 : l2.length ≤ c2) (hcb : but.length ≤ cb)
    (h01 : 1 ≤ l0.length) (h04 : l0.length ≤ 4) (h15 : l1.length ≤ 5) (h2l : l2.length ≤ 1000) (hbl : but.length ≤ 1000) (hdays : ∀ x ∈ l1, 0 ≤ x.f0.f0 ∧ x.f0.f0 ≤ x.f0.f1 ∧ x.f0.f1 ≤ 20 ∧ x.f0.f1 ≤ x.f0.f0 + 1 ∧ 0 ≤ x.f1 ∧ x.f1 ≤ 7)
    (W : World) (S : Nat → Prop) (hB0 : Below w0.heap.size w0 W) (hold : ∀ k, k < w0.heap.size → S k) (hg1 : W.heap[g1]? = some (.cells #[.slice A0 l0.length c0, .slice A1 l1.length c1, .slice A2 l2.length c2, .map (some m), .slice At nt ct] 107 (0, 0))) (sg1 : S g1) (hg2 : W.heap[g2]? = some (.cells #[.slice Ab but.length cb] 45 (0, 0))) (sg2 : S g2)
    (hm : W.heap[m]? = some (.map (bareMap l0.length).toArray l0.length)) (sm : S m) (hj : J S [] W) (hN : 6 ^ l1.length ≤ N) :
    Calls Tryd.prog 156 #[.func (.yield l) #[] #[], .pointer (some ⟨g1, 0, none⟩), .pointer (some ⟨g2, 0, none⟩)] W
      fun e W' => e = .returned (.tuple #[]) ∧ J S (truthsAll l0 l1 l2 but) W' ∧ KeepS S W W' := by
  have hz := hG.size
  have hz1 := hB0.size
  have q0 := (hB0.cell (p := ⟨0, 0, none⟩) (by show 0 < _; omega)).trans hG.b0
  have q1 := (hB0.cell (p := ⟨0, 1, none⟩) (by show 0 < _; omega)).trans hG.b1
  have z0 : 0 < W.heap.size := by omega
  have p0 : W.cell? ⟨g1, 0, none⟩ = some (.slice A0 l0.length c0) := blk_cell hg1 0
  have p1 : W.cell? ⟨g1, 1, none⟩ = some (.slice A1 l1.length c1) := blk_cell hg1 1
  have p2 : W.cell? ⟨g1, 2, none⟩ = some (.slice A2 l2.length c2) := blk_cell hg1 2
  have p3 : W.cell? ⟨g1, 3, none⟩ = some (.map (some m)) := blk_cell hg1 3
  have p4 : W.cell? ⟨g1, 4, none⟩ = some (.slice At nt ct) := blk_cell hg1 4
  have b1 := blk_lt hg1
  have b2 := blk_lt hg2
  have bm := blk_lt hm
  have hB : Below W.heap.size W (((W.alloc (.cells #[.func (.yield l) #[] #[]] 213)).alloc (.cells #[.func (.func 157) #[.agg #[.slice A0 l0.length c0, .slice A1 l1.length c1, .slice A2 l2.length c2, .map (some m), .slice At nt ct]] #[]] 214)).alloc (.cells #[.func (.func 158) #[] #[.pointer (some ⟨g1, 0, none⟩), .pointer (some ⟨W.heap.size, 0, none⟩), .pointer (some ⟨W.heap.size + 1, 0, none⟩), .pointer (some ⟨g2, 0, none⟩), .pointer (some ⟨W.heap.size + 1 + 1, 0, none⟩)]] 215)) := by repeat (first | exact Below.refl _ _ | refine Below.alloc ?_ (by simp <;> omega) _ | refine Below.setCell ?_ (by simp <;> omega) _ | apply Below.drew)
  have hE : Env w0 (((W.alloc (.cells #[.func (.yield l) #[] #[]] 213)).alloc (.cells #[.func (.func 157) #[.agg #[.slice A0 l0.length c0, .slice A1 l1.length c1, .slice A2 l2.length c2, .map (some m), .slice At nt ct]] #[]] 214)).alloc (.cells #[.func (.func 158) #[] #[.pointer (some ⟨g1, 0, none⟩), .pointer (some ⟨W.heap.size, 0, none⟩), .pointer (some ⟨W.heap.size + 1, 0, none⟩), .pointer (some ⟨g2, 0, none⟩), .pointer (some ⟨W.heap.size + 1 + 1, 0, none⟩)]] 215)) (fun k => S k ∨ k = W.heap.size ∨ k = W.heap.size + 1 ∨ k = W.heap.size + 1 + 1) #[.slice A0 l0.length c0, .slice A1 l1.length c1, .slice A2 l2.length c2, .map (some m), .slice At nt ct] m l0.length g1 W.heap.size (W.heap.size + 1) g2 (W.heap.size + 1 + 1) l Ab but.length cb :=
    ⟨hB0.trans (below_weaken hB hz1), fun k hk => .inl (hold k hk), blk_below hg1 hB, .inl sg1, blk_alloc (blk_alloc (blk_new _ _) _) _, .inr (.inl rfl), blk_alloc (blk_at (W.alloc _) _ _ (by simp)) _, .inr (.inr (.inl rfl)), blk_below hg2 hB, .inl sg2, blk_at _ _ _ (by simp), .inr (.inr (.inr rfl)), blk_below hm hB, .inl sm⟩
  have hj3 : J (fun k => S k ∨ k = W.heap.size ∨ k = W.heap.size + 1 ∨ k = W.heap.size + 1 + 1) [] (((W.alloc (.cells #[.func (.yield l) #[] #[]] 213)).alloc (.cells #[.func (.func 157) #[.agg #[.slice A0 l0.length c0, .slice A1 l1.length c1, .slice A2 l2.length c2, .map (some m), .slice At nt ct]] #[]] 214)).alloc (.cells #[.func (.func 158) #[] #[.pointer (some ⟨g1, 0, none⟩), .pointer (some ⟨W.heap.size, 0, none⟩), .pointer (some ⟨W.heap.size + 1, 0, none⟩), .pointer (some ⟨g2, 0, none⟩), .pointer (some ⟨W.heap.size + 1 + 1, 0, none⟩)]] 215)) := by
    refine hJ.step (S' := (fun k => S k ∨ k = W.heap.size ∨ k = W.heap.size + 1 ∨ k = W.heap.size + 1 + 1)) hj (Chg.of_below hB) ?_
    rintro k (hk | rfl | rfl | rfl)
    · exact .inl hk
    all_goals exact .inr ⟨by omega, by simp <;> omega⟩
  have hc := from_calls J hJ N l hY A0 A1 A2 At Ab c0 c1 c2 nt ct m cb g1 W.heap.size (W.heap.size + 1) g2 (W.heap.size + 1 + 1) l0 l1 l2 but w0 hG hr0 hr1 hr2 hrb hc0 hc2 hcb h01 h04 h15 h2l hbl hdays l1.length 0 (((W.alloc (.cells #[.func (.yield l) #[] #[]] 213)).alloc (.cells #[.func (.func 157) #[.agg #[.slice A0 l0.length c0, .slice A1 l1.length c1, .slice A2 l2.length c2, .map (some m), .slice At nt ct]] #[]] 214)).alloc (.cells #[.func (.func 158) #[] #[.pointer (some ⟨g1, 0, none⟩), .pointer (some ⟨W.heap.size, 0, none⟩), .pointer (some ⟨W.heap.size + 1, 0, none⟩), .pointer (some ⟨g2, 0, none⟩), .pointer (some ⟨W.heap.size + 1 + 1, 0, none⟩)]] 215)) (fun k => S k ∨ k = W.heap.size ∨ k = W.heap.size + 1 ∨ k = W.heap.size + 1 + 1) hE [] hj3 t00 (by simp [t00]) r00 (r00_ok _) (by omega) (by simpa using hN)
  have ed : ((0 : Nat) : Int) = 0 := rfl
  have hv : r00.arr = #[.int .i64 0, .int .i64 (-1), .int .i64 0, .int .i64 0, .int .i64 0, .int .i64 0, .int .i64 0, .int .i64 0, .int .i64 0, .int .i64 0] := rfl
  rw [ed, hv, t00_enc] at hc
  have HC := Lib.hid hc
  have HB := Lib.hid hB
  clear hc hE hj3 hY hG hr0 hr1 hr2 hrb hdays hj hB hv ed hg1 hg2 hm
  go_enter Tryd.func156, Tryd.ntmps156
  go_wp2_with (go_at_call 158; refine HC.out.mono ?_; rintro e W5 ⟨rfl, hJ5, hK5⟩; have HJ5 := Lib.hid hJ5; have HK5 := Lib.hid hK5; clear hJ5 hK5)
  go_end0
  refine ⟨rfl, ?_, ?_⟩
  · have h := HJ5.out
    rw [List.nil_append] at h
    exact hJ.turn h fun k hk => .inl hk
  · exact (KeepS.of_below HB.out).on HK5.out fun k hk => .inl hk
end Go.Proofs.YthgjedagbgmgmaaDoor.Pr
namespace Go.Proofs.YthgjedagbgmgmaaDoor.Pr
open Go.RowKit Go.Proofs.YthgjedagbgmgmaaDoorW.PrintWords Go.Proofs.YthgjedagbgmgmaaDoorW.PrintLast Go.Proofs.YthgjedagbgmgmaaDoorW.PrintMore
set_option linter.unusedVariables false
set_option linter.unusedSimpArgs false
theorem wide_range {P : Program} {g : Operand} {ps : Array Tmp} {assign body : Code} {Q : Exit → Act → World → Prop} {a : Act} {w : World} {gf : Nat} {lb : Array Value} (hg : a.eval g = .func (.func gf) #[] lb) (eg : ∀ args w, (callFunc gf args).run P w = .ok (.enter gf args) w)
    (post : World → Prop)
    (hcall : ∀ R : Loop, R.params = ps → R.tmps = a.tmps → R.assign = assign → R.body = body → R.state = .ready → R.pending = none →
      Calls P gf (#[.func (.yield (w.heap.size + 1)) #[] #[]] ++ lb) ((w.alloc (.deferred (some []))).alloc (.loop R)) fun e W2 => (∃ v, e = .returned v) ∧ W2.heap[w.heap.size + 1]? = some (.loop R) ∧ post W2)
    (hdone : ∀ (R : Loop) (W2 : World), W2.heap[w.heap.size + 1]? = some (.loop R) → post W2 → Q .normal { a with defers := { target := .collected w.heap.size, args := #[] } :: a.defers } (W2.putObj (w.heap.size + 1) (.loop { R with state := .exhausted }))) :
    (Code.rangeFunc g ps assign body).wp P Q a w := by
  refine (wpIn_wide (n := 6)).1 (wpIn_rangeFunc ?_)
  intro fn hfn
  obtain ⟨R, hR⟩ : ∃ R : Loop, R = { state := .ready, pending := none, fn, tmps := a.tmps, params := ps, assign, body, defers := w.heap.size } := ⟨_, rfl⟩
  refine ⟨w.heap.size + 1, [{ target := .collected w.heap.size, args := #[] }], (w.alloc (.deferred (some []))).alloc (.loop R), { target := .fn (.func gf) lb, args := #[.func (.yield (w.heap.size + 1)) #[] #[]] }, (w.alloc (.deferred (some []))).alloc (.loop R), gf,
    #[.func (.yield (w.heap.size + 1)) #[] #[]] ++ lb, (w.alloc (.deferred (some []))).alloc (.loop R), ?_, ?_, ?_, ?_, fun _ => by decide, ?_⟩
  · rw [hR]; exact run_enterLoop_outer _ _ _ _ _
  · simp only [resolve, hg]
    simp [go_sem]
  · intro f' _
    exact trivial
  · simp [invoke, go_sem, eg]
  · refine callsIn_wide.2 ((hcall R (by rw [hR]) (by rw [hR]) (by rw [hR]) (by rw [hR]) (by rw [hR]) (by rw [hR])).mono ?_)
    rintro e W2 ⟨⟨v, rfl⟩, hl, hp⟩
    refine ⟨R.pending, _, run_endLoop hl (by rw [hR]; simp), ?_⟩
    have hpe : R.pending = none := by rw [hR]
    have hx := hdone R W2 hl hp
    rw [hpe] at hx ⊢
    exact hx
theorem wide_yield {P : Program} {l m : Nat} {R : Loop} {args : Array Value} {W : World} {post : Ending → World → Prop} {ps : Array Tmp} {tm : Array Value} {asg bo : Code} (hl : W.heap[l]? = some (.loop R)) (hst : R.state = .ready) (hpe : R.pending = none)
    (h1 : R.params = ps) (h2 : R.tmps = tm) (h3 : R.assign = asg) (h4 : R.body = bo) (hs : args.size = ps.size)
    (h : ∀ Rb : Loop, asg.wpIn (Fence.wide.inRound l) m P (Exit.then (fun a1 w1 => w1.heap[l]? = some (.loop R) ∧ bo.wpIn (Fence.wide.inRound l) m P
      (fun e _ w' => e = .normal ∧ w'.heap[l]? = some (.loop Rb) ∧ post (.returned (.bool true)) (w'.putObj l (.loop R))) a1 (w1.putObj l (.loop Rb))) (fun _ _ _ => False))
      { tmps := (ps.zip args).foldl (fun tmps (t, a) => tmps.setIfInBounds t a) tm, defers := [] } W) : YieldAt Fence.wide m P l args W post := by
  obtain ⟨st, pe, fn, tm', ps', asg', bo', de⟩ := R
  subst hst
  subst hpe
  subst h1
  subst h2
  subst h3
  subst h4
  refine ⟨fn, _, asg', bo', run_yield hl hs, roundIn_of_wpIn trivial (wpIn_mono (h { state := .busy, pending := none, fn := fn, tmps := tm', params := ps', assign := asg', body := bo', defers := de }) ?_)⟩
  rintro e a w hp
  cases e with
  | normal =>
    obtain ⟨h1, h2⟩ := hp
    refine ⟨_, run_beginRound h1 rfl, wpIn_mono h2 ?_⟩
    rintro e a' w' ⟨rfl, h3, h4⟩
    exact ⟨_, _, run_endRound none h3, h4⟩
  | ret => exact hp.elim
  | exit id => exact hp.elim
  | goto t => exact hp.elim
  | panic c => exact hp.elim
  | outgrown => exact hp.elim
section
variable {F : Fence} {n : Nat} {P : Program} {ops : Array Oper} {rest : List Oper} {o : Oper} {a : Act} {Q : Exit → Act → World → Prop} {W : World}
/-- A slice of one struct. -/
theorem buildIn_one (hgd : o.guard = none) (t e : TypeId) (x : Operand) (ho : o.op = .buildSlice t 1 #[(0, x)]) (xs : List Value) (hx : a.eval x = .agg xs.toArray) (ie : TypeInfo) (z : Value)
    (hu : P.underlying t = some (.slice e)) (hie : P.info? e = some ie) (hz : ie.zero = some z) (hsz : ie.size = xs.length) (hpos : 0 < xs.length) (hsmall : xs.length ≤ 2 ^ 24)
    (h : wpListIn F n P ops Q rest (a.put o.dst (.slice (some ⟨W.heap.size, 0, none⟩) 1 1)) (W.alloc (.cells xs.toArray e))) : wpListIn F n P ops Q (o :: rest) a W := by
  have hf : Instr.fill (fun i => some (i * ie.size, ie.size)) ((Array.range (1 * ie.size)).map (z.cells[· % z.cells.size]!)) ((#[(0, x)] : Array (Nat × Operand)).map fun (i, x) => (i, a.eval x)).toList = some xs.toArray := by
    have := Great.fill_whole (s := ie.size) (by omega) [Value.agg xs.toArray] ((Array.range (1 * ie.size)).map (z.cells[· % z.cells.size]!)) (by intro v hv; simp at hv; subst hv; simp [Value.cells, hsz]) (by simp)
    simpa [hx, Value.cells] using this
  refine wpListIn_plain hgd fun K hK => ?_
  unfold Oper.wpIn
  refine ⟨by simp [Oper.about, ho], ?_⟩
  rw [Oper.semAt_eq _ _ _ (by rw [ho]; intro c hc; cases hc)]
  unfold execOp
  simp only [ho, Sem.run_bind, run_buildSlice W t e 1 _ xs.toArray ie z hu hie hz (by omega) (by omega) hf, Result.andThen_ok]
  exact hK _ _ h
end
theorem own_same {W W' : World} {b : Nat} {e : TypeId} {s : Nat} {v : Value} {n : Nat} {xs : List Value} (h : W.ownsRow b e s v n xs) (hk : ∀ k, v.ownBlock = some k → W'.heap[k]? = W.heap[k]?) : W'.ownsRow b e s v n xs := by
  refine ⟨h.1, ?_⟩
  rcases h.2 with hn | ⟨g, cap, cur, rfl, h1, h2, h3⟩
  · exact .inl hn
  · exact .inr ⟨g, cap, cur, rfl, h1, (hk g rfl).trans h2, h3⟩
theorem row_ne {W : World} {B : Nat} {C : Array Value} {t e : TypeId} {fr : Nat × Nat} (h : W.heap[B]? = some (.cells C t fr)) (hte : t ≠ e) {base size k : Nat} {v : Value} {xs : List Value} (hr : W.ownsRow base e size v k xs) : some B ≠ v.ownBlock := by
  rcases hr.2 with ⟨rfl, _⟩ | ⟨g, cap, cur, rfl, _, hgb, _⟩
  · simp [Value.ownBlock]
  · intro e'
    obtain rfl : B = g := by simpa [Value.ownBlock] using e'
    rw [h] at hgb
    simp at hgb
    exact hte hgb.2.1
theorem Chg.grown_row {S : Nat → Prop} {A B : World} {row : Option Nat} (h : A.grownBy B row) (hg : ∀ g, row = some g → S g) : Chg S A B := ⟨h.os, h.tape, h.output, h.size, fun k hk hs => h.block k hk (fun e => hs (hg k e.symm))⟩
theorem Chg.mono {S S' : Nat → Prop} {A B : World} (h : Chg S A B) (hs : ∀ k, S k → S' k) : Chg S' A B := ⟨h.os, h.tape, h.output, h.size, fun k hk hn => h.block k hk (fun e => hn (hs k e))⟩
theorem Chg.cell {S : Nat → Prop} (A : World) (g i : Nat) (v : Value) (hg : S g) : Chg S A (A.setCell ⟨g, i, none⟩ v) := Chg.of_grown (g := g) (grown_setCells A g i [v]) hg
theorem cell_add {W : World} {g : Nat} {C : Array Value} {t : TypeId} {fr : Nat × Nat} (h : W.heap[g]? = some (.cells C t fr)) (j : Nat) : W.cell? (Addr.add ⟨g, 0, none⟩ j) = C[j]? := by
  have e : Addr.add ⟨g, 0, none⟩ j = ⟨g, j, none⟩ := by
    unfold Addr.add
    by_cases hj : j = 0
    · subst hj; rfl
    · simp [hj]
  rw [e, cell_of_row W g j C t fr h]
theorem own_cells {w : World} {base : Nat} {e : TypeId} {size n : Nat} {v : Value} {xs : List Value} (h : w.ownsRow base e size v n xs) (k : Nat) (hk : v.ownBlock = some k) : ∃ cur, w.heap[k]? = some (.cells cur e (0, 0)) := by
  rcases h.2 with ⟨rfl, _⟩ | ⟨g, cap, cur, rfl, _, hg, _⟩
  · simp [Value.ownBlock] at hk
  · obtain rfl : g = k := by simpa [Value.ownBlock] using hk
    exact ⟨cur, hg⟩
/-- What the range in 'opened' holds between two rounds. -/
def TJ (B5 L D n0 m : Nat) (s0 s1 s2 : Value) (R : Loop) (S : Nat → Prop) (pre : List (List Int)) (W : World) : Prop :=
  (∀ k, S k → k < W.heap.size) ∧ ¬ S B5 ∧ ¬ S L ∧ ¬ S D ∧ W.heap[L]? = some (.loop R) ∧ W.heap[D]? = some (.deferred (some [])) ∧
  ∃ v, W.heap[B5]? = some (.cells #[s0, s1, s2, .map (some m), v] 107 (0, 0)) ∧ W.ownsRow n0 123 60 v pre.length (pre.flatMap encI) ∧ ∀ k, v.ownBlock = some k → ¬ S k
theorem TJ_iter (B5 L D n0 m : Nat) (s0 s1 s2 : Value) (R : Loop) : Iter (TJ B5 L D n0 m s0 s1 s2 R) := by
  constructor
  rintro S S' pre W W' ⟨h0, h1, h2, h3, hl, hd, v, hb, ho, hs⟩ hc ht
  have hlt : ∀ k, k < W.heap.size → ¬ S k → ¬ S' k := fun k hk hn hs' => (ht k hs').elim hn (by omega)
  refine ⟨fun k hk => (ht k hk).elim (fun h => Nat.lt_of_lt_of_le (h0 k h) hc.size) (fun h => h.2), hlt _ (blk_lt hb) h1, hlt _ (Array.getElem?_eq_some_iff.1 hl).1 h2, hlt _ (Array.getElem?_eq_some_iff.1 hd).1 h3, (hc.block _ (Array.getElem?_eq_some_iff.1 hl).1 h2).trans hl, (hc.block _ (Array.getElem?_eq_some_iff.1 hd).1 h3).trans hd, v, (hc.block _ (blk_lt hb) h1).trans hb, ?_, fun k hk => hlt k (own_lt ho k hk) (hs k hk)⟩
  exact own_same ho fun k hk => hc.block k (own_lt ho k hk) (hs k hk)
end Go.Proofs.YthgjedagbgmgmaaDoor.Pr
namespace Go.Proofs.YthgjedagbgmgmaaDoor.Pr
open Go.RowKit Go.Proofs.YthgjedagbgmgmaaDoorW.PrintWords Go.Proofs.YthgjedagbgmgmaaDoorW.PrintLast Go.Proofs.YthgjedagbgmgmaaDoorW.PrintMore
set_option linter.unusedVariables false
set_option linter.unusedSimpArgs false
theorem truthsFrom_60 (ls : List S92) (ds : List S90) (looks : List S43) (but : List Int) : ∀ d t day r, t.length = 60 → day + d ≤ 5 → ∀ x ∈ truthsFrom ls ds looks but d t day r, x.length = 60 := by
  intro d
  induction d with
  | zero =>
    intro t day r ht _ x hx
    simp [truthsFrom] at hx
    rw [hx, ht]
  | succ d ih =>
    intro t day r ht hd x hx
    rw [truthsFrom] at hx
    simp only [List.mem_flatMap] at hx
    obtain ⟨n, _, s, _, hx⟩ := hx
    split at hx
    · split at hx
      · exact ih _ _ _ (setT_length ht (by omega) _ _ _) (by omega) x hx
      · simp at hx
    · simp at hx
theorem truthsAll_60 {ls : List S92} {ds : List S90} {looks : List S43} {but : List Int} (h : ds.length ≤ 5) : ∀ x ∈ truthsAll ls ds looks but, x.length = 60 :=
  truthsFrom_60 _ _ _ _ _ _ _ _ (by simp [t00]) (by omega)
theorem take_drop_flat {xs : List (List Value)} {s : Nat} (h : ∀ x ∈ xs, x.length = s) (i : Nat) (x : List Value) (hi : xs[i]? = some x) (j : Nat) (v : Value) (hj : x[j]? = some v) : xs.flatten[i * s + j]? = some v := by
  induction xs generalizing i with
  | nil => simp at hi
  | cons y ys ih =>
    have hy := h y (by simp)
    cases i with
    | zero =>
      simp at hi
      subst hi
      rw [List.flatten_cons, Nat.zero_mul, Nat.zero_add, List.getElem?_append_left (List.getElem?_eq_some_iff.1 hj).1]
      exact hj
    | succ i =>
      rw [List.flatten_cons, List.getElem?_append_right (by rw [Nat.succ_mul]; omega), show (i + 1) * s + j - y.length = i * s + j by rw [Nat.succ_mul]; omega]
      exact ih (fun x hx => h x (by simp [hx])) i (by simpa using hi)
theorem frow_own {W : World} {base : Nat} {e : TypeId} {A : Option Addr} {n c : Nat} {T : List (List Int)} (h : W.ownsRow base e 60 (.slice A n c) n (T.flatMap encI)) (hT : ∀ x ∈ T, x.length = 60) : FRow encI 60 W A T ∧ n = T.length ∧ n ≤ c := by
  have hlen : T.flatMap encI = (T.map encI).flatten := by rw [List.flatMap_def]
  have h60 : ∀ y ∈ T.map encI, y.length = 60 := by
    intro y hy
    obtain ⟨x, hx, rfl⟩ := List.mem_map.1 hy
    rw [encI_length]; exact hT x hx
  have hl : (T.flatMap encI).length = T.length * 60 := by
    clear h hlen
    induction T with
    | nil => rfl
    | cons x xs ih =>
      rw [List.flatMap_cons, List.length_append, ih (fun y hy => hT y (by simp [hy])) (fun y hy => h60 y (by simp at hy ⊢; exact .inr hy)), encI_length, hT x (by simp), List.length_cons, Nat.succ_mul]
      omega
  have hn : n = T.length := by have := h.1; omega
  refine ⟨?_, hn, ?_⟩
  · rcases h.2 with ⟨e1, h0⟩ | ⟨g, cap, cur, e1, h1, h2, h3, h4, h5, h6⟩
    · exact .inl (List.length_eq_zero_iff.1 (by omega))
    · injection e1 with e1 e2 e3
      subst e1
      refine .inr ⟨g, 0, rfl, (Array.getElem?_eq_some_iff.1 h2).1, fun i x hx j v hj => ?_⟩
      rw [cell_of_row W g _ cur e (0, 0) h2, Nat.zero_add]
      have hf := take_drop_flat h60 i (encI x) (by rw [List.getElem?_map, hx]; rfl) j v hj
      rw [← hlen, ← h6] at hf
      rw [List.getElem?_take] at hf
      split at hf
      · simpa using hf
      · simp at hf
  · rcases h.2 with ⟨e1, h0⟩ | ⟨g, cap, cur, e1, h1, h2, h3, h4, h5, h6⟩
    · omega
    · injection e1 with e1 e2 e3
      omega
theorem blk_alloc' {W : World} {g : Nat} {o : Obj} (h : W.heap[g]? = some o) (o' : Obj) : (W.alloc o').heap[g]? = some o := (Below.heap_alloc _ _ _ (Array.getElem?_eq_some_iff.1 h).1).trans h
theorem blk_below' {W W' : World} {g : Nat} {o : Obj} (h : W.heap[g]? = some o) (hb : Below W.heap.size W W') : W'.heap[g]? = some o := (hb.block g (Array.getElem?_eq_some_iff.1 h).1).trans h
theorem info123 : (Tryd.prog.info? 123).map (fun i => (i.zero, i.size, i.bytes)) = some (some (.agg #[.int .i64 0, .int .i64 0, .int .i64 0, .int .i64 0, .int .i64 0, .int .i64 0, .int .i64 0, .int .i64 0, .int .i64 0, .int .i64 0, .int .i64 0, .int .i64 0, .int .i64 0, .int .i64 0, .int .i64 0, .int .i64 0, .int .i64 0, .int .i64 0, .int .i64 0, .int .i64 0, .int .i64 0, .int .i64 0, .int .i64 0, .int .i64 0, .int .i64 0, .int .i64 0, .int .i64 0, .int .i64 0, .int .i64 0, .int .i64 0, .int .i64 0, .int .i64 0, .int .i64 0, .int .i64 0, .int .i64 0, .int .i64 0, .int .i64 0, .int .i64 0, .int .i64 0, .int .i64 0, .int .i64 0, .int .i64 0, .int .i64 0, .int .i64 0, .int .i64 0, .int .i64 0, .int .i64 0, .int .i64 0, .int .i64 0, .int .i64 0, .int .i64 0, .int .i64 0, .int .i64 0, .int .i64 0, .int .i64 0, .int .i64 0, .int .i64 0, .int .i64 0, .int .i64 0, .int .i64 0]), 60, 480) := by kernel_rfl
theorem enters156 : ∀ args w, (callFunc 156 args).run Tryd.prog w = .ok (.enter 156 args) w := enters_of Tryd.func156 (by kernel_rfl) rfl
attribute [local go_sem] Oper.semAt_some
set_option maxHeartbeats 4000000 in
set_option maxRecDepth 100000 in
theorem opened_calls (A0 A1 A2 Ab : Option Addr) (c0 c1 c2 cb : Nat) (l0 : List S92) (l1 : List S90) (l2 : List S43) (but : List Int) (w : World) (hG : GOK w) (hr0 : FRow e92 2 w A0 l0) (hr1 : FRow e90 3 w A1 l1) (hr2 : FRow e43 2 w A2 l2) (hrb : FRow eI 1 w Ab but) (hc0 : l0.length ≤ c0) (hc2 : l2.length ≤ c2) (hcb : but.length ≤ cb)
    (h01 : 1 ≤ l0.length) (h04 : l0.length ≤ 4) (h15 : l1.length ≤ 5) (h2l : l2.length ≤ 1000) (hbl : but.length ≤ 1000) (hdays : ∀ x ∈ l1, 0 ≤ x.f0.f0 ∧ x.f0.f0 ≤ x.f0.f1 ∧ x.f0.f1 ≤ 20 ∧ x.f0.f1 ≤ x.f0.f0 + 1 ∧ 0 ≤ x.f1 ∧ x.f1 ≤ 7) :
    Calls Tryd.prog 75 #[.agg #[.slice A0 l0.length c0, .slice A1 l1.length c1, .slice A2 l2.length c2], .slice Ab but.length cb] w
      fun e W' => ∃ At ct m, e = .returned (.agg #[.slice A0 l0.length c0, .slice A1 l1.length c1, .slice A2 l2.length c2, .map (some m), .slice At (truthsAll l0 l1 l2 but).length ct]) ∧ W'.ownsRow w.heap.size 123 60 (.slice At (truthsAll l0 l1 l2 but).length ct) (truthsAll l0 l1 l2 but).length ((truthsAll l0 l1 l2 but).flatMap encI) ∧ w.heap.size ≤ m ∧ W'.heap[m]? = some (.map (bareMap l0.length).toArray l0.length) ∧ Below w.heap.size w W' := by
  obtain ⟨i0, hi, hz0, hz1, hz2⟩ := info_parts info123
  have hz := hG.size
  have q0 := hG.b0
  have q1 := hG.b1
  have z0 : 0 < w.heap.size := by omega
  have HG := Lib.hid hG
  have H0 := Lib.hid hr0
  have H1 := Lib.hid hr1
  have H2 := Lib.hid hr2
  have HRB := Lib.hid hrb
  have HD := Lib.hid hdays
  clear hG hr0 hr1 hr2 hrb hdays
  refine callsIn_wide.1 (callsIn_of_wp_marks (n := 6) Tryd.func75 rfl trivial (wpIn_wide.2 ?_))
  simp only [Tryd.ntmps75, List.size_toArray, List.length_cons, List.length_nil, Nat.reduceAdd, Nat.reduceSub, Array.replicate_succ, Array.replicate_zero, List.push_toArray, List.append_toArray, List.nil_append, List.cons_append]
  have hmk : ∀ W, (Instr.makeMap 104 none).run Tryd.prog W = .ok (.map (some W.heap.size)) (W.alloc (.map #[] 0)) := fun W => rfl
  go_wp2
  clear hmk
  go_loopg [6] (l0.length) (fun gk v6 wr => ∃ k g : Nat, v6 = .pointer (some ⟨g, 0, none⟩) ∧ Aside0 (k + gk = l0.length) ∧ Aside0 (w.heap.size + 1 + 1 + 1 < g) ∧ Aside0 (wr.heap[g]? = some (.cells #[.int .i64 k, .int .i64 (-1)] 116 (0, 0))) ∧ Aside0 (wr.heap[w.heap.size + 1 + 1]? = some (.map (bareMap k).toArray k)) ∧ Aside0 (wr.heap[w.heap.size]? = some (.cells #[.slice A0 l0.length c0, .slice A1 l1.length c1, .slice A2 l2.length c2] 26 (0, 0))) ∧ Aside0 (wr.heap[w.heap.size + 1]? = some (.cells #[.slice none 0 0, .slice none 0 0, .slice none 0 0, .map none, .slice none 0 0] 107 (0, 0))) ∧ Aside0 (wr.heap[w.heap.size + 1 + 1 + 1]? = some (.cells #[.slice A0 l0.length c0, .slice A1 l1.length c1, .slice A2 l2.length c2, .map (some (w.heap.size + 1 + 1)), .slice none 0 0] 107 (0, 0))) ∧ Aside0 (Below w.heap.size w wr))
  case atStart =>
    refine ⟨0, _, rfl, ⟨by omega⟩, ⟨?_⟩, ⟨blk_at _ _ _ (by simp)⟩, ⟨?_⟩, ⟨?_⟩, ⟨?_⟩, ⟨?_⟩, ⟨by repeat (first | exact Below.refl _ _ | refine Below.alloc ?_ (by simp <;> omega) _ | refine Below.setCell ?_ (by simp <;> omega) _ | apply Below.drew)⟩⟩
    · omega
    · exact blk_alloc (blk_alloc (blk_at ((w.alloc _).alloc _) _ _ (by simp)) _) _
    · exact blk_alloc (blk_alloc (blk_alloc (blk_alloc (blk_new _ _) _) _) _) _
    · exact blk_alloc (blk_alloc (blk_alloc (blk_at (w.alloc _) _ _ (by simp)) _) _) _
    · exact blk_alloc (blk_at (((w.alloc _).alloc _).alloc _) _ _ (by simp)) _
  case round =>
    obtain ⟨k, g, rfl, HK, HGT, HB6, HM, HB2, HB4, HB5, HB⟩ := hrel
    have b0 := (blk_cell HB6.out 0).trans rfl
    have b1 := (blk_cell HB6.out 1).trans rfl
    have bg := blk_lt HB6.out
    have c20 := (blk_cell HB2.out 0).trans rfl
    have l2_ := blk_lt HB2.out
    have c53 := (blk_cell HB5.out 3).trans rfl
    have l5_ := blk_lt HB5.out
    cases gk with
    | zero =>
      have hge : ¬ ((k : Int) < (l0.length : Int)) := by have := HK.out; omega
      have c50 := (blk_cell HB5.out 0).trans rfl
      have c51 := (blk_cell HB5.out 1).trans rfl
      have c52 := (blk_cell HB5.out 2).trans rfl
      have c54 := (blk_cell HB5.out 4).trans rfl
      obtain rfl : k = l0.length := by have := HK.out; omega
      go_wp2
      obtain ⟨wX, hwX⟩ : ∃ W, W = (wr.alloc (.cells #[.slice A0 l0.length c0, .slice A1 l1.length c1, .slice A2 l2.length c2, .map (some (w.heap.size + 1 + 1)), .slice none 0 0] 107)).alloc (.cells #[.slice Ab but.length cb] 45) := ⟨_, rfl⟩
      rw [← hwX]
      have hBr : Below wr.heap.size wr wX := by rw [hwX]; exact ((Below.refl _ _).alloc (Nat.le_refl _) _).alloc (by simp) _
      have hsX : wX.heap.size = wr.heap.size + 1 + 1 := by rw [hwX]; simp
      have hX1 : wX.heap[wr.heap.size]? = some (.cells #[.slice A0 l0.length c0, .slice A1 l1.length c1, .slice A2 l2.length c2, .map (some (w.heap.size + 1 + 1)), .slice none 0 0] 107 (0, 0)) := by rw [hwX]; exact blk_alloc (blk_new _ _) _
      have hX2 : wX.heap[wr.heap.size + 1]? = some (.cells #[.slice Ab but.length cb] 45 (0, 0)) := by rw [hwX]; exact blk_at _ _ _ (by simp)
      have hwl : w.heap.size ≤ wr.heap.size := HB.out.size
      have hX4 := blk_below HB4.out hBr
      have hX5 := blk_below HB5.out hBr
      have hXm := blk_below' HM.out hBr
      have hXB := HB.out.trans (below_weaken hBr hwl)
      have HSX := Lib.hid hsX
      clear hwX
      have hB1 : ∀ R : Loop, Below wX.heap.size wX ((wX.alloc (.deferred (some []))).alloc (.loop R)) := fun R => ((Below.refl _ _).alloc (Nat.le_refl _) _).alloc (by simp) _
      have hXl : w.heap.size ≤ wX.heap.size := hXB.size
      have l5X := blk_lt hX5
      have l51 : w.heap.size + 1 + 1 + 1 < wr.heap.size := blk_lt HB5.out
      clear hsX
      refine wide_range (gf := 156) (lb := #[.pointer (some ⟨wr.heap.size, 0, none⟩), .pointer (some ⟨wr.heap.size + 1, 0, none⟩)]) rfl enters156
        (fun W2 => (∃ v, W2.heap[w.heap.size + 1 + 1 + 1]? = some (.cells #[.slice A0 l0.length c0, .slice A1 l1.length c1, .slice A2 l2.length c2, .map (some (w.heap.size + 1 + 1)), v] 107 (0, 0)) ∧ W2.ownsRow w.heap.size 123 60 v (truthsAll l0 l1 l2 but).length ((truthsAll l0 l1 l2 but).flatMap encI)) ∧ W2.heap[wX.heap.size]? = some (.deferred (some [])) ∧ W2.heap[w.heap.size + 1]? = some (.cells #[.slice none 0 0, .slice none 0 0, .slice none 0 0, .map none, .slice none 0 0] 107 (0, 0)) ∧ W2.heap[w.heap.size + 1 + 1]? = some (.map (bareMap l0.length).toArray l0.length) ∧ Below w.heap.size w W2) ?call ?done
      case call =>
        intro R hps htm has hbo hst hpe
        have hL1 : ((wX.alloc (.deferred (some []))).alloc (.loop R)).heap[wX.heap.size + 1]? = some (.loop R) := blk_at _ _ _ (by simp)
        have hD1 : ((wX.alloc (.deferred (some []))).alloc (.loop R)).heap[wX.heap.size]? = some (.deferred (some [])) := blk_alloc' (blk_at _ _ _ rfl) _
        have hsX := HSX.out
        have hz1 : ((wX.alloc (.deferred (some []))).alloc (.loop R)).heap.size = wX.heap.size + 1 + 1 := by simp
        refine (days1_calls (TJ (w.heap.size + 1 + 1 + 1) (wX.heap.size + 1) wX.heap.size w.heap.size (w.heap.size + 1 + 1) (.slice A0 l0.length c0) (.slice A1 l1.length c1) (.slice A2 l2.length c2) R) (TJ_iter _ _ _ _ _ _ _ _ _) 7776 (wX.heap.size + 1) ?hY A0 A1 A2 none Ab c0 c1 c2 0 0 (w.heap.size + 1 + 1) cb wr.heap.size (wr.heap.size + 1) l0 l1 l2 but w HG.out H0.out H1.out H2.out HRB.out hc0 hc2 hcb h01 h04 h15 h2l hbl HD.out ((wX.alloc (.deferred (some []))).alloc (.loop R)) (fun k => k < wX.heap.size ∧ k ≠ w.heap.size + 1 + 1 + 1)
          (hXB.trans (below_weaken (hB1 R) hXl)) (fun k hk => ⟨by omega, by omega⟩) (blk_below hX1 (hB1 R)) ⟨by omega, by omega⟩ (blk_below hX2 (hB1 R)) ⟨by omega, by omega⟩ (blk_below' hXm (hB1 R)) ⟨by omega, by omega⟩ ?hj ?hN).mono ?_
        case hN => exact Nat.pow_le_pow_right (by decide) h15
        case hj => exact ⟨fun k hk => by rw [hz1]; omega, fun h => h.2 rfl, fun h => by omega, fun h => by omega, hL1, hD1, _, blk_below hX5 (hB1 R), own_nil _ _ _ _, fun k hk => by simp [Value.ownBlock] at hk⟩
        case hY =>
          rintro S pre x W ⟨hSb, n5, nL, nD, hL, hD, v, hb5, hown, hns⟩ hx60 hlen
          obtain ⟨Av, cv, rfl⟩ := own_slice hown
          clear hsX hz1
          refine wide_yield hL hst hpe hps htm has hbo rfl fun Rb => ?_
          have hz6 : (W.alloc (.cells #[.int .i64 0, .int .i64 0, .int .i64 0, .int .i64 0, .int .i64 0, .int .i64 0, .int .i64 0, .int .i64 0, .int .i64 0, .int .i64 0, .int .i64 0, .int .i64 0, .int .i64 0, .int .i64 0, .int .i64 0, .int .i64 0, .int .i64 0, .int .i64 0, .int .i64 0, .int .i64 0, .int .i64 0, .int .i64 0, .int .i64 0, .int .i64 0, .int .i64 0, .int .i64 0, .int .i64 0, .int .i64 0, .int .i64 0, .int .i64 0, .int .i64 0, .int .i64 0, .int .i64 0, .int .i64 0, .int .i64 0, .int .i64 0, .int .i64 0, .int .i64 0, .int .i64 0, .int .i64 0, .int .i64 0, .int .i64 0, .int .i64 0, .int .i64 0, .int .i64 0, .int .i64 0, .int .i64 0, .int .i64 0, .int .i64 0, .int .i64 0, .int .i64 0, .int .i64 0, .int .i64 0, .int .i64 0, .int .i64 0, .int .i64 0, .int .i64 0, .int .i64 0, .int .i64 0, .int .i64 0] 123)).heap[W.heap.size]? = some (.cells (encI t00).toArray 123 (0, 0)) := by rw [t00_enc]; exact blk_new _ _
          gi_wp2_with (first
            | ((with_reducible refine gateIn_store (t := 123) (p := 7) (v := .tmp 29) rfl ?_); refine storeIn_blk rfl 123 (.tmp 7) (.tmp 29) rfl rfl W.heap.size 0 (encI t00) (encI x) 123 rfl rfl hz6 (by simp [encI_length, hx60, t00]) (by rw [encI_length, hx60]; kernel_rfl) (encI_one x) ?_; intro W8 h8 hg8 hs8))
          have lL : wX.heap.size + 1 < W.heap.size := (Array.getElem?_eq_some_iff.1 hL).1
          have lD : wX.heap.size < W.heap.size := by omega
          have hg0 : Chg (fun k => k = W.heap.size) W W8 := (Chg.of_below (((Below.refl W.heap.size W).alloc (Nat.le_refl _) _))).trans (Chg.of_grown hg8 rfl)
          have hL8 := (hg0.block _ lL (by omega)).trans hL
          have hD8 := (hg0.block _ lD (by omega)).trans hD
          refine ⟨hL8, ?_⟩
          have hW9 := grownBy_putObj' W8 (wX.heap.size + 1) (.loop Rb)
          have h59 := ((Chg.of_grown (S := fun k => k = wX.heap.size + 1) hW9 rfl).block _ (Nat.lt_of_lt_of_le (blk_lt hb5) hg0.size) (by omega)).trans ((hg0.block _ (blk_lt hb5) (by have := blk_lt hb5; omega)).trans hb5)
          have hown8 := own_same hown fun k hk => hg0.block k (own_lt hown k hk) (by have := own_lt hown k hk; omega)
          have hne9 : ∀ k, (Value.slice Av pre.length cv).ownBlock = some k → k ≠ wX.heap.size + 1 := fun k hk e => by
            obtain ⟨cur, hc⟩ := own_cells hown k hk
            rw [e, hL] at hc
            simp at hc
          have hown9 := own_same hown8 fun k hk => (Chg.of_grown (S := fun k => k = wX.heap.size + 1) hW9 rfl).block k (own_lt hown8 k hk) (hne9 k hk)
          have h7_ : W8.heap[W.heap.size]? = some (.cells (encI x).toArray 123 (0, 0)) := blk_whole h8 (by simp [encI_length, hx60, t00])
          have h79 := ((Chg.of_grown (S := fun k => k = wX.heap.size + 1) hW9 rfl).block _ (blk_lt h7_) (by omega)).trans h7_
          have c54 : (W8.putObj (wX.heap.size + 1) (.loop Rb)).cell? ⟨w.heap.size + 1 + 1 + 1, 4, none⟩ = some (.slice Av pre.length cv) := blk_cell h59 4
          have l59 := blk_lt h59
          have hL9 : (W8.putObj (wX.heap.size + 1) (.loop Rb)).heap[wX.heap.size + 1]? = some (.loop Rb) := World.putObj_heap_same (Array.getElem?_eq_some_iff.1 hL8).1
          have hD9 := ((Chg.of_grown (S := fun k => k = wX.heap.size + 1) hW9 rfl).block _ (Array.getElem?_eq_some_iff.1 hD8).1 (by omega)).trans hD8
          have hg9 : Chg (fun k => k = W.heap.size ∨ k = wX.heap.size + 1) W (W8.putObj (wX.heap.size + 1) (.loop Rb)) := ((Chg.of_below (((Below.refl W.heap.size W).alloc (Nat.le_refl _) _))).trans (Chg.of_grown hg8 (.inl rfl))).trans (Chg.of_grown hW9 (.inr rfl))
          obtain ⟨W9, hW9e⟩ : ∃ x, x = W8.putObj (wX.heap.size + 1) (.loop Rb) := ⟨_, rfl⟩
          rw [← hW9e] at hg9 hL9 hD9 hown9 h79 h59 c54 l59 ⊢
          have G9 := Lib.hid hg9
          have HL9 := Lib.hid hL9
          have HD9 := Lib.hid hD9
          have H59 := Lib.hid h59
          have H79 := Lib.hid h79
          have HO9 := Lib.hid hown9
          have l79 := blk_lt h79
          have hb9 : w.heap.size ≤ W9.heap.size := by omega
          have HX60 := Lib.hid hx60
          have HNS := Lib.hid hns
          have HSB := Lib.hid hSb
          have HLEN := Lib.hid hlen
          clear hW9e hW9 hg9 hL9 hD9 h59 h79 hown9 hown8 hL8 hD8 hg0 h7_ h8 hg8 hs8 hz6 hb5 hown hL hD hx60 hns hSb hlen hne9
          have hE9 : (W9.alloc (.cells (encI x).toArray 123)).heap[w.heap.size + 1 + 1 + 1]? = some (.cells #[.slice A0 l0.length c0, .slice A1 l1.length c1, .slice A2 l2.length c2, .map (some (w.heap.size + 1 + 1)), .slice Av pre.length cv] 107 (0, 0)) := blk_alloc H59.out _
          have hr9 : some (w.heap.size + 1 + 1 + 1) ≠ (Value.slice Av pre.length cv).ownBlock := row_ne H59.out (show (107 : Nat) ≠ 123 by decide) HO9.out
          have HE9 := Lib.hid hE9
          have HR9 := Lib.hid hr9
          clear hE9 hr9
          gi_wp2_with (first
            | ((with_reducible refine gateIn_dst (N := 32) rfl ?_); refine loadIn_blk rfl 123 (.tmp 7) rfl W.heap.size 0 (encI x) (encI x) 123 (0, 0) _ rfl H79.out (by simp) Tryd.underlying123 rfl (by rw [encI_length, HX60.out]; kernel_rfl) ?_)
            | ((with_reducible refine gateIn_dst (N := 33) rfl ?_); refine buildIn_one rfl 105 123 (.tmp 32) rfl (encI x) rfl i0 _ Tryd.underlying105 hi hz0 (by rw [encI_length, HX60.out]; exact hz1) (by rw [encI_length, HX60.out]; decide) (by rw [encI_length, HX60.out]; decide) ?_)
            | (gi_at_builtin; (refine wpListIn_append_own_at _ rfl _ _ 105 rfl w.heap.size 123 i0 (.agg #[.int .i64 0, .int .i64 0, .int .i64 0, .int .i64 0, .int .i64 0, .int .i64 0, .int .i64 0, .int .i64 0, .int .i64 0, .int .i64 0, .int .i64 0, .int .i64 0, .int .i64 0, .int .i64 0, .int .i64 0, .int .i64 0, .int .i64 0, .int .i64 0, .int .i64 0, .int .i64 0, .int .i64 0, .int .i64 0, .int .i64 0, .int .i64 0, .int .i64 0, .int .i64 0, .int .i64 0, .int .i64 0, .int .i64 0, .int .i64 0, .int .i64 0, .int .i64 0, .int .i64 0, .int .i64 0, .int .i64 0, .int .i64 0, .int .i64 0, .int .i64 0, .int .i64 0, .int .i64 0, .int .i64 0, .int .i64 0, .int .i64 0, .int .i64 0, .int .i64 0, .int .i64 0, .int .i64 0, .int .i64 0, .int .i64 0, .int .i64 0, .int .i64 0, .int .i64 0, .int .i64 0, .int .i64 0, .int .i64 0, .int .i64 0, .int .i64 0, .int .i64 0, .int .i64 0, .int .i64 0]) 60 480 Tryd.underlying105 hi hz0 hz1 hz2 rfl (by decide) (.slice Av pre.length cv) _ _ rfl (HO9.out.alloc _) ⟨W9.heap.size, 0, none⟩ 1 1 (encI x) rfl (by rw [encI_length, HX60.out]) (fun j u hj => by rw [cell_add (blk_new _ _)]; simpa using hj) (encI_one x) (by have := HLEN.out; unfold maxLen; omega) (by have := HLEN.out; omega) (by simp; omega) ?_); intro v' w1 hown' hgrow hnil hat; obtain ⟨g', cap', rfl⟩ := ownsRow_succ hown'; have e5 := (hgrow.block _ (blk_lt HE9.out) HR9.out).trans HE9.out; have q4 := blk_cell e5 4; have f4 := blk_frozen e5 4; have l5w := blk_lt e5; have E5 := Lib.hid e5; have HOW := Lib.hid hown'; have HGR := Lib.hid hgrow; have HAT := Lib.hid hat; clear e5 hown' hgrow hnil hat))
          have hnL : ∀ k, (Value.slice Av pre.length cv).ownBlock = some k → k ≠ wX.heap.size + 1 := fun k hk e => by
            obtain ⟨cur, hc⟩ := own_cells HO9.out k hk
            rw [e, HL9.out] at hc
            simp at hc
          have hLw := (HGR.out.block _ (Array.getElem?_eq_some_iff.1 (blk_alloc' HL9.out (.cells (encI x).toArray 123))).1 (fun e => hnL _ e.symm rfl)).trans (blk_alloc' HL9.out (.cells (encI x).toArray 123))
          have hLw2 : (w1.setCell ⟨w.heap.size + 1 + 1 + 1, 4, none⟩ (.slice (some ⟨g', 0, none⟩) (pre.length + 1) cap')).heap[wX.heap.size + 1]? = some (.loop Rb) := ((Chg.cell (S := fun k => k = w.heap.size + 1 + 1 + 1) w1 (w.heap.size + 1 + 1 + 1) 4 _ rfl).block _ (Array.getElem?_eq_some_iff.1 hLw).1 (by omega)).trans hLw
          have hc := ((((G9.out.mono (S' := fun k => k = W.heap.size ∨ k = wX.heap.size + 1 ∨ k = w.heap.size + 1 + 1 + 1 ∨ (Value.slice Av pre.length cv).ownBlock = some k) (fun k h => h.elim .inl (fun h => .inr (.inl h)))).alloc (.cells (encI x).toArray 123)).trans (Chg.grown_row HGR.out (fun k h => .inr (.inr (.inr h))))).trans (Chg.cell w1 (w.heap.size + 1 + 1 + 1) 4 (.slice (some ⟨g', 0, none⟩) (pre.length + 1) cap') (.inr (.inr (.inl rfl))))).trans (Chg.of_grown (grownBy_putObj' _ (wX.heap.size + 1) (.loop R)) (.inr (.inl rfl)))
          have hDc := ((Chg.of_grown (S := fun k => k = wX.heap.size + 1) (grownBy_putObj' (w1.setCell ⟨w.heap.size + 1 + 1 + 1, 4, none⟩ (.slice (some ⟨g', 0, none⟩) (pre.length + 1) cap')) (wX.heap.size + 1) (.loop R)) rfl))
          refine ⟨hLw2, ⟨fun k hk => Nat.lt_of_lt_of_le (HSB.out k hk) hc.size, n5, nL, nD, World.putObj_heap_same (Array.getElem?_eq_some_iff.1 hLw2).1, ?_, .slice (some ⟨g', 0, none⟩) (pre.length + 1) cap', ?_, ?_, ?_⟩, ?_⟩
          · have hnD : ∀ k, (Value.slice Av pre.length cv).ownBlock = some k → k ≠ wX.heap.size := fun k hk e => by
              obtain ⟨cur, hc⟩ := own_cells HO9.out k hk
              rw [e, HD9.out] at hc
              simp at hc
            have hDw := (HGR.out.block _ (Array.getElem?_eq_some_iff.1 (blk_alloc' HD9.out (.cells (encI x).toArray 123))).1 (fun e => hnD _ e.symm rfl)).trans (blk_alloc' HD9.out (.cells (encI x).toArray 123))
            have hDw2 := ((Chg.cell (S := fun k => k = w.heap.size + 1 + 1 + 1) w1 (w.heap.size + 1 + 1 + 1) 4 (.slice (some ⟨g', 0, none⟩) (pre.length + 1) cap') rfl).block _ (Array.getElem?_eq_some_iff.1 hDw).1 (by omega)).trans hDw
            exact (hDc.block _ (Array.getElem?_eq_some_iff.1 hDw2).1 (by omega)).trans hDw2
          · exact (hDc.block _ (Nat.lt_of_lt_of_le l5w (Chg.cell (S := fun k => k = w.heap.size + 1 + 1 + 1) w1 (w.heap.size + 1 + 1 + 1) 4 _ rfl).size) (by omega)).trans (blk_put E5.out 4 _ rfl)
          · have hr : some (w.heap.size + 1 + 1 + 1) ≠ (Value.slice (some ⟨g', 0, none⟩) (pre.length + 1) cap').ownBlock := row_ne E5.out (show (107 : Nat) ≠ 123 by decide) HOW.out
            have ho1 := own_same HOW.out fun k hk => (Chg.cell (S := fun k => k = w.heap.size + 1 + 1 + 1) w1 (w.heap.size + 1 + 1 + 1) 4 (.slice (some ⟨g', 0, none⟩) (pre.length + 1) cap') rfl).block k (own_lt HOW.out k hk) (fun e => hr (by rw [hk, e]))
            have ho2 := own_same ho1 fun k hk => hDc.block k (own_lt ho1 k hk) (fun e => by
              obtain ⟨cur, hc⟩ := own_cells ho1 k hk
              rw [e, hLw2] at hc
              simp at hc)
            rw [List.flatMap_append, List.length_append]
            simpa using ho2
          · rintro k hk hS
            rcases HAT.out with e | e
            · exact HNS.out k (e ▸ hk) hS
            · rw [e] at hk
              have h1 := HSB.out k hS
              have h2 := G9.out.size
              simp at hk
              omega
          · refine ⟨hc.os, hc.tape, hc.output, hc.size, fun k hk hs => hc.block k hk ?_⟩
            rintro (rfl | rfl | rfl | h)
            · omega
            · exact nL hs
            · exact n5 hs
            · exact HNS.out k h hs
        · rintro e W2 ⟨rfl, hT, hk⟩
          obtain ⟨_, _, _, _, hL, hD, v, hb, ho, _⟩ := hT
          have h4 := blk_below hX4 (hB1 R)
          have hm1 := blk_below' hXm (hB1 R)
          have l4 := blk_lt hX4
          have lm := (Array.getElem?_eq_some_iff.1 hXm).1
          refine ⟨⟨_, rfl⟩, hL, ⟨v, hb, ho⟩, hD, (hk.block _ (blk_lt h4) ⟨by omega, by omega⟩).trans h4, (hk.block _ (Array.getElem?_eq_some_iff.1 hm1).1 ⟨by omega, by omega⟩).trans hm1, ?_⟩
          refine (hXB.trans (below_weaken (hB1 R) hXl)).trans ⟨hk.os, hk.tape, hk.output, hk.size, fun k hk' => hk.block k ?_ ⟨by omega, by omega⟩⟩
          rw [hz1]
          omega
      case done =>
        rintro R W2 hL ⟨⟨v, hb, ho⟩, hD, hb4, hm, hB⟩
        obtain ⟨Av, cv, rfl⟩ := own_slice ho
        have hg := grownBy_putObj' W2 (wX.heap.size + 1) (.loop { R with state := .exhausted })
        have hch := Chg.of_grown (S := fun k => k = wX.heap.size + 1) hg rfl
        have hD3 := (hch.block _ (Array.getElem?_eq_some_iff.1 hD).1 (by omega)).trans hD
        have h53 := (hch.block _ (blk_lt hb) (by omega)).trans hb
        have h43 := (hch.block _ (blk_lt hb4) (by omega)).trans hb4
        have hm3 := (hch.block _ (Array.getElem?_eq_some_iff.1 hm).1 (by omega)).trans hm
        have hBe := hB.grown hg hB.size (fun j ej => by simp at ej; omega)
        have ho3 := own_same ho fun k hk => hch.block k (own_lt ho k hk) (fun e => by
          obtain ⟨cur, hc⟩ := own_cells ho k hk
          rw [e, hL] at hc
          simp at hc)
        obtain ⟨W3, hW3⟩ : ∃ x, x = W2.putObj (wX.heap.size + 1) (.loop { R with state := .exhausted }) := ⟨_, rfl⟩
        rw [← hW3] at hD3 h53 h43 hm3 hBe ho3 ⊢
        clear hW3 hg hch hD hb hb4 hm hB ho hL
        have c50 := (blk_cell h53 0).trans rfl
        have c51 := (blk_cell h53 1).trans rfl
        have c52 := (blk_cell h53 2).trans rfl
        have c53 := (blk_cell h53 3).trans rfl
        have c54 := (blk_cell h53 4).trans rfl
        have c40 := (blk_cell h43 0).trans rfl
        have c41 := (blk_cell h43 1).trans rfl
        have c42 := (blk_cell h43 2).trans rfl
        have c43 := (blk_cell h43 3).trans rfl
        have c44 := (blk_cell h43 4).trans rfl
        have f40 := blk_frozen h43 0
        have f41 := blk_frozen h43 1
        have f42 := blk_frozen h43 2
        have f43 := blk_frozen h43 3
        have f44 := blk_frozen h43 4
        have H43 := Lib.hid h43
        have HM3 := Lib.hid hm3
        have HBe := Lib.hid hBe
        have HO3 := Lib.hid ho3
        have HD3 := Lib.hid hD3
        clear h43 h53 hm3 hBe ho3 hD3
        go_wp2
        have h45 := blk_put (blk_set (blk_set (blk_set (blk_set H43.out 0 (.slice A0 l0.length c0)) 1 (.slice A1 l1.length c1)) 2 (.slice A2 l2.length c2)) 3 (.map (some (w.heap.size + 1 + 1)))) 4 (.slice Av (truthsAll l0 l1 l2 but).length cv) rfl
        have hc5 := ((((Chg.cell (S := fun k => k = w.heap.size + 1) W3 (w.heap.size + 1) 0 (.slice A0 l0.length c0) rfl).trans (Chg.cell _ (w.heap.size + 1) 1 (.slice A1 l1.length c1) rfl)).trans (Chg.cell _ (w.heap.size + 1) 2 (.slice A2 l2.length c2) rfl)).trans (Chg.cell _ (w.heap.size + 1) 3 (.map (some (w.heap.size + 1 + 1))) rfl)).trans (Chg.cell _ (w.heap.size + 1) 4 (.slice Av (truthsAll l0 l1 l2 but).length cv) rfl)
        have hD5 := (hc5.block _ (Array.getElem?_eq_some_iff.1 HD3.out).1 (by omega)).trans HD3.out
        have hm5 := (hc5.block _ (Array.getElem?_eq_some_iff.1 HM3.out).1 (by omega)).trans HM3.out
        have ho5 := own_same HO3.out fun k hk => hc5.block k (own_lt HO3.out k hk) (fun e => by
          obtain ⟨cur, hc⟩ := own_cells HO3.out k hk
          rw [e, H43.out] at hc
          simp at hc)
        have hB5 : Below w.heap.size w _ := HBe.out.trans ⟨hc5.os, hc5.tape, hc5.output, hc5.size, fun k hk => hc5.block k (Nat.lt_of_lt_of_le hk HBe.out.size) (by omega)⟩
        refine ⟨by simp, .inl ⟨_, _, rfl, run_takeDeferred hD5, ?_⟩⟩
        have hg6 := grownBy_putObj' (((((W3.setCell ⟨w.heap.size + 1, 0, none⟩ (.slice A0 l0.length c0)).setCell ⟨w.heap.size + 1, 1, none⟩ (.slice A1 l1.length c1)).setCell ⟨w.heap.size + 1, 2, none⟩ (.slice A2 l2.length c2)).setCell ⟨w.heap.size + 1, 3, none⟩ (.map (some (w.heap.size + 1 + 1)))).setCell ⟨w.heap.size + 1, 4, none⟩ (.slice Av (truthsAll l0 l1 l2 but).length cv)) wX.heap.size (.deferred none)
        have hc6 := Chg.of_grown (S := fun k => k = wX.heap.size) hg6 rfl
        have h46 := (hc6.block _ (blk_lt h45) (by omega)).trans h45
        have hm6 := (hc6.block _ (Array.getElem?_eq_some_iff.1 hm5).1 (by omega)).trans hm5
        have ho6 := own_same ho5 fun k hk => hc6.block k (own_lt ho5 k hk) (fun e => by
          obtain ⟨cur, hc⟩ := own_cells ho5 k hk
          rw [e, hD5] at hc
          simp at hc)
        exact ⟨_, results_cell_row rfl _ _ (w.heap.size + 1) 107 #[.slice A0 l0.length c0, .slice A1 l1.length c1, .slice A2 l2.length c2, .map (some (w.heap.size + 1 + 1)), .slice Av (truthsAll l0 l1 l2 but).length cv] (0, 0) _ rfl h46 Tryd.underlying107 rfl (by kernel_rfl), Av, cv, w.heap.size + 1 + 1, rfl, ho6, by omega, hm6, hB5.grown hg6 hB5.size (fun j ej => by simp at ej; omega)⟩
    | succ g1 =>
      have hlt : (k : Int) < (l0.length : Int) := by have := HK.out; omega
      have hk3 : k ≤ 3 := by have := HK.out; omega
      have hup : (Instr.mapUpdate 104 (.map (some (w.heap.size + 1 + 1))) (.agg #[.int .i64 (k : Int), .int .i64 (-1)]) (.bool true)).run Tryd.prog wr = .ok () (wr.putObj (w.heap.size + 1 + 1) (.map (bareMap (k + 1)).toArray (k + 1))) := update_bare wr (w.heap.size + 1 + 1) k hk3 HM.out
      obtain ⟨W2, hW2⟩ : ∃ W2, W2 = wr.putObj (w.heap.size + 1 + 1) (.map (bareMap (k + 1)).toArray (k + 1)) := ⟨_, rfl⟩
      rw [← hW2] at hup
      have hm2 : W2.heap[w.heap.size + 1 + 1]? = some (.map (bareMap (k + 1)).toArray (k + 1)) := by rw [hW2]; exact World.putObj_heap_same (Array.getElem?_eq_some_iff.1 HM.out).1
      have ho2 : ∀ j, j ≠ w.heap.size + 1 + 1 → W2.heap[j]? = wr.heap[j]? := fun j hj => by rw [hW2]; exact World.putObj_heap_other hj
      have hgt := HGT.out
      have hg2 := (ho2 g (by omega)).trans HB6.out
      have d0 : W2.cell? ⟨g, 0, none⟩ = some (.int .i64 (k : Int)) := blk_cell hg2 0
      have d1 : W2.cell? ⟨g, 1, none⟩ = some (.int .i64 (-1)) := blk_cell hg2 1
      have dg := blk_lt hg2
      have HW2 := Lib.hid hW2
      have HM2 := Lib.hid hm2
      have HO2 := Lib.hid ho2
      clear hW2 hm2 ho2 hg2
      go_wp2
      go_roundg g1
      case measure => omega
      case rel =>
        have e := ((HO2.out _ (by omega)).trans HB2.out)
        have e4 := ((HO2.out _ (by omega)).trans HB4.out)
        have e5 := ((HO2.out _ (by omega)).trans HB5.out)
        refine ⟨k + 1, _, rfl, ⟨by have := HK.out; omega⟩, ⟨by omega⟩, ⟨?_⟩, ⟨blk_alloc' HM2.out _⟩, ⟨blk_alloc e _⟩, ⟨blk_alloc e4 _⟩, ⟨blk_alloc e5 _⟩, ⟨?_⟩⟩
        · rw [show ((k + 1 : Nat) : Int) = (k : Int) + 1 by omega]
          exact blk_new _ _
        · have hB := HB.out
          have hgr := grownBy_putObj' wr (w.heap.size + 1 + 1) (.map (bareMap (k + 1)).toArray (k + 1))
          rw [← HW2.out] at hgr
          exact (hB.grown hgr (by have := hB.size; omega) (fun j ej => by simp at ej; omega)).alloc (by rw [HW2.out]; simpa using hB.size) _
end Go.Proofs.YthgjedagbgmgmaaDoor.Pr
namespace Go.Proofs.YthgjedagbgmgmaaDoor.Pr
open Go.RowKit Go.Proofs.YthgjedagbgmgmaaDoorW.PrintWords Go.Proofs.YthgjedagbgmgmaaDoorW.PrintLast Go.Proofs.YthgjedagbgmgmaaDoorW.PrintMore
attribute [local go_sem] max2_int min2_int max_two min_two -- for this text's walks alone
set_option linter.unusedVariables false
set_option linter.unusedSimpArgs false
def roll_within.f (a0 : Int) (a1 : Int) (a2 : Int) : Option (Bool) := if a1 ≤ a0 then (some (decide (a0 ≤ a2))) else (some false)
set_option maxHeartbeats 8000000 in
set_option maxRecDepth 100000 in
theorem roll_within.calls (a0 : Int) (a1 : Int) (a2 : Int) (r : Bool) (w : World) (h : roll_within.f a0 a1 a2 = some r) :
    Calls Tryd.prog 77 #[.int .i64 a0, .int .i64 a1, .int .i64 a2] w fun e w' => e = .returned (.bool r) ∧ Drawn0 w w' := by
  have H : (if a1 ≤ a0 then (some (decide (a0 ≤ a2))) else (some false)) = some r := h
  clear h
  by_cases c4 : a1 ≤ a0
  · rw [if_pos c4] at H
    have c4b0 : decide (a1 ≤ a0) = true := decide_eq_true c4
    clear c4
    obtain rfl := Option.some.inj H
    go_enter Tryd.func77, Tryd.ntmps77
    go_wp2
    go_ret
    exact ⟨by first | rfl | (simp; done) | (simp [*]; done), by repeat (first | exact Drawn0.refl _ | apply Drawn0.step)⟩
  · rw [if_neg c4] at H
    have c4b0 : decide (a1 ≤ a0) = false := decide_eq_false c4
    clear c4
    obtain rfl := Option.some.inj H
    go_enter Tryd.func77, Tryd.ntmps77
    go_wp2
    go_ret
    exact ⟨by first | rfl | (simp; done) | (simp [*]; done), by repeat (first | exact Drawn0.refl _ | apply Drawn0.step)⟩
def roll_isDay.f (l0_0 : List (S92)) (l0_1 : List (S90)) (l0_2 : List (S43)) (a1 : Int) : Option (Bool) := (roll_within.f a1 0 (wrap64 ((l0_1.length : Int) - 1))).bind fun t102 => (some t102)
set_option maxHeartbeats 8000000 in
set_option maxRecDepth 100000 in
theorem roll_isDay.calls (A0_0 : Option Addr) (c0_0 : Nat) (l0_0 : List (S92)) (A0_1 : Option Addr) (c0_1 : Nat) (l0_1 : List (S90)) (A0_2 : Option Addr) (c0_2 : Nat) (l0_2 : List (S43)) (a1 : Int) (r : Bool) (w : World) (hr0_0 : Kd.C k92 w A0_0 l0_0.length l0_0) (hc0_0 : l0_0.length ≤ c0_0) (hr0_1 : Kd.C k90 w A0_1 l0_1.length l0_1) (hc0_1 : l0_1.length ≤ c0_1) (hr0_2 : Kd.C k43 w A0_2 l0_2.length l0_2) (hc0_2 : l0_2.length ≤ c0_2) (h : roll_isDay.f l0_0 l0_1 l0_2 a1 = some r) :
    Calls Tryd.prog 81 #[.agg #[.slice A0_0 l0_0.length c0_0, .slice A0_1 l0_1.length c0_1, .slice A0_2 l0_2.length c0_2], .int .i64 a1] w fun e w' => e = .returned (.bool r) ∧ Below w.heap.size w w' := by
  have hu26 := Tryd.underlying26
  have HR0_0 := Aside0.mk hr0_0
  have HC0_0 := Aside0.mk hc0_0
  clear hr0_0 hc0_0
  have HR0_1 := Aside0.mk hr0_1
  have HC0_1 := Aside0.mk hc0_1
  clear hr0_1 hc0_1
  have HR0_2 := Aside0.mk hr0_2
  have HC0_2 := Aside0.mk hc0_2
  clear hr0_2 hc0_2
  have HB := Aside0.mk (Below.refl w.heap.size w)
  have H : ((roll_within.f a1 0 (wrap64 ((l0_1.length : Int) - 1))).bind fun t102 => (some t102)) = some r := h
  clear h
  replace H := Option.bind_eq_some_iff.mp H
  obtain ⟨t102, A30, H⟩ := H
  replace H : (some t102) = some r := H
  have A3 := Aside0.mk A30
  clear A30
  obtain rfl := Option.some.inj H
  go_enter Tryd.func81, Tryd.ntmps81
  go_wp2_with (first | ((with_reducible refine gate_dst (N := 2) rfl ?_); refine box_event ?hg (N := 2) ?hd (cs := #[.slice A0_0 l0_0.length c0_0, .slice A0_1 l0_1.length c0_1, .slice A0_2 l0_2.length c0_2]) (t := 26) ?hr ?_; (case hd => rfl); (case hg => rfl); (case hr => first | (go_simp; done) | (go_simp; rfl)); intro gb101 hg w4 hbox hb; have n0_ := Aside0.mk (below_step (by repeat (first | (with_reducible first | exact HB.out | apply below_alloc | apply pw_below_drewN | apply below_drew1) | exact HB.out)) hb); have n1_ := Aside0.mk (hbox); have n2_ := Aside0.mk ((by rw [hg]; exact (below_size (by repeat (first | (with_reducible first | exact HB.out | apply below_alloc | apply pw_below_drewN | apply below_drew1) | exact HB.out))) : w.heap.size ≤ gb101)); have n3_ := Aside0.mk ((by rw [hg]; exact (below_size (by repeat (first | (with_reducible first | exact HB.out | apply below_alloc | apply pw_below_drewN | apply below_drew1) | exact HB.out))) : w.heap.size ≤ gb101)); clear HB; have HB := n0_; have BK101 := n1_; have GW101 := n2_; have GE101 := n3_; clear n0_ n1_ n2_ n3_; clear hb hbox hg; have hcz5_0 : w4.cell? ⟨gb101, 0, none⟩ = some (.slice A0_0 l0_0.length c0_0) := (blk_cell BK101.out 0).trans rfl; have hcz5_1 : w4.cell? ⟨gb101, 1, none⟩ = some (.slice A0_1 l0_1.length c0_1) := (blk_cell BK101.out 1).trans rfl; have hcz5_2 : w4.cell? ⟨gb101, 2, none⟩ = some (.slice A0_2 l0_2.length c0_2) := (blk_cell BK101.out 2).trans rfl; have hfz5_0 := blk_frozen BK101.out 0; have hfz5_1 := blk_frozen BK101.out 1; have hfz5_2 := blk_frozen BK101.out 2) | ((with_reducible refine gate_callee (f := 77) rfl ?_); refine goesL_ (some 10) rfl rfl Tryd.func77 (by kernel_rfl) rfl #[.int .i64 a1, .int .i64 0, .int .i64 (wrap64 ((l0_1.length : Int) - 1))] rfl (by (try simp only [List.map_toArray, List.map_cons, List.map_nil]); first | done | rfl | (simp only [List.length_drop, List.length_take]; rfl)) ?_; (with_reducible refine (roll_within.calls a1 0 (wrap64 ((l0_1.length : Int) - 1)) t102 _ A3.out).mono ?_); rintro e w' ⟨rfl, ⟨nd, rfl⟩⟩; refine ⟨_, rfl, ?_⟩))
  go_ret
  exact ⟨by first | rfl | exact congrArg (fun b_ => Ending.returned (.bool b_)) HT.out | (simp [errW_none, errW_some] <;> rfl) | (simp [*, errW_none, errW_some] <;> rfl), by repeat (first | (with_reducible first | exact HB.out | apply below_alloc | apply pw_below_drewN | apply below_drew1 | refine below_set ?_ GE101.out) | exact HB.out)⟩
def roll_isLook.f (l0_0 : List (S92)) (l0_1 : List (S90)) (l0_2 : List (S43)) (a1_0 : Int) (a1_1 : Int) : Option (Bool) := (roll_isDay.f l0_0 l0_1 l0_2 a1_0).bind fun t105 => (if t105 = true then ((roll_within.f a1_1 0 (l0_0.length : Int)).bind fun t106 => (some t106)) else (some false))
set_option maxHeartbeats 8000000 in
set_option maxRecDepth 100000 in
theorem roll_isLook.calls (A0_0 : Option Addr) (c0_0 : Nat) (l0_0 : List (S92)) (A0_1 : Option Addr) (c0_1 : Nat) (l0_1 : List (S90)) (A0_2 : Option Addr) (c0_2 : Nat) (l0_2 : List (S43)) (a1_0 : Int) (a1_1 : Int) (r : Bool) (w : World) (hr0_0 : Kd.C k92 w A0_0 l0_0.length l0_0) (hc0_0 : l0_0.length ≤ c0_0) (hr0_1 : Kd.C k90 w A0_1 l0_1.length l0_1) (hc0_1 : l0_1.length ≤ c0_1) (hr0_2 : Kd.C k43 w A0_2 l0_2.length l0_2) (hc0_2 : l0_2.length ≤ c0_2) (h : roll_isLook.f l0_0 l0_1 l0_2 a1_0 a1_1 = some r) :
    Calls Tryd.prog 78 #[.agg #[.slice A0_0 l0_0.length c0_0, .slice A0_1 l0_1.length c0_1, .slice A0_2 l0_2.length c0_2], .agg #[.int .i64 a1_0, .int .i64 a1_1]] w fun e w' => e = .returned (.bool r) ∧ Below w.heap.size w w' := by
  have hu26 := Tryd.underlying26
  have hu43 := Tryd.underlying43
  have HR0_0 := Aside0.mk hr0_0
  have HC0_0 := Aside0.mk hc0_0
  clear hr0_0 hc0_0
  have HR0_1 := Aside0.mk hr0_1
  have HC0_1 := Aside0.mk hc0_1
  clear hr0_1 hc0_1
  have HR0_2 := Aside0.mk hr0_2
  have HC0_2 := Aside0.mk hc0_2
  clear hr0_2 hc0_2
  have HB := Aside0.mk (Below.refl w.heap.size w)
  have H : ((roll_isDay.f l0_0 l0_1 l0_2 a1_0).bind fun t105 => (if t105 = true then ((roll_within.f a1_1 0 (l0_0.length : Int)).bind fun t106 => (some t106)) else (some false))) = some r := h
  clear h
  replace H := Option.bind_eq_some_iff.mp H
  obtain ⟨t105, A30, H⟩ := H
  replace H : (if t105 = true then ((roll_within.f a1_1 0 (l0_0.length : Int)).bind fun t106 => (some t106)) else (some false)) = some r := H
  have A3 := Aside0.mk A30
  clear A30
  by_cases c4 : t105 = true
  · subst c4
    have H1 : ((roll_within.f a1_1 0 (l0_0.length : Int)).bind fun t106 => (some t106)) = some r := by rw [if_pos rfl] at H; exact H
    clear H
    have H := H1
    clear H1
    replace H := Option.bind_eq_some_iff.mp H
    obtain ⟨t106, A50, H⟩ := H
    replace H : (some t106) = some r := H
    have A5 := Aside0.mk A50
    clear A50
    obtain rfl := Option.some.inj H
    go_enter Tryd.func78, Tryd.ntmps78
    go_wp2_with (first | ((with_reducible refine gate_dst (N := 2) rfl ?_); (try (refine gate_guard (by rfl) ?_; dsimp only)); refine box_event ?hg (N := 2) ?hd (cs := #[.slice A0_0 l0_0.length c0_0, .slice A0_1 l0_1.length c0_1, .slice A0_2 l0_2.length c0_2]) (t := 26) ?hr ?_; (case hd => rfl); (case hg => rfl); (case hr => first | (go_simp; done) | (go_simp; rfl)); intro gb103 hg w6 hbox hb; have n0_ := Aside0.mk (below_step (by repeat (first | (with_reducible first | exact HB.out | apply below_alloc | apply pw_below_drewN | apply below_drew1) | exact HB.out)) hb); have n1_ := Aside0.mk (hbox); have n2_ := Aside0.mk ((by rw [hg]; exact (below_size (by repeat (first | (with_reducible first | exact HB.out | apply below_alloc | apply pw_below_drewN | apply below_drew1) | exact HB.out))) : w.heap.size ≤ gb103)); have n3_ := Aside0.mk ((by rw [hg]; exact (below_size (by repeat (first | (with_reducible first | exact HB.out | apply below_alloc | apply pw_below_drewN | apply below_drew1) | exact HB.out))) : w.heap.size ≤ gb103)); clear HB; have HB := n0_; have BK103 := n1_; have GW103 := n2_; have GE103 := n3_; clear n0_ n1_ n2_ n3_; clear hb hbox hg) | ((with_reducible refine gate_dst (N := 3) rfl ?_); (try (refine gate_guard (by rfl) ?_; dsimp only)); refine box_event ?hg (N := 3) ?hd (cs := #[.int .i64 a1_0, .int .i64 a1_1]) (t := 43) ?hr ?_; (case hd => rfl); (case hg => rfl); (case hr => first | (go_simp; done) | (go_simp; rfl)); intro gb104 hg w7 hbox hb; have n0_ := Aside0.mk (blk_below (g := gb103) (o := .cells #[.slice A0_0 l0_0.length c0_0, .slice A0_1 l0_1.length c0_1, .slice A0_2 l0_2.length c0_2] 26 (0, 0)) (by (with_reducible repeat (first | refine blk_drewN ?_ _ | refine blk_drew ?_ | refine blk_alloc ?_ _)); exact BK103.out) hb); have n1_ := Aside0.mk (below_step (by repeat (first | (with_reducible first | exact HB.out | apply below_alloc | apply pw_below_drewN | apply below_drew1 | refine below_set ?_ GE103.out) | exact HB.out)) hb); have n2_ := Aside0.mk (hbox); have n3_ := Aside0.mk ((by rw [hg]; exact (below_size (by repeat (first | (with_reducible first | exact HB.out | apply below_alloc | apply pw_below_drewN | apply below_drew1 | refine below_set ?_ GE103.out) | exact HB.out))) : w.heap.size ≤ gb104)); have n4_ := Aside0.mk ((by rw [hg]; exact (below_size (by repeat (first | (with_reducible first | exact HB.out | apply below_alloc | apply pw_below_drewN | apply below_drew1 | refine below_set ?_ GE103.out) | exact HB.out))) : w.heap.size ≤ gb104)); have n5_ := Aside0.mk ((by rw [hg]; exact Nat.ne_of_lt (blk_lt (g := gb103) (o := .cells #[.slice A0_0 l0_0.length c0_0, .slice A0_1 l0_1.length c0_1, .slice A0_2 l0_2.length c0_2] 26 (0, 0)) (by (with_reducible repeat (first | refine blk_drewN ?_ _ | refine blk_drew ?_ | refine blk_alloc ?_ _)); exact BK103.out)) : gb103 ≠ gb104)); have n6_ := Aside0.mk ((by rw [hg]; exact Nat.ne_of_gt (blk_lt (g := gb103) (o := .cells #[.slice A0_0 l0_0.length c0_0, .slice A0_1 l0_1.length c0_1, .slice A0_2 l0_2.length c0_2] 26 (0, 0)) (by (with_reducible repeat (first | refine blk_drewN ?_ _ | refine blk_drew ?_ | refine blk_alloc ?_ _)); exact BK103.out)) : gb104 ≠ gb103)); clear BK103; clear HB; have BK103 := n0_; have HB := n1_; have BK104 := n2_; have GW104 := n3_; have GE104 := n4_; have NB103_104 := n5_; have NB104_103 := n6_; clear n0_ n1_ n2_ n3_ n4_ n5_ n6_; clear hb hbox hg; have hnb8 := NB103_104.out; have hnc8 := NB104_103.out; have hcz9_0 : w7.cell? ⟨gb103, 0, none⟩ = some (.slice A0_0 l0_0.length c0_0) := (blk_cell BK103.out 0).trans rfl; have hcz9_1 : w7.cell? ⟨gb103, 1, none⟩ = some (.slice A0_1 l0_1.length c0_1) := (blk_cell BK103.out 1).trans rfl; have hcz9_2 : w7.cell? ⟨gb103, 2, none⟩ = some (.slice A0_2 l0_2.length c0_2) := (blk_cell BK103.out 2).trans rfl; have hfz9_0 := blk_frozen BK103.out 0; have hfz9_1 := blk_frozen BK103.out 1; have hfz9_2 := blk_frozen BK103.out 2; have hcz10_0 : w7.cell? ⟨gb104, 0, none⟩ = some (.int .i64 a1_0) := (blk_cell BK104.out 0).trans rfl; have hcz10_1 : w7.cell? ⟨gb104, 1, none⟩ = some (.int .i64 a1_1) := (blk_cell BK104.out 1).trans rfl; have hfz10_0 := blk_frozen BK104.out 0; have hfz10_1 := blk_frozen BK104.out 1) | ((with_reducible refine gate_callee (f := 81) rfl ?_); refine goesL_ (some 8) rfl rfl Tryd.func81 (by kernel_rfl) rfl #[.agg #[.slice A0_0 l0_0.length c0_0, .slice A0_1 l0_1.length c0_1, .slice A0_2 l0_2.length c0_2], .int .i64 a1_0] rfl (by (try simp only [List.map_toArray, List.map_cons, List.map_nil]); first | done | rfl | (simp only [List.length_drop, List.length_take]; rfl)) ?_; (with_reducible refine (roll_isDay.calls _ _ l0_0 _ _ l0_1 _ _ l0_2 a1_0 true _ ?side1 ?side2 ?side3 ?side4 ?side5 ?side6 A3.out).mono ?_); (case side1 => repeat (first | exact (Kd.C_below HR0_0.out HB.out) | (with_reducible refine Kd.C_alloc ?_ _) | (with_reducible refine Kd.C_drewN ?_ _) | (with_reducible refine Kd.C_drew ?_))); (case side2 => exact HC0_0.out); (case side3 => repeat (first | exact (Kd.C_below HR0_1.out HB.out) | (with_reducible refine Kd.C_alloc ?_ _) | (with_reducible refine Kd.C_drewN ?_ _) | (with_reducible refine Kd.C_drew ?_))); (case side4 => exact HC0_1.out); (case side5 => repeat (first | exact (Kd.C_below HR0_2.out HB.out) | (with_reducible refine Kd.C_alloc ?_ _) | (with_reducible refine Kd.C_drewN ?_ _) | (with_reducible refine Kd.C_drew ?_))); (case side6 => exact HC0_2.out); rintro e w11 ⟨rfl, hb⟩; refine ⟨_, rfl, ?_⟩; have n0_ := Aside0.mk (blk_below (g := gb103) (o := .cells #[.slice A0_0 l0_0.length c0_0, .slice A0_1 l0_1.length c0_1, .slice A0_2 l0_2.length c0_2] 26 (0, 0)) (by (with_reducible repeat (first | refine blk_drewN ?_ _ | refine blk_drew ?_ | refine blk_alloc ?_ _)); exact BK103.out) hb); have n1_ := Aside0.mk (blk_below (g := gb104) (o := .cells #[.int .i64 a1_0, .int .i64 a1_1] 43 (0, 0)) (by (with_reducible repeat (first | refine blk_drewN ?_ _ | refine blk_drew ?_ | refine blk_alloc ?_ _)); exact BK104.out) hb); have n2_ := Aside0.mk (below_step (by repeat (first | (with_reducible first | exact HB.out | apply below_alloc | apply pw_below_drewN | apply below_drew1 | refine below_set ?_ GE103.out | refine below_set ?_ GE104.out) | exact HB.out)) hb); clear BK103; clear BK104; clear HB; have BK103 := n0_; have BK104 := n1_; have HB := n2_; clear n0_ n1_ n2_; (try clear hb); (try clear hb2); (try clear hk); (try clear hi); have hcz12_0 : w11.cell? ⟨gb104, 0, none⟩ = some (.int .i64 a1_0) := (blk_cell BK104.out 0).trans rfl; have hcz12_1 : w11.cell? ⟨gb104, 1, none⟩ = some (.int .i64 a1_1) := (blk_cell BK104.out 1).trans rfl; have hfz12_0 := blk_frozen BK104.out 0; have hfz12_1 := blk_frozen BK104.out 1; have hcz13_0 : w11.cell? ⟨gb103, 0, none⟩ = some (.slice A0_0 l0_0.length c0_0) := (blk_cell BK103.out 0).trans rfl; have hcz13_1 : w11.cell? ⟨gb103, 1, none⟩ = some (.slice A0_1 l0_1.length c0_1) := (blk_cell BK103.out 1).trans rfl; have hcz13_2 : w11.cell? ⟨gb103, 2, none⟩ = some (.slice A0_2 l0_2.length c0_2) := (blk_cell BK103.out 2).trans rfl; have hfz13_0 := blk_frozen BK103.out 0; have hfz13_1 := blk_frozen BK103.out 1; have hfz13_2 := blk_frozen BK103.out 2) | (go_at_call 77; (with_reducible refine (roll_within.calls a1_1 0 (l0_0.length : Int) t106 _ A5.out).mono ?_); rintro e w' ⟨rfl, ⟨nd, rfl⟩⟩))
    go_ret
    exact ⟨by first | rfl | exact congrArg (fun b_ => Ending.returned (.bool b_)) HT.out | (simp [errW_none, errW_some] <;> rfl) | (simp [*, errW_none, errW_some] <;> rfl), by repeat (first | (with_reducible first | exact HB.out | apply below_alloc | apply pw_below_drewN | apply below_drew1 | refine below_set ?_ GE103.out | refine below_set ?_ GE104.out) | exact HB.out)⟩
  · replace c4 := Bool.eq_false_iff.mpr c4
    subst c4
    have H1 : (some false) = some r := by rw [if_neg (show ¬ (false = true) by decide)] at H; exact H
    clear H
    have H := H1
    clear H1
    obtain rfl := Option.some.inj H
    go_enter Tryd.func78, Tryd.ntmps78
    go_wp2_with (first | ((with_reducible refine gate_dst (N := 2) rfl ?_); (try (refine gate_guard (by rfl) ?_; dsimp only)); refine box_event ?hg (N := 2) ?hd (cs := #[.slice A0_0 l0_0.length c0_0, .slice A0_1 l0_1.length c0_1, .slice A0_2 l0_2.length c0_2]) (t := 26) ?hr ?_; (case hd => rfl); (case hg => rfl); (case hr => first | (go_simp; done) | (go_simp; rfl)); intro gb103 hg w14 hbox hb; have n0_ := Aside0.mk (below_step (by repeat (first | (with_reducible first | exact HB.out | apply below_alloc | apply pw_below_drewN | apply below_drew1) | exact HB.out)) hb); have n1_ := Aside0.mk (hbox); have n2_ := Aside0.mk ((by rw [hg]; exact (below_size (by repeat (first | (with_reducible first | exact HB.out | apply below_alloc | apply pw_below_drewN | apply below_drew1) | exact HB.out))) : w.heap.size ≤ gb103)); have n3_ := Aside0.mk ((by rw [hg]; exact (below_size (by repeat (first | (with_reducible first | exact HB.out | apply below_alloc | apply pw_below_drewN | apply below_drew1) | exact HB.out))) : w.heap.size ≤ gb103)); clear HB; have HB := n0_; have BK103 := n1_; have GW103 := n2_; have GE103 := n3_; clear n0_ n1_ n2_ n3_; clear hb hbox hg) | ((with_reducible refine gate_dst (N := 3) rfl ?_); (try (refine gate_guard (by rfl) ?_; dsimp only)); refine box_event ?hg (N := 3) ?hd (cs := #[.int .i64 a1_0, .int .i64 a1_1]) (t := 43) ?hr ?_; (case hd => rfl); (case hg => rfl); (case hr => first | (go_simp; done) | (go_simp; rfl)); intro gb104 hg w15 hbox hb; have n0_ := Aside0.mk (blk_below (g := gb103) (o := .cells #[.slice A0_0 l0_0.length c0_0, .slice A0_1 l0_1.length c0_1, .slice A0_2 l0_2.length c0_2] 26 (0, 0)) (by (with_reducible repeat (first | refine blk_drewN ?_ _ | refine blk_drew ?_ | refine blk_alloc ?_ _)); exact BK103.out) hb); have n1_ := Aside0.mk (below_step (by repeat (first | (with_reducible first | exact HB.out | apply below_alloc | apply pw_below_drewN | apply below_drew1 | refine below_set ?_ GE103.out) | exact HB.out)) hb); have n2_ := Aside0.mk (hbox); have n3_ := Aside0.mk ((by rw [hg]; exact (below_size (by repeat (first | (with_reducible first | exact HB.out | apply below_alloc | apply pw_below_drewN | apply below_drew1 | refine below_set ?_ GE103.out) | exact HB.out))) : w.heap.size ≤ gb104)); have n4_ := Aside0.mk ((by rw [hg]; exact (below_size (by repeat (first | (with_reducible first | exact HB.out | apply below_alloc | apply pw_below_drewN | apply below_drew1 | refine below_set ?_ GE103.out) | exact HB.out))) : w.heap.size ≤ gb104)); have n5_ := Aside0.mk ((by rw [hg]; exact Nat.ne_of_lt (blk_lt (g := gb103) (o := .cells #[.slice A0_0 l0_0.length c0_0, .slice A0_1 l0_1.length c0_1, .slice A0_2 l0_2.length c0_2] 26 (0, 0)) (by (with_reducible repeat (first | refine blk_drewN ?_ _ | refine blk_drew ?_ | refine blk_alloc ?_ _)); exact BK103.out)) : gb103 ≠ gb104)); have n6_ := Aside0.mk ((by rw [hg]; exact Nat.ne_of_gt (blk_lt (g := gb103) (o := .cells #[.slice A0_0 l0_0.length c0_0, .slice A0_1 l0_1.length c0_1, .slice A0_2 l0_2.length c0_2] 26 (0, 0)) (by (with_reducible repeat (first | refine blk_drewN ?_ _ | refine blk_drew ?_ | refine blk_alloc ?_ _)); exact BK103.out)) : gb104 ≠ gb103)); clear BK103; clear HB; have BK103 := n0_; have HB := n1_; have BK104 := n2_; have GW104 := n3_; have GE104 := n4_; have NB103_104 := n5_; have NB104_103 := n6_; clear n0_ n1_ n2_ n3_ n4_ n5_ n6_; clear hb hbox hg; have hnb16 := NB103_104.out; have hnc16 := NB104_103.out; have hcz17_0 : w15.cell? ⟨gb103, 0, none⟩ = some (.slice A0_0 l0_0.length c0_0) := (blk_cell BK103.out 0).trans rfl; have hcz17_1 : w15.cell? ⟨gb103, 1, none⟩ = some (.slice A0_1 l0_1.length c0_1) := (blk_cell BK103.out 1).trans rfl; have hcz17_2 : w15.cell? ⟨gb103, 2, none⟩ = some (.slice A0_2 l0_2.length c0_2) := (blk_cell BK103.out 2).trans rfl; have hfz17_0 := blk_frozen BK103.out 0; have hfz17_1 := blk_frozen BK103.out 1; have hfz17_2 := blk_frozen BK103.out 2; have hcz18_0 : w15.cell? ⟨gb104, 0, none⟩ = some (.int .i64 a1_0) := (blk_cell BK104.out 0).trans rfl; have hcz18_1 : w15.cell? ⟨gb104, 1, none⟩ = some (.int .i64 a1_1) := (blk_cell BK104.out 1).trans rfl; have hfz18_0 := blk_frozen BK104.out 0; have hfz18_1 := blk_frozen BK104.out 1) | ((with_reducible refine gate_callee (f := 81) rfl ?_); refine goesL_ (some 8) rfl rfl Tryd.func81 (by kernel_rfl) rfl #[.agg #[.slice A0_0 l0_0.length c0_0, .slice A0_1 l0_1.length c0_1, .slice A0_2 l0_2.length c0_2], .int .i64 a1_0] rfl (by (try simp only [List.map_toArray, List.map_cons, List.map_nil]); first | done | rfl | (simp only [List.length_drop, List.length_take]; rfl)) ?_; (with_reducible refine (roll_isDay.calls _ _ l0_0 _ _ l0_1 _ _ l0_2 a1_0 false _ ?side1 ?side2 ?side3 ?side4 ?side5 ?side6 A3.out).mono ?_); (case side1 => repeat (first | exact (Kd.C_below HR0_0.out HB.out) | (with_reducible refine Kd.C_alloc ?_ _) | (with_reducible refine Kd.C_drewN ?_ _) | (with_reducible refine Kd.C_drew ?_))); (case side2 => exact HC0_0.out); (case side3 => repeat (first | exact (Kd.C_below HR0_1.out HB.out) | (with_reducible refine Kd.C_alloc ?_ _) | (with_reducible refine Kd.C_drewN ?_ _) | (with_reducible refine Kd.C_drew ?_))); (case side4 => exact HC0_1.out); (case side5 => repeat (first | exact (Kd.C_below HR0_2.out HB.out) | (with_reducible refine Kd.C_alloc ?_ _) | (with_reducible refine Kd.C_drewN ?_ _) | (with_reducible refine Kd.C_drew ?_))); (case side6 => exact HC0_2.out); rintro e w19 ⟨rfl, hb⟩; refine ⟨_, rfl, ?_⟩; have n0_ := Aside0.mk (blk_below (g := gb103) (o := .cells #[.slice A0_0 l0_0.length c0_0, .slice A0_1 l0_1.length c0_1, .slice A0_2 l0_2.length c0_2] 26 (0, 0)) (by (with_reducible repeat (first | refine blk_drewN ?_ _ | refine blk_drew ?_ | refine blk_alloc ?_ _)); exact BK103.out) hb); have n1_ := Aside0.mk (blk_below (g := gb104) (o := .cells #[.int .i64 a1_0, .int .i64 a1_1] 43 (0, 0)) (by (with_reducible repeat (first | refine blk_drewN ?_ _ | refine blk_drew ?_ | refine blk_alloc ?_ _)); exact BK104.out) hb); have n2_ := Aside0.mk (below_step (by repeat (first | (with_reducible first | exact HB.out | apply below_alloc | apply pw_below_drewN | apply below_drew1 | refine below_set ?_ GE103.out | refine below_set ?_ GE104.out) | exact HB.out)) hb); clear BK103; clear BK104; clear HB; have BK103 := n0_; have BK104 := n1_; have HB := n2_; clear n0_ n1_ n2_; (try clear hb); (try clear hb2); (try clear hk); (try clear hi)))
    go_ret
    exact ⟨by first | rfl | exact congrArg (fun b_ => Ending.returned (.bool b_)) HT.out | (simp [errW_none, errW_some] <;> rfl) | (simp [*, errW_none, errW_some] <;> rfl), by repeat (first | (with_reducible first | exact HB.out | apply below_alloc | apply pw_below_drewN | apply below_drew1 | refine below_set ?_ GE103.out | refine below_set ?_ GE104.out) | exact HB.out)⟩
end Go.Proofs.YthgjedagbgmgmaaDoor.Pr
