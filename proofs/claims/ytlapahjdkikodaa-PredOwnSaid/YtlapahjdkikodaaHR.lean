import Derived.Test.YtlapahjdkikodaaHS
namespace Go.Proofs.Ytlapahjdkikodaa.GPe
open Go.RowKit Go.Proofs.YtlapahjdkikodaaW.PrintWords Go.Proofs.YtlapahjdkikodaaW.PrintLast Go.Proofs.YtlapahjdkikodaaW.PrintMore
set_option linter.unusedVariables false
/-! Two calls, one behind the other, and two new variables: any order of them. -/
theorem put_comm (a : Act) {i j : Nat} (h : i ≠ j) (u v : Value) : (a.put (some i) u).put (some j) v = (a.put (some j) v).put (some i) u := by
  simp only [Act.put]
  rw [Array.setIfInBounds_comm _ _ h]
def optPut (b : Bool) (N : Nat) (v : Value) (a : Act) : Act := if b = true then a.put (some N) v else a
def ptr (g : Nat) : Value := .pointer (some ⟨g, 0, none⟩)
def actR (a : Act) (n2 n5 n6 n7 : Nat) (b2 b5 b6 b7 : Bool) (v2 v5 : Value) (g6 g7 : Nat) : Act :=
  optPut b7 n7 (ptr g7) (optPut b6 n6 (ptr g6) (optPut b5 n5 v5 (optPut b2 n2 v2 a)))
def LR (b2 b5 b6 b7 : Bool) : Array Bool := #[true, true, b2, true, true, b5, b6, b7, false, false]
structure RS {β γ : Type} (w0 : World) (F2 : World → Nat → Nat → β → Prop) (F5 : World → Nat → Nat → γ → Prop) (o : Obj) (b2 b5 b6 b7 : Bool) (x2 : β) (x5 : γ) (lo2 hi2 lo5 hi5 g6 g7 : Nat) (w : World) : Prop where
  below : Below w0.heap.size w0 w
  f2 : b2 = true → w0.heap.size ≤ lo2 ∧ lo2 ≤ hi2 ∧ hi2 ≤ w.heap.size ∧ F2 w lo2 hi2 x2
  f5 : b5 = true → w0.heap.size ≤ lo5 ∧ lo5 ≤ hi5 ∧ hi5 ≤ w.heap.size ∧ F5 w lo5 hi5 x5
  f6 : b6 = true → w0.heap.size ≤ g6 ∧ g6 < w.heap.size ∧ w.heap[g6]? = some o
  f7 : b7 = true → w0.heap.size ≤ g7 ∧ g7 < w.heap.size ∧ w.heap[g7]? = some o
  n25 : b2 = true → b5 = true → hi2 ≤ lo5 ∨ hi5 ≤ lo2
  n26 : b2 = true → b6 = true → g6 < lo2 ∨ hi2 ≤ g6
  n27 : b2 = true → b7 = true → g7 < lo2 ∨ hi2 ≤ g7
  n56 : b5 = true → b6 = true → g6 < lo5 ∨ hi5 ≤ g6
  n57 : b5 = true → b7 = true → g7 < lo5 ∨ hi5 ≤ g7
  n67 : b6 = true → b7 = true → g6 ≠ g7
section
variable {β γ : Type} {w0 : World} {F2 : World → Nat → Nat → β → Prop} {F5 : World → Nat → Nat → γ → Prop} {o : Obj} {b2 b5 b6 b7 : Bool} {x2 : β} {x5 : γ} {lo2 hi2 lo5 hi5 g6 g7 : Nat} {w w' : World}
def StabR {β : Type} (F : World → Nat → Nat → β → Prop) : Prop := ∀ (lo hi : Nat) (x : β) (w w' : World), hi ≤ w.heap.size → Below w.heap.size w w' → F w lo hi x → F w' lo hi x
theorem RS.step (h2 : StabR F2) (h5 : StabR F5) (h : RS w0 F2 F5 o b2 b5 b6 b7 x2 x5 lo2 hi2 lo5 hi5 g6 g7 w) (hb : Below w.heap.size w w') : RS w0 F2 F5 o b2 b5 b6 b7 x2 x5 lo2 hi2 lo5 hi5 g6 g7 w' := by
  have hs := hb.size
  refine ⟨below_step h.below hb, fun e => ?_, fun e => ?_, fun e => ?_, fun e => ?_, h.n25, h.n26, h.n27, h.n56, h.n57, h.n67⟩
  · obtain ⟨q1, q2, q3, q4⟩ := h.f2 e
    exact ⟨q1, q2, Nat.le_trans q3 hs, h2 _ _ _ _ _ q3 hb q4⟩
  · obtain ⟨q1, q2, q3, q4⟩ := h.f5 e
    exact ⟨q1, q2, Nat.le_trans q3 hs, h5 _ _ _ _ _ q3 hb q4⟩
  · obtain ⟨q1, q2, q3⟩ := h.f6 e
    exact ⟨q1, Nat.lt_of_lt_of_le q2 hs, (hb.block _ q2).trans q3⟩
  · obtain ⟨q1, q2, q3⟩ := h.f7 e
    exact ⟨q1, Nat.lt_of_lt_of_le q2 hs, (hb.block _ q2).trans q3⟩
theorem RS.add2 (h2 : StabR F2) (h5 : StabR F5) (h : RS w0 F2 F5 o false b5 b6 b7 x2 x5 lo2 hi2 lo5 hi5 g6 g7 w) (hb : Below w.heap.size w w') {y : β} (hf : F2 w' w.heap.size w'.heap.size y) : RS w0 F2 F5 o true b5 b6 b7 y x5 w.heap.size w'.heap.size lo5 hi5 g6 g7 w' := by
  have hk := h.step h2 h5 hb
  have hs := hb.size
  have h0 := h.below.size
  refine ⟨hk.below, fun _ => ⟨h0, hs, Nat.le_refl _, hf⟩, hk.f5, hk.f6, hk.f7, fun _ e => .inr (h.f5 e).2.2.1, fun _ e => .inl (h.f6 e).2.1, fun _ e => .inl (h.f7 e).2.1, h.n56, h.n57, h.n67⟩
theorem RS.add5 (h2 : StabR F2) (h5 : StabR F5) (h : RS w0 F2 F5 o b2 false b6 b7 x2 x5 lo2 hi2 lo5 hi5 g6 g7 w) (hb : Below w.heap.size w w') {y : γ} (hf : F5 w' w.heap.size w'.heap.size y) : RS w0 F2 F5 o b2 true b6 b7 x2 y lo2 hi2 w.heap.size w'.heap.size g6 g7 w' := by
  have hk := h.step h2 h5 hb
  have hs := hb.size
  have h0 := h.below.size
  refine ⟨hk.below, hk.f2, fun _ => ⟨h0, hs, Nat.le_refl _, hf⟩, hk.f6, hk.f7, fun e _ => .inl (h.f2 e).2.2.1, h.n26, h.n27, fun _ e => .inl (h.f6 e).2.1, fun _ e => .inl (h.f7 e).2.1, h.n67⟩
theorem RS.add6 (h2 : StabR F2) (h5 : StabR F5) (h : RS w0 F2 F5 o b2 b5 false b7 x2 x5 lo2 hi2 lo5 hi5 g6 g7 w) (hb : Below w.heap.size w w') (hl : w.heap.size < w'.heap.size) (hf : w'.heap[w.heap.size]? = some o) : RS w0 F2 F5 o b2 b5 true b7 x2 x5 lo2 hi2 lo5 hi5 w.heap.size g7 w' := by
  have hk := h.step h2 h5 hb
  have h0 := h.below.size
  refine ⟨hk.below, hk.f2, hk.f5, fun _ => ⟨h0, hl, hf⟩, hk.f7, h.n25, fun e _ => .inr (h.f2 e).2.2.1, h.n27, fun e _ => .inr (h.f5 e).2.2.1, h.n57, fun _ e => Nat.ne_of_gt (h.f7 e).2.1⟩
theorem RS.add7 (h2 : StabR F2) (h5 : StabR F5) (h : RS w0 F2 F5 o b2 b5 b6 false x2 x5 lo2 hi2 lo5 hi5 g6 g7 w) (hb : Below w.heap.size w w') (hl : w.heap.size < w'.heap.size) (hf : w'.heap[w.heap.size]? = some o) : RS w0 F2 F5 o b2 b5 b6 true x2 x5 lo2 hi2 lo5 hi5 g6 w.heap.size w' := by
  have hk := h.step h2 h5 hb
  have h0 := h.below.size
  refine ⟨hk.below, hk.f2, hk.f5, hk.f6, fun _ => ⟨h0, hl, hf⟩, h.n25, h.n26, fun e _ => .inr (h.f2 e).2.2.1, h.n56, fun e _ => .inr (h.f5 e).2.2.1, fun e _ => Nat.ne_of_lt (h.f6 e).2.1⟩
end
section
variable {P : Program} {ops : Array Oper} {Q : Exit → Act → World → Prop} {S : World → Prop} {ds : List Nat}
set_option maxHeartbeats 1000000 in
theorem race {β γ : Type} (w0 : World) (a : Act) (F2 : World → Nat → Nat → β → Prop) (F5 : World → Nat → Nat → γ → Prop) (o : Obj) (V2 : β → Value) (V5 : γ → Value) (n2 n5 n6 n7 : Nat) (y2 : β) (y5 : γ)
    (hst2 : StabR F2) (hst5 : StabR F5) (hS : ∀ w', Below w0.heap.size w0 w' → S w')
    (hn : n2 ≠ n5 ∧ n2 ≠ n6 ∧ n2 ≠ n7 ∧ n5 ≠ n6 ∧ n5 ≠ n7 ∧ n6 ≠ n7)
    {o2 o5 o6 o7 : Oper} (ho2 : ops[2]? = some o2) (ho5 : ops[5]? = some o5) (ho6 : ops[6]? = some o6) (ho7 : ops[7]? = some o7)
    (hd2 : o2.dst = some n2) (hd5 : o5.dst = some n5) (hd6 : o6.dst = some n6) (hd7 : o7.dst = some n7)
    (hds : 2 ∉ ds ∧ 5 ∉ ds ∧ 6 ∉ ds ∧ 7 ∉ ds)
    (hc0000 : (Region.ready .any ops (LR false false false false) == [2, 6, 7] && (LR false false false false).setIfInBounds 2 true == LR true false false false && (LR false false false false).setIfInBounds 6 true == LR false false true false && (LR false false false false).setIfInBounds 7 true == LR false false false true) = true)
    (hc0001 : (Region.ready .any ops (LR false false false true) == [2, 6] && (LR false false false true).setIfInBounds 2 true == LR true false false true && (LR false false false true).setIfInBounds 6 true == LR false false true true) = true)
    (hc0010 : (Region.ready .any ops (LR false false true false) == [2, 7] && (LR false false true false).setIfInBounds 2 true == LR true false true false && (LR false false true false).setIfInBounds 7 true == LR false false true true) = true)
    (hc0011 : (Region.ready .any ops (LR false false true true) == [2] && (LR false false true true).setIfInBounds 2 true == LR true false true true) = true)
    (hc1000 : (Region.ready .any ops (LR true false false false) == [5, 6, 7] && (LR true false false false).setIfInBounds 5 true == LR true true false false && (LR true false false false).setIfInBounds 6 true == LR true false true false && (LR true false false false).setIfInBounds 7 true == LR true false false true) = true)
    (hc1001 : (Region.ready .any ops (LR true false false true) == [5, 6] && (LR true false false true).setIfInBounds 5 true == LR true true false true && (LR true false false true).setIfInBounds 6 true == LR true false true true) = true)
    (hc1010 : (Region.ready .any ops (LR true false true false) == [5, 7] && (LR true false true false).setIfInBounds 5 true == LR true true true false && (LR true false true false).setIfInBounds 7 true == LR true false true true) = true)
    (hc1011 : (Region.ready .any ops (LR true false true true) == [5] && (LR true false true true).setIfInBounds 5 true == LR true true true true) = true)
    (hc1100 : (Region.ready .any ops (LR true true false false) == [6, 7] && (LR true true false false).setIfInBounds 6 true == LR true true true false && (LR true true false false).setIfInBounds 7 true == LR true true false true) = true)
    (hc1101 : (Region.ready .any ops (LR true true false true) == [6] && (LR true true false true).setIfInBounds 6 true == LR true true true true) = true)
    (hc1110 : (Region.ready .any ops (LR true true true false) == [7] && (LR true true true false).setIfInBounds 7 true == LR true true true true) = true)
    (s2 : ∀ (b6 b7 : Bool) (v2 v5 : Value) (g6 g7 : Nat) (w1 : World) (K : Act → World → Prop), Below w0.heap.size w0 w1 → (∀ x w2, F2 w2 w1.heap.size w2.heap.size x → Below w1.heap.size w1 w2 → K ((actR a n2 n5 n6 n7 false false b6 b7 v2 v5 g6 g7).put (some n2) (V2 x)) w2) →
      if Region.wanted o2 (yielded ops (actR a n2 n5 n6 n7 false false b6 b7 v2 v5 g6 g7).tmps) = true then Oper.wp P o2 (actR a n2 n5 n6 n7 false false b6 b7 v2 v5 g6 g7) w1 K Q else K ((actR a n2 n5 n6 n7 false false b6 b7 v2 v5 g6 g7).put (some n2) undef) w1)
    (s5 : ∀ (b6 b7 : Bool) (v2 v5 : Value) (g6 g7 : Nat) (w1 : World) (K : Act → World → Prop), Below w0.heap.size w0 w1 → (∀ x w2, F5 w2 w1.heap.size w2.heap.size x → Below w1.heap.size w1 w2 → K ((actR a n2 n5 n6 n7 true false b6 b7 v2 v5 g6 g7).put (some n5) (V5 x)) w2) →
      if Region.wanted o5 (yielded ops (actR a n2 n5 n6 n7 true false b6 b7 v2 v5 g6 g7).tmps) = true then Oper.wp P o5 (actR a n2 n5 n6 n7 true false b6 b7 v2 v5 g6 g7) w1 K Q else K ((actR a n2 n5 n6 n7 true false b6 b7 v2 v5 g6 g7).put (some n5) undef) w1)
    (s6 : ∀ (b2 b5 b7 : Bool) (v2 v5 : Value) (g6 g7 : Nat) (w1 : World) (K : Act → World → Prop), (∀ w2, w2.heap[w1.heap.size]? = some o → w1.heap.size < w2.heap.size → Below w1.heap.size w1 w2 → K ((actR a n2 n5 n6 n7 b2 b5 false b7 v2 v5 g6 g7).put (some n6) (ptr w1.heap.size)) w2) →
      if Region.wanted o6 (yielded ops (actR a n2 n5 n6 n7 b2 b5 false b7 v2 v5 g6 g7).tmps) = true then Oper.wp P o6 (actR a n2 n5 n6 n7 b2 b5 false b7 v2 v5 g6 g7) w1 K Q else K ((actR a n2 n5 n6 n7 b2 b5 false b7 v2 v5 g6 g7).put (some n6) undef) w1)
    (s7 : ∀ (b2 b5 b6 : Bool) (v2 v5 : Value) (g6 g7 : Nat) (w1 : World) (K : Act → World → Prop), (∀ w2, w2.heap[w1.heap.size]? = some o → w1.heap.size < w2.heap.size → Below w1.heap.size w1 w2 → K ((actR a n2 n5 n6 n7 b2 b5 b6 false v2 v5 g6 g7).put (some n7) (ptr w1.heap.size)) w2) →
      if Region.wanted o7 (yielded ops (actR a n2 n5 n6 n7 b2 b5 b6 false v2 v5 g6 g7).tmps) = true then Oper.wp P o7 (actR a n2 n5 n6 n7 b2 b5 b6 false v2 v5 g6 g7) w1 K Q else K ((actR a n2 n5 n6 n7 b2 b5 b6 false v2 v5 g6 g7).put (some n7) undef) w1)
    (fuel : Nat)
    (fin : ∀ x2 x5 lo2 hi2 lo5 hi5 g6 g7 w', RS w0 F2 F5 o true true true true x2 x5 lo2 hi2 lo5 hi5 g6 g7 w' → wpAnyLast P .any ops Q S ds fuel (LR true true true true) (actR a n2 n5 n6 n7 true true true true (V2 x2) (V5 x5) g6 g7) w') :
    wpAnyLast P .any ops Q S ds (fuel + 4) (LR false false false false) a w0 := by
  let W : Bool → Bool → Bool → Bool → Nat → Prop := fun b2 b5 b6 b7 m => ∀ x2 x5 lo2 hi2 lo5 hi5 g6 g7 w', RS w0 F2 F5 o b2 b5 b6 b7 x2 x5 lo2 hi2 lo5 hi5 g6 g7 w' → wpAnyLast P .any ops Q S ds m (LR b2 b5 b6 b7) (actR a n2 n5 n6 n7 b2 b5 b6 b7 (V2 x2) (V5 x5) g6 g7) w'
  obtain ⟨h25, h26, h27, h56, h57, h67⟩ := hn
  have c2 : ∀ (b6 b7 : Bool) (v v2 v5 : Value) (g6 g7 : Nat), (actR a n2 n5 n6 n7 false false b6 b7 v2 v5 g6 g7).put (some n2) v = actR a n2 n5 n6 n7 true false b6 b7 v v5 g6 g7 := by
    intro b6 b7 v v2 v5 g6 g7
    cases b6 <;> cases b7 <;> simp only [actR, optPut, if_true, if_false, Bool.false_eq_true] <;> first | rfl | rw [put_comm _ (Ne.symm h27), put_comm _ (Ne.symm h26)] | rw [put_comm _ (Ne.symm h26)] | rw [put_comm _ (Ne.symm h27)]
  have c5 : ∀ (b6 b7 : Bool) (v v2 v5 : Value) (g6 g7 : Nat), (actR a n2 n5 n6 n7 true false b6 b7 v2 v5 g6 g7).put (some n5) v = actR a n2 n5 n6 n7 true true b6 b7 v2 v g6 g7 := by
    intro b6 b7 v v2 v5 g6 g7
    cases b6 <;> cases b7 <;> simp only [actR, optPut, if_true, if_false, Bool.false_eq_true] <;> first | rfl | rw [put_comm _ (Ne.symm h57), put_comm _ (Ne.symm h56)] | rw [put_comm _ (Ne.symm h56)] | rw [put_comm _ (Ne.symm h57)]
  have c6 : ∀ (b2 b5 b7 : Bool) (v2 v5 : Value) (g g6 g7 : Nat), (actR a n2 n5 n6 n7 b2 b5 false b7 v2 v5 g6 g7).put (some n6) (ptr g) = actR a n2 n5 n6 n7 b2 b5 true b7 v2 v5 g g7 := by
    intro b2 b5 b7 v2 v5 g g6 g7
    cases b7 <;> simp only [actR, optPut, if_true, if_false, Bool.false_eq_true] <;> first | rfl | rw [put_comm _ (Ne.symm h67)]
  have c7 : ∀ (b2 b5 b6 : Bool) (v2 v5 : Value) (g g6 g7 : Nat), (actR a n2 n5 n6 n7 b2 b5 b6 false v2 v5 g6 g7).put (some n7) (ptr g) = actR a n2 n5 n6 n7 b2 b5 b6 true v2 v5 g6 g := by
    intro b2 b5 b6 v2 v5 g g6 g7
    simp only [actR, optPut, if_true, if_false, Bool.false_eq_true]
  have a2 : ∀ (b6 b7 : Bool) (m : Nat), W true false b6 b7 m → ∀ x2 x5 lo2 hi2 lo5 hi5 g6 g7 w', RS w0 F2 F5 o false false b6 b7 x2 x5 lo2 hi2 lo5 hi5 g6 g7 w' → ∀ K : Act → World → Prop, Shut (∀ a' w', S w' → (S w' → wpAnyLast P .any ops Q S ds m (LR true false b6 b7) a' w') → K a' w') →
      if Region.wanted o2 (yielded ops (actR a n2 n5 n6 n7 false false b6 b7 (V2 x2) (V5 x5) g6 g7).tmps) = true then Oper.wp P o2 (actR a n2 n5 n6 n7 false false b6 b7 (V2 x2) (V5 x5) g6 g7) w' K Q else K ((actR a n2 n5 n6 n7 false false b6 b7 (V2 x2) (V5 x5) g6 g7).put (some n2) undef) w' := by
    intro b6 b7 m hW x2 x5 lo2 hi2 lo5 hi5 g6 g7 w' hR K hK
    refine s2 b6 b7 _ _ g6 g7 w' K hR.below (fun x w2 hf hb => ?_)
    have hR2 := hR.add2 hst2 hst5 hb hf
    refine hK.out _ _ (hS _ hR2.below) (fun _ => ?_)
    rw [c2]
    exact hW _ _ _ _ _ _ _ _ _ hR2
  have a5 : ∀ (b6 b7 : Bool) (m : Nat), W true true b6 b7 m → ∀ x2 x5 lo2 hi2 lo5 hi5 g6 g7 w', RS w0 F2 F5 o true false b6 b7 x2 x5 lo2 hi2 lo5 hi5 g6 g7 w' → ∀ K : Act → World → Prop, Shut (∀ a' w', S w' → (S w' → wpAnyLast P .any ops Q S ds m (LR true true b6 b7) a' w') → K a' w') →
      if Region.wanted o5 (yielded ops (actR a n2 n5 n6 n7 true false b6 b7 (V2 x2) (V5 x5) g6 g7).tmps) = true then Oper.wp P o5 (actR a n2 n5 n6 n7 true false b6 b7 (V2 x2) (V5 x5) g6 g7) w' K Q else K ((actR a n2 n5 n6 n7 true false b6 b7 (V2 x2) (V5 x5) g6 g7).put (some n5) undef) w' := by
    intro b6 b7 m hW x2 x5 lo2 hi2 lo5 hi5 g6 g7 w' hR K hK
    refine s5 b6 b7 _ _ g6 g7 w' K hR.below (fun x w2 hf hb => ?_)
    have hR2 := hR.add5 hst2 hst5 hb hf
    refine hK.out _ _ (hS _ hR2.below) (fun _ => ?_)
    rw [c5]
    exact hW _ _ _ _ _ _ _ _ _ hR2
  have a6 : ∀ (b2 b5 b7 : Bool) (m : Nat), W b2 b5 true b7 m → ∀ x2 x5 lo2 hi2 lo5 hi5 g6 g7 w', RS w0 F2 F5 o b2 b5 false b7 x2 x5 lo2 hi2 lo5 hi5 g6 g7 w' → ∀ K : Act → World → Prop, Shut (∀ a' w', S w' → (S w' → wpAnyLast P .any ops Q S ds m (LR b2 b5 true b7) a' w') → K a' w') →
      if Region.wanted o6 (yielded ops (actR a n2 n5 n6 n7 b2 b5 false b7 (V2 x2) (V5 x5) g6 g7).tmps) = true then Oper.wp P o6 (actR a n2 n5 n6 n7 b2 b5 false b7 (V2 x2) (V5 x5) g6 g7) w' K Q else K ((actR a n2 n5 n6 n7 b2 b5 false b7 (V2 x2) (V5 x5) g6 g7).put (some n6) undef) w' := by
    intro b2 b5 b7 m hW x2 x5 lo2 hi2 lo5 hi5 g6 g7 w' hR K hK
    refine s6 b2 b5 b7 _ _ g6 g7 w' K (fun w2 hf hl hb => ?_)
    have hR2 := hR.add6 hst2 hst5 hb hl hf
    refine hK.out _ _ (hS _ hR2.below) (fun _ => ?_)
    rw [c6]
    exact hW _ _ _ _ _ _ _ _ _ hR2
  have a7 : ∀ (b2 b5 b6 : Bool) (m : Nat), W b2 b5 b6 true m → ∀ x2 x5 lo2 hi2 lo5 hi5 g6 g7 w', RS w0 F2 F5 o b2 b5 b6 false x2 x5 lo2 hi2 lo5 hi5 g6 g7 w' → ∀ K : Act → World → Prop, Shut (∀ a' w', S w' → (S w' → wpAnyLast P .any ops Q S ds m (LR b2 b5 b6 true) a' w') → K a' w') →
      if Region.wanted o7 (yielded ops (actR a n2 n5 n6 n7 b2 b5 b6 false (V2 x2) (V5 x5) g6 g7).tmps) = true then Oper.wp P o7 (actR a n2 n5 n6 n7 b2 b5 b6 false (V2 x2) (V5 x5) g6 g7) w' K Q else K ((actR a n2 n5 n6 n7 b2 b5 b6 false (V2 x2) (V5 x5) g6 g7).put (some n7) undef) w' := by
    intro b2 b5 b6 m hW x2 x5 lo2 hi2 lo5 hi5 g6 g7 w' hR K hK
    refine s7 b2 b5 b6 _ _ g6 g7 w' K (fun w2 hf hl hb => ?_)
    have hR2 := hR.add7 hst2 hst5 hb hl hf
    refine hK.out _ _ (hS _ hR2.below) (fun _ => ?_)
    rw [c7]
    exact hW _ _ _ _ _ _ _ _ _ hR2
  have W1111 : W true true true true fuel := fin
  have W1011 : W true false true true (fuel + 1) := by
    intro x2 x5 lo2 hi2 lo5 hi5 g6 g7 w' hR
    exact one_ (i := 5) (N := some n5) (LR true true true true) ho5 hd5 hc1011 hds.2.1 (a5 true true (fuel) W1111 _ _ _ _ _ _ _ _ _ hR)
  have W1101 : W true true false true (fuel + 1) := by
    intro x2 x5 lo2 hi2 lo5 hi5 g6 g7 w' hR
    exact one_ (i := 6) (N := some n6) (LR true true true true) ho6 hd6 hc1101 hds.2.2.1 (a6 true true true (fuel) W1111 _ _ _ _ _ _ _ _ _ hR)
  have W1110 : W true true true false (fuel + 1) := by
    intro x2 x5 lo2 hi2 lo5 hi5 g6 g7 w' hR
    exact one_ (i := 7) (N := some n7) (LR true true true true) ho7 hd7 hc1110 hds.2.2.2 (a7 true true true (fuel) W1111 _ _ _ _ _ _ _ _ _ hR)
  have W0011 : W false false true true (fuel + 2) := by
    intro x2 x5 lo2 hi2 lo5 hi5 g6 g7 w' hR
    exact one_ (i := 2) (N := some n2) (LR true false true true) ho2 hd2 hc0011 hds.1 (a2 true true (fuel + 1) W1011 _ _ _ _ _ _ _ _ _ hR)
  have W1001 : W true false false true (fuel + 2) := by
    intro x2 x5 lo2 hi2 lo5 hi5 g6 g7 w' hR
    exact two_ (i := 5) (j := 6) (Ni := some n5) (Nj := some n6) (LR true true false true) (LR true false true true) ho5 ho6 hd5 hd6 hc1001 hds.2.1 hds.2.2.1 (a5 false true (fuel + 1) W1101 _ _ _ _ _ _ _ _ _ hR) (a6 true false true (fuel + 1) W1011 _ _ _ _ _ _ _ _ _ hR)
  have W1010 : W true false true false (fuel + 2) := by
    intro x2 x5 lo2 hi2 lo5 hi5 g6 g7 w' hR
    exact two_ (i := 5) (j := 7) (Ni := some n5) (Nj := some n7) (LR true true true false) (LR true false true true) ho5 ho7 hd5 hd7 hc1010 hds.2.1 hds.2.2.2 (a5 true false (fuel + 1) W1110 _ _ _ _ _ _ _ _ _ hR) (a7 true false true (fuel + 1) W1011 _ _ _ _ _ _ _ _ _ hR)
  have W1100 : W true true false false (fuel + 2) := by
    intro x2 x5 lo2 hi2 lo5 hi5 g6 g7 w' hR
    exact two_ (i := 6) (j := 7) (Ni := some n6) (Nj := some n7) (LR true true true false) (LR true true false true) ho6 ho7 hd6 hd7 hc1100 hds.2.2.1 hds.2.2.2 (a6 true true false (fuel + 1) W1110 _ _ _ _ _ _ _ _ _ hR) (a7 true true false (fuel + 1) W1101 _ _ _ _ _ _ _ _ _ hR)
  have W0001 : W false false false true (fuel + 3) := by
    intro x2 x5 lo2 hi2 lo5 hi5 g6 g7 w' hR
    exact two_ (i := 2) (j := 6) (Ni := some n2) (Nj := some n6) (LR true false false true) (LR false false true true) ho2 ho6 hd2 hd6 hc0001 hds.1 hds.2.2.1 (a2 false true (fuel + 2) W1001 _ _ _ _ _ _ _ _ _ hR) (a6 false false true (fuel + 2) W0011 _ _ _ _ _ _ _ _ _ hR)
  have W0010 : W false false true false (fuel + 3) := by
    intro x2 x5 lo2 hi2 lo5 hi5 g6 g7 w' hR
    exact two_ (i := 2) (j := 7) (Ni := some n2) (Nj := some n7) (LR true false true false) (LR false false true true) ho2 ho7 hd2 hd7 hc0010 hds.1 hds.2.2.2 (a2 true false (fuel + 2) W1010 _ _ _ _ _ _ _ _ _ hR) (a7 false false true (fuel + 2) W0011 _ _ _ _ _ _ _ _ _ hR)
  have W1000 : W true false false false (fuel + 3) := by
    intro x2 x5 lo2 hi2 lo5 hi5 g6 g7 w' hR
    exact three_ (i := 5) (j := 6) (k := 7) (Ni := some n5) (Nj := some n6) (Nk := some n7) (LR true true false false) (LR true false true false) (LR true false false true) ho5 ho6 ho7 hd5 hd6 hd7 hc1000 hds.2.1 hds.2.2.1 hds.2.2.2 (a5 false false (fuel + 2) W1100 _ _ _ _ _ _ _ _ _ hR) (a6 true false false (fuel + 2) W1010 _ _ _ _ _ _ _ _ _ hR) (a7 true false false (fuel + 2) W1001 _ _ _ _ _ _ _ _ _ hR)
  have W0000 : W false false false false (fuel + 4) := by
    intro x2 x5 lo2 hi2 lo5 hi5 g6 g7 w' hR
    exact three_ (i := 2) (j := 6) (k := 7) (Ni := some n2) (Nj := some n6) (Nk := some n7) (LR true false false false) (LR false false true false) (LR false false false true) ho2 ho6 ho7 hd2 hd6 hd7 hc0000 hds.1 hds.2.2.1 hds.2.2.2 (a2 false false (fuel + 3) W1000 _ _ _ _ _ _ _ _ _ hR) (a6 false false false (fuel + 3) W0010 _ _ _ _ _ _ _ _ _ hR) (a7 false false false (fuel + 3) W0001 _ _ _ _ _ _ _ _ _ hR)
  exact W0000 y2 y5 0 0 0 0 0 0 w0 ⟨Below.refl _ _, nofun, nofun, nofun, nofun, nofun, nofun, nofun, nofun, nofun, nofun⟩
end
end Go.Proofs.Ytlapahjdkikodaa.GPe
