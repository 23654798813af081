/- StamState: the first transaction of an ID is told, whatever stands behind, and of none nothing; without any condition on the input. -/
import Derived.Test.YtoicmeagmeiiaaaPure0
import Derived.Test.YtoicmeagmeiiaaaGStamx7
namespace Go.Proofs.Ytoicmeagmeiiaaa.Pure
open Go.RowKit Go.Proofs.Ytoicmeagmeiiaaa.GStam Go.Proofs.YtoicmeagmeiiaaaW.PrintWords Go.Proofs.YtoicmeagmeiiaaaW.PrintLast

theorem awake_ge : ∀ k, 20 ≤ k → colonnadelaw11_awake.f k = some true := by
  intro k hk
  obtain ⟨d, rfl⟩ : ∃ d, k = 20 + d := ⟨k - 20, by omega⟩
  induction d with
  | zero => exact awake_ok
  | succ d ih => exact colonnadelaw11_awake.mono _ _ (ih (by omega))
theorem stateOf_cons (t : Int) (y : S38) (l : List S38) : stateOf t (y :: l) = if y.f0 = t then y else stateOf t l := by
  unfold stateOf
  rw [List.find?_cons]
  by_cases h : y.f0 = t
  · simp [h]
  · rw [if_neg h, show (y.f0 == t) = false by simpa using h]
theorem stateOf_nil (t : Int) : stateOf t [] = z38 := rfl

theorem l1_ok (l0 : List S38) (hl : l0.length ≤ 20) (x6 : Int) (x16 : List Int) (x17 x18 : Int) (K : Nat) (hnext : ∀ k, K ≤ k → colonnadelaw11_StamState.l0 k l0 x16 x17 (wrap64 (x18 + 1)) = some true) :
    ∀ (d k : Nat) (i : Int) (acc : S38), i = (d : Int) - 1 → d ≤ l0.length → acc = stateOf x6 (l0.drop d) → K + d + 1 ≤ k → colonnadelaw11_StamState.l1 k l0 x6 i x16 x17 x18 acc.f0 acc.f1 acc.f2 acc.f3 = some true
  | 0, k, i, acc, hi, hd, ha, hk => by
    obtain ⟨k, rfl⟩ : ∃ m, k = m + 1 := ⟨k - 1, by omega⟩
    simp only [colonnadelaw11_StamState.l1]
    rw [if_neg (by omega)]
    simp only [List.drop_zero] at ha
    subst ha
    simp only [stam_State.f, Option.bind_some, beq_self_eq_true, Bool.not_true, Bool.or_self, stateOf_nil]
    rw [if_neg (by decide), if_neg (by decide), if_pos (by simp; omega)]
    simp only [List.cons_append, List.nil_append, stateOf_cons, if_true]
    exact hnext k (by omega)
  | d + 1, k, i, acc, hi, hd, ha, hk => by
    obtain ⟨k, rfl⟩ : ∃ m, k = m + 1 := ⟨k - 1, by omega⟩
    simp only [colonnadelaw11_StamState.l1]
    have hdl : d < l0.length := by omega
    rw [if_pos (by omega), if_pos (by omega), if_pos (by omega)]
    have hr : rd_T38 l0 i = l0[d] := by
      subst hi
      simp only [rd_T38, List.getD_eq_getElem?_getD]
      rw [show ((((d + 1 : Nat) : Int) - 1).toNat) = d by omega, List.getElem?_eq_getElem hdl]
      rfl
    have hw : wrap64 (i - 1) = (d : Int) - 1 := by unfold wrap64; omega
    have hdrop : l0.drop d = l0[d] :: l0.drop (d + 1) := List.drop_eq_getElem_cons hdl
    rw [hr, hw]
    by_cases h : l0[d].f0 = x6
    · rw [if_pos h]
      have := l1_ok l0 hl x6 x16 x17 x18 K hnext d k ((d : Int) - 1) l0[d] rfl (by omega) (by rw [hdrop, stateOf_cons, if_pos h]) (by omega)
      exact this
    · rw [if_neg h]
      exact l1_ok l0 hl x6 x16 x17 x18 K hnext d k ((d : Int) - 1) acc rfl (by omega) (by rw [hdrop, stateOf_cons, if_neg h]; exact ha) (by omega)

theorem l0_ok (l0 : List S38) (hl : l0.length ≤ 20) (xs : List Int) (hx : xs.length = 2) : ∀ (d k : Nat) (i : Int), 0 ≤ i → (xs.length : Int) - i = d → 40 * d + 40 ≤ k → colonnadelaw11_StamState.l0 k l0 xs xs.length i = some true
  | 0, k, i, h0, hd, hk => by
    obtain ⟨k, rfl⟩ : ∃ m, k = m + 1 := ⟨k - 1, by omega⟩
    simp only [colonnadelaw11_StamState.l0]
    rw [if_neg (by omega), awake_ge k (by omega)]
    rfl
  | d + 1, k, i, h0, hd, hk => by
    obtain ⟨k, rfl⟩ : ∃ m, k = m + 1 := ⟨k - 1, by omega⟩
    simp only [colonnadelaw11_StamState.l0]
    rw [if_pos (by omega), if_pos h0, if_pos (by omega)]
    have hw : wrap64 (i + 1) = i + 1 := by unfold wrap64; omega
    have := l1_ok l0 hl (rd xs i) xs xs.length i (40 * d + 40) (fun k' hk' => by rw [hw]; exact l0_ok l0 hl xs hx d k' (i + 1) (by omega) (by omega) hk') l0.length k (wrap64 ((l0.length : Int) - 1)) z38
      (by unfold wrap64; omega) (Nat.le_refl _) (by rw [List.drop_length]; rfl) (by omega)
    exact this
theorem StamState (l0 : List S38) (a1 : Int) : colonnadelaw11_StamState.f 200 l0 a1 = some true := by
  unfold colonnadelaw11_StamState.f
  by_cases h : (l0.length : Int) > 20
  · rw [if_pos h, awake_ge 200 (by decide)]
    rfl
  · rw [if_neg h]
    exact l0_ok l0 (by omega) [a1, Go.bits .and .i64 a1 7] rfl 2 200 0 (by decide) (by simp) (by decide)
end Go.Proofs.Ytoicmeagmeiiaaa.Pure
