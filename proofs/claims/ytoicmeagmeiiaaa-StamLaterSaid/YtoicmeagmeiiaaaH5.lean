/- StamLater: what is seen at a time and not at a later one has ended between, what is seen at the later alone has begun between; without any condition on the input: the walk. -/
import Derived.Test.YtoicmeagmeiiaaaPureStamState
namespace Go.Proofs.Ytoicmeagmeiiaaa.Later
open Go.RowKit Go.Proofs.Ytoicmeagmeiiaaa.GStam Go.Proofs.Ytoicmeagmeiiaaa.Pure Go.Proofs.YtoicmeagmeiiaaaW.PrintWords Go.Proofs.YtoicmeagmeiiaaaW.PrintLast Go.Proofs.YtoicmeagmeiiaaaW.PrintMore
attribute [local go_sem] max2_int min2_int
attribute [local go_sem high] eqA26

def whenP (t a : Int) (l : List S38) : Int := if t = 0 then a else if (stateOf t l).f1 = 2 then (stateOf t l).f3 else if (stateOf t l).f1 = 3 then (stateOf t l).f3 else 99
theorem hold_when (t a at_ : Int) (l : List S38) (h : at_ ≤ 15) : (holdP t a at_ l).1 = decide (whenP t a l ≤ at_) := by
  unfold holdP whenP
  by_cases h0 : t = 0
  · simp [h0]
  · by_cases h1 : (stateOf t l).f1 = 2
    · simp [h0, h1]
    · by_cases h2 : (stateOf t l).f1 = 3
      · simp [h0, h2]
      · simp [h0, h1, h2]; omega

set_option maxHeartbeats 1000000 in
set_option maxRecDepth 100000 in
theorem when_calls (t a : Int) (B : Nat) (A : Option Addr) (c : Nat) (l : List S38) (w : World) (hB : w.cell? ⟨B, 0, none⟩ = some (.slice A l.length c)) (hr : Kd.C k38 w A l.length l) (hc : l.length ≤ c) :
    Calls Try.prog 13 #[.agg #[.int .i64 t, .int .i64 a], .pointer (some ⟨B, 0, none⟩)] w fun e w' => e = .returned (.int .i64 (whenP t a l)) ∧ Below w.heap.size w w' := by
  have hu26 := Try.underlying26
  have hu38 := Try.underlying38
  have hBl : B < w.heap.size := World.block_lt_of_cell? w _ hB
  have HR := Aside0.mk (Kd.C_below hr ((Below.refl _ w).alloc (Nat.le_refl _) (.cells #[.int .i64 t, .int .i64 a] 26)))
  clear hr
  by_cases h0 : t = 0
  · rw [show whenP t a l = a by simp [whenP, h0]]
    have h0' : (t == 0) = true := by simpa using h0
    clear h0
    go_enter Try.func13, Try.ntmps13
    go_wp2
    go_ret
    exact ⟨rfl, (Below.refl _ _).alloc (Nat.le_refl _) _⟩
  · have h0' : (t == 0) = false := by simpa using h0
    have key : ∀ b2 b3 : Bool, ((stateOf t l).f1 == 2) = b2 → ((stateOf t l).f1 == 3) = b3 → ∀ r : Int, whenP t a l = r → (b2 = true ∨ b3 = true → (stateOf t l).f3 = r) → (b2 = false → b3 = false → r = 99) →
        Calls Try.prog 13 #[.agg #[.int .i64 t, .int .i64 a], .pointer (some ⟨B, 0, none⟩)] w fun e w' => e = .returned (.int .i64 r) ∧ Below w.heap.size w w' := by
      intro b2 b3 hb2 hb3 r _ hr1 hr2
      cases b2 <;> cases b3
      · obtain rfl := hr2 rfl rfl
        clear hr1 hr2
        go_enter Try.func13, Try.ntmps13
        go_wp2_with fail
        refine (stam_State.calls' _ _ _ _ _ HR.out hc).mono ?_
        rintro e w1 ⟨rfl, hb⟩
        have HB := Aside0.mk (((Below.refl _ w).alloc (Nat.le_refl _) (.cells #[.int .i64 t, .int .i64 a] 26)).trans (hb.mono (by simp)))
        have hz : w.heap.size < w1.heap.size := by have := hb.size; simp at this; omega
        clear hb
        generalize (stateOf t l).f0 = s0 at *
        generalize (stateOf t l).f1 = s1 at *
        generalize (stateOf t l).f2 = s2 at *
        go_wp2
        go_ret
        exact ⟨rfl, HB.out.alloc HB.out.size _⟩
      · obtain rfl := hr1 (Or.inr rfl)
        clear hr1 hr2
        go_enter Try.func13, Try.ntmps13
        go_wp2_with fail
        refine (stam_State.calls' _ _ _ _ _ HR.out hc).mono ?_
        rintro e w1 ⟨rfl, hb⟩
        have HB := Aside0.mk (((Below.refl _ w).alloc (Nat.le_refl _) (.cells #[.int .i64 t, .int .i64 a] 26)).trans (hb.mono (by simp)))
        have hz : w.heap.size < w1.heap.size := by have := hb.size; simp at this; omega
        clear hb
        generalize (stateOf t l).f0 = s0 at *
        generalize (stateOf t l).f1 = s1 at *
        generalize (stateOf t l).f2 = s2 at *
        go_wp2
        go_ret
        exact ⟨rfl, HB.out.alloc HB.out.size _⟩
      · obtain rfl := hr1 (Or.inl rfl)
        clear hr1 hr2
        go_enter Try.func13, Try.ntmps13
        go_wp2_with fail
        refine (stam_State.calls' _ _ _ _ _ HR.out hc).mono ?_
        rintro e w1 ⟨rfl, hb⟩
        have HB := Aside0.mk (((Below.refl _ w).alloc (Nat.le_refl _) (.cells #[.int .i64 t, .int .i64 a] 26)).trans (hb.mono (by simp)))
        have hz : w.heap.size < w1.heap.size := by have := hb.size; simp at this; omega
        clear hb
        generalize (stateOf t l).f0 = s0 at *
        generalize (stateOf t l).f1 = s1 at *
        generalize (stateOf t l).f2 = s2 at *
        go_wp2
        go_ret
        exact ⟨rfl, HB.out.alloc HB.out.size _⟩
      · obtain rfl := hr1 (Or.inl rfl)
        clear hr1 hr2
        go_enter Try.func13, Try.ntmps13
        go_wp2_with fail
        refine (stam_State.calls' _ _ _ _ _ HR.out hc).mono ?_
        rintro e w1 ⟨rfl, hb⟩
        have HB := Aside0.mk (((Below.refl _ w).alloc (Nat.le_refl _) (.cells #[.int .i64 t, .int .i64 a] 26)).trans (hb.mono (by simp)))
        have hz : w.heap.size < w1.heap.size := by have := hb.size; simp at this; omega
        clear hb
        generalize (stateOf t l).f0 = s0 at *
        generalize (stateOf t l).f1 = s1 at *
        generalize (stateOf t l).f2 = s2 at *
        go_wp2
        go_ret
        exact ⟨rfl, HB.out.alloc HB.out.size _⟩
    refine key _ _ rfl rfl _ rfl (fun h => ?_) (fun h1 h2 => ?_)
    · simp only [beq_iff_eq] at h
      unfold whenP
      rw [if_neg h0]
      rcases h with h | h
      · rw [if_pos h]
      · by_cases h2 : (stateOf t l).f1 = 2
        · rw [if_pos h2]
        · rw [if_neg h2, if_pos h]
    · unfold whenP
      rw [if_neg h0, if_neg (by simpa using h1), if_neg (by simpa using h2)]
end Go.Proofs.Ytoicmeagmeiiaaa.Later
