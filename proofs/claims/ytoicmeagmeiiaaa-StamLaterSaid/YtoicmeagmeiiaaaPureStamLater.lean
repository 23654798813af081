/- StamLater: what is seen at a time and not at a later one has ended between, what is seen at the later alone has begun between; without any condition on the input: the law out of its walks. -/
import Derived.Test.YtoicmeagmeiiaaaH6
namespace Go.Proofs.Ytoicmeagmeiiaaa.Later
open Go.RowKit Go.Proofs.Ytoicmeagmeiiaaa.GStam Go.Proofs.Ytoicmeagmeiiaaa.Pure Go.Proofs.YtoicmeagmeiiaaaW.PrintWords Go.Proofs.YtoicmeagmeiiaaaW.PrintLast Go.Proofs.YtoicmeagmeiiaaaW.PrintMore

theorem Sees_eq (b1 b2 e1 e2 me at_ : Int) (l : List S38) : stam_Sees.f 20 b1 b2 e1 e2 me at_ l = some (seesP b1 b2 e1 e2 me at_ l true) := by
  unfold stam_Sees.f
  rw [sees_eq 20 (by decide)]
  rfl
/-- Nobody looks: what is seen, by the times. -/
theorem seen (b1 b2 e1 e2 at_ : Int) (l : List S38) (h : at_ ≤ 15) : (seesP b1 b2 e1 e2 0 at_ l true).1 = (decide (whenP b1 b2 l ≤ at_) && !(decide (¬ (e1 = 0 ∧ e2 = 0)) && decide (whenP e1 e2 l ≤ at_))) := by
  unfold seesP begP endP
  rw [if_neg (show ¬ (b1 = 0 ∧ (0 : Int) ≠ 0) from fun h => h.2 rfl), if_neg (show ¬ (e1 = 0 ∧ (0 : Int) ≠ 0) from fun h => h.2 rfl), hold_when _ _ _ _ h]
  by_cases h1 : whenP b1 b2 l ≤ at_
  · rw [if_pos (by simpa using h1)]
    by_cases h2 : e1 = 0 ∧ e2 = 0
    · simp [h1, h2]
    · rw [if_neg h2, hold_when _ _ _ _ h, decide_eq_true h1, decide_eq_true h2]
      simp
  · rw [if_neg (by simpa using h1)]
    simp [h1]

theorem law_calls (A0 : Option Addr) (c0 : Nat) (l0 : List Int) (a1 a2 a3 : Int) (w : World) (hr0 : Kd.C (Kd.int .i64) w A0 l0.length l0) (hc0 : l0.length ≤ c0) :
    Calls Try.prog 4 #[.slice A0 l0.length c0, .int .i64 a1, .int .i64 a2, .int .i64 a3] w fun e w' => e = .returned (.bool true) ∧ Below w.heap.size w w' := by
  obtain ⟨tx, htx, -⟩ := txns l0 20 (by decide)
  obtain ⟨t, a, hS1, -, -⟩ := stamp a1
  obtain ⟨t2, b, hS2, -, -⟩ := stamp (a1 / 256)
  obtain ⟨lo, hlo⟩ : ∃ lo, (if Go.bits .and .i64 a3 15 < Go.bits .and .i64 a2 15 then Go.bits .and .i64 a3 15 else Go.bits .and .i64 a2 15) = lo := ⟨_, rfl⟩
  obtain ⟨hi, hhi⟩ : ∃ hi, (if Go.bits .and .i64 a2 15 < Go.bits .and .i64 a3 15 then Go.bits .and .i64 a3 15 else Go.bits .and .i64 a2 15) = hi := ⟨_, rfl⟩
  have hle : lo ≤ hi ∧ hi ≤ 15 := by
    have h2 := and15 a2
    have h3 := and15 a3
    rw [h2, h3] at hlo hhi
    rw [← hlo, ← hhi]
    split <;> split <;> omega
  have key : ∀ e1 e2 : Int, (∀ x L1 y L2, seesP t a e1 e2 0 lo tx true = (x, L1) → seesP t a e1 e2 0 hi tx true = (y, L2) →
      (x = true ∧ y = false → ¬ (e1 = 0 ∧ e2 = 0) ∧ lo < whenP e1 e2 tx ∧ whenP e1 e2 tx ≤ hi) ∧ (x = false ∧ y = true → lo < whenP t a tx ∧ whenP t a tx ≤ hi)) := by
    intro e1 e2 x L1 y L2 hx hy
    have h1 := seen t a e1 e2 lo tx (by omega)
    have h2 := seen t a e1 e2 hi tx (by omega)
    rw [hx] at h1
    rw [hy] at h2
    dsimp only at h1 h2
    constructor
    · rintro ⟨rfl, rfl⟩
      simp at h1 h2
      obtain ⟨h3, h4⟩ := h1
      have h5 := h2 (by omega)
      refine ⟨fun h => h5.1 h.1 h.2, ?_, h5.2⟩
      rcases h4 with h4 | h4
      · exact absurd h4.2 (h5.1 h4.1)
      · exact h4
    · rintro ⟨rfl, rfl⟩
      simp at h1 h2
      obtain ⟨h3, h4⟩ := h2
      refine ⟨?_, h3⟩
      rcases Int.lt_or_le lo (whenP t a tx) with h5 | h5
      · exact h5
      · obtain ⟨h6, h7⟩ := h1 h5
        rcases h4 with h4 | h4
        · exact absurd h4.2 (h6 h4.1)
        · omega
  cases h16 : (Go.bits .and .i64 (a1 / 65536) 1 == 0)
  · obtain ⟨⟨x, L1⟩, hx⟩ : ∃ r, seesP t a t2 b 0 lo tx true = r := ⟨_, rfl⟩
    obtain ⟨⟨y, L2⟩, hy⟩ : ∃ r, seesP t a t2 b 0 hi tx true = r := ⟨_, rfl⟩
    have k := key t2 b x L1 y L2 hx hy
    have hx' := (Sees_eq t a t2 b 0 lo tx).trans (congrArg some hx)
    have hy' := (Sees_eq t a t2 b 0 hi tx).trans (congrArg some hy)
    cases x <;> cases y
    · exact walk_FF A0 c0 l0 a1 a2 a3 w hr0 hc0 tx t a t2 b lo hi htx hS1 hS2 h16 hlo hhi L1 L2 hx' hy'
    · obtain ⟨k1, k2⟩ := k.2 ⟨rfl, rfl⟩
      exact walk_FT A0 c0 l0 a1 a2 a3 w hr0 hc0 tx t a t2 b lo hi htx hS1 hS2 h16 hlo hhi L1 L2 hx' hy' (by simpa using k1) (by simpa using k2)
    · obtain ⟨k0, k1, k2⟩ := k.1 ⟨rfl, rfl⟩
      by_cases ht : t2 = 0
      · exact walk_TF2 A0 c0 l0 a1 a2 a3 w hr0 hc0 tx t a t2 b lo hi htx hS1 hS2 h16 hlo hhi L1 L2 hx' hy' (by simpa using ht) (by simpa using fun h => k0 ⟨ht, h⟩) (by simpa using k1) (by simpa using k2)
      · exact walk_TF1 A0 c0 l0 a1 a2 a3 w hr0 hc0 tx t a t2 b lo hi htx hS1 hS2 h16 hlo hhi L1 L2 hx' hy' (by simpa using ht) (by simpa using k1) (by simpa using k2)
    · exact walk_TT A0 c0 l0 a1 a2 a3 w hr0 hc0 tx t a t2 b lo hi htx hS1 hS2 h16 hlo hhi L1 L2 hx' hy'
  · obtain ⟨⟨x, L1⟩, hx⟩ : ∃ r, seesP t a 0 0 0 lo tx true = r := ⟨_, rfl⟩
    obtain ⟨⟨y, L2⟩, hy⟩ : ∃ r, seesP t a 0 0 0 hi tx true = r := ⟨_, rfl⟩
    have k := key 0 0 x L1 y L2 hx hy
    have hx' := (Sees_eq t a 0 0 0 lo tx).trans (congrArg some hx)
    have hy' := (Sees_eq t a 0 0 0 hi tx).trans (congrArg some hy)
    cases x <;> cases y
    · exact walk_FFn A0 c0 l0 a1 a2 a3 w hr0 hc0 tx t a t2 b lo hi htx hS1 hS2 h16 hlo hhi L1 L2 hx' hy'
    · obtain ⟨k1, k2⟩ := k.2 ⟨rfl, rfl⟩
      exact walk_FTn A0 c0 l0 a1 a2 a3 w hr0 hc0 tx t a t2 b lo hi htx hS1 hS2 h16 hlo hhi L1 L2 hx' hy' (by simpa using k1) (by simpa using k2)
    · exact absurd ⟨rfl, rfl⟩ (k.1 ⟨rfl, rfl⟩).1
    · exact walk_TTn A0 c0 l0 a1 a2 a3 w hr0 hc0 tx t a t2 b lo hi htx hS1 hS2 h16 hlo hhi L1 L2 hx' hy'
end Go.Proofs.Ytoicmeagmeiiaaa.Later
