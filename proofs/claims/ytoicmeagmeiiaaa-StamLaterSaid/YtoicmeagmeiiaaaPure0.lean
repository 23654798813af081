import Derived.Test.YtoicmeagmeiiaaaGStamx6
namespace Go.Proofs.Ytoicmeagmeiiaaa.Pure
open Go.RowKit Go.Proofs.Ytoicmeagmeiiaaa.GStam Go.Proofs.YtoicmeagmeiiaaaW.PrintWords Go.Proofs.YtoicmeagmeiiaaaW.PrintLast

/-- A mask of the lowest bits of any number of 64 bits. -/
theorem and_mask (x : Int) (m : Int) (j : Nat) (hj : j ≤ 62) (hm : m = 2 ^ j - 1) : Go.bits .and .i64 x m = x % 2 ^ j := by
  subst hm
  show IntKind.i64.wrap ((BitVec.ofInt 64 x &&& BitVec.ofInt 64 (2 ^ j - 1)).toNat : Int) = _
  rw [BitVec.toNat_and, BitVec.toNat_ofInt, BitVec.toNat_ofInt]
  have hp : (0 : Int) < 2 ^ j := Int.pow_pos (by decide)
  have hle : (2 : Int) ^ j ≤ 2 ^ 62 := by exact_mod_cast Nat.pow_le_pow_right (by decide) hj
  have h1 : ((2 : Int) ^ j - 1) % ((2 ^ 64 : Nat) : Int) = 2 ^ j - 1 := Int.emod_eq_of_lt (by omega) (by have : ((2 ^ 64 : Nat) : Int) = 2 ^ 62 * 4 := by decide
                                                                                                         omega)
  have h2 : ((2 : Int) ^ j - 1).toNat = 2 ^ j - 1 := by
    have : ((2 : Int) ^ j - 1) = ((2 ^ j - 1 : Nat) : Int) := by
      have hq : 1 ≤ 2 ^ j := Nat.one_le_two_pow
      push_cast [hq]
      rfl
    rw [this, Int.toNat_natCast]
  rw [h1, h2, Nat.and_two_pow_sub_one_eq_mod]
  have h3 : (((x % ((2 ^ 64 : Nat) : Int)).toNat % 2 ^ j : Nat) : Int) = x % 2 ^ j := by
    have h64 : (0 : Int) ≤ x % ((2 ^ 64 : Nat) : Int) := Int.emod_nonneg _ (by decide)
    rw [Int.natCast_emod, Int.toNat_of_nonneg h64, Int.natCast_pow, Int.natCast_pow]
    have : (((2 : Nat) : Int) ^ 64) = ((2 : Nat) : Int) ^ j * ((2 : Nat) : Int) ^ (64 - j) := by rw [← Int.pow_add]; congr 1; omega
    rw [this]
    exact Int.emod_emod_of_dvd x (Int.dvd_mul_right _ _)
  rw [h3, IntKind.wrap_i64]
  have := Int.emod_nonneg x (b := 2 ^ j) (by omega)
  have := Int.emod_lt_of_pos x hp
  have : (2 : Int) ^ 62 = 4611686018427387904 := by decide
  omega
theorem and1 (x : Int) : Go.bits .and .i64 x 1 = x % 2 := and_mask x 1 1 (by decide) (by decide)
theorem and3 (x : Int) : Go.bits .and .i64 x 3 = x % 4 := and_mask x 3 2 (by decide) (by decide)
theorem and7 (x : Int) : Go.bits .and .i64 x 7 = x % 8 := and_mask x 7 3 (by decide) (by decide)
theorem and15 (x : Int) : Go.bits .and .i64 x 15 = x % 16 := and_mask x 15 4 (by decide) (by decide)

theorem awake_ok : colonnadelaw11_awake.f 20 = some true := by kernel_rfl

def holdP (t a at_ : Int) (l : List S38) : Bool × Bool :=
  if t = 0 then (decide (a ≤ at_), false)
  else if (stateOf t l).f1 = 2 then (decide ((stateOf t l).f3 ≤ at_), decide ((stateOf t l).f3 ≤ at_))
  else if (stateOf t l).f1 = 3 then (decide ((stateOf t l).f3 ≤ at_), false) else (false, false)
theorem holds_eq (t a at_ : Int) (l : List S38) : stam_holds.f t a at_ l = some (holdP t a at_ l) := by
  unfold stam_holds.f holdP stam_State.f
  by_cases h : t = 0
  · simp [h]
  · simp only [if_neg h, Option.bind_some]
    by_cases h2 : (stateOf t l).f1 = 2
    · simp only [if_pos h2]
      by_cases h3 : (stateOf t l).f3 ≤ at_ <;> simp [h2, h3]
    · simp only [if_neg h2]
      by_cases h4 : (stateOf t l).f1 = 3
      · simp only [if_pos h4]
        by_cases h3 : (stateOf t l).f3 ≤ at_ <;> simp [h4, h3]
      · simp [h4]

def srt (xs : List Int) : List Int := Go.Lib.compact (xs.mergeSort fun x y => decide (x ≤ y))
def begP (b1 b2 me at_ : Int) (l : List S38) (mine : Bool) : Bool × Bool := if b1 = me ∧ me ≠ 0 then (mine, false) else holdP b1 b2 at_ l
def endP (e1 e2 me at_ : Int) (l : List S38) (mine : Bool) : Bool × Bool := if e1 = 0 ∧ e2 = 0 then (false, false) else if e1 = me ∧ me ≠ 0 then (mine, false) else holdP e1 e2 at_ l
def seesP (b1 b2 e1 e2 me at_ : Int) (l : List S38) (mine : Bool) : Bool × List Int :=
  if (begP b1 b2 me at_ l mine).1 = true then
    (!(endP e1 e2 me at_ l mine).1, srt ((if (begP b1 b2 me at_ l mine).2 = true then [b1] else []) ++ (if (endP e1 e2 me at_ l mine).2 = true then [e1] else [])))
  else (false, [])

theorem j3_eq (k : Nat) (hk : 1 ≤ k) (out : List Int) (h2 h1 : Bool) (b1 b2 e1 e2 : Int) (hl : out.length ≤ 1) :
    stam_sees.j3 k out h2 h1 b1 b2 e1 e2 = some (!h1, srt (out ++ (if h2 = true then [e1] else []))) := by
  obtain ⟨k, rfl⟩ : ∃ m, k = m + 1 := ⟨k - 1, by omega⟩
  simp only [stam_sees.j3, slices_Sort_int_int.f, slices_Compact_int_int.f, srt]
  cases h2
  · rw [if_neg (by decide), if_pos (by omega)]
    simp
  · rw [if_pos rfl, if_pos (by omega), if_pos (by simp; omega)]
    simp
theorem j2_eq (k : Nat) (hk : 2 ≤ k) (me at_ : Int) (l : List S38) (mine : Bool) (out : List Int) (b1 b2 e1 e2 : Int) (hl : out.length ≤ 1) :
    stam_sees.j2 k me at_ l mine out b1 b2 e1 e2 = some (!(endP e1 e2 me at_ l mine).1, srt (out ++ (if (endP e1 e2 me at_ l mine).2 = true then [e1] else []))) := by
  obtain ⟨k, rfl⟩ : ∃ m, k = m + 1 := ⟨k - 1, by omega⟩
  simp only [stam_sees.j2, holds_eq, stam_Never.f, Option.bind_some]
  unfold endP
  by_cases h0 : e1 = 0 ∧ e2 = 0
  · rw [if_pos h0, if_pos (by simp [h0.1, h0.2]), j3_eq k (by omega) _ _ _ _ _ _ _ hl]
  · rw [if_neg h0, if_neg (by simpa using h0)]
    by_cases h1 : e1 = me
    · by_cases h2 : me = 0
      · rw [if_pos h1, if_pos h2, if_neg (by simp [h2]), j3_eq k (by omega) _ _ _ _ _ _ _ hl]
      · rw [if_pos h1, if_neg h2, if_pos ⟨h1, h2⟩, j3_eq k (by omega) _ _ _ _ _ _ _ hl]
    · rw [if_neg h1, if_neg (fun h => h1 h.1), j3_eq k (by omega) _ _ _ _ _ _ _ hl]
theorem srt_nil : srt [] = [] := by simp [srt, List.mergeSort_nil]; rfl
theorem sees_eq (k : Nat) (hk : 4 ≤ k) (b1 b2 e1 e2 me at_ : Int) (l : List S38) (mine : Bool) : stam_sees.f k b1 b2 e1 e2 me at_ l mine = some (seesP b1 b2 e1 e2 me at_ l mine) := by
  have hj1 : ∀ g h, stam_sees.j1 (k - 1) me at_ l mine [] g h b1 b2 e1 e2 = some (if g = true then (!(endP e1 e2 me at_ l mine).1, srt ((if h = true then [b1] else []) ++ (if (endP e1 e2 me at_ l mine).2 = true then [e1] else []))) else (false, [])) := by
    intro g h
    obtain ⟨m, hm⟩ : ∃ m, k - 1 = m + 1 := ⟨k - 2, by omega⟩
    rw [hm]
    simp only [stam_sees.j1]
    cases g
    · simp
    · cases h
      · simp only [if_true]
        rw [if_neg (by decide), j2_eq m (by omega) _ _ _ _ _ _ _ _ _ (by simp)]
        simp
      · simp only [if_true]
        rw [if_pos (by simp), j2_eq m (by omega) _ _ _ _ _ _ _ _ _ (by simp)]
        simp
  obtain ⟨m, hm⟩ : ∃ m, k = m + 1 := ⟨k - 1, by omega⟩
  subst hm
  simp only [Nat.add_sub_cancel] at hj1
  unfold stam_sees.f
  simp only [holds_eq, Option.bind_some, stam_sees.j0]
  unfold seesP begP
  by_cases h1 : b1 = me
  · by_cases h2 : me = 0
    · rw [if_pos h1, if_neg (by simp [h2]), hj1]
      simp [h2]
    · rw [if_pos h1, if_pos (by simpa using h2), hj1]
      simp [h1, h2]
  · rw [if_neg h1, if_neg (by decide), hj1]
    simp [h1]

theorem same_refl (l : List Int) (hl : l.length ≤ 4611686018427387904) : ∀ (d k : Nat) (i : Int), 0 ≤ i → i ≤ l.length → (l.length : Int) - i = d → d < k → colonnaderef1_SamePlaces.l0 k l l i = some true
  | 0, k, i, h0, h1, hd, hk => by
    obtain ⟨k, rfl⟩ : ∃ m, k = m + 1 := ⟨k - 1, by omega⟩
    simp only [colonnaderef1_SamePlaces.l0]
    rw [if_neg (by omega)]
  | d + 1, k, i, h0, h1, hd, hk => by
    obtain ⟨k, rfl⟩ : ∃ m, k = m + 1 := ⟨k - 1, by omega⟩
    simp only [colonnaderef1_SamePlaces.l0]
    rw [if_pos (by omega), if_pos h0, if_pos (by omega), if_pos trivial, show wrap64 (i + 1) = i + 1 by unfold wrap64; omega]
    exact same_refl l hl d k (i + 1) (by omega) (by omega) (by omega) (by omega)
theorem same_self (l : List Int) (k : Nat) (hl : l.length ≤ 4611686018427387904) (hk : l.length < k) : colonnaderef1_SamePlaces.f k l l = some true := by
  unfold colonnaderef1_SamePlaces.f
  rw [if_pos rfl]
  exact same_refl l hl l.length k 0 (by omega) (by omega) (by omega) hk

/-- All IDs of the transactions lie between 1 and 5. -/
def Ids (l : List S38) : Prop := ∀ x ∈ l, 1 ≤ x.f0 ∧ x.f0 ≤ 5
theorem txns_l (l0 : List Int) : ∀ (d k : Nat) (i : Int) (out : List S38), 0 ≤ i → i ≤ 5 → i ≤ l0.length → 5 - i = d → 2 * d + 2 ≤ k → out.length ≤ i → Ids out →
    ∃ r, colonnadelaw11_Txns.l0 k l0 out i = some r ∧ Ids r := by
  intro d
  induction d with
  | zero =>
    intro k i out h0 h5 hi hd hk ho hids
    obtain ⟨k, rfl⟩ : ∃ m, k = m + 2 := ⟨k - 2, by omega⟩
    refine ⟨out, ?_, hids⟩
    simp only [colonnadelaw11_Txns.l0, colonnadelaw11_Txns.j1]
    split
    · rw [show decide (i < 5) = false by simp; omega]; simp
    · simp
  | succ d ih =>
    intro k i out h0 h5 hi hd hk ho hids
    obtain ⟨k, rfl⟩ : ∃ m, k = m + 2 := ⟨k - 2, by omega⟩
    by_cases hlt : i < (l0.length : Int)
    · simp only [colonnadelaw11_Txns.l0, colonnadelaw11_Txns.j1]
      rw [if_pos hlt, show decide (i < 5) = true by simp; omega, if_pos rfl, if_pos h0, if_pos hlt, show wrap64 (i + 1) = i + 1 by unfold wrap64; omega]
      have hrest : ∀ x : S38, x.f0 = i + 1 → ∃ r, colonnadelaw11_Txns.l0 k l0 (out ++ [x]) (i + 1) = some r ∧ Ids r := fun x hx => ih k (i + 1) (out ++ [x]) (by omega) (by omega) (by omega) (by omega) (by omega) (by simp; omega) (by
        intro y hy
        rcases List.mem_append.1 hy with hy | hy
        · exact hids y hy
        · rw [List.mem_singleton.1 hy, hx]; omega)
      split
      · exact ih k (i + 1) out (by omega) (by omega) (by omega) (by omega) (by omega) (by omega) hids
      · split
        · rw [if_pos (by omega)]; exact hrest _ rfl
        · rw [if_pos (by omega)]; exact hrest _ rfl
    · refine ⟨out, ?_, hids⟩
      simp only [colonnadelaw11_Txns.l0, colonnadelaw11_Txns.j1]
      rw [if_neg hlt, if_neg (by decide)]
theorem txns (l0 : List Int) (k : Nat) (hk : 12 ≤ k) : ∃ r, colonnadelaw11_Txns.f k l0 = some r ∧ Ids r :=
  txns_l l0 5 k 0 [] (by omega) (by omega) (by omega) (by omega) (by omega) (by simp) (by intro x hx; cases hx)
theorem state_none {t : Int} {l : List S38} (h : Ids l) (ht : 5 < t ∨ t < 1) : stateOf t l = z38 := by
  unfold stateOf
  rw [List.find?_eq_none.2 (fun x hx => by have := h x hx; simp; omega)]
  rfl
theorem stamp (v : Int) : ∃ t a, colonnadelaw11_Stamp.f v = some (t, a) ∧ 0 ≤ t ∧ t ≤ 6 := by
  unfold colonnadelaw11_Stamp.f
  rw [and1, and7, and15]
  split
  · exact ⟨_, _, rfl, by omega, by omega⟩
  · refine ⟨_, _, rfl, ?_⟩
    have h := Int.tmod_eq_emod_of_nonneg (a := v / 2 % 8) (b := 6) (by omega)
    rw [h]
    unfold wrap64
    omega
end Go.Proofs.Ytoicmeagmeiiaaa.Pure
