import Derived.Test.YtlapahjdkikodaaGPex1
import Derived.Test.YtlapahjdkikodaaGPex2
import Derived.Test.YtlapahjdkikodaaGPex3
import Derived.Test.YtlapahjdkikodaaGPex4
namespace Go.Proofs.Ytlapahjdkikodaa.GPe
open Go.RowKit Go.Proofs.YtlapahjdkikodaaW.PrintWords Go.Proofs.YtlapahjdkikodaaW.PrintLast Go.Proofs.YtlapahjdkikodaaW.PrintMore
set_option linter.unusedVariables false
/-! The plain laws of PredOwn: what is made of a predicate is the same predicate. -/
theorem wrap_id {x : Int} (h0 : -1000000 ≤ x) (h1 : x ≤ 1000000) : wrap64 x = x := by unfold wrap64; omega
theorem and7_at (x : Int) : Go.bits .and .i64 x 7 = x % 8 := and_mask x 7 3 (by decide) (by decide)
theorem and3_at (x : Int) : Go.bits .and .i64 x 3 = x % 4 := and_mask x 3 2 (by decide) (by decide)
theorem and255_at (x : Int) : Go.bits .and .i64 x 255 = x % 256 := and_mask x 255 8 (by decide) (by decide)
/-- A predicate: so deep, of few. -/
def Bd : Nat → S35 → Prop
  | 0, _ => False
  | d + 1, p => p.f3.f3.length ≤ 3 ∧ p.f4.length ≤ 3 ∧ ∀ x ∈ p.f4, Bd d x
theorem Bd_up : ∀ (d : Nat) (p : S35), Bd d p → Bd (d + 1) p
  | 0, _, h => h.elim
  | d + 1, p, h => ⟨h.1, h.2.1, fun x hx => Bd_up d x (h.2.2 x hx)⟩
theorem Bd_le {d e : Nat} (hde : d ≤ e) {p : S35} (h : Bd d p) : Bd e p := by
  obtain ⟨j, rfl⟩ := Nat.exists_eq_add_of_le hde
  induction j with
  | zero => exact h
  | succ j ih => exact Bd_up _ p (ih (Nat.le_add_right _ _))
abbrev R8 : Type := Int × Int × Int × Bool × Int × Int × List Int × (List S35)
def mk8 (r : R8) : S35 := ⟨r.1, r.2.1, r.2.2.1, ⟨r.2.2.2.1, r.2.2.2.2.1, r.2.2.2.2.2.1, r.2.2.2.2.2.2.1⟩, r.2.2.2.2.2.2.2⟩
def un8 (p : S35) : R8 := (p.f0, p.f1, p.f2, p.f3.f0, p.f3.f1, p.f3.f2, p.f3.f3, p.f4)
theorem eta35 (p : S35) : (⟨p.f0, p.f1, p.f2, ⟨p.f3.f0, p.f3.f1, p.f3.f2, p.f3.f3⟩, p.f4⟩ : S35) = p := by cases p; rfl
theorem rd_at {xs : List S35} {i : Nat} (h : i < xs.length) : rd_T35 xs (i : Int) = xs[i] := by
  unfold rd_T35
  rw [Int.toNat_natCast, List.getD_eq_getElem?_getD, List.getElem?_eq_getElem h, Option.getD_some]
/-! ### Still -/
theorem still_loop (d : Nat) (ih : ∀ k, 6 * d ≤ k → ∀ p, Bd d p → pred_Still.f k p.f0 p.f1 p.f2 p.f3.f0 p.f3.f1 p.f3.f2 p.f3.f3 p.f4 = some (un8 p))
    (c0 c1 c2 : Int) (c3 : Bool) (c4 c5 : Int) (c6 : List Int) (c7 xs : List S35) (hx : ∀ x ∈ xs, Bd d x) (hl : xs.length ≤ 3) :
    ∀ (m : Nat) (k : Nat) (i : Nat), m = xs.length - i → i ≤ xs.length → 6 * d + m + 1 ≤ k → pred_Still.l0 k (xs.take i) xs (xs.length : Int) (i : Int) c0 c1 c2 c3 c4 c5 c6 c7 = some (c0, c1, c2, c3, c4, c5, c6, xs) := by
  intro m
  induction m with
  | zero =>
    intro k i hm hi hk
    obtain ⟨k, rfl⟩ : ∃ q, k = q + 1 := ⟨k - 1, by omega⟩
    simp only [pred_Still.l0]
    rw [if_neg (by omega), List.take_of_length_le (by omega)]
    rfl
  | succ m ihm =>
    intro k i hm hi hk
    obtain ⟨k, rfl⟩ : ∃ q, k = q + 1 := ⟨k - 1, by omega⟩
    have hlt : i < xs.length := by omega
    simp only [pred_Still.l0]
    rw [if_pos (by omega), if_pos (by omega), if_pos (by omega), rd_at hlt, ih k (by omega) xs[i] (hx _ (List.getElem_mem hlt))]
    simp only [Option.bind_some, un8]
    rw [if_pos (by rw [List.length_take]; omega), wrap_id (by omega) (by omega)]
    have he : List.take i xs ++ [xs[i]] = List.take (i + 1) xs := by rw [List.take_succ_eq_append_getElem hlt]
    have := ihm k (i + 1) (by omega) (by omega) (by omega)
    rw [← he] at this
    rw [eta35]
    exact this
theorem still_some (d : Nat) : ∀ k, 6 * d ≤ k → ∀ p, Bd d p → pred_Still.f k p.f0 p.f1 p.f2 p.f3.f0 p.f3.f1 p.f3.f2 p.f3.f3 p.f4 = some (un8 p) := by
  induction d with
  | zero => intro k _ p h; exact h.elim
  | succ d ih =>
    intro k hk p h
    obtain ⟨h1, h2, h3⟩ := h
    obtain ⟨k, rfl⟩ : ∃ q, k = q + 1 := ⟨k - 1, by omega⟩
    simp only [pred_Still.f, schm_Val.f, slices_Clone_byte_byte.f]
    rw [if_pos (by omega)]
    simp only [Option.bind_some]
    exact still_loop d ih _ _ _ _ _ _ _ _ p.f4 h3 h2 p.f4.length k 0 (by omega) (by omega) (by omega)
theorem stills_some {d k : Nat} (hk : 6 * d + 6 ≤ k) {l : List S35} (hl : l.length ≤ 3) (h : ∀ x ∈ l, Bd d x) : pred_still.f k l = some l := by
  have := still_some (d + 1) k (by omega) ⟨0, 0, 0, ⟨false, 0, 0, []⟩, l⟩ ⟨by simp, hl, h⟩
  unfold pred_still.f
  rw [this]
  rfl
theorem all_some {d k : Nat} (hk : 6 * d + 6 ≤ k) {l : List S35} (hl : l.length ≤ 3) (h : ∀ x ∈ l, Bd d x) : pred_All.f k l = some (4, 0, 0, false, 0, 0, [], l) := by
  unfold pred_All.f
  rw [stills_some hk hl h]
  rfl
theorem any_some {d k : Nat} (hk : 6 * d + 6 ≤ k) {l : List S35} (hl : l.length ≤ 3) (h : ∀ x ∈ l, Bd d x) : pred_Any.f k l = some (5, 0, 0, false, 0, 0, [], l) := by
  unfold pred_Any.f
  rw [stills_some hk hl h]
  rfl
/-! ### SamePred -/
def same8 (k : Nat) (p q : S35) : Option Bool := colonnaderef6_SamePred.f k p.f0 p.f1 p.f2 p.f3.f0 p.f3.f1 p.f3.f2 p.f3.f3 p.f4 q.f0 q.f1 q.f2 q.f3.f0 q.f3.f1 q.f3.f2 q.f3.f3 q.f4
theorem same_loop (d : Nat) (ih : ∀ k, 7 * d ≤ k → ∀ p, Bd d p → same8 k p p = some true)
    (c0 c1 c2 : Int) (c3 : Bool) (c4 c5 : Int) (c6 : List Int) (e0 e1 e2 : Int) (e3 : Bool) (e4 e5 : Int) (e6 : List Int) (xs : List S35) (hx : ∀ x ∈ xs, Bd d x) (hl : xs.length ≤ 3) :
    ∀ (m : Nat) (k : Nat) (i : Nat), m = xs.length - i → i ≤ xs.length → 7 * d + m + 1 ≤ k → colonnaderef6_SamePred.l0 k (i : Int) c0 c1 c2 c3 c4 c5 c6 xs e0 e1 e2 e3 e4 e5 e6 xs = some true := by
  intro m
  induction m with
  | zero =>
    intro k i hm hi hk
    obtain ⟨k, rfl⟩ : ∃ q, k = q + 1 := ⟨k - 1, by omega⟩
    simp only [colonnaderef6_SamePred.l0]
    rw [if_neg (by omega)]
  | succ m ihm =>
    intro k i hm hi hk
    obtain ⟨k, rfl⟩ : ∃ q, k = q + 1 := ⟨k - 1, by omega⟩
    have hlt : i < xs.length := by omega
    have hs := ih k (by omega) xs[i] (hx _ (List.getElem_mem hlt))
    unfold same8 at hs
    simp only [colonnaderef6_SamePred.l0]
    rw [if_pos (by omega), if_pos (by omega), if_pos (by omega), rd_at hlt, hs]
    simp only [Option.bind_some, if_true]
    rw [wrap_id (by omega) (by omega)]
    exact ihm k (i + 1) (by omega) (by omega) (by omega)
theorem same_some (d : Nat) : ∀ k, 7 * d ≤ k → ∀ p, Bd d p → same8 k p p = some true := by
  induction d with
  | zero => intro k _ p h; exact h.elim
  | succ d ih =>
    intro k hk p h
    obtain ⟨h1, h2, h3⟩ := h
    obtain ⟨k, rfl⟩ : ∃ q, k = q + 1 := ⟨k - 1, by omega⟩
    obtain ⟨k, rfl⟩ : ∃ q, k = q + 1 := ⟨k - 1, by omega⟩
    unfold same8
    simp only [colonnaderef6_SamePred.f, colonnaderef6_SameVal.f, if_true, beq_self_eq_true, Option.bind_some, bne_self_eq_false, colonnaderef6_SamePred.j0]
    rw [if_neg (by decide)]
    exact same_loop d ih _ _ _ _ _ _ _ _ _ _ _ _ _ _ p.f4 h3 h2 p.f4.length k 0 (by omega) (by omega) (by omega)
/-! ### Schema -/
theorem schema_loop (n : Int) : ∀ (m k : Nat) (i : Nat) (t : List S58), m = 5 - i → i ≤ 5 → m + 1 ≤ k → t ≠ [] → t.length ≤ i + 1 →
    ∃ t', colonnadelaw6_Schema.l0 k n [(⟨#[97]⟩ : ByteArray), (⟨#[98, 98]⟩ : ByteArray), (⟨#[99, 99, 99]⟩ : ByteArray), (⟨#[110, 117, 108, 108]⟩ : ByteArray), (⟨#[97, 110, 100]⟩ : ByteArray)] (i : Int) t = some t' ∧ t' ≠ [] := by
  intro m
  induction m with
  | zero =>
    intro k i t hm hi hk ht hl
    obtain ⟨k, rfl⟩ : ∃ q, k = q + 1 := ⟨k - 1, by omega⟩
    simp only [colonnadelaw6_Schema.l0]
    split
    · rw [if_neg (by omega)]
      exact ⟨t, rfl, ht⟩
    · exact ⟨t, rfl, ht⟩
  | succ m ihm =>
    intro k i t hm hi hk ht hl
    obtain ⟨k, rfl⟩ : ∃ q, k = q + 1 := ⟨k - 1, by omega⟩
    simp only [colonnadelaw6_Schema.l0]
    split
    · have e8 : IntKind.u64.wrap (wrap64 (8 + wrap64 (2 * (i : Int)))) = 8 + 2 * i := by
        rw [wrap_id (x := 2 * (i : Int)) (by omega) (by omega), wrap_id (by omega) (by omega), IntKind.wrap_u64]
        omega
      have e9 : IntKind.u64.wrap (wrap64 (9 + wrap64 (2 * (i : Int)))) = 9 + 2 * i := by
        rw [wrap_id (x := 2 * (i : Int)) (by omega) (by omega), wrap_id (by omega) (by omega), IntKind.wrap_u64]
        omega
      rw [if_pos (by omega), if_pos (by omega), if_pos (by simp; omega), e8, e9, if_pos (by omega), if_pos (by omega), if_pos (by omega), wrap_id (by omega) (by omega)]
      exact ihm k (i + 1) _ (by omega) (by omega) (by omega) (by simp) (by simp; omega)
    · exact ⟨t, rfl, ht⟩
theorem schema_some (n : Int) (k : Nat) (hk : 10 ≤ k) : ∃ t, colonnadelaw6_Schema.f k n = some t ∧ t ≠ [] :=
  schema_loop n 5 k 0 _ rfl (by omega) (by omega) (by simp) (by simp)
/-! ### Pred -/
theorem value_some (nm : ByteArray) (kd n : Int) : ∃ b c e f, colonnadelaw6_Value.f nm kd false n = some (b, c, e, f) ∧ f.length ≤ 3 := by
  unfold colonnadelaw6_Value.f
  rw [if_neg (by simp)]
  split
  · exact ⟨_, _, _, _, rfl, by simp⟩
  · refine ⟨_, _, _, _, rfl, ?_⟩
    unfold valBytes
    rw [List.length_take, and3_at]
    omega
theorem pred_loop (d : Nat) (t : List S58) (l : List Int) (a2 : Int) (h0 : 0 ≤ a2) (h1 : a2 ≤ 1000) (hd : d ≤ 3)
    (ih : ∀ k, 12 * d ≤ k → ∀ b, 0 ≤ b → b ≤ 3 * a2 + 3 → ∃ r, colonnadelaw7_Pred.f k t l b (d : Int) = some r ∧ Bd d (mk8 r)) (x9 : Int) (c0 c1 c2 : Int) (c3 : Bool) (c4 c5 : Int) :
    ∀ (m k : Nat) (i : Nat) (xs : List S35), m = 3 - i → i ≤ 3 → 12 * d + m + 1 ≤ k → xs.length ≤ i → (∀ x ∈ xs, Bd d x) →
      ∃ ys, colonnadelaw7_Pred.l0 k l a2 ((d : Int) + 1) x9 (i : Int) t c0 c1 c2 c3 c4 c5 xs = some (c0, c1, c2, c3, c4, c5, [], ys) ∧ ys.length ≤ 3 ∧ ∀ x ∈ ys, Bd d x := by
  intro m
  induction m with
  | zero =>
    intro k i xs hm hi hk hl hx
    obtain ⟨k, rfl⟩ : ∃ q, k = q + 1 := ⟨k - 1, by omega⟩
    simp only [colonnadelaw7_Pred.l0]
    rw [and3_at, if_neg (by omega)]
    exact ⟨xs, rfl, by omega, hx⟩
  | succ m ihm =>
    intro k i xs hm hi hk hl hx
    obtain ⟨k, rfl⟩ : ∃ q, k = q + 1 := ⟨k - 1, by omega⟩
    simp only [colonnadelaw7_Pred.l0]
    rw [and3_at]
    split
    · rw [wrap_id (x := 3 * a2) (by omega) (by omega), wrap_id (x := 3 * a2 + i) (by omega) (by omega), wrap_id (x := 3 * a2 + i + 1) (by omega) (by omega), wrap_id (x := (d : Int) + 1 - 1) (by omega) (by omega)]
      obtain ⟨r, hr, hb⟩ := ih k (by omega) (3 * a2 + i + 1) (by omega) (by omega)
      rw [show (d : Int) + 1 - 1 = (d : Int) by omega, hr]
      simp only [Option.bind_some]
      rw [if_pos (by omega), wrap_id (x := (i : Int) + 1) (by omega) (by omega)]
      refine ihm k (i + 1) _ (by omega) (by omega) (by omega) (by simp; omega) ?_
      intro x hxx
      rcases List.mem_append.1 hxx with h | h
      · exact hx x h
      · simp only [List.mem_singleton] at h
        subst h
        exact hb
    · exact ⟨xs, rfl, by omega, hx⟩
theorem pred_j3 (d : Nat) (t : List S58) (ht : t ≠ []) (l : List Int) (a2 : Int) (h0 : 0 ≤ a2) (h1 : a2 ≤ 1000) (hd : d ≤ 3)
    (ih : 1 ≤ d → ∀ k, 12 * d ≤ k → ∀ b, 0 ≤ b → b ≤ 3 * a2 + 3 → ∃ r, colonnadelaw7_Pred.f k t l b (d : Int) = some r ∧ Bd d (mk8 r)) (x9 k4 : Int) (k : Nat) (hk : 12 * d + 6 ≤ k) (hk4 : 4 < k4 → 1 ≤ d) (hk0 : 0 ≤ k4) (hk7 : k4 ≤ 7) (b : Bool) (hb : b = true → 4 < k4) :
    ∃ r, colonnadelaw7_Pred.j3 k l a2 ((d : Int) + 1) x9 k4 (Int.tmod (Go.bits .and .i64 (x9 / 8) 255) (t.length : Int)) k4 b t = some r ∧ Bd (d + 1) (mk8 r) := by
  obtain ⟨k, rfl⟩ : ∃ q, k = q + 1 := ⟨k - 1, by omega⟩
  simp only [colonnadelaw7_Pred.j3]
  have hlen : 0 < t.length := List.length_pos_iff.2 ht
  split
  · rename_i hb1
    have h1d := hk4 (hb hb1)
    obtain ⟨ys, hy, hyl, hyb⟩ := pred_loop d t l a2 h0 h1 hd (ih h1d) x9 (wrap64 (wrap64 (4 + k4) - 5)) 0 0 false 0 0 3 k 0 [] (by omega) (by omega) (by omega) (by simp) (by simp)
    exact ⟨_, hy, by simp [mk8], hyl, hyb⟩
  · split
    · rename_i h7
      have h1d := hk4 (by omega)
      rw [wrap_id (x := 3 * a2) (by omega) (by omega), wrap_id (x := 3 * a2 + 1) (by omega) (by omega), wrap_id (x := (d : Int) + 1 - 1) (by omega) (by omega)]
      obtain ⟨r, hr, hb⟩ := ih h1d k (by omega) (3 * a2 + 1) (by omega) (by omega)
      rw [show (d : Int) + 1 - 1 = (d : Int) by omega, hr]
      exact ⟨_, rfl, by simp [mk8], by simp [mk8], fun x hx => by simp only [mk8, List.mem_singleton] at hx; subst hx; exact hb⟩
    · rw [and255_at]
      have hm0 : 0 ≤ x9 / 8 % 256 := Int.emod_nonneg _ (by decide)
      have hr0 : 0 ≤ Int.tmod (x9 / 8 % 256) (t.length : Int) := Int.tmod_nonneg _ hm0
      have hr1 : Int.tmod (x9 / 8 % 256) (t.length : Int) < t.length := Int.tmod_lt_of_pos _ (by omega)
      rw [if_pos hr0, if_pos hr1]
      obtain ⟨b1, c1, e1, f1, hv, hf⟩ := value_some (rd_T58 t (Int.tmod (x9 / 8 % 256) (t.length : Int))).f0 (rd_T58 t (Int.tmod (x9 / 8 % 256) (t.length : Int))).f1 (x9 / 2048)
      rw [hv]
      simp only [Option.bind_some]
      split
      · exact ⟨_, rfl, by simp [mk8], by simp [mk8], by simp [mk8]⟩
      · exact ⟨_, rfl, by simpa [mk8] using hf, by simp [mk8], by simp [mk8]⟩
theorem pred_j2 (d : Nat) (t : List S58) (ht : t ≠ []) (l : List Int) (a2 : Int) (h0 : 0 ≤ a2) (h1 : a2 ≤ 1000) (hd : d ≤ 3)
    (ih : 1 ≤ d → ∀ k, 12 * d ≤ k → ∀ b, 0 ≤ b → b ≤ 3 * a2 + 3 → ∃ r, colonnadelaw7_Pred.f k t l b (d : Int) = some r ∧ Bd d (mk8 r)) (x9 k4 : Int) (k : Nat) (hk : 12 * d + 7 ≤ k) (hk4 : 4 < k4 → 1 ≤ d) (hk0 : 0 ≤ k4) (hk7 : k4 ≤ 7) :
    ∃ r, colonnadelaw7_Pred.j2 k l a2 ((d : Int) + 1) x9 k4 t = some r ∧ Bd (d + 1) (mk8 r) := by
  obtain ⟨k, rfl⟩ : ∃ q, k = q + 1 := ⟨k - 1, by omega⟩
  have hlen : 0 < t.length := List.length_pos_iff.2 ht
  simp only [colonnadelaw7_Pred.j2]
  rw [if_neg (by omega)]
  split
  · exact ⟨_, rfl, by simp [mk8], by simp [mk8], by simp [mk8]⟩
  · split
    · exact ⟨_, rfl, by simp [mk8], by simp [mk8], by simp [mk8]⟩
    · split
      · rename_i h5
        exact pred_j3 d t ht l a2 h0 h1 hd ih x9 k4 k (by omega) hk4 hk0 hk7 _ (fun h => by have := beq_iff_eq.1 h; omega)
      · exact pred_j3 d t ht l a2 h0 h1 hd ih x9 k4 k (by omega) hk4 hk0 hk7 _ (fun h => by have := beq_iff_eq.1 h; omega)
theorem pred_j0 (d : Nat) (t : List S58) (ht : t ≠ []) (l : List Int) (a2 : Int) (h0 : 0 ≤ a2) (h1 : a2 ≤ 1000) (hd : d ≤ 3)
    (ih : 1 ≤ d → ∀ k, 12 * d ≤ k → ∀ b, 0 ≤ b → b ≤ 3 * a2 + 3 → ∃ r, colonnadelaw7_Pred.f k t l b (d : Int) = some r ∧ Bd d (mk8 r)) (x9 : Int) (k : Nat) (hk : 12 * d + 9 ≤ k) :
    ∃ r, colonnadelaw7_Pred.j0 k l a2 ((d : Int) + 1) x9 t = some r ∧ Bd (d + 1) (mk8 r) := by
  obtain ⟨k, rfl⟩ : ∃ q, k = q + 1 := ⟨k - 1, by omega⟩
  obtain ⟨k, rfl⟩ : ∃ q, k = q + 1 := ⟨k - 1, by omega⟩
  have hm0 : 0 ≤ x9 % 8 := Int.emod_nonneg _ (by decide)
  have hm1 : x9 % 8 < 8 := Int.emod_lt_of_pos _ (by decide)
  simp only [colonnadelaw7_Pred.j0, colonnadelaw7_Pred.j1, and7_at]
  split
  · split
    · rename_i hgt
      have := of_decide_eq_true hgt
      rw [wrap_id (by omega) (by omega)]
      exact pred_j2 d t ht l a2 h0 h1 hd ih x9 (x9 % 8 - 4) k (by omega) (by omega) (by omega) (by omega)
    · rename_i hgt
      have : ¬ x9 % 8 > 4 := fun h => hgt (decide_eq_true h)
      exact pred_j2 d t ht l a2 h0 h1 hd ih x9 (x9 % 8) k (by omega) (by omega) (by omega) (by omega)
  · rw [if_neg (by decide)]
    exact pred_j2 d t ht l a2 h0 h1 hd ih x9 (x9 % 8) k (by omega) (by omega) (by omega) (by omega)
theorem pred_some (t : List S58) (ht : t ≠ []) (l : List Int) : ∀ (d : Nat), d ≤ 3 → ∀ k, 12 * (d + 1) ≤ k → ∀ a2, 0 ≤ a2 → (a2 + 2) * 4 ^ d ≤ 1000 → ∃ r, colonnadelaw7_Pred.f k t l a2 ((d : Int) + 1) = some r ∧ Bd (d + 1) (mk8 r) := by
  intro d
  induction d with
  | zero =>
    intro hd k hk a2 h0 h1
    obtain ⟨k, rfl⟩ : ∃ q, k = q + 1 := ⟨k - 1, by omega⟩
    have hb : a2 ≤ 1000 := by omega
    have key : ∀ x9, ∃ r, colonnadelaw7_Pred.j0 k l a2 (((0 : Nat) : Int) + 1) x9 t = some r ∧ Bd (0 + 1) (mk8 r) := fun x9 => pred_j0 0 t ht l a2 h0 hb (by omega) (fun h => by omega) x9 k (by omega)
    simp only [colonnadelaw7_Pred.f]
    split
    · first | exact key _ | (rw [if_pos h0]; exact key _)
    · exact key _
  | succ d ih =>
    intro hd k hk a2 h0 h1
    obtain ⟨k, rfl⟩ : ∃ q, k = q + 1 := ⟨k - 1, by omega⟩
    have hp : (1 : Int) ≤ 4 ^ d := by have h4 : (0 : Int) < 4 ^ d := Int.pow_pos (by decide); omega
    have he : (a2 + 2) * 4 ^ (d + 1) = 4 * ((a2 + 2) * 4 ^ d) := by rw [Int.pow_succ, ← Int.mul_assoc, Int.mul_comm]
    have hb : a2 ≤ 1000 := by
      have : (a2 + 2) * 1 ≤ (a2 + 2) * 4 ^ d := Int.mul_le_mul_of_nonneg_left hp (by omega)
      omega
    have key : ∀ x9, ∃ r, colonnadelaw7_Pred.j0 k l a2 (((d + 1 : Nat) : Int) + 1) x9 t = some r ∧ Bd (d + 1 + 1) (mk8 r) := fun x9 => by
      refine pred_j0 (d + 1) t ht l a2 h0 hb (by omega) (fun _ k' hk' b hb0 hb1 => ?_) x9 k (by omega)
      refine ih (by omega) k' (by omega) b hb0 ?_
      have h2 : (b + 2) * 4 ^ d ≤ (4 * (a2 + 2)) * 4 ^ d := Int.mul_le_mul_of_nonneg_right (by omega) (by omega)
      rw [Int.mul_assoc] at h2
      omega
    simp only [colonnadelaw7_Pred.f]
    split
    · first | exact key _ | (rw [if_pos h0]; exact key _)
    · exact key _
end Go.Proofs.Ytlapahjdkikodaa.GPe
