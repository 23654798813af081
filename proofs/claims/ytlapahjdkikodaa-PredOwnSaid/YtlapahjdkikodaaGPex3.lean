-- Written by a program of this claim (wip/tools) out of the translation.
import Derived.Test.YtlapahjdkikodaaGPex0
namespace Go.Proofs.Ytlapahjdkikodaa.GPe
open Go.RowKit Go.Proofs.YtlapahjdkikodaaW.PrintWords Go.Proofs.YtlapahjdkikodaaW.PrintLast Go.Proofs.YtlapahjdkikodaaW.PrintMore Go.Proofs.Ytlapahjdkikodaa.Cells
attribute [local go_sem] max2_int min2_int max_two min_two max_three min_three max_four min_four   -- for this text's walks alone
set_option linter.unusedVariables false
set_option linter.unusedSimpArgs false

/-! ### slices_Clone_byte_byte: function 80 -/
def slices_Clone_byte_byte.f (l0 : List Int) : Option (List Int) := if l0.length < 140737488355328 then some l0 else none
set_option maxHeartbeats 1000000 in
set_option maxRecDepth 100000 in
theorem slices_Clone_byte_byte.calls (A0 : Option Addr) (c0 : Nat) (l0 : List Int) (r : List Int) (w : World) (hr0 : Kd.C (Kd.int .u8) w A0 l0.length l0) (hc0 : l0.length ≤ c0) (h : slices_Clone_byte_byte.f l0 = some r) :
  Calls Try.prog 80 #[.slice A0 l0.length c0] w fun e w' => ∃ v0_ : Value, e = .returned (v0_) ∧ Kd.R (Kd.int .u8) 5 w' w.heap.size (fun _ => True) v0_ r ∧ Below w.heap.size w w' := by
 unfold slices_Clone_byte_byte.f at h
 split at h
 case isFalse => cases h
 rename_i hlen
 obtain rfl := Option.some.inj h
 clear h
 have HR := Aside0.mk hr0
 clear hr0
 have hnil := fun (w : World) (a : Option Addr) (n c : Nat) => Go.Lib.run_eql_slice_nil (P := Try.prog) w 30 5 a n c 0 0 Try.underlying30
 cases A0 with
 | none =>
  have h0 : l0.length = 0 := by
   rcases Nat.eq_zero_or_pos l0.length with h | h
   ·
    exact h
   ·
    obtain ⟨ad, e, _⟩ := HR.out.2.2 h
    cases e
  have hl0 : l0 = [] := List.eq_nil_of_length_eq_zero h0
  clear h0 hlen
  subst hl0
  go_enter Try.func80, Try.ntmps80
  go_wp2
  go_ret
  exact ⟨_, rfl, Kd.R_nil _ _ _ _ _, Below.refl _ _⟩
 | some ad =>
  have HE := Aside0.mk (Kd.R_of_own (own_lit w w.heap.size 5 .u8 [] (Nat.le_refl _) (by simp)) (ok := fun _ => True) (fun _ _ => trivial) : (Kd.int .u8).R 5 (w.alloc (.cells (nums .u8 []).toArray 5)) w.heap.size (fun _ => True) (.slice (some ⟨w.heap.size, 0, none⟩) 0 0) [])
  have HC2 := Aside0.mk (Kd.C_below HR.out ((Below.refl _ w).alloc (Nat.le_refl _) (.cells (nums .u8 []).toArray 5)))
  have HB2 := Aside0.mk ((Below.refl _ w).alloc (Nat.le_refl _) (.cells (nums .u8 []).toArray 5))
  have hlen' := Aside0.mk hlen
  clear hlen
  go_enter Try.func80, Try.ntmps80
  go_wp2_with (at_builtin; refine Kd.R_append_row (Value.int .u8) 0 (h1 := fun _ => rfl) (w0 := w) w.heap.size rfl (.tmp 5) (.tmp 6) 30 5 (.int .u8 0) 1 rfl Try.underlying30 (by kernel_rfl) rfl (by decide) (.slice (some ⟨w.heap.size, 0, none⟩) 0 0) [] l0 (some ad) l0.length c0 (fun _ => True) rfl rfl (fun _ _ => trivial) HE.out HC2.out HB2.out (by simp) (by have := hlen'.out; simp; omega) ?_; intro v1 w1 hR1 hb1 hg1 hat1; have HR1 := Aside0.mk hR1; have HB1 := Aside0.mk hb1; clear hR1 hb1 hg1 hat1)
  go_ret
  exact ⟨_, rfl, HR1.out, HB1.out⟩

/-! ### schm_Val: function 71 -/
def schm_Val.f (a0_0 : Bool) (a0_1 : Int) (a0_2 : Int) (l0_3 : List Int) : Option (Bool × Int × Int × List Int) := (slices_Clone_byte_byte.f l0_3).bind fun t158 => (some (a0_0, a0_1, a0_2, t158))
set_option maxHeartbeats 8000000 in
set_option maxRecDepth 100000 in
theorem schm_Val.calls (a0_0 : Bool) (a0_1 : Int) (a0_2 : Int) (A0_3 : Option Addr) (c0_3 : Nat) (l0_3 : List Int) (r1 : Bool) (r2 : Int) (r3 : Int) (r4 : List Int) (w : World) (hr0_3 : Kd.C (Kd.int .u8) w A0_3 l0_3.length l0_3) (hc0_3 : l0_3.length ≤ c0_3) (h : schm_Val.f a0_0 a0_1 a0_2 l0_3 = some (r1, r2, r3, r4)) :
  Calls Try.prog 71 #[.agg #[.bool a0_0, .int .i64 a0_1, .int .i64 a0_2, .slice A0_3 l0_3.length c0_3]] w fun e w' => ∃ v3_ : Value, e = .returned (.agg #[.bool r1, .int .i64 r2, .int .i64 r3, v3_]) ∧ Kd.R (Kd.int .u8) 5 w' w.heap.size (fun _ => True) v3_ r4 ∧ Below w.heap.size w w' := by
 have hu32 := Try.underlying32
 have HR0_3 := Aside0.mk hr0_3
 have HC0_3 := Aside0.mk hc0_3
 clear hr0_3 hc0_3
 have HB := Aside0.mk (Below.refl w.heap.size w)
 have H : ((slices_Clone_byte_byte.f l0_3).bind fun t158 => (some (a0_0, a0_1, a0_2, t158))) = some (r1, r2, r3, r4) := h
 clear h
 replace H := Option.bind_eq_some_iff.mp H
 obtain ⟨t158, A20, H⟩ := H
 replace H : (some (a0_0, a0_1, a0_2, t158)) = some (r1, r2, r3, r4) := H
 have A2 := Aside0.mk A20
 clear A20
 simp only [Option.some.injEq, Prod.mk.injEq] at H
 obtain ⟨rfl, rfl, rfl, rfl⟩ := H
 go_enter Try.func71, Try.ntmps71
 go_wp2_with (first | ((with_reducible refine gate_dst (N := 1) rfl ?_); refine box_event ?hg (N := 1) ?hd (cs := #[.bool a0_0, .int .i64 a0_1, .int .i64 a0_2, .slice A0_3 l0_3.length c0_3]) (t := 32) ?hr ?_; (case hd => rfl); (case hg => rfl); (case hr => first | (go_simp; done) | (go_simp; rfl)); intro gb156 hg w3 hbox hb; have BK156 := Aside0.mk (hbox); have GW156 := Aside0.mk ((by rw [hg]; exact (below_size HB.out) : w.heap.size ≤ gb156)); have GE156 := Aside0.mk ((by rw [hg]; exact (below_size HB.out) : w.heap.size ≤ gb156)); replace HB := Aside0.mk (below_step HB.out hb); clear hb hbox hg) | ((with_reducible refine gate_dst (N := 2) rfl ?_); refine box_event ?hg (N := 2) ?hd (cs := #[.bool false, .int .i64 0, .int .i64 0, .slice none 0 0]) (t := 32) ?hr ?_; (case hd => rfl); (case hg => rfl); (case hr => first | (go_simp; done) | (go_simp; rfl)); intro gb157 hg w4 hbox hb; have BK157 := Aside0.mk (hbox); have GW157 := Aside0.mk ((by rw [hg]; exact (below_size HB.out) : w.heap.size ≤ gb157)); have GE157 := Aside0.mk ((by rw [hg]; exact (below_size HB.out) : w.heap.size ≤ gb157)); replace HB := Aside0.mk (below_step HB.out hb); have NB156_157 := Aside0.mk ((by rw [hg]; exact Nat.ne_of_lt (blk_lt BK156.out) : gb156 ≠ gb157)); have NB157_156 := Aside0.mk ((by rw [hg]; exact Nat.ne_of_gt (blk_lt BK156.out) : gb157 ≠ gb156)); replace BK156 := Aside0.mk (blk_below BK156.out hb); clear hb hbox hg; have hnb5 := NB156_157.out; have hnc5 := NB157_156.out; obtain ⟨hcz6_0, hcz6_1, hcz6_2, hcz6_3⟩ := cells4 BK156.out; obtain ⟨hfz6_0, hfz6_1, hfz6_2, hfz6_3⟩ := frozen4 BK156.out) | ((with_reducible refine gate_callee (f := 80) rfl ?_); refine goesL_ (some 5) rfl rfl Try.func80 (by kernel_rfl) rfl #[.slice A0_3 l0_3.length c0_3] rfl (by (try simp only [List.map_toArray, List.map_cons, List.map_nil]); first | done | rfl | (simp only [List.length_drop, List.length_take]; rfl)) ?_; (with_reducible refine (slices_Clone_byte_byte.calls _ _ l0_3 t158 _ ?side1 ?side2 A2.out).mono ?_); (case side1 => exact (Kd.C_below HR0_3.out HB.out)); (case side2 => exact HC0_3.out); rintro e w7 ⟨v159, rfl, ho0, hb⟩; refine ⟨_, rfl, ?_⟩; have HO160 := Aside0.mk (Kd.R_lower ho0 (below_size HB.out)); replace BK156 := Aside0.mk (blk_below BK156.out hb); replace BK157 := Aside0.mk (blk_below BK157.out hb); replace HB := Aside0.mk (below_step HB.out hb); (try clear hb); (try clear hb2); (try clear hk); (try clear hi); (try clear ho0); obtain ⟨Ao8, co8, eo8⟩ := Kd.R_slice HO160.out; subst eo8; obtain ⟨hcz9_0, hcz9_1, hcz9_2, hcz9_3⟩ := cells4 BK156.out; obtain ⟨hfz9_0, hfz9_1, hfz9_2, hfz9_3⟩ := frozen4 BK156.out; obtain ⟨hcz10_0, hcz10_1, hcz10_2, hcz10_3⟩ := cells4 BK157.out; obtain ⟨hfz10_0, hfz10_1, hfz10_2, hfz10_3⟩ := frozen4 BK157.out))
 refine bodyPost_ret (results_cell_row rfl _ _ gb157 32 #[.bool a0_0, .int .i64 a0_1, .int .i64 a0_2, .slice Ao8 t158.length co8] (0, 0) _ rfl (by (with_reducible repeat (first | refine blk_drewN ?_ _ | refine blk_drew ?_ | refine blk_alloc ?_ _)); apply blk_all4; (with_reducible repeat (first | refine blk_drewN ?_ _ | refine blk_drew ?_ | refine blk_alloc ?_ _)); refine blk_far ?_ NB157_156.out _; (with_reducible repeat (first | refine blk_drewN ?_ _ | refine blk_drew ?_ | refine blk_alloc ?_ _)); exact BK157.out) Try.underlying32 rfl (by kernel_rfl)) rfl ?_
 exact ⟨_, by first | rfl | (simp [errW_none, errW_some] <;> rfl) | (simp [*, errW_none, errW_some] <;> rfl), by (with_reducible repeat (first | apply Kd.R_alloc | apply Kd.R_drewN | apply Kd.R_drew)); exact Kd.R_mono (Kd.R_far (p := ⟨gb157, 3, none⟩) (Kd.R_far (p := ⟨gb157, 2, none⟩) (Kd.R_far (p := ⟨gb157, 1, none⟩) (Kd.R_far (p := ⟨gb157, 0, none⟩) (Kd.R_far (p := ⟨gb156, 3, none⟩) (Kd.R_types (Kd.R_types HO160.out BK156.out (by decide)) BK157.out (by decide)) (fun _ hk => hk.1.2) (.slice Ao8 t158.length co8)) (fun _ hk => hk.2) (.bool a0_0)) (fun _ hk => hk.2) (.int .i64 a0_1)) (fun _ hk => hk.2) (.int .i64 a0_2)) (fun _ hk => hk.2) (.slice Ao8 t158.length co8)) (fun _ hk => trivial), by repeat (first | (with_reducible first | exact HB.out | apply below_alloc | apply pw_below_drewN | apply below_drew1 | refine below_set ?_ GE156.out | refine below_set ?_ GE157.out) | exact HB.out)⟩

/-! ### slices_Clip_Pred: function 72 -/
def slices_Clip_Pred.f (l0 : List S35) : Option (List S35) := some l0
set_option maxHeartbeats 1000000 in
set_option maxRecDepth 100000 in
theorem slices_Clip_Pred.calls (P0_ : Nat → Prop) (A0 : Option Addr) (c0 : Nat) (l0 : List S35) (r : List S35) (w : World) (hs0 : Kd.V k35 35 w w.heap.size (fun k_ => P0_ k_) (.slice A0 l0.length c0) l0) (h : slices_Clip_Pred.f l0 = some r) :
  Calls Try.prog 72 #[.slice A0 l0.length c0] w fun e w' => ∃ v0_ : Value, e = .returned (v0_) ∧ Kd.V k35 35 w' w.heap.size (fun k_ => (P0_ k_ ∨ w.heap.size ≤ k_)) v0_ r ∧ Below w.heap.size w w' := by
 obtain rfl := Option.some.inj h
 obtain ⟨_, hlc, hF⟩ := Kd.V_at hs0
 have hm : l0.length ≤ 9223372036854775807 := (Kd.F_now hF).2.1
 have HF := Aside0.mk hF
 clear h hs0 hF
 go_enter Try.func72, Try.ntmps72
 go_wp2
 go_ret
 exact ⟨_, rfl, Kd.V_mk (Nat.le_refl _) (Kd.F_mono HF.out (fun _ hk => .inl hk)), Below.refl _ _⟩

/-! ### pred_Still: function 58 -/
mutual
def pred_Still.l0 : Nat → List (S35) → List (S35) → Int → Int → Int → Int → Int → Bool → Int → Int → List Int → List (S35) → Option (Int × Int × Int × Bool × Int × Int × List Int × (List (S35)))
  | 0, _, _, _, _, _, _, _, _, _, _, _, _ => none
  | k + 1, x3, x11, x12, x13, x162000, x162001, x162002, x162003, x162004, x162005, x162006, x162007 => if x13 < x12 then (if 0 ≤ x13 then (if x13 < (x11.length : Int) then ((pred_Still.f k ((rd_T35 x11 x13).f0) ((rd_T35 x11 x13).f1) ((rd_T35 x11 x13).f2) ((rd_T35 x11 x13).f3.f0) ((rd_T35 x11 x13).f3.f1) ((rd_T35 x11 x13).f3.f2) ((rd_T35 x11 x13).f3.f3) ((rd_T35 x11 x13).f4)).bind fun bt171 => (if x3.length < 1466015503701 then (pred_Still.l0 k (x3 ++ [(⟨bt171.1, bt171.2.1, bt171.2.2.1, (⟨bt171.2.2.2.1, bt171.2.2.2.2.1, bt171.2.2.2.2.2.1, bt171.2.2.2.2.2.2.1⟩ : S32), bt171.2.2.2.2.2.2.2⟩ : S35)]) x11 x12 (wrap64 (x13 + 1)) x162000 x162001 x162002 x162003 x162004 x162005 x162006 x162007) else (none))) else (none)) else (none)) else ((slices_Clip_Pred.f x3).bind fun t186 => (some (x162000, x162001, x162002, x162003, x162004, x162005, x162006, t186)))
def pred_Still.f : Nat → Int → Int → Int → Bool → Int → Int → List Int → List (S35) → Option (Int × Int × Int × Bool × Int × Int × List Int × (List (S35)))
  | 0, _, _, _, _, _, _, _, _ => none
  | k + 1, a0_0, a0_1, a0_2, a0_3, a0_4, a0_5, l0_6, l0_7 => (schm_Val.f a0_3 a0_4 a0_5 l0_6).bind fun bt163 => (pred_Still.l0 k ([] : List (S35)) l0_7 (l0_7.length : Int) 0 a0_0 a0_1 a0_2 bt163.1 bt163.2.1 bt163.2.2.1 bt163.2.2.2 l0_7)
end

/-! ### pred_still: function 41 -/
def pred_still.f (k : Nat) (l0 : List (S35)) : Option ((List (S35))) := (pred_Still.f k 0 0 0 false 0 0 ([] : List Int) l0).bind fun bt189 => (some bt189.2.2.2.2.2.2.2)

/-! ### pred_All: function 16 -/
def pred_All.f (k : Nat) (l0 : List (S35)) : Option (Int × Int × Int × Bool × Int × Int × List Int × (List (S35))) := (pred_still.f k l0).bind fun t202 => (some (4, 0, 0, false, 0, 0, ([] : List Int), t202))

/-! ### pred_Any: function 17 -/
def pred_Any.f (k : Nat) (l0 : List (S35)) : Option (Int × Int × Int × Bool × Int × Int × List Int × (List (S35))) := (pred_still.f k l0).bind fun t206 => (some (5, 0, 0, false, 0, 0, ([] : List Int), t206))

/-! ### colonnaderef6_SameVal: function 42 -/
def colonnaderef6_SameVal.f (a0_0 : Bool) (a0_1 : Int) (a0_2 : Int) (l0_3 : List Int) (a1_0 : Bool) (a1_1 : Int) (a1_2 : Int) (l1_3 : List Int) : Option (Bool) := if (a0_0 == a1_0) = true then (if a0_1 = a1_1 then (if a0_2 = a1_2 then (some ((strOfNums l0_3).toList == (strOfNums l1_3).toList)) else (some false)) else (some false)) else (some false)
set_option maxHeartbeats 8000000 in
set_option maxRecDepth 100000 in
theorem colonnaderef6_SameVal.calls (a0_0 : Bool) (a0_1 : Int) (a0_2 : Int) (A0_3 : Option Addr) (c0_3 : Nat) (l0_3 : List Int) (a1_0 : Bool) (a1_1 : Int) (a1_2 : Int) (A1_3 : Option Addr) (c1_3 : Nat) (l1_3 : List Int) (r : Bool) (w : World) (hr0_3 : Kd.C (Kd.int .u8) w A0_3 l0_3.length l0_3) (hc0_3 : l0_3.length ≤ c0_3) (hr1_3 : Kd.C (Kd.int .u8) w A1_3 l1_3.length l1_3) (hc1_3 : l1_3.length ≤ c1_3) (h : colonnaderef6_SameVal.f a0_0 a0_1 a0_2 l0_3 a1_0 a1_1 a1_2 l1_3 = some r) :
  Calls Try.prog 42 #[.agg #[.bool a0_0, .int .i64 a0_1, .int .i64 a0_2, .slice A0_3 l0_3.length c0_3], .agg #[.bool a1_0, .int .i64 a1_1, .int .i64 a1_2, .slice A1_3 l1_3.length c1_3]] w fun e w' => e = .returned (.bool r) ∧ Below w.heap.size w w' := by
 have hu32 := Try.underlying32
 have HR0_3 := Aside0.mk hr0_3
 have HC0_3 := Aside0.mk hc0_3
 clear hr0_3 hc0_3
 have HR1_3 := Aside0.mk hr1_3
 have HC1_3 := Aside0.mk hc1_3
 clear hr1_3 hc1_3
 have HB := Aside0.mk (Below.refl w.heap.size w)
 have H : (if (a0_0 == a1_0) = true then (if a0_1 = a1_1 then (if a0_2 = a1_2 then (some ((strOfNums l0_3).toList == (strOfNums l1_3).toList)) else (some false)) else (some false)) else (some false)) = some r := h
 clear h
 by_cases c3 : (a0_0 == a1_0) = true
 ·
  rw [if_pos c3] at H
  have c3b0 : (a0_0 == a1_0) = true := c3
  (try (have c3b1 : decide (a0_0 = a1_0) = true := by simpa using c3))
  (try (have c3b2 : (a0_0 == a1_0) = true := by simpa using c3))
  clear c3
  by_cases c4 : a0_1 = a1_1
  ·
   rw [if_pos c4] at H
   have c4b0 : (a0_1 == a1_1) = true := beq_iff_eq.mpr c4
   have c4b1 : (a0_1 != a1_1) = false := bne_eq_false_iff_eq.mpr c4
   clear c4
   by_cases c5 : a0_2 = a1_2
   ·
    rw [if_pos c5] at H
    have c5b0 : (a0_2 == a1_2) = true := beq_iff_eq.mpr c5
    have c5b1 : (a0_2 != a1_2) = false := bne_eq_false_iff_eq.mpr c5
    clear c5
    obtain rfl := Option.some.inj H
    go_enter Try.func42, Try.ntmps42
    go_wp2_with (first | ((with_reducible refine gate_dst (N := 2) rfl ?_); refine box_event ?hg (N := 2) ?hd (cs := #[.bool a0_0, .int .i64 a0_1, .int .i64 a0_2, .slice A0_3 l0_3.length c0_3]) (t := 32) ?hr ?_; (case hd => rfl); (case hg => rfl); (case hr => first | (go_simp; done) | (go_simp; rfl)); intro gb209 hg w6 hbox hb; have BK209 := Aside0.mk (hbox); have GW209 := Aside0.mk ((by rw [hg]; exact (below_size HB.out) : w.heap.size ≤ gb209)); have GE209 := Aside0.mk ((by rw [hg]; exact (below_size HB.out) : w.heap.size ≤ gb209)); replace HB := Aside0.mk (below_step HB.out hb); clear hb hbox hg) | ((with_reducible refine gate_dst (N := 3) rfl ?_); refine box_event ?hg (N := 3) ?hd (cs := #[.bool a1_0, .int .i64 a1_1, .int .i64 a1_2, .slice A1_3 l1_3.length c1_3]) (t := 32) ?hr ?_; (case hd => rfl); (case hg => rfl); (case hr => first | (go_simp; done) | (go_simp; rfl)); intro gb210 hg w7 hbox hb; have BK210 := Aside0.mk (hbox); have GW210 := Aside0.mk ((by rw [hg]; exact (below_size HB.out) : w.heap.size ≤ gb210)); have GE210 := Aside0.mk ((by rw [hg]; exact (below_size HB.out) : w.heap.size ≤ gb210)); replace HB := Aside0.mk (below_step HB.out hb); have NB209_210 := Aside0.mk ((by rw [hg]; exact Nat.ne_of_lt (blk_lt BK209.out) : gb209 ≠ gb210)); have NB210_209 := Aside0.mk ((by rw [hg]; exact Nat.ne_of_gt (blk_lt BK209.out) : gb210 ≠ gb209)); replace BK209 := Aside0.mk (blk_below BK209.out hb); clear hb hbox hg; have hnb8 := NB209_210.out; have hnc8 := NB210_209.out; obtain ⟨hcz9_0, hcz9_1, hcz9_2, hcz9_3⟩ := cells4 BK209.out; obtain ⟨hfz9_0, hfz9_1, hfz9_2, hfz9_3⟩ := frozen4 BK209.out; obtain ⟨hcz10_0, hcz10_1, hcz10_2, hcz10_3⟩ := cells4 BK210.out; obtain ⟨hfz10_0, hfz10_1, hfz10_2, hfz10_3⟩ := frozen4 BK210.out; have hcv11 := Kd.C_string (P := Try.prog) (A := A0_3) (c := c0_3) Try.underlying30 Try.underlying5 Try.underlying9 (Kd.C_below HR0_3.out HB.out); have hcv12 := Kd.C_string (P := Try.prog) (A := A1_3) (c := c1_3) Try.underlying30 Try.underlying5 Try.underlying9 (Kd.C_below HR1_3.out HB.out)))
    go_ret
    exact ⟨by first | rfl | (simp [errW_none, errW_some] <;> rfl) | (simp [*, errW_none, errW_some] <;> rfl), by repeat (first | (with_reducible first | exact HB.out | apply below_alloc | apply pw_below_drewN | apply below_drew1 | refine below_set ?_ GE209.out | refine below_set ?_ GE210.out) | exact HB.out)⟩
   ·
    rw [if_neg c5] at H
    have c5b0 : (a0_2 == a1_2) = false := beq_eq_false_iff_ne.mpr c5
    have c5b1 : (a0_2 != a1_2) = true := bne_iff_ne.mpr c5
    obtain rfl := Option.some.inj H
    go_enter Try.func42, Try.ntmps42
    go_wp2_with (first | ((with_reducible refine gate_dst (N := 2) rfl ?_); refine box_event ?hg (N := 2) ?hd (cs := #[.bool a0_0, .int .i64 a0_1, .int .i64 a0_2, .slice A0_3 l0_3.length c0_3]) (t := 32) ?hr ?_; (case hd => rfl); (case hg => rfl); (case hr => first | (go_simp; done) | (go_simp; rfl)); intro gb209 hg w13 hbox hb; have BK209 := Aside0.mk (hbox); have GW209 := Aside0.mk ((by rw [hg]; exact (below_size HB.out) : w.heap.size ≤ gb209)); have GE209 := Aside0.mk ((by rw [hg]; exact (below_size HB.out) : w.heap.size ≤ gb209)); replace HB := Aside0.mk (below_step HB.out hb); clear hb hbox hg) | ((with_reducible refine gate_dst (N := 3) rfl ?_); refine box_event ?hg (N := 3) ?hd (cs := #[.bool a1_0, .int .i64 a1_1, .int .i64 a1_2, .slice A1_3 l1_3.length c1_3]) (t := 32) ?hr ?_; (case hd => rfl); (case hg => rfl); (case hr => first | (go_simp; done) | (go_simp; rfl)); intro gb210 hg w14 hbox hb; have BK210 := Aside0.mk (hbox); have GW210 := Aside0.mk ((by rw [hg]; exact (below_size HB.out) : w.heap.size ≤ gb210)); have GE210 := Aside0.mk ((by rw [hg]; exact (below_size HB.out) : w.heap.size ≤ gb210)); replace HB := Aside0.mk (below_step HB.out hb); have NB209_210 := Aside0.mk ((by rw [hg]; exact Nat.ne_of_lt (blk_lt BK209.out) : gb209 ≠ gb210)); have NB210_209 := Aside0.mk ((by rw [hg]; exact Nat.ne_of_gt (blk_lt BK209.out) : gb210 ≠ gb209)); replace BK209 := Aside0.mk (blk_below BK209.out hb); clear hb hbox hg; have hnb15 := NB209_210.out; have hnc15 := NB210_209.out; obtain ⟨hcz16_0, hcz16_1, hcz16_2, hcz16_3⟩ := cells4 BK209.out; obtain ⟨hfz16_0, hfz16_1, hfz16_2, hfz16_3⟩ := frozen4 BK209.out; obtain ⟨hcz17_0, hcz17_1, hcz17_2, hcz17_3⟩ := cells4 BK210.out; obtain ⟨hfz17_0, hfz17_1, hfz17_2, hfz17_3⟩ := frozen4 BK210.out))
    go_ret
    exact ⟨by first | rfl | (simp [errW_none, errW_some] <;> rfl) | (simp [*, errW_none, errW_some] <;> rfl), by repeat (first | (with_reducible first | exact HB.out | apply below_alloc | apply pw_below_drewN | apply below_drew1 | refine below_set ?_ GE209.out | refine below_set ?_ GE210.out) | exact HB.out)⟩
  ·
   rw [if_neg c4] at H
   have c4b0 : (a0_1 == a1_1) = false := beq_eq_false_iff_ne.mpr c4
   have c4b1 : (a0_1 != a1_1) = true := bne_iff_ne.mpr c4
   obtain rfl := Option.some.inj H
   go_enter Try.func42, Try.ntmps42
   go_wp2_with (first | ((with_reducible refine gate_dst (N := 2) rfl ?_); refine box_event ?hg (N := 2) ?hd (cs := #[.bool a0_0, .int .i64 a0_1, .int .i64 a0_2, .slice A0_3 l0_3.length c0_3]) (t := 32) ?hr ?_; (case hd => rfl); (case hg => rfl); (case hr => first | (go_simp; done) | (go_simp; rfl)); intro gb209 hg w18 hbox hb; have BK209 := Aside0.mk (hbox); have GW209 := Aside0.mk ((by rw [hg]; exact (below_size HB.out) : w.heap.size ≤ gb209)); have GE209 := Aside0.mk ((by rw [hg]; exact (below_size HB.out) : w.heap.size ≤ gb209)); replace HB := Aside0.mk (below_step HB.out hb); clear hb hbox hg) | ((with_reducible refine gate_dst (N := 3) rfl ?_); refine box_event ?hg (N := 3) ?hd (cs := #[.bool a1_0, .int .i64 a1_1, .int .i64 a1_2, .slice A1_3 l1_3.length c1_3]) (t := 32) ?hr ?_; (case hd => rfl); (case hg => rfl); (case hr => first | (go_simp; done) | (go_simp; rfl)); intro gb210 hg w19 hbox hb; have BK210 := Aside0.mk (hbox); have GW210 := Aside0.mk ((by rw [hg]; exact (below_size HB.out) : w.heap.size ≤ gb210)); have GE210 := Aside0.mk ((by rw [hg]; exact (below_size HB.out) : w.heap.size ≤ gb210)); replace HB := Aside0.mk (below_step HB.out hb); have NB209_210 := Aside0.mk ((by rw [hg]; exact Nat.ne_of_lt (blk_lt BK209.out) : gb209 ≠ gb210)); have NB210_209 := Aside0.mk ((by rw [hg]; exact Nat.ne_of_gt (blk_lt BK209.out) : gb210 ≠ gb209)); replace BK209 := Aside0.mk (blk_below BK209.out hb); clear hb hbox hg; have hnb20 := NB209_210.out; have hnc20 := NB210_209.out; obtain ⟨hcz21_0, hcz21_1, hcz21_2, hcz21_3⟩ := cells4 BK209.out; obtain ⟨hfz21_0, hfz21_1, hfz21_2, hfz21_3⟩ := frozen4 BK209.out; obtain ⟨hcz22_0, hcz22_1, hcz22_2, hcz22_3⟩ := cells4 BK210.out; obtain ⟨hfz22_0, hfz22_1, hfz22_2, hfz22_3⟩ := frozen4 BK210.out))
   go_ret
   exact ⟨by first | rfl | (simp [errW_none, errW_some] <;> rfl) | (simp [*, errW_none, errW_some] <;> rfl), by repeat (first | (with_reducible first | exact HB.out | apply below_alloc | apply pw_below_drewN | apply below_drew1 | refine below_set ?_ GE209.out | refine below_set ?_ GE210.out) | exact HB.out)⟩
 ·
  rw [if_neg c3] at H
  have c3b0 : (a0_0 == a1_0) = false := by simpa using c3
  (try (have c3b1 : decide (a0_0 = a1_0) = false := by simpa using c3))
  (try (have c3b2 : (a0_0 == a1_0) = false := by simpa using c3))
  (try (have c3b3 : ¬ (a0_0 = a1_0) := by simpa using c3))
  clear c3
  obtain rfl := Option.some.inj H
  go_enter Try.func42, Try.ntmps42
  go_wp2_with (first | ((with_reducible refine gate_dst (N := 2) rfl ?_); refine box_event ?hg (N := 2) ?hd (cs := #[.bool a0_0, .int .i64 a0_1, .int .i64 a0_2, .slice A0_3 l0_3.length c0_3]) (t := 32) ?hr ?_; (case hd => rfl); (case hg => rfl); (case hr => first | (go_simp; done) | (go_simp; rfl)); intro gb209 hg w23 hbox hb; have BK209 := Aside0.mk (hbox); have GW209 := Aside0.mk ((by rw [hg]; exact (below_size HB.out) : w.heap.size ≤ gb209)); have GE209 := Aside0.mk ((by rw [hg]; exact (below_size HB.out) : w.heap.size ≤ gb209)); replace HB := Aside0.mk (below_step HB.out hb); clear hb hbox hg) | ((with_reducible refine gate_dst (N := 3) rfl ?_); refine box_event ?hg (N := 3) ?hd (cs := #[.bool a1_0, .int .i64 a1_1, .int .i64 a1_2, .slice A1_3 l1_3.length c1_3]) (t := 32) ?hr ?_; (case hd => rfl); (case hg => rfl); (case hr => first | (go_simp; done) | (go_simp; rfl)); intro gb210 hg w24 hbox hb; have BK210 := Aside0.mk (hbox); have GW210 := Aside0.mk ((by rw [hg]; exact (below_size HB.out) : w.heap.size ≤ gb210)); have GE210 := Aside0.mk ((by rw [hg]; exact (below_size HB.out) : w.heap.size ≤ gb210)); replace HB := Aside0.mk (below_step HB.out hb); have NB209_210 := Aside0.mk ((by rw [hg]; exact Nat.ne_of_lt (blk_lt BK209.out) : gb209 ≠ gb210)); have NB210_209 := Aside0.mk ((by rw [hg]; exact Nat.ne_of_gt (blk_lt BK209.out) : gb210 ≠ gb209)); replace BK209 := Aside0.mk (blk_below BK209.out hb); clear hb hbox hg; have hnb25 := NB209_210.out; have hnc25 := NB210_209.out; obtain ⟨hcz26_0, hcz26_1, hcz26_2, hcz26_3⟩ := cells4 BK209.out; obtain ⟨hfz26_0, hfz26_1, hfz26_2, hfz26_3⟩ := frozen4 BK209.out; obtain ⟨hcz27_0, hcz27_1, hcz27_2, hcz27_3⟩ := cells4 BK210.out; obtain ⟨hfz27_0, hfz27_1, hfz27_2, hfz27_3⟩ := frozen4 BK210.out))
  go_ret
  exact ⟨by first | rfl | (simp [errW_none, errW_some] <;> rfl) | (simp [*, errW_none, errW_some] <;> rfl), by repeat (first | (with_reducible first | exact HB.out | apply below_alloc | apply pw_below_drewN | apply below_drew1 | refine below_set ?_ GE209.out | refine below_set ?_ GE210.out) | exact HB.out)⟩

end Go.Proofs.Ytlapahjdkikodaa.GPe
