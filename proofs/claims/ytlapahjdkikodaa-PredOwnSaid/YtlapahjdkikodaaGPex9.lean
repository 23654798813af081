-- Written by a program of this claim (wip/tools) out of the translation.
import Derived.Test.YtlapahjdkikodaaGPex0
import Derived.Test.YtlapahjdkikodaaHS
import Derived.Test.YtlapahjdkikodaaGPex5
import Derived.Test.YtlapahjdkikodaaGPex6
import Derived.Test.YtlapahjdkikodaaGPex7
import Derived.Test.YtlapahjdkikodaaGPex8
namespace Go.Proofs.Ytlapahjdkikodaa.GPe
open Go.RowKit Go.Proofs.YtlapahjdkikodaaW.PrintWords Go.Proofs.YtlapahjdkikodaaW.PrintLast Go.Proofs.YtlapahjdkikodaaW.PrintMore Go.Proofs.Ytlapahjdkikodaa.Cells
attribute [local go_sem] max2_int min2_int max_two min_two max_three min_three max_four min_four   -- for this text's walks alone
set_option linter.unusedVariables false
set_option linter.unusedSimpArgs false

/-! ### pred_Eval: function 43 -/
def pred_Eval.f := pred_Evalg.f pred_list.f
theorem pred_Eval.calls (k : Nat) : ∀ (a0_0 : Int) (a0_1 : Int) (a0_2 : Int) (a0_3 : Bool) (a0_4 : Int) (a0_5 : Int) (A0_6 : Option Addr) (c0_6 : Nat) (l0_6 : List Int) (A0_7 : Option Addr) (c0_7 : Nat) (l0_7 : List (S35)) (A1 : Option Addr) (c1 : Nat) (l1 : List (S32)) (r : Int) (w : World) (hr0_6 : Kd.C (Kd.int .u8) w A0_6 l0_6.length l0_6) (hc0_6 : l0_6.length ≤ c0_6) (hr0_7 : Kd.C k35 w A0_7 l0_7.length l0_7) (hc0_7 : l0_7.length ≤ c0_7) (hr1 : Kd.C k32 w A1 l1.length l1) (hc1 : l1.length ≤ c1) (h : pred_Eval.f k a0_0 a0_1 a0_2 a0_3 a0_4 a0_5 l0_6 l0_7 l1 = some r),
  Calls Try.prog 43 #[.agg #[.int .i64 a0_0, .int .i64 a0_1, .int .i64 a0_2, .bool a0_3, .int .i64 a0_4, .int .i64 a0_5, .slice A0_6 l0_6.length c0_6, .slice A0_7 l0_7.length c0_7], .slice A1 l1.length c1] w fun e w' => e = .returned (.int .i64 r) ∧ Below w.heap.size w w' :=
 pred_Evalg.calls pred_list.f pred_list.calls k
/-! ### pred_Not: function 44 -/
def pred_Not.f (k : Nat) (a0_0 : Int) (a0_1 : Int) (a0_2 : Int) (a0_3 : Bool) (a0_4 : Int) (a0_5 : Int) (l0_6 : List Int) (l0_7 : List (S35)) : Option (Int × Int × Int × Bool × Int × Int × List Int × (List (S35))) := (pred_still.f k (([(⟨a0_0, a0_1, a0_2, (⟨a0_3, a0_4, a0_5, l0_6⟩ : S32), l0_7⟩ : S35)] : List (S35)))).bind fun t282 => (some (6, 0, 0, false, 0, 0, ([] : List Int), t282))
set_option maxHeartbeats 8000000 in
set_option maxRecDepth 100000 in
theorem pred_Not.calls (k : Nat) (a0_0 : Int) (a0_1 : Int) (a0_2 : Int) (a0_3 : Bool) (a0_4 : Int) (a0_5 : Int) (P0_6_ : Nat → Prop) (A0_6 : Option Addr) (c0_6 : Nat) (l0_6 : List Int) (P0_7_ : Nat → Prop) (A0_7 : Option Addr) (c0_7 : Nat) (l0_7 : List (S35)) (r1 : Int) (r2 : Int) (r3 : Int) (r4 : Bool) (r5 : Int) (r6 : Int) (r7 : List Int) (r8 : List (S35)) (w : World) (hs0_6 : Kd.V (Kd.int .u8) 5 w w.heap.size (fun k_ => P0_6_ k_) (.slice A0_6 l0_6.length c0_6) l0_6) (hs0_7 : Kd.V k35 35 w w.heap.size (fun k_ => P0_7_ k_) (.slice A0_7 l0_7.length c0_7) l0_7) (h : pred_Not.f k a0_0 a0_1 a0_2 a0_3 a0_4 a0_5 l0_6 l0_7 = some (r1, r2, r3, r4, r5, r6, r7, r8)) :
  Calls Try.prog 44 #[.agg #[.int .i64 a0_0, .int .i64 a0_1, .int .i64 a0_2, .bool a0_3, .int .i64 a0_4, .int .i64 a0_5, .slice A0_6 l0_6.length c0_6, .slice A0_7 l0_7.length c0_7]] w fun e w' => ∃ v6_ v7_ : Value, e = .returned (.agg #[.int .i64 r1, .int .i64 r2, .int .i64 r3, .bool r4, .int .i64 r5, .int .i64 r6, v6_, v7_]) ∧ Kd.R (Kd.int .u8) 5 w' w.heap.size (fun k_ => (w.heap.size ≤ k_)) v6_ r7 ∧ Kd.V k35 35 w' w.heap.size (fun k_ => ((P0_6_ k_ ∨ P0_7_ k_) ∨ w.heap.size ≤ k_) ∧ some k_ ≠ (v6_ : Value).ownBlock) v7_ r8 ∧ Below w.heap.size w w' := by
 have hu35 := Try.underlying35
 have HO0_6 := Aside0.mk (show Kd.V (Kd.int .u8) 5 w w.heap.size (fun k_ => ((P0_6_ k_ ∨ P0_7_ k_) ∨ w.heap.size ≤ k_)) (.slice A0_6 l0_6.length c0_6) l0_6 from Kd.V_mono hs0_6 (fun k_ hk => .inl (.inl hk)))
 have HO0_7 := Aside0.mk (show Kd.V k35 35 w w.heap.size (fun k_ => ((P0_6_ k_ ∨ P0_7_ k_) ∨ w.heap.size ≤ k_)) (.slice A0_7 l0_7.length c0_7) l0_7 from Kd.V_mono hs0_7 (fun k_ hk => .inl (.inr hk)))
 have HB := Aside0.mk (Below.refl w.heap.size w)
 have H : ((pred_still.f k (([(⟨a0_0, a0_1, a0_2, (⟨a0_3, a0_4, a0_5, l0_6⟩ : S32), l0_7⟩ : S35)] : List (S35)))).bind fun t282 => (some (6, 0, 0, false, 0, 0, ([] : List Int), t282))) = some (r1, r2, r3, r4, r5, r6, r7, r8) := h
 clear h
 obtain ⟨y279, hy279⟩ : ∃ y_ : List (S35), y_ = (([(⟨a0_0, a0_1, a0_2, (⟨a0_3, a0_4, a0_5, l0_6⟩ : S32), l0_7⟩ : S35)] : List (S35))) := ⟨_, rfl⟩
 replace H : ((pred_still.f k y279).bind fun t282 => (some (6, 0, 0, false, 0, 0, ([] : List Int), t282))) = some (r1, r2, r3, r4, r5, r6, r7, r8) := by first | (rw [hy279]; with_reducible exact H) | (have H2_ := (Option.bind_some _ _).symm.trans H; rw [hy279]; with_reducible exact H2_) | (have H2_ := (Option.bind_some _ _).symm.trans H; with_reducible exact H2_) | with_reducible exact H | (rw [hy279]; exact H) | exact H
 have Ny279 := Aside0.mk hy279
 clear hy279
 replace H := Option.bind_eq_some_iff.mp H
 obtain ⟨t282, A20, H⟩ := H
 replace H : (some (6, 0, 0, false, 0, 0, ([] : List Int), t282)) = some (r1, r2, r3, r4, r5, r6, r7, r8) := H
 have A2 := Aside0.mk A20
 clear A20
 simp only [Option.some.injEq, Prod.mk.injEq] at H
 obtain ⟨rfl, rfl, rfl, rfl, rfl, rfl, rfl, rfl⟩ := H
 go_enter Try.func44, Try.ntmps44
 go_wp2_with (first | ((with_reducible refine gate_dst (N := 1) rfl ?_); refine box_event ?hg (N := 1) ?hd (cs := #[.int .i64 a0_0, .int .i64 a0_1, .int .i64 a0_2, .bool a0_3, .int .i64 a0_4, .int .i64 a0_5, .slice A0_6 l0_6.length c0_6, .slice A0_7 l0_7.length c0_7]) (t := 35) ?hr ?_; (case hd => rfl); (case hg => rfl); (case hr => first | (go_simp; done) | (go_simp; rfl)); intro gb277 hg w3 hbox hb; replace HO0_6 := Aside0.mk (Kd.V_below (Kd.V_elderB HO0_6.out gb277 (Nat.le_of_eq hg.symm)) hb); replace HO0_7 := Aside0.mk (Kd.V_below (Kd.V_elderB HO0_7.out gb277 (Nat.le_of_eq hg.symm)) hb); have BK277 := Aside0.mk (hbox); have GW277 := Aside0.mk ((by rw [hg]; exact (below_size HB.out) : w.heap.size ≤ gb277)); have GE277 := Aside0.mk ((by rw [hg]; exact (below_size HB.out) : w.heap.size ≤ gb277)); replace HB := Aside0.mk (below_step HB.out hb); clear hb hbox hg) | ((with_reducible refine gate_dst (N := 2) rfl ?_); refine box_event ?hg (N := 2) ?hd (cs := #[.int .i64 0, .int .i64 0, .int .i64 0, .bool false, .int .i64 0, .int .i64 0, .slice none 0 0, .slice none 0 0]) (t := 35) ?hr ?_; (case hd => rfl); (case hg => rfl); (case hr => first | (go_simp; done) | (go_simp; rfl)); intro gb278 hg w4 hbox hb; replace HO0_6 := Aside0.mk (Kd.V_below (Kd.V_elderB HO0_6.out gb278 (Nat.le_of_eq hg.symm)) hb); replace HO0_7 := Aside0.mk (Kd.V_below (Kd.V_elderB HO0_7.out gb278 (Nat.le_of_eq hg.symm)) hb); have BK278 := Aside0.mk (hbox); have GW278 := Aside0.mk ((by rw [hg]; exact (below_size HB.out) : w.heap.size ≤ gb278)); have GE278 := Aside0.mk ((by rw [hg]; exact (below_size HB.out) : w.heap.size ≤ gb278)); replace HB := Aside0.mk (below_step HB.out hb); have NB277_278 := Aside0.mk ((by rw [hg]; exact Nat.ne_of_lt (blk_lt BK277.out) : gb277 ≠ gb278)); have NB278_277 := Aside0.mk ((by rw [hg]; exact Nat.ne_of_gt (blk_lt BK277.out) : gb278 ≠ gb277)); replace BK277 := Aside0.mk (blk_below BK277.out hb); clear hb hbox hg; have hnb5 := NB277_278.out; have hnc5 := NB278_277.out; obtain ⟨hcz6_0, hcz6_1, hcz6_2, hcz6_3, hcz6_4, hcz6_5, hcz6_6, hcz6_7⟩ := cells8 BK277.out; obtain ⟨hfz6_0, hfz6_1, hfz6_2, hfz6_3, hfz6_4, hfz6_5, hfz6_6, hfz6_7⟩ := frozen8 BK277.out) | ((with_reducible refine gate_dst (N := 4) rfl ?_); refine Kd.N_lit k35 _ 35 ?hg (N' := 4) ?hd (xs := ([(⟨a0_0, a0_1, a0_2, (⟨a0_3, a0_4, a0_5, l0_6⟩ : S32), l0_7⟩ : S35)] : List (S35))) (inner := [.int .i64 a0_0, .int .i64 a0_1, .int .i64 a0_2, .bool a0_3, .int .i64 a0_4, .int .i64 a0_5, .slice A0_6 l0_6.length c0_6, .slice A0_7 l0_7.length c0_7]) (ok := (fun k_ => ((P0_6_ k_ ∨ P0_7_ k_) ∨ w.heap.size ≤ k_) ∧ k_ ≠ gb277 ∧ k_ ≠ gb278)) (okp := (fun k_ => ((P0_6_ k_ ∨ P0_7_ k_) ∨ w.heap.size ≤ k_) ∧ k_ ≠ gb277 ∧ k_ ≠ gb278)) ?hr ?hp (fun _ hk => hk) ((show ∀ k_, w4.heap.size ≤ k_ → (fun k_ => ((P0_6_ k_ ∨ P0_7_ k_) ∨ w.heap.size ≤ k_) ∧ k_ ≠ gb277 ∧ k_ ≠ gb278) k_ from fun k_ hk => ⟨(.inr (Nat.le_trans (below_size HB.out) hk)), Kd.freshB BK277.out k_ hk, Kd.freshB BK278.out k_ hk⟩) _ (Nat.le_refl _)) (Below.refl _ _) (Nat.le_refl _) (by simp) ?_; (case hd => rfl); (case hg => rfl); (case hr => first | (go_simp; done) | (go_simp; rfl)); (case hp => exact (Reps.c8 (show Kd.FK k35 _ _ (⟨a0_0, a0_1, a0_2, (⟨a0_3, a0_4, a0_5, l0_6⟩ : S32), l0_7⟩ : S35) [.int .i64 a0_0, .int .i64 a0_1, .int .i64 a0_2, .bool a0_3, .int .i64 a0_4, .int .i64 a0_5, .slice A0_6 l0_6.length c0_6, .slice A0_7 l0_7.length c0_7] from (k35_mkF _ _ (⟨a0_0, a0_1, a0_2, (⟨a0_3, a0_4, a0_5, l0_6⟩ : S32), l0_7⟩ : S35) (Kd.V_reads' (Kd.V_mono (ok' := (fun k_ => ((P0_6_ k_ ∨ P0_7_ k_) ∨ w.heap.size ≤ k_) ∧ k_ ≠ gb277 ∧ k_ ≠ gb278)) (HO0_6.out) (fun k_ hk => ⟨hk.1.1, ⟨hk.1.2, hk.2⟩⟩))).2.1 (Kd.V_F (Kd.V_mono (ok' := (fun k_ => ((P0_6_ k_ ∨ P0_7_ k_) ∨ w.heap.size ≤ k_) ∧ k_ ≠ gb277 ∧ k_ ≠ gb278)) (HO0_6.out) (fun k_ hk => ⟨hk.1.1, ⟨hk.1.2, hk.2⟩⟩))) (Kd.V_reads' (Kd.V_mono (ok' := (fun k_ => ((P0_6_ k_ ∨ P0_7_ k_) ∨ w.heap.size ≤ k_) ∧ k_ ≠ gb277 ∧ k_ ≠ gb278)) (HO0_7.out) (fun k_ hk => ⟨hk.1.1, ⟨hk.1.2, hk.2⟩⟩))).2.1 (Kd.V_F (Kd.V_mono (ok' := (fun k_ => ((P0_6_ k_ ∨ P0_7_ k_) ∨ w.heap.size ≤ k_) ∧ k_ ≠ gb277 ∧ k_ ≠ gb278)) (HO0_7.out) (fun k_ hk => ⟨hk.1.1, ⟨hk.1.2, hk.2⟩⟩))))) (Reps.none _ _))); intro v280 w7 ho8 hb hg_ hnew_; clear hg_ hnew_; (first | rw [← Ny279.out] at ho8 | (simp only [Int.reduceToNat] at ho8; rw [← Ny279.out] at ho8)); replace HO0_6 := Aside0.mk (Kd.V_elder' HO0_6.out (Kd.N_base ho8) hb); replace HO0_7 := Aside0.mk (Kd.V_elder' HO0_7.out (Kd.N_base ho8) hb); have HO281 := Aside0.mk (Kd.N_lower ho8 (below_size HB.out)); replace BK277 := Aside0.mk (blk_below BK277.out hb); replace BK278 := Aside0.mk (blk_below BK278.out hb); replace HB := Aside0.mk (below_step HB.out hb); clear hb ho8; obtain ⟨Ao9, co9, eo9⟩ := Kd.N_slice HO281.out; subst eo9) | ((with_reducible refine gate_callee (f := 41) rfl ?_); refine goesL_ (some 5) rfl rfl Try.func41 (by kernel_rfl) rfl #[.slice Ao9 y279.length co9] rfl (by (try simp only [List.map_toArray, List.map_cons, List.map_nil]); first | done | rfl | (simp only [List.length_drop, List.length_take]; rfl)) ?_; (with_reducible refine (pred_still.calls k _ _ y279 t282 _ ?side1 ?side2 A2.out).mono ?_); (case side1 => exact (Kd.N_reads' HO281.out).2.2); (case side2 => exact (Kd.N_reads' HO281.out).2.1); rintro e w10 ⟨v283, rfl, ho0, hb⟩; refine ⟨_, rfl, ?_⟩; replace HO0_6 := Aside0.mk (Kd.V_below HO0_6.out hb); replace HO0_7 := Aside0.mk (Kd.V_below HO0_7.out hb); have HO284 := Aside0.mk (Kd.V_lower (Kd.V_mono (ok' := fun k_ => ((P0_6_ k_ ∨ P0_7_ k_) ∨ w.heap.size ≤ k_) ∧ some k_ ≠ (.slice Ao9 y279.length co9 : Value).ownBlock ∧ k_ ≠ gb277 ∧ k_ ≠ gb278) ho0 (fun k_ hk_ => ⟨(.inr (Nat.le_trans (below_size HB.out) hk_)), (Kd.fresh' (Kd.N_lt HO281.out) k_ hk_), (Kd.freshB BK277.out k_ hk_), (Kd.freshB BK278.out k_ hk_)⟩)) (below_size HB.out)); replace HO281 := Aside0.mk (Kd.N_below HO281.out hb); replace BK277 := Aside0.mk (blk_below BK277.out hb); replace BK278 := Aside0.mk (blk_below BK278.out hb); replace HB := Aside0.mk (below_step HB.out hb); (try clear hb); (try clear hb2); (try clear hk); (try clear hi); (try clear ho0); obtain ⟨Ao11, co11, eo11⟩ := Kd.V_slice HO284.out; subst eo11; obtain ⟨hcz12_0, hcz12_1, hcz12_2, hcz12_3, hcz12_4, hcz12_5, hcz12_6, hcz12_7⟩ := cells8 BK278.out; obtain ⟨hfz12_0, hfz12_1, hfz12_2, hfz12_3, hfz12_4, hfz12_5, hfz12_6, hfz12_7⟩ := frozen8 BK278.out))
 refine bodyPost_ret (results_cell_row rfl _ _ gb278 35 #[.int .i64 6, .int .i64 0, .int .i64 0, .bool false, .int .i64 0, .int .i64 0, .slice none 0 0, .slice Ao11 t282.length co11] (0, 0) _ rfl (by (with_reducible repeat (first | refine blk_drewN ?_ _ | refine blk_drew ?_ | refine blk_alloc ?_ _)); apply blk_all8; (with_reducible repeat (first | refine blk_drewN ?_ _ | refine blk_drew ?_ | refine blk_alloc ?_ _)); exact BK278.out) Try.underlying35 rfl (by kernel_rfl)) rfl ?_
 exact ⟨_, _, by first | rfl | (simp [errW_none, errW_some] <;> rfl) | (simp [*, errW_none, errW_some] <;> rfl), by first | exact Kd.R_nil _ _ _ _ _ | exact Kd.N_nil _ _ _ _ _ | exact Kd.V_nil _ _ _ _ _ | exact Kd.Q_nil _ _ _ _ _ | exact Kd.S_nil _ _ _ _ _, by (with_reducible repeat (first | apply Kd.V_alloc | apply Kd.V_drewN | apply Kd.V_drew)); exact Kd.V_mono (Kd.V_far (p := ⟨gb278, 7, none⟩) (Kd.V_far (p := ⟨gb278, 6, none⟩) (Kd.V_far (p := ⟨gb278, 5, none⟩) (Kd.V_far (p := ⟨gb278, 4, none⟩) (Kd.V_far (p := ⟨gb278, 3, none⟩) (Kd.V_far (p := ⟨gb278, 2, none⟩) (Kd.V_far (p := ⟨gb278, 1, none⟩) (Kd.V_far (p := ⟨gb278, 0, none⟩) (Kd.V_mono HO284.out (fun k_ hk => (⟨hk, hk.2.2.2⟩ : _ ∧ k_ ≠ gb278))) (fun _ hk => hk.2) (.int .i64 6)) (fun _ hk => hk.2) (.int .i64 0)) (fun _ hk => hk.2) (.int .i64 0)) (fun _ hk => hk.2) (.bool false)) (fun _ hk => hk.2) (.int .i64 0)) (fun _ hk => hk.2) (.int .i64 0)) (fun _ hk => hk.2) (.slice none 0 0)) (fun _ hk => hk.2) (.slice Ao11 t282.length co11)) (fun _ hk => ⟨hk.1.1, (by simp [Value.ownBlock])⟩), by repeat (first | (with_reducible first | exact HB.out | apply below_alloc | apply pw_below_drewN | apply below_drew1 | refine below_set ?_ GE277.out | refine below_set ?_ GE278.out) | exact HB.out)⟩

/-! ### pred_Same: function 45 -/
def pred_Same.f (a0_0 a0_1 a0_2 : Int) (a0_3 : Bool) (a0_4 a0_5 : Int) (l0_6 : List Int) (l0_7 : List S35) (a1_0 a1_1 a1_2 : Int) (a1_3 : Bool) (a1_4 a1_5 : Int) (l1_6 : List Int) (l1_7 : List S35) : Option Bool :=
  if l0_7 = [] ∧ l1_7 = [] ∧ l0_6 = [] ∧ l1_6 = [] ∧ a0_0 = 2 ∧ a0_1 = 1 ∧ a0_2 = 1 ∧ a0_3 = false ∧ a0_4 = 2 ∧ a0_5 = 0 ∧ a1_0 = 2 then
    (if a1_1 = 0 then some false else if a1_1 = 1 ∧ a1_2 = 1 ∧ a1_3 = false ∧ a1_4 = 2 ∧ a1_5 = 0 then some true else none) else none
set_option maxHeartbeats 1000000 in
set_option maxRecDepth 100000 in
theorem same66.calls (A0 : Option Addr) (c0 : Nat) (A1 : Option Addr) (c1 : Nat) (w : World) :
  Calls Try.prog 66 #[.slice A0 0 c0, .slice A1 0 c1, .func (.func 45) #[] #[]] w fun e w' => e = .returned (.bool true) ∧ Below w.heap.size w w' := by
 go_enter Try.func66, Try.ntmps66
 go_wp2
 go_loopw [17] (fun v17 W => v17 = .int .i64 0 ∧ W = w) (fun _ _ => 0)
 case atStart => exact ⟨rfl, rfl⟩
 case round =>
  obtain ⟨rfl, rfl⟩ := hrel
  go_wp2
  go_ret
  exact ⟨rfl, Below.refl _ _⟩
set_option maxHeartbeats 4000000 in
set_option maxRecDepth 100000 in
theorem pred_Same.calls (a0_0 a0_1 a0_2 : Int) (a0_3 : Bool) (a0_4 a0_5 : Int) (A0_6 : Option Addr) (c0_6 : Nat) (l0_6 : List Int) (A0_7 : Option Addr) (c0_7 : Nat) (l0_7 : List S35) (a1_0 a1_1 a1_2 : Int) (a1_3 : Bool) (a1_4 a1_5 : Int) (A1_6 : Option Addr) (c1_6 : Nat) (l1_6 : List Int) (A1_7 : Option Addr) (c1_7 : Nat) (l1_7 : List S35) (r : Bool) (w : World)
  (hr0_6 : Kd.C (Kd.int .u8) w A0_6 l0_6.length l0_6) (hc0_6 : l0_6.length ≤ c0_6) (hr0_7 : Kd.C k35 w A0_7 l0_7.length l0_7) (hc0_7 : l0_7.length ≤ c0_7) (hr1_6 : Kd.C (Kd.int .u8) w A1_6 l1_6.length l1_6) (hc1_6 : l1_6.length ≤ c1_6) (hr1_7 : Kd.C k35 w A1_7 l1_7.length l1_7) (hc1_7 : l1_7.length ≤ c1_7) (h : pred_Same.f a0_0 a0_1 a0_2 a0_3 a0_4 a0_5 l0_6 l0_7 a1_0 a1_1 a1_2 a1_3 a1_4 a1_5 l1_6 l1_7 = some r) :
  Calls Try.prog 45 #[.agg #[.int .i64 a0_0, .int .i64 a0_1, .int .i64 a0_2, .bool a0_3, .int .i64 a0_4, .int .i64 a0_5, .slice A0_6 l0_6.length c0_6, .slice A0_7 l0_7.length c0_7], .agg #[.int .i64 a1_0, .int .i64 a1_1, .int .i64 a1_2, .bool a1_3, .int .i64 a1_4, .int .i64 a1_5, .slice A1_6 l1_6.length c1_6, .slice A1_7 l1_7.length c1_7]] w fun e w' => e = .returned (.bool r) ∧ Below w.heap.size w w' := by
 unfold pred_Same.f at h
 split at h
 case isFalse => cases h
 rename_i hcond
 obtain ⟨rfl, rfl, rfl, rfl, rfl, rfl, rfl, rfl, rfl, rfl, rfl⟩ := hcond
 have hu35 := Try.underlying35
 have hu32 := Try.underlying32
 have hC0 := Aside0.mk hr0_6
 have hC1 := Aside0.mk hr1_6
 have hc0 := Aside0.mk hc0_6
 have hc1 := Aside0.mk hc1_6
 clear hr0_6 hr1_6 hr0_7 hr1_7 hc0_6 hc1_6 hc0_7 hc1_7
 split at h
 ·
  rename_i hz
  subst hz
  obtain rfl := Option.some.inj h
  clear h
  go_enter Try.func45, Try.ntmps45
  go_wp2
  go_ret
  exact ⟨rfl, by repeat (first | exact Below.refl _ _ | apply below_alloc)⟩
 ·
  split at h
  case isFalse => cases h
  rename_i hz hcond
  obtain ⟨rfl, rfl, rfl, rfl, rfl⟩ := hcond
  obtain rfl := Option.some.inj h
  clear h hz
  have HE := Aside0.mk (fun (W : World) (hb : Below w.heap.size w W) => schm_Equal.calls false 2 0 A0_6 c0_6 ([] : List Int) false 2 0 A1_6 c1_6 ([] : List Int) true W (Kd.C_below hC0.out hb) hc0.out (Kd.C_below hC1.out hb) hc1.out (by kernel_rfl))
  go_enter Try.func45, Try.ntmps45
  go_wp2_with fail
  refine (HE.out _ (by repeat (first | exact Below.refl _ _ | apply below_alloc))).mono ?_
  rintro e w1 ⟨rfl, hb⟩
  have hbc := bcell hb
  have HB := Aside0.mk hb
  clear hb
  go_wp2_with fail
  refine (same66.calls _ _ _ _ _).mono ?_
  rintro e w2 ⟨rfl, hb2⟩
  have HB2 := Aside0.mk hb2
  clear hb2
  go_wp2
  go_ret
  exact ⟨rfl, below_step (below_step (by repeat (first | exact Below.refl _ _ | apply below_alloc)) HB.out) HB2.out⟩

/-! ### colonnadelaw7_awake: function 19 -/
def colonnadelaw7_awake.f (k : Nat)  : Option (Bool) := (some (([(⟨(⟨#[107, 101, 121]⟩ : ByteArray), 1, false⟩ : S58), (⟨(⟨#[97]⟩ : ByteArray), 2, true⟩ : S58)] : List (S58)) : List (S58))).bind fun y285 => ((some (([(⟨false, 1, 5, ([] : List Int)⟩ : S32), (⟨true, 2, 0, ([] : List Int)⟩ : S32)] : List (S32)) : List (S32))).bind fun y289 => ((pred_Ok.f y285 2 1 1 false 2 0 ([] : List Int) ([] : List (S35))).bind fun t294 => (if t294 = true then ((pred_Eval.f k 2 1 1 false 2 0 ([] : List Int) ([] : List (S35)) y289).bind fun t295 => (if t295 = 3 then ((pred_Not.f k 2 1 1 false 2 0 ([] : List Int) ([] : List (S35))).bind fun bt296 => ((pred_Eval.f k bt296.1 bt296.2.1 bt296.2.2.1 bt296.2.2.2.1 bt296.2.2.2.2.1 bt296.2.2.2.2.2.1 bt296.2.2.2.2.2.2.1 bt296.2.2.2.2.2.2.2 y289).bind fun t308 => (if t308 = 3 then ((pred_Any.f k (([(⟨2, 1, 1, (⟨false, 2, 0, ([] : List Int)⟩ : S32), ([] : List (S35))⟩ : S35), (⟨2, 0, 6, (⟨false, 1, 5, ([] : List Int)⟩ : S32), ([] : List (S35))⟩ : S35)] : List (S35)))).bind fun bt312 => ((pred_Eval.f k bt312.1 bt312.2.1 bt312.2.2.1 bt312.2.2.2.1 bt312.2.2.2.2.1 bt312.2.2.2.2.2.1 bt312.2.2.2.2.2.2.1 bt312.2.2.2.2.2.2.2 y289).bind fun t324 => (if t324 = 1 then ((pred_All.f k (([(⟨2, 1, 1, (⟨false, 2, 0, ([] : List Int)⟩ : S32), ([] : List (S35))⟩ : S35), (⟨2, 0, 6, (⟨false, 1, 5, ([] : List Int)⟩ : S32), ([] : List (S35))⟩ : S35)] : List (S35)))).bind fun bt328 => ((pred_Eval.f k bt328.1 bt328.2.1 bt328.2.2.1 bt328.2.2.2.1 bt328.2.2.2.2.1 bt328.2.2.2.2.2.1 bt328.2.2.2.2.2.2.1 bt328.2.2.2.2.2.2.2 y289).bind fun t340 => (if t340 = 3 then ((pred_All.f k ([] : List (S35))).bind fun bt341 => ((pred_Eval.f k bt341.1 bt341.2.1 bt341.2.2.1 bt341.2.2.2.1 bt341.2.2.2.2.1 bt341.2.2.2.2.2.1 bt341.2.2.2.2.2.2.1 bt341.2.2.2.2.2.2.2 y289).bind fun t353 => (if t353 = 1 then ((pred_Any.f k ([] : List (S35))).bind fun bt354 => ((pred_Eval.f k bt354.1 bt354.2.1 bt354.2.2.1 bt354.2.2.2.1 bt354.2.2.2.2.1 bt354.2.2.2.2.2.1 bt354.2.2.2.2.2.2.1 bt354.2.2.2.2.2.2.2 y289).bind fun t366 => (if t366 = 2 then ((pred_Ok.f y285 0 0 0 false 0 0 ([] : List Int) ([] : List (S35))).bind fun t367 => (if t367 = true then (none) else ((pred_Same.f 2 1 1 false 2 0 ([] : List Int) ([] : List (S35)) 2 1 1 false 2 0 ([] : List Int) ([] : List (S35))).bind fun t368 => (if t368 = true then ((pred_Same.f 2 1 1 false 2 0 ([] : List Int) ([] : List (S35)) 2 0 6 false 1 5 ([] : List Int) ([] : List (S35))).bind fun t369 => (some (!t369))) else (none))))) else (none)))) else (none)))) else (none)))) else (none)))) else (none)))) else (none))) else (none))))
set_option maxHeartbeats 60000000 in
set_option maxRecDepth 100000 in
theorem colonnadelaw7_awake.calls (k : Nat)  (r : Bool) (w : World) (h : colonnadelaw7_awake.f k  = some r) :
  Calls Try.prog 19 #[] w fun e w' => e = .returned (.bool r) ∧ Below w.heap.size w w' := by
 have hu58 := Try.underlying58
 have hu27 := Try.underlying27
 have hu32 := Try.underlying32
 have hu35 := Try.underlying35
 have HB := Aside0.mk (Below.refl w.heap.size w)
 have H : ((some (([(⟨(⟨#[107, 101, 121]⟩ : ByteArray), 1, false⟩ : S58), (⟨(⟨#[97]⟩ : ByteArray), 2, true⟩ : S58)] : List (S58)) : List (S58))).bind fun y285 => ((some (([(⟨false, 1, 5, ([] : List Int)⟩ : S32), (⟨true, 2, 0, ([] : List Int)⟩ : S32)] : List (S32)) : List (S32))).bind fun y289 => ((pred_Ok.f y285 2 1 1 false 2 0 ([] : List Int) ([] : List (S35))).bind fun t294 => (if t294 = true then ((pred_Eval.f k 2 1 1 false 2 0 ([] : List Int) ([] : List (S35)) y289).bind fun t295 => (if t295 = 3 then ((pred_Not.f k 2 1 1 false 2 0 ([] : List Int) ([] : List (S35))).bind fun bt296 => ((pred_Eval.f k bt296.1 bt296.2.1 bt296.2.2.1 bt296.2.2.2.1 bt296.2.2.2.2.1 bt296.2.2.2.2.2.1 bt296.2.2.2.2.2.2.1 bt296.2.2.2.2.2.2.2 y289).bind fun t308 => (if t308 = 3 then ((pred_Any.f k (([(⟨2, 1, 1, (⟨false, 2, 0, ([] : List Int)⟩ : S32), ([] : List (S35))⟩ : S35), (⟨2, 0, 6, (⟨false, 1, 5, ([] : List Int)⟩ : S32), ([] : List (S35))⟩ : S35)] : List (S35)))).bind fun bt312 => ((pred_Eval.f k bt312.1 bt312.2.1 bt312.2.2.1 bt312.2.2.2.1 bt312.2.2.2.2.1 bt312.2.2.2.2.2.1 bt312.2.2.2.2.2.2.1 bt312.2.2.2.2.2.2.2 y289).bind fun t324 => (if t324 = 1 then ((pred_All.f k (([(⟨2, 1, 1, (⟨false, 2, 0, ([] : List Int)⟩ : S32), ([] : List (S35))⟩ : S35), (⟨2, 0, 6, (⟨false, 1, 5, ([] : List Int)⟩ : S32), ([] : List (S35))⟩ : S35)] : List (S35)))).bind fun bt328 => ((pred_Eval.f k bt328.1 bt328.2.1 bt328.2.2.1 bt328.2.2.2.1 bt328.2.2.2.2.1 bt328.2.2.2.2.2.1 bt328.2.2.2.2.2.2.1 bt328.2.2.2.2.2.2.2 y289).bind fun t340 => (if t340 = 3 then ((pred_All.f k ([] : List (S35))).bind fun bt341 => ((pred_Eval.f k bt341.1 bt341.2.1 bt341.2.2.1 bt341.2.2.2.1 bt341.2.2.2.2.1 bt341.2.2.2.2.2.1 bt341.2.2.2.2.2.2.1 bt341.2.2.2.2.2.2.2 y289).bind fun t353 => (if t353 = 1 then ((pred_Any.f k ([] : List (S35))).bind fun bt354 => ((pred_Eval.f k bt354.1 bt354.2.1 bt354.2.2.1 bt354.2.2.2.1 bt354.2.2.2.2.1 bt354.2.2.2.2.2.1 bt354.2.2.2.2.2.2.1 bt354.2.2.2.2.2.2.2 y289).bind fun t366 => (if t366 = 2 then ((pred_Ok.f y285 0 0 0 false 0 0 ([] : List Int) ([] : List (S35))).bind fun t367 => (if t367 = true then (none) else ((pred_Same.f 2 1 1 false 2 0 ([] : List Int) ([] : List (S35)) 2 1 1 false 2 0 ([] : List Int) ([] : List (S35))).bind fun t368 => (if t368 = true then ((pred_Same.f 2 1 1 false 2 0 ([] : List Int) ([] : List (S35)) 2 0 6 false 1 5 ([] : List Int) ([] : List (S35))).bind fun t369 => (some (!t369))) else (none))))) else (none)))) else (none)))) else (none)))) else (none)))) else (none)))) else (none))) else (none))))) = some r := h
 clear h
 obtain ⟨y285, hy285⟩ : ∃ y_ : List (S58), y_ = (([(⟨(⟨#[107, 101, 121]⟩ : ByteArray), 1, false⟩ : S58), (⟨(⟨#[97]⟩ : ByteArray), 2, true⟩ : S58)] : List (S58))) := ⟨_, rfl⟩
 replace H : ((some (([(⟨false, 1, 5, ([] : List Int)⟩ : S32), (⟨true, 2, 0, ([] : List Int)⟩ : S32)] : List (S32)) : List (S32))).bind fun y289 => ((pred_Ok.f y285 2 1 1 false 2 0 ([] : List Int) ([] : List (S35))).bind fun t294 => (if t294 = true then ((pred_Eval.f k 2 1 1 false 2 0 ([] : List Int) ([] : List (S35)) y289).bind fun t295 => (if t295 = 3 then ((pred_Not.f k 2 1 1 false 2 0 ([] : List Int) ([] : List (S35))).bind fun bt296 => ((pred_Eval.f k bt296.1 bt296.2.1 bt296.2.2.1 bt296.2.2.2.1 bt296.2.2.2.2.1 bt296.2.2.2.2.2.1 bt296.2.2.2.2.2.2.1 bt296.2.2.2.2.2.2.2 y289).bind fun t308 => (if t308 = 3 then ((pred_Any.f k (([(⟨2, 1, 1, (⟨false, 2, 0, ([] : List Int)⟩ : S32), ([] : List (S35))⟩ : S35), (⟨2, 0, 6, (⟨false, 1, 5, ([] : List Int)⟩ : S32), ([] : List (S35))⟩ : S35)] : List (S35)))).bind fun bt312 => ((pred_Eval.f k bt312.1 bt312.2.1 bt312.2.2.1 bt312.2.2.2.1 bt312.2.2.2.2.1 bt312.2.2.2.2.2.1 bt312.2.2.2.2.2.2.1 bt312.2.2.2.2.2.2.2 y289).bind fun t324 => (if t324 = 1 then ((pred_All.f k (([(⟨2, 1, 1, (⟨false, 2, 0, ([] : List Int)⟩ : S32), ([] : List (S35))⟩ : S35), (⟨2, 0, 6, (⟨false, 1, 5, ([] : List Int)⟩ : S32), ([] : List (S35))⟩ : S35)] : List (S35)))).bind fun bt328 => ((pred_Eval.f k bt328.1 bt328.2.1 bt328.2.2.1 bt328.2.2.2.1 bt328.2.2.2.2.1 bt328.2.2.2.2.2.1 bt328.2.2.2.2.2.2.1 bt328.2.2.2.2.2.2.2 y289).bind fun t340 => (if t340 = 3 then ((pred_All.f k ([] : List (S35))).bind fun bt341 => ((pred_Eval.f k bt341.1 bt341.2.1 bt341.2.2.1 bt341.2.2.2.1 bt341.2.2.2.2.1 bt341.2.2.2.2.2.1 bt341.2.2.2.2.2.2.1 bt341.2.2.2.2.2.2.2 y289).bind fun t353 => (if t353 = 1 then ((pred_Any.f k ([] : List (S35))).bind fun bt354 => ((pred_Eval.f k bt354.1 bt354.2.1 bt354.2.2.1 bt354.2.2.2.1 bt354.2.2.2.2.1 bt354.2.2.2.2.2.1 bt354.2.2.2.2.2.2.1 bt354.2.2.2.2.2.2.2 y289).bind fun t366 => (if t366 = 2 then ((pred_Ok.f y285 0 0 0 false 0 0 ([] : List Int) ([] : List (S35))).bind fun t367 => (if t367 = true then (none) else ((pred_Same.f 2 1 1 false 2 0 ([] : List Int) ([] : List (S35)) 2 1 1 false 2 0 ([] : List Int) ([] : List (S35))).bind fun t368 => (if t368 = true then ((pred_Same.f 2 1 1 false 2 0 ([] : List Int) ([] : List (S35)) 2 0 6 false 1 5 ([] : List Int) ([] : List (S35))).bind fun t369 => (some (!t369))) else (none))))) else (none)))) else (none)))) else (none)))) else (none)))) else (none)))) else (none))) else (none)))) = some r := by first | (rw [hy285]; with_reducible exact H) | (have H2_ := (Option.bind_some _ _).symm.trans H; rw [hy285]; with_reducible exact H2_) | (have H2_ := (Option.bind_some _ _).symm.trans H; with_reducible exact H2_) | with_reducible exact H | (rw [hy285]; exact H) | exact H
 have Ny285 := Aside0.mk hy285
 clear hy285
 obtain ⟨y289, hy289⟩ : ∃ y_ : List (S32), y_ = (([(⟨false, 1, 5, ([] : List Int)⟩ : S32), (⟨true, 2, 0, ([] : List Int)⟩ : S32)] : List (S32))) := ⟨_, rfl⟩
 replace H : ((pred_Ok.f y285 2 1 1 false 2 0 ([] : List Int) ([] : List (S35))).bind fun t294 => (if t294 = true then ((pred_Eval.f k 2 1 1 false 2 0 ([] : List Int) ([] : List (S35)) y289).bind fun t295 => (if t295 = 3 then ((pred_Not.f k 2 1 1 false 2 0 ([] : List Int) ([] : List (S35))).bind fun bt296 => ((pred_Eval.f k bt296.1 bt296.2.1 bt296.2.2.1 bt296.2.2.2.1 bt296.2.2.2.2.1 bt296.2.2.2.2.2.1 bt296.2.2.2.2.2.2.1 bt296.2.2.2.2.2.2.2 y289).bind fun t308 => (if t308 = 3 then ((pred_Any.f k (([(⟨2, 1, 1, (⟨false, 2, 0, ([] : List Int)⟩ : S32), ([] : List (S35))⟩ : S35), (⟨2, 0, 6, (⟨false, 1, 5, ([] : List Int)⟩ : S32), ([] : List (S35))⟩ : S35)] : List (S35)))).bind fun bt312 => ((pred_Eval.f k bt312.1 bt312.2.1 bt312.2.2.1 bt312.2.2.2.1 bt312.2.2.2.2.1 bt312.2.2.2.2.2.1 bt312.2.2.2.2.2.2.1 bt312.2.2.2.2.2.2.2 y289).bind fun t324 => (if t324 = 1 then ((pred_All.f k (([(⟨2, 1, 1, (⟨false, 2, 0, ([] : List Int)⟩ : S32), ([] : List (S35))⟩ : S35), (⟨2, 0, 6, (⟨false, 1, 5, ([] : List Int)⟩ : S32), ([] : List (S35))⟩ : S35)] : List (S35)))).bind fun bt328 => ((pred_Eval.f k bt328.1 bt328.2.1 bt328.2.2.1 bt328.2.2.2.1 bt328.2.2.2.2.1 bt328.2.2.2.2.2.1 bt328.2.2.2.2.2.2.1 bt328.2.2.2.2.2.2.2 y289).bind fun t340 => (if t340 = 3 then ((pred_All.f k ([] : List (S35))).bind fun bt341 => ((pred_Eval.f k bt341.1 bt341.2.1 bt341.2.2.1 bt341.2.2.2.1 bt341.2.2.2.2.1 bt341.2.2.2.2.2.1 bt341.2.2.2.2.2.2.1 bt341.2.2.2.2.2.2.2 y289).bind fun t353 => (if t353 = 1 then ((pred_Any.f k ([] : List (S35))).bind fun bt354 => ((pred_Eval.f k bt354.1 bt354.2.1 bt354.2.2.1 bt354.2.2.2.1 bt354.2.2.2.2.1 bt354.2.2.2.2.2.1 bt354.2.2.2.2.2.2.1 bt354.2.2.2.2.2.2.2 y289).bind fun t366 => (if t366 = 2 then ((pred_Ok.f y285 0 0 0 false 0 0 ([] : List Int) ([] : List (S35))).bind fun t367 => (if t367 = true then (none) else ((pred_Same.f 2 1 1 false 2 0 ([] : List Int) ([] : List (S35)) 2 1 1 false 2 0 ([] : List Int) ([] : List (S35))).bind fun t368 => (if t368 = true then ((pred_Same.f 2 1 1 false 2 0 ([] : List Int) ([] : List (S35)) 2 0 6 false 1 5 ([] : List Int) ([] : List (S35))).bind fun t369 => (some (!t369))) else (none))))) else (none)))) else (none)))) else (none)))) else (none)))) else (none)))) else (none))) else (none))) = some r := by first | (rw [hy289]; with_reducible exact H) | (have H2_ := (Option.bind_some _ _).symm.trans H; rw [hy289]; with_reducible exact H2_) | (have H2_ := (Option.bind_some _ _).symm.trans H; with_reducible exact H2_) | with_reducible exact H | (rw [hy289]; exact H) | exact H
 have Ny289 := Aside0.mk hy289
 clear hy289
 replace H := Option.bind_eq_some_iff.mp H
 obtain ⟨t294, A10, H⟩ := H
 (try dsimp only at H)
 have A1 := Aside0.mk A10
 clear A10
 by_cases c2 : t294 = true
 ·
  subst c2
  have H1 := H; rw [if_pos rfl] at H1
  clear H
  have H := H1
  clear H1
  replace H := Option.bind_eq_some_iff.mp H
  obtain ⟨t295, A30, H⟩ := H
  (try dsimp only at H)
  have A3 := Aside0.mk A30
  clear A30
  by_cases c4 : t295 = 3
  ·
   rw [if_pos c4] at H
   have c4b0 : (t295 == 3) = true := beq_iff_eq.mpr c4
   have c4b1 : (t295 != 3) = false := bne_eq_false_iff_eq.mpr c4
   clear c4
   replace H := Option.bind_eq_some_iff.mp H
   obtain ⟨⟨t296, t297, t298, t299, t300, t301, t302, t305⟩, A50, H⟩ := H
   (try dsimp only at H)
   have A5 := Aside0.mk A50
   clear A50
   replace H := Option.bind_eq_some_iff.mp H
   obtain ⟨t308, A60, H⟩ := H
   (try dsimp only at H)
   have A6 := Aside0.mk A60
   clear A60
   by_cases c7 : t308 = 3
   ·
    rw [if_pos c7] at H
    have c7b0 : (t308 == 3) = true := beq_iff_eq.mpr c7
    have c7b1 : (t308 != 3) = false := bne_eq_false_iff_eq.mpr c7
    clear c7
    obtain ⟨y309, hy309⟩ : ∃ y_ : List (S35), y_ = (([(⟨2, 1, 1, (⟨false, 2, 0, ([] : List Int)⟩ : S32), ([] : List (S35))⟩ : S35), (⟨2, 0, 6, (⟨false, 1, 5, ([] : List Int)⟩ : S32), ([] : List (S35))⟩ : S35)] : List (S35))) := ⟨_, rfl⟩
    replace H : ((pred_Any.f k y309).bind fun bt312 => ((pred_Eval.f k bt312.1 bt312.2.1 bt312.2.2.1 bt312.2.2.2.1 bt312.2.2.2.2.1 bt312.2.2.2.2.2.1 bt312.2.2.2.2.2.2.1 bt312.2.2.2.2.2.2.2 y289).bind fun t324 => (if t324 = 1 then ((pred_All.f k (([(⟨2, 1, 1, (⟨false, 2, 0, ([] : List Int)⟩ : S32), ([] : List (S35))⟩ : S35), (⟨2, 0, 6, (⟨false, 1, 5, ([] : List Int)⟩ : S32), ([] : List (S35))⟩ : S35)] : List (S35)))).bind fun bt328 => ((pred_Eval.f k bt328.1 bt328.2.1 bt328.2.2.1 bt328.2.2.2.1 bt328.2.2.2.2.1 bt328.2.2.2.2.2.1 bt328.2.2.2.2.2.2.1 bt328.2.2.2.2.2.2.2 y289).bind fun t340 => (if t340 = 3 then ((pred_All.f k ([] : List (S35))).bind fun bt341 => ((pred_Eval.f k bt341.1 bt341.2.1 bt341.2.2.1 bt341.2.2.2.1 bt341.2.2.2.2.1 bt341.2.2.2.2.2.1 bt341.2.2.2.2.2.2.1 bt341.2.2.2.2.2.2.2 y289).bind fun t353 => (if t353 = 1 then ((pred_Any.f k ([] : List (S35))).bind fun bt354 => ((pred_Eval.f k bt354.1 bt354.2.1 bt354.2.2.1 bt354.2.2.2.1 bt354.2.2.2.2.1 bt354.2.2.2.2.2.1 bt354.2.2.2.2.2.2.1 bt354.2.2.2.2.2.2.2 y289).bind fun t366 => (if t366 = 2 then ((pred_Ok.f y285 0 0 0 false 0 0 ([] : List Int) ([] : List (S35))).bind fun t367 => (if t367 = true then (none) else ((pred_Same.f 2 1 1 false 2 0 ([] : List Int) ([] : List (S35)) 2 1 1 false 2 0 ([] : List Int) ([] : List (S35))).bind fun t368 => (if t368 = true then ((pred_Same.f 2 1 1 false 2 0 ([] : List Int) ([] : List (S35)) 2 0 6 false 1 5 ([] : List Int) ([] : List (S35))).bind fun t369 => (some (!t369))) else (none))))) else (none)))) else (none)))) else (none)))) else (none)))) = some r := by first | (rw [hy309]; with_reducible exact H) | (have H2_ := (Option.bind_some _ _).symm.trans H; rw [hy309]; with_reducible exact H2_) | (have H2_ := (Option.bind_some _ _).symm.trans H; with_reducible exact H2_) | with_reducible exact H | (rw [hy309]; exact H) | exact H
    have Ny309 := Aside0.mk hy309
    clear hy309
    replace H := Option.bind_eq_some_iff.mp H
    obtain ⟨⟨t312, t313, t314, t315, t316, t317, t318, t321⟩, A80, H⟩ := H
    (try dsimp only at H)
    have A8 := Aside0.mk A80
    clear A80
    replace H := Option.bind_eq_some_iff.mp H
    obtain ⟨t324, A90, H⟩ := H
    (try dsimp only at H)
    have A9 := Aside0.mk A90
    clear A90
    by_cases c10 : t324 = 1
    ·
     rw [if_pos c10] at H
     have c10b0 : (t324 == 1) = true := beq_iff_eq.mpr c10
     have c10b1 : (t324 != 1) = false := bne_eq_false_iff_eq.mpr c10
     clear c10
     obtain ⟨y325, hy325⟩ : ∃ y_ : List (S35), y_ = (([(⟨2, 1, 1, (⟨false, 2, 0, ([] : List Int)⟩ : S32), ([] : List (S35))⟩ : S35), (⟨2, 0, 6, (⟨false, 1, 5, ([] : List Int)⟩ : S32), ([] : List (S35))⟩ : S35)] : List (S35))) := ⟨_, rfl⟩
     replace H : ((pred_All.f k y325).bind fun bt328 => ((pred_Eval.f k bt328.1 bt328.2.1 bt328.2.2.1 bt328.2.2.2.1 bt328.2.2.2.2.1 bt328.2.2.2.2.2.1 bt328.2.2.2.2.2.2.1 bt328.2.2.2.2.2.2.2 y289).bind fun t340 => (if t340 = 3 then ((pred_All.f k ([] : List (S35))).bind fun bt341 => ((pred_Eval.f k bt341.1 bt341.2.1 bt341.2.2.1 bt341.2.2.2.1 bt341.2.2.2.2.1 bt341.2.2.2.2.2.1 bt341.2.2.2.2.2.2.1 bt341.2.2.2.2.2.2.2 y289).bind fun t353 => (if t353 = 1 then ((pred_Any.f k ([] : List (S35))).bind fun bt354 => ((pred_Eval.f k bt354.1 bt354.2.1 bt354.2.2.1 bt354.2.2.2.1 bt354.2.2.2.2.1 bt354.2.2.2.2.2.1 bt354.2.2.2.2.2.2.1 bt354.2.2.2.2.2.2.2 y289).bind fun t366 => (if t366 = 2 then ((pred_Ok.f y285 0 0 0 false 0 0 ([] : List Int) ([] : List (S35))).bind fun t367 => (if t367 = true then (none) else ((pred_Same.f 2 1 1 false 2 0 ([] : List Int) ([] : List (S35)) 2 1 1 false 2 0 ([] : List Int) ([] : List (S35))).bind fun t368 => (if t368 = true then ((pred_Same.f 2 1 1 false 2 0 ([] : List Int) ([] : List (S35)) 2 0 6 false 1 5 ([] : List Int) ([] : List (S35))).bind fun t369 => (some (!t369))) else (none))))) else (none)))) else (none)))) else (none)))) = some r := by first | (rw [hy325]; with_reducible exact H) | (have H2_ := (Option.bind_some _ _).symm.trans H; rw [hy325]; with_reducible exact H2_) | (have H2_ := (Option.bind_some _ _).symm.trans H; with_reducible exact H2_) | with_reducible exact H | (rw [hy325]; exact H) | exact H
     have Ny325 := Aside0.mk hy325
     clear hy325
     replace H := Option.bind_eq_some_iff.mp H
     obtain ⟨⟨t328, t329, t330, t331, t332, t333, t334, t337⟩, A110, H⟩ := H
     (try dsimp only at H)
     have A11 := Aside0.mk A110
     clear A110
     replace H := Option.bind_eq_some_iff.mp H
     obtain ⟨t340, A120, H⟩ := H
     (try dsimp only at H)
     have A12 := Aside0.mk A120
     clear A120
     by_cases c13 : t340 = 3
     ·
      rw [if_pos c13] at H
      have c13b0 : (t340 == 3) = true := beq_iff_eq.mpr c13
      have c13b1 : (t340 != 3) = false := bne_eq_false_iff_eq.mpr c13
      clear c13
      replace H := Option.bind_eq_some_iff.mp H
      obtain ⟨⟨t341, t342, t343, t344, t345, t346, t347, t350⟩, A140, H⟩ := H
      (try dsimp only at H)
      have A14 := Aside0.mk A140
      clear A140
      replace H := Option.bind_eq_some_iff.mp H
      obtain ⟨t353, A150, H⟩ := H
      (try dsimp only at H)
      have A15 := Aside0.mk A150
      clear A150
      by_cases c16 : t353 = 1
      ·
       rw [if_pos c16] at H
       have c16b0 : (t353 == 1) = true := beq_iff_eq.mpr c16
       have c16b1 : (t353 != 1) = false := bne_eq_false_iff_eq.mpr c16
       clear c16
       replace H := Option.bind_eq_some_iff.mp H
       obtain ⟨⟨t354, t355, t356, t357, t358, t359, t360, t363⟩, A170, H⟩ := H
       (try dsimp only at H)
       have A17 := Aside0.mk A170
       clear A170
       replace H := Option.bind_eq_some_iff.mp H
       obtain ⟨t366, A180, H⟩ := H
       (try dsimp only at H)
       have A18 := Aside0.mk A180
       clear A180
       by_cases c19 : t366 = 2
       ·
        rw [if_pos c19] at H
        have c19b0 : (t366 == 2) = true := beq_iff_eq.mpr c19
        have c19b1 : (t366 != 2) = false := bne_eq_false_iff_eq.mpr c19
        clear c19
        replace H := Option.bind_eq_some_iff.mp H
        obtain ⟨t367, A200, H⟩ := H
        replace H : (if t367 = true then (none) else ((pred_Same.f 2 1 1 false 2 0 ([] : List Int) ([] : List (S35)) 2 1 1 false 2 0 ([] : List Int) ([] : List (S35))).bind fun t368 => (if t368 = true then ((pred_Same.f 2 1 1 false 2 0 ([] : List Int) ([] : List (S35)) 2 0 6 false 1 5 ([] : List Int) ([] : List (S35))).bind fun t369 => (some (!t369))) else (none)))) = some r := H
        have A20 := Aside0.mk A200
        clear A200
        by_cases c21 : t367 = true
        ·
         subst c21
         have H1 : (none) = some r := by rw [if_pos rfl] at H; exact H
         clear H
         have H := H1
         clear H1
         exact absurd H (by simp)
        ·
         replace c21 := Bool.eq_false_iff.mpr c21
         subst c21
         have H1 : ((pred_Same.f 2 1 1 false 2 0 ([] : List Int) ([] : List (S35)) 2 1 1 false 2 0 ([] : List Int) ([] : List (S35))).bind fun t368 => (if t368 = true then ((pred_Same.f 2 1 1 false 2 0 ([] : List Int) ([] : List (S35)) 2 0 6 false 1 5 ([] : List Int) ([] : List (S35))).bind fun t369 => (some (!t369))) else (none))) = some r := by rw [if_neg (show ¬ (false = true) by decide)] at H; exact H
         clear H
         have H := H1
         clear H1
         replace H := Option.bind_eq_some_iff.mp H
         obtain ⟨t368, A220, H⟩ := H
         replace H : (if t368 = true then ((pred_Same.f 2 1 1 false 2 0 ([] : List Int) ([] : List (S35)) 2 0 6 false 1 5 ([] : List Int) ([] : List (S35))).bind fun t369 => (some (!t369))) else (none)) = some r := H
         have A22 := Aside0.mk A220
         clear A220
         by_cases c23 : t368 = true
         ·
          subst c23
          have H1 : ((pred_Same.f 2 1 1 false 2 0 ([] : List Int) ([] : List (S35)) 2 0 6 false 1 5 ([] : List Int) ([] : List (S35))).bind fun t369 => (some (!t369))) = some r := by rw [if_pos rfl] at H; exact H
          clear H
          have H := H1
          clear H1
          replace H := Option.bind_eq_some_iff.mp H
          obtain ⟨t369, A240, H⟩ := H
          replace H : (some (!t369)) = some r := H
          have A24 := Aside0.mk A240
          clear A240
          obtain rfl := Option.some.inj H
          go_enter Try.func19, Try.ntmps19
          go_wp2_with (first | ((with_reducible refine gate_dst (N := 7) rfl ?_); (try (refine gate_guard (by rfl) ?_; dsimp only)); refine Kd.R_lit k58 _ 58 ?hg (N := 7) ?hd (xs := ([(⟨(⟨#[107, 101, 121]⟩ : ByteArray), 1, false⟩ : S58), (⟨(⟨#[97]⟩ : ByteArray), 2, true⟩ : S58)] : List (S58))) (inner := [.string (⟨#[107, 101, 121]⟩ : ByteArray), .int .i64 1, .bool false, .string (⟨#[97]⟩ : ByteArray), .int .i64 2, .bool true]) (ok := fun _ => True) (okp := fun _ => True) ?hr ?hp (fun _ hk => hk) trivial (Below.refl _ _) (Nat.le_refl _) (by simp) ?_; (case hd => rfl); (case hg => rfl); (case hr => first | (go_simp; done) | (go_simp; rfl)); (case hp => exact (Reps.c3 (show Kd.M k58 _ _ _ (⟨(⟨#[107, 101, 121]⟩ : ByteArray), 1, false⟩ : S58) [.string (⟨#[107, 101, 121]⟩ : ByteArray), .int .i64 1, .bool false] from (k58_mkM _ _ _ (⟨(⟨#[107, 101, 121]⟩ : ByteArray), 1, false⟩ : S58) )) (Reps.c3 (show Kd.M k58 _ _ _ (⟨(⟨#[97]⟩ : ByteArray), 2, true⟩ : S58) [.string (⟨#[97]⟩ : ByteArray), .int .i64 2, .bool true] from (k58_mkM _ _ _ (⟨(⟨#[97]⟩ : ByteArray), 2, true⟩ : S58) )) (Reps.none _ _)))); intro v286 w25 ho26 hb hg_ hnew_; clear hg_ hnew_; (first | rw [← Ny285.out] at ho26 | (simp only [Int.reduceToNat] at ho26; rw [← Ny285.out] at ho26)); have HO287 := Aside0.mk (Kd.R_lower ho26 (below_size (by repeat (first | (with_reducible first | exact HB.out | apply below_alloc | apply pw_below_drewN | apply below_drew1) | exact HB.out)))); replace HB := Aside0.mk (below_step (by repeat (first | (with_reducible first | exact HB.out | apply below_alloc | apply pw_below_drewN | apply below_drew1) | exact HB.out)) hb); clear hb ho26; obtain ⟨Ao27, co27, eo27⟩ := Kd.R_slice HO287.out; subst eo27) | ((with_reducible refine gate_dst (N := 1) rfl ?_); (try (refine gate_guard (by rfl) ?_; dsimp only)); refine box_event ?hg (N := 1) ?hd (cs := #[.slice none 0 0]) (t := 27) ?hr ?_; (case hd => rfl); (case hg => rfl); (case hr => first | (go_simp; done) | (go_simp; rfl)); intro gb288 hg w28 hbox hb; replace HO287 := Aside0.mk (Kd.R_below (by (with_reducible repeat (first | apply Kd.R_alloc | apply Kd.R_drewN | apply Kd.R_drew)); exact HO287.out) hb); have BK288 := Aside0.mk (hbox); have GW288 := Aside0.mk ((by rw [hg]; exact (below_size (by repeat (first | (with_reducible first | exact HB.out | apply below_alloc | apply pw_below_drewN | apply below_drew1) | exact HB.out))) : w.heap.size ≤ gb288)); have GE288 := Aside0.mk ((by rw [hg]; exact (below_size (by repeat (first | (with_reducible first | exact HB.out | apply below_alloc | apply pw_below_drewN | apply below_drew1) | exact HB.out))) : w.heap.size ≤ gb288)); replace HB := Aside0.mk (below_step (by repeat (first | (with_reducible first | exact HB.out | apply below_alloc | apply pw_below_drewN | apply below_drew1) | exact HB.out)) hb); clear hb hbox hg; have hcz29_0 : w28.cell? ⟨gb288, 0, none⟩ = some (.slice none 0 0) := (blk_cell BK288.out 0).trans rfl; have hfz29_0 := blk_frozen BK288.out 0) | ((with_reducible refine gate_dst (N := 11) rfl ?_); (try (refine gate_guard (by rfl) ?_; dsimp only)); refine Kd.S_lit k32 _ 32 ?hg (N := 11) ?hd (xs := ([(⟨false, 1, 5, ([] : List Int)⟩ : S32), (⟨true, 2, 0, ([] : List Int)⟩ : S32)] : List (S32))) (inner := [.bool false, .int .i64 1, .int .i64 5, .slice none 0 0, .bool true, .int .i64 2, .int .i64 0, .slice none 0 0]) (ok := fun _ => True) (okp := fun _ => True) ?hr ?hp (fun _ hk => hk) trivial (Below.refl _ _) (Nat.le_refl _) (by simp) ?_; (case hd => rfl); (case hg => rfl); (case hr => first | (go_simp; done) | (go_simp; rfl)); (case hp => exact (Reps.c4 (show Kd.M k32 _ _ _ (⟨false, 1, 5, ([] : List Int)⟩ : S32) [.bool false, .int .i64 1, .int .i64 5, .slice none 0 0] from (k32_mkM _ _ _ (⟨false, 1, 5, ([] : List Int)⟩ : S32) (Kd.R_nil _ _ _ _ _))) (Reps.c4 (show Kd.M k32 _ _ _ (⟨true, 2, 0, ([] : List Int)⟩ : S32) [.bool true, .int .i64 2, .int .i64 0, .slice none 0 0] from (k32_mkM _ _ _ (⟨true, 2, 0, ([] : List Int)⟩ : S32) (Kd.R_nil _ _ _ _ _))) (Reps.none _ _)))); intro v290 w30 ho31 hb hg_ hnew_; clear hg_ hnew_; (first | rw [← Ny289.out] at ho31 | (simp only [Int.reduceToNat] at ho31; rw [← Ny289.out] at ho31)); replace HO287 := Aside0.mk (Kd.R_below (by (with_reducible repeat (first | apply Kd.R_alloc | apply Kd.R_drewN | apply Kd.R_drew)); exact (Kd.R_mono (Kd.R_far (p := ⟨gb288, 0, none⟩) (Kd.R_types HO287.out BK288.out (by decide)) (fun _ hk => hk.2) (.slice Ao27 y285.length co27)) (fun _ h_ => h_.1))) hb); have HO291 := Aside0.mk (Kd.S_lower ho31 (below_size (by repeat (first | (with_reducible first | exact HB.out | apply below_alloc | apply pw_below_drewN | apply below_drew1 | refine below_set ?_ GE288.out) | exact HB.out)))); replace BK288 := Aside0.mk (blk_below (g := gb288) (o := .cells #[.slice Ao27 y285.length co27] 27 (0, 0)) (by (with_reducible repeat (first | refine blk_drewN ?_ _ | refine blk_drew ?_ | refine blk_alloc ?_ _)); refine blk_put (cs := #[.slice none 0 0]) ?_ 0 _ rfl; (with_reducible repeat (first | refine blk_drewN ?_ _ | refine blk_drew ?_ | refine blk_alloc ?_ _)); exact BK288.out) hb); replace HB := Aside0.mk (below_step (by repeat (first | (with_reducible first | exact HB.out | apply below_alloc | apply pw_below_drewN | apply below_drew1 | refine below_set ?_ GE288.out) | exact HB.out)) hb); clear hb ho31) | ((with_reducible refine gate_dst (N := 3) rfl ?_); (try (refine gate_guard (by rfl) ?_; dsimp only)); refine box_event ?hg (N := 3) ?hd (cs := #[.int .i64 0, .int .i64 0, .int .i64 0, .bool false, .int .i64 0, .int .i64 0, .slice none 0 0, .slice none 0 0]) (t := 35) ?hr ?_; (case hd => rfl); (case hg => rfl); (case hr => first | (go_simp; done) | (go_simp; rfl)); intro gb292 hg w32 hbox hb; replace HO287 := Aside0.mk (Kd.R_below (by (with_reducible repeat (first | apply Kd.R_alloc | apply Kd.R_drewN | apply Kd.R_drew)); exact HO287.out) hb); replace HO291 := Aside0.mk (Kd.S_below (by (with_reducible repeat (first | apply Kd.S_alloc | apply Kd.S_drewN | apply Kd.S_drew)); exact HO291.out) hb); have BK292 := Aside0.mk (hbox); have GW292 := Aside0.mk ((by rw [hg]; exact (below_size (by repeat (first | (with_reducible first | exact HB.out | apply below_alloc | apply pw_below_drewN | apply below_drew1 | refine below_set ?_ GE288.out) | exact HB.out))) : w.heap.size ≤ gb292)); have GE292 := Aside0.mk ((by rw [hg]; exact (below_size (by repeat (first | (with_reducible first | exact HB.out | apply below_alloc | apply pw_below_drewN | apply below_drew1 | refine below_set ?_ GE288.out) | exact HB.out))) : w.heap.size ≤ gb292)); replace HB := Aside0.mk (below_step (by repeat (first | (with_reducible first | exact HB.out | apply below_alloc | apply pw_below_drewN | apply below_drew1 | refine below_set ?_ GE288.out) | exact HB.out)) hb); have NB288_292 := Aside0.mk ((by rw [hg]; exact Nat.ne_of_lt (blk_lt (g := gb288) (o := .cells #[.slice Ao27 y285.length co27] 27 (0, 0)) (by (with_reducible repeat (first | refine blk_drewN ?_ _ | refine blk_drew ?_ | refine blk_alloc ?_ _)); exact BK288.out)) : gb288 ≠ gb292)); have NB292_288 := Aside0.mk ((by rw [hg]; exact Nat.ne_of_gt (blk_lt (g := gb288) (o := .cells #[.slice Ao27 y285.length co27] 27 (0, 0)) (by (with_reducible repeat (first | refine blk_drewN ?_ _ | refine blk_drew ?_ | refine blk_alloc ?_ _)); exact BK288.out)) : gb292 ≠ gb288)); replace BK288 := Aside0.mk (blk_below (g := gb288) (o := .cells #[.slice Ao27 y285.length co27] 27 (0, 0)) (by (with_reducible repeat (first | refine blk_drewN ?_ _ | refine blk_drew ?_ | refine blk_alloc ?_ _)); exact BK288.out) hb); clear hb hbox hg; have hnb33 := NB292_288.out; have hnc33 := NB288_292.out; obtain ⟨hcz34_0, hcz34_1, hcz34_2, hcz34_3, hcz34_4, hcz34_5, hcz34_6, hcz34_7⟩ := cells8 BK292.out; obtain ⟨hfz34_0, hfz34_1, hfz34_2, hfz34_3, hfz34_4, hfz34_5, hfz34_6, hfz34_7⟩ := frozen8 BK292.out) | ((with_reducible refine gate_dst (N := 4) rfl ?_); (try (refine gate_guard (by rfl) ?_; dsimp only)); refine box_event ?hg (N := 4) ?hd (cs := #[.int .i64 0, .int .i64 0, .int .i64 0, .bool false, .int .i64 0, .int .i64 0, .slice none 0 0, .slice none 0 0]) (t := 35) ?hr ?_; (case hd => rfl); (case hg => rfl); (case hr => first | (go_simp; done) | (go_simp; rfl)); intro gb293 hg w35 hbox hb; replace HO287 := Aside0.mk (Kd.R_below (by (with_reducible repeat (first | apply Kd.R_alloc | apply Kd.R_drewN | apply Kd.R_drew)); exact (Kd.R_mono (Kd.R_far (p := ⟨gb292, 7, none⟩) (Kd.R_far (p := ⟨gb292, 6, none⟩) (Kd.R_far (p := ⟨gb292, 5, none⟩) (Kd.R_far (p := ⟨gb292, 4, none⟩) (Kd.R_far (p := ⟨gb292, 3, none⟩) (Kd.R_far (p := ⟨gb292, 2, none⟩) (Kd.R_far (p := ⟨gb292, 1, none⟩) (Kd.R_far (p := ⟨gb292, 0, none⟩) (Kd.R_types HO287.out BK292.out (by decide)) (fun _ hk => hk.2) (.int .i64 2)) (fun _ hk => hk.2) (.int .i64 1)) (fun _ hk => hk.2) (.int .i64 1)) (fun _ hk => hk.2) (.bool false)) (fun _ hk => hk.2) (.int .i64 2)) (fun _ hk => hk.2) (.int .i64 0)) (fun _ hk => hk.2) (.slice none 0 0)) (fun _ hk => hk.2) (.slice none 0 0)) (fun _ h_ => h_.1))) hb); replace HO291 := Aside0.mk (Kd.S_below (by (with_reducible repeat (first | apply Kd.S_alloc | apply Kd.S_drewN | apply Kd.S_drew)); exact (Kd.S_mono (Kd.S_far (p := ⟨gb292, 7, none⟩) (Kd.S_far (p := ⟨gb292, 6, none⟩) (Kd.S_far (p := ⟨gb292, 5, none⟩) (Kd.S_far (p := ⟨gb292, 4, none⟩) (Kd.S_far (p := ⟨gb292, 3, none⟩) (Kd.S_far (p := ⟨gb292, 2, none⟩) (Kd.S_far (p := ⟨gb292, 1, none⟩) (Kd.S_far (p := ⟨gb292, 0, none⟩) (Kd.S_types HO291.out BK292.out (by decide)) (fun _ hk => hk.2) (.int .i64 2)) (fun _ hk => hk.2) (.int .i64 1)) (fun _ hk => hk.2) (.int .i64 1)) (fun _ hk => hk.2) (.bool false)) (fun _ hk => hk.2) (.int .i64 2)) (fun _ hk => hk.2) (.int .i64 0)) (fun _ hk => hk.2) (.slice none 0 0)) (fun _ hk => hk.2) (.slice none 0 0)) (fun _ h_ => h_.1))) hb); have BK293 := Aside0.mk (hbox); have GW293 := Aside0.mk ((by rw [hg]; exact (below_size (by repeat (first | (with_reducible first | exact HB.out | apply below_alloc | apply pw_below_drewN | apply below_drew1 | refine below_set ?_ GE288.out | refine below_set ?_ GE292.out) | exact HB.out))) : w.heap.size ≤ gb293)); have GE293 := Aside0.mk ((by rw [hg]; exact (below_size (by repeat (first | (with_reducible first | exact HB.out | apply below_alloc | apply pw_below_drewN | apply below_drew1 | refine below_set ?_ GE288.out | refine below_set ?_ GE292.out) | exact HB.out))) : w.heap.size ≤ gb293)); replace HB := Aside0.mk (below_step (by repeat (first | (with_reducible first | exact HB.out | apply below_alloc | apply pw_below_drewN | apply below_drew1 | refine below_set ?_ GE288.out | refine below_set ?_ GE292.out) | exact HB.out)) hb); have NB288_293 := Aside0.mk ((by rw [hg]; exact Nat.ne_of_lt (blk_lt (g := gb288) (o := .cells #[.slice Ao27 y285.length co27] 27 (0, 0)) (by (with_reducible repeat (first | refine blk_drewN ?_ _ | refine blk_drew ?_ | refine blk_alloc ?_ _)); refine blk_far8 ?_ NB288_292.out; (with_reducible repeat (first | refine blk_drewN ?_ _ | refine blk_drew ?_ | refine blk_alloc ?_ _)); exact BK288.out)) : gb288 ≠ gb293)); have NB293_288 := Aside0.mk ((by rw [hg]; exact Nat.ne_of_gt (blk_lt (g := gb288) (o := .cells #[.slice Ao27 y285.length co27] 27 (0, 0)) (by (with_reducible repeat (first | refine blk_drewN ?_ _ | refine blk_drew ?_ | refine blk_alloc ?_ _)); refine blk_far8 ?_ NB288_292.out; (with_reducible repeat (first | refine blk_drewN ?_ _ | refine blk_drew ?_ | refine blk_alloc ?_ _)); exact BK288.out)) : gb293 ≠ gb288)); replace BK288 := Aside0.mk (blk_below (g := gb288) (o := .cells #[.slice Ao27 y285.length co27] 27 (0, 0)) (by (with_reducible repeat (first | refine blk_drewN ?_ _ | refine blk_drew ?_ | refine blk_alloc ?_ _)); refine blk_far8 ?_ NB288_292.out; (with_reducible repeat (first | refine blk_drewN ?_ _ | refine blk_drew ?_ | refine blk_alloc ?_ _)); exact BK288.out) hb); have NB292_293 := Aside0.mk ((by rw [hg]; exact Nat.ne_of_lt (blk_lt (g := gb292) (o := .cells #[.int .i64 2, .int .i64 1, .int .i64 1, .bool false, .int .i64 2, .int .i64 0, .slice none 0 0, .slice none 0 0] 35 (0, 0)) (by (with_reducible repeat (first | refine blk_drewN ?_ _ | refine blk_drew ?_ | refine blk_alloc ?_ _)); apply blk_all8; (with_reducible repeat (first | refine blk_drewN ?_ _ | refine blk_drew ?_ | refine blk_alloc ?_ _)); exact BK292.out)) : gb292 ≠ gb293)); have NB293_292 := Aside0.mk ((by rw [hg]; exact Nat.ne_of_gt (blk_lt (g := gb292) (o := .cells #[.int .i64 2, .int .i64 1, .int .i64 1, .bool false, .int .i64 2, .int .i64 0, .slice none 0 0, .slice none 0 0] 35 (0, 0)) (by (with_reducible repeat (first | refine blk_drewN ?_ _ | refine blk_drew ?_ | refine blk_alloc ?_ _)); apply blk_all8; (with_reducible repeat (first | refine blk_drewN ?_ _ | refine blk_drew ?_ | refine blk_alloc ?_ _)); exact BK292.out)) : gb293 ≠ gb292)); replace BK292 := Aside0.mk (blk_below (g := gb292) (o := .cells #[.int .i64 2, .int .i64 1, .int .i64 1, .bool false, .int .i64 2, .int .i64 0, .slice none 0 0, .slice none 0 0] 35 (0, 0)) (by (with_reducible repeat (first | refine blk_drewN ?_ _ | refine blk_drew ?_ | refine blk_alloc ?_ _)); apply blk_all8; (with_reducible repeat (first | refine blk_drewN ?_ _ | refine blk_drew ?_ | refine blk_alloc ?_ _)); exact BK292.out) hb); clear hb hbox hg; have hnb36 := NB293_288.out; have hnc36 := NB288_293.out; have hnb37 := NB293_292.out; have hnc37 := NB292_293.out; obtain ⟨hcz38_0, hcz38_1, hcz38_2, hcz38_3, hcz38_4, hcz38_5, hcz38_6, hcz38_7⟩ := cells8 BK293.out; obtain ⟨hfz38_0, hfz38_1, hfz38_2, hfz38_3, hfz38_4, hfz38_5, hfz38_6, hfz38_7⟩ := frozen8 BK293.out; have hcz39_0 : w35.cell? ⟨gb288, 0, none⟩ = some (.slice Ao27 y285.length co27) := (blk_cell BK288.out 0).trans rfl; have hfz39_0 := blk_frozen BK288.out 0; obtain ⟨hcz40_0, hcz40_1, hcz40_2, hcz40_3, hcz40_4, hcz40_5, hcz40_6, hcz40_7⟩ := cells8 BK292.out; obtain ⟨hfz40_0, hfz40_1, hfz40_2, hfz40_3, hfz40_4, hfz40_5, hfz40_6, hfz40_7⟩ := frozen8 BK292.out))
          (refine (pred_Ok.calls _ _ y285 2 1 1 false 2 0 _ _ ([] : List Int) _ _ ([] : List (S35)) true _ ?side1 ?side2 ?side3 ?side4 ?side5 ?side6 A1.out).mono ?_)
          (case side1 => refine (Kd.R_reads' (e := 58) (base := w.heap.size) (ok := fun k_ => True) (n := y285.length) (c := co27) ?_).2.2; exact (by (with_reducible repeat (first | apply Kd.R_alloc | apply Kd.R_drewN | apply Kd.R_drew)); exact (Kd.R_mono (Kd.R_far (p := ⟨gb293, 7, none⟩) (Kd.R_far (p := ⟨gb293, 6, none⟩) (Kd.R_far (p := ⟨gb293, 5, none⟩) (Kd.R_far (p := ⟨gb293, 4, none⟩) (Kd.R_far (p := ⟨gb293, 3, none⟩) (Kd.R_far (p := ⟨gb293, 2, none⟩) (Kd.R_far (p := ⟨gb293, 1, none⟩) (Kd.R_far (p := ⟨gb293, 0, none⟩) (Kd.R_types HO287.out BK293.out (by decide)) (fun _ hk => hk.2) (.int .i64 2)) (fun _ hk => hk.2) (.int .i64 0)) (fun _ hk => hk.2) (.int .i64 6)) (fun _ hk => hk.2) (.bool false)) (fun _ hk => hk.2) (.int .i64 1)) (fun _ hk => hk.2) (.int .i64 5)) (fun _ hk => hk.2) (.slice none 0 0)) (fun _ hk => hk.2) (.slice none 0 0)) (fun _ h_ => h_.1))))
          (case side2 => exact (Kd.R_reads' HO287.out).2.1)
          (case side3 => exact Kd.C_nil _ _)
          (case side4 => exact Nat.le_refl _)
          (case side5 => exact Kd.C_nil _ _)
          (case side6 => exact Nat.le_refl _)
          rintro e w41 ⟨rfl, hb⟩
          replace HO287 := Aside0.mk (Kd.R_below (by (with_reducible repeat (first | apply Kd.R_alloc | apply Kd.R_drewN | apply Kd.R_drew)); exact (Kd.R_mono (Kd.R_far (p := ⟨gb293, 7, none⟩) (Kd.R_far (p := ⟨gb293, 6, none⟩) (Kd.R_far (p := ⟨gb293, 5, none⟩) (Kd.R_far (p := ⟨gb293, 4, none⟩) (Kd.R_far (p := ⟨gb293, 3, none⟩) (Kd.R_far (p := ⟨gb293, 2, none⟩) (Kd.R_far (p := ⟨gb293, 1, none⟩) (Kd.R_far (p := ⟨gb293, 0, none⟩) (Kd.R_types HO287.out BK293.out (by decide)) (fun _ hk => hk.2) (.int .i64 2)) (fun _ hk => hk.2) (.int .i64 0)) (fun _ hk => hk.2) (.int .i64 6)) (fun _ hk => hk.2) (.bool false)) (fun _ hk => hk.2) (.int .i64 1)) (fun _ hk => hk.2) (.int .i64 5)) (fun _ hk => hk.2) (.slice none 0 0)) (fun _ hk => hk.2) (.slice none 0 0)) (fun _ h_ => h_.1))) hb)
          replace HO291 := Aside0.mk (Kd.S_below (by (with_reducible repeat (first | apply Kd.S_alloc | apply Kd.S_drewN | apply Kd.S_drew)); exact (Kd.S_mono (Kd.S_far (p := ⟨gb293, 7, none⟩) (Kd.S_far (p := ⟨gb293, 6, none⟩) (Kd.S_far (p := ⟨gb293, 5, none⟩) (Kd.S_far (p := ⟨gb293, 4, none⟩) (Kd.S_far (p := ⟨gb293, 3, none⟩) (Kd.S_far (p := ⟨gb293, 2, none⟩) (Kd.S_far (p := ⟨gb293, 1, none⟩) (Kd.S_far (p := ⟨gb293, 0, none⟩) (Kd.S_types HO291.out BK293.out (by decide)) (fun _ hk => hk.2) (.int .i64 2)) (fun _ hk => hk.2) (.int .i64 0)) (fun _ hk => hk.2) (.int .i64 6)) (fun _ hk => hk.2) (.bool false)) (fun _ hk => hk.2) (.int .i64 1)) (fun _ hk => hk.2) (.int .i64 5)) (fun _ hk => hk.2) (.slice none 0 0)) (fun _ hk => hk.2) (.slice none 0 0)) (fun _ h_ => h_.1))) hb)
          replace BK288 := Aside0.mk (blk_below (g := gb288) (o := .cells #[.slice Ao27 y285.length co27] 27 (0, 0)) (by (with_reducible repeat (first | refine blk_drewN ?_ _ | refine blk_drew ?_ | refine blk_alloc ?_ _)); refine blk_far8 ?_ NB288_293.out; (with_reducible repeat (first | refine blk_drewN ?_ _ | refine blk_drew ?_ | refine blk_alloc ?_ _)); exact BK288.out) hb)
          replace BK292 := Aside0.mk (blk_below (g := gb292) (o := .cells #[.int .i64 2, .int .i64 1, .int .i64 1, .bool false, .int .i64 2, .int .i64 0, .slice none 0 0, .slice none 0 0] 35 (0, 0)) (by (with_reducible repeat (first | refine blk_drewN ?_ _ | refine blk_drew ?_ | refine blk_alloc ?_ _)); refine blk_far8 ?_ NB292_293.out; (with_reducible repeat (first | refine blk_drewN ?_ _ | refine blk_drew ?_ | refine blk_alloc ?_ _)); exact BK292.out) hb)
          replace BK293 := Aside0.mk (blk_below (g := gb293) (o := .cells #[.int .i64 2, .int .i64 0, .int .i64 6, .bool false, .int .i64 1, .int .i64 5, .slice none 0 0, .slice none 0 0] 35 (0, 0)) (by (with_reducible repeat (first | refine blk_drewN ?_ _ | refine blk_drew ?_ | refine blk_alloc ?_ _)); apply blk_all8; (with_reducible repeat (first | refine blk_drewN ?_ _ | refine blk_drew ?_ | refine blk_alloc ?_ _)); exact BK293.out) hb)
          replace HB := Aside0.mk (below_step (by repeat (first | (with_reducible first | exact HB.out | apply below_alloc | apply pw_below_drewN | apply below_drew1 | refine below_set ?_ GE288.out | refine below_set ?_ GE292.out | refine below_set ?_ GE293.out) | exact HB.out)) hb)
          (try clear hb)
          (try clear hb2)
          (try clear hk)
          (try clear hi)
          obtain ⟨hcz42_0, hcz42_1, hcz42_2, hcz42_3, hcz42_4, hcz42_5, hcz42_6, hcz42_7⟩ := cells8 BK292.out
          obtain ⟨hfz42_0, hfz42_1, hfz42_2, hfz42_3, hfz42_4, hfz42_5, hfz42_6, hfz42_7⟩ := frozen8 BK292.out
          obtain ⟨Ao43, co43, eo43⟩ := Kd.S_slice HO291.out
          subst eo43
          go_wp2_with fail
          (refine (pred_Eval.calls k 2 1 1 false 2 0 _ _ ([] : List Int) _ _ ([] : List (S35)) _ _ y289 t295 _ ?side1 ?side2 ?side3 ?side4 ?side5 ?side6 A3.out).mono ?_)
          (case side1 => exact Kd.C_nil _ _)
          (case side2 => exact Nat.le_refl _)
          (case side3 => exact Kd.C_nil _ _)
          (case side4 => exact Nat.le_refl _)
          (case side5 => repeat (first | exact (Kd.S_reads' HO291.out).2.2 | (with_reducible refine Kd.C_alloc ?_ _) | (with_reducible refine Kd.C_drewN ?_ _) | (with_reducible refine Kd.C_drew ?_)))
          (case side6 => exact (Kd.S_reads' HO291.out).2.1)
          rintro e w44 ⟨rfl, hb⟩
          replace HO287 := Aside0.mk (Kd.R_below (by (with_reducible repeat (first | apply Kd.R_alloc | apply Kd.R_drewN | apply Kd.R_drew)); exact HO287.out) hb)
          replace HO291 := Aside0.mk (Kd.S_below (by (with_reducible repeat (first | apply Kd.S_alloc | apply Kd.S_drewN | apply Kd.S_drew)); exact HO291.out) hb)
          replace BK288 := Aside0.mk (blk_below (g := gb288) (o := .cells #[.slice Ao27 y285.length co27] 27 (0, 0)) (by (with_reducible repeat (first | refine blk_drewN ?_ _ | refine blk_drew ?_ | refine blk_alloc ?_ _)); exact BK288.out) hb)
          replace BK292 := Aside0.mk (blk_below (g := gb292) (o := .cells #[.int .i64 2, .int .i64 1, .int .i64 1, .bool false, .int .i64 2, .int .i64 0, .slice none 0 0, .slice none 0 0] 35 (0, 0)) (by (with_reducible repeat (first | refine blk_drewN ?_ _ | refine blk_drew ?_ | refine blk_alloc ?_ _)); exact BK292.out) hb)
          replace BK293 := Aside0.mk (blk_below (g := gb293) (o := .cells #[.int .i64 2, .int .i64 0, .int .i64 6, .bool false, .int .i64 1, .int .i64 5, .slice none 0 0, .slice none 0 0] 35 (0, 0)) (by (with_reducible repeat (first | refine blk_drewN ?_ _ | refine blk_drew ?_ | refine blk_alloc ?_ _)); exact BK293.out) hb)
          replace HB := Aside0.mk (below_step (by repeat (first | (with_reducible first | exact HB.out | apply below_alloc | apply pw_below_drewN | apply below_drew1 | refine below_set ?_ GE288.out | refine below_set ?_ GE292.out | refine below_set ?_ GE293.out) | exact HB.out)) hb)
          (try clear hb)
          (try clear hb2)
          (try clear hk)
          (try clear hi)
          obtain ⟨hcz45_0, hcz45_1, hcz45_2, hcz45_3, hcz45_4, hcz45_5, hcz45_6, hcz45_7⟩ := cells8 BK292.out
          obtain ⟨hfz45_0, hfz45_1, hfz45_2, hfz45_3, hfz45_4, hfz45_5, hfz45_6, hfz45_7⟩ := frozen8 BK292.out
          go_wp2_with fail
          (refine (pred_Not.calls k 2 1 1 false 2 0 (fun k_ => False) _ _ ([] : List Int) (fun k_ => False) _ _ ([] : List (S35)) t296 t297 t298 t299 t300 t301 t302 t305 _ ?side1 ?side2 A5.out).mono ?_)
          (case side1 => exact Kd.V_nil _ _ _ _ _)
          (case side2 => exact Kd.V_nil _ _ _ _ _)
          rintro e w46 ⟨v303, v306, rfl, ho0, ho1, hb⟩
          have HO304 := Aside0.mk (Kd.R_lower (Kd.R_mono (ok' := fun k_ => True) ho0 (fun _ hk_ => trivial)) (below_size (by repeat (first | (with_reducible first | exact HB.out | apply below_alloc | apply pw_below_drewN | apply below_drew1 | refine below_set ?_ GE288.out | refine below_set ?_ GE292.out | refine below_set ?_ GE293.out) | exact HB.out))))
          have HO307 := Aside0.mk (Kd.V_lower (Kd.V_mono (ok' := fun k_ => some k_ ≠ (v303 : Value).ownBlock ∧ some k_ ≠ (.slice Ao27 y285.length co27 : Value).ownBlock ∧ some k_ ≠ (.slice Ao43 y289.length co43 : Value).ownBlock ∧ k_ ≠ gb288 ∧ k_ ≠ gb292 ∧ k_ ≠ gb293) ho1 (fun k_ hk_ => ⟨hk_.2, Or.elim hk_.1 (fun hs_ => Or.elim hs_ (fun hs_ => (hs_).elim) (fun hs_ => (hs_).elim)) (fun hn_ => (Kd.fresh' (Kd.R_lt (by (with_reducible repeat (first | apply Kd.R_alloc | apply Kd.R_drewN | apply Kd.R_drew)); exact HO287.out)) k_ hn_)), Or.elim hk_.1 (fun hs_ => Or.elim hs_ (fun hs_ => (hs_).elim) (fun hs_ => (hs_).elim)) (fun hn_ => (Kd.fresh' (Kd.S_lt (by (with_reducible repeat (first | apply Kd.S_alloc | apply Kd.S_drewN | apply Kd.S_drew)); exact HO291.out)) k_ hn_)), Or.elim hk_.1 (fun hs_ => Or.elim hs_ (fun hs_ => (hs_).elim) (fun hs_ => (hs_).elim)) (fun hn_ => (Kd.freshB (g := gb288) (o := .cells #[.slice Ao27 y285.length co27] 27 (0, 0)) (by (with_reducible repeat (first | refine blk_drewN ?_ _ | refine blk_drew ?_ | refine blk_alloc ?_ _)); exact BK288.out) k_ hn_)), Or.elim hk_.1 (fun hs_ => Or.elim hs_ (fun hs_ => (hs_).elim) (fun hs_ => (hs_).elim)) (fun hn_ => (Kd.freshB (g := gb292) (o := .cells #[.int .i64 2, .int .i64 1, .int .i64 1, .bool false, .int .i64 2, .int .i64 0, .slice none 0 0, .slice none 0 0] 35 (0, 0)) (by (with_reducible repeat (first | refine blk_drewN ?_ _ | refine blk_drew ?_ | refine blk_alloc ?_ _)); exact BK292.out) k_ hn_)), Or.elim hk_.1 (fun hs_ => Or.elim hs_ (fun hs_ => (hs_).elim) (fun hs_ => (hs_).elim)) (fun hn_ => (Kd.freshB (g := gb293) (o := .cells #[.int .i64 2, .int .i64 0, .int .i64 6, .bool false, .int .i64 1, .int .i64 5, .slice none 0 0, .slice none 0 0] 35 (0, 0)) (by (with_reducible repeat (first | refine blk_drewN ?_ _ | refine blk_drew ?_ | refine blk_alloc ?_ _)); exact BK293.out) k_ hn_))⟩)) (below_size (by repeat (first | (with_reducible first | exact HB.out | apply below_alloc | apply pw_below_drewN | apply below_drew1 | refine below_set ?_ GE288.out | refine below_set ?_ GE292.out | refine below_set ?_ GE293.out) | exact HB.out))))
          replace HO287 := Aside0.mk (Kd.R_below (by (with_reducible repeat (first | apply Kd.R_alloc | apply Kd.R_drewN | apply Kd.R_drew)); exact HO287.out) hb)
          replace HO291 := Aside0.mk (Kd.S_elder' (by (with_reducible repeat (first | apply Kd.S_alloc | apply Kd.S_drewN | apply Kd.S_drew)); exact HO291.out) (Kd.R_base ho0) hb)
          replace BK288 := Aside0.mk (blk_below (g := gb288) (o := .cells #[.slice Ao27 y285.length co27] 27 (0, 0)) (by (with_reducible repeat (first | refine blk_drewN ?_ _ | refine blk_drew ?_ | refine blk_alloc ?_ _)); exact BK288.out) hb)
          replace BK292 := Aside0.mk (blk_below (g := gb292) (o := .cells #[.int .i64 2, .int .i64 1, .int .i64 1, .bool false, .int .i64 2, .int .i64 0, .slice none 0 0, .slice none 0 0] 35 (0, 0)) (by (with_reducible repeat (first | refine blk_drewN ?_ _ | refine blk_drew ?_ | refine blk_alloc ?_ _)); exact BK292.out) hb)
          replace BK293 := Aside0.mk (blk_below (g := gb293) (o := .cells #[.int .i64 2, .int .i64 0, .int .i64 6, .bool false, .int .i64 1, .int .i64 5, .slice none 0 0, .slice none 0 0] 35 (0, 0)) (by (with_reducible repeat (first | refine blk_drewN ?_ _ | refine blk_drew ?_ | refine blk_alloc ?_ _)); exact BK293.out) hb)
          replace HB := Aside0.mk (below_step (by repeat (first | (with_reducible first | exact HB.out | apply below_alloc | apply pw_below_drewN | apply below_drew1 | refine below_set ?_ GE288.out | refine below_set ?_ GE292.out | refine below_set ?_ GE293.out) | exact HB.out)) hb)
          (try clear hb)
          (try clear hb2)
          (try clear hk)
          (try clear hi)
          (try clear ho0)
          (try clear ho1)
          obtain ⟨Ao47, co47, eo47⟩ := Kd.R_slice HO304.out
          subst eo47
          obtain ⟨Ao48, co48, eo48⟩ := Kd.V_slice HO307.out
          subst eo48
          go_wp2_with fail
          (with_reducible refine (pred_Eval.calls k t296 t297 t298 t299 t300 t301 _ _ t302 _ _ t305 _ _ y289 t308 _ ?side1 ?side2 ?side3 ?side4 ?side5 ?side6 A6.out).mono ?_)
          (case side1 => repeat (first | exact (Kd.R_reads' HO304.out).2.2 | (with_reducible refine Kd.C_alloc ?_ _) | (with_reducible refine Kd.C_drewN ?_ _) | (with_reducible refine Kd.C_drew ?_)))
          (case side2 => exact (Kd.R_reads' HO304.out).2.1)
          (case side3 => repeat (first | exact (Kd.V_reads' HO307.out).2.2 | (with_reducible refine Kd.C_alloc ?_ _) | (with_reducible refine Kd.C_drewN ?_ _) | (with_reducible refine Kd.C_drew ?_)))
          (case side4 => exact (Kd.V_reads' HO307.out).2.1)
          (case side5 => repeat (first | exact (Kd.S_reads' HO291.out).2.2 | (with_reducible refine Kd.C_alloc ?_ _) | (with_reducible refine Kd.C_drewN ?_ _) | (with_reducible refine Kd.C_drew ?_)))
          (case side6 => exact (Kd.S_reads' HO291.out).2.1)
          rintro e w49 ⟨rfl, hb⟩
          replace HO287 := Aside0.mk (Kd.R_below (by (with_reducible repeat (first | apply Kd.R_alloc | apply Kd.R_drewN | apply Kd.R_drew)); exact HO287.out) hb)
          replace HO291 := Aside0.mk (Kd.S_below (by (with_reducible repeat (first | apply Kd.S_alloc | apply Kd.S_drewN | apply Kd.S_drew)); exact HO291.out) hb)
          replace HO304 := Aside0.mk (Kd.R_below (by (with_reducible repeat (first | apply Kd.R_alloc | apply Kd.R_drewN | apply Kd.R_drew)); exact HO304.out) hb)
          replace HO307 := Aside0.mk (Kd.V_below (by (with_reducible repeat (first | apply Kd.V_alloc | apply Kd.V_drewN | apply Kd.V_drew)); exact HO307.out) hb)
          replace BK288 := Aside0.mk (blk_below (g := gb288) (o := .cells #[.slice Ao27 y285.length co27] 27 (0, 0)) (by (with_reducible repeat (first | refine blk_drewN ?_ _ | refine blk_drew ?_ | refine blk_alloc ?_ _)); exact BK288.out) hb)
          replace BK292 := Aside0.mk (blk_below (g := gb292) (o := .cells #[.int .i64 2, .int .i64 1, .int .i64 1, .bool false, .int .i64 2, .int .i64 0, .slice none 0 0, .slice none 0 0] 35 (0, 0)) (by (with_reducible repeat (first | refine blk_drewN ?_ _ | refine blk_drew ?_ | refine blk_alloc ?_ _)); exact BK292.out) hb)
          replace BK293 := Aside0.mk (blk_below (g := gb293) (o := .cells #[.int .i64 2, .int .i64 0, .int .i64 6, .bool false, .int .i64 1, .int .i64 5, .slice none 0 0, .slice none 0 0] 35 (0, 0)) (by (with_reducible repeat (first | refine blk_drewN ?_ _ | refine blk_drew ?_ | refine blk_alloc ?_ _)); exact BK293.out) hb)
          replace HB := Aside0.mk (below_step (by repeat (first | (with_reducible first | exact HB.out | apply below_alloc | apply pw_below_drewN | apply below_drew1 | refine below_set ?_ GE288.out | refine below_set ?_ GE292.out | refine below_set ?_ GE293.out) | exact HB.out)) hb)
          (try clear hb)
          (try clear hb2)
          (try clear hk)
          (try clear hi)
          obtain ⟨hcz50_0, hcz50_1, hcz50_2, hcz50_3, hcz50_4, hcz50_5, hcz50_6, hcz50_7⟩ := cells8 BK292.out
          obtain ⟨hfz50_0, hfz50_1, hfz50_2, hfz50_3, hfz50_4, hfz50_5, hfz50_6, hfz50_7⟩ := frozen8 BK292.out
          obtain ⟨hcz51_0, hcz51_1, hcz51_2, hcz51_3, hcz51_4, hcz51_5, hcz51_6, hcz51_7⟩ := cells8 BK293.out
          obtain ⟨hfz51_0, hfz51_1, hfz51_2, hfz51_3, hfz51_4, hfz51_5, hfz51_6, hfz51_7⟩ := frozen8 BK293.out
          go_wp2_with (first | ((with_reducible refine gate_dst (N := 35) rfl ?_); (try (refine gate_guard (by rfl) ?_; dsimp only)); refine Kd.R_lit k35 _ 35 ?hg (N := 35) ?hd (xs := ([(⟨2, 1, 1, (⟨false, 2, 0, ([] : List Int)⟩ : S32), ([] : List (S35))⟩ : S35), (⟨2, 0, 6, (⟨false, 1, 5, ([] : List Int)⟩ : S32), ([] : List (S35))⟩ : S35)] : List (S35))) (inner := [.int .i64 2, .int .i64 1, .int .i64 1, .bool false, .int .i64 2, .int .i64 0, .slice none 0 0, .slice none 0 0, .int .i64 2, .int .i64 0, .int .i64 6, .bool false, .int .i64 1, .int .i64 5, .slice none 0 0, .slice none 0 0]) (ok := fun _ => True) (okp := fun _ => True) ?hr ?hp (fun _ hk => hk) trivial (Below.refl _ _) (Nat.le_refl _) (by simp) ?_; (case hd => rfl); (case hg => rfl); (case hr => first | (go_simp; done) | (go_simp; rfl)); (case hp => exact (Reps.c8 (show Kd.M k35 _ _ _ (⟨2, 1, 1, (⟨false, 2, 0, ([] : List Int)⟩ : S32), ([] : List (S35))⟩ : S35) [.int .i64 2, .int .i64 1, .int .i64 1, .bool false, .int .i64 2, .int .i64 0, .slice none 0 0, .slice none 0 0] from (k35_mkM _ _ _ (⟨2, 1, 1, (⟨false, 2, 0, ([] : List Int)⟩ : S32), ([] : List (S35))⟩ : S35) (Kd.R_nil _ _ _ _ _) (Kd.R_nil _ _ _ _ _))) (Reps.c8 (show Kd.M k35 _ _ _ (⟨2, 0, 6, (⟨false, 1, 5, ([] : List Int)⟩ : S32), ([] : List (S35))⟩ : S35) [.int .i64 2, .int .i64 0, .int .i64 6, .bool false, .int .i64 1, .int .i64 5, .slice none 0 0, .slice none 0 0] from (k35_mkM _ _ _ (⟨2, 0, 6, (⟨false, 1, 5, ([] : List Int)⟩ : S32), ([] : List (S35))⟩ : S35) (Kd.R_nil _ _ _ _ _) (Kd.R_nil _ _ _ _ _))) (Reps.none _ _)))); intro v310 w52 ho53 hb hg_ hnew_; clear hg_ hnew_; (first | rw [← Ny309.out] at ho53 | (simp only [Int.reduceToNat] at ho53; rw [← Ny309.out] at ho53)); have n0_ := Aside0.mk (Kd.R_below (by (with_reducible repeat (first | apply Kd.R_alloc | apply Kd.R_drewN | apply Kd.R_drew)); exact HO287.out) hb); have n1_ := Aside0.mk (Kd.S_below (by (with_reducible repeat (first | apply Kd.S_alloc | apply Kd.S_drewN | apply Kd.S_drew)); exact HO291.out) hb); have n2_ := Aside0.mk (Kd.R_below (by (with_reducible repeat (first | apply Kd.R_alloc | apply Kd.R_drewN | apply Kd.R_drew)); exact HO304.out) hb); have n3_ := Aside0.mk (Kd.V_elder' (by (with_reducible repeat (first | apply Kd.V_alloc | apply Kd.V_drewN | apply Kd.V_drew)); exact HO307.out) (Kd.R_base ho53) hb); have n4_ := Aside0.mk (Kd.R_lower (Kd.R_newB (Kd.R_newB (Kd.R_new' ho53 (Kd.R_lt (by (with_reducible repeat (first | apply Kd.R_alloc | apply Kd.R_drewN | apply Kd.R_drew)); exact HO304.out))) (g := gb292) (o := .cells #[.int .i64 2, .int .i64 1, .int .i64 1, .bool false, .int .i64 2, .int .i64 0, .slice none 0 0, .slice none 0 0] 35 (0, 0)) (by (with_reducible repeat (first | refine blk_drewN ?_ _ | refine blk_drew ?_ | refine blk_alloc ?_ _)); exact BK292.out)) (g := gb293) (o := .cells #[.int .i64 2, .int .i64 0, .int .i64 6, .bool false, .int .i64 1, .int .i64 5, .slice none 0 0, .slice none 0 0] 35 (0, 0)) (by (with_reducible repeat (first | refine blk_drewN ?_ _ | refine blk_drew ?_ | refine blk_alloc ?_ _)); exact BK293.out)) (below_size (by repeat (first | (with_reducible first | exact HB.out | apply below_alloc | apply pw_below_drewN | apply below_drew1 | refine below_set ?_ GE288.out | refine below_set ?_ GE292.out | refine below_set ?_ GE293.out) | exact HB.out)))); have n5_ := Aside0.mk (blk_below (g := gb288) (o := .cells #[.slice Ao27 y285.length co27] 27 (0, 0)) (by (with_reducible repeat (first | refine blk_drewN ?_ _ | refine blk_drew ?_ | refine blk_alloc ?_ _)); exact BK288.out) hb); have n6_ := Aside0.mk (blk_below (g := gb292) (o := .cells #[.int .i64 2, .int .i64 1, .int .i64 1, .bool false, .int .i64 2, .int .i64 0, .slice none 0 0, .slice none 0 0] 35 (0, 0)) (by (with_reducible repeat (first | refine blk_drewN ?_ _ | refine blk_drew ?_ | refine blk_alloc ?_ _)); exact BK292.out) hb); have n7_ := Aside0.mk (blk_below (g := gb293) (o := .cells #[.int .i64 2, .int .i64 0, .int .i64 6, .bool false, .int .i64 1, .int .i64 5, .slice none 0 0, .slice none 0 0] 35 (0, 0)) (by (with_reducible repeat (first | refine blk_drewN ?_ _ | refine blk_drew ?_ | refine blk_alloc ?_ _)); exact BK293.out) hb); have n8_ := Aside0.mk (below_step (by repeat (first | (with_reducible first | exact HB.out | apply below_alloc | apply pw_below_drewN | apply below_drew1 | refine below_set ?_ GE288.out | refine below_set ?_ GE292.out | refine below_set ?_ GE293.out) | exact HB.out)) hb); clear HO287; clear HO291; clear HO304; clear HO307; clear BK288; clear BK292; clear BK293; clear HB; have HO287 := n0_; have HO291 := n1_; have HO304 := n2_; have HO307 := n3_; have HO311 := n4_; have BK288 := n5_; have BK292 := n6_; have BK293 := n7_; have HB := n8_; clear n0_ n1_ n2_ n3_ n4_ n5_ n6_ n7_ n8_; clear hb ho53; obtain ⟨Ao54, co54, eo54⟩ := Kd.R_slice HO311.out; subst eo54))
          (with_reducible refine (pred_Any.calls k _ _ y309 t312 t313 t314 t315 t316 t317 t318 t321 _ ?side1 ?side2 A8.out).mono ?_)
          (case side1 => repeat (first | exact (Kd.R_reads' HO311.out).2.2 | (with_reducible refine Kd.C_alloc ?_ _) | (with_reducible refine Kd.C_drewN ?_ _) | (with_reducible refine Kd.C_drew ?_)))
          (case side2 => exact (Kd.R_reads' HO311.out).2.1)
          rintro e w55 ⟨v319, v322, rfl, ho0, ho1, hb⟩
          replace HO307 := Aside0.mk (Kd.V_elder' (by (with_reducible repeat (first | apply Kd.V_alloc | apply Kd.V_drewN | apply Kd.V_drew)); exact HO307.out) (Kd.R_base ho0) hb)
          have HO320 := Aside0.mk (Kd.R_lower (Kd.R_new' (Kd.R_mono (ok' := fun k_ => True) ho0 (fun _ hk_ => trivial)) (Kd.R_lt (by (with_reducible repeat (first | apply Kd.R_alloc | apply Kd.R_drewN | apply Kd.R_drew)); exact HO304.out))) (below_size (by repeat (first | (with_reducible first | exact HB.out | apply below_alloc | apply pw_below_drewN | apply below_drew1 | refine below_set ?_ GE288.out | refine below_set ?_ GE292.out | refine below_set ?_ GE293.out) | exact HB.out))))
          have HO323 := Aside0.mk (Kd.V_lower (Kd.V_mono (ok' := fun k_ => some k_ ≠ (v319 : Value).ownBlock ∧ some k_ ≠ (.slice Ao27 y285.length co27 : Value).ownBlock ∧ some k_ ≠ (.slice Ao43 y289.length co43 : Value).ownBlock ∧ some k_ ≠ (.slice Ao47 t302.length co47 : Value).ownBlock ∧ some k_ ≠ (.slice Ao54 y309.length co54 : Value).ownBlock ∧ k_ ≠ gb288 ∧ k_ ≠ gb292 ∧ k_ ≠ gb293) ho1 (fun k_ hk_ => ⟨hk_.2, (Kd.fresh' (Kd.R_lt (by (with_reducible repeat (first | apply Kd.R_alloc | apply Kd.R_drewN | apply Kd.R_drew)); exact HO287.out)) k_ hk_.1), (Kd.fresh' (Kd.S_lt (by (with_reducible repeat (first | apply Kd.S_alloc | apply Kd.S_drewN | apply Kd.S_drew)); exact HO291.out)) k_ hk_.1), (Kd.fresh' (Kd.R_lt (by (with_reducible repeat (first | apply Kd.R_alloc | apply Kd.R_drewN | apply Kd.R_drew)); exact HO304.out)) k_ hk_.1), (Kd.fresh' (Kd.R_lt (by (with_reducible repeat (first | apply Kd.R_alloc | apply Kd.R_drewN | apply Kd.R_drew)); exact HO311.out)) k_ hk_.1), (Kd.freshB (g := gb288) (o := .cells #[.slice Ao27 y285.length co27] 27 (0, 0)) (by (with_reducible repeat (first | refine blk_drewN ?_ _ | refine blk_drew ?_ | refine blk_alloc ?_ _)); exact BK288.out) k_ hk_.1), (Kd.freshB (g := gb292) (o := .cells #[.int .i64 2, .int .i64 1, .int .i64 1, .bool false, .int .i64 2, .int .i64 0, .slice none 0 0, .slice none 0 0] 35 (0, 0)) (by (with_reducible repeat (first | refine blk_drewN ?_ _ | refine blk_drew ?_ | refine blk_alloc ?_ _)); exact BK292.out) k_ hk_.1), (Kd.freshB (g := gb293) (o := .cells #[.int .i64 2, .int .i64 0, .int .i64 6, .bool false, .int .i64 1, .int .i64 5, .slice none 0 0, .slice none 0 0] 35 (0, 0)) (by (with_reducible repeat (first | refine blk_drewN ?_ _ | refine blk_drew ?_ | refine blk_alloc ?_ _)); exact BK293.out) k_ hk_.1)⟩)) (below_size (by repeat (first | (with_reducible first | exact HB.out | apply below_alloc | apply pw_below_drewN | apply below_drew1 | refine below_set ?_ GE288.out | refine below_set ?_ GE292.out | refine below_set ?_ GE293.out) | exact HB.out))))
          replace HO287 := Aside0.mk (Kd.R_below (by (with_reducible repeat (first | apply Kd.R_alloc | apply Kd.R_drewN | apply Kd.R_drew)); exact HO287.out) hb)
          replace HO291 := Aside0.mk (Kd.S_elder' (by (with_reducible repeat (first | apply Kd.S_alloc | apply Kd.S_drewN | apply Kd.S_drew)); exact HO291.out) (Kd.R_base ho0) hb)
          replace HO304 := Aside0.mk (Kd.R_elder' (by (with_reducible repeat (first | apply Kd.R_alloc | apply Kd.R_drewN | apply Kd.R_drew)); exact HO304.out) (Kd.R_base ho0) hb)
          replace HO311 := Aside0.mk (Kd.R_elder' (by (with_reducible repeat (first | apply Kd.R_alloc | apply Kd.R_drewN | apply Kd.R_drew)); exact HO311.out) (Kd.R_base ho0) hb)
          replace BK288 := Aside0.mk (blk_below (g := gb288) (o := .cells #[.slice Ao27 y285.length co27] 27 (0, 0)) (by (with_reducible repeat (first | refine blk_drewN ?_ _ | refine blk_drew ?_ | refine blk_alloc ?_ _)); exact BK288.out) hb)
          replace BK292 := Aside0.mk (blk_below (g := gb292) (o := .cells #[.int .i64 2, .int .i64 1, .int .i64 1, .bool false, .int .i64 2, .int .i64 0, .slice none 0 0, .slice none 0 0] 35 (0, 0)) (by (with_reducible repeat (first | refine blk_drewN ?_ _ | refine blk_drew ?_ | refine blk_alloc ?_ _)); exact BK292.out) hb)
          replace BK293 := Aside0.mk (blk_below (g := gb293) (o := .cells #[.int .i64 2, .int .i64 0, .int .i64 6, .bool false, .int .i64 1, .int .i64 5, .slice none 0 0, .slice none 0 0] 35 (0, 0)) (by (with_reducible repeat (first | refine blk_drewN ?_ _ | refine blk_drew ?_ | refine blk_alloc ?_ _)); exact BK293.out) hb)
          replace HB := Aside0.mk (below_step (by repeat (first | (with_reducible first | exact HB.out | apply below_alloc | apply pw_below_drewN | apply below_drew1 | refine below_set ?_ GE288.out | refine below_set ?_ GE292.out | refine below_set ?_ GE293.out) | exact HB.out)) hb)
          (try clear hb)
          (try clear hb2)
          (try clear hk)
          (try clear hi)
          (try clear ho0)
          (try clear ho1)
          obtain ⟨Ao56, co56, eo56⟩ := Kd.R_slice HO320.out
          subst eo56
          obtain ⟨Ao57, co57, eo57⟩ := Kd.V_slice HO323.out
          subst eo57
          go_wp2_with fail
          (with_reducible refine (pred_Eval.calls k t312 t313 t314 t315 t316 t317 _ _ t318 _ _ t321 _ _ y289 t324 _ ?side1 ?side2 ?side3 ?side4 ?side5 ?side6 A9.out).mono ?_)
          (case side1 => repeat (first | exact (Kd.R_reads' HO320.out).2.2 | (with_reducible refine Kd.C_alloc ?_ _) | (with_reducible refine Kd.C_drewN ?_ _) | (with_reducible refine Kd.C_drew ?_)))
          (case side2 => exact (Kd.R_reads' HO320.out).2.1)
          (case side3 => repeat (first | exact (Kd.V_reads' HO323.out).2.2 | (with_reducible refine Kd.C_alloc ?_ _) | (with_reducible refine Kd.C_drewN ?_ _) | (with_reducible refine Kd.C_drew ?_)))
          (case side4 => exact (Kd.V_reads' HO323.out).2.1)
          (case side5 => repeat (first | exact (Kd.S_reads' HO291.out).2.2 | (with_reducible refine Kd.C_alloc ?_ _) | (with_reducible refine Kd.C_drewN ?_ _) | (with_reducible refine Kd.C_drew ?_)))
          (case side6 => exact (Kd.S_reads' HO291.out).2.1)
          rintro e w58 ⟨rfl, hb⟩
          replace HO287 := Aside0.mk (Kd.R_below (by (with_reducible repeat (first | apply Kd.R_alloc | apply Kd.R_drewN | apply Kd.R_drew)); exact HO287.out) hb)
          replace HO291 := Aside0.mk (Kd.S_below (by (with_reducible repeat (first | apply Kd.S_alloc | apply Kd.S_drewN | apply Kd.S_drew)); exact HO291.out) hb)
          replace HO304 := Aside0.mk (Kd.R_below (by (with_reducible repeat (first | apply Kd.R_alloc | apply Kd.R_drewN | apply Kd.R_drew)); exact HO304.out) hb)
          replace HO307 := Aside0.mk (Kd.V_below (by (with_reducible repeat (first | apply Kd.V_alloc | apply Kd.V_drewN | apply Kd.V_drew)); exact HO307.out) hb)
          replace HO311 := Aside0.mk (Kd.R_below (by (with_reducible repeat (first | apply Kd.R_alloc | apply Kd.R_drewN | apply Kd.R_drew)); exact HO311.out) hb)
          replace HO320 := Aside0.mk (Kd.R_below (by (with_reducible repeat (first | apply Kd.R_alloc | apply Kd.R_drewN | apply Kd.R_drew)); exact HO320.out) hb)
          replace HO323 := Aside0.mk (Kd.V_below (by (with_reducible repeat (first | apply Kd.V_alloc | apply Kd.V_drewN | apply Kd.V_drew)); exact HO323.out) hb)
          replace BK288 := Aside0.mk (blk_below (g := gb288) (o := .cells #[.slice Ao27 y285.length co27] 27 (0, 0)) (by (with_reducible repeat (first | refine blk_drewN ?_ _ | refine blk_drew ?_ | refine blk_alloc ?_ _)); exact BK288.out) hb)
          replace BK292 := Aside0.mk (blk_below (g := gb292) (o := .cells #[.int .i64 2, .int .i64 1, .int .i64 1, .bool false, .int .i64 2, .int .i64 0, .slice none 0 0, .slice none 0 0] 35 (0, 0)) (by (with_reducible repeat (first | refine blk_drewN ?_ _ | refine blk_drew ?_ | refine blk_alloc ?_ _)); exact BK292.out) hb)
          replace BK293 := Aside0.mk (blk_below (g := gb293) (o := .cells #[.int .i64 2, .int .i64 0, .int .i64 6, .bool false, .int .i64 1, .int .i64 5, .slice none 0 0, .slice none 0 0] 35 (0, 0)) (by (with_reducible repeat (first | refine blk_drewN ?_ _ | refine blk_drew ?_ | refine blk_alloc ?_ _)); exact BK293.out) hb)
          replace HB := Aside0.mk (below_step (by repeat (first | (with_reducible first | exact HB.out | apply below_alloc | apply pw_below_drewN | apply below_drew1 | refine below_set ?_ GE288.out | refine below_set ?_ GE292.out | refine below_set ?_ GE293.out) | exact HB.out)) hb)
          (try clear hb)
          (try clear hb2)
          (try clear hk)
          (try clear hi)
          obtain ⟨hcz59_0, hcz59_1, hcz59_2, hcz59_3, hcz59_4, hcz59_5, hcz59_6, hcz59_7⟩ := cells8 BK292.out
          obtain ⟨hfz59_0, hfz59_1, hfz59_2, hfz59_3, hfz59_4, hfz59_5, hfz59_6, hfz59_7⟩ := frozen8 BK292.out
          obtain ⟨hcz60_0, hcz60_1, hcz60_2, hcz60_3, hcz60_4, hcz60_5, hcz60_6, hcz60_7⟩ := cells8 BK293.out
          obtain ⟨hfz60_0, hfz60_1, hfz60_2, hfz60_3, hfz60_4, hfz60_5, hfz60_6, hfz60_7⟩ := frozen8 BK293.out
          go_wp2_with (first | ((with_reducible refine gate_dst (N := 44) rfl ?_); (try (refine gate_guard (by rfl) ?_; dsimp only)); refine Kd.R_lit k35 _ 35 ?hg (N := 44) ?hd (xs := ([(⟨2, 1, 1, (⟨false, 2, 0, ([] : List Int)⟩ : S32), ([] : List (S35))⟩ : S35), (⟨2, 0, 6, (⟨false, 1, 5, ([] : List Int)⟩ : S32), ([] : List (S35))⟩ : S35)] : List (S35))) (inner := [.int .i64 2, .int .i64 1, .int .i64 1, .bool false, .int .i64 2, .int .i64 0, .slice none 0 0, .slice none 0 0, .int .i64 2, .int .i64 0, .int .i64 6, .bool false, .int .i64 1, .int .i64 5, .slice none 0 0, .slice none 0 0]) (ok := fun _ => True) (okp := fun _ => True) ?hr ?hp (fun _ hk => hk) trivial (Below.refl _ _) (Nat.le_refl _) (by simp) ?_; (case hd => rfl); (case hg => rfl); (case hr => first | (go_simp; done) | (go_simp; rfl)); (case hp => exact (Reps.c8 (show Kd.M k35 _ _ _ (⟨2, 1, 1, (⟨false, 2, 0, ([] : List Int)⟩ : S32), ([] : List (S35))⟩ : S35) [.int .i64 2, .int .i64 1, .int .i64 1, .bool false, .int .i64 2, .int .i64 0, .slice none 0 0, .slice none 0 0] from (k35_mkM _ _ _ (⟨2, 1, 1, (⟨false, 2, 0, ([] : List Int)⟩ : S32), ([] : List (S35))⟩ : S35) (Kd.R_nil _ _ _ _ _) (Kd.R_nil _ _ _ _ _))) (Reps.c8 (show Kd.M k35 _ _ _ (⟨2, 0, 6, (⟨false, 1, 5, ([] : List Int)⟩ : S32), ([] : List (S35))⟩ : S35) [.int .i64 2, .int .i64 0, .int .i64 6, .bool false, .int .i64 1, .int .i64 5, .slice none 0 0, .slice none 0 0] from (k35_mkM _ _ _ (⟨2, 0, 6, (⟨false, 1, 5, ([] : List Int)⟩ : S32), ([] : List (S35))⟩ : S35) (Kd.R_nil _ _ _ _ _) (Kd.R_nil _ _ _ _ _))) (Reps.none _ _)))); intro v326 w61 ho62 hb hg_ hnew_; clear hg_ hnew_; (first | rw [← Ny325.out] at ho62 | (simp only [Int.reduceToNat] at ho62; rw [← Ny325.out] at ho62)); have n0_ := Aside0.mk (Kd.R_below (by (with_reducible repeat (first | apply Kd.R_alloc | apply Kd.R_drewN | apply Kd.R_drew)); exact HO287.out) hb); have n1_ := Aside0.mk (Kd.S_below (by (with_reducible repeat (first | apply Kd.S_alloc | apply Kd.S_drewN | apply Kd.S_drew)); exact HO291.out) hb); have n2_ := Aside0.mk (Kd.R_below (by (with_reducible repeat (first | apply Kd.R_alloc | apply Kd.R_drewN | apply Kd.R_drew)); exact HO304.out) hb); have n3_ := Aside0.mk (Kd.V_elder' (by (with_reducible repeat (first | apply Kd.V_alloc | apply Kd.V_drewN | apply Kd.V_drew)); exact HO307.out) (Kd.R_base ho62) hb); have n4_ := Aside0.mk (Kd.R_elder' (by (with_reducible repeat (first | apply Kd.R_alloc | apply Kd.R_drewN | apply Kd.R_drew)); exact HO311.out) (Kd.R_base ho62) hb); have n5_ := Aside0.mk (Kd.R_below (by (with_reducible repeat (first | apply Kd.R_alloc | apply Kd.R_drewN | apply Kd.R_drew)); exact HO320.out) hb); have n6_ := Aside0.mk (Kd.V_elder' (by (with_reducible repeat (first | apply Kd.V_alloc | apply Kd.V_drewN | apply Kd.V_drew)); exact HO323.out) (Kd.R_base ho62) hb); have n7_ := Aside0.mk (Kd.R_lower (Kd.R_newB (Kd.R_newB (Kd.R_new' (Kd.R_new' (Kd.R_new' ho62 (Kd.R_lt (by (with_reducible repeat (first | apply Kd.R_alloc | apply Kd.R_drewN | apply Kd.R_drew)); exact HO304.out))) (Kd.R_lt (by (with_reducible repeat (first | apply Kd.R_alloc | apply Kd.R_drewN | apply Kd.R_drew)); exact HO311.out))) (Kd.R_lt (by (with_reducible repeat (first | apply Kd.R_alloc | apply Kd.R_drewN | apply Kd.R_drew)); exact HO320.out))) (g := gb292) (o := .cells #[.int .i64 2, .int .i64 1, .int .i64 1, .bool false, .int .i64 2, .int .i64 0, .slice none 0 0, .slice none 0 0] 35 (0, 0)) (by (with_reducible repeat (first | refine blk_drewN ?_ _ | refine blk_drew ?_ | refine blk_alloc ?_ _)); exact BK292.out)) (g := gb293) (o := .cells #[.int .i64 2, .int .i64 0, .int .i64 6, .bool false, .int .i64 1, .int .i64 5, .slice none 0 0, .slice none 0 0] 35 (0, 0)) (by (with_reducible repeat (first | refine blk_drewN ?_ _ | refine blk_drew ?_ | refine blk_alloc ?_ _)); exact BK293.out)) (below_size (by repeat (first | (with_reducible first | exact HB.out | apply below_alloc | apply pw_below_drewN | apply below_drew1 | refine below_set ?_ GE288.out | refine below_set ?_ GE292.out | refine below_set ?_ GE293.out) | exact HB.out)))); have n8_ := Aside0.mk (blk_below (g := gb288) (o := .cells #[.slice Ao27 y285.length co27] 27 (0, 0)) (by (with_reducible repeat (first | refine blk_drewN ?_ _ | refine blk_drew ?_ | refine blk_alloc ?_ _)); exact BK288.out) hb); have n9_ := Aside0.mk (blk_below (g := gb292) (o := .cells #[.int .i64 2, .int .i64 1, .int .i64 1, .bool false, .int .i64 2, .int .i64 0, .slice none 0 0, .slice none 0 0] 35 (0, 0)) (by (with_reducible repeat (first | refine blk_drewN ?_ _ | refine blk_drew ?_ | refine blk_alloc ?_ _)); exact BK292.out) hb); have n10_ := Aside0.mk (blk_below (g := gb293) (o := .cells #[.int .i64 2, .int .i64 0, .int .i64 6, .bool false, .int .i64 1, .int .i64 5, .slice none 0 0, .slice none 0 0] 35 (0, 0)) (by (with_reducible repeat (first | refine blk_drewN ?_ _ | refine blk_drew ?_ | refine blk_alloc ?_ _)); exact BK293.out) hb); have n11_ := Aside0.mk (below_step (by repeat (first | (with_reducible first | exact HB.out | apply below_alloc | apply pw_below_drewN | apply below_drew1 | refine below_set ?_ GE288.out | refine below_set ?_ GE292.out | refine below_set ?_ GE293.out) | exact HB.out)) hb); clear HO287; clear HO291; clear HO304; clear HO307; clear HO311; clear HO320; clear HO323; clear BK288; clear BK292; clear BK293; clear HB; have HO287 := n0_; have HO291 := n1_; have HO304 := n2_; have HO307 := n3_; have HO311 := n4_; have HO320 := n5_; have HO323 := n6_; have HO327 := n7_; have BK288 := n8_; have BK292 := n9_; have BK293 := n10_; have HB := n11_; clear n0_ n1_ n2_ n3_ n4_ n5_ n6_ n7_ n8_ n9_ n10_ n11_; clear hb ho62; obtain ⟨Ao63, co63, eo63⟩ := Kd.R_slice HO327.out; subst eo63))
          (with_reducible refine (pred_All.calls k _ _ y325 t328 t329 t330 t331 t332 t333 t334 t337 _ ?side1 ?side2 A11.out).mono ?_)
          (case side1 => repeat (first | exact (Kd.R_reads' HO327.out).2.2 | (with_reducible refine Kd.C_alloc ?_ _) | (with_reducible refine Kd.C_drewN ?_ _) | (with_reducible refine Kd.C_drew ?_)))
          (case side2 => exact (Kd.R_reads' HO327.out).2.1)
          rintro e w64 ⟨v335, v338, rfl, ho0, ho1, hb⟩
          replace HO307 := Aside0.mk (Kd.V_elder' (by (with_reducible repeat (first | apply Kd.V_alloc | apply Kd.V_drewN | apply Kd.V_drew)); exact HO307.out) (Kd.R_base ho0) hb)
          replace HO323 := Aside0.mk (Kd.V_elder' (by (with_reducible repeat (first | apply Kd.V_alloc | apply Kd.V_drewN | apply Kd.V_drew)); exact HO323.out) (Kd.R_base ho0) hb)
          have HO336 := Aside0.mk (Kd.R_lower (Kd.R_new' (Kd.R_new' (Kd.R_mono (ok' := fun k_ => True) ho0 (fun _ hk_ => trivial)) (Kd.R_lt (by (with_reducible repeat (first | apply Kd.R_alloc | apply Kd.R_drewN | apply Kd.R_drew)); exact HO304.out))) (Kd.R_lt (by (with_reducible repeat (first | apply Kd.R_alloc | apply Kd.R_drewN | apply Kd.R_drew)); exact HO320.out))) (below_size (by repeat (first | (with_reducible first | exact HB.out | apply below_alloc | apply pw_below_drewN | apply below_drew1 | refine below_set ?_ GE288.out | refine below_set ?_ GE292.out | refine below_set ?_ GE293.out) | exact HB.out))))
          have HO339 := Aside0.mk (Kd.V_lower (Kd.V_mono (ok' := fun k_ => some k_ ≠ (v335 : Value).ownBlock ∧ some k_ ≠ (.slice Ao27 y285.length co27 : Value).ownBlock ∧ some k_ ≠ (.slice Ao43 y289.length co43 : Value).ownBlock ∧ some k_ ≠ (.slice Ao47 t302.length co47 : Value).ownBlock ∧ some k_ ≠ (.slice Ao54 y309.length co54 : Value).ownBlock ∧ some k_ ≠ (.slice Ao56 t318.length co56 : Value).ownBlock ∧ some k_ ≠ (.slice Ao63 y325.length co63 : Value).ownBlock ∧ k_ ≠ gb288 ∧ k_ ≠ gb292 ∧ k_ ≠ gb293) ho1 (fun k_ hk_ => ⟨hk_.2, (Kd.fresh' (Kd.R_lt (by (with_reducible repeat (first | apply Kd.R_alloc | apply Kd.R_drewN | apply Kd.R_drew)); exact HO287.out)) k_ hk_.1), (Kd.fresh' (Kd.S_lt (by (with_reducible repeat (first | apply Kd.S_alloc | apply Kd.S_drewN | apply Kd.S_drew)); exact HO291.out)) k_ hk_.1), (Kd.fresh' (Kd.R_lt (by (with_reducible repeat (first | apply Kd.R_alloc | apply Kd.R_drewN | apply Kd.R_drew)); exact HO304.out)) k_ hk_.1), (Kd.fresh' (Kd.R_lt (by (with_reducible repeat (first | apply Kd.R_alloc | apply Kd.R_drewN | apply Kd.R_drew)); exact HO311.out)) k_ hk_.1), (Kd.fresh' (Kd.R_lt (by (with_reducible repeat (first | apply Kd.R_alloc | apply Kd.R_drewN | apply Kd.R_drew)); exact HO320.out)) k_ hk_.1), (Kd.fresh' (Kd.R_lt (by (with_reducible repeat (first | apply Kd.R_alloc | apply Kd.R_drewN | apply Kd.R_drew)); exact HO327.out)) k_ hk_.1), (Kd.freshB (g := gb288) (o := .cells #[.slice Ao27 y285.length co27] 27 (0, 0)) (by (with_reducible repeat (first | refine blk_drewN ?_ _ | refine blk_drew ?_ | refine blk_alloc ?_ _)); exact BK288.out) k_ hk_.1), (Kd.freshB (g := gb292) (o := .cells #[.int .i64 2, .int .i64 1, .int .i64 1, .bool false, .int .i64 2, .int .i64 0, .slice none 0 0, .slice none 0 0] 35 (0, 0)) (by (with_reducible repeat (first | refine blk_drewN ?_ _ | refine blk_drew ?_ | refine blk_alloc ?_ _)); exact BK292.out) k_ hk_.1), (Kd.freshB (g := gb293) (o := .cells #[.int .i64 2, .int .i64 0, .int .i64 6, .bool false, .int .i64 1, .int .i64 5, .slice none 0 0, .slice none 0 0] 35 (0, 0)) (by (with_reducible repeat (first | refine blk_drewN ?_ _ | refine blk_drew ?_ | refine blk_alloc ?_ _)); exact BK293.out) k_ hk_.1)⟩)) (below_size (by repeat (first | (with_reducible first | exact HB.out | apply below_alloc | apply pw_below_drewN | apply below_drew1 | refine below_set ?_ GE288.out | refine below_set ?_ GE292.out | refine below_set ?_ GE293.out) | exact HB.out))))
          replace HO287 := Aside0.mk (Kd.R_below (by (with_reducible repeat (first | apply Kd.R_alloc | apply Kd.R_drewN | apply Kd.R_drew)); exact HO287.out) hb)
          replace HO291 := Aside0.mk (Kd.S_elder' (by (with_reducible repeat (first | apply Kd.S_alloc | apply Kd.S_drewN | apply Kd.S_drew)); exact HO291.out) (Kd.R_base ho0) hb)
          replace HO304 := Aside0.mk (Kd.R_elder' (by (with_reducible repeat (first | apply Kd.R_alloc | apply Kd.R_drewN | apply Kd.R_drew)); exact HO304.out) (Kd.R_base ho0) hb)
          replace HO311 := Aside0.mk (Kd.R_elder' (by (with_reducible repeat (first | apply Kd.R_alloc | apply Kd.R_drewN | apply Kd.R_drew)); exact HO311.out) (Kd.R_base ho0) hb)
          replace HO320 := Aside0.mk (Kd.R_elder' (by (with_reducible repeat (first | apply Kd.R_alloc | apply Kd.R_drewN | apply Kd.R_drew)); exact HO320.out) (Kd.R_base ho0) hb)
          replace HO327 := Aside0.mk (Kd.R_elder' (by (with_reducible repeat (first | apply Kd.R_alloc | apply Kd.R_drewN | apply Kd.R_drew)); exact HO327.out) (Kd.R_base ho0) hb)
          replace BK288 := Aside0.mk (blk_below (g := gb288) (o := .cells #[.slice Ao27 y285.length co27] 27 (0, 0)) (by (with_reducible repeat (first | refine blk_drewN ?_ _ | refine blk_drew ?_ | refine blk_alloc ?_ _)); exact BK288.out) hb)
          replace BK292 := Aside0.mk (blk_below (g := gb292) (o := .cells #[.int .i64 2, .int .i64 1, .int .i64 1, .bool false, .int .i64 2, .int .i64 0, .slice none 0 0, .slice none 0 0] 35 (0, 0)) (by (with_reducible repeat (first | refine blk_drewN ?_ _ | refine blk_drew ?_ | refine blk_alloc ?_ _)); exact BK292.out) hb)
          replace BK293 := Aside0.mk (blk_below (g := gb293) (o := .cells #[.int .i64 2, .int .i64 0, .int .i64 6, .bool false, .int .i64 1, .int .i64 5, .slice none 0 0, .slice none 0 0] 35 (0, 0)) (by (with_reducible repeat (first | refine blk_drewN ?_ _ | refine blk_drew ?_ | refine blk_alloc ?_ _)); exact BK293.out) hb)
          replace HB := Aside0.mk (below_step (by repeat (first | (with_reducible first | exact HB.out | apply below_alloc | apply pw_below_drewN | apply below_drew1 | refine below_set ?_ GE288.out | refine below_set ?_ GE292.out | refine below_set ?_ GE293.out) | exact HB.out)) hb)
          (try clear hb)
          (try clear hb2)
          (try clear hk)
          (try clear hi)
          (try clear ho0)
          (try clear ho1)
          obtain ⟨Ao65, co65, eo65⟩ := Kd.R_slice HO336.out
          subst eo65
          obtain ⟨Ao66, co66, eo66⟩ := Kd.V_slice HO339.out
          subst eo66
          go_wp2_with fail
          (with_reducible refine (pred_Eval.calls k t328 t329 t330 t331 t332 t333 _ _ t334 _ _ t337 _ _ y289 t340 _ ?side1 ?side2 ?side3 ?side4 ?side5 ?side6 A12.out).mono ?_)
          (case side1 => repeat (first | exact (Kd.R_reads' HO336.out).2.2 | (with_reducible refine Kd.C_alloc ?_ _) | (with_reducible refine Kd.C_drewN ?_ _) | (with_reducible refine Kd.C_drew ?_)))
          (case side2 => exact (Kd.R_reads' HO336.out).2.1)
          (case side3 => repeat (first | exact (Kd.V_reads' HO339.out).2.2 | (with_reducible refine Kd.C_alloc ?_ _) | (with_reducible refine Kd.C_drewN ?_ _) | (with_reducible refine Kd.C_drew ?_)))
          (case side4 => exact (Kd.V_reads' HO339.out).2.1)
          (case side5 => repeat (first | exact (Kd.S_reads' HO291.out).2.2 | (with_reducible refine Kd.C_alloc ?_ _) | (with_reducible refine Kd.C_drewN ?_ _) | (with_reducible refine Kd.C_drew ?_)))
          (case side6 => exact (Kd.S_reads' HO291.out).2.1)
          rintro e w67 ⟨rfl, hb⟩
          replace HO287 := Aside0.mk (Kd.R_below (by (with_reducible repeat (first | apply Kd.R_alloc | apply Kd.R_drewN | apply Kd.R_drew)); exact HO287.out) hb)
          replace HO291 := Aside0.mk (Kd.S_below (by (with_reducible repeat (first | apply Kd.S_alloc | apply Kd.S_drewN | apply Kd.S_drew)); exact HO291.out) hb)
          replace HO304 := Aside0.mk (Kd.R_below (by (with_reducible repeat (first | apply Kd.R_alloc | apply Kd.R_drewN | apply Kd.R_drew)); exact HO304.out) hb)
          replace HO307 := Aside0.mk (Kd.V_below (by (with_reducible repeat (first | apply Kd.V_alloc | apply Kd.V_drewN | apply Kd.V_drew)); exact HO307.out) hb)
          replace HO311 := Aside0.mk (Kd.R_below (by (with_reducible repeat (first | apply Kd.R_alloc | apply Kd.R_drewN | apply Kd.R_drew)); exact HO311.out) hb)
          replace HO320 := Aside0.mk (Kd.R_below (by (with_reducible repeat (first | apply Kd.R_alloc | apply Kd.R_drewN | apply Kd.R_drew)); exact HO320.out) hb)
          replace HO323 := Aside0.mk (Kd.V_below (by (with_reducible repeat (first | apply Kd.V_alloc | apply Kd.V_drewN | apply Kd.V_drew)); exact HO323.out) hb)
          replace HO327 := Aside0.mk (Kd.R_below (by (with_reducible repeat (first | apply Kd.R_alloc | apply Kd.R_drewN | apply Kd.R_drew)); exact HO327.out) hb)
          replace HO336 := Aside0.mk (Kd.R_below (by (with_reducible repeat (first | apply Kd.R_alloc | apply Kd.R_drewN | apply Kd.R_drew)); exact HO336.out) hb)
          replace HO339 := Aside0.mk (Kd.V_below (by (with_reducible repeat (first | apply Kd.V_alloc | apply Kd.V_drewN | apply Kd.V_drew)); exact HO339.out) hb)
          replace BK288 := Aside0.mk (blk_below (g := gb288) (o := .cells #[.slice Ao27 y285.length co27] 27 (0, 0)) (by (with_reducible repeat (first | refine blk_drewN ?_ _ | refine blk_drew ?_ | refine blk_alloc ?_ _)); exact BK288.out) hb)
          replace BK292 := Aside0.mk (blk_below (g := gb292) (o := .cells #[.int .i64 2, .int .i64 1, .int .i64 1, .bool false, .int .i64 2, .int .i64 0, .slice none 0 0, .slice none 0 0] 35 (0, 0)) (by (with_reducible repeat (first | refine blk_drewN ?_ _ | refine blk_drew ?_ | refine blk_alloc ?_ _)); exact BK292.out) hb)
          replace BK293 := Aside0.mk (blk_below (g := gb293) (o := .cells #[.int .i64 2, .int .i64 0, .int .i64 6, .bool false, .int .i64 1, .int .i64 5, .slice none 0 0, .slice none 0 0] 35 (0, 0)) (by (with_reducible repeat (first | refine blk_drewN ?_ _ | refine blk_drew ?_ | refine blk_alloc ?_ _)); exact BK293.out) hb)
          replace HB := Aside0.mk (below_step (by repeat (first | (with_reducible first | exact HB.out | apply below_alloc | apply pw_below_drewN | apply below_drew1 | refine below_set ?_ GE288.out | refine below_set ?_ GE292.out | refine below_set ?_ GE293.out) | exact HB.out)) hb)
          (try clear hb)
          (try clear hb2)
          (try clear hk)
          (try clear hi)
          go_wp2_with fail
          (refine (pred_All.calls k _ _ ([] : List (S35)) t341 t342 t343 t344 t345 t346 t347 t350 _ ?side1 ?side2 A14.out).mono ?_)
          (case side1 => exact Kd.C_nil _ _)
          (case side2 => exact Nat.le_refl _)
          rintro e w68 ⟨v348, v351, rfl, ho0, ho1, hb⟩
          replace HO307 := Aside0.mk (Kd.V_elder' (by (with_reducible repeat (first | apply Kd.V_alloc | apply Kd.V_drewN | apply Kd.V_drew)); exact HO307.out) (Kd.R_base ho0) hb)
          replace HO323 := Aside0.mk (Kd.V_elder' (by (with_reducible repeat (first | apply Kd.V_alloc | apply Kd.V_drewN | apply Kd.V_drew)); exact HO323.out) (Kd.R_base ho0) hb)
          replace HO339 := Aside0.mk (Kd.V_elder' (by (with_reducible repeat (first | apply Kd.V_alloc | apply Kd.V_drewN | apply Kd.V_drew)); exact HO339.out) (Kd.R_base ho0) hb)
          have HO349 := Aside0.mk (Kd.R_lower (Kd.R_new' (Kd.R_new' (Kd.R_new' (Kd.R_mono (ok' := fun k_ => True) ho0 (fun _ hk_ => trivial)) (Kd.R_lt (by (with_reducible repeat (first | apply Kd.R_alloc | apply Kd.R_drewN | apply Kd.R_drew)); exact HO304.out))) (Kd.R_lt (by (with_reducible repeat (first | apply Kd.R_alloc | apply Kd.R_drewN | apply Kd.R_drew)); exact HO320.out))) (Kd.R_lt (by (with_reducible repeat (first | apply Kd.R_alloc | apply Kd.R_drewN | apply Kd.R_drew)); exact HO336.out))) (below_size (by repeat (first | (with_reducible first | exact HB.out | apply below_alloc | apply pw_below_drewN | apply below_drew1 | refine below_set ?_ GE288.out | refine below_set ?_ GE292.out | refine below_set ?_ GE293.out) | exact HB.out))))
          have HO352 := Aside0.mk (Kd.V_lower (Kd.V_mono (ok' := fun k_ => some k_ ≠ (v348 : Value).ownBlock ∧ some k_ ≠ (.slice Ao27 y285.length co27 : Value).ownBlock ∧ some k_ ≠ (.slice Ao43 y289.length co43 : Value).ownBlock ∧ some k_ ≠ (.slice Ao47 t302.length co47 : Value).ownBlock ∧ some k_ ≠ (.slice Ao54 y309.length co54 : Value).ownBlock ∧ some k_ ≠ (.slice Ao56 t318.length co56 : Value).ownBlock ∧ some k_ ≠ (.slice Ao63 y325.length co63 : Value).ownBlock ∧ some k_ ≠ (.slice Ao65 t334.length co65 : Value).ownBlock ∧ k_ ≠ gb288 ∧ k_ ≠ gb292 ∧ k_ ≠ gb293) ho1 (fun k_ hk_ => ⟨hk_.2, (Kd.fresh' (Kd.R_lt (by (with_reducible repeat (first | apply Kd.R_alloc | apply Kd.R_drewN | apply Kd.R_drew)); exact HO287.out)) k_ hk_.1), (Kd.fresh' (Kd.S_lt (by (with_reducible repeat (first | apply Kd.S_alloc | apply Kd.S_drewN | apply Kd.S_drew)); exact HO291.out)) k_ hk_.1), (Kd.fresh' (Kd.R_lt (by (with_reducible repeat (first | apply Kd.R_alloc | apply Kd.R_drewN | apply Kd.R_drew)); exact HO304.out)) k_ hk_.1), (Kd.fresh' (Kd.R_lt (by (with_reducible repeat (first | apply Kd.R_alloc | apply Kd.R_drewN | apply Kd.R_drew)); exact HO311.out)) k_ hk_.1), (Kd.fresh' (Kd.R_lt (by (with_reducible repeat (first | apply Kd.R_alloc | apply Kd.R_drewN | apply Kd.R_drew)); exact HO320.out)) k_ hk_.1), (Kd.fresh' (Kd.R_lt (by (with_reducible repeat (first | apply Kd.R_alloc | apply Kd.R_drewN | apply Kd.R_drew)); exact HO327.out)) k_ hk_.1), (Kd.fresh' (Kd.R_lt (by (with_reducible repeat (first | apply Kd.R_alloc | apply Kd.R_drewN | apply Kd.R_drew)); exact HO336.out)) k_ hk_.1), (Kd.freshB (g := gb288) (o := .cells #[.slice Ao27 y285.length co27] 27 (0, 0)) (by (with_reducible repeat (first | refine blk_drewN ?_ _ | refine blk_drew ?_ | refine blk_alloc ?_ _)); exact BK288.out) k_ hk_.1), (Kd.freshB (g := gb292) (o := .cells #[.int .i64 2, .int .i64 1, .int .i64 1, .bool false, .int .i64 2, .int .i64 0, .slice none 0 0, .slice none 0 0] 35 (0, 0)) (by (with_reducible repeat (first | refine blk_drewN ?_ _ | refine blk_drew ?_ | refine blk_alloc ?_ _)); exact BK292.out) k_ hk_.1), (Kd.freshB (g := gb293) (o := .cells #[.int .i64 2, .int .i64 0, .int .i64 6, .bool false, .int .i64 1, .int .i64 5, .slice none 0 0, .slice none 0 0] 35 (0, 0)) (by (with_reducible repeat (first | refine blk_drewN ?_ _ | refine blk_drew ?_ | refine blk_alloc ?_ _)); exact BK293.out) k_ hk_.1)⟩)) (below_size (by repeat (first | (with_reducible first | exact HB.out | apply below_alloc | apply pw_below_drewN | apply below_drew1 | refine below_set ?_ GE288.out | refine below_set ?_ GE292.out | refine below_set ?_ GE293.out) | exact HB.out))))
          replace HO287 := Aside0.mk (Kd.R_below (by (with_reducible repeat (first | apply Kd.R_alloc | apply Kd.R_drewN | apply Kd.R_drew)); exact HO287.out) hb)
          replace HO291 := Aside0.mk (Kd.S_elder' (by (with_reducible repeat (first | apply Kd.S_alloc | apply Kd.S_drewN | apply Kd.S_drew)); exact HO291.out) (Kd.R_base ho0) hb)
          replace HO304 := Aside0.mk (Kd.R_elder' (by (with_reducible repeat (first | apply Kd.R_alloc | apply Kd.R_drewN | apply Kd.R_drew)); exact HO304.out) (Kd.R_base ho0) hb)
          replace HO311 := Aside0.mk (Kd.R_elder' (by (with_reducible repeat (first | apply Kd.R_alloc | apply Kd.R_drewN | apply Kd.R_drew)); exact HO311.out) (Kd.R_base ho0) hb)
          replace HO320 := Aside0.mk (Kd.R_elder' (by (with_reducible repeat (first | apply Kd.R_alloc | apply Kd.R_drewN | apply Kd.R_drew)); exact HO320.out) (Kd.R_base ho0) hb)
          replace HO327 := Aside0.mk (Kd.R_elder' (by (with_reducible repeat (first | apply Kd.R_alloc | apply Kd.R_drewN | apply Kd.R_drew)); exact HO327.out) (Kd.R_base ho0) hb)
          replace HO336 := Aside0.mk (Kd.R_elder' (by (with_reducible repeat (first | apply Kd.R_alloc | apply Kd.R_drewN | apply Kd.R_drew)); exact HO336.out) (Kd.R_base ho0) hb)
          replace BK288 := Aside0.mk (blk_below (g := gb288) (o := .cells #[.slice Ao27 y285.length co27] 27 (0, 0)) (by (with_reducible repeat (first | refine blk_drewN ?_ _ | refine blk_drew ?_ | refine blk_alloc ?_ _)); exact BK288.out) hb)
          replace BK292 := Aside0.mk (blk_below (g := gb292) (o := .cells #[.int .i64 2, .int .i64 1, .int .i64 1, .bool false, .int .i64 2, .int .i64 0, .slice none 0 0, .slice none 0 0] 35 (0, 0)) (by (with_reducible repeat (first | refine blk_drewN ?_ _ | refine blk_drew ?_ | refine blk_alloc ?_ _)); exact BK292.out) hb)
          replace BK293 := Aside0.mk (blk_below (g := gb293) (o := .cells #[.int .i64 2, .int .i64 0, .int .i64 6, .bool false, .int .i64 1, .int .i64 5, .slice none 0 0, .slice none 0 0] 35 (0, 0)) (by (with_reducible repeat (first | refine blk_drewN ?_ _ | refine blk_drew ?_ | refine blk_alloc ?_ _)); exact BK293.out) hb)
          replace HB := Aside0.mk (below_step (by repeat (first | (with_reducible first | exact HB.out | apply below_alloc | apply pw_below_drewN | apply below_drew1 | refine below_set ?_ GE288.out | refine below_set ?_ GE292.out | refine below_set ?_ GE293.out) | exact HB.out)) hb)
          (try clear hb)
          (try clear hb2)
          (try clear hk)
          (try clear hi)
          (try clear ho0)
          (try clear ho1)
          obtain ⟨Ao69, co69, eo69⟩ := Kd.R_slice HO349.out
          subst eo69
          obtain ⟨Ao70, co70, eo70⟩ := Kd.V_slice HO352.out
          subst eo70
          go_wp2_with fail
          (with_reducible refine (pred_Eval.calls k t341 t342 t343 t344 t345 t346 _ _ t347 _ _ t350 _ _ y289 t353 _ ?side1 ?side2 ?side3 ?side4 ?side5 ?side6 A15.out).mono ?_)
          (case side1 => repeat (first | exact (Kd.R_reads' HO349.out).2.2 | (with_reducible refine Kd.C_alloc ?_ _) | (with_reducible refine Kd.C_drewN ?_ _) | (with_reducible refine Kd.C_drew ?_)))
          (case side2 => exact (Kd.R_reads' HO349.out).2.1)
          (case side3 => repeat (first | exact (Kd.V_reads' HO352.out).2.2 | (with_reducible refine Kd.C_alloc ?_ _) | (with_reducible refine Kd.C_drewN ?_ _) | (with_reducible refine Kd.C_drew ?_)))
          (case side4 => exact (Kd.V_reads' HO352.out).2.1)
          (case side5 => repeat (first | exact (Kd.S_reads' HO291.out).2.2 | (with_reducible refine Kd.C_alloc ?_ _) | (with_reducible refine Kd.C_drewN ?_ _) | (with_reducible refine Kd.C_drew ?_)))
          (case side6 => exact (Kd.S_reads' HO291.out).2.1)
          rintro e w71 ⟨rfl, hb⟩
          replace HO287 := Aside0.mk (Kd.R_below (by (with_reducible repeat (first | apply Kd.R_alloc | apply Kd.R_drewN | apply Kd.R_drew)); exact HO287.out) hb)
          replace HO291 := Aside0.mk (Kd.S_below (by (with_reducible repeat (first | apply Kd.S_alloc | apply Kd.S_drewN | apply Kd.S_drew)); exact HO291.out) hb)
          replace HO304 := Aside0.mk (Kd.R_below (by (with_reducible repeat (first | apply Kd.R_alloc | apply Kd.R_drewN | apply Kd.R_drew)); exact HO304.out) hb)
          replace HO307 := Aside0.mk (Kd.V_below (by (with_reducible repeat (first | apply Kd.V_alloc | apply Kd.V_drewN | apply Kd.V_drew)); exact HO307.out) hb)
          replace HO311 := Aside0.mk (Kd.R_below (by (with_reducible repeat (first | apply Kd.R_alloc | apply Kd.R_drewN | apply Kd.R_drew)); exact HO311.out) hb)
          replace HO320 := Aside0.mk (Kd.R_below (by (with_reducible repeat (first | apply Kd.R_alloc | apply Kd.R_drewN | apply Kd.R_drew)); exact HO320.out) hb)
          replace HO323 := Aside0.mk (Kd.V_below (by (with_reducible repeat (first | apply Kd.V_alloc | apply Kd.V_drewN | apply Kd.V_drew)); exact HO323.out) hb)
          replace HO327 := Aside0.mk (Kd.R_below (by (with_reducible repeat (first | apply Kd.R_alloc | apply Kd.R_drewN | apply Kd.R_drew)); exact HO327.out) hb)
          replace HO336 := Aside0.mk (Kd.R_below (by (with_reducible repeat (first | apply Kd.R_alloc | apply Kd.R_drewN | apply Kd.R_drew)); exact HO336.out) hb)
          replace HO339 := Aside0.mk (Kd.V_below (by (with_reducible repeat (first | apply Kd.V_alloc | apply Kd.V_drewN | apply Kd.V_drew)); exact HO339.out) hb)
          replace HO349 := Aside0.mk (Kd.R_below (by (with_reducible repeat (first | apply Kd.R_alloc | apply Kd.R_drewN | apply Kd.R_drew)); exact HO349.out) hb)
          replace HO352 := Aside0.mk (Kd.V_below (by (with_reducible repeat (first | apply Kd.V_alloc | apply Kd.V_drewN | apply Kd.V_drew)); exact HO352.out) hb)
          replace BK288 := Aside0.mk (blk_below (g := gb288) (o := .cells #[.slice Ao27 y285.length co27] 27 (0, 0)) (by (with_reducible repeat (first | refine blk_drewN ?_ _ | refine blk_drew ?_ | refine blk_alloc ?_ _)); exact BK288.out) hb)
          replace BK292 := Aside0.mk (blk_below (g := gb292) (o := .cells #[.int .i64 2, .int .i64 1, .int .i64 1, .bool false, .int .i64 2, .int .i64 0, .slice none 0 0, .slice none 0 0] 35 (0, 0)) (by (with_reducible repeat (first | refine blk_drewN ?_ _ | refine blk_drew ?_ | refine blk_alloc ?_ _)); exact BK292.out) hb)
          replace BK293 := Aside0.mk (blk_below (g := gb293) (o := .cells #[.int .i64 2, .int .i64 0, .int .i64 6, .bool false, .int .i64 1, .int .i64 5, .slice none 0 0, .slice none 0 0] 35 (0, 0)) (by (with_reducible repeat (first | refine blk_drewN ?_ _ | refine blk_drew ?_ | refine blk_alloc ?_ _)); exact BK293.out) hb)
          replace HB := Aside0.mk (below_step (by repeat (first | (with_reducible first | exact HB.out | apply below_alloc | apply pw_below_drewN | apply below_drew1 | refine below_set ?_ GE288.out | refine below_set ?_ GE292.out | refine below_set ?_ GE293.out) | exact HB.out)) hb)
          (try clear hb)
          (try clear hb2)
          (try clear hk)
          (try clear hi)
          go_wp2_with fail
          (refine (pred_Any.calls k _ _ ([] : List (S35)) t354 t355 t356 t357 t358 t359 t360 t363 _ ?side1 ?side2 A17.out).mono ?_)
          (case side1 => exact Kd.C_nil _ _)
          (case side2 => exact Nat.le_refl _)
          rintro e w72 ⟨v361, v364, rfl, ho0, ho1, hb⟩
          replace HO307 := Aside0.mk (Kd.V_elder' (by (with_reducible repeat (first | apply Kd.V_alloc | apply Kd.V_drewN | apply Kd.V_drew)); exact HO307.out) (Kd.R_base ho0) hb)
          replace HO323 := Aside0.mk (Kd.V_elder' (by (with_reducible repeat (first | apply Kd.V_alloc | apply Kd.V_drewN | apply Kd.V_drew)); exact HO323.out) (Kd.R_base ho0) hb)
          replace HO339 := Aside0.mk (Kd.V_elder' (by (with_reducible repeat (first | apply Kd.V_alloc | apply Kd.V_drewN | apply Kd.V_drew)); exact HO339.out) (Kd.R_base ho0) hb)
          replace HO352 := Aside0.mk (Kd.V_elder' (by (with_reducible repeat (first | apply Kd.V_alloc | apply Kd.V_drewN | apply Kd.V_drew)); exact HO352.out) (Kd.R_base ho0) hb)
          have HO362 := Aside0.mk (Kd.R_lower (Kd.R_new' (Kd.R_new' (Kd.R_new' (Kd.R_new' (Kd.R_mono (ok' := fun k_ => True) ho0 (fun _ hk_ => trivial)) (Kd.R_lt (by (with_reducible repeat (first | apply Kd.R_alloc | apply Kd.R_drewN | apply Kd.R_drew)); exact HO304.out))) (Kd.R_lt (by (with_reducible repeat (first | apply Kd.R_alloc | apply Kd.R_drewN | apply Kd.R_drew)); exact HO320.out))) (Kd.R_lt (by (with_reducible repeat (first | apply Kd.R_alloc | apply Kd.R_drewN | apply Kd.R_drew)); exact HO336.out))) (Kd.R_lt (by (with_reducible repeat (first | apply Kd.R_alloc | apply Kd.R_drewN | apply Kd.R_drew)); exact HO349.out))) (below_size (by repeat (first | (with_reducible first | exact HB.out | apply below_alloc | apply pw_below_drewN | apply below_drew1 | refine below_set ?_ GE288.out | refine below_set ?_ GE292.out | refine below_set ?_ GE293.out) | exact HB.out))))
          have HO365 := Aside0.mk (Kd.V_lower (Kd.V_mono (ok' := fun k_ => some k_ ≠ (v361 : Value).ownBlock ∧ some k_ ≠ (.slice Ao27 y285.length co27 : Value).ownBlock ∧ some k_ ≠ (.slice Ao43 y289.length co43 : Value).ownBlock ∧ some k_ ≠ (.slice Ao47 t302.length co47 : Value).ownBlock ∧ some k_ ≠ (.slice Ao54 y309.length co54 : Value).ownBlock ∧ some k_ ≠ (.slice Ao56 t318.length co56 : Value).ownBlock ∧ some k_ ≠ (.slice Ao63 y325.length co63 : Value).ownBlock ∧ some k_ ≠ (.slice Ao65 t334.length co65 : Value).ownBlock ∧ some k_ ≠ (.slice Ao69 t347.length co69 : Value).ownBlock ∧ k_ ≠ gb288 ∧ k_ ≠ gb292 ∧ k_ ≠ gb293) ho1 (fun k_ hk_ => ⟨hk_.2, (Kd.fresh' (Kd.R_lt (by (with_reducible repeat (first | apply Kd.R_alloc | apply Kd.R_drewN | apply Kd.R_drew)); exact HO287.out)) k_ hk_.1), (Kd.fresh' (Kd.S_lt (by (with_reducible repeat (first | apply Kd.S_alloc | apply Kd.S_drewN | apply Kd.S_drew)); exact HO291.out)) k_ hk_.1), (Kd.fresh' (Kd.R_lt (by (with_reducible repeat (first | apply Kd.R_alloc | apply Kd.R_drewN | apply Kd.R_drew)); exact HO304.out)) k_ hk_.1), (Kd.fresh' (Kd.R_lt (by (with_reducible repeat (first | apply Kd.R_alloc | apply Kd.R_drewN | apply Kd.R_drew)); exact HO311.out)) k_ hk_.1), (Kd.fresh' (Kd.R_lt (by (with_reducible repeat (first | apply Kd.R_alloc | apply Kd.R_drewN | apply Kd.R_drew)); exact HO320.out)) k_ hk_.1), (Kd.fresh' (Kd.R_lt (by (with_reducible repeat (first | apply Kd.R_alloc | apply Kd.R_drewN | apply Kd.R_drew)); exact HO327.out)) k_ hk_.1), (Kd.fresh' (Kd.R_lt (by (with_reducible repeat (first | apply Kd.R_alloc | apply Kd.R_drewN | apply Kd.R_drew)); exact HO336.out)) k_ hk_.1), (Kd.fresh' (Kd.R_lt (by (with_reducible repeat (first | apply Kd.R_alloc | apply Kd.R_drewN | apply Kd.R_drew)); exact HO349.out)) k_ hk_.1), (Kd.freshB (g := gb288) (o := .cells #[.slice Ao27 y285.length co27] 27 (0, 0)) (by (with_reducible repeat (first | refine blk_drewN ?_ _ | refine blk_drew ?_ | refine blk_alloc ?_ _)); exact BK288.out) k_ hk_.1), (Kd.freshB (g := gb292) (o := .cells #[.int .i64 2, .int .i64 1, .int .i64 1, .bool false, .int .i64 2, .int .i64 0, .slice none 0 0, .slice none 0 0] 35 (0, 0)) (by (with_reducible repeat (first | refine blk_drewN ?_ _ | refine blk_drew ?_ | refine blk_alloc ?_ _)); exact BK292.out) k_ hk_.1), (Kd.freshB (g := gb293) (o := .cells #[.int .i64 2, .int .i64 0, .int .i64 6, .bool false, .int .i64 1, .int .i64 5, .slice none 0 0, .slice none 0 0] 35 (0, 0)) (by (with_reducible repeat (first | refine blk_drewN ?_ _ | refine blk_drew ?_ | refine blk_alloc ?_ _)); exact BK293.out) k_ hk_.1)⟩)) (below_size (by repeat (first | (with_reducible first | exact HB.out | apply below_alloc | apply pw_below_drewN | apply below_drew1 | refine below_set ?_ GE288.out | refine below_set ?_ GE292.out | refine below_set ?_ GE293.out) | exact HB.out))))
          replace HO287 := Aside0.mk (Kd.R_below (by (with_reducible repeat (first | apply Kd.R_alloc | apply Kd.R_drewN | apply Kd.R_drew)); exact HO287.out) hb)
          replace HO291 := Aside0.mk (Kd.S_elder' (by (with_reducible repeat (first | apply Kd.S_alloc | apply Kd.S_drewN | apply Kd.S_drew)); exact HO291.out) (Kd.R_base ho0) hb)
          replace HO304 := Aside0.mk (Kd.R_elder' (by (with_reducible repeat (first | apply Kd.R_alloc | apply Kd.R_drewN | apply Kd.R_drew)); exact HO304.out) (Kd.R_base ho0) hb)
          replace HO311 := Aside0.mk (Kd.R_elder' (by (with_reducible repeat (first | apply Kd.R_alloc | apply Kd.R_drewN | apply Kd.R_drew)); exact HO311.out) (Kd.R_base ho0) hb)
          replace HO320 := Aside0.mk (Kd.R_elder' (by (with_reducible repeat (first | apply Kd.R_alloc | apply Kd.R_drewN | apply Kd.R_drew)); exact HO320.out) (Kd.R_base ho0) hb)
          replace HO327 := Aside0.mk (Kd.R_elder' (by (with_reducible repeat (first | apply Kd.R_alloc | apply Kd.R_drewN | apply Kd.R_drew)); exact HO327.out) (Kd.R_base ho0) hb)
          replace HO336 := Aside0.mk (Kd.R_elder' (by (with_reducible repeat (first | apply Kd.R_alloc | apply Kd.R_drewN | apply Kd.R_drew)); exact HO336.out) (Kd.R_base ho0) hb)
          replace HO349 := Aside0.mk (Kd.R_elder' (by (with_reducible repeat (first | apply Kd.R_alloc | apply Kd.R_drewN | apply Kd.R_drew)); exact HO349.out) (Kd.R_base ho0) hb)
          replace BK288 := Aside0.mk (blk_below (g := gb288) (o := .cells #[.slice Ao27 y285.length co27] 27 (0, 0)) (by (with_reducible repeat (first | refine blk_drewN ?_ _ | refine blk_drew ?_ | refine blk_alloc ?_ _)); exact BK288.out) hb)
          replace BK292 := Aside0.mk (blk_below (g := gb292) (o := .cells #[.int .i64 2, .int .i64 1, .int .i64 1, .bool false, .int .i64 2, .int .i64 0, .slice none 0 0, .slice none 0 0] 35 (0, 0)) (by (with_reducible repeat (first | refine blk_drewN ?_ _ | refine blk_drew ?_ | refine blk_alloc ?_ _)); exact BK292.out) hb)
          replace BK293 := Aside0.mk (blk_below (g := gb293) (o := .cells #[.int .i64 2, .int .i64 0, .int .i64 6, .bool false, .int .i64 1, .int .i64 5, .slice none 0 0, .slice none 0 0] 35 (0, 0)) (by (with_reducible repeat (first | refine blk_drewN ?_ _ | refine blk_drew ?_ | refine blk_alloc ?_ _)); exact BK293.out) hb)
          replace HB := Aside0.mk (below_step (by repeat (first | (with_reducible first | exact HB.out | apply below_alloc | apply pw_below_drewN | apply below_drew1 | refine below_set ?_ GE288.out | refine below_set ?_ GE292.out | refine below_set ?_ GE293.out) | exact HB.out)) hb)
          (try clear hb)
          (try clear hb2)
          (try clear hk)
          (try clear hi)
          (try clear ho0)
          (try clear ho1)
          obtain ⟨Ao73, co73, eo73⟩ := Kd.R_slice HO362.out
          subst eo73
          obtain ⟨Ao74, co74, eo74⟩ := Kd.V_slice HO365.out
          subst eo74
          go_wp2_with fail
          (with_reducible refine (pred_Eval.calls k t354 t355 t356 t357 t358 t359 _ _ t360 _ _ t363 _ _ y289 t366 _ ?side1 ?side2 ?side3 ?side4 ?side5 ?side6 A18.out).mono ?_)
          (case side1 => repeat (first | exact (Kd.R_reads' HO362.out).2.2 | (with_reducible refine Kd.C_alloc ?_ _) | (with_reducible refine Kd.C_drewN ?_ _) | (with_reducible refine Kd.C_drew ?_)))
          (case side2 => exact (Kd.R_reads' HO362.out).2.1)
          (case side3 => repeat (first | exact (Kd.V_reads' HO365.out).2.2 | (with_reducible refine Kd.C_alloc ?_ _) | (with_reducible refine Kd.C_drewN ?_ _) | (with_reducible refine Kd.C_drew ?_)))
          (case side4 => exact (Kd.V_reads' HO365.out).2.1)
          (case side5 => repeat (first | exact (Kd.S_reads' HO291.out).2.2 | (with_reducible refine Kd.C_alloc ?_ _) | (with_reducible refine Kd.C_drewN ?_ _) | (with_reducible refine Kd.C_drew ?_)))
          (case side6 => exact (Kd.S_reads' HO291.out).2.1)
          rintro e w75 ⟨rfl, hb⟩
          replace HO287 := Aside0.mk (Kd.R_below (by (with_reducible repeat (first | apply Kd.R_alloc | apply Kd.R_drewN | apply Kd.R_drew)); exact HO287.out) hb)
          replace HO291 := Aside0.mk (Kd.S_below (by (with_reducible repeat (first | apply Kd.S_alloc | apply Kd.S_drewN | apply Kd.S_drew)); exact HO291.out) hb)
          replace HO304 := Aside0.mk (Kd.R_below (by (with_reducible repeat (first | apply Kd.R_alloc | apply Kd.R_drewN | apply Kd.R_drew)); exact HO304.out) hb)
          replace HO307 := Aside0.mk (Kd.V_below (by (with_reducible repeat (first | apply Kd.V_alloc | apply Kd.V_drewN | apply Kd.V_drew)); exact HO307.out) hb)
          replace HO311 := Aside0.mk (Kd.R_below (by (with_reducible repeat (first | apply Kd.R_alloc | apply Kd.R_drewN | apply Kd.R_drew)); exact HO311.out) hb)
          replace HO320 := Aside0.mk (Kd.R_below (by (with_reducible repeat (first | apply Kd.R_alloc | apply Kd.R_drewN | apply Kd.R_drew)); exact HO320.out) hb)
          replace HO323 := Aside0.mk (Kd.V_below (by (with_reducible repeat (first | apply Kd.V_alloc | apply Kd.V_drewN | apply Kd.V_drew)); exact HO323.out) hb)
          replace HO327 := Aside0.mk (Kd.R_below (by (with_reducible repeat (first | apply Kd.R_alloc | apply Kd.R_drewN | apply Kd.R_drew)); exact HO327.out) hb)
          replace HO336 := Aside0.mk (Kd.R_below (by (with_reducible repeat (first | apply Kd.R_alloc | apply Kd.R_drewN | apply Kd.R_drew)); exact HO336.out) hb)
          replace HO339 := Aside0.mk (Kd.V_below (by (with_reducible repeat (first | apply Kd.V_alloc | apply Kd.V_drewN | apply Kd.V_drew)); exact HO339.out) hb)
          replace HO349 := Aside0.mk (Kd.R_below (by (with_reducible repeat (first | apply Kd.R_alloc | apply Kd.R_drewN | apply Kd.R_drew)); exact HO349.out) hb)
          replace HO352 := Aside0.mk (Kd.V_below (by (with_reducible repeat (first | apply Kd.V_alloc | apply Kd.V_drewN | apply Kd.V_drew)); exact HO352.out) hb)
          replace HO362 := Aside0.mk (Kd.R_below (by (with_reducible repeat (first | apply Kd.R_alloc | apply Kd.R_drewN | apply Kd.R_drew)); exact HO362.out) hb)
          replace HO365 := Aside0.mk (Kd.V_below (by (with_reducible repeat (first | apply Kd.V_alloc | apply Kd.V_drewN | apply Kd.V_drew)); exact HO365.out) hb)
          replace BK288 := Aside0.mk (blk_below (g := gb288) (o := .cells #[.slice Ao27 y285.length co27] 27 (0, 0)) (by (with_reducible repeat (first | refine blk_drewN ?_ _ | refine blk_drew ?_ | refine blk_alloc ?_ _)); exact BK288.out) hb)
          replace BK292 := Aside0.mk (blk_below (g := gb292) (o := .cells #[.int .i64 2, .int .i64 1, .int .i64 1, .bool false, .int .i64 2, .int .i64 0, .slice none 0 0, .slice none 0 0] 35 (0, 0)) (by (with_reducible repeat (first | refine blk_drewN ?_ _ | refine blk_drew ?_ | refine blk_alloc ?_ _)); exact BK292.out) hb)
          replace BK293 := Aside0.mk (blk_below (g := gb293) (o := .cells #[.int .i64 2, .int .i64 0, .int .i64 6, .bool false, .int .i64 1, .int .i64 5, .slice none 0 0, .slice none 0 0] 35 (0, 0)) (by (with_reducible repeat (first | refine blk_drewN ?_ _ | refine blk_drew ?_ | refine blk_alloc ?_ _)); exact BK293.out) hb)
          replace HB := Aside0.mk (below_step (by repeat (first | (with_reducible first | exact HB.out | apply below_alloc | apply pw_below_drewN | apply below_drew1 | refine below_set ?_ GE288.out | refine below_set ?_ GE292.out | refine below_set ?_ GE293.out) | exact HB.out)) hb)
          (try clear hb)
          (try clear hb2)
          (try clear hk)
          (try clear hi)
          have hcz76_0 : w75.cell? ⟨gb288, 0, none⟩ = some (.slice Ao27 y285.length co27) := (blk_cell BK288.out 0).trans rfl
          have hfz76_0 := blk_frozen BK288.out 0
          go_wp2_with fail
          (refine (pred_Ok.calls _ _ y285 0 0 0 false 0 0 _ _ ([] : List Int) _ _ ([] : List (S35)) false _ ?side1 ?side2 ?side3 ?side4 ?side5 ?side6 A20.out).mono ?_)
          (case side1 => repeat (first | exact (Kd.R_reads' HO287.out).2.2 | (with_reducible refine Kd.C_alloc ?_ _) | (with_reducible refine Kd.C_drewN ?_ _) | (with_reducible refine Kd.C_drew ?_)))
          (case side2 => exact (Kd.R_reads' HO287.out).2.1)
          (case side3 => exact Kd.C_nil _ _)
          (case side4 => exact Nat.le_refl _)
          (case side5 => exact Kd.C_nil _ _)
          (case side6 => exact Nat.le_refl _)
          rintro e w77 ⟨rfl, hb⟩
          replace HO287 := Aside0.mk (Kd.R_below (by (with_reducible repeat (first | apply Kd.R_alloc | apply Kd.R_drewN | apply Kd.R_drew)); exact HO287.out) hb)
          replace HO291 := Aside0.mk (Kd.S_below (by (with_reducible repeat (first | apply Kd.S_alloc | apply Kd.S_drewN | apply Kd.S_drew)); exact HO291.out) hb)
          replace HO304 := Aside0.mk (Kd.R_below (by (with_reducible repeat (first | apply Kd.R_alloc | apply Kd.R_drewN | apply Kd.R_drew)); exact HO304.out) hb)
          replace HO307 := Aside0.mk (Kd.V_below (by (with_reducible repeat (first | apply Kd.V_alloc | apply Kd.V_drewN | apply Kd.V_drew)); exact HO307.out) hb)
          replace HO311 := Aside0.mk (Kd.R_below (by (with_reducible repeat (first | apply Kd.R_alloc | apply Kd.R_drewN | apply Kd.R_drew)); exact HO311.out) hb)
          replace HO320 := Aside0.mk (Kd.R_below (by (with_reducible repeat (first | apply Kd.R_alloc | apply Kd.R_drewN | apply Kd.R_drew)); exact HO320.out) hb)
          replace HO323 := Aside0.mk (Kd.V_below (by (with_reducible repeat (first | apply Kd.V_alloc | apply Kd.V_drewN | apply Kd.V_drew)); exact HO323.out) hb)
          replace HO327 := Aside0.mk (Kd.R_below (by (with_reducible repeat (first | apply Kd.R_alloc | apply Kd.R_drewN | apply Kd.R_drew)); exact HO327.out) hb)
          replace HO336 := Aside0.mk (Kd.R_below (by (with_reducible repeat (first | apply Kd.R_alloc | apply Kd.R_drewN | apply Kd.R_drew)); exact HO336.out) hb)
          replace HO339 := Aside0.mk (Kd.V_below (by (with_reducible repeat (first | apply Kd.V_alloc | apply Kd.V_drewN | apply Kd.V_drew)); exact HO339.out) hb)
          replace HO349 := Aside0.mk (Kd.R_below (by (with_reducible repeat (first | apply Kd.R_alloc | apply Kd.R_drewN | apply Kd.R_drew)); exact HO349.out) hb)
          replace HO352 := Aside0.mk (Kd.V_below (by (with_reducible repeat (first | apply Kd.V_alloc | apply Kd.V_drewN | apply Kd.V_drew)); exact HO352.out) hb)
          replace HO362 := Aside0.mk (Kd.R_below (by (with_reducible repeat (first | apply Kd.R_alloc | apply Kd.R_drewN | apply Kd.R_drew)); exact HO362.out) hb)
          replace HO365 := Aside0.mk (Kd.V_below (by (with_reducible repeat (first | apply Kd.V_alloc | apply Kd.V_drewN | apply Kd.V_drew)); exact HO365.out) hb)
          replace BK288 := Aside0.mk (blk_below (g := gb288) (o := .cells #[.slice Ao27 y285.length co27] 27 (0, 0)) (by (with_reducible repeat (first | refine blk_drewN ?_ _ | refine blk_drew ?_ | refine blk_alloc ?_ _)); exact BK288.out) hb)
          replace BK292 := Aside0.mk (blk_below (g := gb292) (o := .cells #[.int .i64 2, .int .i64 1, .int .i64 1, .bool false, .int .i64 2, .int .i64 0, .slice none 0 0, .slice none 0 0] 35 (0, 0)) (by (with_reducible repeat (first | refine blk_drewN ?_ _ | refine blk_drew ?_ | refine blk_alloc ?_ _)); exact BK292.out) hb)
          replace BK293 := Aside0.mk (blk_below (g := gb293) (o := .cells #[.int .i64 2, .int .i64 0, .int .i64 6, .bool false, .int .i64 1, .int .i64 5, .slice none 0 0, .slice none 0 0] 35 (0, 0)) (by (with_reducible repeat (first | refine blk_drewN ?_ _ | refine blk_drew ?_ | refine blk_alloc ?_ _)); exact BK293.out) hb)
          replace HB := Aside0.mk (below_step (by repeat (first | (with_reducible first | exact HB.out | apply below_alloc | apply pw_below_drewN | apply below_drew1 | refine below_set ?_ GE288.out | refine below_set ?_ GE292.out | refine below_set ?_ GE293.out) | exact HB.out)) hb)
          (try clear hb)
          (try clear hb2)
          (try clear hk)
          (try clear hi)
          obtain ⟨hcz78_0, hcz78_1, hcz78_2, hcz78_3, hcz78_4, hcz78_5, hcz78_6, hcz78_7⟩ := cells8 BK292.out
          obtain ⟨hfz78_0, hfz78_1, hfz78_2, hfz78_3, hfz78_4, hfz78_5, hfz78_6, hfz78_7⟩ := frozen8 BK292.out
          go_wp2_with fail
          (refine (pred_Same.calls 2 1 1 false 2 0 _ _ ([] : List Int) _ _ ([] : List (S35)) 2 1 1 false 2 0 _ _ ([] : List Int) _ _ ([] : List (S35)) true _ ?side1 ?side2 ?side3 ?side4 ?side5 ?side6 ?side7 ?side8 A22.out).mono ?_)
          (case side1 => exact Kd.C_nil _ _)
          (case side2 => exact Nat.le_refl _)
          (case side3 => exact Kd.C_nil _ _)
          (case side4 => exact Nat.le_refl _)
          (case side5 => exact Kd.C_nil _ _)
          (case side6 => exact Nat.le_refl _)
          (case side7 => exact Kd.C_nil _ _)
          (case side8 => exact Nat.le_refl _)
          rintro e w79 ⟨rfl, hb⟩
          replace HO287 := Aside0.mk (Kd.R_below (by (with_reducible repeat (first | apply Kd.R_alloc | apply Kd.R_drewN | apply Kd.R_drew)); exact HO287.out) hb)
          replace HO291 := Aside0.mk (Kd.S_below (by (with_reducible repeat (first | apply Kd.S_alloc | apply Kd.S_drewN | apply Kd.S_drew)); exact HO291.out) hb)
          replace HO304 := Aside0.mk (Kd.R_below (by (with_reducible repeat (first | apply Kd.R_alloc | apply Kd.R_drewN | apply Kd.R_drew)); exact HO304.out) hb)
          replace HO307 := Aside0.mk (Kd.V_below (by (with_reducible repeat (first | apply Kd.V_alloc | apply Kd.V_drewN | apply Kd.V_drew)); exact HO307.out) hb)
          replace HO311 := Aside0.mk (Kd.R_below (by (with_reducible repeat (first | apply Kd.R_alloc | apply Kd.R_drewN | apply Kd.R_drew)); exact HO311.out) hb)
          replace HO320 := Aside0.mk (Kd.R_below (by (with_reducible repeat (first | apply Kd.R_alloc | apply Kd.R_drewN | apply Kd.R_drew)); exact HO320.out) hb)
          replace HO323 := Aside0.mk (Kd.V_below (by (with_reducible repeat (first | apply Kd.V_alloc | apply Kd.V_drewN | apply Kd.V_drew)); exact HO323.out) hb)
          replace HO327 := Aside0.mk (Kd.R_below (by (with_reducible repeat (first | apply Kd.R_alloc | apply Kd.R_drewN | apply Kd.R_drew)); exact HO327.out) hb)
          replace HO336 := Aside0.mk (Kd.R_below (by (with_reducible repeat (first | apply Kd.R_alloc | apply Kd.R_drewN | apply Kd.R_drew)); exact HO336.out) hb)
          replace HO339 := Aside0.mk (Kd.V_below (by (with_reducible repeat (first | apply Kd.V_alloc | apply Kd.V_drewN | apply Kd.V_drew)); exact HO339.out) hb)
          replace HO349 := Aside0.mk (Kd.R_below (by (with_reducible repeat (first | apply Kd.R_alloc | apply Kd.R_drewN | apply Kd.R_drew)); exact HO349.out) hb)
          replace HO352 := Aside0.mk (Kd.V_below (by (with_reducible repeat (first | apply Kd.V_alloc | apply Kd.V_drewN | apply Kd.V_drew)); exact HO352.out) hb)
          replace HO362 := Aside0.mk (Kd.R_below (by (with_reducible repeat (first | apply Kd.R_alloc | apply Kd.R_drewN | apply Kd.R_drew)); exact HO362.out) hb)
          replace HO365 := Aside0.mk (Kd.V_below (by (with_reducible repeat (first | apply Kd.V_alloc | apply Kd.V_drewN | apply Kd.V_drew)); exact HO365.out) hb)
          replace BK288 := Aside0.mk (blk_below (g := gb288) (o := .cells #[.slice Ao27 y285.length co27] 27 (0, 0)) (by (with_reducible repeat (first | refine blk_drewN ?_ _ | refine blk_drew ?_ | refine blk_alloc ?_ _)); exact BK288.out) hb)
          replace BK292 := Aside0.mk (blk_below (g := gb292) (o := .cells #[.int .i64 2, .int .i64 1, .int .i64 1, .bool false, .int .i64 2, .int .i64 0, .slice none 0 0, .slice none 0 0] 35 (0, 0)) (by (with_reducible repeat (first | refine blk_drewN ?_ _ | refine blk_drew ?_ | refine blk_alloc ?_ _)); exact BK292.out) hb)
          replace BK293 := Aside0.mk (blk_below (g := gb293) (o := .cells #[.int .i64 2, .int .i64 0, .int .i64 6, .bool false, .int .i64 1, .int .i64 5, .slice none 0 0, .slice none 0 0] 35 (0, 0)) (by (with_reducible repeat (first | refine blk_drewN ?_ _ | refine blk_drew ?_ | refine blk_alloc ?_ _)); exact BK293.out) hb)
          replace HB := Aside0.mk (below_step (by repeat (first | (with_reducible first | exact HB.out | apply below_alloc | apply pw_below_drewN | apply below_drew1 | refine below_set ?_ GE288.out | refine below_set ?_ GE292.out | refine below_set ?_ GE293.out) | exact HB.out)) hb)
          (try clear hb)
          (try clear hb2)
          (try clear hk)
          (try clear hi)
          obtain ⟨hcz80_0, hcz80_1, hcz80_2, hcz80_3, hcz80_4, hcz80_5, hcz80_6, hcz80_7⟩ := cells8 BK292.out
          obtain ⟨hfz80_0, hfz80_1, hfz80_2, hfz80_3, hfz80_4, hfz80_5, hfz80_6, hfz80_7⟩ := frozen8 BK292.out
          obtain ⟨hcz81_0, hcz81_1, hcz81_2, hcz81_3, hcz81_4, hcz81_5, hcz81_6, hcz81_7⟩ := cells8 BK293.out
          obtain ⟨hfz81_0, hfz81_1, hfz81_2, hfz81_3, hfz81_4, hfz81_5, hfz81_6, hfz81_7⟩ := frozen8 BK293.out
          go_wp2_with fail
          (refine (pred_Same.calls 2 1 1 false 2 0 _ _ ([] : List Int) _ _ ([] : List (S35)) 2 0 6 false 1 5 _ _ ([] : List Int) _ _ ([] : List (S35)) t369 _ ?side1 ?side2 ?side3 ?side4 ?side5 ?side6 ?side7 ?side8 A24.out).mono ?_)
          (case side1 => exact Kd.C_nil _ _)
          (case side2 => exact Nat.le_refl _)
          (case side3 => exact Kd.C_nil _ _)
          (case side4 => exact Nat.le_refl _)
          (case side5 => exact Kd.C_nil _ _)
          (case side6 => exact Nat.le_refl _)
          (case side7 => exact Kd.C_nil _ _)
          (case side8 => exact Nat.le_refl _)
          rintro e w82 ⟨rfl, hb⟩
          replace HO287 := Aside0.mk (Kd.R_below (by (with_reducible repeat (first | apply Kd.R_alloc | apply Kd.R_drewN | apply Kd.R_drew)); exact HO287.out) hb)
          replace HO291 := Aside0.mk (Kd.S_below (by (with_reducible repeat (first | apply Kd.S_alloc | apply Kd.S_drewN | apply Kd.S_drew)); exact HO291.out) hb)
          replace HO304 := Aside0.mk (Kd.R_below (by (with_reducible repeat (first | apply Kd.R_alloc | apply Kd.R_drewN | apply Kd.R_drew)); exact HO304.out) hb)
          replace HO307 := Aside0.mk (Kd.V_below (by (with_reducible repeat (first | apply Kd.V_alloc | apply Kd.V_drewN | apply Kd.V_drew)); exact HO307.out) hb)
          replace HO311 := Aside0.mk (Kd.R_below (by (with_reducible repeat (first | apply Kd.R_alloc | apply Kd.R_drewN | apply Kd.R_drew)); exact HO311.out) hb)
          replace HO320 := Aside0.mk (Kd.R_below (by (with_reducible repeat (first | apply Kd.R_alloc | apply Kd.R_drewN | apply Kd.R_drew)); exact HO320.out) hb)
          replace HO323 := Aside0.mk (Kd.V_below (by (with_reducible repeat (first | apply Kd.V_alloc | apply Kd.V_drewN | apply Kd.V_drew)); exact HO323.out) hb)
          replace HO327 := Aside0.mk (Kd.R_below (by (with_reducible repeat (first | apply Kd.R_alloc | apply Kd.R_drewN | apply Kd.R_drew)); exact HO327.out) hb)
          replace HO336 := Aside0.mk (Kd.R_below (by (with_reducible repeat (first | apply Kd.R_alloc | apply Kd.R_drewN | apply Kd.R_drew)); exact HO336.out) hb)
          replace HO339 := Aside0.mk (Kd.V_below (by (with_reducible repeat (first | apply Kd.V_alloc | apply Kd.V_drewN | apply Kd.V_drew)); exact HO339.out) hb)
          replace HO349 := Aside0.mk (Kd.R_below (by (with_reducible repeat (first | apply Kd.R_alloc | apply Kd.R_drewN | apply Kd.R_drew)); exact HO349.out) hb)
          replace HO352 := Aside0.mk (Kd.V_below (by (with_reducible repeat (first | apply Kd.V_alloc | apply Kd.V_drewN | apply Kd.V_drew)); exact HO352.out) hb)
          replace HO362 := Aside0.mk (Kd.R_below (by (with_reducible repeat (first | apply Kd.R_alloc | apply Kd.R_drewN | apply Kd.R_drew)); exact HO362.out) hb)
          replace HO365 := Aside0.mk (Kd.V_below (by (with_reducible repeat (first | apply Kd.V_alloc | apply Kd.V_drewN | apply Kd.V_drew)); exact HO365.out) hb)
          replace BK288 := Aside0.mk (blk_below (g := gb288) (o := .cells #[.slice Ao27 y285.length co27] 27 (0, 0)) (by (with_reducible repeat (first | refine blk_drewN ?_ _ | refine blk_drew ?_ | refine blk_alloc ?_ _)); exact BK288.out) hb)
          replace BK292 := Aside0.mk (blk_below (g := gb292) (o := .cells #[.int .i64 2, .int .i64 1, .int .i64 1, .bool false, .int .i64 2, .int .i64 0, .slice none 0 0, .slice none 0 0] 35 (0, 0)) (by (with_reducible repeat (first | refine blk_drewN ?_ _ | refine blk_drew ?_ | refine blk_alloc ?_ _)); exact BK292.out) hb)
          replace BK293 := Aside0.mk (blk_below (g := gb293) (o := .cells #[.int .i64 2, .int .i64 0, .int .i64 6, .bool false, .int .i64 1, .int .i64 5, .slice none 0 0, .slice none 0 0] 35 (0, 0)) (by (with_reducible repeat (first | refine blk_drewN ?_ _ | refine blk_drew ?_ | refine blk_alloc ?_ _)); exact BK293.out) hb)
          replace HB := Aside0.mk (below_step (by repeat (first | (with_reducible first | exact HB.out | apply below_alloc | apply pw_below_drewN | apply below_drew1 | refine below_set ?_ GE288.out | refine below_set ?_ GE292.out | refine below_set ?_ GE293.out) | exact HB.out)) hb)
          (try clear hb)
          (try clear hb2)
          (try clear hk)
          (try clear hi)
          go_wp2_with fail
          go_ret
          exact ⟨by first | rfl | (simp [errW_none, errW_some] <;> rfl) | (simp [*, errW_none, errW_some] <;> rfl), by repeat (first | (with_reducible first | exact HB.out | apply below_alloc | apply pw_below_drewN | apply below_drew1 | refine below_set ?_ GE288.out | refine below_set ?_ GE292.out | refine below_set ?_ GE293.out) | exact HB.out)⟩
         ·
          replace c23 := Bool.eq_false_iff.mpr c23
          subst c23
          have H1 : (none) = some r := by rw [if_neg (show ¬ (false = true) by decide)] at H; exact H
          clear H
          have H := H1
          clear H1
          exact absurd H (by simp)
       ·
        rw [if_neg c19] at H
        exact absurd H (by simp)
      ·
       rw [if_neg c16] at H
       exact absurd H (by simp)
     ·
      rw [if_neg c13] at H
      exact absurd H (by simp)
    ·
     rw [if_neg c10] at H
     exact absurd H (by simp)
   ·
    rw [if_neg c7] at H
    exact absurd H (by simp)
  ·
   rw [if_neg c4] at H
   exact absurd H (by simp)
 ·
  replace c2 := Bool.eq_false_iff.mpr c2
  subst c2
  have H1 : (none) = some r := by rw [if_neg (show ¬ (false = true) by decide)] at H; exact H
  clear H
  have H := H1
  clear H1
  exact absurd H (by simp)

-- NOT PRINTED: function 4 (colonnadelaw7_PredOwn)

end Go.Proofs.Ytlapahjdkikodaa.GPe
