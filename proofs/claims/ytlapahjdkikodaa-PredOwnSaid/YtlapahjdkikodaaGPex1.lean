-- Written by a program of this claim (wip/tools) out of the translation.
import Derived.Test.YtlapahjdkikodaaGPex0
namespace Go.Proofs.Ytlapahjdkikodaa.GPe
open Go.RowKit Go.Proofs.YtlapahjdkikodaaW.PrintWords Go.Proofs.YtlapahjdkikodaaW.PrintLast Go.Proofs.YtlapahjdkikodaaW.PrintMore Go.Proofs.Ytlapahjdkikodaa.Cells
attribute [local go_sem] max2_int min2_int max_two min_two max_three min_three max_four min_four   -- for this text's walks alone
set_option linter.unusedVariables false
set_option linter.unusedSimpArgs false

/-! ### colonnadelaw6_Schema: function 6 -/
def colonnadelaw6_Schema.l0 : Nat → Int → List ByteArray → Int → List (S58) → Option ((List (S58)))
  | 0, _, _, _, _ => none
  | k + 1, x0, x4, x5, x106000 => if x5 < (Int.tmod (Go.bits .and .i64 x0 255) 6) then (if x5 < 5 then (if 0 ≤ x5 then (if x5 < (x4.length : Int) then (if 0 ≤ (IntKind.u64.wrap (wrap64 (8 + (wrap64 (2 * x5))))) then (if 0 ≤ (IntKind.u64.wrap (wrap64 (9 + (wrap64 (2 * x5))))) then (if x106000.length < 4398046511104 then (colonnadelaw6_Schema.l0 k x0 x4 (wrap64 (x5 + 1)) (x106000 ++ [(⟨rdOf ByteArray.empty x4 x5, wrap64 ((Go.bits .and .i64 (shr .i64 x0 (IntKind.u64.wrap (wrap64 (8 + (wrap64 (2 * x5)))))) 1) + 1), ((Go.bits .and .i64 (shr .i64 x0 (IntKind.u64.wrap (wrap64 (9 + (wrap64 (2 * x5)))))) 1) == 1)⟩ : S58)])) else (none)) else (none)) else (none)) else (none)) else (none)) else (some x106000)) else (some x106000)
def colonnadelaw6_Schema.f (k : Nat) (a0 : Int) : Option ((List (S58))) := colonnadelaw6_Schema.l0 k a0 (([(⟨#[97]⟩ : ByteArray), (⟨#[98, 98]⟩ : ByteArray), (⟨#[99, 99, 99]⟩ : ByteArray), (⟨#[110, 117, 108, 108]⟩ : ByteArray), (⟨#[97, 110, 100]⟩ : ByteArray)] : List ByteArray)) 0 (([(⟨(⟨#[107, 101, 121]⟩ : ByteArray), 1, false⟩ : S58)] : List (S58)))
def colonnadelaw6_Schema.T6 : Bool × List (List Nat × List Nat) := (true, [([], []), ([0], [0]), ([], []), ([], []), ([2, 3], [2, 3]), ([4], [4]), ([], []), ([], []), ([7], [7]), ([8], [8]), ([9], [9]), ([6, 10], [6, 10]), ([11], [11]), ([12], [12]), ([], []), ([], []), ([15], [15]), ([16], [16]), ([17], [17]), ([14, 18], [14, 18]), ([19], [19]), ([20], [20]), ([5, 13, 21], [5, 13, 21]), ([22], [22]), ([1, 23], [1, 23]), ([0, 1, 2, 3, 4, 5, 6, 7, 8, 9, 10, 11, 12, 13, 14, 15, 16, 17, 18, 19, 20, 21, 22, 23, 24], []), ([25, 24, 24, 0, 1, 2, 3, 4, 5, 6, 7, 8, 9, 10, 11, 12, 13, 14, 15, 16, 17, 18, 19, 20, 21, 22, 23, 24], [24, 25])])
def colonnadelaw6_Schema.B6 : List Nat := [0, 1, 0, 0, 12, 28, 0, 0, 128, 384, 896, 1984, 4032, 8128, 0, 0, 32768, 98304, 229376, 507904, 1032192, 2080768, 4194300, 8388604, 16777215, 33554431, 67108863]
theorem colonnadelaw6_Schema.tab6 : rtab .any (opsOf Try.f6 6) = colonnadelaw6_Schema.T6 := by kernel_rfl
theorem colonnadelaw6_Schema.bits6 : waitsOk colonnadelaw6_Schema.T6.2 colonnadelaw6_Schema.B6 = true := by kernel_rfl
set_option maxHeartbeats 8000000 in
set_option maxRecDepth 100000 in
theorem colonnadelaw6_Schema.calls (k : Nat) (a0 : Int) (r : List (S58)) (w : World) (h : colonnadelaw6_Schema.f k a0 = some r) :
  Calls Try.prog 6 #[.int .i64 a0] w fun e w' => ∃ v0_ : Value, e = .returned (.agg #[v0_]) ∧ Kd.R k58 58 w' w.heap.size (fun _ => True) v0_ r ∧ Below w.heap.size w w' := by
 have hu27 := Try.underlying27
 have hu58 := Try.underlying58
 have HB := Aside0.mk (Below.refl w.heap.size w)
 have H : (colonnadelaw6_Schema.l0 k a0 (([(⟨#[97]⟩ : ByteArray), (⟨#[98, 98]⟩ : ByteArray), (⟨#[99, 99, 99]⟩ : ByteArray), (⟨#[110, 117, 108, 108]⟩ : ByteArray), (⟨#[97, 110, 100]⟩ : ByteArray)] : List ByteArray)) 0 (([(⟨(⟨#[107, 101, 121]⟩ : ByteArray), 1, false⟩ : S58)] : List (S58)))) = some r := h
 clear h
 obtain ⟨y102, hy102⟩ : ∃ y_ : List (S58), y_ = (([(⟨(⟨#[107, 101, 121]⟩ : ByteArray), 1, false⟩ : S58)] : List (S58))) := ⟨_, rfl⟩
 replace H : (colonnadelaw6_Schema.l0 k a0 (([(⟨#[97]⟩ : ByteArray), (⟨#[98, 98]⟩ : ByteArray), (⟨#[99, 99, 99]⟩ : ByteArray), (⟨#[110, 117, 108, 108]⟩ : ByteArray), (⟨#[97, 110, 100]⟩ : ByteArray)] : List ByteArray)) 0 y102) = some r := by first | (rw [hy102]; with_reducible exact H) | (have H2_ := (Option.bind_some _ _).symm.trans H; rw [hy102]; with_reducible exact H2_) | (have H2_ := (Option.bind_some _ _).symm.trans H; with_reducible exact H2_) | with_reducible exact H | (rw [hy102]; exact H) | exact H
 have Ny102 := Aside0.mk hy102
 clear hy102
 obtain ⟨y106, hy106⟩ : ∃ y_ : List ByteArray, y_ = (([(⟨#[97]⟩ : ByteArray), (⟨#[98, 98]⟩ : ByteArray), (⟨#[99, 99, 99]⟩ : ByteArray), (⟨#[110, 117, 108, 108]⟩ : ByteArray), (⟨#[97, 110, 100]⟩ : ByteArray)] : List ByteArray)) := ⟨_, rfl⟩
 replace H : (colonnadelaw6_Schema.l0 k a0 y106 0 y102) = some r := by first | (rw [hy106]; with_reducible exact H) | (have H2_ := (Option.bind_some _ _).symm.trans H; rw [hy106]; with_reducible exact H2_) | (have H2_ := (Option.bind_some _ _).symm.trans H; with_reducible exact H2_) | with_reducible exact H | (rw [hy106]; exact H) | exact H
 have Ny106 := Aside0.mk hy106
 clear hy106
 have H' := Aside0.mk H
 clear H
 go_enter Try.func6, Try.ntmps6
 go_wp2_with (first | ((with_reducible refine gate_dst (N := 2) rfl ?_); refine box_event ?hg (N := 2) ?hd (cs := #[.slice none 0 0]) (t := 27) ?hr ?_; (case hd => rfl); (case hg => rfl); (case hr => first | (go_simp; done) | (go_simp; rfl)); intro gb101 hg w2 hbox hb; have BK101 := Aside0.mk (hbox); have GW101 := Aside0.mk ((by rw [hg]; exact (below_size (by repeat (first | (with_reducible first | exact HB.out | apply below_alloc | apply pw_below_drewN | apply below_drew1) | exact HB.out))) : w.heap.size ≤ gb101)); have GE101 := Aside0.mk ((by rw [hg]; exact (below_size (by repeat (first | (with_reducible first | exact HB.out | apply below_alloc | apply pw_below_drewN | apply below_drew1) | exact HB.out))) : w.heap.size ≤ gb101)); replace HB := Aside0.mk (below_step (by repeat (first | (with_reducible first | exact HB.out | apply below_alloc | apply pw_below_drewN | apply below_drew1) | exact HB.out)) hb); clear hb hbox hg) | ((with_reducible refine gate_dst (N := 7) rfl ?_); refine Kd.R_lit k58 _ 58 ?hg (N := 7) ?hd (xs := ([(⟨(⟨#[107, 101, 121]⟩ : ByteArray), 1, false⟩ : S58)] : List (S58))) (inner := [.string (⟨#[107, 101, 121]⟩ : ByteArray), .int .i64 1, .bool false]) (ok := fun _ => True) (okp := fun _ => True) ?hr ?hp (fun _ hk => hk) trivial (Below.refl _ _) (Nat.le_refl _) (by simp) ?_; (case hd => rfl); (case hg => rfl); (case hr => first | (go_simp; done) | (go_simp; rfl)); (case hp => exact (Reps.c3 (show Kd.M k58 _ _ _ (⟨(⟨#[107, 101, 121]⟩ : ByteArray), 1, false⟩ : S58) [.string (⟨#[107, 101, 121]⟩ : ByteArray), .int .i64 1, .bool false] from (k58_mkM _ _ _ (⟨(⟨#[107, 101, 121]⟩ : ByteArray), 1, false⟩ : S58) )) (Reps.none _ _))); intro v103 w3 ho4 hb hg_ hnew_; clear hg_ hnew_; (first | rw [← Ny102.out] at ho4 | (simp only [Int.reduceToNat] at ho4; rw [← Ny102.out] at ho4)); have HO104 := Aside0.mk (Kd.R_lower ho4 (below_size (by repeat (first | (with_reducible first | exact HB.out | apply below_alloc | apply pw_below_drewN | apply below_drew1 | refine below_set ?_ GE101.out) | exact HB.out)))); replace BK101 := Aside0.mk (blk_below (g := gb101) (o := .cells #[.slice none 0 0] 27 (0, 0)) (by (with_reducible repeat (first | refine blk_drewN ?_ _ | refine blk_drew ?_ | refine blk_alloc ?_ _)); exact BK101.out) hb); replace HB := Aside0.mk (below_step (by repeat (first | (with_reducible first | exact HB.out | apply below_alloc | apply pw_below_drewN | apply below_drew1 | refine below_set ?_ GE101.out) | exact HB.out)) hb); clear hb ho4; obtain ⟨Ao5, co5, eo5⟩ := Kd.R_slice HO104.out; subst eo5) | ((with_reducible refine gate_dst (N := 3) rfl ?_); refine box_event ?hg (N := 3) ?hd (cs := #[.slice none 0 0]) (t := 27) ?hr ?_; (case hd => rfl); (case hg => rfl); (case hr => first | (go_simp; done) | (go_simp; rfl)); intro gb105 hg w6 hbox hb; replace HO104 := Aside0.mk (Kd.R_below (by (with_reducible repeat (first | apply Kd.R_alloc | apply Kd.R_drewN | apply Kd.R_drew)); exact HO104.out) hb); have BK105 := Aside0.mk (hbox); have GW105 := Aside0.mk ((by rw [hg]; exact (below_size (by repeat (first | (with_reducible first | exact HB.out | apply below_alloc | apply pw_below_drewN | apply below_drew1 | refine below_set ?_ GE101.out) | exact HB.out))) : w.heap.size ≤ gb105)); have GE105 := Aside0.mk ((by rw [hg]; exact (below_size (by repeat (first | (with_reducible first | exact HB.out | apply below_alloc | apply pw_below_drewN | apply below_drew1 | refine below_set ?_ GE101.out) | exact HB.out))) : w.heap.size ≤ gb105)); replace HB := Aside0.mk (below_step (by repeat (first | (with_reducible first | exact HB.out | apply below_alloc | apply pw_below_drewN | apply below_drew1 | refine below_set ?_ GE101.out) | exact HB.out)) hb); have NB101_105 := Aside0.mk ((by rw [hg]; exact Nat.ne_of_lt (blk_lt (g := gb101) (o := .cells #[.slice none 0 0] 27 (0, 0)) (by (with_reducible repeat (first | refine blk_drewN ?_ _ | refine blk_drew ?_ | refine blk_alloc ?_ _)); exact BK101.out)) : gb101 ≠ gb105)); have NB105_101 := Aside0.mk ((by rw [hg]; exact Nat.ne_of_gt (blk_lt (g := gb101) (o := .cells #[.slice none 0 0] 27 (0, 0)) (by (with_reducible repeat (first | refine blk_drewN ?_ _ | refine blk_drew ?_ | refine blk_alloc ?_ _)); exact BK101.out)) : gb105 ≠ gb101)); replace BK101 := Aside0.mk (blk_below (g := gb101) (o := .cells #[.slice none 0 0] 27 (0, 0)) (by (with_reducible repeat (first | refine blk_drewN ?_ _ | refine blk_drew ?_ | refine blk_alloc ?_ _)); exact BK101.out) hb); clear hb hbox hg; have hnb7 := NB105_101.out; have hnc7 := NB101_105.out; have hcz8_0 : w6.cell? ⟨gb105, 0, none⟩ = some (.slice none 0 0) := (blk_cell BK105.out 0).trans rfl; have hfz8_0 := blk_frozen BK105.out 0) | ((with_reducible refine gate_dst (N := 9) rfl ?_); refine Kd.R_lit Kd.string _ 9 ?hg (N := 9) ?hd (xs := ([(⟨#[97]⟩ : ByteArray), (⟨#[98, 98]⟩ : ByteArray), (⟨#[99, 99, 99]⟩ : ByteArray), (⟨#[110, 117, 108, 108]⟩ : ByteArray), (⟨#[97, 110, 100]⟩ : ByteArray)] : List ByteArray)) (inner := [.string (⟨#[97]⟩ : ByteArray), .string (⟨#[98, 98]⟩ : ByteArray), .string (⟨#[99, 99, 99]⟩ : ByteArray), .string (⟨#[110, 117, 108, 108]⟩ : ByteArray), .string (⟨#[97, 110, 100]⟩ : ByteArray)]) (ok := fun _ => True) (okp := fun _ => True) ?hr ?hp (fun _ hk => hk) trivial (Below.refl _ _) (Nat.le_refl _) (by simp) ?_; (case hd => rfl); (case hg => rfl); (case hr => first | (go_simp; done) | (go_simp; rfl)); (case hp => exact (Reps.one (show Kd.M Kd.string _ _ _ (⟨#[97]⟩ : ByteArray) [.string (⟨#[97]⟩ : ByteArray)] from rfl) (Reps.one (show Kd.M Kd.string _ _ _ (⟨#[98, 98]⟩ : ByteArray) [.string (⟨#[98, 98]⟩ : ByteArray)] from rfl) (Reps.one (show Kd.M Kd.string _ _ _ (⟨#[99, 99, 99]⟩ : ByteArray) [.string (⟨#[99, 99, 99]⟩ : ByteArray)] from rfl) (Reps.one (show Kd.M Kd.string _ _ _ (⟨#[110, 117, 108, 108]⟩ : ByteArray) [.string (⟨#[110, 117, 108, 108]⟩ : ByteArray)] from rfl) (Reps.one (show Kd.M Kd.string _ _ _ (⟨#[97, 110, 100]⟩ : ByteArray) [.string (⟨#[97, 110, 100]⟩ : ByteArray)] from rfl) (Reps.none _ _))))))); intro v107 w9 ho10 hb hg_ hnew_; clear hg_ hnew_; (first | rw [← Ny106.out] at ho10 | (simp only [Int.reduceToNat] at ho10; rw [← Ny106.out] at ho10)); replace HO104 := Aside0.mk (Kd.R_below (by (with_reducible repeat (first | apply Kd.R_alloc | apply Kd.R_drewN | apply Kd.R_drew)); exact (Kd.R_mono (Kd.R_far (p := ⟨gb105, 0, none⟩) (Kd.R_types HO104.out BK105.out (by decide)) (fun _ hk => hk.2) (.slice Ao5 y102.length co5)) (fun _ h_ => h_.1))) hb); have HO108 := Aside0.mk (Kd.R_lower ho10 (below_size (by repeat (first | (with_reducible first | exact HB.out | apply below_alloc | apply pw_below_drewN | apply below_drew1 | refine below_set ?_ GE101.out | refine below_set ?_ GE105.out) | exact HB.out)))); replace BK101 := Aside0.mk (blk_below (g := gb101) (o := .cells #[.slice none 0 0] 27 (0, 0)) (by (with_reducible repeat (first | refine blk_drewN ?_ _ | refine blk_drew ?_ | refine blk_alloc ?_ _)); refine blk_far ?_ NB101_105.out _; (with_reducible repeat (first | refine blk_drewN ?_ _ | refine blk_drew ?_ | refine blk_alloc ?_ _)); exact BK101.out) hb); replace BK105 := Aside0.mk (blk_below (g := gb105) (o := .cells #[.slice Ao5 y102.length co5] 27 (0, 0)) (by (with_reducible repeat (first | refine blk_drewN ?_ _ | refine blk_drew ?_ | refine blk_alloc ?_ _)); refine blk_put (cs := #[.slice none 0 0]) ?_ 0 _ rfl; (with_reducible repeat (first | refine blk_drewN ?_ _ | refine blk_drew ?_ | refine blk_alloc ?_ _)); exact BK105.out) hb); replace HB := Aside0.mk (below_step (by repeat (first | (with_reducible first | exact HB.out | apply below_alloc | apply pw_below_drewN | apply below_drew1 | refine below_set ?_ GE101.out | refine below_set ?_ GE105.out) | exact HB.out)) hb); clear hb ho10))
 go_loopg [5] k (fun kq v5 w' => ∃ (x5_1 : Int) (x106000_1 : List (S58)) (u106000 : Value), v5 = .int .i64 x5_1 ∧ Aside0 (colonnadelaw6_Schema.l0 kq a0 y106 x5_1 x106000_1 = some r) ∧ Aside0 (kq ≤ k) ∧ Aside0 (Kd.R Kd.string 9 w' w.heap.size (fun _ => True) v107 y106) ∧ Aside0 (Kd.R k58 58 w' w.heap.size (fun _ => True) u106000 x106000_1) ∧ Aside0 (w'.heap[gb101]? = some (.cells #[(.slice none 0 0)] 27 (0, 0))) ∧ Aside0 (w'.heap[gb105]? = some (.cells #[u106000] 27 (0, 0))) ∧ Aside0 (Below w.heap.size w w'))
 case atStart => exact ⟨(0), (y102), (.slice Ao5 y102.length co5), (by first | rfl | (simp; done) | (simp [*]; done)), H', ⟨Nat.le_refl _⟩, ⟨by (with_reducible repeat (first | apply Kd.R_alloc | apply Kd.R_drewN | apply Kd.R_drew)); exact HO108.out⟩, ⟨by (with_reducible repeat (first | apply Kd.R_alloc | apply Kd.R_drewN | apply Kd.R_drew)); exact HO104.out⟩, ⟨by (with_reducible repeat (first | refine blk_drewN ?_ _ | refine blk_drew ?_ | refine blk_alloc ?_ _)); exact BK101.out⟩, ⟨by (with_reducible repeat (first | refine blk_drewN ?_ _ | refine blk_drew ?_ | refine blk_alloc ?_ _)); exact BK105.out⟩, ⟨by repeat (first | (with_reducible first | exact HB.out | apply below_alloc | apply pw_below_drewN | apply below_drew1 | refine below_set ?_ GE101.out | refine below_set ?_ GE105.out) | exact HB.out)⟩⟩
 case round =>
  clear H'
  try clear p2
  try clear c3
  try clear c6
  try clear c7
  try clear hcz8_0
  try clear hfz8_0
  obtain ⟨x5_1, x106000_1, u106000, rfl, HA, HK1, HO_4, HO_106000, BK101, BK105, HB⟩ := hrel
  cases gk with
  | zero => exact absurd HA.out (by simp [colonnadelaw6_Schema.l0])
  | succ k1 =>
   have H := HA.out
   clear HA
   simp only [colonnadelaw6_Schema.l0] at H
   by_cases c11 : x5_1 < (Int.tmod (Go.bits .and .i64 a0 255) 6)
   ·
    rw [if_pos c11] at H
    have c11b0 : decide (x5_1 < (Int.tmod (Go.bits .and .i64 a0 255) 6)) = true := decide_eq_true c11
    clear c11
    by_cases c12 : x5_1 < 5
    ·
     rw [if_pos c12] at H
     have c12b0 : decide (x5_1 < 5) = true := decide_eq_true c12
     clear c12
     by_cases c13 : 0 ≤ x5_1
     ·
      rw [if_pos c13] at H
      have c13b0 : decide (0 ≤ x5_1) = true := decide_eq_true c13
      clear c13
      by_cases c14 : x5_1 < (y106.length : Int)
      ·
       rw [if_pos c14] at H
       have c14b0 : decide (x5_1 < (y106.length : Int)) = true := decide_eq_true c14
       clear c14
       obtain ⟨ji15, hji15⟩ : ∃ j_ : Int, (IntKind.u64.wrap (wrap64 (8 + (wrap64 (2 * x5_1))))) = j_ := ⟨_, rfl⟩
       replace H : (if 0 ≤ (ji15) then (if 0 ≤ (IntKind.u64.wrap (wrap64 (9 + (wrap64 (2 * x5_1))))) then (if x106000_1.length < 4398046511104 then (colonnadelaw6_Schema.l0 k1 a0 y106 (wrap64 (x5_1 + 1)) (x106000_1 ++ [(⟨rdOf ByteArray.empty y106 x5_1, wrap64 ((Go.bits .and .i64 (shr .i64 a0 (ji15)) 1) + 1), ((Go.bits .and .i64 (shr .i64 a0 (IntKind.u64.wrap (wrap64 (9 + (wrap64 (2 * x5_1)))))) 1) == 1)⟩ : S58)])) else (none)) else (none)) else (none)) = some r := by first | (rw [hji15] at H; exact H) | (simp only [hji15] at H ⊢; exact H)
       by_cases c16 : 0 ≤ (ji15)
       ·
        rw [if_pos c16] at H
        have c16b0 := eq_true c16
        have c16b1 : decide (0 ≤ (ji15)) = true := decide_eq_true c16
        clear c16
        obtain ⟨ji17, hji17⟩ : ∃ j_ : Int, (shr .i64 a0 (ji15)) = j_ := ⟨_, rfl⟩
        replace H : (if 0 ≤ (IntKind.u64.wrap (wrap64 (9 + (wrap64 (2 * x5_1))))) then (if x106000_1.length < 4398046511104 then (colonnadelaw6_Schema.l0 k1 a0 y106 (wrap64 (x5_1 + 1)) (x106000_1 ++ [(⟨rdOf ByteArray.empty y106 x5_1, wrap64 ((Go.bits .and .i64 (ji17) 1) + 1), ((Go.bits .and .i64 (shr .i64 a0 (IntKind.u64.wrap (wrap64 (9 + (wrap64 (2 * x5_1)))))) 1) == 1)⟩ : S58)])) else (none)) else (none)) = some r := by first | (rw [hji17] at H; exact H) | (simp only [hji17] at H ⊢; exact H)
        have hji17_ : (a0 / 2 ^ min (ji15).toNat 64) = ji17 := hji17
        have hji17z : (ji15) ≤ 64 → (a0 / 2 ^ (ji15).toNat) = ji17 := shr_small hji17
        obtain ⟨ji18, hji18⟩ : ∃ j_ : Int, (IntKind.u64.wrap (wrap64 (9 + (wrap64 (2 * x5_1))))) = j_ := ⟨_, rfl⟩
        replace H : (if 0 ≤ (ji18) then (if x106000_1.length < 4398046511104 then (colonnadelaw6_Schema.l0 k1 a0 y106 (wrap64 (x5_1 + 1)) (x106000_1 ++ [(⟨rdOf ByteArray.empty y106 x5_1, wrap64 ((Go.bits .and .i64 (ji17) 1) + 1), ((Go.bits .and .i64 (shr .i64 a0 (ji18)) 1) == 1)⟩ : S58)])) else (none)) else (none)) = some r := by first | (rw [hji18] at H; exact H) | (simp only [hji18] at H ⊢; exact H)
        by_cases c19 : 0 ≤ (ji18)
        ·
         rw [if_pos c19] at H
         have c19b0 := eq_true c19
         have c19b1 : decide (0 ≤ (ji18)) = true := decide_eq_true c19
         clear c19
         obtain ⟨ji20, hji20⟩ : ∃ j_ : Int, (shr .i64 a0 (ji18)) = j_ := ⟨_, rfl⟩
         replace H : (if x106000_1.length < 4398046511104 then (colonnadelaw6_Schema.l0 k1 a0 y106 (wrap64 (x5_1 + 1)) (x106000_1 ++ [(⟨rdOf ByteArray.empty y106 x5_1, wrap64 ((Go.bits .and .i64 (ji17) 1) + 1), ((Go.bits .and .i64 (ji20) 1) == 1)⟩ : S58)])) else (none)) = some r := by first | (rw [hji20] at H; exact H) | (simp only [hji20] at H ⊢; exact H)
         have hji20_ : (a0 / 2 ^ min (ji18).toNat 64) = ji20 := hji20
         have hji20z : (ji18) ≤ 64 → (a0 / 2 ^ (ji18).toNat) = ji20 := shr_small hji20
         by_cases c21 : x106000_1.length < 4398046511104
         ·
          rw [if_pos c21] at H
          have LMc21 := Aside0.mk c21
          clear c21
          obtain ⟨y110, hy110⟩ : ∃ y_ : List (S58), y_ = (x106000_1 ++ [(⟨rdOf ByteArray.empty y106 x5_1, wrap64 ((Go.bits .and .i64 (ji17) 1) + 1), ((Go.bits .and .i64 (ji20) 1) == 1)⟩ : S58)]) := ⟨_, rfl⟩
          replace H : (colonnadelaw6_Schema.l0 k1 a0 y106 (wrap64 (x5_1 + 1)) y110) = some r := by first | (rw [hy110]; with_reducible exact H) | (have H2_ := (Option.bind_some _ _).symm.trans H; rw [hy110]; with_reducible exact H2_) | (have H2_ := (Option.bind_some _ _).symm.trans H; with_reducible exact H2_) | with_reducible exact H | (rw [hy110]; exact H) | exact H
          have Ny110 := Aside0.mk hy110
          clear hy110
          have H' := Aside0.mk H
          clear H
          try go_wp2
          replace HO_4 := Aside0.mk (Kd.R_drew HO_4.out)
          replace HO_106000 := Aside0.mk (Kd.R_drew HO_106000.out)
          replace BK101 := Aside0.mk (blk_drew BK101.out)
          replace BK105 := Aside0.mk (blk_drew BK105.out)
          replace HB := Aside0.mk (below_drew1 HB.out)
          obtain ⟨Ao23, co23, eo23⟩ := Kd.R_slice HO_4.out
          (first | subst eo23 | (injection eo23 with f1_ f2_ f3_; have f4_ := f1_.symm; have f5_ := f3_.symm; clear f1_ f2_ f3_; subst f4_; subst f5_))
          have p109 : 0 ≤ (x5_1 : Int) := of_decide_eq_true (by first | (with_reducible assumption) | assumption)
          have q109 : x5_1 < (y106.length : Int) := of_decide_eq_true (by first | (with_reducible assumption) | assumption)
          obtain ⟨ad109, e109, hx109_0⟩ := Kd.at_string (Kd.R_reads' HO_4.out).2.2 x5_1 p109 q109
          cases e109
          replace p109 := eq_true p109
          replace q109 := eq_true q109
          refine start_ (n := 27) (S := fun w' => w'.cell? ⟨gb105, 0, none⟩ = some (u106000) ∧ w'.cell? (ad109.add (x5_1).toNat) = some (.string (rdOf ByteArray.empty y106 x5_1))) (ds := [24, 26]) #[false, false, false, false, false, false, false, false, false, false, false, false, false, false, false, false, false, false, false, false, false, false, false, false, false, false, false] (by kernel_rfl) rfl rfl ⟨(blk_cell BK105.out 0).trans rfl, hx109_0⟩ (fun hHeld => ?_); refine with_tabW colonnadelaw6_Schema.tab6 colonnadelaw6_Schema.bits6 (fun HT_ HW_ => ?_)
          generalize wr.drew = w22 at HO_4 HO_106000 BK101 BK105 HB hx109_0 hHeld ⊢
          refine pure_ (i := 0) (N := some 21) (v := ?_) (a' := ?_) #[true, false, false, false, false, false, false, false, false, false, false, false, false, false, false, false, false, false, false, false, false, false, false, false, false, false, false] rfl rfl (any_of HT_.out (by kernel_rfl)) (fun _ _ _ h => h) (Or.inl ⟨by rfl, ?_⟩) ?_ ?_
          rotate_left
          ·
           intro w'
           go_simp
           with_reducible rfl
          rotate_left
          ·
           simp only [Act.put, List.setIfInBounds_toArray, List.set_cons_zero, List.set_cons_succ, i64_w, i32_w]
           rfl
          refine pure_ (i := 2) (N := some 23) (v := ?_) (a' := ?_) #[true, false, true, false, false, false, false, false, false, false, false, false, false, false, false, false, false, false, false, false, false, false, false, false, false, false, false] rfl rfl (any_of HT_.out (by kernel_rfl)) (fun _ _ _ h => h) (Or.inl ⟨by rfl, ?_⟩) ?_ ?_
          rotate_left
          ·
           intro w'
           go_simp
           with_reducible rfl
          rotate_left
          ·
           simp only [Act.put, List.setIfInBounds_toArray, List.set_cons_zero, List.set_cons_succ, i64_w, i32_w]
           rfl
          refine pure_ (i := 3) (N := some 24) (v := ?_) (a' := ?_) #[true, false, true, true, false, false, false, false, false, false, false, false, false, false, false, false, false, false, false, false, false, false, false, false, false, false, false] rfl rfl (any_of HT_.out (by kernel_rfl)) (fun _ _ _ h => h) (Or.inl ⟨by rfl, ?_⟩) ?_ ?_
          rotate_left
          ·
           intro w'
           go_simp
           with_reducible rfl
          rotate_left
          ·
           simp only [Act.put, List.setIfInBounds_toArray, List.set_cons_zero, List.set_cons_succ, i64_w, i32_w]
           rfl
          refine pure_ (i := 4) (N := some 25) (v := ?_) (a' := ?_) #[true, false, true, true, true, false, false, false, false, false, false, false, false, false, false, false, false, false, false, false, false, false, false, false, false, false, false] rfl rfl (any_of HT_.out (by kernel_rfl)) (fun _ _ _ h => h) (Or.inl ⟨by rfl, ?_⟩) ?_ ?_
          rotate_left
          ·
           intro w'
           go_simp
           with_reducible rfl
          rotate_left
          ·
           simp only [Act.put, List.setIfInBounds_toArray, List.set_cons_zero, List.set_cons_succ, i64_w, i32_w]
           rfl
          refine pure_ (i := 6) (N := some 27) (v := ?_) (a' := ?_) #[true, false, true, true, true, false, true, false, false, false, false, false, false, false, false, false, false, false, false, false, false, false, false, false, false, false, false] rfl rfl (any_of HT_.out (by kernel_rfl)) (fun _ _ _ h => h) (Or.inl ⟨by rfl, ?_⟩) ?_ ?_
          rotate_left
          ·
           intro w'
           go_simp
           with_reducible rfl
          rotate_left
          ·
           simp only [Act.put, List.setIfInBounds_toArray, List.set_cons_zero, List.set_cons_succ, i64_w, i32_w]
           rfl
          refine pure_ (i := 7) (N := some 28) (v := ?_) (a' := ?_) #[true, false, true, true, true, false, true, true, false, false, false, false, false, false, false, false, false, false, false, false, false, false, false, false, false, false, false] rfl rfl (any_of HT_.out (by kernel_rfl)) (fun _ _ _ h => h) (Or.inl ⟨by rfl, ?_⟩) ?_ ?_
          rotate_left
          ·
           intro w'
           go_simp
           with_reducible rfl
          rotate_left
          ·
           simp only [Act.put, List.setIfInBounds_toArray, List.set_cons_zero, List.set_cons_succ, i64_w, i32_w]
           rfl
          refine pure_ (i := 8) (N := some 29) (v := ?_) (a' := ?_) #[true, false, true, true, true, false, true, true, true, false, false, false, false, false, false, false, false, false, false, false, false, false, false, false, false, false, false] rfl rfl (any_of HT_.out (by kernel_rfl)) (fun _ _ _ h => h) (Or.inl ⟨by rfl, ?_⟩) ?_ ?_
          rotate_left
          ·
           intro w'
           go_simp
           with_reducible rfl
          rotate_left
          ·
           simp only [Act.put, List.setIfInBounds_toArray, List.set_cons_zero, List.set_cons_succ, i64_w, i32_w]
           rfl
          refine pure_ (i := 9) (N := some 30) (v := ?_) (a' := ?_) #[true, false, true, true, true, false, true, true, true, true, false, false, false, false, false, false, false, false, false, false, false, false, false, false, false, false, false] rfl rfl (any_of HT_.out (by kernel_rfl)) (fun _ _ _ h => h) (Or.inl ⟨by rfl, ?_⟩) ?_ ?_
          rotate_left
          ·
           intro w'
           go_simp
           with_reducible rfl
          rotate_left
          ·
           simp only [Act.put, List.setIfInBounds_toArray, List.set_cons_zero, List.set_cons_succ, i64_w, i32_w]
           rfl
          refine pure_ (i := 10) (N := some 31) (v := ?_) (a' := ?_) #[true, false, true, true, true, false, true, true, true, true, true, false, false, false, false, false, false, false, false, false, false, false, false, false, false, false, false] rfl rfl (any_of HT_.out (by kernel_rfl)) (fun _ _ _ h => h) (Or.inl ⟨by rfl, ?_⟩) ?_ ?_
          rotate_left
          ·
           intro w'
           go_simp
           with_reducible rfl
          rotate_left
          ·
           simp only [Act.put, List.setIfInBounds_toArray, List.set_cons_zero, List.set_cons_succ, i64_w, i32_w]
           rfl
          refine pure_ (i := 11) (N := some 32) (v := ?_) (a' := ?_) #[true, false, true, true, true, false, true, true, true, true, true, true, false, false, false, false, false, false, false, false, false, false, false, false, false, false, false] rfl rfl (any_of HT_.out (by kernel_rfl)) (fun _ _ _ h => h) (Or.inl ⟨by rfl, ?_⟩) ?_ ?_
          rotate_left
          ·
           intro w'
           go_simp
           with_reducible rfl
          rotate_left
          ·
           simp only [Act.put, List.setIfInBounds_toArray, List.set_cons_zero, List.set_cons_succ, i64_w, i32_w]
           rfl
          refine pure_ (i := 12) (N := some 33) (v := ?_) (a' := ?_) #[true, false, true, true, true, false, true, true, true, true, true, true, true, false, false, false, false, false, false, false, false, false, false, false, false, false, false] rfl rfl (any_of HT_.out (by kernel_rfl)) (fun _ _ _ h => h) (Or.inl ⟨by rfl, ?_⟩) ?_ ?_
          rotate_left
          ·
           intro w'
           go_simp
           with_reducible rfl
          rotate_left
          ·
           simp only [Act.put, List.setIfInBounds_toArray, List.set_cons_zero, List.set_cons_succ, i64_w, i32_w]
           rfl
          refine pure_ (i := 13) (N := some 34) (v := ?_) (a' := ?_) #[true, false, true, true, true, false, true, true, true, true, true, true, true, true, false, false, false, false, false, false, false, false, false, false, false, false, false] rfl rfl (any_of HT_.out (by kernel_rfl)) (fun _ _ _ h => h) (Or.inl ⟨by rfl, ?_⟩) ?_ ?_
          rotate_left
          ·
           intro w'
           go_simp
           with_reducible rfl
          rotate_left
          ·
           simp only [Act.put, List.setIfInBounds_toArray, List.set_cons_zero, List.set_cons_succ, i64_w, i32_w]
           rfl
          refine pure_ (i := 14) (N := some 35) (v := ?_) (a' := ?_) #[true, false, true, true, true, false, true, true, true, true, true, true, true, true, true, false, false, false, false, false, false, false, false, false, false, false, false] rfl rfl (any_of HT_.out (by kernel_rfl)) (fun _ _ _ h => h) (Or.inl ⟨by rfl, ?_⟩) ?_ ?_
          rotate_left
          ·
           intro w'
           go_simp
           with_reducible rfl
          rotate_left
          ·
           simp only [Act.put, List.setIfInBounds_toArray, List.set_cons_zero, List.set_cons_succ, i64_w, i32_w]
           rfl
          refine pure_ (i := 15) (N := some 36) (v := ?_) (a' := ?_) #[true, false, true, true, true, false, true, true, true, true, true, true, true, true, true, true, false, false, false, false, false, false, false, false, false, false, false] rfl rfl (any_of HT_.out (by kernel_rfl)) (fun _ _ _ h => h) (Or.inl ⟨by rfl, ?_⟩) ?_ ?_
          rotate_left
          ·
           intro w'
           go_simp
           with_reducible rfl
          rotate_left
          ·
           simp only [Act.put, List.setIfInBounds_toArray, List.set_cons_zero, List.set_cons_succ, i64_w, i32_w]
           rfl
          refine pure_ (i := 16) (N := some 37) (v := ?_) (a' := ?_) #[true, false, true, true, true, false, true, true, true, true, true, true, true, true, true, true, true, false, false, false, false, false, false, false, false, false, false] rfl rfl (any_of HT_.out (by kernel_rfl)) (fun _ _ _ h => h) (Or.inl ⟨by rfl, ?_⟩) ?_ ?_
          rotate_left
          ·
           intro w'
           go_simp
           with_reducible rfl
          rotate_left
          ·
           simp only [Act.put, List.setIfInBounds_toArray, List.set_cons_zero, List.set_cons_succ, i64_w, i32_w]
           rfl
          refine pure_ (i := 17) (N := some 38) (v := ?_) (a' := ?_) #[true, false, true, true, true, false, true, true, true, true, true, true, true, true, true, true, true, true, false, false, false, false, false, false, false, false, false] rfl rfl (any_of HT_.out (by kernel_rfl)) (fun _ _ _ h => h) (Or.inl ⟨by rfl, ?_⟩) ?_ ?_
          rotate_left
          ·
           intro w'
           go_simp
           with_reducible rfl
          rotate_left
          ·
           simp only [Act.put, List.setIfInBounds_toArray, List.set_cons_zero, List.set_cons_succ, i64_w, i32_w]
           rfl
          refine pure_ (i := 18) (N := some 39) (v := ?_) (a' := ?_) #[true, false, true, true, true, false, true, true, true, true, true, true, true, true, true, true, true, true, true, false, false, false, false, false, false, false, false] rfl rfl (any_of HT_.out (by kernel_rfl)) (fun _ _ _ h => h) (Or.inl ⟨by rfl, ?_⟩) ?_ ?_
          rotate_left
          ·
           intro w'
           go_simp
           with_reducible rfl
          rotate_left
          ·
           simp only [Act.put, List.setIfInBounds_toArray, List.set_cons_zero, List.set_cons_succ, i64_w, i32_w]
           rfl
          refine pure_ (i := 19) (N := some 40) (v := ?_) (a' := ?_) #[true, false, true, true, true, false, true, true, true, true, true, true, true, true, true, true, true, true, true, true, false, false, false, false, false, false, false] rfl rfl (any_of HT_.out (by kernel_rfl)) (fun _ _ _ h => h) (Or.inl ⟨by rfl, ?_⟩) ?_ ?_
          rotate_left
          ·
           intro w'
           go_simp
           with_reducible rfl
          rotate_left
          ·
           simp only [Act.put, List.setIfInBounds_toArray, List.set_cons_zero, List.set_cons_succ, i64_w, i32_w]
           rfl
          refine pure_ (i := 20) (N := some 41) (v := ?_) (a' := ?_) #[true, false, true, true, true, false, true, true, true, true, true, true, true, true, true, true, true, true, true, true, true, false, false, false, false, false, false] rfl rfl (any_of HT_.out (by kernel_rfl)) (fun _ _ _ h => h) (Or.inl ⟨by rfl, ?_⟩) ?_ ?_
          rotate_left
          ·
           intro w'
           go_simp
           with_reducible rfl
          rotate_left
          ·
           simp only [Act.put, List.setIfInBounds_toArray, List.set_cons_zero, List.set_cons_succ, i64_w, i32_w]
           rfl
          refine pure_ (i := 21) (N := some 42) (v := ?_) (a' := ?_) #[true, false, true, true, true, false, true, true, true, true, true, true, true, true, true, true, true, true, true, true, true, true, false, false, false, false, false] rfl rfl (any_of HT_.out (by kernel_rfl)) (fun _ _ _ h => h) (Or.inl ⟨by rfl, ?_⟩) ?_ ?_
          rotate_left
          ·
           intro w'
           go_simp
           with_reducible rfl
          rotate_left
          ·
           simp only [Act.put, List.setIfInBounds_toArray, List.set_cons_zero, List.set_cons_succ, i64_w, i32_w]
           rfl
          refine take_ (i := 1) (N := some 22) (v := ?_) (a' := ?_) #[true, true, true, true, true, false, true, true, true, true, true, true, true, true, true, true, true, true, true, true, true, true, false, false, false, false, false] rfl rfl (take_ofW HT_.out HW_.out (by kernel_rfl)) (fun _ _ _ h => h) (Or.inl ⟨by rfl, ?_⟩) hHeld ?_ ?_
          rotate_left
          ·
           rintro w' ⟨s0, s1⟩
           go_simp
           with_reducible rfl
          rotate_left
          ·
           simp only [Act.put, List.setIfInBounds_toArray, List.set_cons_zero, List.set_cons_succ, i64_w, i32_w]
           rfl
          refine take_ (i := 5) (N := some 26) (v := ?_) (a' := ?_) #[true, true, true, true, true, true, true, true, true, true, true, true, true, true, true, true, true, true, true, true, true, true, false, false, false, false, false] rfl rfl (take_ofW HT_.out HW_.out (by kernel_rfl)) (fun _ _ _ h => h) (Or.inl ⟨by rfl, ?_⟩) hHeld ?_ ?_
          rotate_left
          ·
           rintro w' ⟨s0, s1⟩
           go_simp
           with_reducible rfl
          rotate_left
          ·
           simp only [Act.put, List.setIfInBounds_toArray, List.set_cons_zero, List.set_cons_succ, i64_w, i32_w]
           rfl
          refine pure_ (i := 22) (N := some 43) (v := ?_) (a' := ?_) #[true, true, true, true, true, true, true, true, true, true, true, true, true, true, true, true, true, true, true, true, true, true, true, false, false, false, false] rfl rfl (any_of HT_.out (by kernel_rfl)) (fun _ _ _ h => h) (Or.inl ⟨by rfl, ?_⟩) ?_ ?_
          rotate_left
          ·
           intro w'
           go_simp
           with_reducible rfl
          rotate_left
          ·
           simp only [Act.put, List.setIfInBounds_toArray, List.set_cons_zero, List.set_cons_succ, i64_w, i32_w]
           rfl
          refine one_ (i := 23) (N := some 44) #[true, true, true, true, true, true, true, true, true, true, true, true, true, true, true, true, true, true, true, true, true, true, true, true, false, false, false] rfl rfl (one_of HT_.out (by kernel_rfl)) (by decide) (fun K hK => ?_)
          refine value_ (w1 := ?_) (v := ?_) (by rfl) rfl ?_ ?_
          rotate_left 2
          ·
           go_simp
           constructor
           ·
            rfl
           ·
            rfl
          refine hK.out _ _ ⟨(blk_cell (blk_alloc BK105.out _) 0).trans rfl, (World.cell?_alloc_lt _ _ _ (World.block_lt_of_cell? _ _ (hHeld.2))).trans (hHeld.2)⟩ (fun hHeld => ?_)
          clear hK K
          refine norm_ (a' := ?_) ?_ ?_
          rotate_left
          ·
           show Act.put _ (some 44) _ = _
           simp only [Act.put, List.setIfInBounds_toArray, List.set_cons_zero, List.set_cons_succ, i64_w, i32_w]
           rfl
          refine last_ (i := 24) (N := some 45) #[true, true, true, true, true, true, true, true, true, true, true, true, true, true, true, true, true, true, true, true, true, true, true, true, true, false, false] rfl rfl (one_of HT_.out (by kernel_rfl)) (by decide) (fun K hK => ?_)
          refine Kd.R_append_step k58 (w0 := w) w.heap.size (by rfl) (.tmp 22) (.tmp 44) 25 58 (.agg #[(.string ⟨#[]⟩), (.int .i64 0), (.bool false)]) 32 rfl Try.underlying25 info58 rfl (by decide) (by omega) u106000 x106000_1 (⟨rdOf ByteArray.empty y106 x5_1, wrap64 ((Go.bits .and .i64 (ji17) 1) + 1), ((Go.bits .and .i64 (ji20) 1) == 1)⟩ : S58) [.string (rdOf ByteArray.empty y106 x5_1), .int .i64 (wrap64 ((Go.bits .and .i64 (ji17) 1) + 1)), .bool ((Go.bits .and .i64 (ji20) 1) == 1)] (fun _ => True) (fun _ => False) rfl rfl ?aP (fun _ hk => hk.elim) ?aF ?aO ?aB ?aS ?aL ?_
          (case aP => exact k58_mkM _ _ _ (⟨rdOf ByteArray.empty y106 x5_1, wrap64 ((Go.bits .and .i64 (ji17) 1) + 1), ((Go.bits .and .i64 (ji20) 1) == 1)⟩ : S58))
          (case aB => exact HB.out)
          (case aF => exact (fun _ _ => trivial))
          (case aO => exact HO_106000.out)
          (case aS => exact (below_size HB.out))
          (case aL => have := LMc21.out; omega)
          intro v111 w24 ho hb hg hat
          rw [← Ny110.out] at ho
          replace HO_4 := Aside0.mk (Kd.R_over' HO_4.out (Kd.R_typed HO_106000.out) (by decide) hg)
          replace BK101 := Aside0.mk (blk_grown (g := gb101) (o := .cells #[.slice none 0 0] 27 (0, 0)) BK101.out hg (Kd.R_ne HO_106000.out BK101.out (by decide)))
          replace BK105 := Aside0.mk (blk_grown (g := gb105) (o := .cells #[u106000] 27 (0, 0)) BK105.out hg (Kd.R_ne HO_106000.out BK105.out (by decide)))
          replace HB := Aside0.mk (hb)
          have HO112 := Aside0.mk (ho)
          clear HO_106000 ho hb hg hat
          obtain ⟨Ao25, co25, eo25⟩ := Kd.R_slice HO112.out
          (first | subst eo25 | (injection eo25 with f1_ f2_ f3_; have f4_ := f1_.symm; have f5_ := f3_.symm; clear f1_ f2_ f3_; subst f4_; subst f5_))
          refine hK.out _ _ ?_
          clear hK K
          refine norm_ (a' := ?_) ?_ ?_
          rotate_left
          ·
           show Act.put _ (some 45) _ = _
           simp only [Act.put, List.setIfInBounds_toArray, List.set_cons_zero, List.set_cons_succ, i64_w, i32_w]
           rfl
          refine pure_ (i := 25) (N := some 46) (v := ?_) (a' := ?_) #[true, true, true, true, true, true, true, true, true, true, true, true, true, true, true, true, true, true, true, true, true, true, true, true, true, true, false] rfl rfl (any_of HT_.out (by kernel_rfl)) (fun _ _ _ h => h) (Or.inl ⟨by rfl, ?_⟩) ?_ ?_
          rotate_left
          ·
           intro w'
           go_simp
           with_reducible rfl
          rotate_left
          ·
           simp only [Act.put, List.setIfInBounds_toArray, List.set_cons_zero, List.set_cons_succ, i64_w, i32_w]
           rfl
          refine last_ (i := 26) (N := none) #[true, true, true, true, true, true, true, true, true, true, true, true, true, true, true, true, true, true, true, true, true, true, true, true, true, true, true] rfl rfl (one_of HT_.out (by kernel_rfl)) (by decide) (fun K hK => ?_)
          have hs26 : w24.cell? ⟨gb105, 0, none⟩ = some (u106000) := (blk_cell BK105.out 0).trans rfl
          have hfs26 := blk_frozen BK105.out 0
          have hns26_0 := NB101_105.out
          have hms26_0 := NB105_101.out
          refine skip_ (w1 := ?_) (by rfl) rfl ?_ ?_
          rotate_left
          ·
           go_simp
           rfl
          refine hK.out _ _ ?_
          clear hK K
          refine done_ (done_of HT_.out (by kernel_rfl)) ?_
          try go_wp2
          go_roundg k1
          case measure => have := HK1.out; omega
          case rel => exact ⟨(wrap64 (x5_1 + 1)), (y110), (.slice Ao25 y110.length co25), (by first | rfl | (simp; done) | (simp [*]; done)), H', ⟨by have := HK1.out; omega⟩, ⟨by (with_reducible repeat (first | apply Kd.R_alloc | apply Kd.R_drewN | apply Kd.R_drew)); exact Kd.R_mono (Kd.R_far (p := ⟨gb105, 0, none⟩) (Kd.R_types HO_4.out BK105.out (by decide)) (fun _ hk => hk.2) (.slice Ao25 y110.length co25)) (fun _ hk => trivial)⟩, ⟨by (with_reducible repeat (first | apply Kd.R_alloc | apply Kd.R_drewN | apply Kd.R_drew)); exact Kd.R_mono (Kd.R_far (p := ⟨gb105, 0, none⟩) (Kd.R_types HO112.out BK105.out (by decide)) (fun _ hk => hk.2) (.slice Ao25 y110.length co25)) (fun _ hk => trivial)⟩, ⟨by (with_reducible repeat (first | refine blk_drewN ?_ _ | refine blk_drew ?_ | refine blk_alloc ?_ _)); refine blk_far ?_ NB101_105.out _; (with_reducible repeat (first | refine blk_drewN ?_ _ | refine blk_drew ?_ | refine blk_alloc ?_ _)); exact BK101.out⟩, ⟨by (with_reducible repeat (first | refine blk_drewN ?_ _ | refine blk_drew ?_ | refine blk_alloc ?_ _)); refine blk_put (cs := #[u106000]) ?_ 0 _ rfl; (with_reducible repeat (first | refine blk_drewN ?_ _ | refine blk_drew ?_ | refine blk_alloc ?_ _)); exact BK105.out⟩, ⟨by repeat (first | (with_reducible first | exact HB.out | apply below_alloc | apply pw_below_drewN | apply below_drew1 | refine below_set ?_ GE101.out | refine below_set ?_ GE105.out) | exact HB.out)⟩⟩
         ·
          rw [if_neg c21] at H
          exact absurd H (by simp)
        ·
         rw [if_neg c19] at H
         exact absurd H (by simp)
       ·
        rw [if_neg c16] at H
        exact absurd H (by simp)
      ·
       rw [if_neg c14] at H
       exact absurd H (by simp)
     ·
      rw [if_neg c13] at H
      exact absurd H (by simp)
    ·
     rw [if_neg c12] at H
     have c12b0 : decide (x5_1 < 5) = false := decide_eq_false c12
     clear c12
     obtain rfl := Option.some.inj H
     have hnb27 := NB105_101.out
     have hnc27 := NB101_105.out
     have hcz28_0 : wr.cell? ⟨gb105, 0, none⟩ = some (u106000) := (blk_cell BK105.out 0).trans rfl
     have hfz28_0 := blk_frozen BK105.out 0
     obtain ⟨Ao29, co29, eo29⟩ := Kd.R_slice HO_106000.out
     subst eo29
     have hcz30_0 : wr.cell? ⟨gb101, 0, none⟩ = some (.slice none 0 0) := (blk_cell BK101.out 0).trans rfl
     have hfz30_0 := blk_frozen BK101.out 0
     go_wp2
     refine bodyPost_ret (results_cell_row rfl _ _ gb101 27 #[.slice Ao29 x106000_1.length co29] (0, 0) _ rfl (by (with_reducible repeat (first | refine blk_drewN ?_ _ | refine blk_drew ?_ | refine blk_alloc ?_ _)); refine blk_put (cs := #[.slice none 0 0]) ?_ 0 _ rfl; (with_reducible repeat (first | refine blk_drewN ?_ _ | refine blk_drew ?_ | refine blk_alloc ?_ _)); exact BK101.out) Try.underlying27 rfl (by kernel_rfl)) rfl ?_
     exact ⟨_, by first | rfl | (simp [errW_none, errW_some] <;> rfl) | (simp [*, errW_none, errW_some] <;> rfl), by (with_reducible repeat (first | apply Kd.R_alloc | apply Kd.R_drewN | apply Kd.R_drew)); exact Kd.R_mono (Kd.R_far (p := ⟨gb101, 0, none⟩) (Kd.R_types HO_106000.out BK101.out (by decide)) (fun _ hk => hk.2) (.slice Ao29 x106000_1.length co29)) (fun _ hk => trivial), by repeat (first | (with_reducible first | exact HB.out | apply below_alloc | apply pw_below_drewN | apply below_drew1 | refine below_set ?_ GE101.out | refine below_set ?_ GE105.out) | exact HB.out)⟩
   ·
    rw [if_neg c11] at H
    have c11b0 : decide (x5_1 < (Int.tmod (Go.bits .and .i64 a0 255) 6)) = false := decide_eq_false c11
    clear c11
    obtain rfl := Option.some.inj H
    have hnb31 := NB105_101.out
    have hnc31 := NB101_105.out
    have hcz32_0 : wr.cell? ⟨gb105, 0, none⟩ = some (u106000) := (blk_cell BK105.out 0).trans rfl
    have hfz32_0 := blk_frozen BK105.out 0
    obtain ⟨Ao33, co33, eo33⟩ := Kd.R_slice HO_106000.out
    subst eo33
    have hcz34_0 : wr.cell? ⟨gb101, 0, none⟩ = some (.slice none 0 0) := (blk_cell BK101.out 0).trans rfl
    have hfz34_0 := blk_frozen BK101.out 0
    go_wp2
    refine bodyPost_ret (results_cell_row rfl _ _ gb101 27 #[.slice Ao33 x106000_1.length co33] (0, 0) _ rfl (by (with_reducible repeat (first | refine blk_drewN ?_ _ | refine blk_drew ?_ | refine blk_alloc ?_ _)); refine blk_put (cs := #[.slice none 0 0]) ?_ 0 _ rfl; (with_reducible repeat (first | refine blk_drewN ?_ _ | refine blk_drew ?_ | refine blk_alloc ?_ _)); exact BK101.out) Try.underlying27 rfl (by kernel_rfl)) rfl ?_
    exact ⟨_, by first | rfl | (simp [errW_none, errW_some] <;> rfl) | (simp [*, errW_none, errW_some] <;> rfl), by (with_reducible repeat (first | apply Kd.R_alloc | apply Kd.R_drewN | apply Kd.R_drew)); exact Kd.R_mono (Kd.R_far (p := ⟨gb101, 0, none⟩) (Kd.R_types HO_106000.out BK101.out (by decide)) (fun _ hk => hk.2) (.slice Ao33 x106000_1.length co33)) (fun _ hk => trivial), by repeat (first | (with_reducible first | exact HB.out | apply below_alloc | apply pw_below_drewN | apply below_drew1 | refine below_set ?_ GE101.out | refine below_set ?_ GE105.out) | exact HB.out)⟩

/-! ### colonnadelaw6_Value: function 21 -/
theorem and_mask (x : Int) (m : Int) (j : Nat) (hj : j ≤ 62) (hm : m = 2 ^ j - 1) : Go.bits .and .i64 x m = x % 2 ^ j := by
  subst hm
  show IntKind.i64.wrap ((BitVec.ofInt 64 x &&& BitVec.ofInt 64 (2 ^ j - 1)).toNat : Int) = _
  rw [BitVec.toNat_and, BitVec.toNat_ofInt, BitVec.toNat_ofInt]
  have hp : (0 : Int) < 2 ^ j := Int.pow_pos (by decide)
  have hle : (2 : Int) ^ j ≤ 2 ^ 62 := by exact_mod_cast Nat.pow_le_pow_right (by decide) hj
  have h1 : ((2 : Int) ^ j - 1) % ((2 ^ 64 : Nat) : Int) = 2 ^ j - 1 := Int.emod_eq_of_lt (by omega) (by have : ((2 ^ 64 : Nat) : Int) = 2 ^ 62 * 4 := by decide
                                                                                                         omega)
  have h2 : ((2 : Int) ^ j - 1).toNat = 2 ^ j - 1 := by
    have : ((2 : Int) ^ j - 1) = ((2 ^ j - 1 : Nat) : Int) := by
      have hq : 1 ≤ 2 ^ j := Nat.one_le_two_pow
      push_cast [hq]
      rfl
    rw [this, Int.toNat_natCast]
  rw [h1, h2, Nat.and_two_pow_sub_one_eq_mod]
  have h3 : (((x % ((2 ^ 64 : Nat) : Int)).toNat % 2 ^ j : Nat) : Int) = x % 2 ^ j := by
    have h64 : (0 : Int) ≤ x % ((2 ^ 64 : Nat) : Int) := Int.emod_nonneg _ (by decide)
    rw [Int.natCast_emod, Int.toNat_of_nonneg h64, Int.natCast_pow, Int.natCast_pow]
    have : (((2 : Nat) : Int) ^ 64) = ((2 : Nat) : Int) ^ j * ((2 : Nat) : Int) ^ (64 - j) := by rw [← Int.pow_add]; congr 1; omega
    rw [this]
    exact Int.emod_emod_of_dvd x (Int.dvd_mul_right _ _)
  rw [h3, IntKind.wrap_i64]
  have := Int.emod_nonneg x (b := 2 ^ j) (by omega)
  have := Int.emod_lt_of_pos x hp
  have : (2 : Int) ^ 62 = 4611686018427387904 := by decide
  omega
theorem and3_range (x : Int) : 0 ≤ Go.bits .and .i64 x 3 ∧ Go.bits .and .i64 x 3 ≤ 3 := by
  rw [and_mask x 3 2 (by decide) (by decide)]; omega
theorem V_const {W : World} {B lo n cap base b0 : Nat} {cur : Array Value} {e : TypeId} {fr : Nat × Nat} {xs : List Int} (hb : W.heap[B]? = some (.cells cur e fr)) (hlt : base ≤ B) (hx : xs.length = n) (hn : n ≤ cap) (hmax : n ≤ 9223372036854775807)
    (hc : ∀ j, j < n → cur[lo + j]? = some (.int .u8 (xs.getD j 0))) : Kd.V (Kd.int .u8) 5 W b0 (fun k => base ≤ k) (.slice (some ⟨B, lo, none⟩) n cap) xs := by
  subst hx
  refine ⟨_, _, rfl, hn, fun W' hW => ⟨rfl, hmax, fun hp => ⟨_, rfl, fun j p hj => ?_⟩⟩⟩
  have hB : W'.heap[B]? = some (.cells cur e fr) := (hW B hlt (Array.getElem?_eq_some_iff.1 hb).1).trans hb
  obtain ⟨hjl, hjp⟩ := List.getElem?_eq_some_iff.1 hj
  refine ⟨[.int .u8 p], rfl, rfl, fun i u hu => ?_⟩
  have hi : i = 0 := by
    have := (List.getElem?_eq_some_iff.1 hu).1
    simp at this
    exact this
  subst hi
  simp at hu
  subst hu
  have ha : (⟨B, lo, none⟩ : Addr).add (j * 1 + 0) = ⟨B, lo + j, none⟩ := by unfold Addr.add; split <;> simp_all
  show W'.cell? ((⟨B, lo, none⟩ : Addr).add (j * 1 + 0)) = _
  rw [ha, cell_of_row W' B (lo + j) cur e fr hB, hc j hjl, ← hjp]
  simp [List.getD_eq_getElem?_getD, hjl]
def valBytes (lo n : Int) : List Int := (([97, 98, 99, 97, 98, 99, 97, 98] : List Int).drop lo.toNat).take n.toNat
theorem valBytes_at (lo d : Int) (j : Nat) (h0 : 0 ≤ lo) (h1 : lo ≤ 3) (h2 : d ≤ 3) (hj : j < d.toNat) : (#[.int .u8 97, .int .u8 98, .int .u8 99, .int .u8 97, .int .u8 98, .int .u8 99, .int .u8 97, .int .u8 98] : Array Value)[lo.toNat + j]? = some (.int .u8 ((valBytes lo d).getD j 0)) := by
  have hv : (valBytes lo d).getD j 0 = ([97, 98, 99, 97, 98, 99, 97, 98] : List Int).getD (lo.toNat + j) 0 := by
    simp only [valBytes, List.getD_eq_getElem?_getD, List.getElem?_take, List.getElem?_drop]
    rw [if_pos hj]
  rw [hv]
  obtain ⟨p, hp⟩ : ∃ p, p = lo.toNat + j := ⟨_, rfl⟩
  rw [← hp]
  have : p < 8 := by omega
  have key : ∀ p : Fin 8, (#[.int .u8 97, .int .u8 98, .int .u8 99, .int .u8 97, .int .u8 98, .int .u8 99, .int .u8 97, .int .u8 98] : Array Value)[p.1]? = some (.int .u8 (([97, 98, 99, 97, 98, 99, 97, 98] : List Int).getD p.1 0)) := by
    intro p
    match p with
    | 0 | 1 | 2 | 3 | 4 | 5 | 6 | 7 => rfl
  exact key ⟨p, this⟩
def and7 (n : Int) : Int := Go.bits .and .i64 n 7
set_option maxHeartbeats 1000000 in
set_option maxRecDepth 100000 in
theorem Value_bytes (nm : ByteArray) (kind : Int) (null : Bool) (n : Int) (w : World) (h0 : null = false ∨ (Go.bits .and .i64 n 7 == 0) = false) (hk : (kind == 1) = false) :
    Calls Try.prog 21 #[.agg #[.string nm, .int .i64 kind, .bool null], .int .i64 n] w fun e w' => ∃ v3_ : Value, e = .returned (.agg #[.bool false, .int .i64 kind, .int .i64 0, v3_]) ∧
      Kd.V (Kd.int .u8) 5 w' w.heap.size (fun k_ => (w.heap.size ≤ k_)) v3_ (valBytes (Go.bits .and .i64 (n / 8) 3) (Go.bits .and .i64 (n / 32) 3)) ∧ Below w.heap.size w w' := by
  have hu32 := Try.underlying32
  have hu58 := Try.underlying58
  have r1 := and3_range (n / 8)
  have r2 := and3_range (n / 32)
  generalize hlo : Go.bits .and .i64 (n / 8) 3 = lo at *
  generalize hd : Go.bits .and .i64 (n / 32) 3 = d at *
  have kc : ∀ (a b c : Obj) (C : Array Value), (convert 30 30 (.slice (some ⟨w.heap.size + 1 + 1 + 1, 0, none⟩) 8 8)).run Try.prog ((((w.alloc a).alloc b).alloc c).alloc (.cells C 5)) = .ok (.slice (some ⟨w.heap.size + 1 + 1 + 1, 0, none⟩) 8 8) ((((w.alloc a).alloc b).alloc c).alloc (.cells C 5 (C.size, C.size + 1))) := fun a b c C => by
    have h := Go.Lib.run_convert_bytes_const (P := Try.prog) (((w.alloc a).alloc b).alloc c) 30 5 C 8 8 Try.underlying30 Try.underlying5
    simpa only [World.size_alloc] using h
  cases null
  · clear h0
    go_enter Try.func21, Try.ntmps21
    go_wp2
    refine bodyPost_ret (v := .agg #[.bool false, .int .i64 kind, .int .i64 0, .slice (some ⟨w.heap.size + 1 + 1 + 1, lo.toNat, none⟩) ((lo + d).toNat - lo.toNat) (8 - lo.toNat)]) (by simp [results, Try.results21, go_sem]) rfl ⟨_, rfl, ?_, ?_⟩
    · have hl : (valBytes lo d).length = (lo + d).toNat - lo.toNat := by simp [valBytes]; omega
      refine V_const (B := w.heap.size + 1 + 1 + 1) (cur := #[.int .u8 97, .int .u8 98, .int .u8 99, .int .u8 97, .int .u8 98, .int .u8 99, .int .u8 97, .int .u8 98]) (e := 5) (fr := (8, 9)) ?_ (by omega) hl (by omega) (by omega) ?_
      · have := heap_alloc_new (((w.alloc (Obj.cells #[.string nm, .int .i64 kind, .bool false] 58)).alloc (Obj.cells #[.bool false, .int .i64 kind, .int .i64 0, .slice (some ⟨w.heap.size + 1 + 1 + 1, lo.toNat, none⟩) ((lo + d).toNat - lo.toNat) (8 - lo.toNat)] 32)).alloc (Obj.cells #[.bool false, .int .i64 kind, .int .i64 0, .slice (some ⟨w.heap.size + 1 + 1 + 1, lo.toNat, none⟩) ((lo + d).toNat - lo.toNat) (8 - lo.toNat)] 32)) (.cells #[.int .u8 97, .int .u8 98, .int .u8 99, .int .u8 97, .int .u8 98, .int .u8 99, .int .u8 97, .int .u8 98] 5 (8, 9))
        simpa only [World.size_alloc] using this
      · intro j hj
        exact valBytes_at lo d j (by omega) (by omega) (by omega) (by omega)
    · exact ((((Below.refl _ _).alloc (Nat.le_refl _) _).alloc (by simp) _).alloc (by simp; omega) _).alloc (by simp; omega) _
  · have h0' : (and7 n == 0) = false := by simpa [and7] using h0
    unfold and7 at h0'
    clear h0
    go_enter Try.func21, Try.ntmps21
    go_wp2
    refine bodyPost_ret (v := .agg #[.bool false, .int .i64 kind, .int .i64 0, .slice (some ⟨w.heap.size + 1 + 1 + 1, lo.toNat, none⟩) ((lo + d).toNat - lo.toNat) (8 - lo.toNat)]) (by simp [results, Try.results21, go_sem]) rfl ⟨_, rfl, ?_, ?_⟩
    · have hl : (valBytes lo d).length = (lo + d).toNat - lo.toNat := by simp [valBytes]; omega
      refine V_const (B := w.heap.size + 1 + 1 + 1) (cur := #[.int .u8 97, .int .u8 98, .int .u8 99, .int .u8 97, .int .u8 98, .int .u8 99, .int .u8 97, .int .u8 98]) (e := 5) (fr := (8, 9)) ?_ (by omega) hl (by omega) (by omega) ?_
      · have := heap_alloc_new (((w.alloc (Obj.cells #[.string nm, .int .i64 kind, .bool true] 58)).alloc (Obj.cells #[.bool false, .int .i64 kind, .int .i64 0, .slice (some ⟨w.heap.size + 1 + 1 + 1, lo.toNat, none⟩) ((lo + d).toNat - lo.toNat) (8 - lo.toNat)] 32)).alloc (Obj.cells #[.bool false, .int .i64 kind, .int .i64 0, .slice (some ⟨w.heap.size + 1 + 1 + 1, lo.toNat, none⟩) ((lo + d).toNat - lo.toNat) (8 - lo.toNat)] 32)) (.cells #[.int .u8 97, .int .u8 98, .int .u8 99, .int .u8 97, .int .u8 98, .int .u8 99, .int .u8 97, .int .u8 98] 5 (8, 9))
        simpa only [World.size_alloc] using this
      · intro j hj
        exact valBytes_at lo d j (by omega) (by omega) (by omega) (by omega)
    · exact ((((Below.refl _ _).alloc (Nat.le_refl _) _).alloc (by simp) _).alloc (by simp; omega) _).alloc (by simp; omega) _
def valInt (n : Int) : Int :=
  if (Go.bits .and .i64 (n / 64) 15 == 0) = true then wrap64 (n * 712544676207699905)
  else if (Go.bits .and .i64 (n / 64) 15 == 1) = true then wrap64 (-Go.bits .and .i64 (n / 8) 7)
  else if (Go.bits .and .i64 (n / 64) 15 == 2) = true then wrap64 (9223372036854775807 - Go.bits .and .i64 (n / 8) 7)
  else Go.bits .and .i64 (n / 8) 7
set_option maxHeartbeats 4000000 in
set_option maxRecDepth 100000 in
theorem Value_int (nm : ByteArray) (kind : Int) (null : Bool) (n : Int) (w : World) (h0 : null = false ∨ (Go.bits .and .i64 n 7 == 0) = false) (hk : (kind == 1) = true) :
    Calls Try.prog 21 #[.agg #[.string nm, .int .i64 kind, .bool null], .int .i64 n] w fun e w' => ∃ v3_ : Value, e = .returned (.agg #[.bool false, .int .i64 kind, .int .i64 (valInt n), v3_]) ∧
      Kd.V (Kd.int .u8) 5 w' w.heap.size (fun k_ => (w.heap.size ≤ k_)) v3_ [] ∧ Below w.heap.size w w' := by
  have hu32 := Try.underlying32
  have hu58 := Try.underlying58
  have key : ∀ (b0 b1 b2 : Bool) (r : Int), (Go.bits .and .i64 (n / 64) 15 == 0) = b0 → (Go.bits .and .i64 (n / 64) 15 == 1) = b1 → (Go.bits .and .i64 (n / 64) 15 == 2) = b2 →
      (b0 = true → r = wrap64 (n * 712544676207699905)) → (b0 = false → b1 = true → r = wrap64 (-Go.bits .and .i64 (n / 8) 7)) → (b0 = false → b1 = false → b2 = true → r = wrap64 (9223372036854775807 - Go.bits .and .i64 (n / 8) 7)) → (b0 = false → b1 = false → b2 = false → r = Go.bits .and .i64 (n / 8) 7) →
      Calls Try.prog 21 #[.agg #[.string nm, .int .i64 kind, .bool null], .int .i64 n] w fun e w' => ∃ v3_ : Value, e = .returned (.agg #[.bool false, .int .i64 kind, .int .i64 r, v3_]) ∧
        Kd.V (Kd.int .u8) 5 w' w.heap.size (fun k_ => (w.heap.size ≤ k_)) v3_ [] ∧ Below w.heap.size w w' := by
    intro b0 b1 b2 r e0 e1 e2 hr0 hr1 hr2 hr3
    have hn7 : null = false ∨ null = true ∧ (Go.bits .and .i64 n 7 == 0) = false := by
      rcases h0 with h | h
      · exact .inl h
      · cases null
        · exact .inl rfl
        · exact .inr ⟨rfl, h⟩
    clear h0
    cases b0
    · cases b1
      · cases b2
        · obtain rfl := hr3 rfl rfl rfl
          clear hr0 hr1 hr2 hr3
          rcases hn7 with rfl | ⟨rfl, h7⟩
          · go_enter Try.func21, Try.ntmps21
            go_wp2
            refine bodyPost_ret (v := .agg #[.bool false, .int .i64 kind, .int .i64 (Go.bits .and .i64 (n / 8) 7), .slice none 0 0]) (by simp [results, Try.results21, go_sem]) rfl ⟨_, rfl, Kd.V_nil _ _ _ _ _, ?_⟩
            exact (((Below.refl _ _).alloc (Nat.le_refl _) _).alloc (by simp) _).alloc (by simp; omega) _
          · go_enter Try.func21, Try.ntmps21
            go_wp2
            refine bodyPost_ret (v := .agg #[.bool false, .int .i64 kind, .int .i64 (Go.bits .and .i64 (n / 8) 7), .slice none 0 0]) (by simp [results, Try.results21, go_sem]) rfl ⟨_, rfl, Kd.V_nil _ _ _ _ _, ?_⟩
            exact (((Below.refl _ _).alloc (Nat.le_refl _) _).alloc (by simp) _).alloc (by simp; omega) _
        · obtain rfl := hr2 rfl rfl rfl
          clear hr0 hr1 hr2 hr3
          rcases hn7 with rfl | ⟨rfl, h7⟩
          · go_enter Try.func21, Try.ntmps21
            go_wp2
            refine bodyPost_ret (v := .agg #[.bool false, .int .i64 kind, .int .i64 (wrap64 (9223372036854775807 - Go.bits .and .i64 (n / 8) 7)), .slice none 0 0]) (by simp [results, Try.results21, go_sem]) rfl ⟨_, rfl, Kd.V_nil _ _ _ _ _, ?_⟩
            exact (((Below.refl _ _).alloc (Nat.le_refl _) _).alloc (by simp) _).alloc (by simp; omega) _
          · go_enter Try.func21, Try.ntmps21
            go_wp2
            refine bodyPost_ret (v := .agg #[.bool false, .int .i64 kind, .int .i64 (wrap64 (9223372036854775807 - Go.bits .and .i64 (n / 8) 7)), .slice none 0 0]) (by simp [results, Try.results21, go_sem]) rfl ⟨_, rfl, Kd.V_nil _ _ _ _ _, ?_⟩
            exact (((Below.refl _ _).alloc (Nat.le_refl _) _).alloc (by simp) _).alloc (by simp; omega) _
      · obtain rfl := hr1 rfl rfl
        clear hr0 hr1 hr2 hr3
        rcases hn7 with rfl | ⟨rfl, h7⟩
        · go_enter Try.func21, Try.ntmps21
          go_wp2
          refine bodyPost_ret (v := .agg #[.bool false, .int .i64 kind, .int .i64 (wrap64 (-Go.bits .and .i64 (n / 8) 7)), .slice none 0 0]) (by simp [results, Try.results21, go_sem]) rfl ⟨_, rfl, Kd.V_nil _ _ _ _ _, ?_⟩
          exact (((Below.refl _ _).alloc (Nat.le_refl _) _).alloc (by simp) _).alloc (by simp; omega) _
        · go_enter Try.func21, Try.ntmps21
          go_wp2
          refine bodyPost_ret (v := .agg #[.bool false, .int .i64 kind, .int .i64 (wrap64 (-Go.bits .and .i64 (n / 8) 7)), .slice none 0 0]) (by simp [results, Try.results21, go_sem]) rfl ⟨_, rfl, Kd.V_nil _ _ _ _ _, ?_⟩
          exact (((Below.refl _ _).alloc (Nat.le_refl _) _).alloc (by simp) _).alloc (by simp; omega) _
    · obtain rfl := hr0 rfl
      clear hr0 hr1 hr2 hr3
      rcases hn7 with rfl | ⟨rfl, h7⟩
      · go_enter Try.func21, Try.ntmps21
        go_wp2
        refine bodyPost_ret (v := .agg #[.bool false, .int .i64 kind, .int .i64 (wrap64 (n * 712544676207699905)), .slice none 0 0]) (by simp [results, Try.results21, go_sem]) rfl ⟨_, rfl, Kd.V_nil _ _ _ _ _, ?_⟩
        exact (((Below.refl _ _).alloc (Nat.le_refl _) _).alloc (by simp) _).alloc (by simp; omega) _
      · go_enter Try.func21, Try.ntmps21
        go_wp2
        refine bodyPost_ret (v := .agg #[.bool false, .int .i64 kind, .int .i64 (wrap64 (n * 712544676207699905)), .slice none 0 0]) (by simp [results, Try.results21, go_sem]) rfl ⟨_, rfl, Kd.V_nil _ _ _ _ _, ?_⟩
        exact (((Below.refl _ _).alloc (Nat.le_refl _) _).alloc (by simp) _).alloc (by simp; omega) _
  refine key _ _ _ _ rfl rfl rfl (fun h => ?_) (fun h h' => ?_) (fun h h' h'' => ?_) (fun h h' h'' => ?_)
  · unfold valInt; rw [if_pos h]
  · unfold valInt; rw [if_neg (by rw [h]; decide), if_pos h']
  · unfold valInt; rw [if_neg (by rw [h]; decide), if_neg (by rw [h']; decide), if_pos h'']
  · unfold valInt; rw [if_neg (by rw [h]; decide), if_neg (by rw [h']; decide), if_neg (by rw [h'']; decide)]
set_option maxHeartbeats 4000000 in
set_option maxRecDepth 100000 in
theorem Value_null (nm : ByteArray) (kind : Int) (n : Int) (w : World) (h7 : (Go.bits .and .i64 n 7 == 0) = true) :
    Calls Try.prog 21 #[.agg #[.string nm, .int .i64 kind, .bool true], .int .i64 n] w fun e w' => ∃ v3_ : Value, e = .returned (.agg #[.bool true, .int .i64 kind, .int .i64 0, v3_]) ∧
      Kd.V (Kd.int .u8) 5 w' w.heap.size (fun k_ => (w.heap.size ≤ k_)) v3_ [] ∧ Below w.heap.size w w' := by
  have hu32 := Try.underlying32
  have hu58 := Try.underlying58
  go_enter Try.func21, Try.ntmps21
  go_wp2
  refine bodyPost_ret (v := .agg #[.bool true, .int .i64 kind, .int .i64 0, .slice none 0 0]) (by simp [results, Try.results21, go_sem]) rfl ⟨_, rfl, Kd.V_nil _ _ _ _ _, ?_⟩
  exact ((Below.refl _ _).alloc (Nat.le_refl _) _).alloc (by simp) _
def colonnadelaw6_Value.f (a0_0 : ByteArray) (a0_1 : Int) (a0_2 : Bool) (a1 : Int) : Option (Bool × Int × Int × List Int) :=
  if a0_2 = true ∧ (Go.bits .and .i64 a1 7 == 0) = true then some (true, a0_1, 0, [])
  else if (a0_1 == 1) = true then some (false, a0_1, valInt a1, [])
  else some (false, a0_1, 0, valBytes (Go.bits .and .i64 (a1 / 8) 3) (Go.bits .and .i64 (a1 / 32) 3))
theorem colonnadelaw6_Value.calls (a0_0 : ByteArray) (a0_1 : Int) (a0_2 : Bool) (a1 : Int) (r1 : Bool) (r2 : Int) (r3 : Int) (r4 : List Int) (w : World) (h : colonnadelaw6_Value.f a0_0 a0_1 a0_2 a1 = some (r1, r2, r3, r4)) :
  Calls Try.prog 21 #[.agg #[.string a0_0, .int .i64 a0_1, .bool a0_2], .int .i64 a1] w fun e w' => ∃ v3_ : Value, e = .returned (.agg #[.bool r1, .int .i64 r2, .int .i64 r3, v3_]) ∧
   Kd.V (Kd.int .u8) 5 w' w.heap.size (fun k_ => (w.heap.size ≤ k_)) v3_ r4 ∧ Below w.heap.size w w' := by
 unfold colonnadelaw6_Value.f at h
 split at h
 ·
  rename_i hc
  simp only [Option.some.injEq, Prod.mk.injEq] at h
  obtain ⟨rfl, rfl, rfl, rfl⟩ := h
  obtain ⟨rfl, h7⟩ := hc
  exact Value_null _ _ _ _ h7
 ·
  rename_i hc
  have h0 : a0_2 = false ∨ (Go.bits .and .i64 a1 7 == 0) = false := by
   cases a0_2
   ·
    exact .inl rfl
   ·
    right
    cases hb : (Go.bits .and .i64 a1 7 == 0)
    ·
     rfl
    ·
     exact absurd ⟨rfl, hb⟩ hc
  split at h
  ·
   rename_i hk
   simp only [Option.some.injEq, Prod.mk.injEq] at h
   obtain ⟨rfl, rfl, rfl, rfl⟩ := h
   exact Value_int _ _ _ _ _ h0 hk
  ·
   rename_i hk
   simp only [Option.some.injEq, Prod.mk.injEq] at h
   obtain ⟨rfl, rfl, rfl, rfl⟩ := h
   exact Value_bytes _ _ _ _ _ h0 (by simpa using hk)

end Go.Proofs.Ytlapahjdkikodaa.GPe
