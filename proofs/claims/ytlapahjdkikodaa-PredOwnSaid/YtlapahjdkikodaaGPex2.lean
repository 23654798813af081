-- Written by a program of this claim (wip/tools) out of the translation.
import Derived.Test.YtlapahjdkikodaaGPex0
import Derived.Test.YtlapahjdkikodaaGPex1
namespace Go.Proofs.Ytlapahjdkikodaa.GPe
open Go.RowKit Go.Proofs.YtlapahjdkikodaaW.PrintWords Go.Proofs.YtlapahjdkikodaaW.PrintLast Go.Proofs.YtlapahjdkikodaaW.PrintMore Go.Proofs.Ytlapahjdkikodaa.Cells
attribute [local go_sem] max2_int min2_int max_two min_two max_three min_three max_four min_four   -- for this text's walks alone
set_option linter.unusedVariables false
set_option linter.unusedSimpArgs false

/-! ### colonnadelaw7_Pred: function 15 -/
mutual
def colonnadelaw7_Pred.j0 : Nat → List Int → Int → Int → Int → List (S58) → Option (Int × Int × Int × Bool × Int × Int × List Int × (List (S35)))
  | 0, _, _, _, _, _ => none
  | k + 1, x1, x2, x3, x9, x114000 => if x3 ≤ 1 then (colonnadelaw7_Pred.j1 k x1 x2 x3 x9 (Go.bits .and .i64 x9 7) (decide ((Go.bits .and .i64 x9 7) > 4)) x114000) else (colonnadelaw7_Pred.j1 k x1 x2 x3 x9 (Go.bits .and .i64 x9 7) false x114000)
def colonnadelaw7_Pred.j1 : Nat → List Int → Int → Int → Int → Int → Bool → List (S58) → Option (Int × Int × Int × Bool × Int × Int × List Int × (List (S35)))
  | 0, _, _, _, _, _, _, _ => none
  | k + 1, x1, x2, x3, x9, x10, x33, x114000 => if x33 = true then (colonnadelaw7_Pred.j2 k x1 x2 x3 x9 (wrap64 (x10 - 4)) x114000) else (colonnadelaw7_Pred.j2 k x1 x2 x3 x9 x10 x114000)
def colonnadelaw7_Pred.j2 : Nat → List Int → Int → Int → Int → Int → List (S58) → Option (Int × Int × Int × Bool × Int × Int × List Int × (List (S35)))
  | 0, _, _, _, _, _, _ => none
  | k + 1, x1, x2, x3, x9, x10, x114000 => if (x114000.length : Int) = 0 then (none) else (if x10 = 0 then (some (1, 0, 0, false, 0, 0, ([] : List Int), ([] : List (S35)))) else (if x10 = 1 then (some (3, Int.tmod (Go.bits .and .i64 (x9 / 8) 255) (x114000.length : Int), 0, false, 0, 0, ([] : List Int), ([] : List (S35)))) else (if x10 = 5 then (colonnadelaw7_Pred.j3 k x1 x2 x3 x9 x10 (Int.tmod (Go.bits .and .i64 (x9 / 8) 255) (x114000.length : Int)) x10 (x10 == 5) x114000) else (colonnadelaw7_Pred.j3 k x1 x2 x3 x9 x10 (Int.tmod (Go.bits .and .i64 (x9 / 8) 255) (x114000.length : Int)) x10 (x10 == 6) x114000))))
def colonnadelaw7_Pred.j3 : Nat → List Int → Int → Int → Int → Int → Int → Int → Bool → List (S58) → Option (Int × Int × Int × Bool × Int × Int × List Int × (List (S35)))
  | 0, _, _, _, _, _, _, _, _, _ => none
  | k + 1, x1, x2, x3, x9, x10, x11, x43, x51, x114000 => if x51 = true then (colonnadelaw7_Pred.l0 k x1 x2 x3 x9 0 x114000 (wrap64 ((wrap64 (4 + x10)) - 5)) 0 0 false 0 0 ([] : List (S35))) else (if x43 = 7 then ((colonnadelaw7_Pred.f k x114000 x1 (wrap64 ((wrap64 (3 * x2)) + 1)) (wrap64 (x3 - 1))).bind fun bt132 => (some (6, 0, 0, false, 0, 0, ([] : List Int), (([(⟨bt132.1, bt132.2.1, bt132.2.2.1, (⟨bt132.2.2.2.1, bt132.2.2.2.2.1, bt132.2.2.2.2.2.1, bt132.2.2.2.2.2.2.1⟩ : S32), bt132.2.2.2.2.2.2.2⟩ : S35)] : List (S35)))))) else (if 0 ≤ x11 then (if x11 < (x114000.length : Int) then ((colonnadelaw6_Value.f ((rd_T58 x114000 x11).f0) ((rd_T58 x114000 x11).f1) false (x9 / 2048)).bind fun bt149 => (if x11 = 0 then (some (2, x11, wrap64 ((Int.tmod (Go.bits .and .i64 (x9 / 131072) 255) 6) + 1), false, 1, Go.bits .and .i64 (x9 / 2048) 15, ([] : List Int), ([] : List (S35)))) else (some (2, x11, wrap64 ((Int.tmod (Go.bits .and .i64 (x9 / 131072) 255) 6) + 1), bt149.1, bt149.2.1, bt149.2.2.1, bt149.2.2.2, ([] : List (S35)))))) else (none)) else (none)))
def colonnadelaw7_Pred.l0 : Nat → List Int → Int → Int → Int → Int → List (S58) → Int → Int → Int → Bool → Int → Int → List (S35) → Option (Int × Int × Int × Bool × Int × Int × List Int × (List (S35)))
  | 0, _, _, _, _, _, _, _, _, _, _, _, _, _ => none
  | k + 1, x1, x2, x3, x9, x13, x114000, x117000, x117001, x117002, x117003, x117004, x117005, x117007 => if x13 < (Go.bits .and .i64 (x9 / 2048) 3) then ((colonnadelaw7_Pred.f k x114000 x1 (wrap64 ((wrap64 ((wrap64 (3 * x2)) + x13)) + 1)) (wrap64 (x3 - 1))).bind fun bt117 => (if x117007.length < 1466015503701 then (colonnadelaw7_Pred.l0 k x1 x2 x3 x9 (wrap64 (x13 + 1)) x114000 x117000 x117001 x117002 x117003 x117004 x117005 (x117007 ++ [(⟨bt117.1, bt117.2.1, bt117.2.2.1, (⟨bt117.2.2.2.1, bt117.2.2.2.2.1, bt117.2.2.2.2.2.1, bt117.2.2.2.2.2.2.1⟩ : S32), bt117.2.2.2.2.2.2.2⟩ : S35)])) else (none))) else (some (x117000, x117001, x117002, x117003, x117004, x117005, ([] : List Int), x117007))
def colonnadelaw7_Pred.f : Nat → List (S58) → List Int → Int → Int → Option (Int × Int × Int × Bool × Int × Int × List Int × (List (S35)))
  | 0, _, _, _, _ => none
  | k + 1, l0_0, l1, a2, a3 => if a2 < (l1.length : Int) then (if 0 ≤ a2 then (colonnadelaw7_Pred.j0 k l1 a2 a3 (rd l1 a2) l0_0) else (none)) else (colonnadelaw7_Pred.j0 k l1 a2 a3 (wrap64 (a2 * 7919)) l0_0)
end
def colonnadelaw7_Pred.T19 : Bool × List (List Nat × List Nat) := (true, [([], []), ([0], [0]), ([], []), ([], []), ([], []), ([4], [4]), ([], []), ([5, 6], [5, 6]), ([7], [7]), ([], []), ([9], [9]), ([2, 3, 8, 10], [2, 3, 8, 10]), ([11], [11]), ([1, 12, 11], [1, 12]), ([0, 1, 2, 3, 4, 5, 6, 7, 8, 9, 10, 11, 12, 13], []), ([14, 13, 13, 0, 1, 2, 3, 4, 5, 6, 7, 8, 9, 10, 11, 12, 13], [13, 14])])
def colonnadelaw7_Pred.B19 : List Nat := [0, 1, 0, 0, 0, 16, 0, 112, 240, 0, 512, 2044, 4092, 8191, 16383, 32767]
theorem colonnadelaw7_Pred.tab19 : rtab .any (opsOf Try.f15 19) = colonnadelaw7_Pred.T19 := by kernel_rfl
theorem colonnadelaw7_Pred.bits19 : waitsOk colonnadelaw7_Pred.T19.2 colonnadelaw7_Pred.B19 = true := by kernel_rfl
set_option maxHeartbeats 8000000 in
set_option maxRecDepth 100000 in
theorem colonnadelaw7_Pred.calls (k : Nat) : ∀ (A0_0 : Option Addr) (c0_0 : Nat) (l0_0 : List (S58)) (A1 : Option Addr) (c1 : Nat) (l1 : List Int) (a2 : Int) (a3 : Int) (r1 : Int) (r2 : Int) (r3 : Int) (r4 : Bool) (r5 : Int) (r6 : Int) (r7 : List Int) (r8 : List (S35)) (w : World) (hr0_0 : Kd.C k58 w A0_0 l0_0.length l0_0) (hc0_0 : l0_0.length ≤ c0_0) (hr1 : Kd.C (Kd.int .i64) w A1 l1.length l1) (hc1 : l1.length ≤ c1) (h : colonnadelaw7_Pred.f k l0_0 l1 a2 a3 = some (r1, r2, r3, r4, r5, r6, r7, r8)),
  Calls Try.prog 15 #[.agg #[.slice A0_0 l0_0.length c0_0], .slice A1 l1.length c1, .int .i64 a2, .int .i64 a3] w fun e w' => ∃ v6_ v7_ : Value, e = .returned (.agg #[.int .i64 r1, .int .i64 r2, .int .i64 r3, .bool r4, .int .i64 r5, .int .i64 r6, v6_, v7_]) ∧ Kd.V (Kd.int .u8) 5 w' w.heap.size (fun k_ => (w.heap.size ≤ k_) ∧ some k_ ≠ (v7_ : Value).ownBlock) v6_ r7 ∧ Kd.N k35 35 w' w.heap.size (fun k_ => (w.heap.size ≤ k_)) v7_ r8 ∧ Below w.heap.size w w' := by
 induction k using Nat.strongRecOn with
 | _ k ih =>
 intro A0_0 c0_0 l0_0 A1 c1 l1 a2 a3 r1 r2 r3 r4 r5 r6 r7 r8 w hr0_0 hc0_0 hr1 hc1 h
 cases k with
 | zero => exact absurd h (by simp [colonnadelaw7_Pred.f])
 | succ k =>
 simp only [colonnadelaw7_Pred.f] at h
 have hu27 := Try.underlying27
 have hu35 := Try.underlying35
 have hu58 := Try.underlying58
 have hu32 := Try.underlying32
 have HR0_0 := Aside0.mk hr0_0
 have HC0_0 := Aside0.mk hc0_0
 clear hr0_0 hc0_0
 have HR1 := Aside0.mk hr1
 have HC1 := Aside0.mk hc1
 clear hr1 hc1
 have HB := Aside0.mk (Below.refl w.heap.size w)
 have H : (if a2 < (l1.length : Int) then (if 0 ≤ a2 then (colonnadelaw7_Pred.j0 k l1 a2 a3 (rd l1 a2) l0_0) else (none)) else (colonnadelaw7_Pred.j0 k l1 a2 a3 (wrap64 (a2 * 7919)) l0_0)) = some (r1, r2, r3, r4, r5, r6, r7, r8) := h
 clear h
 have HC5 := Aside0.mk H
 clear H
 go_enter Try.func15, Try.ntmps15
 go_upto_if 21 with (first | ((with_reducible refine gate_dst (N := 4) rfl ?_); refine box_event ?hg (N := 4) ?hd (cs := #[.slice A0_0 l0_0.length c0_0]) (t := 27) ?hr ?_; (case hd => rfl); (case hg => rfl); (case hr => first | (go_simp; done) | (go_simp; rfl)); intro gb113 hg w6 hbox hb; have BK113 := Aside0.mk (hbox); have GW113 := Aside0.mk ((by rw [hg]; exact (below_size HB.out) : w.heap.size ≤ gb113)); have GE113 := Aside0.mk ((by rw [hg]; exact (below_size HB.out) : w.heap.size ≤ gb113)); replace HB := Aside0.mk (below_step HB.out hb); clear hb hbox hg) | ((with_reducible refine gate_dst (N := 8) rfl ?_); refine box_event ?hg (N := 8) ?hd (cs := #[.int .i64 0, .int .i64 0, .int .i64 0, .bool false, .int .i64 0, .int .i64 0, .slice none 0 0, .slice none 0 0]) (t := 35) ?hr ?_; (case hd => rfl); (case hg => rfl); (case hr => first | (go_simp; done) | (go_simp; rfl)); intro gb114 hg w7 hbox hb; have BK114 := Aside0.mk (hbox); have GW114 := Aside0.mk ((by rw [hg]; exact (below_size HB.out) : w.heap.size ≤ gb114)); have GE114 := Aside0.mk ((by rw [hg]; exact (below_size HB.out) : w.heap.size ≤ gb114)); replace HB := Aside0.mk (below_step HB.out hb); have NB113_114 := Aside0.mk ((by rw [hg]; exact Nat.ne_of_lt (blk_lt BK113.out) : gb113 ≠ gb114)); have NB114_113 := Aside0.mk ((by rw [hg]; exact Nat.ne_of_gt (blk_lt BK113.out) : gb114 ≠ gb113)); replace BK113 := Aside0.mk (blk_below BK113.out hb); clear hb hbox hg))
 (try simp only [Act.put, List.setIfInBounds_toArray, List.set_cons_zero, List.set_cons_succ])
 go_cut [9] (fun v9 wc => ∃ (kq : Nat) (x9_4 : Int), v9 = .int .i64 x9_4 ∧ Aside0 (colonnadelaw7_Pred.j0 kq l1 a2 a3 x9_4 l0_0 = some (r1, r2, r3, r4, r5, r6, r7, r8)) ∧ Aside0 (kq ≤ k) ∧ Aside0 (wc.heap[gb113]? = some (.cells #[(.slice A0_0 l0_0.length c0_0)] 27 (0, 0))) ∧ Aside0 (wc.heap[gb114]? = some (.cells #[.int .i64 0, .int .i64 0, .int .i64 0, .bool false, .int .i64 0, .int .i64 0, (.slice none 0 0), (.slice none 0 0)] 35 (0, 0))) ∧ Aside0 (Below w.heap.size w wc))
 case first =>
  have H := HC5.out
  clear HC5
  by_cases c8 : a2 < (l1.length : Int)
  ·
   rw [if_pos c8] at H
   have c8b0 : decide (a2 < (l1.length : Int)) = true := decide_eq_true c8
   clear c8
   (first | rw [c8b0] | (simp only [i64_w, i32_w]; rw [c8b0]) | skip)
   by_cases c9 : 0 ≤ a2
   ·
    rw [if_pos c9] at H
    have c9b0 : decide (0 ≤ a2) = true := decide_eq_true c9
    clear c9
    have H' := Aside0.mk H
    clear H
    have p115 : 0 ≤ (a2 : Int) := of_decide_eq_true (by first | (with_reducible assumption) | assumption)
    have q115 : a2 < (l1.length : Int) := of_decide_eq_true (by first | (with_reducible assumption) | assumption)
    obtain ⟨ad115, e115, hx115_0⟩ := Kd.at_int HR1.out a2 p115 q115
    cases e115
    replace hx115_0 := (HB.out.cell (World.block_lt_of_cell? w _ hx115_0)).trans hx115_0
    replace p115 := eq_true p115
    replace q115 := eq_true q115
    go_wp2
    go_meet
    case rel => exact ⟨_, (rd l1 a2), (by first | rfl | (simp; done) | (simp [*]; done)), H', ⟨by first | omega | exact Nat.le_refl _⟩, ⟨by (with_reducible repeat (first | refine blk_drewN ?_ _ | refine blk_drew ?_ | refine blk_alloc ?_ _)); exact BK113.out⟩, ⟨by (with_reducible repeat (first | refine blk_drewN ?_ _ | refine blk_drew ?_ | refine blk_alloc ?_ _)); exact BK114.out⟩, ⟨by repeat (first | (with_reducible first | exact HB.out | apply below_alloc | apply pw_below_drewN | apply below_drew1 | refine below_set ?_ GE113.out | refine below_set ?_ GE114.out) | exact HB.out)⟩⟩
   ·
    rw [if_neg c9] at H
    exact absurd H (by simp)
  ·
   rw [if_neg c8] at H
   have c8b0 : decide (a2 < (l1.length : Int)) = false := decide_eq_false c8
   clear c8
   (first | rw [c8b0] | (simp only [i64_w, i32_w]; rw [c8b0]) | skip)
   have H' := Aside0.mk H
   clear H
   go_wp2
   go_meet
   case rel => exact ⟨_, (wrap64 (a2 * 7919)), (by first | rfl | (simp; done) | (simp [*]; done)), H', ⟨by first | omega | exact Nat.le_refl _⟩, ⟨by (with_reducible repeat (first | refine blk_drewN ?_ _ | refine blk_drew ?_ | refine blk_alloc ?_ _)); exact BK113.out⟩, ⟨by (with_reducible repeat (first | refine blk_drewN ?_ _ | refine blk_drew ?_ | refine blk_alloc ?_ _)); exact BK114.out⟩, ⟨by repeat (first | (with_reducible first | exact HB.out | apply below_alloc | apply pw_below_drewN | apply below_drew1 | refine below_set ?_ GE113.out | refine below_set ?_ GE114.out) | exact HB.out)⟩⟩
 case rest =>
  clear HC5
  try clear c1
  try clear p1
  try clear q1
  try clear hx1
  try clear p2
  try clear p6
  try clear c8
  try clear c8b0
  try clear c9
  try clear c9b0
  try clear hx115_0
  try clear p115
  try clear q115
  obtain ⟨kq, x9_4, rfl, HA, HJ4, BK113, BK114, HB⟩ := hcut
  cases kq with
  | zero => exact absurd HA.out (by simp [colonnadelaw7_Pred.j0])
  | succ kj4 =>
   have H := HA.out
   clear HA
   simp only [colonnadelaw7_Pred.j0] at H
   have HC10 := Aside0.mk H
   clear H
   go_upto_region 5 with (fail)
   go_cut [33] (fun v33 wc => ∃ (kq : Nat) (x33_9 : Bool), v33 = .bool x33_9 ∧ Aside0 (colonnadelaw7_Pred.j1 kq l1 a2 a3 x9_4 (Go.bits .and .i64 x9_4 7) x33_9 l0_0 = some (r1, r2, r3, r4, r5, r6, r7, r8)) ∧ Aside0 (kq ≤ kj4) ∧ Aside0 (wc.heap[gb113]? = some (.cells #[(.slice A0_0 l0_0.length c0_0)] 27 (0, 0))) ∧ Aside0 (wc.heap[gb114]? = some (.cells #[.int .i64 0, .int .i64 0, .int .i64 0, .bool false, .int .i64 0, .int .i64 0, (.slice none 0 0), (.slice none 0 0)] 35 (0, 0))) ∧ Aside0 (Below w.heap.size w wc))
   case first =>
    have H := HC10.out
    clear HC10
    by_cases c11 : a3 ≤ 1
    ·
     rw [if_pos c11] at H
     have c11b0 : decide (a3 ≤ 1) = true := decide_eq_true c11
     clear c11
     (first | rw [c11b0] | (simp only [i64_w, i32_w]; rw [c11b0]) | skip)
     have H' := Aside0.mk H
     clear H
     go_wp2
     go_meet
     case rel => exact ⟨_, (decide ((Go.bits .and .i64 x9_4 7) > 4)), (by first | rfl | (simp; done) | (simp [*]; done)), H', ⟨by have := HJ4.out; first | omega | exact Nat.le_refl _⟩, ⟨by (with_reducible repeat (first | refine blk_drewN ?_ _ | refine blk_drew ?_ | refine blk_alloc ?_ _)); exact BK113.out⟩, ⟨by (with_reducible repeat (first | refine blk_drewN ?_ _ | refine blk_drew ?_ | refine blk_alloc ?_ _)); exact BK114.out⟩, ⟨by repeat (first | (with_reducible first | exact HB.out | apply below_alloc | apply pw_below_drewN | apply below_drew1 | refine below_set ?_ GE113.out | refine below_set ?_ GE114.out) | exact HB.out)⟩⟩
    ·
     rw [if_neg c11] at H
     have c11b0 : decide (a3 ≤ 1) = false := decide_eq_false c11
     clear c11
     (first | rw [c11b0] | (simp only [i64_w, i32_w]; rw [c11b0]) | skip)
     have H' := Aside0.mk H
     clear H
     go_wp2
     go_meet
     case rel => exact ⟨_, (false), (by first | rfl | (simp; done) | (simp [*]; done)), H', ⟨by have := HJ4.out; first | omega | exact Nat.le_refl _⟩, ⟨by (with_reducible repeat (first | refine blk_drewN ?_ _ | refine blk_drew ?_ | refine blk_alloc ?_ _)); exact BK113.out⟩, ⟨by (with_reducible repeat (first | refine blk_drewN ?_ _ | refine blk_drew ?_ | refine blk_alloc ?_ _)); exact BK114.out⟩, ⟨by repeat (first | (with_reducible first | exact HB.out | apply below_alloc | apply pw_below_drewN | apply below_drew1 | refine below_set ?_ GE113.out | refine below_set ?_ GE114.out) | exact HB.out)⟩⟩
   case rest =>
    clear HC10
    try clear c1
    try clear p1
    try clear q1
    try clear hx1
    try clear p2
    try clear p6
    try clear c8
    try clear c8b0
    try clear c9
    try clear c9b0
    try clear c11
    try clear c11b0
    try clear p11
    try clear q11
    try clear hx11
    try clear hx115_0
    try clear p1
    try clear p115
    try clear p2
    try clear p6
    try clear q1
    try clear q115
    obtain ⟨kq, x33_9, rfl, HA, HJ9, BK113, BK114, HB⟩ := hcut
    cases kq with
    | zero => exact absurd HA.out (by simp [colonnadelaw7_Pred.j1])
    | succ kj9 =>
     have H := HA.out
     clear HA
     simp only [colonnadelaw7_Pred.j1] at H
     have HC12 := Aside0.mk H
     clear H
     go_upto_if 33 with (fail)
     go_cut [10] (fun v10 wc => ∃ (kq : Nat) (x10_11 : Int), v10 = .int .i64 x10_11 ∧ Aside0 (colonnadelaw7_Pred.j2 kq l1 a2 a3 x9_4 x10_11 l0_0 = some (r1, r2, r3, r4, r5, r6, r7, r8)) ∧ Aside0 (kq ≤ kj9) ∧ Aside0 (wc.heap[gb113]? = some (.cells #[(.slice A0_0 l0_0.length c0_0)] 27 (0, 0))) ∧ Aside0 (wc.heap[gb114]? = some (.cells #[.int .i64 0, .int .i64 0, .int .i64 0, .bool false, .int .i64 0, .int .i64 0, (.slice none 0 0), (.slice none 0 0)] 35 (0, 0))) ∧ Aside0 (Below w.heap.size w wc))
     case first =>
      have H := HC12.out
      clear HC12
      by_cases c13 : x33_9 = true
      ·
       subst c13
       have H1 : (colonnadelaw7_Pred.j2 kj9 l1 a2 a3 x9_4 (wrap64 ((Go.bits .and .i64 x9_4 7) - 4)) l0_0) = some (r1, r2, r3, r4, r5, r6, r7, r8) := by rw [if_pos rfl] at H; exact H
       clear H
       have H := H1
       clear H1
       have H' := Aside0.mk H
       clear H
       go_wp2
       go_meet
       case rel => exact ⟨_, (wrap64 ((Go.bits .and .i64 x9_4 7) - 4)), (by first | rfl | (simp; done) | (simp [*]; done)), H', ⟨by have := HJ4.out; have := HJ9.out; first | omega | exact Nat.le_refl _⟩, ⟨by (with_reducible repeat (first | refine blk_drewN ?_ _ | refine blk_drew ?_ | refine blk_alloc ?_ _)); exact BK113.out⟩, ⟨by (with_reducible repeat (first | refine blk_drewN ?_ _ | refine blk_drew ?_ | refine blk_alloc ?_ _)); exact BK114.out⟩, ⟨by repeat (first | (with_reducible first | exact HB.out | apply below_alloc | apply pw_below_drewN | apply below_drew1 | refine below_set ?_ GE113.out | refine below_set ?_ GE114.out) | exact HB.out)⟩⟩
      ·
       replace c13 := Bool.eq_false_iff.mpr c13
       subst c13
       have H1 : (colonnadelaw7_Pred.j2 kj9 l1 a2 a3 x9_4 (Go.bits .and .i64 x9_4 7) l0_0) = some (r1, r2, r3, r4, r5, r6, r7, r8) := by rw [if_neg (show ¬ (false = true) by decide)] at H; exact H
       clear H
       have H := H1
       clear H1
       have H' := Aside0.mk H
       clear H
       go_wp2
       go_meet
       case rel => exact ⟨_, ((Go.bits .and .i64 x9_4 7)), (by first | rfl | (simp; done) | (simp [*]; done)), H', ⟨by have := HJ4.out; have := HJ9.out; first | omega | exact Nat.le_refl _⟩, ⟨by (with_reducible repeat (first | refine blk_drewN ?_ _ | refine blk_drew ?_ | refine blk_alloc ?_ _)); exact BK113.out⟩, ⟨by (with_reducible repeat (first | refine blk_drewN ?_ _ | refine blk_drew ?_ | refine blk_alloc ?_ _)); exact BK114.out⟩, ⟨by repeat (first | (with_reducible first | exact HB.out | apply below_alloc | apply pw_below_drewN | apply below_drew1 | refine below_set ?_ GE113.out | refine below_set ?_ GE114.out) | exact HB.out)⟩⟩
     case rest =>
      clear HC12
      try clear c1
      try clear p1
      try clear q1
      try clear hx1
      try clear p2
      try clear p6
      try clear c8
      try clear c8b0
      try clear c9
      try clear c9b0
      try clear c11
      try clear c11b0
      try clear p11
      try clear q11
      try clear hx11
      try clear c13
      try clear hx115_0
      try clear p1
      try clear p11
      try clear p115
      try clear p2
      try clear p6
      try clear q1
      try clear q11
      try clear q115
      obtain ⟨kq, x10_11, rfl, HA, HJ11, BK113, BK114, HB⟩ := hcut
      cases kq with
      | zero => exact absurd HA.out (by simp [colonnadelaw7_Pred.j2])
      | succ kj11 =>
       have H := HA.out
       clear HA
       simp only [colonnadelaw7_Pred.j2] at H
       by_cases c14 : (l0_0.length : Int) = 0
       ·
        rw [if_pos c14] at H
        exact absurd H (by simp)
       ·
        rw [if_neg c14] at H
        have c14b0 : ((l0_0.length : Int) == 0) = false := beq_eq_false_iff_ne.mpr c14
        have c14b1 : ((l0_0.length : Int) != 0) = true := bne_iff_ne.mpr c14
        have c14b2 : ¬ (l0_0 = []) := fun h_ => c14 (by rw [h_]; rfl)
        by_cases c15 : x10_11 = 0
        ·
         rw [if_pos c15] at H
         have c15b0 : (x10_11 == 0) = true := beq_iff_eq.mpr c15
         have c15b1 : (x10_11 != 0) = false := bne_eq_false_iff_eq.mpr c15
         clear c15
         simp only [Option.some.injEq, Prod.mk.injEq] at H
         obtain ⟨rfl, rfl, rfl, rfl, rfl, rfl, rfl, rfl⟩ := H
         have hnb16 := NB113_114.out
         have hnc16 := NB114_113.out
         have hcz17_0 : wc.cell? ⟨gb113, 0, none⟩ = some (.slice A0_0 l0_0.length c0_0) := (blk_cell BK113.out 0).trans rfl
         have hfz17_0 := blk_frozen BK113.out 0
         obtain ⟨hcz18_0, hcz18_1, hcz18_2, hcz18_3, hcz18_4, hcz18_5, hcz18_6, hcz18_7⟩ := cells8 BK114.out
         obtain ⟨hfz18_0, hfz18_1, hfz18_2, hfz18_3, hfz18_4, hfz18_5, hfz18_6, hfz18_7⟩ := frozen8 BK114.out
         go_wp2
         refine bodyPost_ret (results_cell_row rfl _ _ gb114 35 #[.int .i64 1, .int .i64 0, .int .i64 0, .bool false, .int .i64 0, .int .i64 0, .slice none 0 0, .slice none 0 0] (0, 0) _ rfl (by (with_reducible repeat (first | refine blk_drewN ?_ _ | refine blk_drew ?_ | refine blk_alloc ?_ _)); apply blk_all8; (with_reducible repeat (first | refine blk_drewN ?_ _ | refine blk_drew ?_ | refine blk_alloc ?_ _)); exact BK114.out) Try.underlying35 rfl (by kernel_rfl)) rfl ?_
         exact ⟨_, _, by first | rfl | (simp [errW_none, errW_some] <;> rfl) | (simp [*, errW_none, errW_some] <;> rfl), Kd.V_nil _ _ _ _ _, by first | exact Kd.R_nil _ _ _ _ _ | exact Kd.N_nil _ _ _ _ _ | exact Kd.V_nil _ _ _ _ _ | exact Kd.Q_nil _ _ _ _ _ | exact Kd.S_nil _ _ _ _ _, by repeat (first | (with_reducible first | exact HB.out | apply below_alloc | apply pw_below_drewN | apply below_drew1 | refine below_set ?_ GE113.out | refine below_set ?_ GE114.out) | exact HB.out)⟩
        ·
         rw [if_neg c15] at H
         have c15b0 : (x10_11 == 0) = false := beq_eq_false_iff_ne.mpr c15
         have c15b1 : (x10_11 != 0) = true := bne_iff_ne.mpr c15
         by_cases c19 : x10_11 = 1
         ·
          rw [if_pos c19] at H
          have c19b0 : (x10_11 == 1) = true := beq_iff_eq.mpr c19
          have c19b1 : (x10_11 != 1) = false := bne_eq_false_iff_eq.mpr c19
          clear c19
          simp only [Option.some.injEq, Prod.mk.injEq] at H
          obtain ⟨rfl, rfl, rfl, rfl, rfl, rfl, rfl, rfl⟩ := H
          have hnb20 := NB113_114.out
          have hnc20 := NB114_113.out
          have hcz21_0 : wc.cell? ⟨gb113, 0, none⟩ = some (.slice A0_0 l0_0.length c0_0) := (blk_cell BK113.out 0).trans rfl
          have hfz21_0 := blk_frozen BK113.out 0
          obtain ⟨hcz22_0, hcz22_1, hcz22_2, hcz22_3, hcz22_4, hcz22_5, hcz22_6, hcz22_7⟩ := cells8 BK114.out
          obtain ⟨hfz22_0, hfz22_1, hfz22_2, hfz22_3, hfz22_4, hfz22_5, hfz22_6, hfz22_7⟩ := frozen8 BK114.out
          go_wp2
          refine bodyPost_ret (results_cell_row rfl _ _ gb114 35 #[.int .i64 3, .int .i64 (Int.tmod (Go.bits .and .i64 (x9_4 / 8) 255) (l0_0.length : Int)), .int .i64 0, .bool false, .int .i64 0, .int .i64 0, .slice none 0 0, .slice none 0 0] (0, 0) _ rfl (by (with_reducible repeat (first | refine blk_drewN ?_ _ | refine blk_drew ?_ | refine blk_alloc ?_ _)); apply blk_all8; (with_reducible repeat (first | refine blk_drewN ?_ _ | refine blk_drew ?_ | refine blk_alloc ?_ _)); exact BK114.out) Try.underlying35 rfl (by kernel_rfl)) rfl ?_
          exact ⟨_, _, by first | rfl | (simp [errW_none, errW_some] <;> rfl) | (simp [*, errW_none, errW_some] <;> rfl), Kd.V_nil _ _ _ _ _, by first | exact Kd.R_nil _ _ _ _ _ | exact Kd.N_nil _ _ _ _ _ | exact Kd.V_nil _ _ _ _ _ | exact Kd.Q_nil _ _ _ _ _ | exact Kd.S_nil _ _ _ _ _, by repeat (first | (with_reducible first | exact HB.out | apply below_alloc | apply pw_below_drewN | apply below_drew1 | refine below_set ?_ GE113.out | refine below_set ?_ GE114.out) | exact HB.out)⟩
         ·
          rw [if_neg c19] at H
          have c19b0 : (x10_11 == 1) = false := beq_eq_false_iff_ne.mpr c19
          have c19b1 : (x10_11 != 1) = true := bne_iff_ne.mpr c19
          have HC23 := Aside0.mk H
          clear H
          have hnb24 := NB113_114.out
          have hnc24 := NB114_113.out
          have hcz25_0 : wc.cell? ⟨gb113, 0, none⟩ = some (.slice A0_0 l0_0.length c0_0) := (blk_cell BK113.out 0).trans rfl
          have hfz25_0 := blk_frozen BK113.out 0
          go_upto_if 51 with (fail)
          go_cut [51] (fun v51 wc => ∃ (kq : Nat) (x51_22 : Bool), v51 = .bool x51_22 ∧ Aside0 (colonnadelaw7_Pred.j3 kq l1 a2 a3 x9_4 x10_11 (Int.tmod (Go.bits .and .i64 (x9_4 / 8) 255) (l0_0.length : Int)) x10_11 x51_22 l0_0 = some (r1, r2, r3, r4, r5, r6, r7, r8)) ∧ Aside0 (kq ≤ kj11) ∧ Aside0 (wc.heap[gb113]? = some (.cells #[(.slice A0_0 l0_0.length c0_0)] 27 (0, 0))) ∧ Aside0 (wc.heap[gb114]? = some (.cells #[.int .i64 0, .int .i64 0, .int .i64 0, .bool false, .int .i64 0, .int .i64 0, (.slice none 0 0), (.slice none 0 0)] 35 (0, 0))) ∧ Aside0 (Below w.heap.size w wc))
          case first =>
           have H := HC23.out
           clear HC23
           by_cases c26 : x10_11 = 5
           ·
            rw [if_pos c26] at H
            have c26b0 : (x10_11 == 5) = true := beq_iff_eq.mpr c26
            have c26b1 : (x10_11 != 5) = false := bne_eq_false_iff_eq.mpr c26
            clear c26
            (first | rw [c26b0] | (simp only [i64_w, i32_w]; rw [c26b0]) | skip)
            have H' := Aside0.mk H
            clear H
            go_wp2
            go_meet
            case rel => exact ⟨_, ((x10_11 == 5)), (by first | rfl | (simp; done) | (simp [*]; done)), H', ⟨by have := HJ4.out; have := HJ9.out; have := HJ11.out; first | omega | exact Nat.le_refl _⟩, ⟨by (with_reducible repeat (first | refine blk_drewN ?_ _ | refine blk_drew ?_ | refine blk_alloc ?_ _)); exact BK113.out⟩, ⟨by (with_reducible repeat (first | refine blk_drewN ?_ _ | refine blk_drew ?_ | refine blk_alloc ?_ _)); exact BK114.out⟩, ⟨by repeat (first | (with_reducible first | exact HB.out | apply below_alloc | apply pw_below_drewN | apply below_drew1 | refine below_set ?_ GE113.out | refine below_set ?_ GE114.out) | exact HB.out)⟩⟩
           ·
            rw [if_neg c26] at H
            have c26b0 : (x10_11 == 5) = false := beq_eq_false_iff_ne.mpr c26
            have c26b1 : (x10_11 != 5) = true := bne_iff_ne.mpr c26
            (first | rw [c26b0] | (simp only [i64_w, i32_w]; rw [c26b0]) | skip)
            have H' := Aside0.mk H
            clear H
            go_wp2
            go_meet
            case rel => exact ⟨_, ((x10_11 == 6)), (by first | rfl | (simp; done) | (simp [*]; done)), H', ⟨by have := HJ4.out; have := HJ9.out; have := HJ11.out; first | omega | exact Nat.le_refl _⟩, ⟨by (with_reducible repeat (first | refine blk_drewN ?_ _ | refine blk_drew ?_ | refine blk_alloc ?_ _)); exact BK113.out⟩, ⟨by (with_reducible repeat (first | refine blk_drewN ?_ _ | refine blk_drew ?_ | refine blk_alloc ?_ _)); exact BK114.out⟩, ⟨by repeat (first | (with_reducible first | exact HB.out | apply below_alloc | apply pw_below_drewN | apply below_drew1 | refine below_set ?_ GE113.out | refine below_set ?_ GE114.out) | exact HB.out)⟩⟩
          case rest =>
           clear HC23
           try clear c1
           try clear p1
           try clear q1
           try clear hx1
           try clear c2
           try clear p2
           try clear p6
           try clear c8
           try clear c8b0
           try clear c9
           try clear c9b0
           try clear c11
           try clear c11b0
           try clear p11
           try clear q11
           try clear hx11
           try clear c13
           try clear c14
           try clear c14b0
           try clear c14b1
           try clear c14b2
           try clear c15
           try clear c15b0
           try clear c15b1
           try clear c16
           try clear c19
           try clear c19b0
           try clear c19b1
           try clear c20
           try clear c24
           try clear c26
           try clear c26b0
           try clear c26b1
           try clear hcz17_0
           try clear hcz18_0
           try clear hcz18_1
           try clear hcz18_2
           try clear hcz18_3
           try clear hcz18_4
           try clear hcz18_5
           try clear hcz18_6
           try clear hcz18_7
           try clear hcz21_0
           try clear hcz22_0
           try clear hcz22_1
           try clear hcz22_2
           try clear hcz22_3
           try clear hcz22_4
           try clear hcz22_5
           try clear hcz22_6
           try clear hcz22_7
           try clear hcz25_0
           try clear hfz17_0
           try clear hfz18_0
           try clear hfz18_1
           try clear hfz18_2
           try clear hfz18_3
           try clear hfz18_4
           try clear hfz18_5
           try clear hfz18_6
           try clear hfz18_7
           try clear hfz21_0
           try clear hfz22_0
           try clear hfz22_1
           try clear hfz22_2
           try clear hfz22_3
           try clear hfz22_4
           try clear hfz22_5
           try clear hfz22_6
           try clear hfz22_7
           try clear hfz25_0
           try clear hx115_0
           try clear p1
           try clear p11
           try clear p115
           try clear p2
           try clear p6
           try clear q1
           try clear q11
           try clear q115
           obtain ⟨kq, x51_22, rfl, HA, HJ22, BK113, BK114, HB⟩ := hcut
           cases kq with
           | zero => exact absurd HA.out (by simp [colonnadelaw7_Pred.j3])
           | succ kj22 =>
            have H := HA.out
            clear HA
            simp only [colonnadelaw7_Pred.j3] at H
            by_cases c27 : x51_22 = true
            ·
             subst c27
             have H1 : (colonnadelaw7_Pred.l0 kj22 l1 a2 a3 x9_4 0 l0_0 (wrap64 ((wrap64 (4 + x10_11)) - 5)) 0 0 false 0 0 ([] : List (S35))) = some (r1, r2, r3, r4, r5, r6, r7, r8) := by rw [if_pos rfl] at H; exact H
             clear H
             have H := H1
             clear H1
             have H' := Aside0.mk H
             clear H
             go_wp2_with (first | ((with_reducible refine gate_dst (N := 12) rfl ?_); refine box_event ?hg (N := 12) ?hd (cs := #[.int .i64 0, .int .i64 0, .int .i64 0, .bool false, .int .i64 0, .int .i64 0, .slice none 0 0, .slice none 0 0]) (t := 35) ?hr ?_; (case hd => rfl); (case hg => rfl); (case hr => first | (go_simp; done) | (go_simp; rfl)); intro gb116 hg w28 hbox hb; have BK116 := Aside0.mk (hbox); have GW116 := Aside0.mk ((by rw [hg]; exact (below_size HB.out) : w.heap.size ≤ gb116)); have GE116 := Aside0.mk ((by rw [hg]; exact (below_size HB.out) : w.heap.size ≤ gb116)); replace HB := Aside0.mk (below_step HB.out hb); have NB113_116 := Aside0.mk ((by rw [hg]; exact Nat.ne_of_lt (blk_lt BK113.out) : gb113 ≠ gb116)); have NB116_113 := Aside0.mk ((by rw [hg]; exact Nat.ne_of_gt (blk_lt BK113.out) : gb116 ≠ gb113)); replace BK113 := Aside0.mk (blk_below BK113.out hb); have NB114_116 := Aside0.mk ((by rw [hg]; exact Nat.ne_of_lt (blk_lt BK114.out) : gb114 ≠ gb116)); have NB116_114 := Aside0.mk ((by rw [hg]; exact Nat.ne_of_gt (blk_lt BK114.out) : gb116 ≠ gb114)); replace BK114 := Aside0.mk (blk_below BK114.out hb); clear hb hbox hg; have hnb29 := NB116_113.out; have hnc29 := NB113_116.out; have hnb30 := NB116_114.out; have hnc30 := NB114_116.out; obtain ⟨hcz31_0, hcz31_1, hcz31_2, hcz31_3, hcz31_4, hcz31_5, hcz31_6, hcz31_7⟩ := cells8 BK116.out; obtain ⟨hfz31_0, hfz31_1, hfz31_2, hfz31_3, hfz31_4, hfz31_5, hfz31_6, hfz31_7⟩ := frozen8 BK116.out))
             go_loopg [13] kj22 (fun kq v13 w' => ∃ (x13_5 : Int) (x117007_5 : List (S35)) (u117007 : Value), v13 = .int .i64 x13_5 ∧ Aside0 (colonnadelaw7_Pred.l0 kq l1 a2 a3 x9_4 x13_5 l0_0 (wrap64 ((wrap64 (4 + x10_11)) - 5)) 0 0 false 0 0 x117007_5 = some (r1, r2, r3, r4, r5, r6, r7, r8)) ∧ Aside0 (kq ≤ kj22) ∧ Aside0 (Kd.N k35 35 w' w.heap.size (fun k_ => (w.heap.size ≤ k_) ∧ k_ ≠ gb113 ∧ k_ ≠ gb114 ∧ k_ ≠ gb116) u117007 x117007_5) ∧ Aside0 (w'.heap[gb113]? = some (.cells #[(.slice A0_0 l0_0.length c0_0)] 27 (0, 0))) ∧ Aside0 (w'.heap[gb114]? = some (.cells #[.int .i64 0, .int .i64 0, .int .i64 0, .bool false, .int .i64 0, .int .i64 0, (.slice none 0 0), (.slice none 0 0)] 35 (0, 0))) ∧ Aside0 (w'.heap[gb116]? = some (.cells #[.int .i64 (wrap64 ((wrap64 (4 + x10_11)) - 5)), .int .i64 0, .int .i64 0, .bool false, .int .i64 0, .int .i64 0, (.slice none 0 0), u117007] 35 (0, 0))) ∧ Aside0 (Below w.heap.size w w'))
             case atStart => exact ⟨(0), (([] : List (S35))), (.slice none 0 0), (by first | rfl | (simp; done) | (simp [*]; done)), H', ⟨Nat.le_refl _⟩, ⟨by first | exact Kd.R_nil _ _ _ _ _ | exact Kd.N_nil _ _ _ _ _ | exact Kd.V_nil _ _ _ _ _ | exact Kd.Q_nil _ _ _ _ _ | exact Kd.S_nil _ _ _ _ _⟩, ⟨by (with_reducible repeat (first | refine blk_drewN ?_ _ | refine blk_drew ?_ | refine blk_alloc ?_ _)); refine blk_far8 ?_ NB113_116.out; (with_reducible repeat (first | refine blk_drewN ?_ _ | refine blk_drew ?_ | refine blk_alloc ?_ _)); exact BK113.out⟩, ⟨by (with_reducible repeat (first | refine blk_drewN ?_ _ | refine blk_drew ?_ | refine blk_alloc ?_ _)); refine blk_far8 ?_ NB114_116.out; (with_reducible repeat (first | refine blk_drewN ?_ _ | refine blk_drew ?_ | refine blk_alloc ?_ _)); exact BK114.out⟩, ⟨by (with_reducible repeat (first | refine blk_drewN ?_ _ | refine blk_drew ?_ | refine blk_alloc ?_ _)); apply blk_all8; (with_reducible repeat (first | refine blk_drewN ?_ _ | refine blk_drew ?_ | refine blk_alloc ?_ _)); exact BK116.out⟩, ⟨by repeat (first | (with_reducible first | exact HB.out | apply below_alloc | apply pw_below_drewN | apply below_drew1 | refine below_set ?_ GE113.out | refine below_set ?_ GE114.out | refine below_set ?_ GE116.out) | exact HB.out)⟩⟩
             case round =>
              clear H'
              try clear c1
              try clear p1
              try clear q1
              try clear hx1
              try clear c2
              try clear p2
              try clear c3
              try clear p6
              try clear c8
              try clear c8b0
              try clear c9
              try clear c9b0
              try clear c11
              try clear c11b0
              try clear p11
              try clear q11
              try clear hx11
              try clear c13
              try clear c14
              try clear c14b0
              try clear c14b1
              try clear c14b2
              try clear c15
              try clear c15b0
              try clear c15b1
              try clear c16
              try clear c19
              try clear c19b0
              try clear c19b1
              try clear c20
              try clear c24
              try clear c26
              try clear c26b0
              try clear c26b1
              try clear c27
              try clear c29
              try clear c30
              try clear hcz17_0
              try clear hcz18_0
              try clear hcz18_1
              try clear hcz18_2
              try clear hcz18_3
              try clear hcz18_4
              try clear hcz18_5
              try clear hcz18_6
              try clear hcz18_7
              try clear hcz21_0
              try clear hcz22_0
              try clear hcz22_1
              try clear hcz22_2
              try clear hcz22_3
              try clear hcz22_4
              try clear hcz22_5
              try clear hcz22_6
              try clear hcz22_7
              try clear hcz25_0
              try clear hcz31_0
              try clear hcz31_1
              try clear hcz31_2
              try clear hcz31_3
              try clear hcz31_4
              try clear hcz31_5
              try clear hcz31_6
              try clear hcz31_7
              try clear hfz17_0
              try clear hfz18_0
              try clear hfz18_1
              try clear hfz18_2
              try clear hfz18_3
              try clear hfz18_4
              try clear hfz18_5
              try clear hfz18_6
              try clear hfz18_7
              try clear hfz21_0
              try clear hfz22_0
              try clear hfz22_1
              try clear hfz22_2
              try clear hfz22_3
              try clear hfz22_4
              try clear hfz22_5
              try clear hfz22_6
              try clear hfz22_7
              try clear hfz25_0
              try clear hfz31_0
              try clear hfz31_1
              try clear hfz31_2
              try clear hfz31_3
              try clear hfz31_4
              try clear hfz31_5
              try clear hfz31_6
              try clear hfz31_7
              try clear hx115_0
              try clear p1
              try clear p11
              try clear p115
              try clear p2
              try clear p6
              try clear q1
              try clear q11
              try clear q115
              obtain ⟨x13_5, x117007_5, u117007, rfl, HA, HK5, HO_117007, BK113, BK114, BK116, HB⟩ := hrel
              cases gk with
              | zero => exact absurd HA.out (by simp [colonnadelaw7_Pred.l0])
              | succ k5 =>
               have H := HA.out
               clear HA
               simp only [colonnadelaw7_Pred.l0] at H
               by_cases c32 : x13_5 < (Go.bits .and .i64 (x9_4 / 2048) 3)
               ·
                rw [if_pos c32] at H
                have c32b0 : decide (x13_5 < (Go.bits .and .i64 (x9_4 / 2048) 3)) = true := decide_eq_true c32
                clear c32
                replace H := Option.bind_eq_some_iff.mp H
                obtain ⟨⟨t117, t118, t119, t120, t121, t122, t123, t126⟩, A330, H⟩ := H
                replace H : (if x117007_5.length < 1466015503701 then (colonnadelaw7_Pred.l0 k5 l1 a2 a3 x9_4 (wrap64 (x13_5 + 1)) l0_0 (wrap64 ((wrap64 (4 + x10_11)) - 5)) 0 0 false 0 0 (x117007_5 ++ [(⟨t117, t118, t119, (⟨t120, t121, t122, t123⟩ : S32), t126⟩ : S35)])) else (none)) = some (r1, r2, r3, r4, r5, r6, r7, r8) := H
                have A33 := Aside0.mk A330
                clear A330
                by_cases c34 : x117007_5.length < 1466015503701
                ·
                 rw [if_pos c34] at H
                 have LMc34 := Aside0.mk c34
                 clear c34
                 obtain ⟨y129, hy129⟩ : ∃ y_ : List (S35), y_ = (x117007_5 ++ [(⟨t117, t118, t119, (⟨t120, t121, t122, t123⟩ : S32), t126⟩ : S35)]) := ⟨_, rfl⟩
                 replace H : (colonnadelaw7_Pred.l0 k5 l1 a2 a3 x9_4 (wrap64 (x13_5 + 1)) l0_0 (wrap64 ((wrap64 (4 + x10_11)) - 5)) 0 0 false 0 0 y129) = some (r1, r2, r3, r4, r5, r6, r7, r8) := by first | (rw [hy129]; with_reducible exact H) | (have H2_ := (Option.bind_some _ _).symm.trans H; rw [hy129]; with_reducible exact H2_) | (have H2_ := (Option.bind_some _ _).symm.trans H; with_reducible exact H2_) | with_reducible exact H | (rw [hy129]; exact H) | exact H
                 have Ny129 := Aside0.mk hy129
                 clear hy129
                 have H' := Aside0.mk H
                 clear H
                 try go_wp2
                 replace HO_117007 := Aside0.mk (Kd.N_drew HO_117007.out)
                 replace BK113 := Aside0.mk (blk_drew BK113.out)
                 replace BK114 := Aside0.mk (blk_drew BK114.out)
                 replace BK116 := Aside0.mk (blk_drew BK116.out)
                 replace HB := Aside0.mk (below_drew1 HB.out)
                 refine start_ (n := 16) (S := fun w' => w'.cell? ⟨gb116, 0, none⟩ = some (.int .i64 (wrap64 ((wrap64 (4 + x10_11)) - 5))) ∧ w'.cell? ⟨gb116, 1, none⟩ = some (.int .i64 0) ∧ w'.cell? ⟨gb116, 2, none⟩ = some (.int .i64 0) ∧ w'.cell? ⟨gb116, 3, none⟩ = some (.bool false) ∧ w'.cell? ⟨gb116, 4, none⟩ = some (.int .i64 0) ∧ w'.cell? ⟨gb116, 5, none⟩ = some (.int .i64 0) ∧ w'.cell? ⟨gb116, 6, none⟩ = some (.slice none 0 0) ∧ w'.cell? ⟨gb116, 7, none⟩ = some (u117007) ∧ w'.cell? ⟨gb113, 0, none⟩ = some (.slice A0_0 l0_0.length c0_0)) (ds := [15]) #[false, false, false, false, false, false, false, false, false, false, false, false, false, false, false, false] (by kernel_rfl) rfl rfl ⟨(blk_cell BK116.out 0).trans rfl, (blk_cell BK116.out 1).trans rfl, (blk_cell BK116.out 2).trans rfl, (blk_cell BK116.out 3).trans rfl, (blk_cell BK116.out 4).trans rfl, (blk_cell BK116.out 5).trans rfl, (blk_cell BK116.out 6).trans rfl, (blk_cell BK116.out 7).trans rfl, (blk_cell BK113.out 0).trans rfl⟩ (fun hHeld => ?_); refine with_tabW colonnadelaw7_Pred.tab19 colonnadelaw7_Pred.bits19 (fun HT_ HW_ => ?_)
                 generalize wr.drew = w35 at HO_117007 BK113 BK114 BK116 HB hHeld ⊢
                 refine pure_ (i := 0) (N := some 65) (v := ?_) (a' := ?_) #[true, false, false, false, false, false, false, false, false, false, false, false, false, false, false, false] rfl rfl (any_of HT_.out (by kernel_rfl)) (fun _ _ _ h => h) (Or.inl ⟨by rfl, ?_⟩) ?_ ?_
                 rotate_left
                 ·
                  intro w'
                  go_simp
                  with_reducible rfl
                 rotate_left
                 ·
                  simp only [Act.put, List.setIfInBounds_toArray, List.set_cons_zero, List.set_cons_succ, i64_w, i32_w]
                  rfl
                 refine pure_ (i := 3) (N := some 68) (v := ?_) (a' := ?_) #[true, false, false, true, false, false, false, false, false, false, false, false, false, false, false, false] rfl rfl (any_of HT_.out (by kernel_rfl)) (fun _ _ _ h => h) (Or.inl ⟨by rfl, ?_⟩) ?_ ?_
                 rotate_left
                 ·
                  intro w'
                  go_simp
                  with_reducible rfl
                 rotate_left
                 ·
                  simp only [Act.put, List.setIfInBounds_toArray, List.set_cons_zero, List.set_cons_succ, i64_w, i32_w]
                  rfl
                 refine pure_ (i := 4) (N := some 69) (v := ?_) (a' := ?_) #[true, false, false, true, true, false, false, false, false, false, false, false, false, false, false, false] rfl rfl (any_of HT_.out (by kernel_rfl)) (fun _ _ _ h => h) (Or.inl ⟨by rfl, ?_⟩) ?_ ?_
                 rotate_left
                 ·
                  intro w'
                  go_simp
                  with_reducible rfl
                 rotate_left
                 ·
                  simp only [Act.put, List.setIfInBounds_toArray, List.set_cons_zero, List.set_cons_succ, i64_w, i32_w]
                  rfl
                 refine pure_ (i := 5) (N := some 70) (v := ?_) (a' := ?_) #[true, false, false, true, true, true, false, false, false, false, false, false, false, false, false, false] rfl rfl (any_of HT_.out (by kernel_rfl)) (fun _ _ _ h => h) (Or.inl ⟨by rfl, ?_⟩) ?_ ?_
                 rotate_left
                 ·
                  intro w'
                  go_simp
                  with_reducible rfl
                 rotate_left
                 ·
                  simp only [Act.put, List.setIfInBounds_toArray, List.set_cons_zero, List.set_cons_succ, i64_w, i32_w]
                  rfl
                 refine pure_ (i := 6) (N := some 71) (v := ?_) (a' := ?_) #[true, false, false, true, true, true, true, false, false, false, false, false, false, false, false, false] rfl rfl (any_of HT_.out (by kernel_rfl)) (fun _ _ _ h => h) (Or.inl ⟨by rfl, ?_⟩) ?_ ?_
                 rotate_left
                 ·
                  intro w'
                  go_simp
                  with_reducible rfl
                 rotate_left
                 ·
                  simp only [Act.put, List.setIfInBounds_toArray, List.set_cons_zero, List.set_cons_succ, i64_w, i32_w]
                  rfl
                 refine pure_ (i := 7) (N := some 72) (v := ?_) (a' := ?_) #[true, false, false, true, true, true, true, true, false, false, false, false, false, false, false, false] rfl rfl (any_of HT_.out (by kernel_rfl)) (fun _ _ _ h => h) (Or.inl ⟨by rfl, ?_⟩) ?_ ?_
                 rotate_left
                 ·
                  intro w'
                  go_simp
                  with_reducible rfl
                 rotate_left
                 ·
                  simp only [Act.put, List.setIfInBounds_toArray, List.set_cons_zero, List.set_cons_succ, i64_w, i32_w]
                  rfl
                 refine pure_ (i := 8) (N := some 73) (v := ?_) (a' := ?_) #[true, false, false, true, true, true, true, true, true, false, false, false, false, false, false, false] rfl rfl (any_of HT_.out (by kernel_rfl)) (fun _ _ _ h => h) (Or.inl ⟨by rfl, ?_⟩) ?_ ?_
                 rotate_left
                 ·
                  intro w'
                  go_simp
                  with_reducible rfl
                 rotate_left
                 ·
                  simp only [Act.put, List.setIfInBounds_toArray, List.set_cons_zero, List.set_cons_succ, i64_w, i32_w]
                  rfl
                 refine pure_ (i := 9) (N := some 74) (v := ?_) (a' := ?_) #[true, false, false, true, true, true, true, true, true, true, false, false, false, false, false, false] rfl rfl (any_of HT_.out (by kernel_rfl)) (fun _ _ _ h => h) (Or.inl ⟨by rfl, ?_⟩) ?_ ?_
                 rotate_left
                 ·
                  intro w'
                  go_simp
                  with_reducible rfl
                 rotate_left
                 ·
                  simp only [Act.put, List.setIfInBounds_toArray, List.set_cons_zero, List.set_cons_succ, i64_w, i32_w]
                  rfl
                 refine pure_ (i := 10) (N := some 75) (v := ?_) (a' := ?_) #[true, false, false, true, true, true, true, true, true, true, true, false, false, false, false, false] rfl rfl (any_of HT_.out (by kernel_rfl)) (fun _ _ _ h => h) (Or.inl ⟨by rfl, ?_⟩) ?_ ?_
                 rotate_left
                 ·
                  intro w'
                  go_simp
                  with_reducible rfl
                 rotate_left
                 ·
                  simp only [Act.put, List.setIfInBounds_toArray, List.set_cons_zero, List.set_cons_succ, i64_w, i32_w]
                  rfl
                 refine take_ (i := 1) (N := some 66) (v := ?_) (a' := ?_) #[true, true, false, true, true, true, true, true, true, true, true, false, false, false, false, false] rfl rfl (take_ofW HT_.out HW_.out (by kernel_rfl)) (fun _ _ _ h => h) (Or.inl ⟨by rfl, ?_⟩) hHeld ?_ ?_
                 rotate_left
                 ·
                  rintro w' ⟨s0, s1, s2, s3, s4, s5, s6, s7, s8⟩
                  go_simp
                  with_reducible rfl
                 rotate_left
                 ·
                  simp only [Act.put, List.setIfInBounds_toArray, List.set_cons_zero, List.set_cons_succ, i64_w, i32_w]
                  rfl
                 refine take_ (i := 2) (N := some 67) (v := ?_) (a' := ?_) #[true, true, true, true, true, true, true, true, true, true, true, false, false, false, false, false] rfl rfl (take_ofW HT_.out HW_.out (by kernel_rfl)) (fun _ _ _ h => h) (Or.inl ⟨by rfl, ?_⟩) hHeld ?_ ?_
                 rotate_left
                 ·
                  rintro w' ⟨s0, s1, s2, s3, s4, s5, s6, s7, s8⟩
                  go_simp
                  with_reducible rfl
                 rotate_left
                 ·
                  simp only [Act.put, List.setIfInBounds_toArray, List.set_cons_zero, List.set_cons_succ, i64_w, i32_w]
                  rfl
                 refine one_ (i := 11) (N := some 76) #[true, true, true, true, true, true, true, true, true, true, true, true, false, false, false, false] rfl rfl (one_of HT_.out (by kernel_rfl)) (by decide) (fun K hK => ?_)
                 refine goes_ Try.func15 (by kernel_rfl) rfl #[.agg #[.slice A0_0 l0_0.length c0_0], .slice A1 l1.length c1, .int .i64 (wrap64 ((wrap64 ((wrap64 (3 * a2)) + x13_5)) + 1)), .int .i64 (wrap64 (a3 - 1))] (by rfl) rfl rfl (by (try simp only [List.map_toArray, List.map_cons, List.map_nil]); first | done | rfl | (simp only [List.length_drop, List.length_take]; rfl)) ?_
                 with_reducible refine (ih k5 (by have := HJ4.out; have := HJ9.out; have := HJ11.out; have := HJ22.out; have := HK5.out; omega) _ _ l0_0 _ _ l1 (wrap64 ((wrap64 ((wrap64 (3 * a2)) + x13_5)) + 1)) (wrap64 (a3 - 1)) t117 t118 t119 t120 t121 t122 t123 t126 _ ?side1 ?side2 ?side3 ?side4 A33.out).mono ?_
                 (case side1 => exact (Kd.C_below HR0_0.out HB.out))
                 (case side2 => exact HC0_0.out)
                 (case side3 => exact (Kd.C_below HR1.out HB.out))
                 (case side4 => exact HC1.out)
                 rintro e w36 ⟨v124, v127, rfl, ho0, ho1, hb⟩
                 refine ⟨_, rfl, ?_⟩
                 have HO125 := Aside0.mk (Kd.V_lower (Kd.V_mono (ok' := fun k_ => (w.heap.size ≤ k_) ∧ some k_ ≠ (v127 : Value).ownBlock ∧ some k_ ≠ (u117007 : Value).ownBlock ∧ k_ ≠ gb113 ∧ k_ ≠ gb114 ∧ k_ ≠ gb116) ho0 (fun k_ hk_ => ⟨(Nat.le_trans (below_size HB.out) hk_.1), hk_.2, (Kd.fresh' (Kd.N_lt HO_117007.out) k_ hk_.1), (Kd.freshB BK113.out k_ hk_.1), (Kd.freshB BK114.out k_ hk_.1), (Kd.freshB BK116.out k_ hk_.1)⟩)) (below_size HB.out))
                 have HO128 := Aside0.mk (Kd.N_lower (Kd.N_mono (ok' := fun k_ => (w.heap.size ≤ k_) ∧ some k_ ≠ (u117007 : Value).ownBlock ∧ k_ ≠ gb113 ∧ k_ ≠ gb114 ∧ k_ ≠ gb116) ho1 (fun k_ hk_ => ⟨(Nat.le_trans (below_size HB.out) hk_), (Kd.fresh' (Kd.N_lt HO_117007.out) k_ hk_), (Kd.freshB BK113.out k_ hk_), (Kd.freshB BK114.out k_ hk_), (Kd.freshB BK116.out k_ hk_)⟩)) (below_size HB.out))
                 replace HO_117007 := Aside0.mk (Kd.N_elder' HO_117007.out (Kd.N_base ho1) hb)
                 replace BK113 := Aside0.mk (blk_below BK113.out hb)
                 replace BK114 := Aside0.mk (blk_below BK114.out hb)
                 replace BK116 := Aside0.mk (blk_below BK116.out hb)
                 replace HB := Aside0.mk (below_step HB.out hb)
                 (try clear hb)
                 (try clear hb2)
                 (try clear hk)
                 (try clear hi)
                 (try clear ho0)
                 (try clear ho1)
                 obtain ⟨Ao38, co38, eo38⟩ := Kd.V_slice HO125.out
                 (first | subst eo38 | (injection eo38 with f1_ f2_ f3_; have f4_ := f1_.symm; have f5_ := f3_.symm; clear f1_ f2_ f3_; subst f4_; subst f5_))
                 obtain ⟨Ao39, co39, eo39⟩ := Kd.N_slice HO128.out
                 (first | subst eo39 | (injection eo39 with f1_ f2_ f3_; have f4_ := f1_.symm; have f5_ := f3_.symm; clear f1_ f2_ f3_; subst f4_; subst f5_))
                 refine hK.out _ _ ⟨(blk_cell BK116.out 0).trans rfl, (blk_cell BK116.out 1).trans rfl, (blk_cell BK116.out 2).trans rfl, (blk_cell BK116.out 3).trans rfl, (blk_cell BK116.out 4).trans rfl, (blk_cell BK116.out 5).trans rfl, (blk_cell BK116.out 6).trans rfl, (blk_cell BK116.out 7).trans rfl, (blk_cell BK113.out 0).trans rfl⟩ (fun hHeld => ?_)
                 clear hK K
                 refine norm_ (a' := ?_) ?_ ?_
                 rotate_left
                 ·
                  show Act.put _ (some 76) _ = _
                  simp only [Act.put, List.setIfInBounds_toArray, List.set_cons_zero, List.set_cons_succ, i64_w, i32_w]
                  rfl
                 refine one_ (i := 12) (N := some 77) #[true, true, true, true, true, true, true, true, true, true, true, true, true, false, false, false] rfl rfl (one_of HT_.out (by kernel_rfl)) (by decide) (fun K hK => ?_)
                 refine value_ (w1 := ?_) (v := ?_) (by rfl) rfl ?_ ?_
                 rotate_left 2
                 ·
                  go_simp
                  constructor
                  ·
                   rfl
                  ·
                   rfl
                 refine hK.out _ _ ⟨(blk_cell (blk_alloc BK116.out _) 0).trans rfl, (blk_cell (blk_alloc BK116.out _) 1).trans rfl, (blk_cell (blk_alloc BK116.out _) 2).trans rfl, (blk_cell (blk_alloc BK116.out _) 3).trans rfl, (blk_cell (blk_alloc BK116.out _) 4).trans rfl, (blk_cell (blk_alloc BK116.out _) 5).trans rfl, (blk_cell (blk_alloc BK116.out _) 6).trans rfl, (blk_cell (blk_alloc BK116.out _) 7).trans rfl, (blk_cell (blk_alloc BK113.out _) 0).trans rfl⟩ (fun hHeld => ?_)
                 clear hK K
                 refine norm_ (a' := ?_) ?_ ?_
                 rotate_left
                 ·
                  show Act.put _ (some 77) _ = _
                  simp only [Act.put, List.setIfInBounds_toArray, List.set_cons_zero, List.set_cons_succ, i64_w, i32_w]
                  rfl
                 refine one_ (i := 13) (N := some 78) #[true, true, true, true, true, true, true, true, true, true, true, true, true, true, false, false] rfl rfl (one_of HT_.out (by kernel_rfl)) (by decide) (fun K hK => ?_)
                 refine Kd.N_append_step k35 (w0 := w) w.heap.size (by rfl) (.tmp 66) (.tmp 77) 33 35 (.agg #[(.int .i64 0), (.int .i64 0), (.int .i64 0), (.bool false), (.int .i64 0), (.int .i64 0), (.slice none 0 0), (.slice none 0 0)]) 96 rfl Try.underlying33 info35 rfl (by decide) (by omega) u117007 x117007_5 (⟨t117, t118, t119, (⟨t120, t121, t122, t123⟩ : S32), t126⟩ : S35) [.int .i64 t117, .int .i64 t118, .int .i64 t119, .bool t120, .int .i64 t121, .int .i64 t122, .slice Ao38 t123.length co38, .slice Ao39 t126.length co39] (fun k_ => (w.heap.size ≤ k_) ∧ k_ ≠ gb113 ∧ k_ ≠ gb114 ∧ k_ ≠ gb116) (fun k_ => ((fun k_ => (w.heap.size ≤ k_) ∧ k_ ≠ gb113 ∧ k_ ≠ gb114 ∧ k_ ≠ gb116)) k_ ∧ some k_ ≠ (u117007 : Value).ownBlock) rfl rfl ?aP (fun _ hk => hk) ?aF ?aO ?aB ?aS ?aL ?_
                 (case aP => exact (k35_mkF _ _ (⟨t117, t118, t119, (⟨t120, t121, t122, t123⟩ : S32), t126⟩ : S35) (Kd.V_reads' (Kd.V_mono (ok' := (fun k_ => ((fun k_ => (w.heap.size ≤ k_) ∧ k_ ≠ gb113 ∧ k_ ≠ gb114 ∧ k_ ≠ gb116)) k_ ∧ some k_ ≠ (u117007 : Value).ownBlock)) (HO125.out) (fun k_ hk => ⟨⟨hk.1, ⟨hk.2.2.2.1, ⟨hk.2.2.2.2.1, hk.2.2.2.2.2⟩⟩⟩, hk.2.2.1⟩))).2.1 (Kd.V_F (Kd.V_mono (ok' := (fun k_ => ((fun k_ => (w.heap.size ≤ k_) ∧ k_ ≠ gb113 ∧ k_ ≠ gb114 ∧ k_ ≠ gb116)) k_ ∧ some k_ ≠ (u117007 : Value).ownBlock)) (HO125.out) (fun k_ hk => ⟨⟨hk.1, ⟨hk.2.2.2.1, ⟨hk.2.2.2.2.1, hk.2.2.2.2.2⟩⟩⟩, hk.2.2.1⟩))) (Kd.N_reads' (Kd.N_mono (ok' := (fun k_ => ((fun k_ => (w.heap.size ≤ k_) ∧ k_ ≠ gb113 ∧ k_ ≠ gb114 ∧ k_ ≠ gb116)) k_ ∧ some k_ ≠ (u117007 : Value).ownBlock)) (HO128.out) (fun k_ hk => ⟨⟨hk.1, ⟨hk.2.2.1, ⟨hk.2.2.2.1, hk.2.2.2.2⟩⟩⟩, hk.2.1⟩))).2.1 (Kd.N_F (Kd.N_mono (ok' := (fun k_ => ((fun k_ => (w.heap.size ≤ k_) ∧ k_ ≠ gb113 ∧ k_ ≠ gb114 ∧ k_ ≠ gb116)) k_ ∧ some k_ ≠ (u117007 : Value).ownBlock)) (HO128.out) (fun k_ hk => ⟨⟨hk.1, ⟨hk.2.2.1, ⟨hk.2.2.2.1, hk.2.2.2.2⟩⟩⟩, hk.2.1⟩)))))
                 (case aB => exact HB.out)
                 (case aF => exact (fun k_ hk => ⟨(Nat.le_trans (below_size HB.out) hk), Kd.freshB BK113.out k_ hk, Kd.freshB BK114.out k_ hk, Kd.freshB BK116.out k_ hk⟩))
                 (case aO => exact (Kd.N_mono HO_117007.out (fun _ hk => ⟨hk.1.1, ⟨hk.1.2.1, ⟨hk.1.2.2.1, hk.1.2.2.2⟩⟩⟩)))
                 (case aS => exact (below_size HB.out))
                 (case aL => have := LMc34.out; omega)
                 intro v130 w37 ho hb hg hat
                 rw [← Ny129.out] at ho
                 replace BK113 := Aside0.mk (blk_grown (g := gb113) (o := .cells #[.slice A0_0 l0_0.length c0_0] 27 (0, 0)) BK113.out hg (Kd.N_ne HO_117007.out BK113.out (by decide)))
                 replace BK114 := Aside0.mk (blk_grown (g := gb114) (o := .cells #[.int .i64 0, .int .i64 0, .int .i64 0, .bool false, .int .i64 0, .int .i64 0, .slice none 0 0, .slice none 0 0] 35 (0, 0)) BK114.out hg (Kd.N_away HO_117007.out (fun _ hk => hk.1.2.2.1)))
                 replace BK116 := Aside0.mk (blk_grown (g := gb116) (o := .cells #[.int .i64 (wrap64 ((wrap64 (4 + x10_11)) - 5)), .int .i64 0, .int .i64 0, .bool false, .int .i64 0, .int .i64 0, .slice none 0 0, u117007] 35 (0, 0)) BK116.out hg (Kd.N_away HO_117007.out (fun _ hk => hk.1.2.2.2)))
                 replace HO125 := Aside0.mk (Kd.V_afterv (ok := (fun k_ => (w.heap.size ≤ k_) ∧ some k_ ≠ (.slice Ao39 t126.length co39 : Value).ownBlock ∧ k_ ≠ gb113 ∧ k_ ≠ gb114 ∧ k_ ≠ gb116)) (Kd.V_mono HO125.out (fun _ hk => ⟨⟨hk.1, ⟨hk.2.1, ⟨hk.2.2.2.1, ⟨hk.2.2.2.2.1, hk.2.2.2.2.2⟩⟩⟩⟩, hk.2.2.1⟩)) hg hat)
                 replace HB := Aside0.mk (hb)
                 have HO131 := Aside0.mk (ho)
                 clear HO_117007 HO128 ho hb hg hat
                 obtain ⟨Ao40, co40, eo40⟩ := Kd.N_slice HO131.out
                 (first | subst eo40 | (injection eo40 with f1_ f2_ f3_; have f4_ := f1_.symm; have f5_ := f3_.symm; clear f1_ f2_ f3_; subst f4_; subst f5_))
                 refine hK.out _ _ ⟨(blk_cell BK116.out 0).trans rfl, (blk_cell BK116.out 1).trans rfl, (blk_cell BK116.out 2).trans rfl, (blk_cell BK116.out 3).trans rfl, (blk_cell BK116.out 4).trans rfl, (blk_cell BK116.out 5).trans rfl, (blk_cell BK116.out 6).trans rfl, (blk_cell BK116.out 7).trans rfl, (blk_cell BK113.out 0).trans rfl⟩ (fun hHeld => ?_)
                 clear hK K
                 refine norm_ (a' := ?_) ?_ ?_
                 rotate_left
                 ·
                  show Act.put _ (some 78) _ = _
                  simp only [Act.put, List.setIfInBounds_toArray, List.set_cons_zero, List.set_cons_succ, i64_w, i32_w]
                  rfl
                 refine pure_ (i := 14) (N := some 79) (v := ?_) (a' := ?_) #[true, true, true, true, true, true, true, true, true, true, true, true, true, true, true, false] rfl rfl (any_of HT_.out (by kernel_rfl)) (fun _ _ _ h => h) (Or.inl ⟨by rfl, ?_⟩) ?_ ?_
                 rotate_left
                 ·
                  intro w'
                  go_simp
                  with_reducible rfl
                 rotate_left
                 ·
                  simp only [Act.put, List.setIfInBounds_toArray, List.set_cons_zero, List.set_cons_succ, i64_w, i32_w]
                  rfl
                 refine last_ (i := 15) (N := none) #[true, true, true, true, true, true, true, true, true, true, true, true, true, true, true, true] rfl rfl (one_of HT_.out (by kernel_rfl)) (by decide) (fun K hK => ?_)
                 have hs41 : w37.cell? ⟨gb116, 7, none⟩ = some (u117007) := (blk_cell BK116.out 7).trans rfl
                 have hfs41 := blk_frozen BK116.out 7
                 have hns41_0 := NB113_116.out
                 have hns41_1 := NB114_116.out
                 have hms41_0 := NB116_113.out
                 have hms41_1 := NB116_114.out
                 refine skip_ (w1 := ?_) (by rfl) rfl ?_ ?_
                 rotate_left
                 ·
                  go_simp
                  rfl
                 refine hK.out _ _ ?_
                 clear hK K
                 refine done_ (done_of HT_.out (by kernel_rfl)) ?_
                 try go_wp2
                 go_roundg k5
                 case measure => have := HJ4.out; have := HJ9.out; have := HJ11.out; have := HJ22.out; have := HK5.out; omega
                 case rel => exact ⟨(wrap64 (x13_5 + 1)), (y129), (.slice Ao40 y129.length co40), (by first | rfl | (simp; done) | (simp [*]; done)), H', ⟨by have := HJ4.out; have := HJ9.out; have := HJ11.out; have := HJ22.out; have := HK5.out; omega⟩, ⟨by (with_reducible repeat (first | apply Kd.N_alloc | apply Kd.N_drewN | apply Kd.N_drew)); exact Kd.N_mono (Kd.N_far (p := ⟨gb116, 7, none⟩) (Kd.N_mono HO131.out (fun k_ hk => (⟨hk, hk.2.2.2⟩ : _ ∧ k_ ≠ gb116))) (fun _ hk => hk.2) (.slice Ao40 y129.length co40)) (fun _ hk => ⟨hk.1.1, ⟨hk.1.2.1, ⟨hk.1.2.2.1, hk.1.2.2.2⟩⟩⟩)⟩, ⟨by (with_reducible repeat (first | refine blk_drewN ?_ _ | refine blk_drew ?_ | refine blk_alloc ?_ _)); refine blk_far ?_ NB113_116.out _; (with_reducible repeat (first | refine blk_drewN ?_ _ | refine blk_drew ?_ | refine blk_alloc ?_ _)); exact BK113.out⟩, ⟨by (with_reducible repeat (first | refine blk_drewN ?_ _ | refine blk_drew ?_ | refine blk_alloc ?_ _)); refine blk_far ?_ NB114_116.out _; (with_reducible repeat (first | refine blk_drewN ?_ _ | refine blk_drew ?_ | refine blk_alloc ?_ _)); exact BK114.out⟩, ⟨by (with_reducible repeat (first | refine blk_drewN ?_ _ | refine blk_drew ?_ | refine blk_alloc ?_ _)); refine blk_put (cs := #[.int .i64 (wrap64 ((wrap64 (4 + x10_11)) - 5)), .int .i64 0, .int .i64 0, .bool false, .int .i64 0, .int .i64 0, .slice none 0 0, u117007]) ?_ 7 _ rfl; (with_reducible repeat (first | refine blk_drewN ?_ _ | refine blk_drew ?_ | refine blk_alloc ?_ _)); exact BK116.out⟩, ⟨by repeat (first | (with_reducible first | exact HB.out | apply below_alloc | apply pw_below_drewN | apply below_drew1 | refine below_set ?_ GE113.out | refine below_set ?_ GE114.out | refine below_set ?_ GE116.out) | exact HB.out)⟩⟩
                ·
                 rw [if_neg c34] at H
                 exact absurd H (by simp)
               ·
                rw [if_neg c32] at H
                have c32b0 : decide (x13_5 < (Go.bits .and .i64 (x9_4 / 2048) 3)) = false := decide_eq_false c32
                clear c32
                simp only [Option.some.injEq, Prod.mk.injEq] at H
                obtain ⟨rfl, rfl, rfl, rfl, rfl, rfl, rfl, rfl⟩ := H
                have hnb42 := NB116_113.out
                have hnc42 := NB113_116.out
                have hnb43 := NB116_114.out
                have hnc43 := NB114_116.out
                obtain ⟨hcz44_0, hcz44_1, hcz44_2, hcz44_3, hcz44_4, hcz44_5, hcz44_6, hcz44_7⟩ := cells8 BK116.out
                obtain ⟨hfz44_0, hfz44_1, hfz44_2, hfz44_3, hfz44_4, hfz44_5, hfz44_6, hfz44_7⟩ := frozen8 BK116.out
                have hnb45 := NB114_113.out
                have hnc45 := NB113_114.out
                obtain ⟨hcz46_0, hcz46_1, hcz46_2, hcz46_3, hcz46_4, hcz46_5, hcz46_6, hcz46_7⟩ := cells8 BK114.out
                obtain ⟨hfz46_0, hfz46_1, hfz46_2, hfz46_3, hfz46_4, hfz46_5, hfz46_6, hfz46_7⟩ := frozen8 BK114.out
                obtain ⟨Ao47, co47, eo47⟩ := Kd.N_slice HO_117007.out
                subst eo47
                go_wp2
                refine bodyPost_ret (results_cell_row rfl _ _ gb114 35 #[.int .i64 (wrap64 ((wrap64 (4 + x10_11)) - 5)), .int .i64 0, .int .i64 0, .bool false, .int .i64 0, .int .i64 0, .slice none 0 0, .slice Ao47 x117007_5.length co47] (0, 0) _ rfl (by (with_reducible repeat (first | refine blk_drewN ?_ _ | refine blk_drew ?_ | refine blk_alloc ?_ _)); apply blk_all8; (with_reducible repeat (first | refine blk_drewN ?_ _ | refine blk_drew ?_ | refine blk_alloc ?_ _)); exact BK114.out) Try.underlying35 rfl (by kernel_rfl)) rfl ?_
                exact ⟨_, _, by first | rfl | (simp [errW_none, errW_some] <;> rfl) | (simp [*, errW_none, errW_some] <;> rfl), Kd.V_nil _ _ _ _ _, by (with_reducible repeat (first | apply Kd.N_alloc | apply Kd.N_drewN | apply Kd.N_drew)); exact Kd.N_mono (Kd.N_far (p := ⟨gb114, 7, none⟩) (Kd.N_far (p := ⟨gb114, 6, none⟩) (Kd.N_far (p := ⟨gb114, 5, none⟩) (Kd.N_far (p := ⟨gb114, 4, none⟩) (Kd.N_far (p := ⟨gb114, 3, none⟩) (Kd.N_far (p := ⟨gb114, 2, none⟩) (Kd.N_far (p := ⟨gb114, 1, none⟩) (Kd.N_far (p := ⟨gb114, 0, none⟩) (Kd.N_mono HO_117007.out (fun k_ hk => (⟨hk, hk.2.2.1⟩ : _ ∧ k_ ≠ gb114))) (fun _ hk => hk.2) (.int .i64 (wrap64 ((wrap64 (4 + x10_11)) - 5)))) (fun _ hk => hk.2) (.int .i64 0)) (fun _ hk => hk.2) (.int .i64 0)) (fun _ hk => hk.2) (.bool false)) (fun _ hk => hk.2) (.int .i64 0)) (fun _ hk => hk.2) (.int .i64 0)) (fun _ hk => hk.2) (.slice none 0 0)) (fun _ hk => hk.2) (.slice Ao47 x117007_5.length co47)) (fun _ hk => hk.1.1), by repeat (first | (with_reducible first | exact HB.out | apply below_alloc | apply pw_below_drewN | apply below_drew1 | refine below_set ?_ GE113.out | refine below_set ?_ GE114.out | refine below_set ?_ GE116.out) | exact HB.out)⟩
            ·
             replace c27 := Bool.eq_false_iff.mpr c27
             subst c27
             have H1 : (if x10_11 = 7 then ((colonnadelaw7_Pred.f kj22 l0_0 l1 (wrap64 ((wrap64 (3 * a2)) + 1)) (wrap64 (a3 - 1))).bind fun bt132 => (some (6, 0, 0, false, 0, 0, ([] : List Int), (([(⟨bt132.1, bt132.2.1, bt132.2.2.1, (⟨bt132.2.2.2.1, bt132.2.2.2.2.1, bt132.2.2.2.2.2.1, bt132.2.2.2.2.2.2.1⟩ : S32), bt132.2.2.2.2.2.2.2⟩ : S35)] : List (S35)))))) else (if 0 ≤ (Int.tmod (Go.bits .and .i64 (x9_4 / 8) 255) (l0_0.length : Int)) then (if (Int.tmod (Go.bits .and .i64 (x9_4 / 8) 255) (l0_0.length : Int)) < (l0_0.length : Int) then ((colonnadelaw6_Value.f ((rd_T58 l0_0 (Int.tmod (Go.bits .and .i64 (x9_4 / 8) 255) (l0_0.length : Int))).f0) ((rd_T58 l0_0 (Int.tmod (Go.bits .and .i64 (x9_4 / 8) 255) (l0_0.length : Int))).f1) false (x9_4 / 2048)).bind fun bt149 => (if (Int.tmod (Go.bits .and .i64 (x9_4 / 8) 255) (l0_0.length : Int)) = 0 then (some (2, (Int.tmod (Go.bits .and .i64 (x9_4 / 8) 255) (l0_0.length : Int)), wrap64 ((Int.tmod (Go.bits .and .i64 (x9_4 / 131072) 255) 6) + 1), false, 1, Go.bits .and .i64 (x9_4 / 2048) 15, ([] : List Int), ([] : List (S35)))) else (some (2, (Int.tmod (Go.bits .and .i64 (x9_4 / 8) 255) (l0_0.length : Int)), wrap64 ((Int.tmod (Go.bits .and .i64 (x9_4 / 131072) 255) 6) + 1), bt149.1, bt149.2.1, bt149.2.2.1, bt149.2.2.2, ([] : List (S35)))))) else (none)) else (none))) = some (r1, r2, r3, r4, r5, r6, r7, r8) := by rw [if_neg (show ¬ (false = true) by decide)] at H; exact H
             clear H
             have H := H1
             clear H1
             by_cases c48 : x10_11 = 7
             ·
              rw [if_pos c48] at H
              have c48b0 : (x10_11 == 7) = true := beq_iff_eq.mpr c48
              have c48b1 : (x10_11 != 7) = false := bne_eq_false_iff_eq.mpr c48
              clear c48
              replace H := Option.bind_eq_some_iff.mp H
              obtain ⟨⟨t132, t133, t134, t135, t136, t137, t138, t141⟩, A490, H⟩ := H
              replace H : (some (6, 0, 0, false, 0, 0, ([] : List Int), (([(⟨t132, t133, t134, (⟨t135, t136, t137, t138⟩ : S32), t141⟩ : S35)] : List (S35))))) = some (r1, r2, r3, r4, r5, r6, r7, r8) := H
              have A49 := Aside0.mk A490
              clear A490
              obtain ⟨y144, hy144⟩ : ∃ y_ : List (S35), y_ = (([(⟨t132, t133, t134, (⟨t135, t136, t137, t138⟩ : S32), t141⟩ : S35)] : List (S35))) := ⟨_, rfl⟩
              replace H : (some (6, 0, 0, false, 0, 0, ([] : List Int), y144)) = some (r1, r2, r3, r4, r5, r6, r7, r8) := by first | (rw [hy144]; with_reducible exact H) | (have H2_ := (Option.bind_some _ _).symm.trans H; rw [hy144]; with_reducible exact H2_) | (have H2_ := (Option.bind_some _ _).symm.trans H; with_reducible exact H2_) | with_reducible exact H | (rw [hy144]; exact H) | exact H
              have Ny144 := Aside0.mk hy144
              clear hy144
              simp only [Option.some.injEq, Prod.mk.injEq] at H
              obtain ⟨rfl, rfl, rfl, rfl, rfl, rfl, rfl, rfl⟩ := H
              have hnb50 := NB113_114.out
              have hnc50 := NB114_113.out
              have hcz51_0 : wc.cell? ⟨gb113, 0, none⟩ = some (.slice A0_0 l0_0.length c0_0) := (blk_cell BK113.out 0).trans rfl
              have hfz51_0 := blk_frozen BK113.out 0
              go_wp2_with (first | ((with_reducible refine gate_callee (f := 15) rfl ?_); refine goesL_ (some 90) rfl rfl Try.func15 (by kernel_rfl) rfl #[.agg #[.slice A0_0 l0_0.length c0_0], .slice A1 l1.length c1, .int .i64 (wrap64 ((wrap64 (3 * a2)) + 1)), .int .i64 (wrap64 (a3 - 1))] rfl (by (try simp only [List.map_toArray, List.map_cons, List.map_nil]); first | done | rfl | (simp only [List.length_drop, List.length_take]; rfl)) ?_; (with_reducible refine (ih kj22 (by have := HJ4.out; have := HJ9.out; have := HJ11.out; have := HJ22.out; omega) _ _ l0_0 _ _ l1 (wrap64 ((wrap64 (3 * a2)) + 1)) (wrap64 (a3 - 1)) t132 t133 t134 t135 t136 t137 t138 t141 _ ?side1 ?side2 ?side3 ?side4 A49.out).mono ?_); (case side1 => repeat (first | exact (Kd.C_below HR0_0.out HB.out) | (with_reducible refine Kd.C_alloc ?_ _) | (with_reducible refine Kd.C_drewN ?_ _) | (with_reducible refine Kd.C_drew ?_))); (case side2 => exact HC0_0.out); (case side3 => repeat (first | exact (Kd.C_below HR1.out HB.out) | (with_reducible refine Kd.C_alloc ?_ _) | (with_reducible refine Kd.C_drewN ?_ _) | (with_reducible refine Kd.C_drew ?_))); (case side4 => exact HC1.out); rintro e w52 ⟨v139, v142, rfl, ho0, ho1, hb⟩; refine ⟨_, rfl, ?_⟩; have n0_ := Aside0.mk (Kd.V_lower (Kd.V_mono (ok' := fun k_ => (w.heap.size ≤ k_) ∧ some k_ ≠ (v142 : Value).ownBlock ∧ k_ ≠ gb113 ∧ k_ ≠ gb114) ho0 (fun k_ hk_ => ⟨(Nat.le_trans (below_size (by repeat (first | (with_reducible first | exact HB.out | apply below_alloc | apply pw_below_drewN | apply below_drew1 | refine below_set ?_ GE113.out | refine below_set ?_ GE114.out) | exact HB.out))) hk_.1), hk_.2, (Kd.freshB (g := gb113) (o := .cells #[.slice A0_0 l0_0.length c0_0] 27 (0, 0)) (by (with_reducible repeat (first | refine blk_drewN ?_ _ | refine blk_drew ?_ | refine blk_alloc ?_ _)); exact BK113.out) k_ hk_.1), (Kd.freshB (g := gb114) (o := .cells #[.int .i64 0, .int .i64 0, .int .i64 0, .bool false, .int .i64 0, .int .i64 0, .slice none 0 0, .slice none 0 0] 35 (0, 0)) (by (with_reducible repeat (first | refine blk_drewN ?_ _ | refine blk_drew ?_ | refine blk_alloc ?_ _)); exact BK114.out) k_ hk_.1)⟩)) (below_size (by repeat (first | (with_reducible first | exact HB.out | apply below_alloc | apply pw_below_drewN | apply below_drew1 | refine below_set ?_ GE113.out | refine below_set ?_ GE114.out) | exact HB.out)))); have n1_ := Aside0.mk (Kd.N_lower (Kd.N_mono (ok' := fun k_ => (w.heap.size ≤ k_) ∧ k_ ≠ gb113 ∧ k_ ≠ gb114) ho1 (fun k_ hk_ => ⟨(Nat.le_trans (below_size (by repeat (first | (with_reducible first | exact HB.out | apply below_alloc | apply pw_below_drewN | apply below_drew1 | refine below_set ?_ GE113.out | refine below_set ?_ GE114.out) | exact HB.out))) hk_), (Kd.freshB (g := gb113) (o := .cells #[.slice A0_0 l0_0.length c0_0] 27 (0, 0)) (by (with_reducible repeat (first | refine blk_drewN ?_ _ | refine blk_drew ?_ | refine blk_alloc ?_ _)); exact BK113.out) k_ hk_), (Kd.freshB (g := gb114) (o := .cells #[.int .i64 0, .int .i64 0, .int .i64 0, .bool false, .int .i64 0, .int .i64 0, .slice none 0 0, .slice none 0 0] 35 (0, 0)) (by (with_reducible repeat (first | refine blk_drewN ?_ _ | refine blk_drew ?_ | refine blk_alloc ?_ _)); exact BK114.out) k_ hk_)⟩)) (below_size (by repeat (first | (with_reducible first | exact HB.out | apply below_alloc | apply pw_below_drewN | apply below_drew1 | refine below_set ?_ GE113.out | refine below_set ?_ GE114.out) | exact HB.out)))); have n2_ := Aside0.mk (blk_below (g := gb113) (o := .cells #[.slice A0_0 l0_0.length c0_0] 27 (0, 0)) (by (with_reducible repeat (first | refine blk_drewN ?_ _ | refine blk_drew ?_ | refine blk_alloc ?_ _)); exact BK113.out) hb); have n3_ := Aside0.mk (blk_below (g := gb114) (o := .cells #[.int .i64 0, .int .i64 0, .int .i64 0, .bool false, .int .i64 0, .int .i64 0, .slice none 0 0, .slice none 0 0] 35 (0, 0)) (by (with_reducible repeat (first | refine blk_drewN ?_ _ | refine blk_drew ?_ | refine blk_alloc ?_ _)); exact BK114.out) hb); have n4_ := Aside0.mk (below_step (by repeat (first | (with_reducible first | exact HB.out | apply below_alloc | apply pw_below_drewN | apply below_drew1 | refine below_set ?_ GE113.out | refine below_set ?_ GE114.out) | exact HB.out)) hb); clear BK113; clear BK114; clear HB; have HO140 := n0_; have HO143 := n1_; have BK113 := n2_; have BK114 := n3_; have HB := n4_; clear n0_ n1_ n2_ n3_ n4_; (try clear hb); (try clear hb2); (try clear hk); (try clear hi); (try clear ho0); (try clear ho1); obtain ⟨Ao53, co53, eo53⟩ := Kd.V_slice HO140.out; subst eo53; obtain ⟨Ao54, co54, eo54⟩ := Kd.N_slice HO143.out; subst eo54) | ((with_reducible refine gate_dst (N := 91) rfl ?_); refine Kd.N_lit k35 _ 35 ?hg (N' := 91) ?hd (xs := ([(⟨t132, t133, t134, (⟨t135, t136, t137, t138⟩ : S32), t141⟩ : S35)] : List (S35))) (inner := [.int .i64 t132, .int .i64 t133, .int .i64 t134, .bool t135, .int .i64 t136, .int .i64 t137, .slice Ao53 t138.length co53, .slice Ao54 t141.length co54]) (ok := (fun k_ => (w.heap.size ≤ k_) ∧ k_ ≠ gb113 ∧ k_ ≠ gb114)) (okp := (fun k_ => (w.heap.size ≤ k_) ∧ k_ ≠ gb113 ∧ k_ ≠ gb114)) ?hr ?hp (fun _ hk => hk) ((show ∀ k_, w52.heap.size ≤ k_ → (fun k_ => (w.heap.size ≤ k_) ∧ k_ ≠ gb113 ∧ k_ ≠ gb114) k_ from fun k_ hk => ⟨(Nat.le_trans (below_size (by repeat (first | (with_reducible first | exact HB.out | apply below_alloc | apply pw_below_drewN | apply below_drew1 | refine below_set ?_ GE113.out | refine below_set ?_ GE114.out) | exact HB.out))) hk), Kd.freshB (g := gb113) (o := .cells #[.slice A0_0 l0_0.length c0_0] 27 (0, 0)) (by (with_reducible repeat (first | refine blk_drewN ?_ _ | refine blk_drew ?_ | refine blk_alloc ?_ _)); exact BK113.out) k_ hk, Kd.freshB (g := gb114) (o := .cells #[.int .i64 0, .int .i64 0, .int .i64 0, .bool false, .int .i64 0, .int .i64 0, .slice none 0 0, .slice none 0 0] 35 (0, 0)) (by (with_reducible repeat (first | refine blk_drewN ?_ _ | refine blk_drew ?_ | refine blk_alloc ?_ _)); exact BK114.out) k_ hk⟩) _ (Nat.le_refl _)) (Below.refl _ _) (Nat.le_refl _) (by simp) ?_; (case hd => rfl); (case hg => rfl); (case hr => first | (go_simp; done) | (go_simp; rfl)); (case hp => exact (Reps.c8 (show Kd.FK k35 _ _ (⟨t132, t133, t134, (⟨t135, t136, t137, t138⟩ : S32), t141⟩ : S35) [.int .i64 t132, .int .i64 t133, .int .i64 t134, .bool t135, .int .i64 t136, .int .i64 t137, .slice Ao53 t138.length co53, .slice Ao54 t141.length co54] from (k35_mkF _ _ (⟨t132, t133, t134, (⟨t135, t136, t137, t138⟩ : S32), t141⟩ : S35) (Kd.V_reads' (Kd.V_mono (ok' := (fun k_ => (w.heap.size ≤ k_) ∧ k_ ≠ gb113 ∧ k_ ≠ gb114)) (HO140.out) (fun k_ hk => ⟨hk.1, ⟨hk.2.2.1, hk.2.2.2⟩⟩))).2.1 (Kd.V_F (Kd.V_mono (ok' := (fun k_ => (w.heap.size ≤ k_) ∧ k_ ≠ gb113 ∧ k_ ≠ gb114)) (HO140.out) (fun k_ hk => ⟨hk.1, ⟨hk.2.2.1, hk.2.2.2⟩⟩))) (Kd.N_reads' (Kd.N_mono (ok' := (fun k_ => (w.heap.size ≤ k_) ∧ k_ ≠ gb113 ∧ k_ ≠ gb114)) (HO143.out) (fun k_ hk => ⟨hk.1, ⟨hk.2.1, hk.2.2⟩⟩))).2.1 (Kd.N_F (Kd.N_mono (ok' := (fun k_ => (w.heap.size ≤ k_) ∧ k_ ≠ gb113 ∧ k_ ≠ gb114)) (HO143.out) (fun k_ hk => ⟨hk.1, ⟨hk.2.1, hk.2.2⟩⟩))))) (Reps.none _ _))); intro v145 w55 ho56 hb hg_ hnew_; clear hg_ hnew_; (first | rw [← Ny144.out] at ho56 | (simp only [Int.reduceToNat] at ho56; rw [← Ny144.out] at ho56)); have n0_ := Aside0.mk (Kd.V_elder' (by (with_reducible repeat (first | apply Kd.V_alloc | apply Kd.V_drewN | apply Kd.V_drew)); exact HO140.out) (Kd.N_base ho56) hb); have n1_ := Aside0.mk (Kd.N_lower ho56 (below_size (by repeat (first | (with_reducible first | exact HB.out | apply below_alloc | apply pw_below_drewN | apply below_drew1 | refine below_set ?_ GE113.out | refine below_set ?_ GE114.out) | exact HB.out)))); have n2_ := Aside0.mk (blk_below (g := gb113) (o := .cells #[.slice A0_0 l0_0.length c0_0] 27 (0, 0)) (by (with_reducible repeat (first | refine blk_drewN ?_ _ | refine blk_drew ?_ | refine blk_alloc ?_ _)); exact BK113.out) hb); have n3_ := Aside0.mk (blk_below (g := gb114) (o := .cells #[.int .i64 0, .int .i64 0, .int .i64 0, .bool false, .int .i64 0, .int .i64 0, .slice none 0 0, .slice none 0 0] 35 (0, 0)) (by (with_reducible repeat (first | refine blk_drewN ?_ _ | refine blk_drew ?_ | refine blk_alloc ?_ _)); exact BK114.out) hb); have n4_ := Aside0.mk (below_step (by repeat (first | (with_reducible first | exact HB.out | apply below_alloc | apply pw_below_drewN | apply below_drew1 | refine below_set ?_ GE113.out | refine below_set ?_ GE114.out) | exact HB.out)) hb); clear HO140; clear BK113; clear BK114; clear HB; clear HO143; have HO140 := n0_; have HO146 := n1_; have BK113 := n2_; have BK114 := n3_; have HB := n4_; clear n0_ n1_ n2_ n3_ n4_; clear hb ho56; obtain ⟨Ao57, co57, eo57⟩ := Kd.N_slice HO146.out; subst eo57; have hcz58_0 : w55.cell? ⟨gb114, 0, none⟩ = some (.int .i64 0) := (blk_cell BK114.out 0).trans rfl; have hcz58_1 : w55.cell? ⟨gb114, 1, none⟩ = some (.int .i64 0) := (blk_cell BK114.out 1).trans rfl; have hcz58_2 : w55.cell? ⟨gb114, 2, none⟩ = some (.int .i64 0) := (blk_cell BK114.out 2).trans rfl; have hcz58_3 : w55.cell? ⟨gb114, 3, none⟩ = some (.bool false) := (blk_cell BK114.out 3).trans rfl; have hcz58_4 : w55.cell? ⟨gb114, 4, none⟩ = some (.int .i64 0) := (blk_cell BK114.out 4).trans rfl; have hcz58_5 : w55.cell? ⟨gb114, 5, none⟩ = some (.int .i64 0) := (blk_cell BK114.out 5).trans rfl; have hcz58_6 : w55.cell? ⟨gb114, 6, none⟩ = some (.slice none 0 0) := (blk_cell BK114.out 6).trans rfl; have hcz58_7 : w55.cell? ⟨gb114, 7, none⟩ = some (.slice none 0 0) := (blk_cell BK114.out 7).trans rfl; have hfz58_0 := blk_frozen BK114.out 0; have hfz58_1 := blk_frozen BK114.out 1; have hfz58_2 := blk_frozen BK114.out 2; have hfz58_3 := blk_frozen BK114.out 3; have hfz58_4 := blk_frozen BK114.out 4; have hfz58_5 := blk_frozen BK114.out 5; have hfz58_6 := blk_frozen BK114.out 6; have hfz58_7 := blk_frozen BK114.out 7))
              refine bodyPost_ret (results_cell_row rfl _ _ gb114 35 #[.int .i64 6, .int .i64 0, .int .i64 0, .bool false, .int .i64 0, .int .i64 0, .slice none 0 0, .slice Ao57 y144.length co57] (0, 0) _ rfl (by (with_reducible repeat (first | refine blk_drewN ?_ _ | refine blk_drew ?_ | refine blk_alloc ?_ _)); apply blk_all8; (with_reducible repeat (first | refine blk_drewN ?_ _ | refine blk_drew ?_ | refine blk_alloc ?_ _)); exact BK114.out) Try.underlying35 rfl (by kernel_rfl)) rfl ?_
              exact ⟨_, _, by first | rfl | (simp [errW_none, errW_some] <;> rfl) | (simp [*, errW_none, errW_some] <;> rfl), Kd.V_nil _ _ _ _ _, by (with_reducible repeat (first | apply Kd.N_alloc | apply Kd.N_drewN | apply Kd.N_drew)); exact Kd.N_mono (Kd.N_far (p := ⟨gb114, 7, none⟩) (Kd.N_far (p := ⟨gb114, 6, none⟩) (Kd.N_far (p := ⟨gb114, 5, none⟩) (Kd.N_far (p := ⟨gb114, 4, none⟩) (Kd.N_far (p := ⟨gb114, 3, none⟩) (Kd.N_far (p := ⟨gb114, 2, none⟩) (Kd.N_far (p := ⟨gb114, 1, none⟩) (Kd.N_far (p := ⟨gb114, 0, none⟩) (Kd.N_mono HO146.out (fun k_ hk => (⟨hk, hk.2.2⟩ : _ ∧ k_ ≠ gb114))) (fun _ hk => hk.2) (.int .i64 6)) (fun _ hk => hk.2) (.int .i64 0)) (fun _ hk => hk.2) (.int .i64 0)) (fun _ hk => hk.2) (.bool false)) (fun _ hk => hk.2) (.int .i64 0)) (fun _ hk => hk.2) (.int .i64 0)) (fun _ hk => hk.2) (.slice none 0 0)) (fun _ hk => hk.2) (.slice Ao57 y144.length co57)) (fun _ hk => hk.1.1), by repeat (first | (with_reducible first | exact HB.out | apply below_alloc | apply pw_below_drewN | apply below_drew1 | refine below_set ?_ GE113.out | refine below_set ?_ GE114.out) | exact HB.out)⟩
             ·
              rw [if_neg c48] at H
              have c48b0 : (x10_11 == 7) = false := beq_eq_false_iff_ne.mpr c48
              have c48b1 : (x10_11 != 7) = true := bne_iff_ne.mpr c48
              obtain ⟨ji59, hji59⟩ : ∃ j_ : Int, (Int.tmod (Go.bits .and .i64 (x9_4 / 8) 255) (l0_0.length : Int)) = j_ := ⟨_, rfl⟩
              replace H : (if 0 ≤ (ji59) then (if (ji59) < (l0_0.length : Int) then ((colonnadelaw6_Value.f ((rd_T58 l0_0 (ji59)).f0) ((rd_T58 l0_0 (ji59)).f1) false (x9_4 / 2048)).bind fun bt149 => (if (ji59) = 0 then (some (2, (ji59), wrap64 ((Int.tmod (Go.bits .and .i64 (x9_4 / 131072) 255) 6) + 1), false, 1, Go.bits .and .i64 (x9_4 / 2048) 15, ([] : List Int), ([] : List (S35)))) else (some (2, (ji59), wrap64 ((Int.tmod (Go.bits .and .i64 (x9_4 / 131072) 255) 6) + 1), bt149.1, bt149.2.1, bt149.2.2.1, bt149.2.2.2, ([] : List (S35)))))) else (none)) else (none)) = some (r1, r2, r3, r4, r5, r6, r7, r8) := by first | (rw [hji59] at H; exact H) | (simp only [hji59] at H ⊢; exact H)
              by_cases c60 : 0 ≤ (ji59)
              ·
               rw [if_pos c60] at H
               have c60b0 : decide (0 ≤ (ji59)) = true := decide_eq_true c60
               clear c60
               by_cases c61 : (ji59) < (l0_0.length : Int)
               ·
                rw [if_pos c61] at H
                have c61b0 : decide ((ji59) < (l0_0.length : Int)) = true := decide_eq_true c61
                clear c61
                replace H := Option.bind_eq_some_iff.mp H
                obtain ⟨⟨t149, t150, t151, t152⟩, A620, H⟩ := H
                replace H : (if (ji59) = 0 then (some (2, (ji59), wrap64 ((Int.tmod (Go.bits .and .i64 (x9_4 / 131072) 255) 6) + 1), false, 1, Go.bits .and .i64 (x9_4 / 2048) 15, ([] : List Int), ([] : List (S35)))) else (some (2, (ji59), wrap64 ((Int.tmod (Go.bits .and .i64 (x9_4 / 131072) 255) 6) + 1), t149, t150, t151, t152, ([] : List (S35))))) = some (r1, r2, r3, r4, r5, r6, r7, r8) := H
                have A62 := Aside0.mk A620
                clear A620
                by_cases c63 : (ji59) = 0
                ·
                 rw [if_pos c63] at H
                 have c63b0 : ((ji59) == 0) = true := beq_iff_eq.mpr c63
                 have c63b1 : ((ji59) != 0) = false := bne_eq_false_iff_eq.mpr c63
                 clear c63
                 simp only [Option.some.injEq, Prod.mk.injEq] at H
                 obtain ⟨rfl, rfl, rfl, rfl, rfl, rfl, rfl, rfl⟩ := H
                 have hnb64 := NB113_114.out
                 have hnc64 := NB114_113.out
                 have hcz65_0 : wc.cell? ⟨gb113, 0, none⟩ = some (.slice A0_0 l0_0.length c0_0) := (blk_cell BK113.out 0).trans rfl
                 have hfz65_0 := blk_frozen BK113.out 0
                 have p147 : 0 ≤ ((ji59) : Int) := of_decide_eq_true (by first | (with_reducible assumption) | assumption)
                 have q147 : (ji59) < (l0_0.length : Int) := of_decide_eq_true (by first | (with_reducible assumption) | assumption)
                 obtain ⟨ad147, e147, hx147_0, hx147_1, hx147_2⟩ := at_T58 HR0_0.out (ji59) p147 q147
                 cases e147
                 replace hx147_0 := (HB.out.cell (World.block_lt_of_cell? w _ hx147_0)).trans hx147_0
                 replace hx147_1 := (HB.out.cell (World.block_lt_of_cell? w _ hx147_1)).trans hx147_1
                 replace hx147_2 := (HB.out.cell (World.block_lt_of_cell? w _ hx147_2)).trans hx147_2
                 replace p147 := eq_true p147
                 replace q147 := eq_true q147
                 go_wp2_with (first | ((with_reducible refine gate_dst (N := 14) rfl ?_); refine box_event ?hg (N := 14) ?hd (cs := #[.string (⟨#[]⟩ : ByteArray), .int .i64 0, .bool false]) (t := 58) ?hr ?_; (case hd => rfl); (case hg => rfl); (case hr => first | (go_simp; done) | (go_simp; rfl)); intro gb148 hg w66 hbox hb; have n0_ := Aside0.mk (blk_below (g := gb113) (o := .cells #[.slice (some ad147) l0_0.length c0_0] 27 (0, 0)) (by (with_reducible repeat (first | refine blk_drewN ?_ _ | refine blk_drew ?_ | refine blk_alloc ?_ _)); exact BK113.out) hb); have n1_ := Aside0.mk (blk_below (g := gb114) (o := .cells #[.int .i64 0, .int .i64 0, .int .i64 0, .bool false, .int .i64 0, .int .i64 0, .slice none 0 0, .slice none 0 0] 35 (0, 0)) (by (with_reducible repeat (first | refine blk_drewN ?_ _ | refine blk_drew ?_ | refine blk_alloc ?_ _)); exact BK114.out) hb); have n2_ := Aside0.mk (below_step (by repeat (first | (with_reducible first | exact HB.out | apply below_alloc | apply pw_below_drewN | apply below_drew1 | refine below_set ?_ GE113.out | refine below_set ?_ GE114.out) | exact HB.out)) hb); have n3_ := Aside0.mk (hbox); have n4_ := Aside0.mk ((by rw [hg]; exact (below_size (by repeat (first | (with_reducible first | exact HB.out | apply below_alloc | apply pw_below_drewN | apply below_drew1 | refine below_set ?_ GE113.out | refine below_set ?_ GE114.out) | exact HB.out))) : w.heap.size ≤ gb148)); have n5_ := Aside0.mk ((by rw [hg]; exact (below_size (by repeat (first | (with_reducible first | exact HB.out | apply below_alloc | apply pw_below_drewN | apply below_drew1 | refine below_set ?_ GE113.out | refine below_set ?_ GE114.out) | exact HB.out))) : w.heap.size ≤ gb148)); have n6_ := Aside0.mk ((by rw [hg]; exact Nat.ne_of_lt (blk_lt (g := gb113) (o := .cells #[.slice (some ad147) l0_0.length c0_0] 27 (0, 0)) (by (with_reducible repeat (first | refine blk_drewN ?_ _ | refine blk_drew ?_ | refine blk_alloc ?_ _)); exact BK113.out)) : gb113 ≠ gb148)); have n7_ := Aside0.mk ((by rw [hg]; exact Nat.ne_of_gt (blk_lt (g := gb113) (o := .cells #[.slice (some ad147) l0_0.length c0_0] 27 (0, 0)) (by (with_reducible repeat (first | refine blk_drewN ?_ _ | refine blk_drew ?_ | refine blk_alloc ?_ _)); exact BK113.out)) : gb148 ≠ gb113)); have n8_ := Aside0.mk ((by rw [hg]; exact Nat.ne_of_lt (blk_lt (g := gb114) (o := .cells #[.int .i64 0, .int .i64 0, .int .i64 0, .bool false, .int .i64 0, .int .i64 0, .slice none 0 0, .slice none 0 0] 35 (0, 0)) (by (with_reducible repeat (first | refine blk_drewN ?_ _ | refine blk_drew ?_ | refine blk_alloc ?_ _)); exact BK114.out)) : gb114 ≠ gb148)); have n9_ := Aside0.mk ((by rw [hg]; exact Nat.ne_of_gt (blk_lt (g := gb114) (o := .cells #[.int .i64 0, .int .i64 0, .int .i64 0, .bool false, .int .i64 0, .int .i64 0, .slice none 0 0, .slice none 0 0] 35 (0, 0)) (by (with_reducible repeat (first | refine blk_drewN ?_ _ | refine blk_drew ?_ | refine blk_alloc ?_ _)); exact BK114.out)) : gb148 ≠ gb114)); clear BK113; clear BK114; clear HB; have BK113 := n0_; have BK114 := n1_; have HB := n2_; have BK148 := n3_; have GW148 := n4_; have GE148 := n5_; have NB113_148 := n6_; have NB148_113 := n7_; have NB114_148 := n8_; have NB148_114 := n9_; clear n0_ n1_ n2_ n3_ n4_ n5_ n6_ n7_ n8_ n9_; clear hb hbox hg; have hnb67 := NB148_113.out; have hnc67 := NB113_148.out; have hnb68 := NB148_114.out; have hnc68 := NB114_148.out; obtain ⟨vz_, hcz69_0⟩ : ∃ vz_ : Value, w66.cell? ⟨gb148, 0, none⟩ = some vz_ := ⟨_, (blk_cell BK148.out 0).trans rfl⟩; have hcz69_1 : w66.cell? ⟨gb148, 1, none⟩ = some (.int .i64 0) := (blk_cell BK148.out 1).trans rfl; have hcz69_2 : w66.cell? ⟨gb148, 2, none⟩ = some (.bool false) := (blk_cell BK148.out 2).trans rfl; have hfz69_0 := blk_frozen BK148.out 0; have hfz69_1 := blk_frozen BK148.out 1; have hfz69_2 := blk_frozen BK148.out 2) | ((with_reducible refine gate_store (t := 58) (p := 14) rfl ?_); refine store_event (t := 58) (p := 14) (v := ?voS) (w1 := (((w66.setCell ⟨gb148, 0, none⟩ (.string ((rd_T58 l0_0 (ji59)).f0))).setCell ⟨gb148, 1, none⟩ (.int .i64 ((rd_T58 l0_0 (ji59)).f1))).setCell ⟨gb148, 2, none⟩ (.bool ((rd_T58 l0_0 (ji59)).f2)))) ?hg ?ho ?hn ?hr ?_; (case ho => rfl); (case hg => rfl); (case hn => rfl); (case hr => first | (go_simp; done) | (go_simp; rfl)); intro w66s hw; have n0_ := Aside0.mk (show w66s.heap[gb113]? = some (.cells #[.slice (some ad147) l0_0.length c0_0] 27 (0, 0)) from by rw [hw]; exact blk_far (blk_far (blk_far BK113.out NB113_148.out _) NB113_148.out _) NB113_148.out _); have n1_ := Aside0.mk (show w66s.heap[gb114]? = some (.cells #[.int .i64 0, .int .i64 0, .int .i64 0, .bool false, .int .i64 0, .int .i64 0, .slice none 0 0, .slice none 0 0] 35 (0, 0)) from by rw [hw]; exact blk_far (blk_far (blk_far BK114.out NB114_148.out _) NB114_148.out _) NB114_148.out _); have n2_ := Aside0.mk (show Below w.heap.size w w66s from by rw [hw]; exact below_set (below_set (below_set HB.out GE148.out) GE148.out) GE148.out); have n3_ := Aside0.mk (show w66s.heap[gb148]? = some (.cells #[.string ((rd_T58 l0_0 (ji59)).f0), .int .i64 ((rd_T58 l0_0 (ji59)).f1), .bool ((rd_T58 l0_0 (ji59)).f2)] 58 (0, 0)) from by rw [hw]; exact blk_put (cs := #[.string ((rd_T58 l0_0 (ji59)).f0), .int .i64 ((rd_T58 l0_0 (ji59)).f1), .bool false]) (blk_put (cs := #[.string ((rd_T58 l0_0 (ji59)).f0), .int .i64 0, .bool false]) (blk_put (cs := #[.string (⟨#[]⟩ : ByteArray), .int .i64 0, .bool false]) BK148.out 0 _ rfl) 1 _ rfl) 2 _ rfl); clear hw; clear BK113; clear BK114; clear HB; clear BK148; clear hcz69_0; clear hcz69_1; clear hcz69_2; clear hfz69_0; clear hfz69_1; clear hfz69_2; have BK113 := n0_; have BK114 := n1_; have HB := n2_; have BK148 := n3_; clear n0_ n1_ n2_ n3_; have hcz69_0 : w66s.cell? ⟨gb148, 0, none⟩ = some (.string ((rd_T58 l0_0 (ji59)).f0)) := (blk_cell BK148.out 0).trans rfl; have hcz69_1 : w66s.cell? ⟨gb148, 1, none⟩ = some (.int .i64 ((rd_T58 l0_0 (ji59)).f1)) := (blk_cell BK148.out 1).trans rfl; have hcz69_2 : w66s.cell? ⟨gb148, 2, none⟩ = some (.bool ((rd_T58 l0_0 (ji59)).f2)) := (blk_cell BK148.out 2).trans rfl; have hfz69_0 := blk_frozen BK148.out 0; have hfz69_1 := blk_frozen BK148.out 1; have hfz69_2 := blk_frozen BK148.out 2))
                 (with_reducible refine (colonnadelaw6_Value.calls ((rd_T58 l0_0 (ji59)).f0) ((rd_T58 l0_0 (ji59)).f1) false (x9_4 / 2048) t149 t150 t151 t152 _ A62.out).mono ?_)
                 rintro e w70 ⟨v153, rfl, ho0, hb⟩
                 have HO154 := Aside0.mk (Kd.V_lower (Kd.V_mono (ok' := fun k_ => (w.heap.size ≤ k_) ∧ k_ ≠ gb113 ∧ k_ ≠ gb114 ∧ k_ ≠ gb148) ho0 (fun k_ hk_ => ⟨(Nat.le_trans (below_size (by repeat (first | (with_reducible first | exact HB.out | apply below_alloc | apply pw_below_drewN | apply below_drew1 | refine below_set ?_ GE113.out | refine below_set ?_ GE114.out | refine below_set ?_ GE148.out) | exact HB.out))) hk_), (Kd.freshB (g := gb113) (o := .cells #[.slice (some ad147) l0_0.length c0_0] 27 (0, 0)) (by (with_reducible repeat (first | refine blk_drewN ?_ _ | refine blk_drew ?_ | refine blk_alloc ?_ _)); refine blk_far ?_ NB113_148.out _; (with_reducible repeat (first | refine blk_drewN ?_ _ | refine blk_drew ?_ | refine blk_alloc ?_ _)); exact BK113.out) k_ hk_), (Kd.freshB (g := gb114) (o := .cells #[.int .i64 0, .int .i64 0, .int .i64 0, .bool false, .int .i64 0, .int .i64 0, .slice none 0 0, .slice none 0 0] 35 (0, 0)) (by (with_reducible repeat (first | refine blk_drewN ?_ _ | refine blk_drew ?_ | refine blk_alloc ?_ _)); refine blk_far ?_ NB114_148.out _; (with_reducible repeat (first | refine blk_drewN ?_ _ | refine blk_drew ?_ | refine blk_alloc ?_ _)); exact BK114.out) k_ hk_), (Kd.freshB (g := gb148) (o := .cells #[.string ((rd_T58 l0_0 (ji59)).f0), .int .i64 ((rd_T58 l0_0 (ji59)).f1), .bool false] 58 (0, 0)) (by (with_reducible repeat (first | refine blk_drewN ?_ _ | refine blk_drew ?_ | refine blk_alloc ?_ _)); refine blk_put (cs := #[.string ((rd_T58 l0_0 (ji59)).f0), .int .i64 ((rd_T58 l0_0 (ji59)).f1), .bool ((rd_T58 l0_0 (ji59)).f2)]) ?_ 2 _ rfl; (with_reducible repeat (first | refine blk_drewN ?_ _ | refine blk_drew ?_ | refine blk_alloc ?_ _)); exact BK148.out) k_ hk_)⟩)) (below_size (by repeat (first | (with_reducible first | exact HB.out | apply below_alloc | apply pw_below_drewN | apply below_drew1 | refine below_set ?_ GE113.out | refine below_set ?_ GE114.out | refine below_set ?_ GE148.out) | exact HB.out))))
                 replace BK113 := Aside0.mk (blk_below (g := gb113) (o := .cells #[.slice (some ad147) l0_0.length c0_0] 27 (0, 0)) (by (with_reducible repeat (first | refine blk_drewN ?_ _ | refine blk_drew ?_ | refine blk_alloc ?_ _)); refine blk_far ?_ NB113_148.out _; (with_reducible repeat (first | refine blk_drewN ?_ _ | refine blk_drew ?_ | refine blk_alloc ?_ _)); exact BK113.out) hb)
                 replace BK114 := Aside0.mk (blk_below (g := gb114) (o := .cells #[.int .i64 0, .int .i64 0, .int .i64 0, .bool false, .int .i64 0, .int .i64 0, .slice none 0 0, .slice none 0 0] 35 (0, 0)) (by (with_reducible repeat (first | refine blk_drewN ?_ _ | refine blk_drew ?_ | refine blk_alloc ?_ _)); refine blk_far ?_ NB114_148.out _; (with_reducible repeat (first | refine blk_drewN ?_ _ | refine blk_drew ?_ | refine blk_alloc ?_ _)); exact BK114.out) hb)
                 replace BK148 := Aside0.mk (blk_below (g := gb148) (o := .cells #[.string ((rd_T58 l0_0 (ji59)).f0), .int .i64 ((rd_T58 l0_0 (ji59)).f1), .bool false] 58 (0, 0)) (by (with_reducible repeat (first | refine blk_drewN ?_ _ | refine blk_drew ?_ | refine blk_alloc ?_ _)); refine blk_put (cs := #[.string ((rd_T58 l0_0 (ji59)).f0), .int .i64 ((rd_T58 l0_0 (ji59)).f1), .bool ((rd_T58 l0_0 (ji59)).f2)]) ?_ 2 _ rfl; (with_reducible repeat (first | refine blk_drewN ?_ _ | refine blk_drew ?_ | refine blk_alloc ?_ _)); exact BK148.out) hb)
                 replace HB := Aside0.mk (below_step (by repeat (first | (with_reducible first | exact HB.out | apply below_alloc | apply pw_below_drewN | apply below_drew1 | refine below_set ?_ GE113.out | refine below_set ?_ GE114.out | refine below_set ?_ GE148.out) | exact HB.out)) hb)
                 (try clear hb)
                 (try clear hb2)
                 (try clear hk)
                 (try clear hi)
                 (try clear ho0)
                 clear BK113 BK148
                 obtain ⟨Aox, cox, eox⟩ := Kd.V_slice HO154.out
                 subst eox
                 have tok1 : True := trivial
                 have tok2 : True := trivial
                 go_wp2_with (first | ((with_reducible refine gate_dst (N := 15) rfl ?_); refine box_event ?hg (N := 15) ?hd (cs := #[.bool false, .int .i64 0, .int .i64 0, .slice none 0 0]) (t := 32) ?hr ?_; (case hd => rfl); (case hg => rfl); (case hr => first | (go_simp; done) | (go_simp; rfl)); intro gbv hg wv hbox hb; have n0_ := Aside0.mk (Kd.V_below (Kd.V_elderB HO154.out gbv (Nat.le_of_eq hg.symm)) hb); have n1_ := Aside0.mk (blk_below BK114.out hb); have n2_ := Aside0.mk (below_step HB.out hb); have n3_ := Aside0.mk hbox; have n4_ := Aside0.mk ((by rw [hg]; exact below_size HB.out) : w.heap.size ≤ gbv); have n5_ := Aside0.mk ((by rw [hg]; exact Nat.ne_of_lt (blk_lt BK114.out)) : gb114 ≠ gbv); have n6_ := Aside0.mk ((by rw [hg]; exact Nat.ne_of_gt (blk_lt BK114.out)) : gbv ≠ gb114); clear HO154 BK114 HB hb hbox hg; have HO154 := n0_; have BK114 := n1_; have HB := n2_; have BKv := n3_; have GEv := n4_; have NBpv := n5_; have NBvp := n6_; clear n0_ n1_ n2_ n3_ n4_ n5_ n6_; have hnpv := NBpv.out; have hnvp := NBvp.out; obtain ⟨hvz0, hv0⟩ : ∃ z_ : Value, wv.cell? ⟨gbv, 0, none⟩ = some z_ := ⟨_, (blk_cell BKv.out 0).trans rfl⟩; have hvf0 := blk_frozen BKv.out 0; obtain ⟨hvz1, hv1⟩ : ∃ z_ : Value, wv.cell? ⟨gbv, 1, none⟩ = some z_ := ⟨_, (blk_cell BKv.out 1).trans rfl⟩; have hvf1 := blk_frozen BKv.out 1; obtain ⟨hvz2, hv2⟩ : ∃ z_ : Value, wv.cell? ⟨gbv, 2, none⟩ = some z_ := ⟨_, (blk_cell BKv.out 2).trans rfl⟩; have hvf2 := blk_frozen BKv.out 2; obtain ⟨hvz3, hv3⟩ : ∃ z_ : Value, wv.cell? ⟨gbv, 3, none⟩ = some z_ := ⟨_, (blk_cell BKv.out 3).trans rfl⟩; have hvf3 := blk_frozen BKv.out 3; obtain ⟨hpz0, hp0⟩ : ∃ z_ : Value, wv.cell? ⟨gb114, 0, none⟩ = some z_ := ⟨_, (blk_cell BK114.out 0).trans rfl⟩; have hpf0 := blk_frozen BK114.out 0; obtain ⟨hpz1, hp1⟩ : ∃ z_ : Value, wv.cell? ⟨gb114, 1, none⟩ = some z_ := ⟨_, (blk_cell BK114.out 1).trans rfl⟩; have hpf1 := blk_frozen BK114.out 1; obtain ⟨hpz2, hp2⟩ : ∃ z_ : Value, wv.cell? ⟨gb114, 2, none⟩ = some z_ := ⟨_, (blk_cell BK114.out 2).trans rfl⟩; have hpf2 := blk_frozen BK114.out 2; obtain ⟨hpz3, hp3⟩ : ∃ z_ : Value, wv.cell? ⟨gb114, 3, none⟩ = some z_ := ⟨_, (blk_cell BK114.out 3).trans rfl⟩; have hpf3 := blk_frozen BK114.out 3; obtain ⟨hpz4, hp4⟩ : ∃ z_ : Value, wv.cell? ⟨gb114, 4, none⟩ = some z_ := ⟨_, (blk_cell BK114.out 4).trans rfl⟩; have hpf4 := blk_frozen BK114.out 4; obtain ⟨hpz5, hp5⟩ : ∃ z_ : Value, wv.cell? ⟨gb114, 5, none⟩ = some z_ := ⟨_, (blk_cell BK114.out 5).trans rfl⟩; have hpf5 := blk_frozen BK114.out 5; obtain ⟨hpz6, hp6⟩ : ∃ z_ : Value, wv.cell? ⟨gb114, 6, none⟩ = some z_ := ⟨_, (blk_cell BK114.out 6).trans rfl⟩; have hpf6 := blk_frozen BK114.out 6; obtain ⟨hpz7, hp7⟩ : ∃ z_ : Value, wv.cell? ⟨gb114, 7, none⟩ = some z_ := ⟨_, (blk_cell BK114.out 7).trans rfl⟩; have hpf7 := blk_frozen BK114.out 7) | ((with_reducible refine gate_store (t := 32) (p := 15) rfl ?_); have _t := tok1; refine store_event (t := 32) (p := 15) (v := ?votok1) (w1 := ((((wv.setCell ⟨gbv, 0, none⟩ (.bool t149)).setCell ⟨gbv, 1, none⟩ (.int .i64 t150)).setCell ⟨gbv, 2, none⟩ (.int .i64 t151)).setCell ⟨gbv, 3, none⟩ (.slice Aox t152.length cox))) ?hg ?ho ?hn ?hr ?_; (case ho => rfl); (case hg => rfl); (case hn => rfl); (case hr => first | (go_simp; done) | (go_simp; rfl)); intro wa hw; have n0_ := Aside0.mk (show Kd.V (Kd.int .u8) 5 wa w.heap.size (fun k_ => ((w.heap.size ≤ k_) ∧ k_ ≠ gb113 ∧ k_ ≠ gb114 ∧ k_ ≠ gb148) ∧ k_ ≠ gbv) (.slice Aox t152.length cox) t152 from by rw [hw]; exact Kd.V_far (p := ⟨gbv, 3, none⟩) (Kd.V_far (p := ⟨gbv, 2, none⟩) (Kd.V_far (p := ⟨gbv, 1, none⟩) (Kd.V_far (p := ⟨gbv, 0, none⟩) (HO154.out) (fun _ hk => hk.2) (.bool t149)) (fun _ hk => hk.2) (.int .i64 t150)) (fun _ hk => hk.2) (.int .i64 t151)) (fun _ hk => hk.2) (.slice Aox t152.length cox)); have n1_ := Aside0.mk (show wa.heap[gb114]? = some (.cells #[.int .i64 0, .int .i64 0, .int .i64 0, .bool false, .int .i64 0, .int .i64 0, .slice none 0 0, .slice none 0 0] 35 (0, 0)) from by rw [hw]; exact blk_far (blk_far (blk_far (blk_far (BK114.out) NBpv.out _) NBpv.out _) NBpv.out _) NBpv.out _); have n2_ := Aside0.mk (show Below w.heap.size w wa from by rw [hw]; exact below_set (below_set (below_set (below_set (HB.out) GEv.out) GEv.out) GEv.out) GEv.out); have n3_ := Aside0.mk (show wa.heap[gbv]? = some (.cells #[.bool t149, .int .i64 t150, .int .i64 t151, .slice Aox t152.length cox] 32 (0, 0)) from by rw [hw]; exact blk_put (cs := #[.bool t149, .int .i64 t150, .int .i64 t151, .slice none 0 0]) (blk_put (cs := #[.bool t149, .int .i64 t150, .int .i64 0, .slice none 0 0]) (blk_put (cs := #[.bool t149, .int .i64 0, .int .i64 0, .slice none 0 0]) (blk_put (cs := #[.bool false, .int .i64 0, .int .i64 0, .slice none 0 0]) (BKv.out) 0 _ rfl) 1 _ rfl) 2 _ rfl) 3 _ rfl); clear hw HO154 BK114 HB BKv tok1 _t; clear hv0 hvf0 hv1 hvf1 hv2 hvf2 hv3 hvf3; have HO154 := n0_; have BK114 := n1_; have HB := n2_; have BKv := n3_; clear n0_ n1_ n2_ n3_; have hv0 : wa.cell? ⟨gbv, 0, none⟩ = some (.bool t149) := (blk_cell BKv.out 0).trans rfl; have hvf0 := blk_frozen BKv.out 0; have hv1 : wa.cell? ⟨gbv, 1, none⟩ = some (.int .i64 t150) := (blk_cell BKv.out 1).trans rfl; have hvf1 := blk_frozen BKv.out 1; have hv2 : wa.cell? ⟨gbv, 2, none⟩ = some (.int .i64 t151) := (blk_cell BKv.out 2).trans rfl; have hvf2 := blk_frozen BKv.out 2; have hv3 : wa.cell? ⟨gbv, 3, none⟩ = some (.slice Aox t152.length cox) := (blk_cell BKv.out 3).trans rfl; have hvf3 := blk_frozen BKv.out 3; clear hp0 hpf0 hp1 hpf1 hp2 hpf2 hp3 hpf3 hp4 hpf4 hp5 hpf5 hp6 hpf6 hp7 hpf7; obtain ⟨hpz0, hp0⟩ : ∃ z_ : Value, wa.cell? ⟨gb114, 0, none⟩ = some z_ := ⟨_, (blk_cell BK114.out 0).trans rfl⟩; have hpf0 := blk_frozen BK114.out 0; obtain ⟨hpz1, hp1⟩ : ∃ z_ : Value, wa.cell? ⟨gb114, 1, none⟩ = some z_ := ⟨_, (blk_cell BK114.out 1).trans rfl⟩; have hpf1 := blk_frozen BK114.out 1; obtain ⟨hpz2, hp2⟩ : ∃ z_ : Value, wa.cell? ⟨gb114, 2, none⟩ = some z_ := ⟨_, (blk_cell BK114.out 2).trans rfl⟩; have hpf2 := blk_frozen BK114.out 2; obtain ⟨hpz3, hp3⟩ : ∃ z_ : Value, wa.cell? ⟨gb114, 3, none⟩ = some z_ := ⟨_, (blk_cell BK114.out 3).trans rfl⟩; have hpf3 := blk_frozen BK114.out 3; obtain ⟨hpz4, hp4⟩ : ∃ z_ : Value, wa.cell? ⟨gb114, 4, none⟩ = some z_ := ⟨_, (blk_cell BK114.out 4).trans rfl⟩; have hpf4 := blk_frozen BK114.out 4; obtain ⟨hpz5, hp5⟩ : ∃ z_ : Value, wa.cell? ⟨gb114, 5, none⟩ = some z_ := ⟨_, (blk_cell BK114.out 5).trans rfl⟩; have hpf5 := blk_frozen BK114.out 5; obtain ⟨hpz6, hp6⟩ : ∃ z_ : Value, wa.cell? ⟨gb114, 6, none⟩ = some z_ := ⟨_, (blk_cell BK114.out 6).trans rfl⟩; have hpf6 := blk_frozen BK114.out 6; obtain ⟨hpz7, hp7⟩ : ∃ z_ : Value, wa.cell? ⟨gb114, 7, none⟩ = some z_ := ⟨_, (blk_cell BK114.out 7).trans rfl⟩; have hpf7 := blk_frozen BK114.out 7) | ((with_reducible refine gate_store (t := 32) (p := 15) rfl ?_); have _t := tok2; refine store_event (t := 32) (p := 15) (v := ?votok2) (w1 := ((((wa.setCell ⟨gbv, 0, none⟩ (.bool false)).setCell ⟨gbv, 1, none⟩ (.int .i64 1)).setCell ⟨gbv, 2, none⟩ (.int .i64 (Go.bits .and .i64 (x9_4 / 2048) 15))).setCell ⟨gbv, 3, none⟩ (.slice none 0 0))) ?hg ?ho ?hn ?hr ?_; (case ho => rfl); (case hg => rfl); (case hn => rfl); (case hr => first | (go_simp; done) | (go_simp; rfl)); intro wb hw; have n0_ := Aside0.mk (show Kd.V (Kd.int .u8) 5 wb w.heap.size (fun k_ => ((w.heap.size ≤ k_) ∧ k_ ≠ gb113 ∧ k_ ≠ gb114 ∧ k_ ≠ gb148) ∧ k_ ≠ gbv) (.slice Aox t152.length cox) t152 from by rw [hw]; exact Kd.V_far (p := ⟨gbv, 3, none⟩) (Kd.V_far (p := ⟨gbv, 2, none⟩) (Kd.V_far (p := ⟨gbv, 1, none⟩) (Kd.V_far (p := ⟨gbv, 0, none⟩) (HO154.out) (fun _ hk => hk.2) (.bool false)) (fun _ hk => hk.2) (.int .i64 1)) (fun _ hk => hk.2) (.int .i64 (Go.bits .and .i64 (x9_4 / 2048) 15))) (fun _ hk => hk.2) (.slice none 0 0)); have n1_ := Aside0.mk (show wb.heap[gb114]? = some (.cells #[.int .i64 0, .int .i64 0, .int .i64 0, .bool false, .int .i64 0, .int .i64 0, .slice none 0 0, .slice none 0 0] 35 (0, 0)) from by rw [hw]; exact blk_far (blk_far (blk_far (blk_far (BK114.out) NBpv.out _) NBpv.out _) NBpv.out _) NBpv.out _); have n2_ := Aside0.mk (show Below w.heap.size w wb from by rw [hw]; exact below_set (below_set (below_set (below_set (HB.out) GEv.out) GEv.out) GEv.out) GEv.out); have n3_ := Aside0.mk (show wb.heap[gbv]? = some (.cells #[.bool false, .int .i64 1, .int .i64 (Go.bits .and .i64 (x9_4 / 2048) 15), .slice none 0 0] 32 (0, 0)) from by rw [hw]; exact blk_put (cs := #[.bool false, .int .i64 1, .int .i64 (Go.bits .and .i64 (x9_4 / 2048) 15), .slice Aox t152.length cox]) (blk_put (cs := #[.bool false, .int .i64 1, .int .i64 t151, .slice Aox t152.length cox]) (blk_put (cs := #[.bool false, .int .i64 t150, .int .i64 t151, .slice Aox t152.length cox]) (blk_put (cs := #[.bool t149, .int .i64 t150, .int .i64 t151, .slice Aox t152.length cox]) (BKv.out) 0 _ rfl) 1 _ rfl) 2 _ rfl) 3 _ rfl); clear hw HO154 BK114 HB BKv tok2 _t; clear hv0 hvf0 hv1 hvf1 hv2 hvf2 hv3 hvf3; have HO154 := n0_; have BK114 := n1_; have HB := n2_; have BKv := n3_; clear n0_ n1_ n2_ n3_; have hv0 : wb.cell? ⟨gbv, 0, none⟩ = some (.bool false) := (blk_cell BKv.out 0).trans rfl; have hvf0 := blk_frozen BKv.out 0; have hv1 : wb.cell? ⟨gbv, 1, none⟩ = some (.int .i64 1) := (blk_cell BKv.out 1).trans rfl; have hvf1 := blk_frozen BKv.out 1; have hv2 : wb.cell? ⟨gbv, 2, none⟩ = some (.int .i64 (Go.bits .and .i64 (x9_4 / 2048) 15)) := (blk_cell BKv.out 2).trans rfl; have hvf2 := blk_frozen BKv.out 2; have hv3 : wb.cell? ⟨gbv, 3, none⟩ = some (.slice none 0 0) := (blk_cell BKv.out 3).trans rfl; have hvf3 := blk_frozen BKv.out 3; clear hp0 hpf0 hp1 hpf1 hp2 hpf2 hp3 hpf3 hp4 hpf4 hp5 hpf5 hp6 hpf6 hp7 hpf7; obtain ⟨hpz0, hp0⟩ : ∃ z_ : Value, wb.cell? ⟨gb114, 0, none⟩ = some z_ := ⟨_, (blk_cell BK114.out 0).trans rfl⟩; have hpf0 := blk_frozen BK114.out 0; obtain ⟨hpz1, hp1⟩ : ∃ z_ : Value, wb.cell? ⟨gb114, 1, none⟩ = some z_ := ⟨_, (blk_cell BK114.out 1).trans rfl⟩; have hpf1 := blk_frozen BK114.out 1; obtain ⟨hpz2, hp2⟩ : ∃ z_ : Value, wb.cell? ⟨gb114, 2, none⟩ = some z_ := ⟨_, (blk_cell BK114.out 2).trans rfl⟩; have hpf2 := blk_frozen BK114.out 2; obtain ⟨hpz3, hp3⟩ : ∃ z_ : Value, wb.cell? ⟨gb114, 3, none⟩ = some z_ := ⟨_, (blk_cell BK114.out 3).trans rfl⟩; have hpf3 := blk_frozen BK114.out 3; obtain ⟨hpz4, hp4⟩ : ∃ z_ : Value, wb.cell? ⟨gb114, 4, none⟩ = some z_ := ⟨_, (blk_cell BK114.out 4).trans rfl⟩; have hpf4 := blk_frozen BK114.out 4; obtain ⟨hpz5, hp5⟩ : ∃ z_ : Value, wb.cell? ⟨gb114, 5, none⟩ = some z_ := ⟨_, (blk_cell BK114.out 5).trans rfl⟩; have hpf5 := blk_frozen BK114.out 5; obtain ⟨hpz6, hp6⟩ : ∃ z_ : Value, wb.cell? ⟨gb114, 6, none⟩ = some z_ := ⟨_, (blk_cell BK114.out 6).trans rfl⟩; have hpf6 := blk_frozen BK114.out 6; obtain ⟨hpz7, hp7⟩ : ∃ z_ : Value, wb.cell? ⟨gb114, 7, none⟩ = some z_ := ⟨_, (blk_cell BK114.out 7).trans rfl⟩; have hpf7 := blk_frozen BK114.out 7))
                 refine bodyPost_ret (results_cell_row rfl _ _ gb114 35 #[.int .i64 2, .int .i64 (ji59), .int .i64 (wrap64 ((Int.tmod (Go.bits .and .i64 (x9_4 / 131072) 255) 6) + 1)), .bool false, .int .i64 1, .int .i64 (Go.bits .and .i64 (x9_4 / 2048) 15), .slice none 0 0, .slice none 0 0] (0, 0) _ rfl (by (with_reducible repeat (first | refine blk_drewN ?_ _ | refine blk_drew ?_ | refine blk_alloc ?_ _)); apply blk_all8; (with_reducible repeat (first | refine blk_drewN ?_ _ | refine blk_drew ?_ | refine blk_alloc ?_ _)); exact BK114.out) Try.underlying35 rfl (by kernel_rfl)) rfl ?_
                 exact ⟨_, _, by first | rfl | (simp [errW_none, errW_some] <;> rfl) | (simp only [← hji59]; first | rfl | (simp [errW_none, errW_some] <;> rfl)) | (simp [*, errW_none, errW_some] <;> rfl), Kd.V_nil _ _ _ _ _, by first | exact Kd.R_nil _ _ _ _ _ | exact Kd.N_nil _ _ _ _ _ | exact Kd.V_nil _ _ _ _ _ | exact Kd.Q_nil _ _ _ _ _ | exact Kd.S_nil _ _ _ _ _, by repeat (first | (with_reducible first | exact HB.out | apply below_alloc | apply pw_below_drewN | apply below_drew1 | refine below_set ?_ GE113.out | refine below_set ?_ GE114.out | refine below_set ?_ GEv.out) | exact HB.out)⟩
                ·
                 rw [if_neg c63] at H
                 have c63b0 : ((ji59) == 0) = false := beq_eq_false_iff_ne.mpr c63
                 have c63b1 : ((ji59) != 0) = true := bne_iff_ne.mpr c63
                 simp only [Option.some.injEq, Prod.mk.injEq] at H
                 obtain ⟨rfl, rfl, rfl, rfl, rfl, rfl, rfl, rfl⟩ := H
                 have hnb78 := NB113_114.out
                 have hnc78 := NB114_113.out
                 have hcz79_0 : wc.cell? ⟨gb113, 0, none⟩ = some (.slice A0_0 l0_0.length c0_0) := (blk_cell BK113.out 0).trans rfl
                 have hfz79_0 := blk_frozen BK113.out 0
                 have p147 : 0 ≤ ((ji59) : Int) := of_decide_eq_true (by first | (with_reducible assumption) | assumption)
                 have q147 : (ji59) < (l0_0.length : Int) := of_decide_eq_true (by first | (with_reducible assumption) | assumption)
                 obtain ⟨ad147, e147, hx147_0, hx147_1, hx147_2⟩ := at_T58 HR0_0.out (ji59) p147 q147
                 cases e147
                 replace hx147_0 := (HB.out.cell (World.block_lt_of_cell? w _ hx147_0)).trans hx147_0
                 replace hx147_1 := (HB.out.cell (World.block_lt_of_cell? w _ hx147_1)).trans hx147_1
                 replace hx147_2 := (HB.out.cell (World.block_lt_of_cell? w _ hx147_2)).trans hx147_2
                 replace p147 := eq_true p147
                 replace q147 := eq_true q147
                 go_wp2_with (first | ((with_reducible refine gate_dst (N := 14) rfl ?_); refine box_event ?hg (N := 14) ?hd (cs := #[.string (⟨#[]⟩ : ByteArray), .int .i64 0, .bool false]) (t := 58) ?hr ?_; (case hd => rfl); (case hg => rfl); (case hr => first | (go_simp; done) | (go_simp; rfl)); intro gb148 hg w80 hbox hb; have n0_ := Aside0.mk (blk_below (g := gb113) (o := .cells #[.slice (some ad147) l0_0.length c0_0] 27 (0, 0)) (by (with_reducible repeat (first | refine blk_drewN ?_ _ | refine blk_drew ?_ | refine blk_alloc ?_ _)); exact BK113.out) hb); have n1_ := Aside0.mk (blk_below (g := gb114) (o := .cells #[.int .i64 0, .int .i64 0, .int .i64 0, .bool false, .int .i64 0, .int .i64 0, .slice none 0 0, .slice none 0 0] 35 (0, 0)) (by (with_reducible repeat (first | refine blk_drewN ?_ _ | refine blk_drew ?_ | refine blk_alloc ?_ _)); exact BK114.out) hb); have n2_ := Aside0.mk (below_step (by repeat (first | (with_reducible first | exact HB.out | apply below_alloc | apply pw_below_drewN | apply below_drew1 | refine below_set ?_ GE113.out | refine below_set ?_ GE114.out) | exact HB.out)) hb); have n3_ := Aside0.mk (hbox); have n4_ := Aside0.mk ((by rw [hg]; exact (below_size (by repeat (first | (with_reducible first | exact HB.out | apply below_alloc | apply pw_below_drewN | apply below_drew1 | refine below_set ?_ GE113.out | refine below_set ?_ GE114.out) | exact HB.out))) : w.heap.size ≤ gb148)); have n5_ := Aside0.mk ((by rw [hg]; exact (below_size (by repeat (first | (with_reducible first | exact HB.out | apply below_alloc | apply pw_below_drewN | apply below_drew1 | refine below_set ?_ GE113.out | refine below_set ?_ GE114.out) | exact HB.out))) : w.heap.size ≤ gb148)); have n6_ := Aside0.mk ((by rw [hg]; exact Nat.ne_of_lt (blk_lt (g := gb113) (o := .cells #[.slice (some ad147) l0_0.length c0_0] 27 (0, 0)) (by (with_reducible repeat (first | refine blk_drewN ?_ _ | refine blk_drew ?_ | refine blk_alloc ?_ _)); exact BK113.out)) : gb113 ≠ gb148)); have n7_ := Aside0.mk ((by rw [hg]; exact Nat.ne_of_gt (blk_lt (g := gb113) (o := .cells #[.slice (some ad147) l0_0.length c0_0] 27 (0, 0)) (by (with_reducible repeat (first | refine blk_drewN ?_ _ | refine blk_drew ?_ | refine blk_alloc ?_ _)); exact BK113.out)) : gb148 ≠ gb113)); have n8_ := Aside0.mk ((by rw [hg]; exact Nat.ne_of_lt (blk_lt (g := gb114) (o := .cells #[.int .i64 0, .int .i64 0, .int .i64 0, .bool false, .int .i64 0, .int .i64 0, .slice none 0 0, .slice none 0 0] 35 (0, 0)) (by (with_reducible repeat (first | refine blk_drewN ?_ _ | refine blk_drew ?_ | refine blk_alloc ?_ _)); exact BK114.out)) : gb114 ≠ gb148)); have n9_ := Aside0.mk ((by rw [hg]; exact Nat.ne_of_gt (blk_lt (g := gb114) (o := .cells #[.int .i64 0, .int .i64 0, .int .i64 0, .bool false, .int .i64 0, .int .i64 0, .slice none 0 0, .slice none 0 0] 35 (0, 0)) (by (with_reducible repeat (first | refine blk_drewN ?_ _ | refine blk_drew ?_ | refine blk_alloc ?_ _)); exact BK114.out)) : gb148 ≠ gb114)); clear BK113; clear BK114; clear HB; have BK113 := n0_; have BK114 := n1_; have HB := n2_; have BK148 := n3_; have GW148 := n4_; have GE148 := n5_; have NB113_148 := n6_; have NB148_113 := n7_; have NB114_148 := n8_; have NB148_114 := n9_; clear n0_ n1_ n2_ n3_ n4_ n5_ n6_ n7_ n8_ n9_; clear hb hbox hg; have hnb81 := NB148_113.out; have hnc81 := NB113_148.out; have hnb82 := NB148_114.out; have hnc82 := NB114_148.out; obtain ⟨vz_, hcz83_0⟩ : ∃ vz_ : Value, w80.cell? ⟨gb148, 0, none⟩ = some vz_ := ⟨_, (blk_cell BK148.out 0).trans rfl⟩; have hcz83_1 : w80.cell? ⟨gb148, 1, none⟩ = some (.int .i64 0) := (blk_cell BK148.out 1).trans rfl; have hcz83_2 : w80.cell? ⟨gb148, 2, none⟩ = some (.bool false) := (blk_cell BK148.out 2).trans rfl; have hfz83_0 := blk_frozen BK148.out 0; have hfz83_1 := blk_frozen BK148.out 1; have hfz83_2 := blk_frozen BK148.out 2) | ((with_reducible refine gate_store (t := 58) (p := 14) rfl ?_); refine store_event (t := 58) (p := 14) (v := ?voS) (w1 := (((w80.setCell ⟨gb148, 0, none⟩ (.string ((rd_T58 l0_0 (ji59)).f0))).setCell ⟨gb148, 1, none⟩ (.int .i64 ((rd_T58 l0_0 (ji59)).f1))).setCell ⟨gb148, 2, none⟩ (.bool ((rd_T58 l0_0 (ji59)).f2)))) ?hg ?ho ?hn ?hr ?_; (case ho => rfl); (case hg => rfl); (case hn => rfl); (case hr => first | (go_simp; done) | (go_simp; rfl)); intro w80s hw; have n0_ := Aside0.mk (show w80s.heap[gb113]? = some (.cells #[.slice (some ad147) l0_0.length c0_0] 27 (0, 0)) from by rw [hw]; exact blk_far (blk_far (blk_far BK113.out NB113_148.out _) NB113_148.out _) NB113_148.out _); have n1_ := Aside0.mk (show w80s.heap[gb114]? = some (.cells #[.int .i64 0, .int .i64 0, .int .i64 0, .bool false, .int .i64 0, .int .i64 0, .slice none 0 0, .slice none 0 0] 35 (0, 0)) from by rw [hw]; exact blk_far (blk_far (blk_far BK114.out NB114_148.out _) NB114_148.out _) NB114_148.out _); have n2_ := Aside0.mk (show Below w.heap.size w w80s from by rw [hw]; exact below_set (below_set (below_set HB.out GE148.out) GE148.out) GE148.out); have n3_ := Aside0.mk (show w80s.heap[gb148]? = some (.cells #[.string ((rd_T58 l0_0 (ji59)).f0), .int .i64 ((rd_T58 l0_0 (ji59)).f1), .bool ((rd_T58 l0_0 (ji59)).f2)] 58 (0, 0)) from by rw [hw]; exact blk_put (cs := #[.string ((rd_T58 l0_0 (ji59)).f0), .int .i64 ((rd_T58 l0_0 (ji59)).f1), .bool false]) (blk_put (cs := #[.string ((rd_T58 l0_0 (ji59)).f0), .int .i64 0, .bool false]) (blk_put (cs := #[.string (⟨#[]⟩ : ByteArray), .int .i64 0, .bool false]) BK148.out 0 _ rfl) 1 _ rfl) 2 _ rfl); clear hw; clear BK113; clear BK114; clear HB; clear BK148; clear hcz83_0; clear hcz83_1; clear hcz83_2; clear hfz83_0; clear hfz83_1; clear hfz83_2; have BK113 := n0_; have BK114 := n1_; have HB := n2_; have BK148 := n3_; clear n0_ n1_ n2_ n3_; have hcz83_0 : w80s.cell? ⟨gb148, 0, none⟩ = some (.string ((rd_T58 l0_0 (ji59)).f0)) := (blk_cell BK148.out 0).trans rfl; have hcz83_1 : w80s.cell? ⟨gb148, 1, none⟩ = some (.int .i64 ((rd_T58 l0_0 (ji59)).f1)) := (blk_cell BK148.out 1).trans rfl; have hcz83_2 : w80s.cell? ⟨gb148, 2, none⟩ = some (.bool ((rd_T58 l0_0 (ji59)).f2)) := (blk_cell BK148.out 2).trans rfl; have hfz83_0 := blk_frozen BK148.out 0; have hfz83_1 := blk_frozen BK148.out 1; have hfz83_2 := blk_frozen BK148.out 2))
                 (with_reducible refine (colonnadelaw6_Value.calls ((rd_T58 l0_0 (ji59)).f0) ((rd_T58 l0_0 (ji59)).f1) false (x9_4 / 2048) t149 t150 t151 t152 _ A62.out).mono ?_)
                 rintro e w84 ⟨v153, rfl, ho0, hb⟩
                 have HO154 := Aside0.mk (Kd.V_lower (Kd.V_mono (ok' := fun k_ => (w.heap.size ≤ k_) ∧ k_ ≠ gb113 ∧ k_ ≠ gb114 ∧ k_ ≠ gb148) ho0 (fun k_ hk_ => ⟨(Nat.le_trans (below_size (by repeat (first | (with_reducible first | exact HB.out | apply below_alloc | apply pw_below_drewN | apply below_drew1 | refine below_set ?_ GE113.out | refine below_set ?_ GE114.out | refine below_set ?_ GE148.out) | exact HB.out))) hk_), (Kd.freshB (g := gb113) (o := .cells #[.slice (some ad147) l0_0.length c0_0] 27 (0, 0)) (by (with_reducible repeat (first | refine blk_drewN ?_ _ | refine blk_drew ?_ | refine blk_alloc ?_ _)); refine blk_far ?_ NB113_148.out _; (with_reducible repeat (first | refine blk_drewN ?_ _ | refine blk_drew ?_ | refine blk_alloc ?_ _)); exact BK113.out) k_ hk_), (Kd.freshB (g := gb114) (o := .cells #[.int .i64 0, .int .i64 0, .int .i64 0, .bool false, .int .i64 0, .int .i64 0, .slice none 0 0, .slice none 0 0] 35 (0, 0)) (by (with_reducible repeat (first | refine blk_drewN ?_ _ | refine blk_drew ?_ | refine blk_alloc ?_ _)); refine blk_far ?_ NB114_148.out _; (with_reducible repeat (first | refine blk_drewN ?_ _ | refine blk_drew ?_ | refine blk_alloc ?_ _)); exact BK114.out) k_ hk_), (Kd.freshB (g := gb148) (o := .cells #[.string ((rd_T58 l0_0 (ji59)).f0), .int .i64 ((rd_T58 l0_0 (ji59)).f1), .bool false] 58 (0, 0)) (by (with_reducible repeat (first | refine blk_drewN ?_ _ | refine blk_drew ?_ | refine blk_alloc ?_ _)); refine blk_put (cs := #[.string ((rd_T58 l0_0 (ji59)).f0), .int .i64 ((rd_T58 l0_0 (ji59)).f1), .bool ((rd_T58 l0_0 (ji59)).f2)]) ?_ 2 _ rfl; (with_reducible repeat (first | refine blk_drewN ?_ _ | refine blk_drew ?_ | refine blk_alloc ?_ _)); exact BK148.out) k_ hk_)⟩)) (below_size (by repeat (first | (with_reducible first | exact HB.out | apply below_alloc | apply pw_below_drewN | apply below_drew1 | refine below_set ?_ GE113.out | refine below_set ?_ GE114.out | refine below_set ?_ GE148.out) | exact HB.out))))
                 replace BK113 := Aside0.mk (blk_below (g := gb113) (o := .cells #[.slice (some ad147) l0_0.length c0_0] 27 (0, 0)) (by (with_reducible repeat (first | refine blk_drewN ?_ _ | refine blk_drew ?_ | refine blk_alloc ?_ _)); refine blk_far ?_ NB113_148.out _; (with_reducible repeat (first | refine blk_drewN ?_ _ | refine blk_drew ?_ | refine blk_alloc ?_ _)); exact BK113.out) hb)
                 replace BK114 := Aside0.mk (blk_below (g := gb114) (o := .cells #[.int .i64 0, .int .i64 0, .int .i64 0, .bool false, .int .i64 0, .int .i64 0, .slice none 0 0, .slice none 0 0] 35 (0, 0)) (by (with_reducible repeat (first | refine blk_drewN ?_ _ | refine blk_drew ?_ | refine blk_alloc ?_ _)); refine blk_far ?_ NB114_148.out _; (with_reducible repeat (first | refine blk_drewN ?_ _ | refine blk_drew ?_ | refine blk_alloc ?_ _)); exact BK114.out) hb)
                 replace BK148 := Aside0.mk (blk_below (g := gb148) (o := .cells #[.string ((rd_T58 l0_0 (ji59)).f0), .int .i64 ((rd_T58 l0_0 (ji59)).f1), .bool false] 58 (0, 0)) (by (with_reducible repeat (first | refine blk_drewN ?_ _ | refine blk_drew ?_ | refine blk_alloc ?_ _)); refine blk_put (cs := #[.string ((rd_T58 l0_0 (ji59)).f0), .int .i64 ((rd_T58 l0_0 (ji59)).f1), .bool ((rd_T58 l0_0 (ji59)).f2)]) ?_ 2 _ rfl; (with_reducible repeat (first | refine blk_drewN ?_ _ | refine blk_drew ?_ | refine blk_alloc ?_ _)); exact BK148.out) hb)
                 replace HB := Aside0.mk (below_step (by repeat (first | (with_reducible first | exact HB.out | apply below_alloc | apply pw_below_drewN | apply below_drew1 | refine below_set ?_ GE113.out | refine below_set ?_ GE114.out | refine below_set ?_ GE148.out) | exact HB.out)) hb)
                 (try clear hb)
                 (try clear hb2)
                 (try clear hk)
                 (try clear hi)
                 (try clear ho0)
                 clear BK113 BK148
                 obtain ⟨Aox, cox, eox⟩ := Kd.V_slice HO154.out
                 subst eox
                 have tok1 : True := trivial
                 go_wp2_with (first | ((with_reducible refine gate_dst (N := 15) rfl ?_); refine box_event ?hg (N := 15) ?hd (cs := #[.bool false, .int .i64 0, .int .i64 0, .slice none 0 0]) (t := 32) ?hr ?_; (case hd => rfl); (case hg => rfl); (case hr => first | (go_simp; done) | (go_simp; rfl)); intro gbv hg wv hbox hb; have n0_ := Aside0.mk (Kd.V_below (Kd.V_elderB HO154.out gbv (Nat.le_of_eq hg.symm)) hb); have n1_ := Aside0.mk (blk_below BK114.out hb); have n2_ := Aside0.mk (below_step HB.out hb); have n3_ := Aside0.mk hbox; have n4_ := Aside0.mk ((by rw [hg]; exact below_size HB.out) : w.heap.size ≤ gbv); have n5_ := Aside0.mk ((by rw [hg]; exact Nat.ne_of_lt (blk_lt BK114.out)) : gb114 ≠ gbv); have n6_ := Aside0.mk ((by rw [hg]; exact Nat.ne_of_gt (blk_lt BK114.out)) : gbv ≠ gb114); clear HO154 BK114 HB hb hbox hg; have HO154 := n0_; have BK114 := n1_; have HB := n2_; have BKv := n3_; have GEv := n4_; have NBpv := n5_; have NBvp := n6_; clear n0_ n1_ n2_ n3_ n4_ n5_ n6_; have hnpv := NBpv.out; have hnvp := NBvp.out; obtain ⟨hvz0, hv0⟩ : ∃ z_ : Value, wv.cell? ⟨gbv, 0, none⟩ = some z_ := ⟨_, (blk_cell BKv.out 0).trans rfl⟩; have hvf0 := blk_frozen BKv.out 0; obtain ⟨hvz1, hv1⟩ : ∃ z_ : Value, wv.cell? ⟨gbv, 1, none⟩ = some z_ := ⟨_, (blk_cell BKv.out 1).trans rfl⟩; have hvf1 := blk_frozen BKv.out 1; obtain ⟨hvz2, hv2⟩ : ∃ z_ : Value, wv.cell? ⟨gbv, 2, none⟩ = some z_ := ⟨_, (blk_cell BKv.out 2).trans rfl⟩; have hvf2 := blk_frozen BKv.out 2; obtain ⟨hvz3, hv3⟩ : ∃ z_ : Value, wv.cell? ⟨gbv, 3, none⟩ = some z_ := ⟨_, (blk_cell BKv.out 3).trans rfl⟩; have hvf3 := blk_frozen BKv.out 3; obtain ⟨hpz0, hp0⟩ : ∃ z_ : Value, wv.cell? ⟨gb114, 0, none⟩ = some z_ := ⟨_, (blk_cell BK114.out 0).trans rfl⟩; have hpf0 := blk_frozen BK114.out 0; obtain ⟨hpz1, hp1⟩ : ∃ z_ : Value, wv.cell? ⟨gb114, 1, none⟩ = some z_ := ⟨_, (blk_cell BK114.out 1).trans rfl⟩; have hpf1 := blk_frozen BK114.out 1; obtain ⟨hpz2, hp2⟩ : ∃ z_ : Value, wv.cell? ⟨gb114, 2, none⟩ = some z_ := ⟨_, (blk_cell BK114.out 2).trans rfl⟩; have hpf2 := blk_frozen BK114.out 2; obtain ⟨hpz3, hp3⟩ : ∃ z_ : Value, wv.cell? ⟨gb114, 3, none⟩ = some z_ := ⟨_, (blk_cell BK114.out 3).trans rfl⟩; have hpf3 := blk_frozen BK114.out 3; obtain ⟨hpz4, hp4⟩ : ∃ z_ : Value, wv.cell? ⟨gb114, 4, none⟩ = some z_ := ⟨_, (blk_cell BK114.out 4).trans rfl⟩; have hpf4 := blk_frozen BK114.out 4; obtain ⟨hpz5, hp5⟩ : ∃ z_ : Value, wv.cell? ⟨gb114, 5, none⟩ = some z_ := ⟨_, (blk_cell BK114.out 5).trans rfl⟩; have hpf5 := blk_frozen BK114.out 5; obtain ⟨hpz6, hp6⟩ : ∃ z_ : Value, wv.cell? ⟨gb114, 6, none⟩ = some z_ := ⟨_, (blk_cell BK114.out 6).trans rfl⟩; have hpf6 := blk_frozen BK114.out 6; obtain ⟨hpz7, hp7⟩ : ∃ z_ : Value, wv.cell? ⟨gb114, 7, none⟩ = some z_ := ⟨_, (blk_cell BK114.out 7).trans rfl⟩; have hpf7 := blk_frozen BK114.out 7) | ((with_reducible refine gate_store (t := 32) (p := 15) rfl ?_); have _t := tok1; refine store_event (t := 32) (p := 15) (v := ?votok1) (w1 := ((((wv.setCell ⟨gbv, 0, none⟩ (.bool t149)).setCell ⟨gbv, 1, none⟩ (.int .i64 t150)).setCell ⟨gbv, 2, none⟩ (.int .i64 t151)).setCell ⟨gbv, 3, none⟩ (.slice Aox t152.length cox))) ?hg ?ho ?hn ?hr ?_; (case ho => rfl); (case hg => rfl); (case hn => rfl); (case hr => first | (go_simp; done) | (go_simp; rfl)); intro wa hw; have n0_ := Aside0.mk (show Kd.V (Kd.int .u8) 5 wa w.heap.size (fun k_ => ((w.heap.size ≤ k_) ∧ k_ ≠ gb113 ∧ k_ ≠ gb114 ∧ k_ ≠ gb148) ∧ k_ ≠ gbv) (.slice Aox t152.length cox) t152 from by rw [hw]; exact Kd.V_far (p := ⟨gbv, 3, none⟩) (Kd.V_far (p := ⟨gbv, 2, none⟩) (Kd.V_far (p := ⟨gbv, 1, none⟩) (Kd.V_far (p := ⟨gbv, 0, none⟩) (HO154.out) (fun _ hk => hk.2) (.bool t149)) (fun _ hk => hk.2) (.int .i64 t150)) (fun _ hk => hk.2) (.int .i64 t151)) (fun _ hk => hk.2) (.slice Aox t152.length cox)); have n1_ := Aside0.mk (show wa.heap[gb114]? = some (.cells #[.int .i64 0, .int .i64 0, .int .i64 0, .bool false, .int .i64 0, .int .i64 0, .slice none 0 0, .slice none 0 0] 35 (0, 0)) from by rw [hw]; exact blk_far (blk_far (blk_far (blk_far (BK114.out) NBpv.out _) NBpv.out _) NBpv.out _) NBpv.out _); have n2_ := Aside0.mk (show Below w.heap.size w wa from by rw [hw]; exact below_set (below_set (below_set (below_set (HB.out) GEv.out) GEv.out) GEv.out) GEv.out); have n3_ := Aside0.mk (show wa.heap[gbv]? = some (.cells #[.bool t149, .int .i64 t150, .int .i64 t151, .slice Aox t152.length cox] 32 (0, 0)) from by rw [hw]; exact blk_put (cs := #[.bool t149, .int .i64 t150, .int .i64 t151, .slice none 0 0]) (blk_put (cs := #[.bool t149, .int .i64 t150, .int .i64 0, .slice none 0 0]) (blk_put (cs := #[.bool t149, .int .i64 0, .int .i64 0, .slice none 0 0]) (blk_put (cs := #[.bool false, .int .i64 0, .int .i64 0, .slice none 0 0]) (BKv.out) 0 _ rfl) 1 _ rfl) 2 _ rfl) 3 _ rfl); clear hw HO154 BK114 HB BKv tok1 _t; clear hv0 hvf0 hv1 hvf1 hv2 hvf2 hv3 hvf3; have HO154 := n0_; have BK114 := n1_; have HB := n2_; have BKv := n3_; clear n0_ n1_ n2_ n3_; have hv0 : wa.cell? ⟨gbv, 0, none⟩ = some (.bool t149) := (blk_cell BKv.out 0).trans rfl; have hvf0 := blk_frozen BKv.out 0; have hv1 : wa.cell? ⟨gbv, 1, none⟩ = some (.int .i64 t150) := (blk_cell BKv.out 1).trans rfl; have hvf1 := blk_frozen BKv.out 1; have hv2 : wa.cell? ⟨gbv, 2, none⟩ = some (.int .i64 t151) := (blk_cell BKv.out 2).trans rfl; have hvf2 := blk_frozen BKv.out 2; have hv3 : wa.cell? ⟨gbv, 3, none⟩ = some (.slice Aox t152.length cox) := (blk_cell BKv.out 3).trans rfl; have hvf3 := blk_frozen BKv.out 3; clear hp0 hpf0 hp1 hpf1 hp2 hpf2 hp3 hpf3 hp4 hpf4 hp5 hpf5 hp6 hpf6 hp7 hpf7; obtain ⟨hpz0, hp0⟩ : ∃ z_ : Value, wa.cell? ⟨gb114, 0, none⟩ = some z_ := ⟨_, (blk_cell BK114.out 0).trans rfl⟩; have hpf0 := blk_frozen BK114.out 0; obtain ⟨hpz1, hp1⟩ : ∃ z_ : Value, wa.cell? ⟨gb114, 1, none⟩ = some z_ := ⟨_, (blk_cell BK114.out 1).trans rfl⟩; have hpf1 := blk_frozen BK114.out 1; obtain ⟨hpz2, hp2⟩ : ∃ z_ : Value, wa.cell? ⟨gb114, 2, none⟩ = some z_ := ⟨_, (blk_cell BK114.out 2).trans rfl⟩; have hpf2 := blk_frozen BK114.out 2; obtain ⟨hpz3, hp3⟩ : ∃ z_ : Value, wa.cell? ⟨gb114, 3, none⟩ = some z_ := ⟨_, (blk_cell BK114.out 3).trans rfl⟩; have hpf3 := blk_frozen BK114.out 3; obtain ⟨hpz4, hp4⟩ : ∃ z_ : Value, wa.cell? ⟨gb114, 4, none⟩ = some z_ := ⟨_, (blk_cell BK114.out 4).trans rfl⟩; have hpf4 := blk_frozen BK114.out 4; obtain ⟨hpz5, hp5⟩ : ∃ z_ : Value, wa.cell? ⟨gb114, 5, none⟩ = some z_ := ⟨_, (blk_cell BK114.out 5).trans rfl⟩; have hpf5 := blk_frozen BK114.out 5; obtain ⟨hpz6, hp6⟩ : ∃ z_ : Value, wa.cell? ⟨gb114, 6, none⟩ = some z_ := ⟨_, (blk_cell BK114.out 6).trans rfl⟩; have hpf6 := blk_frozen BK114.out 6; obtain ⟨hpz7, hp7⟩ : ∃ z_ : Value, wa.cell? ⟨gb114, 7, none⟩ = some z_ := ⟨_, (blk_cell BK114.out 7).trans rfl⟩; have hpf7 := blk_frozen BK114.out 7))
                 refine bodyPost_ret (results_cell_row rfl _ _ gb114 35 #[.int .i64 2, .int .i64 (ji59), .int .i64 (wrap64 ((Int.tmod (Go.bits .and .i64 (x9_4 / 131072) 255) 6) + 1)), .bool t149, .int .i64 t150, .int .i64 t151, .slice Aox t152.length cox, .slice none 0 0] (0, 0) _ rfl (by (with_reducible repeat (first | refine blk_drewN ?_ _ | refine blk_drew ?_ | refine blk_alloc ?_ _)); apply blk_all8; (with_reducible repeat (first | refine blk_drewN ?_ _ | refine blk_drew ?_ | refine blk_alloc ?_ _)); exact BK114.out) Try.underlying35 rfl (by kernel_rfl)) rfl ?_
                 exact ⟨_, _, by first | rfl | (simp [errW_none, errW_some] <;> rfl) | (simp only [← hji59]; first | rfl | (simp [errW_none, errW_some] <;> rfl)) | (simp [*, errW_none, errW_some] <;> rfl), by (with_reducible repeat (first | apply Kd.V_alloc | apply Kd.V_drewN | apply Kd.V_drew)); exact Kd.V_mono (Kd.V_far (p := ⟨gb114, 7, none⟩) (Kd.V_far (p := ⟨gb114, 6, none⟩) (Kd.V_far (p := ⟨gb114, 5, none⟩) (Kd.V_far (p := ⟨gb114, 4, none⟩) (Kd.V_far (p := ⟨gb114, 3, none⟩) (Kd.V_far (p := ⟨gb114, 2, none⟩) (Kd.V_far (p := ⟨gb114, 1, none⟩) (Kd.V_far (p := ⟨gb114, 0, none⟩) (Kd.V_mono HO154.out (fun k_ hk => (⟨hk, hk.1.2.2.1⟩ : _ ∧ k_ ≠ gb114))) (fun _ hk => hk.2) (.int .i64 2)) (fun _ hk => hk.2) (.int .i64 (ji59))) (fun _ hk => hk.2) (.int .i64 (wrap64 ((Int.tmod (Go.bits .and .i64 (x9_4 / 131072) 255) 6) + 1)))) (fun _ hk => hk.2) (.bool t149)) (fun _ hk => hk.2) (.int .i64 t150)) (fun _ hk => hk.2) (.int .i64 t151)) (fun _ hk => hk.2) (.slice Aox t152.length cox)) (fun _ hk => hk.2) (.slice none 0 0)) (fun _ hk => ⟨hk.1.1.1, (by simp [Value.ownBlock])⟩), by first | exact Kd.R_nil _ _ _ _ _ | exact Kd.N_nil _ _ _ _ _ | exact Kd.V_nil _ _ _ _ _ | exact Kd.Q_nil _ _ _ _ _ | exact Kd.S_nil _ _ _ _ _, by repeat (first | (with_reducible first | exact HB.out | apply below_alloc | apply pw_below_drewN | apply below_drew1 | refine below_set ?_ GE113.out | refine below_set ?_ GE114.out | refine below_set ?_ GEv.out) | exact HB.out)⟩
               ·
                rw [if_neg c61] at H
                exact absurd H (by simp)
              ·
               rw [if_neg c60] at H
               exact absurd H (by simp)

end Go.Proofs.Ytlapahjdkikodaa.GPe
