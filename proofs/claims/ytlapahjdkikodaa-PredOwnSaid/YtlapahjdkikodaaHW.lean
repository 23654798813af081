-- Written by a program of this claim (wip/pe/genlaw.py) out of the translation.
import Derived.Test.YtlapahjdkikodaaGPex1
import Derived.Test.YtlapahjdkikodaaGPex2
import Derived.Test.YtlapahjdkikodaaGPex3
import Derived.Test.YtlapahjdkikodaaGPex4
import Derived.Test.YtlapahjdkikodaaHR
import Derived.Test.YtlapahjdkikodaaHP
import Derived.Test.YtlapahjdkikodaaGPex9
namespace Go.Proofs.Ytlapahjdkikodaa.GPe
open Go.RowKit Go.Proofs.YtlapahjdkikodaaW.PrintWords Go.Proofs.YtlapahjdkikodaaW.PrintLast Go.Proofs.YtlapahjdkikodaaW.PrintMore Go.Proofs.Ytlapahjdkikodaa.Cells Go.Proofs.Ytlapahjdkikodaa.Put
attribute [local go_sem] max2_int min2_int max_two min_two max_three min_three max_four min_four
set_option linter.unusedVariables false
set_option linter.unusedSimpArgs false
def FP (t : List Int) (u : List S35) (W : World) (lo hi : Nat) (x : Value × Value) : Prop := Kd.V (Kd.int .u8) 5 W 0 (fun k => lo ≤ k ∧ k < hi ∧ some k ≠ x.2.ownBlock) x.1 t ∧ Kd.N k35 35 W lo (fun k => lo ≤ k ∧ k < hi) x.2 u
theorem FP_stab (t : List Int) (u : List S35) : StabR (FP t u) := fun lo hi x w w' hh hb h =>
  ⟨Kd.V_step h.1 (fun k _ hl => hb.block k hl), Kd.N_step h.2 (fun k _ hl => hb.block k hl)⟩
def FQ (t : List Int) (u : List S35) (W : World) (lo hi : Nat) (x : Value × Value) : Prop := Kd.R (Kd.int .u8) 5 W lo (fun k => lo ≤ k ∧ k < hi) x.1 t ∧ NC W lo (fun k => lo ≤ k ∧ k < hi ∧ some k ≠ x.1.ownBlock) x.2 u
theorem FQ_stab (t : List Int) (u : List S35) : StabR (FQ t u) := fun lo hi x w w' hh hb h =>
  ⟨Kd.R_step h.1 (fun k _ hl => hb.block k hl), NC_below h.2 hb⟩
theorem NC_bound {w : World} {base : Nat} {ok : Nat → Prop} {v : Value} {xs : List S35} (h : NC w base ok v xs) : NC w base (fun k => ok k ∧ k < w.heap.size) v xs := by
  obtain ⟨A, c, c', e, hl, h⟩ := h
  exact ⟨A, c, c', e, hl, Kd.N_bound h⟩
theorem NC_own {w : World} {base : Nat} {ok : Nat → Prop} {v : Value} {xs : List S35} (h : NC w base ok v xs) : ∀ k, v.ownBlock = some k → ok k := by
  obtain ⟨A, c, c', rfl, hl, h⟩ := h
  intro k hk
  exact h.1 k (by cases A with
    | none => simp [Value.ownBlock] at hk
    | some a => simpa [Value.ownBlock] using hk)
theorem held64 {w w1 : World} {p0 p1 p2 p3 p4 p5 p6 p7 p8 p9 p10 p11 p12 p13 p14 p15 p16 p17 p18 p19 p20 p21 p22 p23 p24 p25 p26 p27 p28 p29 p30 p31 p32 p33 p34 p35 p36 p37 p38 p39 p40 p41 p42 p43 p44 p45 p46 p47 p48 p49 p50 p51 p52 p53 p54 p55 p56 p57 p58 p59 p60 p61 p62 p63 : Addr} {v0 v1 v2 v3 v4 v5 v6 v7 v8 v9 v10 v11 v12 v13 v14 v15 v16 v17 v18 v19 v20 v21 v22 v23 v24 v25 v26 v27 v28 v29 v30 v31 v32 v33 v34 v35 v36 v37 v38 v39 v40 v41 v42 v43 v44 v45 v46 v47 v48 v49 v50 v51 v52 v53 v54 v55 v56 v57 v58 v59 v60 v61 v62 v63 : Value} (hb : Below w.heap.size w w1) (h : w.cell? p0 = some v0 ∧ w.cell? p1 = some v1 ∧ w.cell? p2 = some v2 ∧ w.cell? p3 = some v3 ∧ w.cell? p4 = some v4 ∧ w.cell? p5 = some v5 ∧ w.cell? p6 = some v6 ∧ w.cell? p7 = some v7 ∧ w.cell? p8 = some v8 ∧ w.cell? p9 = some v9 ∧ w.cell? p10 = some v10 ∧ w.cell? p11 = some v11 ∧ w.cell? p12 = some v12 ∧ w.cell? p13 = some v13 ∧ w.cell? p14 = some v14 ∧ w.cell? p15 = some v15 ∧ w.cell? p16 = some v16 ∧ w.cell? p17 = some v17 ∧ w.cell? p18 = some v18 ∧ w.cell? p19 = some v19 ∧ w.cell? p20 = some v20 ∧ w.cell? p21 = some v21 ∧ w.cell? p22 = some v22 ∧ w.cell? p23 = some v23 ∧ w.cell? p24 = some v24 ∧ w.cell? p25 = some v25 ∧ w.cell? p26 = some v26 ∧ w.cell? p27 = some v27 ∧ w.cell? p28 = some v28 ∧ w.cell? p29 = some v29 ∧ w.cell? p30 = some v30 ∧ w.cell? p31 = some v31 ∧ w.cell? p32 = some v32 ∧ w.cell? p33 = some v33 ∧ w.cell? p34 = some v34 ∧ w.cell? p35 = some v35 ∧ w.cell? p36 = some v36 ∧ w.cell? p37 = some v37 ∧ w.cell? p38 = some v38 ∧ w.cell? p39 = some v39 ∧ w.cell? p40 = some v40 ∧ w.cell? p41 = some v41 ∧ w.cell? p42 = some v42 ∧ w.cell? p43 = some v43 ∧ w.cell? p44 = some v44 ∧ w.cell? p45 = some v45 ∧ w.cell? p46 = some v46 ∧ w.cell? p47 = some v47 ∧ w.cell? p48 = some v48 ∧ w.cell? p49 = some v49 ∧ w.cell? p50 = some v50 ∧ w.cell? p51 = some v51 ∧ w.cell? p52 = some v52 ∧ w.cell? p53 = some v53 ∧ w.cell? p54 = some v54 ∧ w.cell? p55 = some v55 ∧ w.cell? p56 = some v56 ∧ w.cell? p57 = some v57 ∧ w.cell? p58 = some v58 ∧ w.cell? p59 = some v59 ∧ w.cell? p60 = some v60 ∧ w.cell? p61 = some v61 ∧ w.cell? p62 = some v62 ∧ w.cell? p63 = some v63) : w1.cell? p0 = some v0 ∧ w1.cell? p1 = some v1 ∧ w1.cell? p2 = some v2 ∧ w1.cell? p3 = some v3 ∧ w1.cell? p4 = some v4 ∧ w1.cell? p5 = some v5 ∧ w1.cell? p6 = some v6 ∧ w1.cell? p7 = some v7 ∧ w1.cell? p8 = some v8 ∧ w1.cell? p9 = some v9 ∧ w1.cell? p10 = some v10 ∧ w1.cell? p11 = some v11 ∧ w1.cell? p12 = some v12 ∧ w1.cell? p13 = some v13 ∧ w1.cell? p14 = some v14 ∧ w1.cell? p15 = some v15 ∧ w1.cell? p16 = some v16 ∧ w1.cell? p17 = some v17 ∧ w1.cell? p18 = some v18 ∧ w1.cell? p19 = some v19 ∧ w1.cell? p20 = some v20 ∧ w1.cell? p21 = some v21 ∧ w1.cell? p22 = some v22 ∧ w1.cell? p23 = some v23 ∧ w1.cell? p24 = some v24 ∧ w1.cell? p25 = some v25 ∧ w1.cell? p26 = some v26 ∧ w1.cell? p27 = some v27 ∧ w1.cell? p28 = some v28 ∧ w1.cell? p29 = some v29 ∧ w1.cell? p30 = some v30 ∧ w1.cell? p31 = some v31 ∧ w1.cell? p32 = some v32 ∧ w1.cell? p33 = some v33 ∧ w1.cell? p34 = some v34 ∧ w1.cell? p35 = some v35 ∧ w1.cell? p36 = some v36 ∧ w1.cell? p37 = some v37 ∧ w1.cell? p38 = some v38 ∧ w1.cell? p39 = some v39 ∧ w1.cell? p40 = some v40 ∧ w1.cell? p41 = some v41 ∧ w1.cell? p42 = some v42 ∧ w1.cell? p43 = some v43 ∧ w1.cell? p44 = some v44 ∧ w1.cell? p45 = some v45 ∧ w1.cell? p46 = some v46 ∧ w1.cell? p47 = some v47 ∧ w1.cell? p48 = some v48 ∧ w1.cell? p49 = some v49 ∧ w1.cell? p50 = some v50 ∧ w1.cell? p51 = some v51 ∧ w1.cell? p52 = some v52 ∧ w1.cell? p53 = some v53 ∧ w1.cell? p54 = some v54 ∧ w1.cell? p55 = some v55 ∧ w1.cell? p56 = some v56 ∧ w1.cell? p57 = some v57 ∧ w1.cell? p58 = some v58 ∧ w1.cell? p59 = some v59 ∧ w1.cell? p60 = some v60 ∧ w1.cell? p61 = some v61 ∧ w1.cell? p62 = some v62 ∧ w1.cell? p63 = some v63 := by
  obtain ⟨h0, h1, h2, h3, h4, h5, h6, h7, h8, h9, h10, h11, h12, h13, h14, h15, h16, h17, h18, h19, h20, h21, h22, h23, h24, h25, h26, h27, h28, h29, h30, h31, h32, h33, h34, h35, h36, h37, h38, h39, h40, h41, h42, h43, h44, h45, h46, h47, h48, h49, h50, h51, h52, h53, h54, h55, h56, h57, h58, h59, h60, h61, h62, h63⟩ := h
  exact ⟨(hb.cell (World.block_lt_of_cell? _ _ h0)).trans h0, (hb.cell (World.block_lt_of_cell? _ _ h1)).trans h1, (hb.cell (World.block_lt_of_cell? _ _ h2)).trans h2, (hb.cell (World.block_lt_of_cell? _ _ h3)).trans h3, (hb.cell (World.block_lt_of_cell? _ _ h4)).trans h4, (hb.cell (World.block_lt_of_cell? _ _ h5)).trans h5, (hb.cell (World.block_lt_of_cell? _ _ h6)).trans h6, (hb.cell (World.block_lt_of_cell? _ _ h7)).trans h7, (hb.cell (World.block_lt_of_cell? _ _ h8)).trans h8, (hb.cell (World.block_lt_of_cell? _ _ h9)).trans h9, (hb.cell (World.block_lt_of_cell? _ _ h10)).trans h10, (hb.cell (World.block_lt_of_cell? _ _ h11)).trans h11, (hb.cell (World.block_lt_of_cell? _ _ h12)).trans h12, (hb.cell (World.block_lt_of_cell? _ _ h13)).trans h13, (hb.cell (World.block_lt_of_cell? _ _ h14)).trans h14, (hb.cell (World.block_lt_of_cell? _ _ h15)).trans h15, (hb.cell (World.block_lt_of_cell? _ _ h16)).trans h16, (hb.cell (World.block_lt_of_cell? _ _ h17)).trans h17, (hb.cell (World.block_lt_of_cell? _ _ h18)).trans h18, (hb.cell (World.block_lt_of_cell? _ _ h19)).trans h19, (hb.cell (World.block_lt_of_cell? _ _ h20)).trans h20, (hb.cell (World.block_lt_of_cell? _ _ h21)).trans h21, (hb.cell (World.block_lt_of_cell? _ _ h22)).trans h22, (hb.cell (World.block_lt_of_cell? _ _ h23)).trans h23, (hb.cell (World.block_lt_of_cell? _ _ h24)).trans h24, (hb.cell (World.block_lt_of_cell? _ _ h25)).trans h25, (hb.cell (World.block_lt_of_cell? _ _ h26)).trans h26, (hb.cell (World.block_lt_of_cell? _ _ h27)).trans h27, (hb.cell (World.block_lt_of_cell? _ _ h28)).trans h28, (hb.cell (World.block_lt_of_cell? _ _ h29)).trans h29, (hb.cell (World.block_lt_of_cell? _ _ h30)).trans h30, (hb.cell (World.block_lt_of_cell? _ _ h31)).trans h31, (hb.cell (World.block_lt_of_cell? _ _ h32)).trans h32, (hb.cell (World.block_lt_of_cell? _ _ h33)).trans h33, (hb.cell (World.block_lt_of_cell? _ _ h34)).trans h34, (hb.cell (World.block_lt_of_cell? _ _ h35)).trans h35, (hb.cell (World.block_lt_of_cell? _ _ h36)).trans h36, (hb.cell (World.block_lt_of_cell? _ _ h37)).trans h37, (hb.cell (World.block_lt_of_cell? _ _ h38)).trans h38, (hb.cell (World.block_lt_of_cell? _ _ h39)).trans h39, (hb.cell (World.block_lt_of_cell? _ _ h40)).trans h40, (hb.cell (World.block_lt_of_cell? _ _ h41)).trans h41, (hb.cell (World.block_lt_of_cell? _ _ h42)).trans h42, (hb.cell (World.block_lt_of_cell? _ _ h43)).trans h43, (hb.cell (World.block_lt_of_cell? _ _ h44)).trans h44, (hb.cell (World.block_lt_of_cell? _ _ h45)).trans h45, (hb.cell (World.block_lt_of_cell? _ _ h46)).trans h46, (hb.cell (World.block_lt_of_cell? _ _ h47)).trans h47, (hb.cell (World.block_lt_of_cell? _ _ h48)).trans h48, (hb.cell (World.block_lt_of_cell? _ _ h49)).trans h49, (hb.cell (World.block_lt_of_cell? _ _ h50)).trans h50, (hb.cell (World.block_lt_of_cell? _ _ h51)).trans h51, (hb.cell (World.block_lt_of_cell? _ _ h52)).trans h52, (hb.cell (World.block_lt_of_cell? _ _ h53)).trans h53, (hb.cell (World.block_lt_of_cell? _ _ h54)).trans h54, (hb.cell (World.block_lt_of_cell? _ _ h55)).trans h55, (hb.cell (World.block_lt_of_cell? _ _ h56)).trans h56, (hb.cell (World.block_lt_of_cell? _ _ h57)).trans h57, (hb.cell (World.block_lt_of_cell? _ _ h58)).trans h58, (hb.cell (World.block_lt_of_cell? _ _ h59)).trans h59, (hb.cell (World.block_lt_of_cell? _ _ h60)).trans h60, (hb.cell (World.block_lt_of_cell? _ _ h61)).trans h61, (hb.cell (World.block_lt_of_cell? _ _ h62)).trans h62, (hb.cell (World.block_lt_of_cell? _ _ h63)).trans h63⟩
def colonnadelaw7_PredOwn.T2 : Bool × List (List Nat × List Nat) := (true, [([], []), ([], []), ([0, 1], [0, 1]), ([], []), ([], []), ([3, 4, 2], [3, 4]), ([], []), ([], []), ([6, 2, 5, 0, 1, 2, 6, 7], [2, 6]), ([7, 5, 8, 0, 1, 2, 3, 4, 5, 6, 7, 8], [5, 7])])
def colonnadelaw7_PredOwn.B2 : List Nat := [0, 0, 3, 0, 0, 31, 0, 0, 255, 511]
theorem colonnadelaw7_PredOwn.tab2 : rtab .any (opsOf Try.f4 2) = colonnadelaw7_PredOwn.T2 := by kernel_rfl
theorem colonnadelaw7_PredOwn.bits2 : waitsOk colonnadelaw7_PredOwn.T2.2 colonnadelaw7_PredOwn.B2 = true := by kernel_rfl
def colonnadelaw7_PredOwn.T4 : Bool × List (List Nat × List Nat) := (true, [([], []), ([0], [0]), ([1], [1]), ([], []), ([3], [3]), ([4, 2], [4]), ([], []), ([], []), ([6, 2, 5, 0, 1, 2, 6, 7], [2, 6]), ([7, 5, 8, 0, 1, 2, 3, 4, 5, 6, 7, 8], [5, 7])])
def colonnadelaw7_PredOwn.B4 : List Nat := [0, 1, 3, 0, 8, 31, 0, 0, 255, 511]
theorem colonnadelaw7_PredOwn.tab4 : rtab .any (opsOf Try.f4 4) = colonnadelaw7_PredOwn.T4 := by kernel_rfl
theorem colonnadelaw7_PredOwn.bits4 : waitsOk colonnadelaw7_PredOwn.T4.2 colonnadelaw7_PredOwn.B4 = true := by kernel_rfl
def colonnadelaw7_PredOwn.T9 : Bool × List (List Nat × List Nat) := (true, [([], []), ([0], [0]), ([1], [1]), ([2], [2]), ([], []), ([3, 4], [3, 4]), ([5, 5], [5]), ([6], [6]), ([7, 6], [6, 7]), ([8, 6], [6, 8]), ([9, 6], [6, 9]), ([6], [6]), ([10, 11, 6, 6], [6, 10, 11]), ([6, 12], [6, 12]), ([13, 12], [13]), ([14], [14]), ([15, 14], [14, 15]), ([16, 14], [14, 16]), ([17, 14], [14, 17]), ([14], [14]), ([18, 19, 14, 14], [14, 18, 19]), ([14, 20], [14, 20]), ([21, 20], [21]), ([22], [22]), ([23, 22], [22, 23]), ([24, 22], [22, 24]), ([22], [22]), ([25, 26, 22, 22], [22, 25, 26]), ([22, 27], [22, 27]), ([28, 27], [28]), ([29, 29], [29]), ([29, 30], [29, 30]), ([31, 30, 0, 1, 2, 3, 4, 5, 6, 7, 8, 9, 10, 11, 12, 13, 14, 15, 16, 17, 18, 19, 20, 21, 22, 23, 24, 25, 26, 27, 28, 29, 30, 31], [31])])
def colonnadelaw7_PredOwn.B9 : List Nat := [0, 1, 3, 7, 0, 31, 63, 127, 255, 511, 1023, 127, 4095, 8191, 16383, 32767, 65535, 131071, 262143, 32767, 1048575, 2097151, 4194303, 8388607, 16777215, 33554431, 8388607, 134217727, 268435455, 536870911, 1073741823, 2147483647, 4294967295]
theorem colonnadelaw7_PredOwn.tab9 : rtab .any (opsOf Try.f4 9) = colonnadelaw7_PredOwn.T9 := by kernel_rfl
theorem colonnadelaw7_PredOwn.bits9 : waitsOk colonnadelaw7_PredOwn.T9.2 colonnadelaw7_PredOwn.B9 = true := by kernel_rfl
set_option maxHeartbeats 8000000 in
set_option maxRecDepth 100000 in
theorem PredOwn_walk (k : Nat) (a0 : Int) (A1 : Option Addr) (c1 : Nat) (l1 : List Int) (A2 : Option Addr) (c2 : Nat) (l2 : List Int) (w : World) (hr1 : Kd.C (Kd.int .i64) w A1 l1.length l1) (hc1 : l1.length ≤ c1) (hr2 : Kd.C (Kd.int .i64) w A2 l2.length l2) (hc2 : l2.length ≤ c2) (t357 : List S58) (A40 : colonnadelaw6_Schema.f k a0 = some t357) (t361 : Int) (t362 : Int) (t363 : Int) (t364 : Bool) (t365 : Int) (t366 : Int) (t367 : List Int) (t370 : List S35) (A50 : colonnadelaw7_Pred.f k t357 l1 0 3 = some (t361, t362, t363, t364, t365, t366, t367, t370)) (t373 : Int) (t374 : Int) (t375 : Int) (t376 : Bool) (t377 : Int) (t378 : Int) (t379 : List Int) (t382 : List S35) (A60 : colonnadelaw7_Pred.f k t357 l2 0 3 = some (t373, t374, t375, t376, t377, t378, t379, t382)) (y387 : List (S35)) (hy387 : y387 = (([(⟨t361, t362, t363, (⟨t364, t365, t366, t367⟩ : S32), t370⟩ : S35), (⟨t373, t374, t375, (⟨t376, t377, t378, t379⟩ : S32), t382⟩ : S35), (⟨0, 0, 0, (⟨false, 0, 0, ([] : List Int)⟩ : S32), ([] : List (S35))⟩ : S35)] : List (S35)))) (c7 : 2 ≤ (y387.length : Int)) (y390 : List (S35)) (hy390 : y390 = (y387.take 2)) (t395 : Int) (t396 : Int) (t397 : Int) (t398 : Bool) (t399 : Int) (t400 : Int) (t401 : List Int) (t404 : List S35) (A80 : pred_All.f k y390 = some (t395, t396, t397, t398, t399, t400, t401, t404)) (y407 : List (S35)) (hy407 : y407 = (y387.take 2)) (t412 : Int) (t413 : Int) (t414 : Int) (t415 : Bool) (t416 : Int) (t417 : Int) (t418 : List Int) (t421 : List S35) (A100 : pred_Any.f k y407 = some (t412, t413, t414, t415, t416, t417, t418, t421)) (c11 : (t404.length : Int) = 2) (c12 : (t421.length : Int) = 2) (c13 : 0 < (y387.length : Int)) (y426 : List (S35)) (hy426 : y426 = (y387.set (0 : Int).toNat (⟨77, 0, 0, (⟨false, 0, 0, ([] : List Int)⟩ : S32), ([] : List (S35))⟩ : S35))) (c15 : 1 < (t404.length : Int)) (y427 : List (S35)) (hy427 : y427 = (t404.set (1 : Int).toNat (⟨78, 0, 0, (⟨false, 0, 0, ([] : List Int)⟩ : S32), ([] : List (S35))⟩ : S35))) (c17 : 0 < (t404.length : Int)) (A180 : colonnaderef6_SamePred.f k ((rd_T35 y427 0).f0) ((rd_T35 y427 0).f1) ((rd_T35 y427 0).f2) ((rd_T35 y427 0).f3.f0) ((rd_T35 y427 0).f3.f1) ((rd_T35 y427 0).f3.f2) ((rd_T35 y427 0).f3.f3) ((rd_T35 y427 0).f4) t361 t362 t363 t364 t365 t366 t367 t370 = some true) (c20 : 0 < (t421.length : Int)) (A210 : colonnaderef6_SamePred.f k ((rd_T35 t421 0).f0) ((rd_T35 t421 0).f1) ((rd_T35 t421 0).f2) ((rd_T35 t421 0).f3.f0) ((rd_T35 t421 0).f3.f1) ((rd_T35 t421 0).f3.f2) ((rd_T35 t421 0).f3.f3) ((rd_T35 t421 0).f4) t361 t362 t363 t364 t365 t366 t367 t370 = some true) (c23 : 1 < (t421.length : Int)) (A240 : colonnaderef6_SamePred.f k ((rd_T35 t421 1).f0) ((rd_T35 t421 1).f1) ((rd_T35 t421 1).f2) ((rd_T35 t421 1).f3.f0) ((rd_T35 t421 1).f3.f1) ((rd_T35 t421 1).f3.f2) ((rd_T35 t421 1).f3.f3) ((rd_T35 t421 1).f4) t373 t374 t375 t376 t377 t378 t379 t382 = some true) (c26 : 1 < (y387.length : Int)) (A270 : colonnaderef6_SamePred.f k ((rd_T35 y426 1).f0) ((rd_T35 y426 1).f1) ((rd_T35 y426 1).f2) ((rd_T35 y426 1).f3.f0) ((rd_T35 y426 1).f3.f1) ((rd_T35 y426 1).f3.f2) ((rd_T35 y426 1).f3.f3) ((rd_T35 y426 1).f4) t373 t374 t375 t376 t377 t378 t379 t382 = some true) (t436 : Bool) (A290 : colonnadelaw7_awake.f k = some t436) :
    Calls Try.prog 4 #[.int .i64 a0, .slice A1 l1.length c1, .slice A2 l2.length c2] w fun e w' => e = .returned (.bool t436) ∧ Below w.heap.size w w' := by
  have hu27 := Try.underlying27
  have hu35 := Try.underlying35
  have HR1 := Aside0.mk hr1
  have HC1 := Aside0.mk hc1
  clear hr1 hc1
  have HR2 := Aside0.mk hr2
  have HC2 := Aside0.mk hc2
  clear hr2 hc2
  have HB := Aside0.mk (Below.refl w.heap.size w)
  have A4 := Aside0.mk A40
  clear A40
  have A5 := Aside0.mk A50
  clear A50
  have A6 := Aside0.mk A60
  clear A60
  have Ny387 := Aside0.mk hy387
  clear hy387
  have c7b0 := eq_true c7
  have c7b1 : decide (2 ≤ (y387.length : Int)) = true := decide_eq_true c7
  clear c7
  have Ny390 := Aside0.mk hy390
  clear hy390
  have A8 := Aside0.mk A80
  clear A80
  have c9b0 := eq_true (of_decide_eq_true (by first | (with_reducible assumption) | assumption) : 2 ≤ (y387.length : Int))
  have Ny407 := Aside0.mk hy407
  clear hy407
  have A10 := Aside0.mk A100
  clear A100
  have c11b0 : ((t404.length : Int) == 2) = true := beq_iff_eq.mpr c11
  have c11b1 : ((t404.length : Int) != 2) = false := bne_eq_false_iff_eq.mpr c11
  clear c11
  have c12b0 : ((t421.length : Int) == 2) = true := beq_iff_eq.mpr c12
  have c12b1 : ((t421.length : Int) != 2) = false := bne_eq_false_iff_eq.mpr c12
  clear c12
  have c13b0 : decide (0 < (y387.length : Int)) = true := decide_eq_true c13
  have c13b1 : decide (0 < y387.length) = true := decide_eq_true (by omega)
  clear c13
  have Ny426 := Aside0.mk hy426
  clear hy426
  have c15b0 : decide (1 < (t404.length : Int)) = true := decide_eq_true c15
  have c15b1 : decide (1 < t404.length) = true := decide_eq_true (by omega)
  clear c15
  have Ny427 := Aside0.mk hy427
  clear hy427
  have c17b0 : decide (0 < (t404.length : Int)) = true := decide_eq_true c17
  have c17b1 : decide (0 < t404.length) = true := decide_eq_true (by omega)
  clear c17
  have A18 := Aside0.mk A180
  clear A180
  have c20b0 : decide (0 < (t421.length : Int)) = true := decide_eq_true c20
  have c20b1 : decide (0 < t421.length) = true := decide_eq_true (by omega)
  clear c20
  have A21 := Aside0.mk A210
  clear A210
  have c23b0 : decide (1 < (t421.length : Int)) = true := decide_eq_true c23
  have c23b1 : decide (1 < t421.length) = true := decide_eq_true (by omega)
  clear c23
  have A24 := Aside0.mk A240
  clear A240
  have c26b0 : decide (1 < (y387.length : Int)) = true := decide_eq_true c26
  have c26b1 : decide (1 < y387.length) = true := decide_eq_true (by omega)
  clear c26
  have A27 := Aside0.mk A270
  clear A270
  have A29 := Aside0.mk A290
  clear A290
  go_enter Try.func4, Try.ntmps4
  try go_wp2_with (first | ((with_reducible refine gate_callee (f := 6) rfl ?_); refine goesL_ (some 14) rfl rfl Try.func6 (by kernel_rfl) rfl #[.int .i64 a0] rfl (by (try simp only [List.map_toArray, List.map_cons, List.map_nil]); first | done | rfl | (simp only [List.length_drop, List.length_take]; rfl)) ?_; (with_reducible refine (colonnadelaw6_Schema.calls k a0 t357 _ A4.out).mono ?_); rintro e w30 ⟨v358, rfl, ho0, hb⟩; refine ⟨_, rfl, ?_⟩; have HO359 := Aside0.mk (Kd.R_lower ho0 (below_size HB.out)); replace HB := Aside0.mk (below_step HB.out hb); (try clear hb); (try clear hb2); (try clear hk); (try clear hi); (try clear ho0)) | ((with_reducible refine gate_dst (N := 7) rfl ?_); (try (refine gate_guard (by rfl) ?_; dsimp only)); refine box_event ?hg (N := 7) ?hd (cs := #[.slice none 0 0]) (t := 27) ?hr ?_; (case hd => rfl); (case hg => rfl); (case hr => first | (go_simp; done) | (go_simp; rfl)); intro gb360 hg w31 hbox hb; replace HO359 := Aside0.mk (Kd.R_below HO359.out hb); have BK360 := Aside0.mk (hbox); have GW360 := Aside0.mk ((by rw [hg]; exact (below_size HB.out) : w.heap.size ≤ gb360)); have GE360 := Aside0.mk ((by rw [hg]; exact (below_size HB.out) : w.heap.size ≤ gb360)); replace HB := Aside0.mk (below_step HB.out hb); clear hb hbox hg; obtain ⟨Ao32, co32, eo32⟩ := Kd.R_slice HO359.out; subst eo32; have hcz33_0 : w31.cell? ⟨gb360, 0, none⟩ = some (.slice none 0 0) := (blk_cell BK360.out 0).trans rfl; have hfz33_0 := blk_frozen BK360.out 0))
  have n0_ : Aside0 (Kd.R k58 58 (w31.setCell ⟨gb360, 0, none⟩ (.slice Ao32 t357.length co32)) w.heap.size (fun _ => True) (.slice Ao32 t357.length co32) t357) := ⟨by (with_reducible repeat (first | apply Kd.R_alloc | apply Kd.R_drewN | apply Kd.R_drew)); exact Kd.R_mono (Kd.R_far (p := ⟨gb360, 0, none⟩) (Kd.R_types HO359.out BK360.out (by decide)) (fun _ hk => hk.2) (.slice Ao32 t357.length co32)) (fun _ hk => trivial)⟩
  have n1_ : Aside0 ((w31.setCell ⟨gb360, 0, none⟩ (.slice Ao32 t357.length co32)).heap[gb360]? = some (.cells #[.slice Ao32 t357.length co32] 27 (0, 0))) := ⟨by (with_reducible repeat (first | refine blk_drewN ?_ _ | refine blk_drew ?_ | refine blk_alloc ?_ _)); refine blk_put (cs := #[.slice none 0 0]) ?_ 0 _ rfl; (with_reducible repeat (first | refine blk_drewN ?_ _ | refine blk_drew ?_ | refine blk_alloc ?_ _)); exact BK360.out⟩
  have n2_ : Aside0 (Below w.heap.size w (w31.setCell ⟨gb360, 0, none⟩ (.slice Ao32 t357.length co32))) := ⟨by repeat (first | (with_reducible first | exact HB.out | apply below_alloc | apply pw_below_drewN | apply below_drew1 | refine below_set ?_ GE360.out) | exact HB.out)⟩
  (try clear HO359)
  (try clear BK360)
  (try clear HB)
  generalize (w31.setCell ⟨gb360, 0, none⟩ (.slice Ao32 t357.length co32)) = w34 at n0_ n1_ n2_ ⊢
  have HO359 := n0_
  have BK360 := n1_
  have HB := n2_
  clear n0_ n1_ n2_
  replace HO359 := Aside0.mk (Kd.R_drew HO359.out)
  replace BK360 := Aside0.mk (blk_drew BK360.out)
  replace HB := Aside0.mk (below_drew1 HB.out)
  refine start_ (n := 10) (S := fun w' => w'.cell? ⟨gb360, 0, none⟩ = some (.slice Ao32 t357.length co32)) (ds := []) #[false, false, false, false, false, false, false, false, false, false] (by kernel_rfl) rfl rfl ((blk_cell BK360.out 0).trans rfl) (fun hHeld => ?_); refine with_tabW colonnadelaw7_PredOwn.tab2 colonnadelaw7_PredOwn.bits2 (fun HT_ HW_ => ?_)
  generalize w34.drew = w35 at HO359 BK360 HB hHeld ⊢
  refine pure_ (i := 1) (N := some 16) (v := ?_) (a' := ?_) #[false, true, false, false, false, false, false, false, false, false] rfl rfl (any_of HT_.out (by kernel_rfl)) (fun _ _ _ h => h) (Or.inl ⟨by rfl, ?_⟩) ?_ ?_
  rotate_left
  · intro w'
    go_simp
    with_reducible rfl
  rotate_left
  · simp only [Act.put, List.setIfInBounds_toArray, List.set_cons_zero, List.set_cons_succ, i64_w, i32_w]
    rfl
  refine pure_ (i := 4) (N := some 19) (v := ?_) (a' := ?_) #[false, true, false, false, true, false, false, false, false, false] rfl rfl (any_of HT_.out (by kernel_rfl)) (fun _ _ _ h => h) (Or.inl ⟨by rfl, ?_⟩) ?_ ?_
  rotate_left
  · intro w'
    go_simp
    with_reducible rfl
  rotate_left
  · simp only [Act.put, List.setIfInBounds_toArray, List.set_cons_zero, List.set_cons_succ, i64_w, i32_w]
    rfl
  refine take_ (i := 0) (N := some 15) (v := ?_) (a' := ?_) #[true, true, false, false, true, false, false, false, false, false] rfl rfl (take_ofW HT_.out HW_.out (by kernel_rfl)) (fun _ _ _ h => h) (Or.inl ⟨by rfl, ?_⟩) hHeld ?_ ?_
  rotate_left
  · intro w' s0
    go_simp
    with_reducible rfl
  rotate_left
  · simp only [Act.put, List.setIfInBounds_toArray, List.set_cons_zero, List.set_cons_succ, i64_w, i32_w]
    rfl
  refine take_ (i := 3) (N := some 18) (v := ?_) (a' := ?_) #[true, true, false, true, true, false, false, false, false, false] rfl rfl (take_ofW HT_.out HW_.out (by kernel_rfl)) (fun _ _ _ h => h) (Or.inl ⟨by rfl, ?_⟩) hHeld ?_ ?_
  rotate_left
  · intro w' s0
    go_simp
    with_reducible rfl
  rotate_left
  · simp only [Act.put, List.setIfInBounds_toArray, List.set_cons_zero, List.set_cons_succ, i64_w, i32_w]
    rfl
  refine join_ (σ := Value × Value × Value × Value × Nat × Nat) 2 #[true, true, true, true, true, true, true, true, false, false] (fun s_ => [(17, .agg #[.int .i64 t361, .int .i64 t362, .int .i64 t363, .bool t364, .int .i64 t365, .int .i64 t366, s_.1, s_.2.1]), (20, .agg #[.int .i64 t373, .int .i64 t374, .int .i64 t375, .bool t376, .int .i64 t377, .int .i64 t378, s_.2.2.1, s_.2.2.2.1]), (8, .pointer (some ⟨s_.2.2.2.2.1, 0, none⟩)), (9, .pointer (some ⟨s_.2.2.2.2.2, 0, none⟩))]) (fun s_ w' => (w'.cell? ⟨gb360, 0, none⟩ = some (.slice Ao32 t357.length co32)) ∧ (Kd.R k58 58 w' w.heap.size (fun _ => True) (.slice Ao32 t357.length co32) t357) ∧ (Kd.V (Kd.int .u8) 5 w' w.heap.size (fun k_ => some k_ ≠ (.slice Ao32 t357.length co32 : Value).ownBlock ∧ some k_ ≠ (s_.2.1 : Value).ownBlock ∧ some k_ ≠ (s_.2.2.2.1 : Value).ownBlock ∧ k_ ≠ gb360 ∧ k_ ≠ s_.2.2.2.2.1 ∧ k_ ≠ s_.2.2.2.2.2) s_.1 t367) ∧ (Kd.N k35 35 w' w.heap.size (fun k_ => some k_ ≠ (.slice Ao32 t357.length co32 : Value).ownBlock ∧ some k_ ≠ (s_.2.2.2.1 : Value).ownBlock ∧ k_ ≠ gb360 ∧ k_ ≠ s_.2.2.2.2.1 ∧ k_ ≠ s_.2.2.2.2.2) s_.2.1 t370) ∧ (Kd.V (Kd.int .u8) 5 w' w.heap.size (fun k_ => some k_ ≠ (.slice Ao32 t357.length co32 : Value).ownBlock ∧ some k_ ≠ (s_.2.1 : Value).ownBlock ∧ some k_ ≠ (s_.2.2.2.1 : Value).ownBlock ∧ k_ ≠ gb360 ∧ k_ ≠ s_.2.2.2.2.1 ∧ k_ ≠ s_.2.2.2.2.2) s_.2.2.1 t379) ∧ (Kd.N k35 35 w' w.heap.size (fun k_ => some k_ ≠ (.slice Ao32 t357.length co32 : Value).ownBlock ∧ some k_ ≠ (s_.2.1 : Value).ownBlock ∧ k_ ≠ gb360 ∧ k_ ≠ s_.2.2.2.2.1 ∧ k_ ≠ s_.2.2.2.2.2) s_.2.2.2.1 t382) ∧ (w'.heap[gb360]? = some (.cells #[.slice Ao32 t357.length co32] 27 (0, 0))) ∧ (w'.heap[s_.2.2.2.2.1]? = some (.cells #[.int .i64 0, .int .i64 0, .int .i64 0, .bool false, .int .i64 0, .int .i64 0, .slice none 0 0, .slice none 0 0] 35 (0, 0))) ∧ (w'.heap[s_.2.2.2.2.2]? = some (.cells #[.int .i64 0, .int .i64 0, .int .i64 0, .bool false, .int .i64 0, .int .i64 0, .slice none 0 0, .slice none 0 0] 35 (0, 0))) ∧ (w.heap.size ≤ s_.2.2.2.2.1) ∧ (w.heap.size ≤ s_.2.2.2.2.1) ∧ (gb360 ≠ s_.2.2.2.2.1) ∧ (s_.2.2.2.2.1 ≠ gb360) ∧ (s_.2.2.2.2.2 ≠ s_.2.2.2.2.1) ∧ (s_.2.2.2.2.1 ≠ s_.2.2.2.2.2) ∧ (w.heap.size ≤ s_.2.2.2.2.2) ∧ (w.heap.size ≤ s_.2.2.2.2.2) ∧ (gb360 ≠ s_.2.2.2.2.2) ∧ (s_.2.2.2.2.2 ≠ gb360) ∧ (Below w.heap.size w w')) ?_ ?_
  rotate_left
  · intro hJ
    have hb0 := below_size HB.out
    refine race w35 _ (FP t367 t370) (FP t379 t382) (.cells #[.int .i64 0, .int .i64 0, .int .i64 0, .bool false, .int .i64 0, .int .i64 0, .slice none 0 0, .slice none 0 0] 35 (0, 0)) (fun x => .agg #[.int .i64 t361, .int .i64 t362, .int .i64 t363, .bool t364, .int .i64 t365, .int .i64 t366, x.1, x.2]) (fun x => .agg #[.int .i64 t373, .int .i64 t374, .int .i64 t375, .bool t376, .int .i64 t377, .int .i64 t378, x.1, x.2]) 17 20 8 9 (.bool false, .bool false) (.bool false, .bool false) (FP_stab _ _) (FP_stab _ _) ?hS (by decide) rfl rfl rfl rfl rfl rfl rfl rfl (by decide) (three_of HT_.out (by kernel_rfl)) (two_of HT_.out (by kernel_rfl)) (two_of HT_.out (by kernel_rfl)) (one_of HT_.out (by kernel_rfl)) (three_of HT_.out (by kernel_rfl)) (two_of HT_.out (by kernel_rfl)) (two_of HT_.out (by kernel_rfl)) (one_of HT_.out (by kernel_rfl)) (two_of HT_.out (by kernel_rfl)) (one_of HT_.out (by kernel_rfl)) (one_of HT_.out (by kernel_rfl)) ?s2 ?s5 ?s6 ?s7 2 ?fin
    case hS => exact fun w' hb => (blk_cell (blk_below BK360.out hb) 0).trans rfl
    case s2 =>
      intro b6 b7 v2 v5 g6 g7 w1 K hb hk
      refine goes_ Try.func15 (by kernel_rfl) rfl #[.agg #[.slice Ao32 t357.length co32], .slice A1 l1.length c1, .int .i64 0, .int .i64 3] rfl rfl rfl (by cases b6 <;> cases b7 <;> (simp only [List.map_toArray, List.map_cons, List.map_nil]; rfl)) ?_
      refine (colonnadelaw7_Pred.calls k _ _ t357 _ _ l1 0 3 t361 t362 t363 t364 t365 t366 t367 t370 _ ?_ ?_ ?_ ?_ A5.out).mono ?_
      · exact (Kd.R_reads' (Kd.R_below HO359.out hb)).2.2
      · exact (Kd.R_reads' HO359.out).2.1
      · exact Kd.C_below HR1.out (below_step HB.out hb)
      · exact HC1.out
      rintro e w2 ⟨u, v, rfl, ho0, ho1, hb2⟩
      exact ⟨_, rfl, hk (u, v) w2 ⟨Kd.V_mono (Kd.V_bound ho0) (fun k ⟨⟨h1, h2⟩, h3⟩ => ⟨h1, h3, h2⟩), Kd.N_mono (Kd.N_bound ho1) (fun k ⟨h1, h2⟩ => ⟨h1, h2⟩)⟩ hb2⟩
    case s5 =>
      intro b6 b7 v2 v5 g6 g7 w1 K hb hk
      refine goes_ Try.func15 (by kernel_rfl) rfl #[.agg #[.slice Ao32 t357.length co32], .slice A2 l2.length c2, .int .i64 0, .int .i64 3] rfl rfl rfl (by cases b6 <;> cases b7 <;> (simp only [List.map_toArray, List.map_cons, List.map_nil]; rfl)) ?_
      refine (colonnadelaw7_Pred.calls k _ _ t357 _ _ l2 0 3 t373 t374 t375 t376 t377 t378 t379 t382 _ ?_ ?_ ?_ ?_ A6.out).mono ?_
      · exact (Kd.R_reads' (Kd.R_below HO359.out hb)).2.2
      · exact (Kd.R_reads' HO359.out).2.1
      · exact Kd.C_below HR2.out (below_step HB.out hb)
      · exact HC2.out
      rintro e w2 ⟨u, v, rfl, ho0, ho1, hb2⟩
      exact ⟨_, rfl, hk (u, v) w2 ⟨Kd.V_mono (Kd.V_bound ho0) (fun k ⟨⟨h1, h2⟩, h3⟩ => ⟨h1, h3, h2⟩), Kd.N_mono (Kd.N_bound ho1) (fun k ⟨h1, h2⟩ => ⟨h1, h2⟩)⟩ hb2⟩
    case s6 =>
      intro b2 b5 b7 v2 v5 g6 g7 w1 K hk
      refine box_step ?hg (N := 8) ?hd (cs := #[.int .i64 0, .int .i64 0, .int .i64 0, .bool false, .int .i64 0, .int .i64 0, .slice none 0 0, .slice none 0 0]) (t := 35) ?hr ?_
      case hd => rfl
      case hg => rfl
      case hr => first | (go_simp; done) | (go_simp; rfl)
      intro g hg w2 hbox hb
      subst hg
      exact hk w2 hbox (blk_lt hbox) hb
    case s7 =>
      intro b2 b5 b6 v2 v5 g6 g7 w1 K hk
      refine box_step ?hg (N := 9) ?hd (cs := #[.int .i64 0, .int .i64 0, .int .i64 0, .bool false, .int .i64 0, .int .i64 0, .slice none 0 0, .slice none 0 0]) (t := 35) ?hr ?_
      case hd => rfl
      case hg => rfl
      case hr => first | (go_simp; done) | (go_simp; rfl)
      intro g hg w2 hbox hb
      subst hg
      exact hk w2 hbox (blk_lt hbox) hb
    case fin =>
      intro x2 x5 lo2 hi2 lo5 hi5 g6 g7 w' hR
      obtain ⟨p1, p2, p3, hv2, hn2⟩ := hR.f2 rfl
      obtain ⟨p4, p5, p6, hv5, hn5⟩ := hR.f5 rfl
      obtain ⟨p7, p8, hb6⟩ := hR.f6 rfl
      obtain ⟨p9, p10, hb7⟩ := hR.f7 rfl
      have m1 := hR.n25 rfl rfl
      have m2 := hR.n26 rfl rfl
      have m3 := hR.n27 rfl rfl
      have m4 := hR.n56 rfl rfl
      have m5 := hR.n57 rfl rfl
      have m6 := hR.n67 rfl rfl
      have hb := hR.below
      have hA := Kd.R_lt HO359.out
      have hG := blk_lt BK360.out
      have hL2 := hn2.1
      have hL5 := hn5.1
      refine norm_ ?_ (hJ (x2.1, x2.2, x5.1, x5.2, g6, g7) w' ⟨(blk_cell (blk_below BK360.out hb) 0).trans rfl, Kd.R_below HO359.out hb, ?_, ?_, ?_, ?_, blk_below BK360.out hb, hb6, hb7, by (try dsimp only); omega, by (try dsimp only); omega, by (try dsimp only); omega, by (try dsimp only); omega, by (try dsimp only); omega, by (try dsimp only); omega, by (try dsimp only); omega, by (try dsimp only); omega, by (try dsimp only); omega, by (try dsimp only); omega, below_step HB.out hb⟩)
      · rfl
      · exact Kd.V_mono hv2 (fun k ⟨h1, h2, h3⟩ => ⟨fun e => by have := hA k e.symm; omega, h3, fun e => by have := hL5 k e.symm; omega, by (try dsimp only); omega, by (try dsimp only); omega, by (try dsimp only); omega⟩)
      · exact Kd.N_mono (Kd.N_lower hn2 (by omega)) (fun k ⟨h1, h2⟩ => ⟨fun e => by have := hA k e.symm; omega, fun e => by have := hL5 k e.symm; omega, by (try dsimp only); omega, by (try dsimp only); omega, by (try dsimp only); omega⟩)
      · exact Kd.V_mono hv5 (fun k ⟨h1, h2, h3⟩ => ⟨fun e => by have := hA k e.symm; omega, fun e => by have := hL2 k e.symm; omega, h3, by (try dsimp only); omega, by (try dsimp only); omega, by (try dsimp only); omega⟩)
      · exact Kd.N_mono (Kd.N_lower hn5 (by omega)) (fun k ⟨h1, h2⟩ => ⟨fun e => by have := hA k e.symm; omega, fun e => by have := hL2 k e.symm; omega, by (try dsimp only); omega, by (try dsimp only); omega, by (try dsimp only); omega⟩)
  rintro ⟨v368, v371, v380, v383, gb385, gb386⟩ w40 ⟨hS_, h0_, h1_, h2_, h3_, h4_, h5_, h6_, h7_, h8_, h9_, h10_, h11_, h12_, h13_, h14_, h15_, h16_, h17_, h18_⟩
  replace HO359 : Aside0 (Kd.R k58 58 w40 w.heap.size (fun _ => True) (.slice Ao32 t357.length co32) t357) := ⟨h0_⟩
  have HO369 : Aside0 (Kd.V (Kd.int .u8) 5 w40 w.heap.size (fun k_ => some k_ ≠ (.slice Ao32 t357.length co32 : Value).ownBlock ∧ some k_ ≠ (v371 : Value).ownBlock ∧ some k_ ≠ (v383 : Value).ownBlock ∧ k_ ≠ gb360 ∧ k_ ≠ gb385 ∧ k_ ≠ gb386) v368 t367) := ⟨h1_⟩
  have HO372 : Aside0 (Kd.N k35 35 w40 w.heap.size (fun k_ => some k_ ≠ (.slice Ao32 t357.length co32 : Value).ownBlock ∧ some k_ ≠ (v383 : Value).ownBlock ∧ k_ ≠ gb360 ∧ k_ ≠ gb385 ∧ k_ ≠ gb386) v371 t370) := ⟨h2_⟩
  have HO381 : Aside0 (Kd.V (Kd.int .u8) 5 w40 w.heap.size (fun k_ => some k_ ≠ (.slice Ao32 t357.length co32 : Value).ownBlock ∧ some k_ ≠ (v371 : Value).ownBlock ∧ some k_ ≠ (v383 : Value).ownBlock ∧ k_ ≠ gb360 ∧ k_ ≠ gb385 ∧ k_ ≠ gb386) v380 t379) := ⟨h3_⟩
  have HO384 : Aside0 (Kd.N k35 35 w40 w.heap.size (fun k_ => some k_ ≠ (.slice Ao32 t357.length co32 : Value).ownBlock ∧ some k_ ≠ (v371 : Value).ownBlock ∧ k_ ≠ gb360 ∧ k_ ≠ gb385 ∧ k_ ≠ gb386) v383 t382) := ⟨h4_⟩
  replace BK360 : Aside0 (w40.heap[gb360]? = some (.cells #[.slice Ao32 t357.length co32] 27 (0, 0))) := ⟨h5_⟩
  have BK385 : Aside0 (w40.heap[gb385]? = some (.cells #[.int .i64 0, .int .i64 0, .int .i64 0, .bool false, .int .i64 0, .int .i64 0, .slice none 0 0, .slice none 0 0] 35 (0, 0))) := ⟨h6_⟩
  have BK386 : Aside0 (w40.heap[gb386]? = some (.cells #[.int .i64 0, .int .i64 0, .int .i64 0, .bool false, .int .i64 0, .int .i64 0, .slice none 0 0, .slice none 0 0] 35 (0, 0))) := ⟨h7_⟩
  have GW385 : Aside0 (w.heap.size ≤ gb385) := ⟨h8_⟩
  have GE385 : Aside0 (w.heap.size ≤ gb385) := ⟨h9_⟩
  have NB360_385 : Aside0 (gb360 ≠ gb385) := ⟨h10_⟩
  have NB385_360 : Aside0 (gb385 ≠ gb360) := ⟨h11_⟩
  have NB386_385 : Aside0 (gb386 ≠ gb385) := ⟨h12_⟩
  have NB385_386 : Aside0 (gb385 ≠ gb386) := ⟨h13_⟩
  have GW386 : Aside0 (w.heap.size ≤ gb386) := ⟨h14_⟩
  have GE386 : Aside0 (w.heap.size ≤ gb386) := ⟨h15_⟩
  have NB360_386 : Aside0 (gb360 ≠ gb386) := ⟨h16_⟩
  have NB386_360 : Aside0 (gb386 ≠ gb360) := ⟨h17_⟩
  replace HB : Aside0 (Below w.heap.size w w40) := ⟨h18_⟩
  clear h0_ h1_ h2_ h3_ h4_ h5_ h6_ h7_ h8_ h9_ h10_ h11_ h12_ h13_ h14_ h15_ h16_ h17_ h18_
  have hHeld : w40.cell? ⟨gb360, 0, none⟩ = some (.slice Ao32 t357.length co32) := hS_
  obtain ⟨Ao47, co47, eo47⟩ := Kd.V_slice HO369.out
  (first | subst eo47 | (injection eo47 with f1_ f2_ f3_; have f4_ := f1_.symm; have f5_ := f3_.symm; clear f1_ f2_ f3_; subst f4_; subst f5_))
  obtain ⟨Ao49, co49, eo49⟩ := Kd.N_slice HO372.out
  (first | subst eo49 | (injection eo49 with f1_ f2_ f3_; have f4_ := f1_.symm; have f5_ := f3_.symm; clear f1_ f2_ f3_; subst f4_; subst f5_))
  obtain ⟨Ao57, co57, eo57⟩ := Kd.V_slice HO381.out
  (first | subst eo57 | (injection eo57 with f1_ f2_ f3_; have f4_ := f1_.symm; have f5_ := f3_.symm; clear f1_ f2_ f3_; subst f4_; subst f5_))
  obtain ⟨Ao59, co59, eo59⟩ := Kd.N_slice HO384.out
  (first | subst eo59 | (injection eo59 with f1_ f2_ f3_; have f4_ := f1_.symm; have f5_ := f3_.symm; clear f1_ f2_ f3_; subst f4_; subst f5_))
  refine norm_ (a' := ?_) ?_ ?_
  rotate_left
  · simp only [putAll, Act.put, List.setIfInBounds_toArray, List.set_cons_zero, List.set_cons_succ]
    rfl
  refine one_ (i := 8) (N := none) #[true, true, true, true, true, true, true, true, true, false] rfl rfl (one_of HT_.out (by kernel_rfl)) (by decide) (fun K hK => ?_)
  refine skip_put (u := .agg #[.int .i64 t361, .int .i64 t362, .int .i64 t363, .bool t364, .int .i64 t365, .int .i64 t366, .slice Ao47 t367.length co47, .slice Ao49 t370.length co49]) (cs' := #[.int .i64 t361, .int .i64 t362, .int .i64 t363, .bool t364, .int .i64 t365, .int .i64 t366, .slice Ao47 t367.length co47, .slice Ao49 t370.length co49]) (by rfl) rfl rfl (by first | rfl | (go_simp; done) | (go_simp; rfl)) (by first | rfl | (go_simp; done) | (go_simp; rfl)) BK385.out (by first | rfl | simp [Value.cells]) (by kernel_rfl) rfl (by simp [Value.oneCell']) (fun w41_ hq_ hP_ => ?_)
  refine hK.out _ _ ((blk_cell (hP_.blk BK360.out NB360_385.out) 0).trans rfl) (fun hHeld => ?_)
  clear hK K
  have n0_ := Aside0.mk (hP_.R_typed HO359.out BK385.out (by decide))
  have n1_ := Aside0.mk (Kd.V_step HO369.out (fun k hk _ => hP_.far k hk.2.2.2.2.1))
  have n2_ := Aside0.mk (Kd.N_step HO372.out (fun k hk _ => hP_.far k hk.2.2.2.1))
  have n3_ := Aside0.mk (Kd.V_step HO381.out (fun k hk _ => hP_.far k hk.2.2.2.2.1))
  have n4_ := Aside0.mk (Kd.N_step HO384.out (fun k hk _ => hP_.far k hk.2.2.2.1))
  have n5_ := Aside0.mk (hP_.blk BK360.out NB360_385.out)
  have n6_ := Aside0.mk (hP_.blk BK386.out NB386_385.out)
  have n7_ := Aside0.mk (hP_.below HB.out GE385.out)
  have nb_ := Aside0.mk hq_
  clear hq_ hP_ HO359 HO369 HO372 HO381 HO384 BK360 BK386 HB BK385
  have HO359 := n0_
  have HO369 := n1_
  have HO372 := n2_
  have HO381 := n3_
  have HO384 := n4_
  have BK360 := n5_
  have BK386 := n6_
  have HB := n7_
  have BK385 := nb_
  clear nb_ n0_ n1_ n2_ n3_ n4_ n5_ n6_ n7_
  refine one_ (i := 9) (N := none) #[true, true, true, true, true, true, true, true, true, true] rfl rfl (one_of HT_.out (by kernel_rfl)) (by decide) (fun K hK => ?_)
  refine skip_put (u := .agg #[.int .i64 t373, .int .i64 t374, .int .i64 t375, .bool t376, .int .i64 t377, .int .i64 t378, .slice Ao57 t379.length co57, .slice Ao59 t382.length co59]) (cs' := #[.int .i64 t373, .int .i64 t374, .int .i64 t375, .bool t376, .int .i64 t377, .int .i64 t378, .slice Ao57 t379.length co57, .slice Ao59 t382.length co59]) (by rfl) rfl rfl (by first | rfl | (go_simp; done) | (go_simp; rfl)) (by first | rfl | (go_simp; done) | (go_simp; rfl)) BK386.out (by first | rfl | simp [Value.cells]) (by kernel_rfl) rfl (by simp [Value.oneCell']) (fun w61 hq_ hP_ => ?_)
  refine hK.out _ _ ((blk_cell (hP_.blk BK360.out NB360_386.out) 0).trans rfl) (fun hHeld => ?_)
  clear hK K
  have n0_ := Aside0.mk (hP_.R_typed HO359.out BK386.out (by decide))
  have n1_ := Aside0.mk (Kd.V_step HO369.out (fun k hk _ => hP_.far k hk.2.2.2.2.2))
  have n2_ := Aside0.mk (Kd.N_step HO372.out (fun k hk _ => hP_.far k hk.2.2.2.2))
  have n3_ := Aside0.mk (Kd.V_step HO381.out (fun k hk _ => hP_.far k hk.2.2.2.2.2))
  have n4_ := Aside0.mk (Kd.N_step HO384.out (fun k hk _ => hP_.far k hk.2.2.2.2))
  have n5_ := Aside0.mk (hP_.blk BK360.out NB360_386.out)
  have n6_ := Aside0.mk (hP_.blk BK385.out NB385_386.out)
  have n7_ := Aside0.mk (hP_.below HB.out GE386.out)
  have nb_ := Aside0.mk hq_
  clear hq_ hP_ HO359 HO369 HO372 HO381 HO384 BK360 BK385 HB BK386
  have HO359 := n0_
  have HO369 := n1_
  have HO372 := n2_
  have HO381 := n3_
  have HO384 := n4_
  have BK360 := n5_
  have BK385 := n6_
  have HB := n7_
  have BK386 := nb_
  clear nb_ n0_ n1_ n2_ n3_ n4_ n5_ n6_ n7_
  refine done_ (done_of HT_.out (by kernel_rfl)) ?_
  have hnb62 := NB385_360.out
  have hnc62 := NB360_385.out
  have hnb63 := NB385_386.out
  have hnc63 := NB386_385.out
  obtain ⟨hcz64_0, hcz64_1, hcz64_2, hcz64_3, hcz64_4, hcz64_5, hcz64_6, hcz64_7⟩ := cells8 BK385.out
  obtain ⟨hfz64_0, hfz64_1, hfz64_2, hfz64_3, hfz64_4, hfz64_5, hfz64_6, hfz64_7⟩ := frozen8 BK385.out
  have hnb65 := NB386_360.out
  have hnc65 := NB360_386.out
  obtain ⟨hcz66_0, hcz66_1, hcz66_2, hcz66_3, hcz66_4, hcz66_5, hcz66_6, hcz66_7⟩ := cells8 BK386.out
  obtain ⟨hfz66_0, hfz66_1, hfz66_2, hfz66_3, hfz66_4, hfz66_5, hfz66_6, hfz66_7⟩ := frozen8 BK386.out
  try go_wp2_with (first | ((with_reducible refine gate_dst (N := 24) rfl ?_); (try (refine gate_guard (by rfl) ?_; dsimp only)); refine Kd.N_lit k35 _ 35 ?hg (N' := 24) ?hd (xs := ([(⟨t361, t362, t363, (⟨t364, t365, t366, t367⟩ : S32), t370⟩ : S35), (⟨t373, t374, t375, (⟨t376, t377, t378, t379⟩ : S32), t382⟩ : S35), (⟨0, 0, 0, (⟨false, 0, 0, ([] : List Int)⟩ : S32), ([] : List (S35))⟩ : S35)] : List (S35))) (inner := [.int .i64 t361, .int .i64 t362, .int .i64 t363, .bool t364, .int .i64 t365, .int .i64 t366, .slice Ao47 t367.length co47, .slice Ao49 t370.length co49, .int .i64 t373, .int .i64 t374, .int .i64 t375, .bool t376, .int .i64 t377, .int .i64 t378, .slice Ao57 t379.length co57, .slice Ao59 t382.length co59, .int .i64 0, .int .i64 0, .int .i64 0, .bool false, .int .i64 0, .int .i64 0, .slice none 0 0, .slice none 0 0]) (ok := (fun k_ => some k_ ≠ (.slice Ao32 t357.length co32 : Value).ownBlock ∧ k_ ≠ gb360 ∧ k_ ≠ gb385 ∧ k_ ≠ gb386)) (okp := (fun k_ => some k_ ≠ (.slice Ao32 t357.length co32 : Value).ownBlock ∧ k_ ≠ gb360 ∧ k_ ≠ gb385 ∧ k_ ≠ gb386)) ?hr ?hp (fun _ hk => hk) ((show ∀ k_, w61.heap.size ≤ k_ → (fun k_ => some k_ ≠ (.slice Ao32 t357.length co32 : Value).ownBlock ∧ k_ ≠ gb360 ∧ k_ ≠ gb385 ∧ k_ ≠ gb386) k_ from fun k_ hk => ⟨Kd.fresh' (Kd.R_lt HO359.out) k_ hk, Kd.freshB BK360.out k_ hk, Kd.freshB BK385.out k_ hk, Kd.freshB BK386.out k_ hk⟩) _ (Nat.le_refl _)) (Below.refl _ _) (Nat.le_refl _) (by simp) ?_; (case hd => rfl); (case hg => rfl); (case hr => first | (go_simp; done) | (go_simp; rfl)); (case hp => exact (Reps.c8 (show Kd.FK k35 _ _ (⟨t361, t362, t363, (⟨t364, t365, t366, t367⟩ : S32), t370⟩ : S35) [.int .i64 t361, .int .i64 t362, .int .i64 t363, .bool t364, .int .i64 t365, .int .i64 t366, .slice Ao47 t367.length co47, .slice Ao49 t370.length co49] from (k35_mkF _ _ (⟨t361, t362, t363, (⟨t364, t365, t366, t367⟩ : S32), t370⟩ : S35) (Kd.V_reads' (Kd.V_mono (ok' := (fun k_ => some k_ ≠ (.slice Ao32 t357.length co32 : Value).ownBlock ∧ k_ ≠ gb360 ∧ k_ ≠ gb385 ∧ k_ ≠ gb386)) (HO369.out) (fun k_ hk => ⟨hk.1, ⟨hk.2.2.2.1, ⟨hk.2.2.2.2.1, hk.2.2.2.2.2⟩⟩⟩))).2.1 (Kd.V_F (Kd.V_mono (ok' := (fun k_ => some k_ ≠ (.slice Ao32 t357.length co32 : Value).ownBlock ∧ k_ ≠ gb360 ∧ k_ ≠ gb385 ∧ k_ ≠ gb386)) (HO369.out) (fun k_ hk => ⟨hk.1, ⟨hk.2.2.2.1, ⟨hk.2.2.2.2.1, hk.2.2.2.2.2⟩⟩⟩))) (Kd.N_reads' (Kd.N_mono (ok' := (fun k_ => some k_ ≠ (.slice Ao32 t357.length co32 : Value).ownBlock ∧ k_ ≠ gb360 ∧ k_ ≠ gb385 ∧ k_ ≠ gb386)) (HO372.out) (fun k_ hk => ⟨hk.1, ⟨hk.2.2.1, ⟨hk.2.2.2.1, hk.2.2.2.2⟩⟩⟩))).2.1 (Kd.N_F (Kd.N_mono (ok' := (fun k_ => some k_ ≠ (.slice Ao32 t357.length co32 : Value).ownBlock ∧ k_ ≠ gb360 ∧ k_ ≠ gb385 ∧ k_ ≠ gb386)) (HO372.out) (fun k_ hk => ⟨hk.1, ⟨hk.2.2.1, ⟨hk.2.2.2.1, hk.2.2.2.2⟩⟩⟩))))) (Reps.c8 (show Kd.FK k35 _ _ (⟨t373, t374, t375, (⟨t376, t377, t378, t379⟩ : S32), t382⟩ : S35) [.int .i64 t373, .int .i64 t374, .int .i64 t375, .bool t376, .int .i64 t377, .int .i64 t378, .slice Ao57 t379.length co57, .slice Ao59 t382.length co59] from (k35_mkF _ _ (⟨t373, t374, t375, (⟨t376, t377, t378, t379⟩ : S32), t382⟩ : S35) (Kd.V_reads' (Kd.V_mono (ok' := (fun k_ => some k_ ≠ (.slice Ao32 t357.length co32 : Value).ownBlock ∧ k_ ≠ gb360 ∧ k_ ≠ gb385 ∧ k_ ≠ gb386)) (HO381.out) (fun k_ hk => ⟨hk.1, ⟨hk.2.2.2.1, ⟨hk.2.2.2.2.1, hk.2.2.2.2.2⟩⟩⟩))).2.1 (Kd.V_F (Kd.V_mono (ok' := (fun k_ => some k_ ≠ (.slice Ao32 t357.length co32 : Value).ownBlock ∧ k_ ≠ gb360 ∧ k_ ≠ gb385 ∧ k_ ≠ gb386)) (HO381.out) (fun k_ hk => ⟨hk.1, ⟨hk.2.2.2.1, ⟨hk.2.2.2.2.1, hk.2.2.2.2.2⟩⟩⟩))) (Kd.N_reads' (Kd.N_mono (ok' := (fun k_ => some k_ ≠ (.slice Ao32 t357.length co32 : Value).ownBlock ∧ k_ ≠ gb360 ∧ k_ ≠ gb385 ∧ k_ ≠ gb386)) (HO384.out) (fun k_ hk => ⟨hk.1, ⟨hk.2.2.1, ⟨hk.2.2.2.1, hk.2.2.2.2⟩⟩⟩))).2.1 (Kd.N_F (Kd.N_mono (ok' := (fun k_ => some k_ ≠ (.slice Ao32 t357.length co32 : Value).ownBlock ∧ k_ ≠ gb360 ∧ k_ ≠ gb385 ∧ k_ ≠ gb386)) (HO384.out) (fun k_ hk => ⟨hk.1, ⟨hk.2.2.1, ⟨hk.2.2.2.1, hk.2.2.2.2⟩⟩⟩))))) (Reps.c8 (show Kd.FK k35 _ _ (⟨0, 0, 0, (⟨false, 0, 0, ([] : List Int)⟩ : S32), ([] : List (S35))⟩ : S35) [.int .i64 0, .int .i64 0, .int .i64 0, .bool false, .int .i64 0, .int .i64 0, .slice none 0 0, .slice none 0 0] from (k35_mkF _ _ (⟨0, 0, 0, (⟨false, 0, 0, ([] : List Int)⟩ : S32), ([] : List (S35))⟩ : S35) (Nat.le_refl _) (Kd.F_nil _ _ _) (Nat.le_refl _) (Kd.F_nil _ _ _))) (Reps.none _ _))))); intro v388 w67 ho68 hb hg_ hnew_; clear hg_ hnew_; (first | rw [← Ny387.out] at ho68 | (simp only [Int.reduceToNat] at ho68; rw [← Ny387.out] at ho68)); have n0_ := Aside0.mk (Kd.R_below HO359.out hb); have n1_ := Aside0.mk (Kd.V_elder' HO369.out (Kd.N_base ho68) hb); have n2_ := Aside0.mk (Kd.V_elder' HO381.out (Kd.N_base ho68) hb); have n3_ := Aside0.mk (Kd.N_lower ho68 (below_size HB.out)); have n4_ := Aside0.mk (blk_below BK360.out hb); have n5_ := Aside0.mk (blk_below BK385.out hb); have n6_ := Aside0.mk (blk_below BK386.out hb); have n7_ := Aside0.mk (below_step HB.out hb); have n8_ := Aside0.mk (Kd.V_elder' (show Kd.V k35 35 _ w.heap.size _ _ _ from Kd.N_V HO372.out) (Kd.N_base ho68) hb); have n9_ := Aside0.mk (Kd.V_elder' (show Kd.V k35 35 _ w.heap.size _ _ _ from Kd.N_V HO384.out) (Kd.N_base ho68) hb); clear HO359; clear HO369; clear HO381; clear BK360; clear BK385; clear BK386; clear HB; clear HO372; clear HO384; have HO359 := n0_; have HO369 := n1_; have HO381 := n2_; have HO389 := n3_; have BK360 := n4_; have BK385 := n5_; have BK386 := n6_; have HB := n7_; have HO372 := n8_; have HO384 := n9_; clear n0_ n1_ n2_ n3_ n4_ n5_ n6_ n7_ n8_ n9_; clear hb ho68))
  replace HO372 := Aside0.mk (Kd.V_drew HO372.out)
  replace HO384 := Aside0.mk (Kd.V_drew HO384.out)
  replace HO359 := Aside0.mk (Kd.R_drew HO359.out)
  replace HO369 := Aside0.mk (Kd.V_drew HO369.out)
  replace HO381 := Aside0.mk (Kd.V_drew HO381.out)
  replace HO389 := Aside0.mk (Kd.N_drew HO389.out)
  replace BK360 := Aside0.mk (blk_drew BK360.out)
  replace BK385 := Aside0.mk (blk_drew BK385.out)
  replace BK386 := Aside0.mk (blk_drew BK386.out)
  replace HB := Aside0.mk (below_drew1 HB.out)
  obtain ⟨Ao71, co71, eo71⟩ := Kd.N_slice HO389.out
  (first | subst eo71 | (injection eo71 with f1_ f2_ f3_; have f4_ := f1_.symm; have f5_ := f3_.symm; clear f1_ f2_ f3_; subst f4_; subst f5_))
  have q70 : (2 : Int) ≤ ((y387.length : Int) : Int) := of_decide_eq_true (by first | (with_reducible assumption) | assumption)
  obtain ⟨i070, hi070, _, hsz70, _⟩ := info_parts info35
  have hroom70 : y387.length ≤ co71 := (Kd.N_reads' HO389.out).2.1
  have hC70 : Kd.F k35 _ _ Ao71 y387.length y387 := (Kd.V_at (base := w.heap.size) (Kd.N_V HO389.out)).2.2
  have hcut70 := cut_to (P := Try.prog) 33 35 .i64 Try.underlying33 hi070 Ao71 y387.length co71 2 (by omega) q70 hroom70
  have hr70 := Kd.F_take (m := 2) hC70 (by omega)
  have hy70 : y390.length = (2 : Int).toNat := (by rw [Ny390.out, List.length_take]; omega)
  rw [← Ny390.out] at hr70
  rw [← hy70] at hcut70
  have HO394 := Aside0.mk (show Kd.V k35 35 _ w.heap.size _ (.slice Ao71 y390.length co71) y390 from Kd.V_mk (by omega) hr70)
  have HC394 := Aside0.mk (show y390.length ≤ co71 from by omega)
  clear hr70 hC70 hroom70 hi070 hsz70
  have KY70 := Aside0.mk hy70
  clear hy70
  replace q70 := eq_true q70
  have q72 : (2 : Int) ≤ ((y387.length : Int) : Int) := of_decide_eq_true (by first | (with_reducible assumption) | assumption)
  obtain ⟨i072, hi072, _, hsz72, _⟩ := info_parts info35
  have hroom72 : y387.length ≤ co71 := (Kd.N_reads' HO389.out).2.1
  have hC72 : Kd.F k35 _ _ Ao71 y387.length y387 := (Kd.V_at (base := w.heap.size) (Kd.N_V HO389.out)).2.2
  have hcut72 := cut_to (P := Try.prog) 33 35 .i64 Try.underlying33 hi072 Ao71 y387.length co71 2 (by omega) q72 hroom72
  have hr72 := Kd.F_take (m := 2) hC72 (by omega)
  have hy72 : y407.length = (2 : Int).toNat := (by rw [Ny407.out, List.length_take]; omega)
  rw [← Ny407.out] at hr72
  rw [← hy72] at hcut72
  have HO411 := Aside0.mk (show Kd.V k35 35 _ w.heap.size _ (.slice Ao71 y407.length co71) y407 from Kd.V_mk (by omega) hr72)
  have HC411 := Aside0.mk (show y407.length ≤ co71 from by omega)
  clear hr72 hC72 hroom72 hi072 hsz72
  have KY72 := Aside0.mk hy72
  clear hy72
  replace q72 := eq_true q72
  refine start_ (n := 10) (S := fun w' => True) (ds := []) #[false, false, false, false, false, false, false, false, false, false] (by kernel_rfl) rfl rfl trivial (fun hHeld => ?_); refine with_tabW colonnadelaw7_PredOwn.tab4 colonnadelaw7_PredOwn.bits4 (fun HT_ HW_ => ?_)
  generalize w67.drew = w69 at HO359 HO369 HO372 HO381 HO384 HO389 BK360 BK385 BK386 HB HO394 HO411 hHeld ⊢
  refine pure_ (i := 0) (N := some 25) (v := ?_) (a' := ?_) #[true, false, false, false, false, false, false, false, false, false] rfl rfl (any_of HT_.out (by kernel_rfl)) (fun _ _ _ h => h) (Or.inl ⟨by rfl, ?_⟩) ?_ ?_
  rotate_left
  · intro w'
    go_simp
    with_reducible rfl
  rotate_left
  · simp only [Act.put, List.setIfInBounds_toArray, List.set_cons_zero, List.set_cons_succ, i64_w, i32_w]
    rfl
  refine pure_ (i := 1) (N := some 26) (v := ?_) (a' := ?_) #[true, true, false, false, false, false, false, false, false, false] rfl rfl (any_of HT_.out (by kernel_rfl)) (fun _ _ _ h => h) (Or.inl ⟨by rfl, ?_⟩) ?_ ?_
  rotate_left
  · intro w'
    go_simp
    with_reducible rfl
  rotate_left
  · simp only [Act.put, List.setIfInBounds_toArray, List.set_cons_zero, List.set_cons_succ, i64_w, i32_w]
    rfl
  refine pure_ (i := 3) (N := some 28) (v := ?_) (a' := ?_) #[true, true, false, true, false, false, false, false, false, false] rfl rfl (any_of HT_.out (by kernel_rfl)) (fun _ _ _ h => h) (Or.inl ⟨by rfl, ?_⟩) ?_ ?_
  rotate_left
  · intro w'
    go_simp
    with_reducible rfl
  rotate_left
  · simp only [Act.put, List.setIfInBounds_toArray, List.set_cons_zero, List.set_cons_succ, i64_w, i32_w]
    rfl
  refine pure_ (i := 4) (N := some 29) (v := ?_) (a' := ?_) #[true, true, false, true, true, false, false, false, false, false] rfl rfl (any_of HT_.out (by kernel_rfl)) (fun _ _ _ h => h) (Or.inl ⟨by rfl, ?_⟩) ?_ ?_
  rotate_left
  · intro w'
    go_simp
    with_reducible rfl
  rotate_left
  · simp only [Act.put, List.setIfInBounds_toArray, List.set_cons_zero, List.set_cons_succ, i64_w, i32_w]
    rfl
  refine join_ (σ := Value × Value × Value × Value × Nat × Nat) 2 #[true, true, true, true, true, true, true, true, false, false] (fun s_ => [(27, .agg #[.int .i64 t395, .int .i64 t396, .int .i64 t397, .bool t398, .int .i64 t399, .int .i64 t400, s_.1, s_.2.1]), (30, .agg #[.int .i64 t412, .int .i64 t413, .int .i64 t414, .bool t415, .int .i64 t416, .int .i64 t417, s_.2.2.1, s_.2.2.2.1]), (11, .pointer (some ⟨s_.2.2.2.2.1, 0, none⟩)), (12, .pointer (some ⟨s_.2.2.2.2.2, 0, none⟩))]) (fun s_ w' => (Kd.R k58 58 w' w.heap.size (fun _ => True) (.slice Ao32 t357.length co32) t357) ∧ (Kd.V (Kd.int .u8) 5 w' w.heap.size (fun k_ => some k_ ≠ (.slice Ao32 t357.length co32 : Value).ownBlock ∧ some k_ ≠ (.slice Ao71 y387.length co71 : Value).ownBlock ∧ some k_ ≠ (s_.1 : Value).ownBlock ∧ some k_ ≠ (s_.2.1 : Value).ownBlock ∧ some k_ ≠ (s_.2.2.1 : Value).ownBlock ∧ some k_ ≠ (s_.2.2.2.1 : Value).ownBlock ∧ k_ ≠ gb360 ∧ k_ ≠ gb385 ∧ k_ ≠ gb386 ∧ k_ ≠ s_.2.2.2.2.1 ∧ k_ ≠ s_.2.2.2.2.2) (.slice Ao47 t367.length co47) t367) ∧ (Kd.V (Kd.int .u8) 5 w' w.heap.size (fun k_ => some k_ ≠ (.slice Ao32 t357.length co32 : Value).ownBlock ∧ some k_ ≠ (.slice Ao71 y387.length co71 : Value).ownBlock ∧ some k_ ≠ (s_.1 : Value).ownBlock ∧ some k_ ≠ (s_.2.1 : Value).ownBlock ∧ some k_ ≠ (s_.2.2.1 : Value).ownBlock ∧ some k_ ≠ (s_.2.2.2.1 : Value).ownBlock ∧ k_ ≠ gb360 ∧ k_ ≠ gb385 ∧ k_ ≠ gb386 ∧ k_ ≠ s_.2.2.2.2.1 ∧ k_ ≠ s_.2.2.2.2.2) (.slice Ao57 t379.length co57) t379) ∧ (Kd.N k35 35 w' w.heap.size (fun k_ => some k_ ≠ (.slice Ao32 t357.length co32 : Value).ownBlock ∧ some k_ ≠ (s_.1 : Value).ownBlock ∧ some k_ ≠ (s_.2.1 : Value).ownBlock ∧ some k_ ≠ (s_.2.2.1 : Value).ownBlock ∧ some k_ ≠ (s_.2.2.2.1 : Value).ownBlock ∧ k_ ≠ gb360 ∧ k_ ≠ gb385 ∧ k_ ≠ gb386 ∧ k_ ≠ s_.2.2.2.2.1 ∧ k_ ≠ s_.2.2.2.2.2) (.slice Ao71 y387.length co71) y387) ∧ (Kd.V k35 35 w' w.heap.size (fun k_ => some k_ ≠ (.slice Ao32 t357.length co32 : Value).ownBlock ∧ some k_ ≠ (s_.1 : Value).ownBlock ∧ some k_ ≠ (s_.2.1 : Value).ownBlock ∧ some k_ ≠ (s_.2.2.1 : Value).ownBlock ∧ some k_ ≠ (s_.2.2.2.1 : Value).ownBlock ∧ k_ ≠ gb360 ∧ k_ ≠ gb385 ∧ k_ ≠ gb386 ∧ k_ ≠ s_.2.2.2.2.1 ∧ k_ ≠ s_.2.2.2.2.2) (.slice Ao71 y390.length co71) y390) ∧ (Kd.R (Kd.int .u8) 5 w' w.heap.size (fun k_ => some k_ ≠ (s_.2.2.1 : Value).ownBlock) s_.1 t401) ∧ (NC w' w.heap.size (fun k_ => some k_ ≠ (.slice Ao32 t357.length co32 : Value).ownBlock ∧ some k_ ≠ (.slice Ao71 y387.length co71 : Value).ownBlock ∧ some k_ ≠ (s_.1 : Value).ownBlock ∧ some k_ ≠ (s_.2.2.1 : Value).ownBlock ∧ some k_ ≠ (s_.2.2.2.1 : Value).ownBlock ∧ k_ ≠ gb360 ∧ k_ ≠ gb385 ∧ k_ ≠ gb386 ∧ k_ ≠ s_.2.2.2.2.1 ∧ k_ ≠ s_.2.2.2.2.2) s_.2.1 t404) ∧ (Kd.V k35 35 w' w.heap.size (fun k_ => some k_ ≠ (.slice Ao32 t357.length co32 : Value).ownBlock ∧ some k_ ≠ (s_.1 : Value).ownBlock ∧ some k_ ≠ (s_.2.1 : Value).ownBlock ∧ some k_ ≠ (s_.2.2.1 : Value).ownBlock ∧ some k_ ≠ (s_.2.2.2.1 : Value).ownBlock ∧ k_ ≠ gb360 ∧ k_ ≠ gb385 ∧ k_ ≠ gb386 ∧ k_ ≠ s_.2.2.2.2.1 ∧ k_ ≠ s_.2.2.2.2.2) (.slice Ao71 y407.length co71) y407) ∧ (Kd.R (Kd.int .u8) 5 w' w.heap.size (fun k_ => some k_ ≠ (s_.1 : Value).ownBlock) s_.2.2.1 t418) ∧ (NC w' w.heap.size (fun k_ => some k_ ≠ (.slice Ao32 t357.length co32 : Value).ownBlock ∧ some k_ ≠ (.slice Ao71 y387.length co71 : Value).ownBlock ∧ some k_ ≠ (s_.1 : Value).ownBlock ∧ some k_ ≠ (s_.2.1 : Value).ownBlock ∧ some k_ ≠ (s_.2.2.1 : Value).ownBlock ∧ k_ ≠ gb360 ∧ k_ ≠ gb385 ∧ k_ ≠ gb386 ∧ k_ ≠ s_.2.2.2.2.1 ∧ k_ ≠ s_.2.2.2.2.2) s_.2.2.2.1 t421) ∧ (w'.heap[gb360]? = some (.cells #[.slice Ao32 t357.length co32] 27 (0, 0))) ∧ (w'.heap[gb385]? = some (.cells #[.int .i64 t361, .int .i64 t362, .int .i64 t363, .bool t364, .int .i64 t365, .int .i64 t366, .slice Ao47 t367.length co47, .slice Ao49 t370.length co49] 35 (0, 0))) ∧ (w'.heap[gb386]? = some (.cells #[.int .i64 t373, .int .i64 t374, .int .i64 t375, .bool t376, .int .i64 t377, .int .i64 t378, .slice Ao57 t379.length co57, .slice Ao59 t382.length co59] 35 (0, 0))) ∧ (w'.heap[s_.2.2.2.2.1]? = some (.cells #[.int .i64 0, .int .i64 0, .int .i64 0, .bool false, .int .i64 0, .int .i64 0, .slice none 0 0, .slice none 0 0] 35 (0, 0))) ∧ (w'.heap[s_.2.2.2.2.2]? = some (.cells #[.int .i64 0, .int .i64 0, .int .i64 0, .bool false, .int .i64 0, .int .i64 0, .slice none 0 0, .slice none 0 0] 35 (0, 0))) ∧ (w.heap.size ≤ s_.2.2.2.2.1) ∧ (w.heap.size ≤ s_.2.2.2.2.1) ∧ (gb360 ≠ s_.2.2.2.2.1) ∧ (s_.2.2.2.2.1 ≠ gb360) ∧ (gb385 ≠ s_.2.2.2.2.1) ∧ (s_.2.2.2.2.1 ≠ gb385) ∧ (gb386 ≠ s_.2.2.2.2.1) ∧ (s_.2.2.2.2.1 ≠ gb386) ∧ (s_.2.2.2.2.2 ≠ s_.2.2.2.2.1) ∧ (s_.2.2.2.2.1 ≠ s_.2.2.2.2.2) ∧ (w.heap.size ≤ s_.2.2.2.2.2) ∧ (w.heap.size ≤ s_.2.2.2.2.2) ∧ (gb360 ≠ s_.2.2.2.2.2) ∧ (s_.2.2.2.2.2 ≠ gb360) ∧ (gb385 ≠ s_.2.2.2.2.2) ∧ (s_.2.2.2.2.2 ≠ gb385) ∧ (gb386 ≠ s_.2.2.2.2.2) ∧ (s_.2.2.2.2.2 ≠ gb386) ∧ (Below w.heap.size w w') ∧ (Kd.V k35 35 w' w.heap.size (fun k_ => some k_ ≠ (.slice Ao32 t357.length co32 : Value).ownBlock ∧ some k_ ≠ (.slice Ao71 y387.length co71 : Value).ownBlock ∧ some k_ ≠ (s_.1 : Value).ownBlock ∧ some k_ ≠ (s_.2.1 : Value).ownBlock ∧ some k_ ≠ (s_.2.2.1 : Value).ownBlock ∧ some k_ ≠ (s_.2.2.2.1 : Value).ownBlock ∧ k_ ≠ gb360 ∧ k_ ≠ gb385 ∧ k_ ≠ gb386 ∧ k_ ≠ s_.2.2.2.2.1 ∧ k_ ≠ s_.2.2.2.2.2) (.slice Ao49 t370.length co49) t370) ∧ (Kd.V k35 35 w' w.heap.size (fun k_ => some k_ ≠ (.slice Ao32 t357.length co32 : Value).ownBlock ∧ some k_ ≠ (.slice Ao71 y387.length co71 : Value).ownBlock ∧ some k_ ≠ (s_.1 : Value).ownBlock ∧ some k_ ≠ (s_.2.1 : Value).ownBlock ∧ some k_ ≠ (s_.2.2.1 : Value).ownBlock ∧ some k_ ≠ (s_.2.2.2.1 : Value).ownBlock ∧ k_ ≠ gb360 ∧ k_ ≠ gb385 ∧ k_ ≠ gb386 ∧ k_ ≠ s_.2.2.2.2.1 ∧ k_ ≠ s_.2.2.2.2.2) (.slice Ao59 t382.length co59) t382)) ?_ ?_
  rotate_left
  · intro hJ
    have hb0 := below_size HB.out
    refine race w69 _ (FQ t401 t404) (FQ t418 t421) (.cells #[.int .i64 0, .int .i64 0, .int .i64 0, .bool false, .int .i64 0, .int .i64 0, .slice none 0 0, .slice none 0 0] 35 (0, 0)) (fun x => .agg #[.int .i64 t395, .int .i64 t396, .int .i64 t397, .bool t398, .int .i64 t399, .int .i64 t400, x.1, x.2]) (fun x => .agg #[.int .i64 t412, .int .i64 t413, .int .i64 t414, .bool t415, .int .i64 t416, .int .i64 t417, x.1, x.2]) 27 30 11 12 (.bool false, .bool false) (.bool false, .bool false) (FQ_stab _ _) (FQ_stab _ _) ?hS (by decide) rfl rfl rfl rfl rfl rfl rfl rfl (by decide) (three_of HT_.out (by kernel_rfl)) (two_of HT_.out (by kernel_rfl)) (two_of HT_.out (by kernel_rfl)) (one_of HT_.out (by kernel_rfl)) (three_of HT_.out (by kernel_rfl)) (two_of HT_.out (by kernel_rfl)) (two_of HT_.out (by kernel_rfl)) (one_of HT_.out (by kernel_rfl)) (two_of HT_.out (by kernel_rfl)) (one_of HT_.out (by kernel_rfl)) (one_of HT_.out (by kernel_rfl)) ?s2 ?s5 ?s6 ?s7 2 ?fin
    case hS => exact fun w' hb => trivial
    case s2 =>
      intro b6 b7 v2 v5 g6 g7 w1 K hb hk
      refine goes_ Try.func16 (by kernel_rfl) rfl #[.slice Ao71 y390.length co71] rfl rfl rfl (by have e_ := KY70.out.trans KY72.out.symm; cases b6 <;> cases b7 <;> (simp only [List.map_toArray, List.map_cons, List.map_nil]; first | rfl | (rw [← e_]; rfl))) ?_
      refine (All_n.calls k _ _ y390 t395 t396 t397 t398 t399 t400 t401 t404 _ ?_ ?_ A8.out).mono ?_
      · exact Kd.C_below (Kd.V_reads' HO394.out).2.2 hb
      · exact (Kd.V_reads' HO394.out).2.1
      rintro e w2 ⟨u, v, rfl, ho0, ho1, hb2⟩
      exact ⟨_, rfl, hk (u, v) w2 ⟨Kd.R_mono (Kd.R_bound ho0) (fun k h => ⟨h.1, h.2.2.1⟩), NC_mono (NC_bound ho1) (fun k ⟨⟨h1, h2⟩, h3⟩ => ⟨h1, h3, h2⟩)⟩ hb2⟩
    case s5 =>
      intro b6 b7 v2 v5 g6 g7 w1 K hb hk
      refine goes_ Try.func17 (by kernel_rfl) rfl #[.slice Ao71 y407.length co71] rfl rfl rfl (by have e_ := KY70.out.trans KY72.out.symm; cases b6 <;> cases b7 <;> (simp only [List.map_toArray, List.map_cons, List.map_nil]; first | rfl | (rw [← e_]; rfl))) ?_
      refine (Any_n.calls k _ _ y407 t412 t413 t414 t415 t416 t417 t418 t421 _ ?_ ?_ A10.out).mono ?_
      · exact Kd.C_below (Kd.V_reads' HO411.out).2.2 hb
      · exact (Kd.V_reads' HO411.out).2.1
      rintro e w2 ⟨u, v, rfl, ho0, ho1, hb2⟩
      exact ⟨_, rfl, hk (u, v) w2 ⟨Kd.R_mono (Kd.R_bound ho0) (fun k h => ⟨h.1, h.2.2.1⟩), NC_mono (NC_bound ho1) (fun k ⟨⟨h1, h2⟩, h3⟩ => ⟨h1, h3, h2⟩)⟩ hb2⟩
    case s6 =>
      intro b2 b5 b7 v2 v5 g6 g7 w1 K hk
      refine box_step ?hg (N := 11) ?hd (cs := #[.int .i64 0, .int .i64 0, .int .i64 0, .bool false, .int .i64 0, .int .i64 0, .slice none 0 0, .slice none 0 0]) (t := 35) ?hr ?_
      case hd => rfl
      case hg => rfl
      case hr => first | (go_simp; done) | (go_simp; rfl)
      intro g hg w2 hbox hb
      subst hg
      exact hk w2 hbox (blk_lt hbox) hb
    case s7 =>
      intro b2 b5 b6 v2 v5 g6 g7 w1 K hk
      refine box_step ?hg (N := 12) ?hd (cs := #[.int .i64 0, .int .i64 0, .int .i64 0, .bool false, .int .i64 0, .int .i64 0, .slice none 0 0, .slice none 0 0]) (t := 35) ?hr ?_
      case hd => rfl
      case hg => rfl
      case hr => first | (go_simp; done) | (go_simp; rfl)
      intro g hg w2 hbox hb
      subst hg
      exact hk w2 hbox (blk_lt hbox) hb
    case fin =>
      intro x2 x5 lo2 hi2 lo5 hi5 g6 g7 w' hR
      obtain ⟨p1, p2, p3, hv2, hn2⟩ := hR.f2 rfl
      obtain ⟨p4, p5, p6, hv5, hn5⟩ := hR.f5 rfl
      obtain ⟨p7, p8, hb6⟩ := hR.f6 rfl
      obtain ⟨p9, p10, hb7⟩ := hR.f7 rfl
      have m1 := hR.n25 rfl rfl
      have m2 := hR.n26 rfl rfl
      have m3 := hR.n27 rfl rfl
      have m4 := hR.n56 rfl rfl
      have m5 := hR.n57 rfl rfl
      have m6 := hR.n67 rfl rfl
      have hb := hR.below
      have hA := Kd.R_lt HO359.out
      have hL := Kd.N_lt HO389.out
      have hG1 := blk_lt BK360.out
      have hG2 := blk_lt BK385.out
      have hG3 := blk_lt BK386.out
      have hu2 := hv2.1
      have hu5 := hv5.1
      have hv2' := hv2
      have hv5' := hv5
      clear hv2 hv5
      have hv2 := NC_own hn2
      have hv5 := NC_own hn5
      refine norm_ ?_ (hJ (x2.1, x2.2, x5.1, x5.2, g6, g7) w' ⟨Kd.R_below HO359.out hb, ?_, ?_, ?_, ?_, ?_, ?_, ?_, ?_, ?_, blk_below BK360.out hb, blk_below BK385.out hb, blk_below BK386.out hb, hb6, hb7, by (try dsimp only); omega, by (try dsimp only); omega, by (try dsimp only); omega, by (try dsimp only); omega, by (try dsimp only); omega, by (try dsimp only); omega, by (try dsimp only); omega, by (try dsimp only); omega, by (try dsimp only); omega, by (try dsimp only); omega, by (try dsimp only); omega, by (try dsimp only); omega, by (try dsimp only); omega, by (try dsimp only); omega, by (try dsimp only); omega, by (try dsimp only); omega, by (try dsimp only); omega, by (try dsimp only); omega, below_step HB.out hb, ?_, ?_⟩)
      · rfl
      · exact Kd.V_mono (Kd.V_below (Kd.V_bound HO369.out) hb) (fun k ⟨⟨h1, h2⟩, hl⟩ => ⟨h1.1, h2, fun e => by have := hu2 k e.symm; (try dsimp only); omega, fun e => by have := hv2 k e.symm; (try dsimp only); omega, fun e => by have := hu5 k e.symm; (try dsimp only); omega, fun e => by have := hv5 k e.symm; (try dsimp only); omega, h1.2.2.2.1, h1.2.2.2.2.1, h1.2.2.2.2.2, by (try dsimp only); omega, by (try dsimp only); omega⟩)
      · exact Kd.V_mono (Kd.V_below (Kd.V_bound HO381.out) hb) (fun k ⟨⟨h1, h2⟩, hl⟩ => ⟨h1.1, h2, fun e => by have := hu2 k e.symm; (try dsimp only); omega, fun e => by have := hv2 k e.symm; (try dsimp only); omega, fun e => by have := hu5 k e.symm; (try dsimp only); omega, fun e => by have := hv5 k e.symm; (try dsimp only); omega, h1.2.2.2.1, h1.2.2.2.2.1, h1.2.2.2.2.2, by (try dsimp only); omega, by (try dsimp only); omega⟩)
      · exact Kd.N_mono (Kd.N_below (Kd.N_bound HO389.out) hb) (fun k ⟨h1, hl⟩ => ⟨h1.1, fun e => by have := hu2 k e.symm; (try dsimp only); omega, fun e => by have := hv2 k e.symm; (try dsimp only); omega, fun e => by have := hu5 k e.symm; (try dsimp only); omega, fun e => by have := hv5 k e.symm; (try dsimp only); omega, h1.2.1, h1.2.2.1, h1.2.2.2, by (try dsimp only); omega, by (try dsimp only); omega⟩)
      · exact Kd.V_mono (Kd.V_below (Kd.V_bound HO394.out) hb) (fun k ⟨h1, hl⟩ => ⟨h1.1, fun e => by have := hu2 k e.symm; (try dsimp only); omega, fun e => by have := hv2 k e.symm; (try dsimp only); omega, fun e => by have := hu5 k e.symm; (try dsimp only); omega, fun e => by have := hv5 k e.symm; (try dsimp only); omega, h1.2.1, h1.2.2.1, h1.2.2.2, by (try dsimp only); omega, by (try dsimp only); omega⟩)
      · exact Kd.R_mono (Kd.R_lower hv2' (by omega)) (fun k ⟨h1, h2⟩ => fun e => by have := hu5 k e.symm; (try dsimp only); omega)
      · exact NC_mono (NC_lower hn2 (by omega)) (fun k ⟨h1, h2, h3⟩ => ⟨fun e => by have := hA k e.symm; (try dsimp only); omega, fun e => by have := hL k e.symm; (try dsimp only); omega, h3, fun e => by have := hu5 k e.symm; (try dsimp only); omega, fun e => by have := hv5 k e.symm; (try dsimp only); omega, by (try dsimp only); omega, by (try dsimp only); omega, by (try dsimp only); omega, by (try dsimp only); omega, by (try dsimp only); omega⟩)
      · exact Kd.V_mono (Kd.V_below (Kd.V_bound HO411.out) hb) (fun k ⟨h1, hl⟩ => ⟨h1.1, fun e => by have := hu2 k e.symm; (try dsimp only); omega, fun e => by have := hv2 k e.symm; (try dsimp only); omega, fun e => by have := hu5 k e.symm; (try dsimp only); omega, fun e => by have := hv5 k e.symm; (try dsimp only); omega, h1.2.1, h1.2.2.1, h1.2.2.2, by (try dsimp only); omega, by (try dsimp only); omega⟩)
      · exact Kd.R_mono (Kd.R_lower hv5' (by omega)) (fun k ⟨h1, h2⟩ => fun e => by have := hu2 k e.symm; (try dsimp only); omega)
      · exact NC_mono (NC_lower hn5 (by omega)) (fun k ⟨h1, h2, h3⟩ => ⟨fun e => by have := hA k e.symm; (try dsimp only); omega, fun e => by have := hL k e.symm; (try dsimp only); omega, fun e => by have := hu2 k e.symm; (try dsimp only); omega, fun e => by have := hv2 k e.symm; (try dsimp only); omega, h3, by (try dsimp only); omega, by (try dsimp only); omega, by (try dsimp only); omega, by (try dsimp only); omega, by (try dsimp only); omega⟩)
      · exact Kd.V_mono (Kd.V_below (Kd.V_bound HO372.out) hb) (fun k ⟨⟨h1, h2⟩, hl⟩ => ⟨h1.1, h2, fun e => by have := hu2 k e.symm; (try dsimp only); omega, fun e => by have := hv2 k e.symm; (try dsimp only); omega, fun e => by have := hu5 k e.symm; (try dsimp only); omega, fun e => by have := hv5 k e.symm; (try dsimp only); omega, h1.2.2.1, h1.2.2.2.1, h1.2.2.2.2, by (try dsimp only); omega, by (try dsimp only); omega⟩)
      · exact Kd.V_mono (Kd.V_below (Kd.V_bound HO384.out) hb) (fun k ⟨⟨h1, h2⟩, hl⟩ => ⟨h1.1, h2, fun e => by have := hu2 k e.symm; (try dsimp only); omega, fun e => by have := hv2 k e.symm; (try dsimp only); omega, fun e => by have := hu5 k e.symm; (try dsimp only); omega, fun e => by have := hv5 k e.symm; (try dsimp only); omega, h1.2.2.1, h1.2.2.2.1, h1.2.2.2.2, by (try dsimp only); omega, by (try dsimp only); omega⟩)
  rintro ⟨v402, v405, v419, v422, gb424, gb425⟩ w77 ⟨h0_, h1_, h2_, h3_, h4_, h5_, h6_, h7_, h8_, h9_, h10_, h11_, h12_, h13_, h14_, h15_, h16_, h17_, h18_, h19_, h20_, h21_, h22_, h23_, h24_, h25_, h26_, h27_, h28_, h29_, h30_, h31_, h32_, h33_, h34_, h35_⟩
  replace HO359 : Aside0 (Kd.R k58 58 w77 w.heap.size (fun _ => True) (.slice Ao32 t357.length co32) t357) := ⟨h0_⟩
  replace HO369 : Aside0 (Kd.V (Kd.int .u8) 5 w77 w.heap.size (fun k_ => some k_ ≠ (.slice Ao32 t357.length co32 : Value).ownBlock ∧ some k_ ≠ (.slice Ao71 y387.length co71 : Value).ownBlock ∧ some k_ ≠ (v402 : Value).ownBlock ∧ some k_ ≠ (v405 : Value).ownBlock ∧ some k_ ≠ (v419 : Value).ownBlock ∧ some k_ ≠ (v422 : Value).ownBlock ∧ k_ ≠ gb360 ∧ k_ ≠ gb385 ∧ k_ ≠ gb386 ∧ k_ ≠ gb424 ∧ k_ ≠ gb425) (.slice Ao47 t367.length co47) t367) := ⟨h1_⟩
  replace HO372 : Aside0 (Kd.V k35 35 w77 w.heap.size (fun k_ => some k_ ≠ (.slice Ao32 t357.length co32 : Value).ownBlock ∧ some k_ ≠ (.slice Ao71 y387.length co71 : Value).ownBlock ∧ some k_ ≠ (v402 : Value).ownBlock ∧ some k_ ≠ (v405 : Value).ownBlock ∧ some k_ ≠ (v419 : Value).ownBlock ∧ some k_ ≠ (v422 : Value).ownBlock ∧ k_ ≠ gb360 ∧ k_ ≠ gb385 ∧ k_ ≠ gb386 ∧ k_ ≠ gb424 ∧ k_ ≠ gb425) (.slice Ao49 t370.length co49) t370) := ⟨h34_⟩
  replace HO384 : Aside0 (Kd.V k35 35 w77 w.heap.size (fun k_ => some k_ ≠ (.slice Ao32 t357.length co32 : Value).ownBlock ∧ some k_ ≠ (.slice Ao71 y387.length co71 : Value).ownBlock ∧ some k_ ≠ (v402 : Value).ownBlock ∧ some k_ ≠ (v405 : Value).ownBlock ∧ some k_ ≠ (v419 : Value).ownBlock ∧ some k_ ≠ (v422 : Value).ownBlock ∧ k_ ≠ gb360 ∧ k_ ≠ gb385 ∧ k_ ≠ gb386 ∧ k_ ≠ gb424 ∧ k_ ≠ gb425) (.slice Ao59 t382.length co59) t382) := ⟨h35_⟩
  replace HO381 : Aside0 (Kd.V (Kd.int .u8) 5 w77 w.heap.size (fun k_ => some k_ ≠ (.slice Ao32 t357.length co32 : Value).ownBlock ∧ some k_ ≠ (.slice Ao71 y387.length co71 : Value).ownBlock ∧ some k_ ≠ (v402 : Value).ownBlock ∧ some k_ ≠ (v405 : Value).ownBlock ∧ some k_ ≠ (v419 : Value).ownBlock ∧ some k_ ≠ (v422 : Value).ownBlock ∧ k_ ≠ gb360 ∧ k_ ≠ gb385 ∧ k_ ≠ gb386 ∧ k_ ≠ gb424 ∧ k_ ≠ gb425) (.slice Ao57 t379.length co57) t379) := ⟨h2_⟩
  replace HO389 : Aside0 (Kd.N k35 35 w77 w.heap.size (fun k_ => some k_ ≠ (.slice Ao32 t357.length co32 : Value).ownBlock ∧ some k_ ≠ (v402 : Value).ownBlock ∧ some k_ ≠ (v405 : Value).ownBlock ∧ some k_ ≠ (v419 : Value).ownBlock ∧ some k_ ≠ (v422 : Value).ownBlock ∧ k_ ≠ gb360 ∧ k_ ≠ gb385 ∧ k_ ≠ gb386 ∧ k_ ≠ gb424 ∧ k_ ≠ gb425) (.slice Ao71 y387.length co71) y387) := ⟨h3_⟩
  have HO394 : Aside0 (Kd.V k35 35 w77 w.heap.size (fun k_ => some k_ ≠ (.slice Ao32 t357.length co32 : Value).ownBlock ∧ some k_ ≠ (v402 : Value).ownBlock ∧ some k_ ≠ (v405 : Value).ownBlock ∧ some k_ ≠ (v419 : Value).ownBlock ∧ some k_ ≠ (v422 : Value).ownBlock ∧ k_ ≠ gb360 ∧ k_ ≠ gb385 ∧ k_ ≠ gb386 ∧ k_ ≠ gb424 ∧ k_ ≠ gb425) (.slice Ao71 y390.length co71) y390) := ⟨h4_⟩
  have HO403 : Aside0 (Kd.R (Kd.int .u8) 5 w77 w.heap.size (fun k_ => some k_ ≠ (v419 : Value).ownBlock) v402 t401) := ⟨h5_⟩
  have HO406 : Aside0 (NC w77 w.heap.size (fun k_ => some k_ ≠ (.slice Ao32 t357.length co32 : Value).ownBlock ∧ some k_ ≠ (.slice Ao71 y387.length co71 : Value).ownBlock ∧ some k_ ≠ (v402 : Value).ownBlock ∧ some k_ ≠ (v419 : Value).ownBlock ∧ some k_ ≠ (v422 : Value).ownBlock ∧ k_ ≠ gb360 ∧ k_ ≠ gb385 ∧ k_ ≠ gb386 ∧ k_ ≠ gb424 ∧ k_ ≠ gb425) v405 t404) := ⟨h6_⟩
  have HO411 : Aside0 (Kd.V k35 35 w77 w.heap.size (fun k_ => some k_ ≠ (.slice Ao32 t357.length co32 : Value).ownBlock ∧ some k_ ≠ (v402 : Value).ownBlock ∧ some k_ ≠ (v405 : Value).ownBlock ∧ some k_ ≠ (v419 : Value).ownBlock ∧ some k_ ≠ (v422 : Value).ownBlock ∧ k_ ≠ gb360 ∧ k_ ≠ gb385 ∧ k_ ≠ gb386 ∧ k_ ≠ gb424 ∧ k_ ≠ gb425) (.slice Ao71 y407.length co71) y407) := ⟨h7_⟩
  have HO420 : Aside0 (Kd.R (Kd.int .u8) 5 w77 w.heap.size (fun k_ => some k_ ≠ (v402 : Value).ownBlock) v419 t418) := ⟨h8_⟩
  have HO423 : Aside0 (NC w77 w.heap.size (fun k_ => some k_ ≠ (.slice Ao32 t357.length co32 : Value).ownBlock ∧ some k_ ≠ (.slice Ao71 y387.length co71 : Value).ownBlock ∧ some k_ ≠ (v402 : Value).ownBlock ∧ some k_ ≠ (v405 : Value).ownBlock ∧ some k_ ≠ (v419 : Value).ownBlock ∧ k_ ≠ gb360 ∧ k_ ≠ gb385 ∧ k_ ≠ gb386 ∧ k_ ≠ gb424 ∧ k_ ≠ gb425) v422 t421) := ⟨h9_⟩
  replace BK360 : Aside0 (w77.heap[gb360]? = some (.cells #[.slice Ao32 t357.length co32] 27 (0, 0))) := ⟨h10_⟩
  replace BK385 : Aside0 (w77.heap[gb385]? = some (.cells #[.int .i64 t361, .int .i64 t362, .int .i64 t363, .bool t364, .int .i64 t365, .int .i64 t366, .slice Ao47 t367.length co47, .slice Ao49 t370.length co49] 35 (0, 0))) := ⟨h11_⟩
  replace BK386 : Aside0 (w77.heap[gb386]? = some (.cells #[.int .i64 t373, .int .i64 t374, .int .i64 t375, .bool t376, .int .i64 t377, .int .i64 t378, .slice Ao57 t379.length co57, .slice Ao59 t382.length co59] 35 (0, 0))) := ⟨h12_⟩
  have BK424 : Aside0 (w77.heap[gb424]? = some (.cells #[.int .i64 0, .int .i64 0, .int .i64 0, .bool false, .int .i64 0, .int .i64 0, .slice none 0 0, .slice none 0 0] 35 (0, 0))) := ⟨h13_⟩
  have BK425 : Aside0 (w77.heap[gb425]? = some (.cells #[.int .i64 0, .int .i64 0, .int .i64 0, .bool false, .int .i64 0, .int .i64 0, .slice none 0 0, .slice none 0 0] 35 (0, 0))) := ⟨h14_⟩
  have GW424 : Aside0 (w.heap.size ≤ gb424) := ⟨h15_⟩
  have GE424 : Aside0 (w.heap.size ≤ gb424) := ⟨h16_⟩
  have NB360_424 : Aside0 (gb360 ≠ gb424) := ⟨h17_⟩
  have NB424_360 : Aside0 (gb424 ≠ gb360) := ⟨h18_⟩
  have NB385_424 : Aside0 (gb385 ≠ gb424) := ⟨h19_⟩
  have NB424_385 : Aside0 (gb424 ≠ gb385) := ⟨h20_⟩
  have NB386_424 : Aside0 (gb386 ≠ gb424) := ⟨h21_⟩
  have NB424_386 : Aside0 (gb424 ≠ gb386) := ⟨h22_⟩
  have NB425_424 : Aside0 (gb425 ≠ gb424) := ⟨h23_⟩
  have NB424_425 : Aside0 (gb424 ≠ gb425) := ⟨h24_⟩
  have GW425 : Aside0 (w.heap.size ≤ gb425) := ⟨h25_⟩
  have GE425 : Aside0 (w.heap.size ≤ gb425) := ⟨h26_⟩
  have NB360_425 : Aside0 (gb360 ≠ gb425) := ⟨h27_⟩
  have NB425_360 : Aside0 (gb425 ≠ gb360) := ⟨h28_⟩
  have NB385_425 : Aside0 (gb385 ≠ gb425) := ⟨h29_⟩
  have NB425_385 : Aside0 (gb425 ≠ gb385) := ⟨h30_⟩
  have NB386_425 : Aside0 (gb386 ≠ gb425) := ⟨h31_⟩
  have NB425_386 : Aside0 (gb425 ≠ gb386) := ⟨h32_⟩
  replace HB : Aside0 (Below w.heap.size w w77) := ⟨h33_⟩
  clear h0_ h1_ h2_ h3_ h4_ h5_ h6_ h7_ h8_ h9_ h10_ h11_ h12_ h13_ h14_ h15_ h16_ h17_ h18_ h19_ h20_ h21_ h22_ h23_ h24_ h25_ h26_ h27_ h28_ h29_ h30_ h31_ h32_ h33_ h34_ h35_
  have hHeld := trivial
  obtain ⟨Ao84, co84, eo84⟩ := Kd.R_slice HO403.out
  (first | subst eo84 | (injection eo84 with f1_ f2_ f3_; have f4_ := f1_.symm; have f5_ := f3_.symm; clear f1_ f2_ f3_; subst f4_; subst f5_))
  obtain ⟨Ao86, co86, cx86, eo86, hlco86, hnco86⟩ := HO406.out
  subst eo86
  clear HO406
  have HO406 := Aside0.mk hnco86
  have HLco86 := Aside0.mk hlco86
  clear hnco86 hlco86
  obtain ⟨Ao94, co94, eo94⟩ := Kd.R_slice HO420.out
  (first | subst eo94 | (injection eo94 with f1_ f2_ f3_; have f4_ := f1_.symm; have f5_ := f3_.symm; clear f1_ f2_ f3_; subst f4_; subst f5_))
  obtain ⟨Ao96, co96, cx96, eo96, hlco96, hnco96⟩ := HO423.out
  subst eo96
  clear HO423
  have HO423 := Aside0.mk hnco96
  have HLco96 := Aside0.mk hlco96
  clear hnco96 hlco96
  refine norm_ (a' := ?_) ?_ ?_
  rotate_left
  · simp only [putAll, Act.put, List.setIfInBounds_toArray, List.set_cons_zero, List.set_cons_succ]
    rfl
  refine one_ (i := 8) (N := none) #[true, true, true, true, true, true, true, true, true, false] rfl rfl (one_of HT_.out (by kernel_rfl)) (by decide) (fun K hK => ?_)
  refine skip_put (u := .agg #[.int .i64 t395, .int .i64 t396, .int .i64 t397, .bool t398, .int .i64 t399, .int .i64 t400, .slice Ao84 t401.length co84, .slice Ao86 t404.length co86]) (cs' := #[.int .i64 t395, .int .i64 t396, .int .i64 t397, .bool t398, .int .i64 t399, .int .i64 t400, .slice Ao84 t401.length co84, .slice Ao86 t404.length co86]) (by rfl) rfl rfl (by first | rfl | (go_simp; done) | (go_simp; rfl)) (by first | rfl | (go_simp; done) | (go_simp; rfl)) BK424.out (by first | rfl | simp [Value.cells]) (by kernel_rfl) rfl (by simp [Value.oneCell']) (fun w78_ hq_ hP_ => ?_)
  refine hK.out _ _ (trivial) (fun hHeld => ?_)
  clear hK K
  have n0_ := Aside0.mk (hP_.R_typed HO359.out BK424.out (by decide))
  have n1_ := Aside0.mk (Kd.V_step HO369.out (fun k hk _ => hP_.far k hk.2.2.2.2.2.2.2.2.2.1))
  have n2_ := Aside0.mk (Kd.V_step HO381.out (fun k hk _ => hP_.far k hk.2.2.2.2.2.2.2.2.2.1))
  have n3_ := Aside0.mk (Kd.N_step HO389.out (fun k hk _ => hP_.far k hk.2.2.2.2.2.2.2.2.1))
  have n4_ := Aside0.mk (Kd.V_step HO394.out (fun k hk _ => hP_.far k hk.2.2.2.2.2.2.2.2.1))
  have n5_ := Aside0.mk (hP_.R_typed HO403.out BK424.out (by decide))
  have n6_ := Aside0.mk (Kd.N_step HO406.out (fun k hk _ => hP_.far k hk.2.2.2.2.2.2.2.2.1))
  have n7_ := Aside0.mk (Kd.V_step HO411.out (fun k hk _ => hP_.far k hk.2.2.2.2.2.2.2.2.1))
  have n8_ := Aside0.mk (hP_.R_typed HO420.out BK424.out (by decide))
  have n9_ := Aside0.mk (Kd.N_step HO423.out (fun k hk _ => hP_.far k hk.2.2.2.2.2.2.2.2.1))
  have n10_ := Aside0.mk (Kd.V_step HO372.out (fun k hk _ => hP_.far k hk.2.2.2.2.2.2.2.2.2.1))
  have n11_ := Aside0.mk (Kd.V_step HO384.out (fun k hk _ => hP_.far k hk.2.2.2.2.2.2.2.2.2.1))
  have n12_ := Aside0.mk (hP_.blk BK360.out NB360_424.out)
  have n13_ := Aside0.mk (hP_.blk BK385.out NB385_424.out)
  have n14_ := Aside0.mk (hP_.blk BK386.out NB386_424.out)
  have n15_ := Aside0.mk (hP_.blk BK425.out NB425_424.out)
  have n16_ := Aside0.mk (hP_.below HB.out GE424.out)
  have nb_ := Aside0.mk hq_
  clear hq_ hP_ HO359 HO369 HO381 HO389 HO394 HO403 HO406 HO411 HO420 HO423 HO372 HO384 BK360 BK385 BK386 BK425 HB BK424
  have HO359 := n0_
  have HO369 := n1_
  have HO381 := n2_
  have HO389 := n3_
  have HO394 := n4_
  have HO403 := n5_
  have HO406 := n6_
  have HO411 := n7_
  have HO420 := n8_
  have HO423 := n9_
  have HO372 := n10_
  have HO384 := n11_
  have BK360 := n12_
  have BK385 := n13_
  have BK386 := n14_
  have BK425 := n15_
  have HB := n16_
  have BK424 := nb_
  clear nb_ n0_ n1_ n2_ n3_ n4_ n5_ n6_ n7_ n8_ n9_ n10_ n11_ n12_ n13_ n14_ n15_ n16_
  refine one_ (i := 9) (N := none) #[true, true, true, true, true, true, true, true, true, true] rfl rfl (one_of HT_.out (by kernel_rfl)) (by decide) (fun K hK => ?_)
  refine skip_put (u := .agg #[.int .i64 t412, .int .i64 t413, .int .i64 t414, .bool t415, .int .i64 t416, .int .i64 t417, .slice Ao94 t418.length co94, .slice Ao96 t421.length co96]) (cs' := #[.int .i64 t412, .int .i64 t413, .int .i64 t414, .bool t415, .int .i64 t416, .int .i64 t417, .slice Ao94 t418.length co94, .slice Ao96 t421.length co96]) (by rfl) rfl rfl (by first | rfl | (go_simp; done) | (go_simp; rfl)) (by first | rfl | (go_simp; done) | (go_simp; rfl)) BK425.out (by first | rfl | simp [Value.cells]) (by kernel_rfl) rfl (by simp [Value.oneCell']) (fun w98 hq_ hP_ => ?_)
  refine hK.out _ _ (trivial) (fun hHeld => ?_)
  clear hK K
  have n0_ := Aside0.mk (hP_.R_typed HO359.out BK425.out (by decide))
  have n1_ := Aside0.mk (Kd.V_step HO369.out (fun k hk _ => hP_.far k hk.2.2.2.2.2.2.2.2.2.2))
  have n2_ := Aside0.mk (Kd.V_step HO381.out (fun k hk _ => hP_.far k hk.2.2.2.2.2.2.2.2.2.2))
  have n3_ := Aside0.mk (Kd.N_step HO389.out (fun k hk _ => hP_.far k hk.2.2.2.2.2.2.2.2.2))
  have n4_ := Aside0.mk (Kd.V_step HO394.out (fun k hk _ => hP_.far k hk.2.2.2.2.2.2.2.2.2))
  have n5_ := Aside0.mk (hP_.R_typed HO403.out BK425.out (by decide))
  have n6_ := Aside0.mk (Kd.N_step HO406.out (fun k hk _ => hP_.far k hk.2.2.2.2.2.2.2.2.2))
  have n7_ := Aside0.mk (Kd.V_step HO411.out (fun k hk _ => hP_.far k hk.2.2.2.2.2.2.2.2.2))
  have n8_ := Aside0.mk (hP_.R_typed HO420.out BK425.out (by decide))
  have n9_ := Aside0.mk (Kd.N_step HO423.out (fun k hk _ => hP_.far k hk.2.2.2.2.2.2.2.2.2))
  have n10_ := Aside0.mk (Kd.V_step HO372.out (fun k hk _ => hP_.far k hk.2.2.2.2.2.2.2.2.2.2))
  have n11_ := Aside0.mk (Kd.V_step HO384.out (fun k hk _ => hP_.far k hk.2.2.2.2.2.2.2.2.2.2))
  have n12_ := Aside0.mk (hP_.blk BK360.out NB360_425.out)
  have n13_ := Aside0.mk (hP_.blk BK385.out NB385_425.out)
  have n14_ := Aside0.mk (hP_.blk BK386.out NB386_425.out)
  have n15_ := Aside0.mk (hP_.blk BK424.out NB424_425.out)
  have n16_ := Aside0.mk (hP_.below HB.out GE425.out)
  have nb_ := Aside0.mk hq_
  clear hq_ hP_ HO359 HO369 HO381 HO389 HO394 HO403 HO406 HO411 HO420 HO423 HO372 HO384 BK360 BK385 BK386 BK424 HB BK425
  have HO359 := n0_
  have HO369 := n1_
  have HO381 := n2_
  have HO389 := n3_
  have HO394 := n4_
  have HO403 := n5_
  have HO406 := n6_
  have HO411 := n7_
  have HO420 := n8_
  have HO423 := n9_
  have HO372 := n10_
  have HO384 := n11_
  have BK360 := n12_
  have BK385 := n13_
  have BK386 := n14_
  have BK424 := n15_
  have HB := n16_
  have BK425 := nb_
  clear nb_ n0_ n1_ n2_ n3_ n4_ n5_ n6_ n7_ n8_ n9_ n10_ n11_ n12_ n13_ n14_ n15_ n16_
  refine done_ (done_of HT_.out (by kernel_rfl)) ?_
  have hnb99 := NB424_360.out
  have hnc99 := NB360_424.out
  have hnb100 := NB424_385.out
  have hnc100 := NB385_424.out
  have hnb101 := NB424_386.out
  have hnc101 := NB386_424.out
  have hnb102 := NB424_425.out
  have hnc102 := NB425_424.out
  obtain ⟨hcz103_0, hcz103_1, hcz103_2, hcz103_3, hcz103_4, hcz103_5, hcz103_6, hcz103_7⟩ := cells8 BK424.out
  obtain ⟨hfz103_0, hfz103_1, hfz103_2, hfz103_3, hfz103_4, hfz103_5, hfz103_6, hfz103_7⟩ := frozen8 BK424.out
  have hnb104 := NB425_360.out
  have hnc104 := NB360_425.out
  have hnb105 := NB425_385.out
  have hnc105 := NB385_425.out
  have hnb106 := NB425_386.out
  have hnc106 := NB386_425.out
  obtain ⟨hcz107_0, hcz107_1, hcz107_2, hcz107_3, hcz107_4, hcz107_5, hcz107_6, hcz107_7⟩ := cells8 BK425.out
  obtain ⟨hfz107_0, hfz107_1, hfz107_2, hfz107_3, hfz107_4, hfz107_5, hfz107_6, hfz107_7⟩ := frozen8 BK425.out
  have p14 : 0 ≤ (0 : Int) := (by omega)
  have q14 : (0 : Int) < ((y387.length : Int) : Int) := of_decide_eq_true (by first | (with_reducible assumption) | assumption)
  have qi14 : (0 < y387.length) = True := eq_true (by omega)
  obtain ⟨go14, co14, eo14, gb14, gl14, cl14, HG14⟩ := Kd.N_form HO389.out (by omega)
  (first | cases eo14 | (injection eo14 with ea_ en_ ec_; (first | subst ea_ | (injection ea_ with ea_; subst ea_)); subst ec_; clear en_))
  have GB14 := Aside0.mk gb14
  have GG14 := Aside0.mk HG14
  clear gb14 gl14 HG14
  obtain ⟨ce14, hcl14, hM14, hcc14, hfr14⟩ := Kd.N_elem HO389.out z35 (0 : Int) p14 q14
  replace p14 := eq_true p14
  replace q14 := eq_true q14
  try go_wp2_with (first | ((with_reducible refine gate_store (t := 35) (p := 43) rfl ?_); refine Kd.N_store k35 (w0 := w) w.heap.size rfl rfl 35 (.tmp 43) _ rfl 35 (g := go14) (n := y387.length) (cap := co71) (o' := 0) 0 0 y387 (⟨77, 0, 0, (⟨false, 0, 0, ([] : List Int)⟩ : S32), ([] : List (S35))⟩ : S35) (.agg #[.int .i64 77, .int .i64 0, .int .i64 0, .bool false, .int .i64 0, .int .i64 0, .slice none 0 0, .slice none 0 0]) [.int .i64 77, .int .i64 0, .int .i64 0, .bool false, .int .i64 0, .int .i64 0, .slice none 0 0, .slice none 0 0] ce14 _ (fun _ => False) (by first | rfl | (go_simp; done) | (go_simp; rfl)) (by decide) (by first | rfl | (go_simp; done) | (go_simp; rfl)) (by first | rfl | simp [Value.cells]) (by kernel_rfl) (by simp [Value.oneCell']) HO389.out (by decide) (of_eq_true q14) hcl14 hcc14 (by decide) (by rw [List.take_zero, List.nil_append, List.drop_of_length_le (by rw [hcl14]; decide), List.append_nil]; exact k35_mkF _ _ (⟨77, 0, 0, (⟨false, 0, 0, ([] : List Int)⟩ : S32), ([] : List (S35))⟩ : S35) (Nat.le_refl _) (Kd.F_nil _ _ _) (Nat.le_refl _) (Kd.F_nil _ _ _)) (fun _ h_ => h_.elim) HB.out ?_; intro w109 hp_ hb hg; rw [← Ny426.out] at hp_; have n1_ := Aside0.mk (blk_grown BK360.out hg (Kd.N_ne HO389.out BK360.out (by decide))); have n2_ := Aside0.mk (Kd.V_grown HO369.out hg (fun k hk => hk.2.1)); have n37202_ := Aside0.mk (Kd.V_grown HO372.out hg (fun k hk => hk.2.1)); have n3_ := Aside0.mk (Kd.V_grown HO381.out hg (fun k hk => hk.2.1)); have n38403_ := Aside0.mk (Kd.V_grown HO384.out hg (fun k hk => hk.2.1)); have n4_ := Aside0.mk (blk_grown BK385.out hg (Kd.N_away HO389.out (fun _ hk => hk.2.2.2.2.2.2.1))); have n5_ := Aside0.mk (blk_grown BK386.out hg (Kd.N_away HO389.out (fun _ hk => hk.2.2.2.2.2.2.2.1))); have n6_ := Aside0.mk (hp_); have n8_ := Aside0.mk (Kd.N_grown HO406.out hg (fun k hk => hk.2.1)); have n10_ := Aside0.mk (Kd.N_grown HO423.out hg (fun k hk => hk.2.1)); have n11_ := Aside0.mk (blk_grown BK424.out hg (Kd.N_away HO389.out (fun _ hk => hk.2.2.2.2.2.2.2.2.1))); have n12_ := Aside0.mk (blk_grown BK425.out hg (Kd.N_away HO389.out (fun _ hk => hk.2.2.2.2.2.2.2.2.2))); have n13_ := Aside0.mk hb; clear BK360; clear HO369; (try clear HO372); clear HO381; (try clear HO384); clear BK385; clear BK386; clear HO389; clear HO406; clear HO423; clear BK424; clear BK425; clear HB; have BK360 := n1_; have HO369 := n2_; have HO372 := n37202_; clear n37202_; have HO381 := n3_; have HO384 := n38403_; clear n38403_; have BK385 := n4_; have BK386 := n5_; have HO389 := n6_; have HO406 := n8_; have HO423 := n10_; have BK424 := n11_; have BK425 := n12_; have HB := n13_; clear n1_ n2_ n3_ n4_ n5_ n6_ n8_ n10_ n11_ n12_ n13_; clear hg hb hp_; have hcz110_0 : w109.cell? ⟨gb424, 0, none⟩ = some (.int .i64 t395) := (blk_cell BK424.out 0).trans rfl; have hcz110_1 : w109.cell? ⟨gb424, 1, none⟩ = some (.int .i64 t396) := (blk_cell BK424.out 1).trans rfl; have hcz110_2 : w109.cell? ⟨gb424, 2, none⟩ = some (.int .i64 t397) := (blk_cell BK424.out 2).trans rfl; have hcz110_3 : w109.cell? ⟨gb424, 3, none⟩ = some (.bool t398) := (blk_cell BK424.out 3).trans rfl; have hcz110_4 : w109.cell? ⟨gb424, 4, none⟩ = some (.int .i64 t399) := (blk_cell BK424.out 4).trans rfl; have hcz110_5 : w109.cell? ⟨gb424, 5, none⟩ = some (.int .i64 t400) := (blk_cell BK424.out 5).trans rfl; have hcz110_6 : w109.cell? ⟨gb424, 6, none⟩ = some (.slice Ao84 t401.length co84) := (blk_cell BK424.out 6).trans rfl; have hcz110_7 : w109.cell? ⟨gb424, 7, none⟩ = some (.slice Ao86 t404.length co86) := (blk_cell BK424.out 7).trans rfl; have hfz110_0 := blk_frozen BK424.out 0; have hfz110_1 := blk_frozen BK424.out 1; have hfz110_2 := blk_frozen BK424.out 2; have hfz110_3 := blk_frozen BK424.out 3; have hfz110_4 := blk_frozen BK424.out 4; have hfz110_5 := blk_frozen BK424.out 5; have hfz110_6 := blk_frozen BK424.out 6; have hfz110_7 := blk_frozen BK424.out 7; have p16 : 0 ≤ (1 : Int) := (by omega); have q16 : (1 : Int) < ((t404.length : Int) : Int) := of_decide_eq_true (by first | (with_reducible assumption) | assumption); have qi16 : (1 < t404.length) = True := eq_true (by omega); obtain ⟨go16, co16, eo16, gb16, gl16, cl16, HG16⟩ := Kd.N_form HO406.out (by omega); (first | cases eo16 | (injection eo16 with ea_ en_ ec_; (first | subst ea_ | (injection ea_ with ea_; subst ea_)); subst ec_; clear en_)); have GB16 := Aside0.mk gb16; have GG16 := Aside0.mk HG16; clear gb16 gl16 HG16; obtain ⟨ce16, hcl16, hM16, hcc16, hfr16⟩ := Kd.N_elem HO406.out z35 (1 : Int) p16 q16; replace p16 := eq_true p16; replace q16 := eq_true q16) | ((with_reducible refine gate_store (t := 35) (p := 47) rfl ?_); refine Kd.N_store k35 (w0 := w) w.heap.size rfl rfl 35 (.tmp 47) _ rfl 35 (g := go16) (n := t404.length) (cap := cx86) (o' := 8) 1 0 t404 (⟨78, 0, 0, (⟨false, 0, 0, ([] : List Int)⟩ : S32), ([] : List (S35))⟩ : S35) (.agg #[.int .i64 78, .int .i64 0, .int .i64 0, .bool false, .int .i64 0, .int .i64 0, .slice none 0 0, .slice none 0 0]) [.int .i64 78, .int .i64 0, .int .i64 0, .bool false, .int .i64 0, .int .i64 0, .slice none 0 0, .slice none 0 0] ce16 _ (fun _ => False) (by first | rfl | (go_simp; done) | (go_simp; rfl)) (by decide) (by first | rfl | (go_simp; done) | (go_simp; rfl)) (by first | rfl | simp [Value.cells]) (by kernel_rfl) (by simp [Value.oneCell']) HO406.out (by decide) (of_eq_true q16) hcl16 hcc16 (by decide) (by rw [List.take_zero, List.nil_append, List.drop_of_length_le (by rw [hcl16]; decide), List.append_nil]; exact k35_mkF _ _ (⟨78, 0, 0, (⟨false, 0, 0, ([] : List Int)⟩ : S32), ([] : List (S35))⟩ : S35) (Nat.le_refl _) (Kd.F_nil _ _ _) (Nat.le_refl _) (Kd.F_nil _ _ _)) (fun _ h_ => h_.elim) HB.out ?_; intro w112 hp_ hb hg; rw [← Ny427.out] at hp_; have n1_ := Aside0.mk (blk_grown BK360.out hg (Kd.N_ne HO406.out BK360.out (by decide))); have n2_ := Aside0.mk (Kd.V_grown HO369.out hg (fun k hk => hk.2.2.2.1)); have n37202_ := Aside0.mk (Kd.V_grown HO372.out hg (fun k hk => hk.2.2.2.1)); have n3_ := Aside0.mk (Kd.V_grown HO381.out hg (fun k hk => hk.2.2.2.1)); have n38403_ := Aside0.mk (Kd.V_grown HO384.out hg (fun k hk => hk.2.2.2.1)); have n4_ := Aside0.mk (blk_grown BK385.out hg (Kd.N_away HO406.out (fun _ hk => hk.2.2.2.2.2.2.1))); have n5_ := Aside0.mk (blk_grown BK386.out hg (Kd.N_away HO406.out (fun _ hk => hk.2.2.2.2.2.2.2.1))); have n6_ := Aside0.mk (Kd.N_grown HO389.out hg (fun k hk => hk.2.2.1)); have n8_ := Aside0.mk (hp_); have n10_ := Aside0.mk (Kd.N_grown HO423.out hg (fun k hk => hk.2.2.2.1)); have n11_ := Aside0.mk (blk_grown BK424.out hg (Kd.N_away HO406.out (fun _ hk => hk.2.2.2.2.2.2.2.2.1))); have n12_ := Aside0.mk (blk_grown BK425.out hg (Kd.N_away HO406.out (fun _ hk => hk.2.2.2.2.2.2.2.2.2))); have n13_ := Aside0.mk hb; clear BK360; clear HO369; (try clear HO372); clear HO381; (try clear HO384); clear BK385; clear BK386; clear HO389; clear HO406; clear HO423; clear BK424; clear BK425; clear HB; have BK360 := n1_; have HO369 := n2_; have HO372 := n37202_; clear n37202_; have HO381 := n3_; have HO384 := n38403_; clear n38403_; have BK385 := n4_; have BK386 := n5_; have HO389 := n6_; have HO406 := n8_; have HO423 := n10_; have BK424 := n11_; have BK425 := n12_; have HB := n13_; clear n1_ n2_ n3_ n4_ n5_ n6_ n8_ n10_ n11_ n12_ n13_; clear hg hb hp_))
  have n1_ := Aside0.mk (Kd.V_drew HO369.out)
  have n37201_ := Aside0.mk (Kd.V_drew HO372.out)
  have n2_ := Aside0.mk (Kd.V_drew HO381.out)
  have n38402_ := Aside0.mk (Kd.V_drew HO384.out)
  have n3_ := Aside0.mk (Kd.N_drew HO389.out)
  have n5_ := Aside0.mk (Kd.N_drew HO406.out)
  have n7_ := Aside0.mk (Kd.N_drew HO423.out)
  have n8_ := Aside0.mk (blk_drew BK360.out)
  have n9_ := Aside0.mk (blk_drew BK385.out)
  have n10_ := Aside0.mk (blk_drew BK386.out)
  have n11_ := Aside0.mk (blk_drew BK424.out)
  have n12_ := Aside0.mk (blk_drew BK425.out)
  have n13_ := Aside0.mk (below_drew1 HB.out)
  clear HO369
  (try clear HO372)
  clear HO381
  (try clear HO384)
  clear HO389 HO406 HO423 BK360 BK385 BK386 BK424 BK425 HB
  have HO369 := n1_
  have HO372 := n37201_
  clear n37201_
  have HO381 := n2_
  have HO384 := n38402_
  clear n38402_
  have HO389 := n3_
  have HO406 := n5_
  have HO423 := n7_
  have BK360 := n8_
  have BK385 := n9_
  have BK386 := n10_
  have BK424 := n11_
  have BK425 := n12_
  have HB := n13_
  clear n1_ n2_ n3_ n5_ n7_ n8_ n9_ n10_ n11_ n12_ n13_
  have p428 : 0 ≤ (0 : Int) := (by omega)
  have q428 : 0 < (y427.length : Int) := (by have h_ : (0 : Int) < ((t404.length : Int) : Int) := of_decide_eq_true (by first | (with_reducible assumption) | assumption); first | (have e_ := (Kd.N_reads' HO406.out).1; omega) | simpa only [Ny427.out, List.length_set] using h_)
  have ql428 : ((0 : Int) < ((t404.length : Int) : Int)) = True := eq_true (of_decide_eq_true (by first | (with_reducible assumption) | assumption))
  (try have qn428 : (0 < t404.length) = True := eq_true (by have h_ : (0 : Int) < ((t404.length : Int) : Int) := of_decide_eq_true (by first | (with_reducible assumption) | assumption); omega))
  obtain ⟨ad428, A428_6, c428_6, A428_7, c428_7, e428, hx428_0, hx428_1, hx428_2, hx428_3, hx428_4, hx428_5, hx428_6, hx428_7, hl428_6, hi428_6, hl428_7, hi428_7⟩ := at_T35 (Kd.N_reads' HO406.out).2.2 0 p428 q428
  obtain rfl : (⟨go16, 0, none⟩ : Addr) = ad428 := (by injection e428)
  obtain ⟨ce428, hce428, hMe428, hcc428⟩ := Kd.N_get HO406.out z35 0 p428 (by first | exact q428 | exact of_decide_eq_true (by first | (with_reducible assumption) | assumption) | (have e_ := (Kd.N_reads' HO406.out).1; omega))
  obtain ⟨ua428_6, uc428_6, ua428_7, uc428_7, rfl, ul428_6, ge428_6, ul428_7, ge428_7⟩ := k35_openF hMe428
  have hv428_6 := hcc428 6 _ rfl
  rw [add_field _ _ 6 (by omega)] at hv428_6
  replace hv428_6 := Option.some.inj (hv428_6.symm.trans hx428_6)
  injection hv428_6 with hva_ hvn_ hvc_
  rw [hva_] at ge428_6
  rw [hvc_] at ul428_6
  have HL428_6 := Aside0.mk (show Kd.V (Kd.int .u8) 5 _ w.heap.size _ _ ((rd_T35 y427 0).f3.f3) from Kd.V_mk ul428_6 ge428_6)
  clear hva_ hvn_ hvc_ ge428_6 ul428_6
  have hv428_7 := hcc428 7 _ rfl
  rw [add_field _ _ 7 (by omega)] at hv428_7
  replace hv428_7 := Option.some.inj (hv428_7.symm.trans hx428_7)
  injection hv428_7 with hva_ hvn_ hvc_
  rw [hva_] at ge428_7
  rw [hvc_] at ul428_7
  have HL428_7 := Aside0.mk (show Kd.V k35 35 _ w.heap.size _ _ ((rd_T35 y427 0).f4) from Kd.V_mk ul428_7 ge428_7)
  clear hva_ hvn_ hvc_ ge428_7 ul428_7 hcc428 hce428
  (first | simp only [add_plain] at hx428_0 | simp only [add_at] at hx428_0 | simp only [Addr.add, Nat.zero_add] at hx428_0 | skip)
  (first | simp only [add_plain] at hx428_1 | simp only [add_at] at hx428_1 | simp only [Addr.add, Nat.zero_add] at hx428_1 | skip)
  (first | simp only [add_plain] at hx428_2 | simp only [add_at] at hx428_2 | simp only [Addr.add, Nat.zero_add] at hx428_2 | skip)
  (first | simp only [add_plain] at hx428_3 | simp only [add_at] at hx428_3 | simp only [Addr.add, Nat.zero_add] at hx428_3 | skip)
  (first | simp only [add_plain] at hx428_4 | simp only [add_at] at hx428_4 | simp only [Addr.add, Nat.zero_add] at hx428_4 | skip)
  (first | simp only [add_plain] at hx428_5 | simp only [add_at] at hx428_5 | simp only [Addr.add, Nat.zero_add] at hx428_5 | skip)
  (first | simp only [add_plain] at hx428_6 | simp only [add_at] at hx428_6 | simp only [Addr.add, Nat.zero_add] at hx428_6 | skip)
  (first | simp only [add_plain] at hx428_7 | simp only [add_at] at hx428_7 | simp only [Addr.add, Nat.zero_add] at hx428_7 | skip)
  have qi428 : (0 < y427.length) = True := eq_true (by omega)
  (try rw [show ((0 : Int)).toNat = 0 from rfl] at hx428_0)
  (try rw [show 0 * 8 = 0 from rfl] at hx428_0)
  (try rw [Addr.add_zero'] at hx428_0)
  (try rw [show ((0 : Int)).toNat = 0 from rfl] at hx428_1)
  (try rw [show 0 * 8 = 0 from rfl] at hx428_1)
  (try rw [Addr.add_zero'] at hx428_1)
  (try rw [show ((0 : Int)).toNat = 0 from rfl] at hx428_2)
  (try rw [show 0 * 8 = 0 from rfl] at hx428_2)
  (try rw [Addr.add_zero'] at hx428_2)
  (try rw [show ((0 : Int)).toNat = 0 from rfl] at hx428_3)
  (try rw [show 0 * 8 = 0 from rfl] at hx428_3)
  (try rw [Addr.add_zero'] at hx428_3)
  (try rw [show ((0 : Int)).toNat = 0 from rfl] at hx428_4)
  (try rw [show 0 * 8 = 0 from rfl] at hx428_4)
  (try rw [Addr.add_zero'] at hx428_4)
  (try rw [show ((0 : Int)).toNat = 0 from rfl] at hx428_5)
  (try rw [show 0 * 8 = 0 from rfl] at hx428_5)
  (try rw [Addr.add_zero'] at hx428_5)
  (try rw [show ((0 : Int)).toNat = 0 from rfl] at hx428_6)
  (try rw [show 0 * 8 = 0 from rfl] at hx428_6)
  (try rw [Addr.add_zero'] at hx428_6)
  (try rw [show ((0 : Int)).toNat = 0 from rfl] at hx428_7)
  (try rw [show 0 * 8 = 0 from rfl] at hx428_7)
  (try rw [Addr.add_zero'] at hx428_7)
  have HR428_6 := Aside0.mk hi428_6
  have HC428_6 := Aside0.mk hl428_6
  clear hi428_6 hl428_6
  have HR428_7 := Aside0.mk hi428_7
  have HC428_7 := Aside0.mk hl428_7
  clear hi428_7 hl428_7
  replace p428 := eq_true p428
  replace q428 := eq_true q428
  have p430 : 0 ≤ (0 : Int) := (by omega)
  have q430 : 0 < (t421.length : Int) := of_decide_eq_true (by first | (with_reducible assumption) | assumption)
  obtain ⟨ad430, A430_6, c430_6, A430_7, c430_7, e430, hx430_0, hx430_1, hx430_2, hx430_3, hx430_4, hx430_5, hx430_6, hx430_7, hl430_6, hi430_6, hl430_7, hi430_7⟩ := at_T35 (Kd.N_reads' HO423.out).2.2 0 p430 q430
  cases e430
  obtain ⟨ce430, hce430, hMe430, hcc430⟩ := Kd.N_get HO423.out z35 0 p430 (by first | exact q430 | exact of_decide_eq_true (by first | (with_reducible assumption) | assumption) | (have e_ := (Kd.N_reads' HO423.out).1; omega))
  obtain ⟨ua430_6, uc430_6, ua430_7, uc430_7, rfl, ul430_6, ge430_6, ul430_7, ge430_7⟩ := k35_openF hMe430
  have hv430_6 := hcc430 6 _ rfl
  rw [add_field _ _ 6 (by omega)] at hv430_6
  replace hv430_6 := Option.some.inj (hv430_6.symm.trans hx430_6)
  injection hv430_6 with hva_ hvn_ hvc_
  rw [hva_] at ge430_6
  rw [hvc_] at ul430_6
  have HL430_6 := Aside0.mk (show Kd.V (Kd.int .u8) 5 _ w.heap.size _ _ ((rd_T35 t421 0).f3.f3) from Kd.V_mk ul430_6 ge430_6)
  clear hva_ hvn_ hvc_ ge430_6 ul430_6
  have hv430_7 := hcc430 7 _ rfl
  rw [add_field _ _ 7 (by omega)] at hv430_7
  replace hv430_7 := Option.some.inj (hv430_7.symm.trans hx430_7)
  injection hv430_7 with hva_ hvn_ hvc_
  rw [hva_] at ge430_7
  rw [hvc_] at ul430_7
  have HL430_7 := Aside0.mk (show Kd.V k35 35 _ w.heap.size _ _ ((rd_T35 t421 0).f4) from Kd.V_mk ul430_7 ge430_7)
  clear hva_ hvn_ hvc_ ge430_7 ul430_7 hcc430 hce430
  have qi430 : (0 < t421.length) = True := eq_true (by omega)
  (try rw [show ((0 : Int)).toNat = 0 from rfl] at hx430_0)
  (try rw [show 0 * 8 = 0 from rfl] at hx430_0)
  (try rw [Addr.add_zero'] at hx430_0)
  (try rw [show ((0 : Int)).toNat = 0 from rfl] at hx430_1)
  (try rw [show 0 * 8 = 0 from rfl] at hx430_1)
  (try rw [Addr.add_zero'] at hx430_1)
  (try rw [show ((0 : Int)).toNat = 0 from rfl] at hx430_2)
  (try rw [show 0 * 8 = 0 from rfl] at hx430_2)
  (try rw [Addr.add_zero'] at hx430_2)
  (try rw [show ((0 : Int)).toNat = 0 from rfl] at hx430_3)
  (try rw [show 0 * 8 = 0 from rfl] at hx430_3)
  (try rw [Addr.add_zero'] at hx430_3)
  (try rw [show ((0 : Int)).toNat = 0 from rfl] at hx430_4)
  (try rw [show 0 * 8 = 0 from rfl] at hx430_4)
  (try rw [Addr.add_zero'] at hx430_4)
  (try rw [show ((0 : Int)).toNat = 0 from rfl] at hx430_5)
  (try rw [show 0 * 8 = 0 from rfl] at hx430_5)
  (try rw [Addr.add_zero'] at hx430_5)
  (try rw [show ((0 : Int)).toNat = 0 from rfl] at hx430_6)
  (try rw [show 0 * 8 = 0 from rfl] at hx430_6)
  (try rw [Addr.add_zero'] at hx430_6)
  (try rw [show ((0 : Int)).toNat = 0 from rfl] at hx430_7)
  (try rw [show 0 * 8 = 0 from rfl] at hx430_7)
  (try rw [Addr.add_zero'] at hx430_7)
  have HR430_6 := Aside0.mk hi430_6
  have HC430_6 := Aside0.mk hl430_6
  clear hi430_6 hl430_6
  have HR430_7 := Aside0.mk hi430_7
  have HC430_7 := Aside0.mk hl430_7
  clear hi430_7 hl430_7
  replace p430 := eq_true p430
  replace q430 := eq_true q430
  have p432 : 0 ≤ (1 : Int) := (by omega)
  have q432 : 1 < (t421.length : Int) := of_decide_eq_true (by first | (with_reducible assumption) | assumption)
  obtain ⟨ad432, A432_6, c432_6, A432_7, c432_7, e432, hx432_0, hx432_1, hx432_2, hx432_3, hx432_4, hx432_5, hx432_6, hx432_7, hl432_6, hi432_6, hl432_7, hi432_7⟩ := at_T35 (Kd.N_reads' HO423.out).2.2 1 p432 q432
  obtain rfl : ad430 = ad432 := (by injection e432)
  obtain ⟨ce432, hce432, hMe432, hcc432⟩ := Kd.N_get HO423.out z35 1 p432 (by first | exact q432 | exact of_decide_eq_true (by first | (with_reducible assumption) | assumption) | (have e_ := (Kd.N_reads' HO423.out).1; omega))
  obtain ⟨ua432_6, uc432_6, ua432_7, uc432_7, rfl, ul432_6, ge432_6, ul432_7, ge432_7⟩ := k35_openF hMe432
  have hv432_6 := hcc432 6 _ rfl
  rw [add_field _ _ 6 (by omega)] at hv432_6
  replace hv432_6 := Option.some.inj (hv432_6.symm.trans hx432_6)
  injection hv432_6 with hva_ hvn_ hvc_
  rw [hva_] at ge432_6
  rw [hvc_] at ul432_6
  have HL432_6 := Aside0.mk (show Kd.V (Kd.int .u8) 5 _ w.heap.size _ _ ((rd_T35 t421 1).f3.f3) from Kd.V_mk ul432_6 ge432_6)
  clear hva_ hvn_ hvc_ ge432_6 ul432_6
  have hv432_7 := hcc432 7 _ rfl
  rw [add_field _ _ 7 (by omega)] at hv432_7
  replace hv432_7 := Option.some.inj (hv432_7.symm.trans hx432_7)
  injection hv432_7 with hva_ hvn_ hvc_
  rw [hva_] at ge432_7
  rw [hvc_] at ul432_7
  have HL432_7 := Aside0.mk (show Kd.V k35 35 _ w.heap.size _ _ ((rd_T35 t421 1).f4) from Kd.V_mk ul432_7 ge432_7)
  clear hva_ hvn_ hvc_ ge432_7 ul432_7 hcc432 hce432
  (try simp only [show (1 : Int).toNat = 1 from rfl, Nat.reduceMul, Nat.reduceEqDiff, Go.Addr.add, ↓reduceIte] at hx432_0)
  (try simp only [show (1 : Int).toNat = 1 from rfl, Nat.reduceMul, Nat.reduceEqDiff, Go.Addr.add, ↓reduceIte] at hx432_1)
  (try simp only [show (1 : Int).toNat = 1 from rfl, Nat.reduceMul, Nat.reduceEqDiff, Go.Addr.add, ↓reduceIte] at hx432_2)
  (try simp only [show (1 : Int).toNat = 1 from rfl, Nat.reduceMul, Nat.reduceEqDiff, Go.Addr.add, ↓reduceIte] at hx432_3)
  (try simp only [show (1 : Int).toNat = 1 from rfl, Nat.reduceMul, Nat.reduceEqDiff, Go.Addr.add, ↓reduceIte] at hx432_4)
  (try simp only [show (1 : Int).toNat = 1 from rfl, Nat.reduceMul, Nat.reduceEqDiff, Go.Addr.add, ↓reduceIte] at hx432_5)
  (try simp only [show (1 : Int).toNat = 1 from rfl, Nat.reduceMul, Nat.reduceEqDiff, Go.Addr.add, ↓reduceIte] at hx432_6)
  (try simp only [show (1 : Int).toNat = 1 from rfl, Nat.reduceMul, Nat.reduceEqDiff, Go.Addr.add, ↓reduceIte] at hx432_7)
  have qi432 : (1 < t421.length) = True := eq_true (by omega)
  (try rw [show ((1 : Int)).toNat = 1 from rfl] at hx432_0)
  (try rw [show 1 * 8 = 8 from rfl] at hx432_0)
  (try rw [show ((1 : Int)).toNat = 1 from rfl] at hx432_1)
  (try rw [show 1 * 8 = 8 from rfl] at hx432_1)
  (try rw [show ((1 : Int)).toNat = 1 from rfl] at hx432_2)
  (try rw [show 1 * 8 = 8 from rfl] at hx432_2)
  (try rw [show ((1 : Int)).toNat = 1 from rfl] at hx432_3)
  (try rw [show 1 * 8 = 8 from rfl] at hx432_3)
  (try rw [show ((1 : Int)).toNat = 1 from rfl] at hx432_4)
  (try rw [show 1 * 8 = 8 from rfl] at hx432_4)
  (try rw [show ((1 : Int)).toNat = 1 from rfl] at hx432_5)
  (try rw [show 1 * 8 = 8 from rfl] at hx432_5)
  (try rw [show ((1 : Int)).toNat = 1 from rfl] at hx432_6)
  (try rw [show 1 * 8 = 8 from rfl] at hx432_6)
  (try rw [show ((1 : Int)).toNat = 1 from rfl] at hx432_7)
  (try rw [show 1 * 8 = 8 from rfl] at hx432_7)
  have HR432_6 := Aside0.mk hi432_6
  have HC432_6 := Aside0.mk hl432_6
  clear hi432_6 hl432_6
  have HR432_7 := Aside0.mk hi432_7
  have HC432_7 := Aside0.mk hl432_7
  clear hi432_7 hl432_7
  replace p432 := eq_true p432
  replace q432 := eq_true q432
  have p434 : 0 ≤ (1 : Int) := (by omega)
  have q434 : 1 < (y426.length : Int) := (by have h_ : (1 : Int) < ((y387.length : Int) : Int) := of_decide_eq_true (by first | (with_reducible assumption) | assumption); first | (have e_ := (Kd.N_reads' HO389.out).1; omega) | simpa only [Ny426.out, List.length_set] using h_)
  have ql434 : ((1 : Int) < ((y387.length : Int) : Int)) = True := eq_true (of_decide_eq_true (by first | (with_reducible assumption) | assumption))
  (try have qn434 : (1 < y387.length) = True := eq_true (by have h_ : (1 : Int) < ((y387.length : Int) : Int) := of_decide_eq_true (by first | (with_reducible assumption) | assumption); omega))
  obtain ⟨ad434, A434_6, c434_6, A434_7, c434_7, e434, hx434_0, hx434_1, hx434_2, hx434_3, hx434_4, hx434_5, hx434_6, hx434_7, hl434_6, hi434_6, hl434_7, hi434_7⟩ := at_T35 (Kd.N_reads' HO389.out).2.2 1 p434 q434
  obtain rfl : (⟨go14, 0, none⟩ : Addr) = ad434 := (by injection e434)
  obtain ⟨ce434, hce434, hMe434, hcc434⟩ := Kd.N_get HO389.out z35 1 p434 (by first | exact q434 | exact of_decide_eq_true (by first | (with_reducible assumption) | assumption) | (have e_ := (Kd.N_reads' HO389.out).1; omega))
  obtain ⟨ua434_6, uc434_6, ua434_7, uc434_7, rfl, ul434_6, ge434_6, ul434_7, ge434_7⟩ := k35_openF hMe434
  have hv434_6 := hcc434 6 _ rfl
  rw [add_field _ _ 6 (by omega)] at hv434_6
  replace hv434_6 := Option.some.inj (hv434_6.symm.trans hx434_6)
  injection hv434_6 with hva_ hvn_ hvc_
  rw [hva_] at ge434_6
  rw [hvc_] at ul434_6
  have HL434_6 := Aside0.mk (show Kd.V (Kd.int .u8) 5 _ w.heap.size _ _ ((rd_T35 y426 1).f3.f3) from Kd.V_mk ul434_6 ge434_6)
  clear hva_ hvn_ hvc_ ge434_6 ul434_6
  have hv434_7 := hcc434 7 _ rfl
  rw [add_field _ _ 7 (by omega)] at hv434_7
  replace hv434_7 := Option.some.inj (hv434_7.symm.trans hx434_7)
  injection hv434_7 with hva_ hvn_ hvc_
  rw [hva_] at ge434_7
  rw [hvc_] at ul434_7
  have HL434_7 := Aside0.mk (show Kd.V k35 35 _ w.heap.size _ _ ((rd_T35 y426 1).f4) from Kd.V_mk ul434_7 ge434_7)
  clear hva_ hvn_ hvc_ ge434_7 ul434_7 hcc434 hce434
  (first | simp only [add_plain] at hx434_0 | simp only [add_at] at hx434_0 | simp only [Addr.add, Nat.zero_add] at hx434_0 | skip)
  (first | simp only [add_plain] at hx434_1 | simp only [add_at] at hx434_1 | simp only [Addr.add, Nat.zero_add] at hx434_1 | skip)
  (first | simp only [add_plain] at hx434_2 | simp only [add_at] at hx434_2 | simp only [Addr.add, Nat.zero_add] at hx434_2 | skip)
  (first | simp only [add_plain] at hx434_3 | simp only [add_at] at hx434_3 | simp only [Addr.add, Nat.zero_add] at hx434_3 | skip)
  (first | simp only [add_plain] at hx434_4 | simp only [add_at] at hx434_4 | simp only [Addr.add, Nat.zero_add] at hx434_4 | skip)
  (first | simp only [add_plain] at hx434_5 | simp only [add_at] at hx434_5 | simp only [Addr.add, Nat.zero_add] at hx434_5 | skip)
  (first | simp only [add_plain] at hx434_6 | simp only [add_at] at hx434_6 | simp only [Addr.add, Nat.zero_add] at hx434_6 | skip)
  (first | simp only [add_plain] at hx434_7 | simp only [add_at] at hx434_7 | simp only [Addr.add, Nat.zero_add] at hx434_7 | skip)
  have qi434 : (1 < y426.length) = True := eq_true (by omega)
  (try rw [show ((1 : Int)).toNat = 1 from rfl] at hx434_0)
  (try rw [show 1 * 8 = 8 from rfl] at hx434_0)
  (try rw [show ((1 : Int)).toNat = 1 from rfl] at hx434_1)
  (try rw [show 1 * 8 = 8 from rfl] at hx434_1)
  (try rw [show ((1 : Int)).toNat = 1 from rfl] at hx434_2)
  (try rw [show 1 * 8 = 8 from rfl] at hx434_2)
  (try rw [show ((1 : Int)).toNat = 1 from rfl] at hx434_3)
  (try rw [show 1 * 8 = 8 from rfl] at hx434_3)
  (try rw [show ((1 : Int)).toNat = 1 from rfl] at hx434_4)
  (try rw [show 1 * 8 = 8 from rfl] at hx434_4)
  (try rw [show ((1 : Int)).toNat = 1 from rfl] at hx434_5)
  (try rw [show 1 * 8 = 8 from rfl] at hx434_5)
  (try rw [show ((1 : Int)).toNat = 1 from rfl] at hx434_6)
  (try rw [show 1 * 8 = 8 from rfl] at hx434_6)
  (try rw [show ((1 : Int)).toNat = 1 from rfl] at hx434_7)
  (try rw [show 1 * 8 = 8 from rfl] at hx434_7)
  have HR434_6 := Aside0.mk hi434_6
  have HC434_6 := Aside0.mk hl434_6
  clear hi434_6 hl434_6
  have HR434_7 := Aside0.mk hi434_7
  have HC434_7 := Aside0.mk hl434_7
  clear hi434_7 hl434_7
  replace p434 := eq_true p434
  replace q434 := eq_true q434
  refine start_ (n := 33) (S := fun w' => w'.cell? ⟨gb424, 0, none⟩ = some (.int .i64 t395) ∧ w'.cell? ⟨gb424, 1, none⟩ = some (.int .i64 t396) ∧ w'.cell? ⟨gb424, 2, none⟩ = some (.int .i64 t397) ∧ w'.cell? ⟨gb424, 3, none⟩ = some (.bool t398) ∧ w'.cell? ⟨gb424, 4, none⟩ = some (.int .i64 t399) ∧ w'.cell? ⟨gb424, 5, none⟩ = some (.int .i64 t400) ∧ w'.cell? ⟨gb424, 6, none⟩ = some (.slice Ao84 t401.length co84) ∧ w'.cell? ⟨gb424, 7, none⟩ = some (.slice (some ⟨go16, 0, none⟩) t404.length co86) ∧ w'.cell? ⟨gb385, 0, none⟩ = some (.int .i64 t361) ∧ w'.cell? ⟨gb385, 1, none⟩ = some (.int .i64 t362) ∧ w'.cell? ⟨gb385, 2, none⟩ = some (.int .i64 t363) ∧ w'.cell? ⟨gb385, 3, none⟩ = some (.bool t364) ∧ w'.cell? ⟨gb385, 4, none⟩ = some (.int .i64 t365) ∧ w'.cell? ⟨gb385, 5, none⟩ = some (.int .i64 t366) ∧ w'.cell? ⟨gb385, 6, none⟩ = some (.slice Ao47 t367.length co47) ∧ w'.cell? ⟨gb385, 7, none⟩ = some (.slice Ao49 t370.length co49) ∧ w'.cell? ⟨gb425, 0, none⟩ = some (.int .i64 t412) ∧ w'.cell? ⟨gb425, 1, none⟩ = some (.int .i64 t413) ∧ w'.cell? ⟨gb425, 2, none⟩ = some (.int .i64 t414) ∧ w'.cell? ⟨gb425, 3, none⟩ = some (.bool t415) ∧ w'.cell? ⟨gb425, 4, none⟩ = some (.int .i64 t416) ∧ w'.cell? ⟨gb425, 5, none⟩ = some (.int .i64 t417) ∧ w'.cell? ⟨gb425, 6, none⟩ = some (.slice Ao94 t418.length co94) ∧ w'.cell? ⟨gb425, 7, none⟩ = some (.slice (some ad430) t421.length co96) ∧ w'.cell? ⟨gb386, 0, none⟩ = some (.int .i64 t373) ∧ w'.cell? ⟨gb386, 1, none⟩ = some (.int .i64 t374) ∧ w'.cell? ⟨gb386, 2, none⟩ = some (.int .i64 t375) ∧ w'.cell? ⟨gb386, 3, none⟩ = some (.bool t376) ∧ w'.cell? ⟨gb386, 4, none⟩ = some (.int .i64 t377) ∧ w'.cell? ⟨gb386, 5, none⟩ = some (.int .i64 t378) ∧ w'.cell? ⟨gb386, 6, none⟩ = some (.slice Ao57 t379.length co57) ∧ w'.cell? ⟨gb386, 7, none⟩ = some (.slice Ao59 t382.length co59) ∧ w'.cell? ⟨go16, 0, none⟩ = some (.int .i64 ((rd_T35 y427 0).f0)) ∧ w'.cell? ⟨go16, 1, none⟩ = some (.int .i64 ((rd_T35 y427 0).f1)) ∧ w'.cell? ⟨go16, 2, none⟩ = some (.int .i64 ((rd_T35 y427 0).f2)) ∧ w'.cell? ⟨go16, 3, none⟩ = some (.bool ((rd_T35 y427 0).f3.f0)) ∧ w'.cell? ⟨go16, 4, none⟩ = some (.int .i64 ((rd_T35 y427 0).f3.f1)) ∧ w'.cell? ⟨go16, 5, none⟩ = some (.int .i64 ((rd_T35 y427 0).f3.f2)) ∧ w'.cell? ⟨go16, 6, none⟩ = some (.slice A428_6 ((rd_T35 y427 0).f3.f3).length c428_6) ∧ w'.cell? ⟨go16, 7, none⟩ = some (.slice A428_7 ((rd_T35 y427 0).f4).length c428_7) ∧ w'.cell? ad430 = some (.int .i64 ((rd_T35 t421 0).f0)) ∧ w'.cell? ⟨ad430.block, ad430.off + 1, none⟩ = some (.int .i64 ((rd_T35 t421 0).f1)) ∧ w'.cell? ⟨ad430.block, ad430.off + 2, none⟩ = some (.int .i64 ((rd_T35 t421 0).f2)) ∧ w'.cell? ⟨ad430.block, ad430.off + 3, none⟩ = some (.bool ((rd_T35 t421 0).f3.f0)) ∧ w'.cell? ⟨ad430.block, ad430.off + 4, none⟩ = some (.int .i64 ((rd_T35 t421 0).f3.f1)) ∧ w'.cell? ⟨ad430.block, ad430.off + 5, none⟩ = some (.int .i64 ((rd_T35 t421 0).f3.f2)) ∧ w'.cell? ⟨ad430.block, ad430.off + 6, none⟩ = some (.slice A430_6 ((rd_T35 t421 0).f3.f3).length c430_6) ∧ w'.cell? ⟨ad430.block, ad430.off + 7, none⟩ = some (.slice A430_7 ((rd_T35 t421 0).f4).length c430_7) ∧ w'.cell? ⟨ad430.block, ad430.off + 8, none⟩ = some (.int .i64 ((rd_T35 t421 1).f0)) ∧ w'.cell? ⟨ad430.block, ad430.off + 8 + 1, none⟩ = some (.int .i64 ((rd_T35 t421 1).f1)) ∧ w'.cell? ⟨ad430.block, ad430.off + 8 + 2, none⟩ = some (.int .i64 ((rd_T35 t421 1).f2)) ∧ w'.cell? ⟨ad430.block, ad430.off + 8 + 3, none⟩ = some (.bool ((rd_T35 t421 1).f3.f0)) ∧ w'.cell? ⟨ad430.block, ad430.off + 8 + 4, none⟩ = some (.int .i64 ((rd_T35 t421 1).f3.f1)) ∧ w'.cell? ⟨ad430.block, ad430.off + 8 + 5, none⟩ = some (.int .i64 ((rd_T35 t421 1).f3.f2)) ∧ w'.cell? ⟨ad430.block, ad430.off + 8 + 6, none⟩ = some (.slice A432_6 ((rd_T35 t421 1).f3.f3).length c432_6) ∧ w'.cell? ⟨ad430.block, ad430.off + 8 + 7, none⟩ = some (.slice A432_7 ((rd_T35 t421 1).f4).length c432_7) ∧ w'.cell? ⟨go14, 8, none⟩ = some (.int .i64 ((rd_T35 y426 1).f0)) ∧ w'.cell? ⟨go14, 9, none⟩ = some (.int .i64 ((rd_T35 y426 1).f1)) ∧ w'.cell? ⟨go14, 10, none⟩ = some (.int .i64 ((rd_T35 y426 1).f2)) ∧ w'.cell? ⟨go14, 11, none⟩ = some (.bool ((rd_T35 y426 1).f3.f0)) ∧ w'.cell? ⟨go14, 12, none⟩ = some (.int .i64 ((rd_T35 y426 1).f3.f1)) ∧ w'.cell? ⟨go14, 13, none⟩ = some (.int .i64 ((rd_T35 y426 1).f3.f2)) ∧ w'.cell? ⟨go14, 14, none⟩ = some (.slice A434_6 ((rd_T35 y426 1).f3.f3).length c434_6) ∧ w'.cell? ⟨go14, 15, none⟩ = some (.slice A434_7 ((rd_T35 y426 1).f4).length c434_7)) (ds := []) #[false, false, false, false, false, false, false, false, false, false, false, false, false, false, false, false, false, false, false, false, false, false, false, false, false, false, false, false, false, false, false, false, false] (by kernel_rfl) rfl rfl ⟨(blk_cell BK424.out 0).trans rfl, (blk_cell BK424.out 1).trans rfl, (blk_cell BK424.out 2).trans rfl, (blk_cell BK424.out 3).trans rfl, (blk_cell BK424.out 4).trans rfl, (blk_cell BK424.out 5).trans rfl, (blk_cell BK424.out 6).trans rfl, (blk_cell BK424.out 7).trans rfl, (blk_cell BK385.out 0).trans rfl, (blk_cell BK385.out 1).trans rfl, (blk_cell BK385.out 2).trans rfl, (blk_cell BK385.out 3).trans rfl, (blk_cell BK385.out 4).trans rfl, (blk_cell BK385.out 5).trans rfl, (blk_cell BK385.out 6).trans rfl, (blk_cell BK385.out 7).trans rfl, (blk_cell BK425.out 0).trans rfl, (blk_cell BK425.out 1).trans rfl, (blk_cell BK425.out 2).trans rfl, (blk_cell BK425.out 3).trans rfl, (blk_cell BK425.out 4).trans rfl, (blk_cell BK425.out 5).trans rfl, (blk_cell BK425.out 6).trans rfl, (blk_cell BK425.out 7).trans rfl, (blk_cell BK386.out 0).trans rfl, (blk_cell BK386.out 1).trans rfl, (blk_cell BK386.out 2).trans rfl, (blk_cell BK386.out 3).trans rfl, (blk_cell BK386.out 4).trans rfl, (blk_cell BK386.out 5).trans rfl, (blk_cell BK386.out 6).trans rfl, (blk_cell BK386.out 7).trans rfl, hx428_0, hx428_1, hx428_2, hx428_3, hx428_4, hx428_5, hx428_6, hx428_7, hx430_0, hx430_1, hx430_2, hx430_3, hx430_4, hx430_5, hx430_6, hx430_7, hx432_0, hx432_1, hx432_2, hx432_3, hx432_4, hx432_5, hx432_6, hx432_7, hx434_0, hx434_1, hx434_2, hx434_3, hx434_4, hx434_5, hx434_6, hx434_7⟩ (fun hHeld => ?_); refine with_tabW colonnadelaw7_PredOwn.tab9 colonnadelaw7_PredOwn.bits9 (fun HT_ HW_ => ?_)
  generalize w112.drew = w113 at HO369 HO372 HO381 HO384 HO389 HO406 HO423 BK360 BK385 BK386 BK424 BK425 HB HL428_6 HL428_7 HL430_6 HL430_7 HL432_6 HL432_7 HL434_6 HL434_7 HR428_6 HR428_7 HR430_6 HR430_7 HR432_6 HR432_7 HR434_6 HR434_7 hx428_0 hx428_1 hx428_2 hx428_3 hx428_4 hx428_5 hx428_6 hx428_7 hx430_0 hx430_1 hx430_2 hx430_3 hx430_4 hx430_5 hx430_6 hx430_7 hx432_0 hx432_1 hx432_2 hx432_3 hx432_4 hx432_5 hx432_6 hx432_7 hx434_0 hx434_1 hx434_2 hx434_3 hx434_4 hx434_5 hx434_6 hx434_7 hHeld ⊢
  refine pure_ (i := 0) (N := some 48) (v := ?_) (a' := ?_) #[true, false, false, false, false, false, false, false, false, false, false, false, false, false, false, false, false, false, false, false, false, false, false, false, false, false, false, false, false, false, false, false, false] rfl rfl (any_of HT_.out (by kernel_rfl)) (fun _ _ _ h => h) (Or.inl ⟨by rfl, ?_⟩) ?_ ?_
  rotate_left
  · intro w'
    go_simp
    with_reducible rfl
  rotate_left
  · simp only [Act.put, List.setIfInBounds_toArray, List.set_cons_zero, List.set_cons_succ, i64_w, i32_w]
    rfl
  refine take_ (i := 1) (N := some 49) (v := ?_) (a' := ?_) #[true, true, false, false, false, false, false, false, false, false, false, false, false, false, false, false, false, false, false, false, false, false, false, false, false, false, false, false, false, false, false, false, false] rfl rfl (take_ofW HT_.out HW_.out (by kernel_rfl)) (fun _ _ _ h => h) (Or.inl ⟨by rfl, ?_⟩) hHeld ?_ ?_
  rotate_left
  · rintro w' ⟨s0, s1, s2, s3, s4, s5, s6, s7, s8, s9, s10, s11, s12, s13, s14, s15, s16, s17, s18, s19, s20, s21, s22, s23, s24, s25, s26, s27, s28, s29, s30, s31, s32, s33, s34, s35, s36, s37, s38, s39, s40, s41, s42, s43, s44, s45, s46, s47, s48, s49, s50, s51, s52, s53, s54, s55, s56, s57, s58, s59, s60, s61, s62, s63⟩
    go_simp
    with_reducible rfl
  rotate_left
  · simp only [Act.put, List.setIfInBounds_toArray, List.set_cons_zero, List.set_cons_succ, i64_w, i32_w]
    rfl
  refine pure_ (i := 2) (N := some 50) (v := ?_) (a' := ?_) #[true, true, true, false, false, false, false, false, false, false, false, false, false, false, false, false, false, false, false, false, false, false, false, false, false, false, false, false, false, false, false, false, false] rfl rfl (any_of HT_.out (by kernel_rfl)) (fun _ _ _ h => h) (Or.inl ⟨by rfl, ?_⟩) ?_ ?_
  rotate_left
  · intro w'
    go_simp
    with_reducible rfl
  rotate_left
  · simp only [Act.put, List.setIfInBounds_toArray, List.set_cons_zero, List.set_cons_succ, i64_w, i32_w]
    rfl
  refine take_ (i := 3) (N := some 51) (v := ?_) (a' := ?_) #[true, true, true, true, false, false, false, false, false, false, false, false, false, false, false, false, false, false, false, false, false, false, false, false, false, false, false, false, false, false, false, false, false] rfl rfl (take_ofW HT_.out HW_.out (by kernel_rfl)) (fun _ _ _ h => h) (Or.inl ⟨by rfl, ?_⟩) hHeld ?_ ?_
  rotate_left
  · rintro w' ⟨s0, s1, s2, s3, s4, s5, s6, s7, s8, s9, s10, s11, s12, s13, s14, s15, s16, s17, s18, s19, s20, s21, s22, s23, s24, s25, s26, s27, s28, s29, s30, s31, s32, s33, s34, s35, s36, s37, s38, s39, s40, s41, s42, s43, s44, s45, s46, s47, s48, s49, s50, s51, s52, s53, s54, s55, s56, s57, s58, s59, s60, s61, s62, s63⟩
    go_simp
    with_reducible rfl
  rotate_left
  · simp only [Act.put, List.setIfInBounds_toArray, List.set_cons_zero, List.set_cons_succ, i64_w, i32_w]
    rfl
  refine take_ (i := 4) (N := some 52) (v := ?_) (a' := ?_) #[true, true, true, true, true, false, false, false, false, false, false, false, false, false, false, false, false, false, false, false, false, false, false, false, false, false, false, false, false, false, false, false, false] rfl rfl (take_ofW HT_.out HW_.out (by kernel_rfl)) (fun _ _ _ h => h) (Or.inl ⟨by rfl, ?_⟩) hHeld ?_ ?_
  rotate_left
  · rintro w' ⟨s0, s1, s2, s3, s4, s5, s6, s7, s8, s9, s10, s11, s12, s13, s14, s15, s16, s17, s18, s19, s20, s21, s22, s23, s24, s25, s26, s27, s28, s29, s30, s31, s32, s33, s34, s35, s36, s37, s38, s39, s40, s41, s42, s43, s44, s45, s46, s47, s48, s49, s50, s51, s52, s53, s54, s55, s56, s57, s58, s59, s60, s61, s62, s63⟩
    go_simp
    with_reducible rfl
  rotate_left
  · simp only [Act.put, List.setIfInBounds_toArray, List.set_cons_zero, List.set_cons_succ, i64_w, i32_w]
    rfl
  refine one_ (i := 5) (N := some 53) #[true, true, true, true, true, true, false, false, false, false, false, false, false, false, false, false, false, false, false, false, false, false, false, false, false, false, false, false, false, false, false, false, false] rfl rfl (one_of HT_.out (by kernel_rfl)) (by decide) (fun K hK => ?_)
  refine goes_ Try.func18 (by kernel_rfl) rfl #[.agg #[.int .i64 ((rd_T35 y427 0).f0), .int .i64 ((rd_T35 y427 0).f1), .int .i64 ((rd_T35 y427 0).f2), .bool ((rd_T35 y427 0).f3.f0), .int .i64 ((rd_T35 y427 0).f3.f1), .int .i64 ((rd_T35 y427 0).f3.f2), .slice A428_6 ((rd_T35 y427 0).f3.f3).length c428_6, .slice A428_7 ((rd_T35 y427 0).f4).length c428_7], .agg #[.int .i64 t361, .int .i64 t362, .int .i64 t363, .bool t364, .int .i64 t365, .int .i64 t366, .slice Ao47 t367.length co47, .slice Ao49 t370.length co49]] (by rfl) rfl rfl (by (try simp only [List.map_toArray, List.map_cons, List.map_nil]); first | done | rfl | (simp only [List.length_drop, List.length_take]; rfl)) ?_
  with_reducible refine (colonnaderef6_SamePred.calls k ((rd_T35 y427 0).f0) ((rd_T35 y427 0).f1) ((rd_T35 y427 0).f2) ((rd_T35 y427 0).f3.f0) ((rd_T35 y427 0).f3.f1) ((rd_T35 y427 0).f3.f2) _ _ ((rd_T35 y427 0).f3.f3) _ _ ((rd_T35 y427 0).f4) t361 t362 t363 t364 t365 t366 _ _ t367 _ _ t370 true _ ?side1 ?side2 ?side3 ?side4 ?side5 ?side6 ?side7 ?side8 A18.out).mono ?_
  (case side1 => repeat (first | exact (by repeat (first | (with_reducible exact HR428_6.out) | (with_reducible refine Kd.C_alloc ?_ _) | (with_reducible refine Kd.C_drewN ?_ _) | (with_reducible refine Kd.C_drew ?_) | exact HR428_6.out)) | (with_reducible refine Kd.C_alloc ?_ _) | (with_reducible refine Kd.C_drewN ?_ _) | (with_reducible refine Kd.C_drew ?_)))
  (case side2 => exact HC428_6.out)
  (case side3 => repeat (first | exact (by repeat (first | (with_reducible exact HR428_7.out) | (with_reducible refine Kd.C_alloc ?_ _) | (with_reducible refine Kd.C_drewN ?_ _) | (with_reducible refine Kd.C_drew ?_) | exact HR428_7.out)) | (with_reducible refine Kd.C_alloc ?_ _) | (with_reducible refine Kd.C_drewN ?_ _) | (with_reducible refine Kd.C_drew ?_)))
  (case side4 => exact HC428_7.out)
  (case side5 => exact (Kd.V_reads' HO369.out).2.2)
  (case side6 => exact (Kd.V_reads' HO369.out).2.1)
  (case side7 => exact (Kd.V_reads' HO372.out).2.2)
  (case side8 => exact (Kd.V_reads' HO372.out).2.1)
  rintro e w114 ⟨rfl, hb⟩
  refine ⟨_, rfl, ?_⟩
  replace HO369 := Aside0.mk (Kd.V_below HO369.out hb)
  replace HO372 := Aside0.mk (Kd.V_below HO372.out hb)
  replace HO381 := Aside0.mk (Kd.V_below HO381.out hb)
  replace HO384 := Aside0.mk (Kd.V_below HO384.out hb)
  replace BK360 := Aside0.mk (blk_below BK360.out hb)
  replace BK385 := Aside0.mk (blk_below BK385.out hb)
  replace BK386 := Aside0.mk (blk_below BK386.out hb)
  replace BK424 := Aside0.mk (blk_below BK424.out hb)
  replace BK425 := Aside0.mk (blk_below BK425.out hb)
  replace HR428_6 := Aside0.mk (Kd.C_below HR428_6.out hb)
  replace HR428_7 := Aside0.mk (Kd.C_below HR428_7.out hb)
  replace HR430_6 := Aside0.mk (Kd.C_below HR430_6.out hb)
  replace HR430_7 := Aside0.mk (Kd.C_below HR430_7.out hb)
  replace HR432_6 := Aside0.mk (Kd.C_below HR432_6.out hb)
  replace HR432_7 := Aside0.mk (Kd.C_below HR432_7.out hb)
  replace HR434_6 := Aside0.mk (Kd.C_below HR434_6.out hb)
  replace HR434_7 := Aside0.mk (Kd.C_below HR434_7.out hb)
  replace HB := Aside0.mk (below_step HB.out hb)
  have HS_ := held64 hb hHeld
  clear hb
  (try clear HO359)
  (try clear HO389)
  (try clear HO403)
  (try clear HO406)
  (try clear HO420)
  (try clear HO423)
  refine hK.out _ _ HS_ (fun hHeld => ?_)
  clear hK K
  refine norm_ (a' := ?_) ?_ ?_
  rotate_left
  · show Act.put _ (some 53) _ = _
    simp only [Act.put, List.setIfInBounds_toArray, List.set_cons_zero, List.set_cons_succ, i64_w, i32_w]
    rfl
  refine pure_ (i := 6) (N := some 54) (v := ?_) (a' := ?_) #[true, true, true, true, true, true, true, false, false, false, false, false, false, false, false, false, false, false, false, false, false, false, false, false, false, false, false, false, false, false, false, false, false] rfl rfl (any_of HT_.out (by kernel_rfl)) (fun _ _ _ h => h) (Or.inl ⟨by rfl, ?_⟩) ?_ ?_
  rotate_left
  · intro w'
    go_simp
    with_reducible rfl
  rotate_left
  · simp only [Act.put, List.setIfInBounds_toArray, List.set_cons_zero, List.set_cons_succ, i64_w, i32_w]
    rfl
  refine pure_ (i := 7) (N := some 55) (v := ?_) (a' := ?_) #[true, true, true, true, true, true, true, true, false, false, false, false, false, false, false, false, false, false, false, false, false, false, false, false, false, false, false, false, false, false, false, false, false] rfl rfl (any_of HT_.out (by kernel_rfl)) (fun _ _ _ h => h) (Or.inl ⟨by rfl, ?_⟩) ?_ ?_
  rotate_left
  · intro w'
    go_simp
    with_reducible rfl
  rotate_left
  · simp only [Act.put, List.setIfInBounds_toArray, List.set_cons_zero, List.set_cons_succ, i64_w, i32_w]
    rfl
  refine take_ (i := 8) (N := some 56) (v := ?_) (a' := ?_) #[true, true, true, true, true, true, true, true, true, false, false, false, false, false, false, false, false, false, false, false, false, false, false, false, false, false, false, false, false, false, false, false, false] rfl rfl (take_ofW HT_.out HW_.out (by kernel_rfl)) (fun _ _ _ h => h) (Or.inl ⟨by rfl, ?_⟩) hHeld ?_ ?_
  rotate_left
  · rintro w' ⟨s0, s1, s2, s3, s4, s5, s6, s7, s8, s9, s10, s11, s12, s13, s14, s15, s16, s17, s18, s19, s20, s21, s22, s23, s24, s25, s26, s27, s28, s29, s30, s31, s32, s33, s34, s35, s36, s37, s38, s39, s40, s41, s42, s43, s44, s45, s46, s47, s48, s49, s50, s51, s52, s53, s54, s55, s56, s57, s58, s59, s60, s61, s62, s63⟩
    go_simp
    with_reducible rfl
  rotate_left
  · simp only [Act.put, List.setIfInBounds_toArray, List.set_cons_zero, List.set_cons_succ, i64_w, i32_w]
    rfl
  refine pure_ (i := 9) (N := some 57) (v := ?_) (a' := ?_) #[true, true, true, true, true, true, true, true, true, true, false, false, false, false, false, false, false, false, false, false, false, false, false, false, false, false, false, false, false, false, false, false, false] rfl rfl (any_of HT_.out (by kernel_rfl)) (fun _ _ _ h => h) (Or.inl ⟨by rfl, ?_⟩) ?_ ?_
  rotate_left
  · intro w'
    go_simp
    with_reducible rfl
  rotate_left
  · simp only [Act.put, List.setIfInBounds_toArray, List.set_cons_zero, List.set_cons_succ, i64_w, i32_w]
    rfl
  refine take_ (i := 10) (N := some 58) (v := ?_) (a' := ?_) #[true, true, true, true, true, true, true, true, true, true, true, false, false, false, false, false, false, false, false, false, false, false, false, false, false, false, false, false, false, false, false, false, false] rfl rfl (take_ofW HT_.out HW_.out (by kernel_rfl)) (fun _ _ _ h => h) (Or.inl ⟨by rfl, ?_⟩) hHeld ?_ ?_
  rotate_left
  · rintro w' ⟨s0, s1, s2, s3, s4, s5, s6, s7, s8, s9, s10, s11, s12, s13, s14, s15, s16, s17, s18, s19, s20, s21, s22, s23, s24, s25, s26, s27, s28, s29, s30, s31, s32, s33, s34, s35, s36, s37, s38, s39, s40, s41, s42, s43, s44, s45, s46, s47, s48, s49, s50, s51, s52, s53, s54, s55, s56, s57, s58, s59, s60, s61, s62, s63⟩
    go_simp
    with_reducible rfl
  rotate_left
  · simp only [Act.put, List.setIfInBounds_toArray, List.set_cons_zero, List.set_cons_succ, i64_w, i32_w]
    rfl
  refine take_ (i := 11) (N := some 59) (v := ?_) (a' := ?_) #[true, true, true, true, true, true, true, true, true, true, true, true, false, false, false, false, false, false, false, false, false, false, false, false, false, false, false, false, false, false, false, false, false] rfl rfl (take_ofW HT_.out HW_.out (by kernel_rfl)) (fun _ _ _ h => h) (Or.inl ⟨by rfl, ?_⟩) hHeld ?_ ?_
  rotate_left
  · rintro w' ⟨s0, s1, s2, s3, s4, s5, s6, s7, s8, s9, s10, s11, s12, s13, s14, s15, s16, s17, s18, s19, s20, s21, s22, s23, s24, s25, s26, s27, s28, s29, s30, s31, s32, s33, s34, s35, s36, s37, s38, s39, s40, s41, s42, s43, s44, s45, s46, s47, s48, s49, s50, s51, s52, s53, s54, s55, s56, s57, s58, s59, s60, s61, s62, s63⟩
    go_simp
    with_reducible rfl
  rotate_left
  · simp only [Act.put, List.setIfInBounds_toArray, List.set_cons_zero, List.set_cons_succ, i64_w, i32_w]
    rfl
  refine one_ (i := 12) (N := some 60) #[true, true, true, true, true, true, true, true, true, true, true, true, true, false, false, false, false, false, false, false, false, false, false, false, false, false, false, false, false, false, false, false, false] rfl rfl (one_of HT_.out (by kernel_rfl)) (by decide) (fun K hK => ?_)
  refine goes_ Try.func18 (by kernel_rfl) rfl #[.agg #[.int .i64 ((rd_T35 t421 0).f0), .int .i64 ((rd_T35 t421 0).f1), .int .i64 ((rd_T35 t421 0).f2), .bool ((rd_T35 t421 0).f3.f0), .int .i64 ((rd_T35 t421 0).f3.f1), .int .i64 ((rd_T35 t421 0).f3.f2), .slice A430_6 ((rd_T35 t421 0).f3.f3).length c430_6, .slice A430_7 ((rd_T35 t421 0).f4).length c430_7], .agg #[.int .i64 t361, .int .i64 t362, .int .i64 t363, .bool t364, .int .i64 t365, .int .i64 t366, .slice Ao47 t367.length co47, .slice Ao49 t370.length co49]] (by rfl) rfl rfl (by (try simp only [List.map_toArray, List.map_cons, List.map_nil]); first | done | rfl | (simp only [List.length_drop, List.length_take]; rfl)) ?_
  with_reducible refine (colonnaderef6_SamePred.calls k ((rd_T35 t421 0).f0) ((rd_T35 t421 0).f1) ((rd_T35 t421 0).f2) ((rd_T35 t421 0).f3.f0) ((rd_T35 t421 0).f3.f1) ((rd_T35 t421 0).f3.f2) _ _ ((rd_T35 t421 0).f3.f3) _ _ ((rd_T35 t421 0).f4) t361 t362 t363 t364 t365 t366 _ _ t367 _ _ t370 true _ ?side1 ?side2 ?side3 ?side4 ?side5 ?side6 ?side7 ?side8 A21.out).mono ?_
  (case side1 => repeat (first | exact (by repeat (first | (with_reducible exact HR430_6.out) | (with_reducible refine Kd.C_alloc ?_ _) | (with_reducible refine Kd.C_drewN ?_ _) | (with_reducible refine Kd.C_drew ?_) | exact HR430_6.out)) | (with_reducible refine Kd.C_alloc ?_ _) | (with_reducible refine Kd.C_drewN ?_ _) | (with_reducible refine Kd.C_drew ?_)))
  (case side2 => exact HC430_6.out)
  (case side3 => repeat (first | exact (by repeat (first | (with_reducible exact HR430_7.out) | (with_reducible refine Kd.C_alloc ?_ _) | (with_reducible refine Kd.C_drewN ?_ _) | (with_reducible refine Kd.C_drew ?_) | exact HR430_7.out)) | (with_reducible refine Kd.C_alloc ?_ _) | (with_reducible refine Kd.C_drewN ?_ _) | (with_reducible refine Kd.C_drew ?_)))
  (case side4 => exact HC430_7.out)
  (case side5 => exact (Kd.V_reads' HO369.out).2.2)
  (case side6 => exact (Kd.V_reads' HO369.out).2.1)
  (case side7 => exact (Kd.V_reads' HO372.out).2.2)
  (case side8 => exact (Kd.V_reads' HO372.out).2.1)
  rintro e w115 ⟨rfl, hb⟩
  refine ⟨_, rfl, ?_⟩
  replace HO369 := Aside0.mk (Kd.V_below HO369.out hb)
  replace HO372 := Aside0.mk (Kd.V_below HO372.out hb)
  replace HO381 := Aside0.mk (Kd.V_below HO381.out hb)
  replace HO384 := Aside0.mk (Kd.V_below HO384.out hb)
  replace BK360 := Aside0.mk (blk_below BK360.out hb)
  replace BK385 := Aside0.mk (blk_below BK385.out hb)
  replace BK386 := Aside0.mk (blk_below BK386.out hb)
  replace BK424 := Aside0.mk (blk_below BK424.out hb)
  replace BK425 := Aside0.mk (blk_below BK425.out hb)
  replace HR428_6 := Aside0.mk (Kd.C_below HR428_6.out hb)
  replace HR428_7 := Aside0.mk (Kd.C_below HR428_7.out hb)
  replace HR430_6 := Aside0.mk (Kd.C_below HR430_6.out hb)
  replace HR430_7 := Aside0.mk (Kd.C_below HR430_7.out hb)
  replace HR432_6 := Aside0.mk (Kd.C_below HR432_6.out hb)
  replace HR432_7 := Aside0.mk (Kd.C_below HR432_7.out hb)
  replace HR434_6 := Aside0.mk (Kd.C_below HR434_6.out hb)
  replace HR434_7 := Aside0.mk (Kd.C_below HR434_7.out hb)
  replace HB := Aside0.mk (below_step HB.out hb)
  have HS_ := held64 hb hHeld
  clear hb
  (try clear HO359)
  (try clear HO389)
  (try clear HO403)
  (try clear HO406)
  (try clear HO420)
  (try clear HO423)
  refine hK.out _ _ HS_ (fun hHeld => ?_)
  clear hK K
  refine norm_ (a' := ?_) ?_ ?_
  rotate_left
  · show Act.put _ (some 60) _ = _
    simp only [Act.put, List.setIfInBounds_toArray, List.set_cons_zero, List.set_cons_succ, i64_w, i32_w]
    rfl
  refine pure_ (i := 13) (N := some 61) (v := ?_) (a' := ?_) #[true, true, true, true, true, true, true, true, true, true, true, true, true, true, false, false, false, false, false, false, false, false, false, false, false, false, false, false, false, false, false, false, false] rfl rfl (any_of HT_.out (by kernel_rfl)) (fun _ _ _ h => h) (Or.inl ⟨by rfl, ?_⟩) ?_ ?_
  rotate_left
  · intro w'
    go_simp
    with_reducible rfl
  rotate_left
  · simp only [Act.put, List.setIfInBounds_toArray, List.set_cons_zero, List.set_cons_succ, i64_w, i32_w]
    rfl
  refine pure_ (i := 14) (N := some 62) (v := ?_) (a' := ?_) #[true, true, true, true, true, true, true, true, true, true, true, true, true, true, true, false, false, false, false, false, false, false, false, false, false, false, false, false, false, false, false, false, false] rfl rfl (any_of HT_.out (by kernel_rfl)) (fun _ _ _ h => h) (Or.inl ⟨by rfl, ?_⟩) ?_ ?_
  rotate_left
  · intro w'
    go_simp
    with_reducible rfl
  rotate_left
  · simp only [Act.put, List.setIfInBounds_toArray, List.set_cons_zero, List.set_cons_succ, i64_w, i32_w]
    rfl
  refine pure_ (i := 15) (N := some 63) (v := ?_) (a' := ?_) #[true, true, true, true, true, true, true, true, true, true, true, true, true, true, true, true, false, false, false, false, false, false, false, false, false, false, false, false, false, false, false, false, false] rfl rfl (any_of HT_.out (by kernel_rfl)) (fun _ _ _ h => h) (Or.inl ⟨by rfl, ?_⟩) ?_ ?_
  rotate_left
  · intro w'
    go_simp
    with_reducible rfl
  rotate_left
  · simp only [Act.put, List.setIfInBounds_toArray, List.set_cons_zero, List.set_cons_succ, i64_w, i32_w]
    rfl
  refine take_ (i := 16) (N := some 64) (v := ?_) (a' := ?_) #[true, true, true, true, true, true, true, true, true, true, true, true, true, true, true, true, true, false, false, false, false, false, false, false, false, false, false, false, false, false, false, false, false] rfl rfl (take_ofW HT_.out HW_.out (by kernel_rfl)) (fun _ _ _ h => h) (Or.inl ⟨by rfl, ?_⟩) hHeld ?_ ?_
  rotate_left
  · rintro w' ⟨s0, s1, s2, s3, s4, s5, s6, s7, s8, s9, s10, s11, s12, s13, s14, s15, s16, s17, s18, s19, s20, s21, s22, s23, s24, s25, s26, s27, s28, s29, s30, s31, s32, s33, s34, s35, s36, s37, s38, s39, s40, s41, s42, s43, s44, s45, s46, s47, s48, s49, s50, s51, s52, s53, s54, s55, s56, s57, s58, s59, s60, s61, s62, s63⟩
    go_simp
    with_reducible rfl
  rotate_left
  · simp only [Act.put, List.setIfInBounds_toArray, List.set_cons_zero, List.set_cons_succ, i64_w, i32_w]
    rfl
  refine pure_ (i := 17) (N := some 65) (v := ?_) (a' := ?_) #[true, true, true, true, true, true, true, true, true, true, true, true, true, true, true, true, true, true, false, false, false, false, false, false, false, false, false, false, false, false, false, false, false] rfl rfl (any_of HT_.out (by kernel_rfl)) (fun _ _ _ h => h) (Or.inl ⟨by rfl, ?_⟩) ?_ ?_
  rotate_left
  · intro w'
    go_simp
    with_reducible rfl
  rotate_left
  · simp only [Act.put, List.setIfInBounds_toArray, List.set_cons_zero, List.set_cons_succ, i64_w, i32_w]
    rfl
  refine take_ (i := 18) (N := some 66) (v := ?_) (a' := ?_) #[true, true, true, true, true, true, true, true, true, true, true, true, true, true, true, true, true, true, true, false, false, false, false, false, false, false, false, false, false, false, false, false, false] rfl rfl (take_ofW HT_.out HW_.out (by kernel_rfl)) (fun _ _ _ h => h) (Or.inl ⟨by rfl, ?_⟩) hHeld ?_ ?_
  rotate_left
  · rintro w' ⟨s0, s1, s2, s3, s4, s5, s6, s7, s8, s9, s10, s11, s12, s13, s14, s15, s16, s17, s18, s19, s20, s21, s22, s23, s24, s25, s26, s27, s28, s29, s30, s31, s32, s33, s34, s35, s36, s37, s38, s39, s40, s41, s42, s43, s44, s45, s46, s47, s48, s49, s50, s51, s52, s53, s54, s55, s56, s57, s58, s59, s60, s61, s62, s63⟩
    go_simp
    with_reducible rfl
  rotate_left
  · simp only [Act.put, List.setIfInBounds_toArray, List.set_cons_zero, List.set_cons_succ, i64_w, i32_w]
    rfl
  refine take_ (i := 19) (N := some 67) (v := ?_) (a' := ?_) #[true, true, true, true, true, true, true, true, true, true, true, true, true, true, true, true, true, true, true, true, false, false, false, false, false, false, false, false, false, false, false, false, false] rfl rfl (take_ofW HT_.out HW_.out (by kernel_rfl)) (fun _ _ _ h => h) (Or.inl ⟨by rfl, ?_⟩) hHeld ?_ ?_
  rotate_left
  · rintro w' ⟨s0, s1, s2, s3, s4, s5, s6, s7, s8, s9, s10, s11, s12, s13, s14, s15, s16, s17, s18, s19, s20, s21, s22, s23, s24, s25, s26, s27, s28, s29, s30, s31, s32, s33, s34, s35, s36, s37, s38, s39, s40, s41, s42, s43, s44, s45, s46, s47, s48, s49, s50, s51, s52, s53, s54, s55, s56, s57, s58, s59, s60, s61, s62, s63⟩
    go_simp
    with_reducible rfl
  rotate_left
  · simp only [Act.put, List.setIfInBounds_toArray, List.set_cons_zero, List.set_cons_succ, i64_w, i32_w]
    rfl
  refine one_ (i := 20) (N := some 68) #[true, true, true, true, true, true, true, true, true, true, true, true, true, true, true, true, true, true, true, true, true, false, false, false, false, false, false, false, false, false, false, false, false] rfl rfl (one_of HT_.out (by kernel_rfl)) (by decide) (fun K hK => ?_)
  refine goes_ Try.func18 (by kernel_rfl) rfl #[.agg #[.int .i64 ((rd_T35 t421 1).f0), .int .i64 ((rd_T35 t421 1).f1), .int .i64 ((rd_T35 t421 1).f2), .bool ((rd_T35 t421 1).f3.f0), .int .i64 ((rd_T35 t421 1).f3.f1), .int .i64 ((rd_T35 t421 1).f3.f2), .slice A432_6 ((rd_T35 t421 1).f3.f3).length c432_6, .slice A432_7 ((rd_T35 t421 1).f4).length c432_7], .agg #[.int .i64 t373, .int .i64 t374, .int .i64 t375, .bool t376, .int .i64 t377, .int .i64 t378, .slice Ao57 t379.length co57, .slice Ao59 t382.length co59]] (by rfl) rfl rfl (by (try simp only [List.map_toArray, List.map_cons, List.map_nil]); first | done | rfl | (simp only [List.length_drop, List.length_take]; rfl)) ?_
  with_reducible refine (colonnaderef6_SamePred.calls k ((rd_T35 t421 1).f0) ((rd_T35 t421 1).f1) ((rd_T35 t421 1).f2) ((rd_T35 t421 1).f3.f0) ((rd_T35 t421 1).f3.f1) ((rd_T35 t421 1).f3.f2) _ _ ((rd_T35 t421 1).f3.f3) _ _ ((rd_T35 t421 1).f4) t373 t374 t375 t376 t377 t378 _ _ t379 _ _ t382 true _ ?side1 ?side2 ?side3 ?side4 ?side5 ?side6 ?side7 ?side8 A24.out).mono ?_
  (case side1 => repeat (first | exact (by repeat (first | (with_reducible exact HR432_6.out) | (with_reducible refine Kd.C_alloc ?_ _) | (with_reducible refine Kd.C_drewN ?_ _) | (with_reducible refine Kd.C_drew ?_) | exact HR432_6.out)) | (with_reducible refine Kd.C_alloc ?_ _) | (with_reducible refine Kd.C_drewN ?_ _) | (with_reducible refine Kd.C_drew ?_)))
  (case side2 => exact HC432_6.out)
  (case side3 => repeat (first | exact (by repeat (first | (with_reducible exact HR432_7.out) | (with_reducible refine Kd.C_alloc ?_ _) | (with_reducible refine Kd.C_drewN ?_ _) | (with_reducible refine Kd.C_drew ?_) | exact HR432_7.out)) | (with_reducible refine Kd.C_alloc ?_ _) | (with_reducible refine Kd.C_drewN ?_ _) | (with_reducible refine Kd.C_drew ?_)))
  (case side4 => exact HC432_7.out)
  (case side5 => exact (Kd.V_reads' HO381.out).2.2)
  (case side6 => exact (Kd.V_reads' HO381.out).2.1)
  (case side7 => exact (Kd.V_reads' HO384.out).2.2)
  (case side8 => exact (Kd.V_reads' HO384.out).2.1)
  rintro e w116 ⟨rfl, hb⟩
  refine ⟨_, rfl, ?_⟩
  replace HO369 := Aside0.mk (Kd.V_below HO369.out hb)
  replace HO372 := Aside0.mk (Kd.V_below HO372.out hb)
  replace HO381 := Aside0.mk (Kd.V_below HO381.out hb)
  replace HO384 := Aside0.mk (Kd.V_below HO384.out hb)
  replace BK360 := Aside0.mk (blk_below BK360.out hb)
  replace BK385 := Aside0.mk (blk_below BK385.out hb)
  replace BK386 := Aside0.mk (blk_below BK386.out hb)
  replace BK424 := Aside0.mk (blk_below BK424.out hb)
  replace BK425 := Aside0.mk (blk_below BK425.out hb)
  replace HR428_6 := Aside0.mk (Kd.C_below HR428_6.out hb)
  replace HR428_7 := Aside0.mk (Kd.C_below HR428_7.out hb)
  replace HR430_6 := Aside0.mk (Kd.C_below HR430_6.out hb)
  replace HR430_7 := Aside0.mk (Kd.C_below HR430_7.out hb)
  replace HR432_6 := Aside0.mk (Kd.C_below HR432_6.out hb)
  replace HR432_7 := Aside0.mk (Kd.C_below HR432_7.out hb)
  replace HR434_6 := Aside0.mk (Kd.C_below HR434_6.out hb)
  replace HR434_7 := Aside0.mk (Kd.C_below HR434_7.out hb)
  replace HB := Aside0.mk (below_step HB.out hb)
  have HS_ := held64 hb hHeld
  clear hb
  (try clear HO359)
  (try clear HO389)
  (try clear HO403)
  (try clear HO406)
  (try clear HO420)
  (try clear HO423)
  refine hK.out _ _ HS_ (fun hHeld => ?_)
  clear hK K
  refine norm_ (a' := ?_) ?_ ?_
  rotate_left
  · show Act.put _ (some 68) _ = _
    simp only [Act.put, List.setIfInBounds_toArray, List.set_cons_zero, List.set_cons_succ, i64_w, i32_w]
    rfl
  refine pure_ (i := 21) (N := some 69) (v := ?_) (a' := ?_) #[true, true, true, true, true, true, true, true, true, true, true, true, true, true, true, true, true, true, true, true, true, true, false, false, false, false, false, false, false, false, false, false, false] rfl rfl (any_of HT_.out (by kernel_rfl)) (fun _ _ _ h => h) (Or.inl ⟨by rfl, ?_⟩) ?_ ?_
  rotate_left
  · intro w'
    go_simp
    with_reducible rfl
  rotate_left
  · simp only [Act.put, List.setIfInBounds_toArray, List.set_cons_zero, List.set_cons_succ, i64_w, i32_w]
    rfl
  refine pure_ (i := 22) (N := some 70) (v := ?_) (a' := ?_) #[true, true, true, true, true, true, true, true, true, true, true, true, true, true, true, true, true, true, true, true, true, true, true, false, false, false, false, false, false, false, false, false, false] rfl rfl (any_of HT_.out (by kernel_rfl)) (fun _ _ _ h => h) (Or.inl ⟨by rfl, ?_⟩) ?_ ?_
  rotate_left
  · intro w'
    go_simp
    with_reducible rfl
  rotate_left
  · simp only [Act.put, List.setIfInBounds_toArray, List.set_cons_zero, List.set_cons_succ, i64_w, i32_w]
    rfl
  refine pure_ (i := 23) (N := some 71) (v := ?_) (a' := ?_) #[true, true, true, true, true, true, true, true, true, true, true, true, true, true, true, true, true, true, true, true, true, true, true, true, false, false, false, false, false, false, false, false, false] rfl rfl (any_of HT_.out (by kernel_rfl)) (fun _ _ _ h => h) (Or.inl ⟨by rfl, ?_⟩) ?_ ?_
  rotate_left
  · intro w'
    go_simp
    with_reducible rfl
  rotate_left
  · simp only [Act.put, List.setIfInBounds_toArray, List.set_cons_zero, List.set_cons_succ, i64_w, i32_w]
    rfl
  refine pure_ (i := 24) (N := some 72) (v := ?_) (a' := ?_) #[true, true, true, true, true, true, true, true, true, true, true, true, true, true, true, true, true, true, true, true, true, true, true, true, true, false, false, false, false, false, false, false, false] rfl rfl (any_of HT_.out (by kernel_rfl)) (fun _ _ _ h => h) (Or.inl ⟨by rfl, ?_⟩) ?_ ?_
  rotate_left
  · intro w'
    go_simp
    with_reducible rfl
  rotate_left
  · simp only [Act.put, List.setIfInBounds_toArray, List.set_cons_zero, List.set_cons_succ, i64_w, i32_w]
    rfl
  refine take_ (i := 25) (N := some 73) (v := ?_) (a' := ?_) #[true, true, true, true, true, true, true, true, true, true, true, true, true, true, true, true, true, true, true, true, true, true, true, true, true, true, false, false, false, false, false, false, false] rfl rfl (take_ofW HT_.out HW_.out (by kernel_rfl)) (fun _ _ _ h => h) (Or.inl ⟨by rfl, ?_⟩) hHeld ?_ ?_
  rotate_left
  · rintro w' ⟨s0, s1, s2, s3, s4, s5, s6, s7, s8, s9, s10, s11, s12, s13, s14, s15, s16, s17, s18, s19, s20, s21, s22, s23, s24, s25, s26, s27, s28, s29, s30, s31, s32, s33, s34, s35, s36, s37, s38, s39, s40, s41, s42, s43, s44, s45, s46, s47, s48, s49, s50, s51, s52, s53, s54, s55, s56, s57, s58, s59, s60, s61, s62, s63⟩
    go_simp
    with_reducible rfl
  rotate_left
  · simp only [Act.put, List.setIfInBounds_toArray, List.set_cons_zero, List.set_cons_succ, i64_w, i32_w]
    rfl
  refine take_ (i := 26) (N := some 74) (v := ?_) (a' := ?_) #[true, true, true, true, true, true, true, true, true, true, true, true, true, true, true, true, true, true, true, true, true, true, true, true, true, true, true, false, false, false, false, false, false] rfl rfl (take_ofW HT_.out HW_.out (by kernel_rfl)) (fun _ _ _ h => h) (Or.inl ⟨by rfl, ?_⟩) hHeld ?_ ?_
  rotate_left
  · rintro w' ⟨s0, s1, s2, s3, s4, s5, s6, s7, s8, s9, s10, s11, s12, s13, s14, s15, s16, s17, s18, s19, s20, s21, s22, s23, s24, s25, s26, s27, s28, s29, s30, s31, s32, s33, s34, s35, s36, s37, s38, s39, s40, s41, s42, s43, s44, s45, s46, s47, s48, s49, s50, s51, s52, s53, s54, s55, s56, s57, s58, s59, s60, s61, s62, s63⟩
    go_simp
    with_reducible rfl
  rotate_left
  · simp only [Act.put, List.setIfInBounds_toArray, List.set_cons_zero, List.set_cons_succ, i64_w, i32_w]
    rfl
  refine one_ (i := 27) (N := some 75) #[true, true, true, true, true, true, true, true, true, true, true, true, true, true, true, true, true, true, true, true, true, true, true, true, true, true, true, true, false, false, false, false, false] rfl rfl (one_of HT_.out (by kernel_rfl)) (by decide) (fun K hK => ?_)
  refine goes_ Try.func18 (by kernel_rfl) rfl #[.agg #[.int .i64 ((rd_T35 y426 1).f0), .int .i64 ((rd_T35 y426 1).f1), .int .i64 ((rd_T35 y426 1).f2), .bool ((rd_T35 y426 1).f3.f0), .int .i64 ((rd_T35 y426 1).f3.f1), .int .i64 ((rd_T35 y426 1).f3.f2), .slice A434_6 ((rd_T35 y426 1).f3.f3).length c434_6, .slice A434_7 ((rd_T35 y426 1).f4).length c434_7], .agg #[.int .i64 t373, .int .i64 t374, .int .i64 t375, .bool t376, .int .i64 t377, .int .i64 t378, .slice Ao57 t379.length co57, .slice Ao59 t382.length co59]] (by rfl) rfl rfl (by (try simp only [List.map_toArray, List.map_cons, List.map_nil]); first | done | rfl | (simp only [List.length_drop, List.length_take]; rfl)) ?_
  with_reducible refine (colonnaderef6_SamePred.calls k ((rd_T35 y426 1).f0) ((rd_T35 y426 1).f1) ((rd_T35 y426 1).f2) ((rd_T35 y426 1).f3.f0) ((rd_T35 y426 1).f3.f1) ((rd_T35 y426 1).f3.f2) _ _ ((rd_T35 y426 1).f3.f3) _ _ ((rd_T35 y426 1).f4) t373 t374 t375 t376 t377 t378 _ _ t379 _ _ t382 true _ ?side1 ?side2 ?side3 ?side4 ?side5 ?side6 ?side7 ?side8 A27.out).mono ?_
  (case side1 => repeat (first | exact (by repeat (first | (with_reducible exact HR434_6.out) | (with_reducible refine Kd.C_alloc ?_ _) | (with_reducible refine Kd.C_drewN ?_ _) | (with_reducible refine Kd.C_drew ?_) | exact HR434_6.out)) | (with_reducible refine Kd.C_alloc ?_ _) | (with_reducible refine Kd.C_drewN ?_ _) | (with_reducible refine Kd.C_drew ?_)))
  (case side2 => exact HC434_6.out)
  (case side3 => repeat (first | exact (by repeat (first | (with_reducible exact HR434_7.out) | (with_reducible refine Kd.C_alloc ?_ _) | (with_reducible refine Kd.C_drewN ?_ _) | (with_reducible refine Kd.C_drew ?_) | exact HR434_7.out)) | (with_reducible refine Kd.C_alloc ?_ _) | (with_reducible refine Kd.C_drewN ?_ _) | (with_reducible refine Kd.C_drew ?_)))
  (case side4 => exact HC434_7.out)
  (case side5 => exact (Kd.V_reads' HO381.out).2.2)
  (case side6 => exact (Kd.V_reads' HO381.out).2.1)
  (case side7 => exact (Kd.V_reads' HO384.out).2.2)
  (case side8 => exact (Kd.V_reads' HO384.out).2.1)
  rintro e w117 ⟨rfl, hb⟩
  refine ⟨_, rfl, ?_⟩
  replace HO369 := Aside0.mk (Kd.V_below HO369.out hb)
  replace HO372 := Aside0.mk (Kd.V_below HO372.out hb)
  replace HO381 := Aside0.mk (Kd.V_below HO381.out hb)
  replace HO384 := Aside0.mk (Kd.V_below HO384.out hb)
  replace BK360 := Aside0.mk (blk_below BK360.out hb)
  replace BK385 := Aside0.mk (blk_below BK385.out hb)
  replace BK386 := Aside0.mk (blk_below BK386.out hb)
  replace BK424 := Aside0.mk (blk_below BK424.out hb)
  replace BK425 := Aside0.mk (blk_below BK425.out hb)
  replace HR428_6 := Aside0.mk (Kd.C_below HR428_6.out hb)
  replace HR428_7 := Aside0.mk (Kd.C_below HR428_7.out hb)
  replace HR430_6 := Aside0.mk (Kd.C_below HR430_6.out hb)
  replace HR430_7 := Aside0.mk (Kd.C_below HR430_7.out hb)
  replace HR432_6 := Aside0.mk (Kd.C_below HR432_6.out hb)
  replace HR432_7 := Aside0.mk (Kd.C_below HR432_7.out hb)
  replace HR434_6 := Aside0.mk (Kd.C_below HR434_6.out hb)
  replace HR434_7 := Aside0.mk (Kd.C_below HR434_7.out hb)
  replace HB := Aside0.mk (below_step HB.out hb)
  have HS_ := held64 hb hHeld
  clear hb
  (try clear HO359)
  (try clear HO389)
  (try clear HO403)
  (try clear HO406)
  (try clear HO420)
  (try clear HO423)
  refine hK.out _ _ HS_ (fun hHeld => ?_)
  clear hK K
  refine norm_ (a' := ?_) ?_ ?_
  rotate_left
  · show Act.put _ (some 75) _ = _
    simp only [Act.put, List.setIfInBounds_toArray, List.set_cons_zero, List.set_cons_succ, i64_w, i32_w]
    rfl
  refine pure_ (i := 28) (N := some 76) (v := ?_) (a' := ?_) #[true, true, true, true, true, true, true, true, true, true, true, true, true, true, true, true, true, true, true, true, true, true, true, true, true, true, true, true, true, false, false, false, false] rfl rfl (any_of HT_.out (by kernel_rfl)) (fun _ _ _ h => h) (Or.inl ⟨by rfl, ?_⟩) ?_ ?_
  rotate_left
  · intro w'
    go_simp
    with_reducible rfl
  rotate_left
  · simp only [Act.put, List.setIfInBounds_toArray, List.set_cons_zero, List.set_cons_succ, i64_w, i32_w]
    rfl
  refine pure_ (i := 29) (N := some 77) (v := ?_) (a' := ?_) #[true, true, true, true, true, true, true, true, true, true, true, true, true, true, true, true, true, true, true, true, true, true, true, true, true, true, true, true, true, true, false, false, false] rfl rfl (any_of HT_.out (by kernel_rfl)) (fun _ _ _ h => h) (Or.inl ⟨by rfl, ?_⟩) ?_ ?_
  rotate_left
  · intro w'
    go_simp
    with_reducible rfl
  rotate_left
  · simp only [Act.put, List.setIfInBounds_toArray, List.set_cons_zero, List.set_cons_succ, i64_w, i32_w]
    rfl
  refine one_ (i := 30) (N := some 78) #[true, true, true, true, true, true, true, true, true, true, true, true, true, true, true, true, true, true, true, true, true, true, true, true, true, true, true, true, true, true, true, false, false] rfl rfl (one_of HT_.out (by kernel_rfl)) (by decide) (fun K hK => ?_)
  refine goes_ Try.func19 (by kernel_rfl) rfl #[] (by rfl) rfl rfl (by (try simp only [List.map_toArray, List.map_cons, List.map_nil]); first | done | rfl | (simp only [List.length_drop, List.length_take]; rfl)) ?_
  with_reducible refine (colonnadelaw7_awake.calls k  t436 _ A29.out).mono ?_
  rintro e w118 ⟨rfl, hb⟩
  refine ⟨_, rfl, ?_⟩
  replace HO369 := Aside0.mk (Kd.V_below HO369.out hb)
  replace HO372 := Aside0.mk (Kd.V_below HO372.out hb)
  replace HO381 := Aside0.mk (Kd.V_below HO381.out hb)
  replace HO384 := Aside0.mk (Kd.V_below HO384.out hb)
  replace BK360 := Aside0.mk (blk_below BK360.out hb)
  replace BK385 := Aside0.mk (blk_below BK385.out hb)
  replace BK386 := Aside0.mk (blk_below BK386.out hb)
  replace BK424 := Aside0.mk (blk_below BK424.out hb)
  replace BK425 := Aside0.mk (blk_below BK425.out hb)
  replace HR428_6 := Aside0.mk (Kd.C_below HR428_6.out hb)
  replace HR428_7 := Aside0.mk (Kd.C_below HR428_7.out hb)
  replace HR430_6 := Aside0.mk (Kd.C_below HR430_6.out hb)
  replace HR430_7 := Aside0.mk (Kd.C_below HR430_7.out hb)
  replace HR432_6 := Aside0.mk (Kd.C_below HR432_6.out hb)
  replace HR432_7 := Aside0.mk (Kd.C_below HR432_7.out hb)
  replace HR434_6 := Aside0.mk (Kd.C_below HR434_6.out hb)
  replace HR434_7 := Aside0.mk (Kd.C_below HR434_7.out hb)
  replace HB := Aside0.mk (below_step HB.out hb)
  have HS_ := held64 hb hHeld
  clear hb
  (try clear HO359)
  (try clear HO389)
  (try clear HO403)
  (try clear HO406)
  (try clear HO420)
  (try clear HO423)
  refine hK.out _ _ HS_ (fun hHeld => ?_)
  clear hK K
  refine norm_ (a' := ?_) ?_ ?_
  rotate_left
  · show Act.put _ (some 78) _ = _
    simp only [Act.put, List.setIfInBounds_toArray, List.set_cons_zero, List.set_cons_succ, i64_w, i32_w]
    rfl
  refine pure_ (i := 31) (N := some 79) (v := ?_) (a' := ?_) #[true, true, true, true, true, true, true, true, true, true, true, true, true, true, true, true, true, true, true, true, true, true, true, true, true, true, true, true, true, true, true, true, false] rfl rfl (any_of HT_.out (by kernel_rfl)) (fun _ _ _ h => h) (Or.inl ⟨by rfl, ?_⟩) ?_ ?_
  rotate_left
  · intro w'
    go_simp
    with_reducible rfl
  rotate_left
  · simp only [Act.put, List.setIfInBounds_toArray, List.set_cons_zero, List.set_cons_succ, i64_w, i32_w]
    rfl
  refine pure_ (i := 32) (N := some 6) (v := ?_) (a' := ?_) #[true, true, true, true, true, true, true, true, true, true, true, true, true, true, true, true, true, true, true, true, true, true, true, true, true, true, true, true, true, true, true, true, true] rfl rfl (any_of HT_.out (by kernel_rfl)) (fun _ _ _ h => h) (Or.inl ⟨by rfl, ?_⟩) ?_ ?_
  rotate_left
  · intro w'
    go_simp
    with_reducible rfl
  rotate_left
  · simp only [Act.put, List.setIfInBounds_toArray, List.set_cons_zero, List.set_cons_succ, i64_w, i32_w]
    rfl
  refine done_ (done_of HT_.out (by kernel_rfl)) ?_
  try go_wp2
  go_ret
  exact ⟨by first | rfl | (simp [errW_none, errW_some] <;> rfl) | (simp [*, errW_none, errW_some] <;> rfl), by repeat (first | (with_reducible first | exact HB.out | apply below_alloc | apply pw_below_drewN | apply below_drew1 | refine below_set ?_ GE360.out | refine below_set ?_ GE385.out | refine below_set ?_ GE386.out | refine below_set ?_ GE424.out | refine below_set ?_ GE425.out) | exact HB.out)⟩
end Go.Proofs.Ytlapahjdkikodaa.GPe
