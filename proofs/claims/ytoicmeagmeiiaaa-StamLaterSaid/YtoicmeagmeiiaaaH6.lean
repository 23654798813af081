/- StamLater: what is seen at a time and not at a later one has ended between, what is seen at the later alone has begun between; without any condition on the input: the walks, one a case. -/
import Derived.Test.YtoicmeagmeiiaaaH5
namespace Go.Proofs.Ytoicmeagmeiiaaa.Later
open Go.RowKit Go.Proofs.Ytoicmeagmeiiaaa.GStam Go.Proofs.Ytoicmeagmeiiaaa.Pure Go.Proofs.YtoicmeagmeiiaaaW.PrintWords Go.Proofs.YtoicmeagmeiiaaaW.PrintLast Go.Proofs.YtoicmeagmeiiaaaW.PrintMore
attribute [local go_sem] max2_int min2_int max_two min_two
attribute [local go_sem high] eqA26
theorem bcell1 {W w1 : World} (hb : Below W.heap.size W w1) : ∀ b o, b < W.heap.size → w1.cell? ⟨b, o, none⟩ = W.cell? ⟨b, o, none⟩ := fun b o h => hb.cell (p := ⟨b, o, none⟩) h

set_option maxHeartbeats 4000000 in
set_option maxRecDepth 100000 in
theorem walk_TF1 (A0 : Option Addr) (c0 : Nat) (l0 : List Int) (a1 a2 a3 : Int) (w : World) (hr0 : Kd.C (Kd.int .i64) w A0 l0.length l0) (hc0 : l0.length ≤ c0)
    (tx : List S38) (t a t2 b lo hi : Int) (htx : colonnadelaw11_Txns.f 20 l0 = some tx) (hS1 : colonnadelaw11_Stamp.f a1 = some (t, a)) (hS2 : colonnadelaw11_Stamp.f (a1 / 256) = some (t2, b))
    (h16 : (Go.bits .and .i64 (a1 / 65536) 1 == 0) = false) (hlo : (if Go.bits .and .i64 a3 15 < Go.bits .and .i64 a2 15 then Go.bits .and .i64 a3 15 else Go.bits .and .i64 a2 15) = lo)
    (hhi : (if Go.bits .and .i64 a2 15 < Go.bits .and .i64 a3 15 then Go.bits .and .i64 a3 15 else Go.bits .and .i64 a2 15) = hi)
    (L1 L2 : List Int) (hx : stam_Sees.f 20 t a t2 b 0 lo tx = some (true, L1)) (hy : stam_Sees.f 20 t a t2 b 0 hi tx = some (false, L2)) (hp : (t2 == 0) = false)
    (hgt : decide (lo < whenP t2 b tx) = true) (hle : decide (whenP t2 b tx ≤ hi) = true) :
    Calls Try.prog 4 #[.slice A0 l0.length c0, .int .i64 a1, .int .i64 a2, .int .i64 a3] w fun e w' => e = .returned (.bool true) ∧ Below w.heap.size w w' := by
  have hu26 := Try.underlying26
  have hu28 := Try.underlying28
  have eg13 := enters_of Try.func13 (by kernel_rfl) rfl
  unfold Go.Proofs.Enters at eg13
  have HTX := Aside0.mk htx
  have HS1 := Aside0.mk hS1
  have HS2 := Aside0.mk hS2
  have HX := Aside0.mk hx
  have HY := Aside0.mk hy
  have HR0 := Aside0.mk hr0
  clear hr0 htx hS1 hS2 hx hy
  go_enter Try.func4, Try.ntmps4
  go_wp2_with fail
  refine (colonnadelaw11_Txns.calls 20 _ _ _ _ _ HR0.out hc0 HTX.out).mono ?_
  rintro e w1 ⟨v0, rfl, hR1, hb1⟩
  obtain ⟨A, c, rfl, hlc, hC1⟩ := Kd.R_reads hR1
  have HB1 := Aside0.mk hb1
  have HC1 := Aside0.mk hC1
  clear hb1 hC1 hR1
  go_wp2_with fail
  refine (colonnadelaw11_Stamp.calls _ _ _ _ HS1.out).mono ?_
  rintro e w2 ⟨rfl, hb2⟩
  have HB2 := Aside0.mk (below_step HB1.out hb2)
  have HC2 := Aside0.mk (Kd.C_below HC1.out hb2)
  clear hb2
  go_wp2_with fail
  refine (colonnadelaw11_Stamp.calls _ _ _ _ HS2.out).mono ?_
  rintro e w3 ⟨rfl, hb3⟩
  have HB3 := Aside0.mk (below_step HB2.out hb3)
  have HC3 := Aside0.mk (Kd.C_below HC2.out hb3)
  clear hb3
  go_wp2_with fail
  have HB3' := Aside0.mk ((HB3.out.alloc HB3.out.size (.cells #[.slice A tx.length c] 23)).alloc (by have := HB3.out.size; simp; omega) (.cells #[.int .i64 t, .int .i64 a, .int .i64 t2, .int .i64 b] 28))
  have HC3' := Aside0.mk (Kd.C_below (Kd.C_below HC3.out ((Below.refl _ _).alloc (Nat.le_refl _) (.cells #[.slice A tx.length c] 23))) ((Below.refl _ _).alloc (Nat.le_refl _) (.cells #[.int .i64 t, .int .i64 a, .int .i64 t2, .int .i64 b] 28)))
  refine (stam_Sees.calls 20 _ _ _ _ _ _ _ _ _ _ _ _ HC3'.out hlc HX.out).mono ?_
  rintro e w4 ⟨v1, rfl, hR4, hb4⟩
  have hc4 := bcell1 hb4
  have hz4 : w3.heap.size + 1 < w4.heap.size := by have := hb4.size; simp at this; omega
  have HD4 := Aside0.mk ((hc4 w3.heap.size 0 (by simp; omega)).trans (by go_simp) : w4.cell? ⟨w3.heap.size, 0, none⟩ = some (.slice A tx.length c))
  have HB4 := Aside0.mk (below_step HB3'.out hb4)
  have HC4 := Aside0.mk (Kd.C_below HC3'.out hb4)
  clear hb4 hR4
  go_wp2_with fail
  refine (stam_Sees.calls 20 _ _ _ _ _ _ _ _ _ _ _ _ HC4.out hlc HY.out).mono ?_
  rintro e w5 ⟨v2, rfl, hR5, hb5⟩
  have hc5 := bcell1 hb5
  have hz5 : w3.heap.size + 1 < w5.heap.size := by have := hb5.size; omega
  have HD5 := Aside0.mk ((hc5 w3.heap.size 0 (by omega)).trans HD4.out)
  have HB5 := Aside0.mk (below_step HB4.out hb5)
  have HC5 := Aside0.mk (Kd.C_below HC4.out hb5)
  clear hb5 hR5
  go_wp2_with fail
  refine (when_calls _ _ w3.heap.size A c tx _ HD5.out HC5.out hlc).mono ?_
  rintro e w6 ⟨rfl, hb6⟩
  have hc6 := bcell1 hb6
  have hz6 : w3.heap.size + 1 < w6.heap.size := by have := hb6.size; omega
  have HD6 := Aside0.mk ((hc6 w3.heap.size 0 (by omega)).trans HD5.out)
  have HB6 := Aside0.mk (below_step HB5.out hb6)
  have HC6 := Aside0.mk (Kd.C_below HC5.out hb6)
  clear hb6
  go_wp2_with fail
  refine (when_calls _ _ w3.heap.size A c tx _ HD6.out HC6.out hlc).mono ?_
  rintro e w7 ⟨rfl, hb7⟩
  have hc7 := bcell1 hb7
  have hz7 : w3.heap.size + 1 < w7.heap.size := by have := hb7.size; omega
  have HD7 := Aside0.mk ((hc7 w3.heap.size 0 (by omega)).trans HD6.out)
  have HB7 := Aside0.mk (below_step HB6.out hb7)
  have HC7 := Aside0.mk (Kd.C_below HC6.out hb7)
  clear hb7
  go_wp2_with fail
  refine (colonnadelaw11_awake.calls 20 true _ awake_ok).mono ?_
  rintro e w9 ⟨rfl, hb9⟩
  have HB9 := Aside0.mk (below_step HB7.out hb9)
  clear hb9
  go_wp2
  go_ret
  exact ⟨rfl, HB9.out⟩

set_option maxHeartbeats 4000000 in
set_option maxRecDepth 100000 in
theorem walk_TF2 (A0 : Option Addr) (c0 : Nat) (l0 : List Int) (a1 a2 a3 : Int) (w : World) (hr0 : Kd.C (Kd.int .i64) w A0 l0.length l0) (hc0 : l0.length ≤ c0)
    (tx : List S38) (t a t2 b lo hi : Int) (htx : colonnadelaw11_Txns.f 20 l0 = some tx) (hS1 : colonnadelaw11_Stamp.f a1 = some (t, a)) (hS2 : colonnadelaw11_Stamp.f (a1 / 256) = some (t2, b))
    (h16 : (Go.bits .and .i64 (a1 / 65536) 1 == 0) = false) (hlo : (if Go.bits .and .i64 a3 15 < Go.bits .and .i64 a2 15 then Go.bits .and .i64 a3 15 else Go.bits .and .i64 a2 15) = lo)
    (hhi : (if Go.bits .and .i64 a2 15 < Go.bits .and .i64 a3 15 then Go.bits .and .i64 a3 15 else Go.bits .and .i64 a2 15) = hi)
    (L1 L2 : List Int) (hx : stam_Sees.f 20 t a t2 b 0 lo tx = some (true, L1)) (hy : stam_Sees.f 20 t a t2 b 0 hi tx = some (false, L2)) (hp : (t2 == 0) = true) (hq : (b == 0) = false)
    (hgt : decide (lo < whenP t2 b tx) = true) (hle : decide (whenP t2 b tx ≤ hi) = true) :
    Calls Try.prog 4 #[.slice A0 l0.length c0, .int .i64 a1, .int .i64 a2, .int .i64 a3] w fun e w' => e = .returned (.bool true) ∧ Below w.heap.size w w' := by
  have hu26 := Try.underlying26
  have hu28 := Try.underlying28
  have eg13 := enters_of Try.func13 (by kernel_rfl) rfl
  unfold Go.Proofs.Enters at eg13
  have HTX := Aside0.mk htx
  have HS1 := Aside0.mk hS1
  have HS2 := Aside0.mk hS2
  have HX := Aside0.mk hx
  have HY := Aside0.mk hy
  have HR0 := Aside0.mk hr0
  clear hr0 htx hS1 hS2 hx hy
  go_enter Try.func4, Try.ntmps4
  go_wp2_with fail
  refine (colonnadelaw11_Txns.calls 20 _ _ _ _ _ HR0.out hc0 HTX.out).mono ?_
  rintro e w1 ⟨v0, rfl, hR1, hb1⟩
  obtain ⟨A, c, rfl, hlc, hC1⟩ := Kd.R_reads hR1
  have HB1 := Aside0.mk hb1
  have HC1 := Aside0.mk hC1
  clear hb1 hC1 hR1
  go_wp2_with fail
  refine (colonnadelaw11_Stamp.calls _ _ _ _ HS1.out).mono ?_
  rintro e w2 ⟨rfl, hb2⟩
  have HB2 := Aside0.mk (below_step HB1.out hb2)
  have HC2 := Aside0.mk (Kd.C_below HC1.out hb2)
  clear hb2
  go_wp2_with fail
  refine (colonnadelaw11_Stamp.calls _ _ _ _ HS2.out).mono ?_
  rintro e w3 ⟨rfl, hb3⟩
  have HB3 := Aside0.mk (below_step HB2.out hb3)
  have HC3 := Aside0.mk (Kd.C_below HC2.out hb3)
  clear hb3
  go_wp2_with fail
  have HB3' := Aside0.mk ((HB3.out.alloc HB3.out.size (.cells #[.slice A tx.length c] 23)).alloc (by have := HB3.out.size; simp; omega) (.cells #[.int .i64 t, .int .i64 a, .int .i64 t2, .int .i64 b] 28))
  have HC3' := Aside0.mk (Kd.C_below (Kd.C_below HC3.out ((Below.refl _ _).alloc (Nat.le_refl _) (.cells #[.slice A tx.length c] 23))) ((Below.refl _ _).alloc (Nat.le_refl _) (.cells #[.int .i64 t, .int .i64 a, .int .i64 t2, .int .i64 b] 28)))
  refine (stam_Sees.calls 20 _ _ _ _ _ _ _ _ _ _ _ _ HC3'.out hlc HX.out).mono ?_
  rintro e w4 ⟨v1, rfl, hR4, hb4⟩
  have hc4 := bcell1 hb4
  have hz4 : w3.heap.size + 1 < w4.heap.size := by have := hb4.size; simp at this; omega
  have HD4 := Aside0.mk ((hc4 w3.heap.size 0 (by simp; omega)).trans (by go_simp) : w4.cell? ⟨w3.heap.size, 0, none⟩ = some (.slice A tx.length c))
  have HB4 := Aside0.mk (below_step HB3'.out hb4)
  have HC4 := Aside0.mk (Kd.C_below HC3'.out hb4)
  clear hb4 hR4
  go_wp2_with fail
  refine (stam_Sees.calls 20 _ _ _ _ _ _ _ _ _ _ _ _ HC4.out hlc HY.out).mono ?_
  rintro e w5 ⟨v2, rfl, hR5, hb5⟩
  have hc5 := bcell1 hb5
  have hz5 : w3.heap.size + 1 < w5.heap.size := by have := hb5.size; omega
  have HD5 := Aside0.mk ((hc5 w3.heap.size 0 (by omega)).trans HD4.out)
  have HB5 := Aside0.mk (below_step HB4.out hb5)
  have HC5 := Aside0.mk (Kd.C_below HC4.out hb5)
  clear hb5 hR5
  go_wp2_with fail
  refine (when_calls _ _ w3.heap.size A c tx _ HD5.out HC5.out hlc).mono ?_
  rintro e w6 ⟨rfl, hb6⟩
  have hc6 := bcell1 hb6
  have hz6 : w3.heap.size + 1 < w6.heap.size := by have := hb6.size; omega
  have HD6 := Aside0.mk ((hc6 w3.heap.size 0 (by omega)).trans HD5.out)
  have HB6 := Aside0.mk (below_step HB5.out hb6)
  have HC6 := Aside0.mk (Kd.C_below HC5.out hb6)
  clear hb6
  go_wp2_with fail
  refine (when_calls _ _ w3.heap.size A c tx _ HD6.out HC6.out hlc).mono ?_
  rintro e w7 ⟨rfl, hb7⟩
  have hc7 := bcell1 hb7
  have hz7 : w3.heap.size + 1 < w7.heap.size := by have := hb7.size; omega
  have HD7 := Aside0.mk ((hc7 w3.heap.size 0 (by omega)).trans HD6.out)
  have HB7 := Aside0.mk (below_step HB6.out hb7)
  have HC7 := Aside0.mk (Kd.C_below HC6.out hb7)
  clear hb7
  go_wp2_with fail
  refine (colonnadelaw11_awake.calls 20 true _ awake_ok).mono ?_
  rintro e w9 ⟨rfl, hb9⟩
  have HB9 := Aside0.mk (below_step HB7.out hb9)
  clear hb9
  go_wp2
  go_ret
  exact ⟨rfl, HB9.out⟩

set_option maxHeartbeats 4000000 in
set_option maxRecDepth 100000 in
theorem walk_FT (A0 : Option Addr) (c0 : Nat) (l0 : List Int) (a1 a2 a3 : Int) (w : World) (hr0 : Kd.C (Kd.int .i64) w A0 l0.length l0) (hc0 : l0.length ≤ c0)
    (tx : List S38) (t a t2 b lo hi : Int) (htx : colonnadelaw11_Txns.f 20 l0 = some tx) (hS1 : colonnadelaw11_Stamp.f a1 = some (t, a)) (hS2 : colonnadelaw11_Stamp.f (a1 / 256) = some (t2, b))
    (h16 : (Go.bits .and .i64 (a1 / 65536) 1 == 0) = false) (hlo : (if Go.bits .and .i64 a3 15 < Go.bits .and .i64 a2 15 then Go.bits .and .i64 a3 15 else Go.bits .and .i64 a2 15) = lo)
    (hhi : (if Go.bits .and .i64 a2 15 < Go.bits .and .i64 a3 15 then Go.bits .and .i64 a3 15 else Go.bits .and .i64 a2 15) = hi)
    (L1 L2 : List Int) (hx : stam_Sees.f 20 t a t2 b 0 lo tx = some (false, L1)) (hy : stam_Sees.f 20 t a t2 b 0 hi tx = some (true, L2))
    (hgt : decide (lo < whenP t a tx) = true) (hle : decide (whenP t a tx ≤ hi) = true) :
    Calls Try.prog 4 #[.slice A0 l0.length c0, .int .i64 a1, .int .i64 a2, .int .i64 a3] w fun e w' => e = .returned (.bool true) ∧ Below w.heap.size w w' := by
  have hu26 := Try.underlying26
  have hu28 := Try.underlying28
  have eg13 := enters_of Try.func13 (by kernel_rfl) rfl
  unfold Go.Proofs.Enters at eg13
  have HTX := Aside0.mk htx
  have HS1 := Aside0.mk hS1
  have HS2 := Aside0.mk hS2
  have HX := Aside0.mk hx
  have HY := Aside0.mk hy
  have HR0 := Aside0.mk hr0
  clear hr0 htx hS1 hS2 hx hy
  go_enter Try.func4, Try.ntmps4
  go_wp2_with fail
  refine (colonnadelaw11_Txns.calls 20 _ _ _ _ _ HR0.out hc0 HTX.out).mono ?_
  rintro e w1 ⟨v0, rfl, hR1, hb1⟩
  obtain ⟨A, c, rfl, hlc, hC1⟩ := Kd.R_reads hR1
  have HB1 := Aside0.mk hb1
  have HC1 := Aside0.mk hC1
  clear hb1 hC1 hR1
  go_wp2_with fail
  refine (colonnadelaw11_Stamp.calls _ _ _ _ HS1.out).mono ?_
  rintro e w2 ⟨rfl, hb2⟩
  have HB2 := Aside0.mk (below_step HB1.out hb2)
  have HC2 := Aside0.mk (Kd.C_below HC1.out hb2)
  clear hb2
  go_wp2_with fail
  refine (colonnadelaw11_Stamp.calls _ _ _ _ HS2.out).mono ?_
  rintro e w3 ⟨rfl, hb3⟩
  have HB3 := Aside0.mk (below_step HB2.out hb3)
  have HC3 := Aside0.mk (Kd.C_below HC2.out hb3)
  clear hb3
  go_wp2_with fail
  have HB3' := Aside0.mk ((HB3.out.alloc HB3.out.size (.cells #[.slice A tx.length c] 23)).alloc (by have := HB3.out.size; simp; omega) (.cells #[.int .i64 t, .int .i64 a, .int .i64 t2, .int .i64 b] 28))
  have HC3' := Aside0.mk (Kd.C_below (Kd.C_below HC3.out ((Below.refl _ _).alloc (Nat.le_refl _) (.cells #[.slice A tx.length c] 23))) ((Below.refl _ _).alloc (Nat.le_refl _) (.cells #[.int .i64 t, .int .i64 a, .int .i64 t2, .int .i64 b] 28)))
  refine (stam_Sees.calls 20 _ _ _ _ _ _ _ _ _ _ _ _ HC3'.out hlc HX.out).mono ?_
  rintro e w4 ⟨v1, rfl, hR4, hb4⟩
  have hc4 := bcell1 hb4
  have hz4 : w3.heap.size + 1 < w4.heap.size := by have := hb4.size; simp at this; omega
  have HD4 := Aside0.mk ((hc4 w3.heap.size 0 (by simp; omega)).trans (by go_simp) : w4.cell? ⟨w3.heap.size, 0, none⟩ = some (.slice A tx.length c))
  have HB4 := Aside0.mk (below_step HB3'.out hb4)
  have HC4 := Aside0.mk (Kd.C_below HC3'.out hb4)
  clear hb4 hR4
  go_wp2_with fail
  refine (stam_Sees.calls 20 _ _ _ _ _ _ _ _ _ _ _ _ HC4.out hlc HY.out).mono ?_
  rintro e w5 ⟨v2, rfl, hR5, hb5⟩
  have hc5 := bcell1 hb5
  have hz5 : w3.heap.size + 1 < w5.heap.size := by have := hb5.size; omega
  have HD5 := Aside0.mk ((hc5 w3.heap.size 0 (by omega)).trans HD4.out)
  have HB5 := Aside0.mk (below_step HB4.out hb5)
  have HC5 := Aside0.mk (Kd.C_below HC4.out hb5)
  clear hb5 hR5
  go_wp2_with fail
  refine (when_calls _ _ w3.heap.size A c tx _ HD5.out HC5.out hlc).mono ?_
  rintro e w6 ⟨rfl, hb6⟩
  have hc6 := bcell1 hb6
  have hz6 : w3.heap.size + 1 < w6.heap.size := by have := hb6.size; omega
  have HD6 := Aside0.mk ((hc6 w3.heap.size 0 (by omega)).trans HD5.out)
  have HB6 := Aside0.mk (below_step HB5.out hb6)
  have HC6 := Aside0.mk (Kd.C_below HC5.out hb6)
  clear hb6
  go_wp2_with fail
  refine (when_calls _ _ w3.heap.size A c tx _ HD6.out HC6.out hlc).mono ?_
  rintro e w7 ⟨rfl, hb7⟩
  have hc7 := bcell1 hb7
  have hz7 : w3.heap.size + 1 < w7.heap.size := by have := hb7.size; omega
  have HD7 := Aside0.mk ((hc7 w3.heap.size 0 (by omega)).trans HD6.out)
  have HB7 := Aside0.mk (below_step HB6.out hb7)
  have HC7 := Aside0.mk (Kd.C_below HC6.out hb7)
  clear hb7
  go_wp2_with fail
  refine (colonnadelaw11_awake.calls 20 true _ awake_ok).mono ?_
  rintro e w9 ⟨rfl, hb9⟩
  have HB9 := Aside0.mk (below_step HB7.out hb9)
  clear hb9
  go_wp2
  go_ret
  exact ⟨rfl, HB9.out⟩

set_option maxHeartbeats 4000000 in
set_option maxRecDepth 100000 in
theorem walk_TT (A0 : Option Addr) (c0 : Nat) (l0 : List Int) (a1 a2 a3 : Int) (w : World) (hr0 : Kd.C (Kd.int .i64) w A0 l0.length l0) (hc0 : l0.length ≤ c0)
    (tx : List S38) (t a t2 b lo hi : Int) (htx : colonnadelaw11_Txns.f 20 l0 = some tx) (hS1 : colonnadelaw11_Stamp.f a1 = some (t, a)) (hS2 : colonnadelaw11_Stamp.f (a1 / 256) = some (t2, b))
    (h16 : (Go.bits .and .i64 (a1 / 65536) 1 == 0) = false) (hlo : (if Go.bits .and .i64 a3 15 < Go.bits .and .i64 a2 15 then Go.bits .and .i64 a3 15 else Go.bits .and .i64 a2 15) = lo)
    (hhi : (if Go.bits .and .i64 a2 15 < Go.bits .and .i64 a3 15 then Go.bits .and .i64 a3 15 else Go.bits .and .i64 a2 15) = hi)
    (L1 L2 : List Int) (hx : stam_Sees.f 20 t a t2 b 0 lo tx = some (true, L1)) (hy : stam_Sees.f 20 t a t2 b 0 hi tx = some (true, L2)) :
    Calls Try.prog 4 #[.slice A0 l0.length c0, .int .i64 a1, .int .i64 a2, .int .i64 a3] w fun e w' => e = .returned (.bool true) ∧ Below w.heap.size w w' := by
  have hu26 := Try.underlying26
  have hu28 := Try.underlying28
  have eg13 := enters_of Try.func13 (by kernel_rfl) rfl
  unfold Go.Proofs.Enters at eg13
  have HTX := Aside0.mk htx
  have HS1 := Aside0.mk hS1
  have HS2 := Aside0.mk hS2
  have HX := Aside0.mk hx
  have HY := Aside0.mk hy
  have HR0 := Aside0.mk hr0
  clear hr0 htx hS1 hS2 hx hy
  go_enter Try.func4, Try.ntmps4
  go_wp2_with fail
  refine (colonnadelaw11_Txns.calls 20 _ _ _ _ _ HR0.out hc0 HTX.out).mono ?_
  rintro e w1 ⟨v0, rfl, hR1, hb1⟩
  obtain ⟨A, c, rfl, hlc, hC1⟩ := Kd.R_reads hR1
  have HB1 := Aside0.mk hb1
  have HC1 := Aside0.mk hC1
  clear hb1 hC1 hR1
  go_wp2_with fail
  refine (colonnadelaw11_Stamp.calls _ _ _ _ HS1.out).mono ?_
  rintro e w2 ⟨rfl, hb2⟩
  have HB2 := Aside0.mk (below_step HB1.out hb2)
  have HC2 := Aside0.mk (Kd.C_below HC1.out hb2)
  clear hb2
  go_wp2_with fail
  refine (colonnadelaw11_Stamp.calls _ _ _ _ HS2.out).mono ?_
  rintro e w3 ⟨rfl, hb3⟩
  have HB3 := Aside0.mk (below_step HB2.out hb3)
  have HC3 := Aside0.mk (Kd.C_below HC2.out hb3)
  clear hb3
  go_wp2_with fail
  have HB3' := Aside0.mk ((HB3.out.alloc HB3.out.size (.cells #[.slice A tx.length c] 23)).alloc (by have := HB3.out.size; simp; omega) (.cells #[.int .i64 t, .int .i64 a, .int .i64 t2, .int .i64 b] 28))
  have HC3' := Aside0.mk (Kd.C_below (Kd.C_below HC3.out ((Below.refl _ _).alloc (Nat.le_refl _) (.cells #[.slice A tx.length c] 23))) ((Below.refl _ _).alloc (Nat.le_refl _) (.cells #[.int .i64 t, .int .i64 a, .int .i64 t2, .int .i64 b] 28)))
  refine (stam_Sees.calls 20 _ _ _ _ _ _ _ _ _ _ _ _ HC3'.out hlc HX.out).mono ?_
  rintro e w4 ⟨v1, rfl, hR4, hb4⟩
  have hc4 := bcell1 hb4
  have hz4 : w3.heap.size + 1 < w4.heap.size := by have := hb4.size; simp at this; omega
  have HD4 := Aside0.mk ((hc4 w3.heap.size 0 (by simp; omega)).trans (by go_simp) : w4.cell? ⟨w3.heap.size, 0, none⟩ = some (.slice A tx.length c))
  have HB4 := Aside0.mk (below_step HB3'.out hb4)
  have HC4 := Aside0.mk (Kd.C_below HC3'.out hb4)
  clear hb4 hR4
  go_wp2_with fail
  refine (stam_Sees.calls 20 _ _ _ _ _ _ _ _ _ _ _ _ HC4.out hlc HY.out).mono ?_
  rintro e w5 ⟨v2, rfl, hR5, hb5⟩
  have hc5 := bcell1 hb5
  have hz5 : w3.heap.size + 1 < w5.heap.size := by have := hb5.size; omega
  have HD5 := Aside0.mk ((hc5 w3.heap.size 0 (by omega)).trans HD4.out)
  have HB5 := Aside0.mk (below_step HB4.out hb5)
  have HC5 := Aside0.mk (Kd.C_below HC4.out hb5)
  clear hb5 hR5
  go_wp2_with fail
  refine (colonnadelaw11_awake.calls 20 true _ awake_ok).mono ?_
  rintro e w9 ⟨rfl, hb9⟩
  have HB9 := Aside0.mk (below_step HB5.out hb9)
  clear hb9
  go_wp2
  go_ret
  exact ⟨rfl, HB9.out⟩

set_option maxHeartbeats 4000000 in
set_option maxRecDepth 100000 in
theorem walk_FF (A0 : Option Addr) (c0 : Nat) (l0 : List Int) (a1 a2 a3 : Int) (w : World) (hr0 : Kd.C (Kd.int .i64) w A0 l0.length l0) (hc0 : l0.length ≤ c0)
    (tx : List S38) (t a t2 b lo hi : Int) (htx : colonnadelaw11_Txns.f 20 l0 = some tx) (hS1 : colonnadelaw11_Stamp.f a1 = some (t, a)) (hS2 : colonnadelaw11_Stamp.f (a1 / 256) = some (t2, b))
    (h16 : (Go.bits .and .i64 (a1 / 65536) 1 == 0) = false) (hlo : (if Go.bits .and .i64 a3 15 < Go.bits .and .i64 a2 15 then Go.bits .and .i64 a3 15 else Go.bits .and .i64 a2 15) = lo)
    (hhi : (if Go.bits .and .i64 a2 15 < Go.bits .and .i64 a3 15 then Go.bits .and .i64 a3 15 else Go.bits .and .i64 a2 15) = hi)
    (L1 L2 : List Int) (hx : stam_Sees.f 20 t a t2 b 0 lo tx = some (false, L1)) (hy : stam_Sees.f 20 t a t2 b 0 hi tx = some (false, L2)) :
    Calls Try.prog 4 #[.slice A0 l0.length c0, .int .i64 a1, .int .i64 a2, .int .i64 a3] w fun e w' => e = .returned (.bool true) ∧ Below w.heap.size w w' := by
  have hu26 := Try.underlying26
  have hu28 := Try.underlying28
  have eg13 := enters_of Try.func13 (by kernel_rfl) rfl
  unfold Go.Proofs.Enters at eg13
  have HTX := Aside0.mk htx
  have HS1 := Aside0.mk hS1
  have HS2 := Aside0.mk hS2
  have HX := Aside0.mk hx
  have HY := Aside0.mk hy
  have HR0 := Aside0.mk hr0
  clear hr0 htx hS1 hS2 hx hy
  go_enter Try.func4, Try.ntmps4
  go_wp2_with fail
  refine (colonnadelaw11_Txns.calls 20 _ _ _ _ _ HR0.out hc0 HTX.out).mono ?_
  rintro e w1 ⟨v0, rfl, hR1, hb1⟩
  obtain ⟨A, c, rfl, hlc, hC1⟩ := Kd.R_reads hR1
  have HB1 := Aside0.mk hb1
  have HC1 := Aside0.mk hC1
  clear hb1 hC1 hR1
  go_wp2_with fail
  refine (colonnadelaw11_Stamp.calls _ _ _ _ HS1.out).mono ?_
  rintro e w2 ⟨rfl, hb2⟩
  have HB2 := Aside0.mk (below_step HB1.out hb2)
  have HC2 := Aside0.mk (Kd.C_below HC1.out hb2)
  clear hb2
  go_wp2_with fail
  refine (colonnadelaw11_Stamp.calls _ _ _ _ HS2.out).mono ?_
  rintro e w3 ⟨rfl, hb3⟩
  have HB3 := Aside0.mk (below_step HB2.out hb3)
  have HC3 := Aside0.mk (Kd.C_below HC2.out hb3)
  clear hb3
  go_wp2_with fail
  have HB3' := Aside0.mk ((HB3.out.alloc HB3.out.size (.cells #[.slice A tx.length c] 23)).alloc (by have := HB3.out.size; simp; omega) (.cells #[.int .i64 t, .int .i64 a, .int .i64 t2, .int .i64 b] 28))
  have HC3' := Aside0.mk (Kd.C_below (Kd.C_below HC3.out ((Below.refl _ _).alloc (Nat.le_refl _) (.cells #[.slice A tx.length c] 23))) ((Below.refl _ _).alloc (Nat.le_refl _) (.cells #[.int .i64 t, .int .i64 a, .int .i64 t2, .int .i64 b] 28)))
  refine (stam_Sees.calls 20 _ _ _ _ _ _ _ _ _ _ _ _ HC3'.out hlc HX.out).mono ?_
  rintro e w4 ⟨v1, rfl, hR4, hb4⟩
  have hc4 := bcell1 hb4
  have hz4 : w3.heap.size + 1 < w4.heap.size := by have := hb4.size; simp at this; omega
  have HD4 := Aside0.mk ((hc4 w3.heap.size 0 (by simp; omega)).trans (by go_simp) : w4.cell? ⟨w3.heap.size, 0, none⟩ = some (.slice A tx.length c))
  have HB4 := Aside0.mk (below_step HB3'.out hb4)
  have HC4 := Aside0.mk (Kd.C_below HC3'.out hb4)
  clear hb4 hR4
  go_wp2_with fail
  refine (stam_Sees.calls 20 _ _ _ _ _ _ _ _ _ _ _ _ HC4.out hlc HY.out).mono ?_
  rintro e w5 ⟨v2, rfl, hR5, hb5⟩
  have hc5 := bcell1 hb5
  have hz5 : w3.heap.size + 1 < w5.heap.size := by have := hb5.size; omega
  have HD5 := Aside0.mk ((hc5 w3.heap.size 0 (by omega)).trans HD4.out)
  have HB5 := Aside0.mk (below_step HB4.out hb5)
  have HC5 := Aside0.mk (Kd.C_below HC4.out hb5)
  clear hb5 hR5
  go_wp2_with fail
  refine (colonnadelaw11_awake.calls 20 true _ awake_ok).mono ?_
  rintro e w9 ⟨rfl, hb9⟩
  have HB9 := Aside0.mk (below_step HB5.out hb9)
  clear hb9
  go_wp2
  go_ret
  exact ⟨rfl, HB9.out⟩

set_option maxHeartbeats 4000000 in
set_option maxRecDepth 100000 in
theorem walk_FTn (A0 : Option Addr) (c0 : Nat) (l0 : List Int) (a1 a2 a3 : Int) (w : World) (hr0 : Kd.C (Kd.int .i64) w A0 l0.length l0) (hc0 : l0.length ≤ c0)
    (tx : List S38) (t a t2 b lo hi : Int) (htx : colonnadelaw11_Txns.f 20 l0 = some tx) (hS1 : colonnadelaw11_Stamp.f a1 = some (t, a)) (hS2 : colonnadelaw11_Stamp.f (a1 / 256) = some (t2, b))
    (h16 : (Go.bits .and .i64 (a1 / 65536) 1 == 0) = true) (hlo : (if Go.bits .and .i64 a3 15 < Go.bits .and .i64 a2 15 then Go.bits .and .i64 a3 15 else Go.bits .and .i64 a2 15) = lo)
    (hhi : (if Go.bits .and .i64 a2 15 < Go.bits .and .i64 a3 15 then Go.bits .and .i64 a3 15 else Go.bits .and .i64 a2 15) = hi)
    (L1 L2 : List Int) (hx : stam_Sees.f 20 t a 0 0 0 lo tx = some (false, L1)) (hy : stam_Sees.f 20 t a 0 0 0 hi tx = some (true, L2))
    (hgt : decide (lo < whenP t a tx) = true) (hle : decide (whenP t a tx ≤ hi) = true) :
    Calls Try.prog 4 #[.slice A0 l0.length c0, .int .i64 a1, .int .i64 a2, .int .i64 a3] w fun e w' => e = .returned (.bool true) ∧ Below w.heap.size w w' := by
  have hu26 := Try.underlying26
  have hu28 := Try.underlying28
  have eg13 := enters_of Try.func13 (by kernel_rfl) rfl
  unfold Go.Proofs.Enters at eg13
  have HTX := Aside0.mk htx
  have HS1 := Aside0.mk hS1
  have HS2 := Aside0.mk hS2
  have HX := Aside0.mk hx
  have HY := Aside0.mk hy
  have HR0 := Aside0.mk hr0
  clear hr0 htx hS1 hS2 hx hy
  go_enter Try.func4, Try.ntmps4
  go_wp2_with fail
  refine (colonnadelaw11_Txns.calls 20 _ _ _ _ _ HR0.out hc0 HTX.out).mono ?_
  rintro e w1 ⟨v0, rfl, hR1, hb1⟩
  obtain ⟨A, c, rfl, hlc, hC1⟩ := Kd.R_reads hR1
  have HB1 := Aside0.mk hb1
  have HC1 := Aside0.mk hC1
  clear hb1 hC1 hR1
  go_wp2_with fail
  refine (colonnadelaw11_Stamp.calls _ _ _ _ HS1.out).mono ?_
  rintro e w2 ⟨rfl, hb2⟩
  have HB2 := Aside0.mk (below_step HB1.out hb2)
  have HC2 := Aside0.mk (Kd.C_below HC1.out hb2)
  clear hb2
  go_wp2_with fail
  refine (colonnadelaw11_Stamp.calls _ _ _ _ HS2.out).mono ?_
  rintro e w3 ⟨rfl, hb3⟩
  have HB3 := Aside0.mk (below_step HB2.out hb3)
  have HC3 := Aside0.mk (Kd.C_below HC2.out hb3)
  clear hb3
  go_wp2_with fail
  have HB3' := Aside0.mk ((HB3.out.alloc HB3.out.size (.cells #[.slice A tx.length c] 23)).alloc (by have := HB3.out.size; simp; omega) (.cells #[.int .i64 t, .int .i64 a, .int .i64 0, .int .i64 0] 28))
  have HC3' := Aside0.mk (Kd.C_below (Kd.C_below HC3.out ((Below.refl _ _).alloc (Nat.le_refl _) (.cells #[.slice A tx.length c] 23))) ((Below.refl _ _).alloc (Nat.le_refl _) (.cells #[.int .i64 t, .int .i64 a, .int .i64 0, .int .i64 0] 28)))
  refine (stam_Sees.calls 20 _ _ _ _ _ _ _ _ _ _ _ _ HC3'.out hlc HX.out).mono ?_
  rintro e w4 ⟨v1, rfl, hR4, hb4⟩
  have hc4 := bcell1 hb4
  have hz4 : w3.heap.size + 1 < w4.heap.size := by have := hb4.size; simp at this; omega
  have HD4 := Aside0.mk ((hc4 w3.heap.size 0 (by simp; omega)).trans (by go_simp) : w4.cell? ⟨w3.heap.size, 0, none⟩ = some (.slice A tx.length c))
  have HB4 := Aside0.mk (below_step HB3'.out hb4)
  have HC4 := Aside0.mk (Kd.C_below HC3'.out hb4)
  clear hb4 hR4
  go_wp2_with fail
  refine (stam_Sees.calls 20 _ _ _ _ _ _ _ _ _ _ _ _ HC4.out hlc HY.out).mono ?_
  rintro e w5 ⟨v2, rfl, hR5, hb5⟩
  have hc5 := bcell1 hb5
  have hz5 : w3.heap.size + 1 < w5.heap.size := by have := hb5.size; omega
  have HD5 := Aside0.mk ((hc5 w3.heap.size 0 (by omega)).trans HD4.out)
  have HB5 := Aside0.mk (below_step HB4.out hb5)
  have HC5 := Aside0.mk (Kd.C_below HC4.out hb5)
  clear hb5 hR5
  go_wp2_with fail
  refine (when_calls _ _ w3.heap.size A c tx _ HD5.out HC5.out hlc).mono ?_
  rintro e w6 ⟨rfl, hb6⟩
  have hc6 := bcell1 hb6
  have hz6 : w3.heap.size + 1 < w6.heap.size := by have := hb6.size; omega
  have HD6 := Aside0.mk ((hc6 w3.heap.size 0 (by omega)).trans HD5.out)
  have HB6 := Aside0.mk (below_step HB5.out hb6)
  have HC6 := Aside0.mk (Kd.C_below HC5.out hb6)
  clear hb6
  go_wp2_with fail
  refine (when_calls _ _ w3.heap.size A c tx _ HD6.out HC6.out hlc).mono ?_
  rintro e w7 ⟨rfl, hb7⟩
  have hc7 := bcell1 hb7
  have hz7 : w3.heap.size + 1 < w7.heap.size := by have := hb7.size; omega
  have HD7 := Aside0.mk ((hc7 w3.heap.size 0 (by omega)).trans HD6.out)
  have HB7 := Aside0.mk (below_step HB6.out hb7)
  have HC7 := Aside0.mk (Kd.C_below HC6.out hb7)
  clear hb7
  go_wp2_with fail
  refine (colonnadelaw11_awake.calls 20 true _ awake_ok).mono ?_
  rintro e w9 ⟨rfl, hb9⟩
  have HB9 := Aside0.mk (below_step HB7.out hb9)
  clear hb9
  go_wp2
  go_ret
  exact ⟨rfl, HB9.out⟩

set_option maxHeartbeats 4000000 in
set_option maxRecDepth 100000 in
theorem walk_TTn (A0 : Option Addr) (c0 : Nat) (l0 : List Int) (a1 a2 a3 : Int) (w : World) (hr0 : Kd.C (Kd.int .i64) w A0 l0.length l0) (hc0 : l0.length ≤ c0)
    (tx : List S38) (t a t2 b lo hi : Int) (htx : colonnadelaw11_Txns.f 20 l0 = some tx) (hS1 : colonnadelaw11_Stamp.f a1 = some (t, a)) (hS2 : colonnadelaw11_Stamp.f (a1 / 256) = some (t2, b))
    (h16 : (Go.bits .and .i64 (a1 / 65536) 1 == 0) = true) (hlo : (if Go.bits .and .i64 a3 15 < Go.bits .and .i64 a2 15 then Go.bits .and .i64 a3 15 else Go.bits .and .i64 a2 15) = lo)
    (hhi : (if Go.bits .and .i64 a2 15 < Go.bits .and .i64 a3 15 then Go.bits .and .i64 a3 15 else Go.bits .and .i64 a2 15) = hi)
    (L1 L2 : List Int) (hx : stam_Sees.f 20 t a 0 0 0 lo tx = some (true, L1)) (hy : stam_Sees.f 20 t a 0 0 0 hi tx = some (true, L2)) :
    Calls Try.prog 4 #[.slice A0 l0.length c0, .int .i64 a1, .int .i64 a2, .int .i64 a3] w fun e w' => e = .returned (.bool true) ∧ Below w.heap.size w w' := by
  have hu26 := Try.underlying26
  have hu28 := Try.underlying28
  have eg13 := enters_of Try.func13 (by kernel_rfl) rfl
  unfold Go.Proofs.Enters at eg13
  have HTX := Aside0.mk htx
  have HS1 := Aside0.mk hS1
  have HS2 := Aside0.mk hS2
  have HX := Aside0.mk hx
  have HY := Aside0.mk hy
  have HR0 := Aside0.mk hr0
  clear hr0 htx hS1 hS2 hx hy
  go_enter Try.func4, Try.ntmps4
  go_wp2_with fail
  refine (colonnadelaw11_Txns.calls 20 _ _ _ _ _ HR0.out hc0 HTX.out).mono ?_
  rintro e w1 ⟨v0, rfl, hR1, hb1⟩
  obtain ⟨A, c, rfl, hlc, hC1⟩ := Kd.R_reads hR1
  have HB1 := Aside0.mk hb1
  have HC1 := Aside0.mk hC1
  clear hb1 hC1 hR1
  go_wp2_with fail
  refine (colonnadelaw11_Stamp.calls _ _ _ _ HS1.out).mono ?_
  rintro e w2 ⟨rfl, hb2⟩
  have HB2 := Aside0.mk (below_step HB1.out hb2)
  have HC2 := Aside0.mk (Kd.C_below HC1.out hb2)
  clear hb2
  go_wp2_with fail
  refine (colonnadelaw11_Stamp.calls _ _ _ _ HS2.out).mono ?_
  rintro e w3 ⟨rfl, hb3⟩
  have HB3 := Aside0.mk (below_step HB2.out hb3)
  have HC3 := Aside0.mk (Kd.C_below HC2.out hb3)
  clear hb3
  go_wp2_with fail
  have HB3' := Aside0.mk ((HB3.out.alloc HB3.out.size (.cells #[.slice A tx.length c] 23)).alloc (by have := HB3.out.size; simp; omega) (.cells #[.int .i64 t, .int .i64 a, .int .i64 0, .int .i64 0] 28))
  have HC3' := Aside0.mk (Kd.C_below (Kd.C_below HC3.out ((Below.refl _ _).alloc (Nat.le_refl _) (.cells #[.slice A tx.length c] 23))) ((Below.refl _ _).alloc (Nat.le_refl _) (.cells #[.int .i64 t, .int .i64 a, .int .i64 0, .int .i64 0] 28)))
  refine (stam_Sees.calls 20 _ _ _ _ _ _ _ _ _ _ _ _ HC3'.out hlc HX.out).mono ?_
  rintro e w4 ⟨v1, rfl, hR4, hb4⟩
  have hc4 := bcell1 hb4
  have hz4 : w3.heap.size + 1 < w4.heap.size := by have := hb4.size; simp at this; omega
  have HD4 := Aside0.mk ((hc4 w3.heap.size 0 (by simp; omega)).trans (by go_simp) : w4.cell? ⟨w3.heap.size, 0, none⟩ = some (.slice A tx.length c))
  have HB4 := Aside0.mk (below_step HB3'.out hb4)
  have HC4 := Aside0.mk (Kd.C_below HC3'.out hb4)
  clear hb4 hR4
  go_wp2_with fail
  refine (stam_Sees.calls 20 _ _ _ _ _ _ _ _ _ _ _ _ HC4.out hlc HY.out).mono ?_
  rintro e w5 ⟨v2, rfl, hR5, hb5⟩
  have hc5 := bcell1 hb5
  have hz5 : w3.heap.size + 1 < w5.heap.size := by have := hb5.size; omega
  have HD5 := Aside0.mk ((hc5 w3.heap.size 0 (by omega)).trans HD4.out)
  have HB5 := Aside0.mk (below_step HB4.out hb5)
  have HC5 := Aside0.mk (Kd.C_below HC4.out hb5)
  clear hb5 hR5
  go_wp2_with fail
  refine (colonnadelaw11_awake.calls 20 true _ awake_ok).mono ?_
  rintro e w9 ⟨rfl, hb9⟩
  have HB9 := Aside0.mk (below_step HB5.out hb9)
  clear hb9
  go_wp2
  go_ret
  exact ⟨rfl, HB9.out⟩

set_option maxHeartbeats 4000000 in
set_option maxRecDepth 100000 in
theorem walk_FFn (A0 : Option Addr) (c0 : Nat) (l0 : List Int) (a1 a2 a3 : Int) (w : World) (hr0 : Kd.C (Kd.int .i64) w A0 l0.length l0) (hc0 : l0.length ≤ c0)
    (tx : List S38) (t a t2 b lo hi : Int) (htx : colonnadelaw11_Txns.f 20 l0 = some tx) (hS1 : colonnadelaw11_Stamp.f a1 = some (t, a)) (hS2 : colonnadelaw11_Stamp.f (a1 / 256) = some (t2, b))
    (h16 : (Go.bits .and .i64 (a1 / 65536) 1 == 0) = true) (hlo : (if Go.bits .and .i64 a3 15 < Go.bits .and .i64 a2 15 then Go.bits .and .i64 a3 15 else Go.bits .and .i64 a2 15) = lo)
    (hhi : (if Go.bits .and .i64 a2 15 < Go.bits .and .i64 a3 15 then Go.bits .and .i64 a3 15 else Go.bits .and .i64 a2 15) = hi)
    (L1 L2 : List Int) (hx : stam_Sees.f 20 t a 0 0 0 lo tx = some (false, L1)) (hy : stam_Sees.f 20 t a 0 0 0 hi tx = some (false, L2)) :
    Calls Try.prog 4 #[.slice A0 l0.length c0, .int .i64 a1, .int .i64 a2, .int .i64 a3] w fun e w' => e = .returned (.bool true) ∧ Below w.heap.size w w' := by
  have hu26 := Try.underlying26
  have hu28 := Try.underlying28
  have eg13 := enters_of Try.func13 (by kernel_rfl) rfl
  unfold Go.Proofs.Enters at eg13
  have HTX := Aside0.mk htx
  have HS1 := Aside0.mk hS1
  have HS2 := Aside0.mk hS2
  have HX := Aside0.mk hx
  have HY := Aside0.mk hy
  have HR0 := Aside0.mk hr0
  clear hr0 htx hS1 hS2 hx hy
  go_enter Try.func4, Try.ntmps4
  go_wp2_with fail
  refine (colonnadelaw11_Txns.calls 20 _ _ _ _ _ HR0.out hc0 HTX.out).mono ?_
  rintro e w1 ⟨v0, rfl, hR1, hb1⟩
  obtain ⟨A, c, rfl, hlc, hC1⟩ := Kd.R_reads hR1
  have HB1 := Aside0.mk hb1
  have HC1 := Aside0.mk hC1
  clear hb1 hC1 hR1
  go_wp2_with fail
  refine (colonnadelaw11_Stamp.calls _ _ _ _ HS1.out).mono ?_
  rintro e w2 ⟨rfl, hb2⟩
  have HB2 := Aside0.mk (below_step HB1.out hb2)
  have HC2 := Aside0.mk (Kd.C_below HC1.out hb2)
  clear hb2
  go_wp2_with fail
  refine (colonnadelaw11_Stamp.calls _ _ _ _ HS2.out).mono ?_
  rintro e w3 ⟨rfl, hb3⟩
  have HB3 := Aside0.mk (below_step HB2.out hb3)
  have HC3 := Aside0.mk (Kd.C_below HC2.out hb3)
  clear hb3
  go_wp2_with fail
  have HB3' := Aside0.mk ((HB3.out.alloc HB3.out.size (.cells #[.slice A tx.length c] 23)).alloc (by have := HB3.out.size; simp; omega) (.cells #[.int .i64 t, .int .i64 a, .int .i64 0, .int .i64 0] 28))
  have HC3' := Aside0.mk (Kd.C_below (Kd.C_below HC3.out ((Below.refl _ _).alloc (Nat.le_refl _) (.cells #[.slice A tx.length c] 23))) ((Below.refl _ _).alloc (Nat.le_refl _) (.cells #[.int .i64 t, .int .i64 a, .int .i64 0, .int .i64 0] 28)))
  refine (stam_Sees.calls 20 _ _ _ _ _ _ _ _ _ _ _ _ HC3'.out hlc HX.out).mono ?_
  rintro e w4 ⟨v1, rfl, hR4, hb4⟩
  have hc4 := bcell1 hb4
  have hz4 : w3.heap.size + 1 < w4.heap.size := by have := hb4.size; simp at this; omega
  have HD4 := Aside0.mk ((hc4 w3.heap.size 0 (by simp; omega)).trans (by go_simp) : w4.cell? ⟨w3.heap.size, 0, none⟩ = some (.slice A tx.length c))
  have HB4 := Aside0.mk (below_step HB3'.out hb4)
  have HC4 := Aside0.mk (Kd.C_below HC3'.out hb4)
  clear hb4 hR4
  go_wp2_with fail
  refine (stam_Sees.calls 20 _ _ _ _ _ _ _ _ _ _ _ _ HC4.out hlc HY.out).mono ?_
  rintro e w5 ⟨v2, rfl, hR5, hb5⟩
  have hc5 := bcell1 hb5
  have hz5 : w3.heap.size + 1 < w5.heap.size := by have := hb5.size; omega
  have HD5 := Aside0.mk ((hc5 w3.heap.size 0 (by omega)).trans HD4.out)
  have HB5 := Aside0.mk (below_step HB4.out hb5)
  have HC5 := Aside0.mk (Kd.C_below HC4.out hb5)
  clear hb5 hR5
  go_wp2_with fail
  refine (colonnadelaw11_awake.calls 20 true _ awake_ok).mono ?_
  rintro e w9 ⟨rfl, hb9⟩
  have HB9 := Aside0.mk (below_step HB5.out hb9)
  clear hb9
  go_wp2
  go_ret
  exact ⟨rfl, HB9.out⟩

end Go.Proofs.Ytoicmeagmeiiaaa.Later

