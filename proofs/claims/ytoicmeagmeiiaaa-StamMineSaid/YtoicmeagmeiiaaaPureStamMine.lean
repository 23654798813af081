/- StamMine: what one did oneself one sees whatever the time, leaving it out one sees what there was without it, and nobody hangs on that; without any condition on the input. -/
import Derived.Test.YtoicmeagmeiiaaaPure0
namespace Go.Proofs.Ytoicmeagmeiiaaa.Pure
open Go.RowKit Go.Proofs.Ytoicmeagmeiiaaa.GStam Go.Proofs.YtoicmeagmeiiaaaW.PrintWords Go.Proofs.YtoicmeagmeiiaaaW.PrintLast

theorem StamMine : colonnadelaw11_StamMine.Pure := by
  intro l0 a1 a2 hl _ _ _ _
  refine ⟨20, ?_⟩
  obtain ⟨tx, htx, hids⟩ := txns l0 20 (by decide)
  obtain ⟨t, a, hst, ht0, ht6⟩ := stamp a1
  unfold colonnadelaw11_StamMine.f stam_Sees.f stam_Base.f stam_May.f
  rw [htx, hst, awake_ok]
  simp only [Option.bind_some, sees_eq 20 (by decide)]
  generalize Go.bits .and .i64 a2 15 = at_
  have e1 : seesP 9 0 0 0 9 at_ tx true = (true, []) := by simp [seesP, begP, endP, srt_nil]
  have e2 : seesP 9 0 0 0 9 at_ tx false = (false, []) := by simp [seesP, begP]
  have hb : ∀ m, begP t a 9 at_ tx m = holdP t a at_ tx := fun m => by unfold begP; rw [if_neg (by omega)]
  have e3 : seesP t a 0 0 9 at_ tx true = seesP t a 9 0 9 at_ tx false := by
    simp [seesP, hb, endP]
  have e4 : (seesP t a 9 0 9 at_ tx true).1 = false := by
    simp [seesP, hb, endP]
    split <;> simp
  rw [e1, e2, e3, e4]
  simp only [beq_self_eq_true, if_true, List.length_nil]
  have hlen : (seesP t a 9 0 9 at_ tx false).2.length ≤ 1 := by
    simp only [seesP, hb, endP]
    split
    · simp only [show (9 : Int) ≠ 0 from by decide]
      simp
      split
      · exact Nat.le_trans (compact_length_le _) (by simp)
      · exact Nat.le_trans (compact_length_le _) (by simp)
    · simp
  rw [same_self _ 20 (by omega) (by omega)]
  rw [show (20 : Nat) = 19 + 1 from rfl]
  simp [stam_Never.f, stam_State.f, stam_May.j0, state_none hids (t := 9) (Or.inl (by decide)), z38]
end Go.Proofs.Ytoicmeagmeiiaaa.Pure
