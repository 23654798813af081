/- StamState: the first transaction of an ID is told, whatever stands behind, and of none nothing; without any condition on the input: the row. -/
import Derived.Test.YtoicmeagmeiiaaaRows
import Derived.Test.YtoicmeagmeiiaaaPureStamState
import Derived.Test.YtoicmeagmeiiaaaRT
import Derived.WalkKit
import Derived.ProofKit
import Derived.OpenShut
import Derived.ShutString
import Derived.ChangeOld
import Derived.Below
import Derived.SizedLaws
namespace Go.Proofs.Ytoicmeagmeiiaaa.stamState
open Go.ChangeShapes Go.WideShapes Go.ChangeAt Go.RowKit
open Go.ChangeMaps (open_string shut_string)
open Go.Proofs.YtoicmeagmeiiaaaW.PrintWords Go.Proofs.Ytoicmeagmeiiaaa.GStam Go.Proofs.Ytoicmeagmeiiaaa.RT
theorem own : ownKnob Try.prog.godebug = none := by kernel_rfl
theorem laidOut : laidOutB Try.prog = true := by kernel_rfl
theorem rt38 (n : Nat) : RT Try.prog k38 38 (n + 1) :=
  rt_iso _ (fun x => ⟨x.1, x.2.1, x.2.2.1, x.2.2.2⟩) (fun _ => rfl)
    (rt_struct Try.underlying38 (by kernel_rfl) (rtf_cons rfl (by kernel_rfl) (rt_int Try.underlying3) (rtf_cons rfl (by kernel_rfl) (rt_int Try.underlying3) (rtf_cons rfl (by kernel_rfl) (rt_int Try.underlying3) (rtf_last rfl (by kernel_rfl) (rt_int Try.underlying3))))))
set_option maxRecDepth 100000 in
theorem lifted (os : Os) (started : os.Started) (H : Type) (enc : TypeId × Value → H) :
    ReturnsInHanded {} Try.checked os 5 .any (Rows.stamStateSpec.pre6 enc Try.prog Try.f5 Rows.stamStateRow.domain false) (Rows.stamStateSpec.post enc Try.prog Try.f5 false true false false) := by
  refine returnsInHanded_of_change_sized (C := Try.checked) own started (by kernel_rfl) Try.func5
    (ChangeSpec.witness6 (enc := enc) (C := Try.checked) false ⟨#[], #[.slice none 0 0, .int .i64 0], []⟩ 8 (by kernel_rfl) (by kernel_rfl) (by kernel_rfl) (by kernel_rfl)) ?_
  intro W base args ds gs before hval0 hW hcnd hsz0 _
  have hval : ∀ (j : Nat) t v, Try.f5.params[j]? = some t → args[j]? = some v → Value.okWide Try.prog W .any base t v := hval0
  have hW' := hW
  obtain ⟨p, q, hA0, hV, rfl, hfz, hnd⟩ := hW
  have hA : DataW.TrodAll enc Try.prog W 0 (fun _ => true) true Try.f5.params.toList args.toList ds p := hA0
  rw [Try.params5] at hA hval
  obtain ⟨v0, vs0, d0, ds0, p0, q0, hargs, rfl, rfl, h0, r0⟩ := trodAll_cons hA
  obtain ⟨v1, vs1, d1, ds1, p1, q1, rfl, rfl, rfl, h1, r1⟩ := trodAll_cons r0
  obtain ⟨rfl, rfl, rfl⟩ := trodAll_nil r1
  obtain rfl : args = #[v0, v1] := by cases args; simp_all
  obtain ⟨rfl, rfl⟩ := trodVars_none hV
  obtain ⟨a0, len0, cap0, rfl⟩ := okWide_slice Try.underlying23 (hval 0 23 v0 rfl rfl)
  have k0 := h0
  have lt0 : ∀ x ∈ p0, x.block < W.heap.size := by obtain ⟨m, hm⟩ := k0; exact DataW.trod_lt m _ _ _ hm
  obtain ⟨l0, hl0, hlc, hC⟩ : ∃ l0 : List S38, len0 = l0.length ∧ l0.length ≤ cap0 ∧ Kd.C k38 W a0 l0.length l0 := by
    obtain ⟨fuel, hf⟩ := h0
    obtain ⟨l, A, c, hcs, hlc, hC⟩ := rt_slice Try.underlying23 (by kernel_rfl) (rt38 fuel) _ _ _ _ _ _ fuel _ _ (by omega) hf
    simp [Value.cells] at hcs
    obtain ⟨rfl, rfl, rfl⟩ := hcs
    exact ⟨l, rfl, hlc, hC⟩
  subst hl0
  obtain ⟨a1, rfl, rfl, rfl, w1⟩ := open_int Try.underlying3 (hval 1 3 v1 rfl rfl) h1
  clear hA0 hval0 hsz0
  refine (colonnadelaw11_StamState.calls 200 a0 cap0 l0 a1 true W hC hlc (Pure.StamState l0 a1)).mono fun e W' ⟨he, bel⟩ => ?_
  subst he
  exact ⟨_, rfl, _, _, _, [], _, [], hW', trodAll_mk1 (shut_bool Try.underlying4 _), (trodAll_cons_mk (Below.trod laidOut (by kernel_rfl) (of_decide_eq_true (by kernel_rfl)) k0 bel lt0) (trodAll_cons_mk (shut_int Try.underlying3 w1) trodAll_mk0)), rfl, bel.frame _, fun h => by cases h⟩
theorem over : Rows.stamStateRow.holds Try.pinned (OpenSpec.ofChange Rows.stamStateSpec) :=
  OpenClaim.holds_of_wide 5 Try.f5 rfl rfl rfl rfl rfl rfl rfl ⟨rfl, rfl, rfl, rfl, rfl⟩ rfl rfl rfl rfl rfl (by kernel_rfl) Try.func5 (by kernel_rfl)
    (of_decide_eq_true (by kernel_rfl)) (by unfold Func.isWrapper; first | (rw [if_pos (by decide +kernel)]; kernel_rfl) | (rw [if_neg (by decide +kernel)]; exact ⟨rfl, rfl⟩))
    (fun os started H enc _ => lifted os started H enc)
end Go.Proofs.Ytoicmeagmeiiaaa.stamState
namespace Go.Proofs.Ytoicmeagmeiiaaa
theorem stamState_holds : Rows.StamStateSaid := stamState.over
#print axioms stamState_holds
end Go.Proofs.Ytoicmeagmeiiaaa
