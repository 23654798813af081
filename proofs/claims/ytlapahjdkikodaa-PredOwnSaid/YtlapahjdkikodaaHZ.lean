/- PredOwn's plain law: from the numbers the predicates are made, and what is made of them is the same predicates; without any condition on the input. -/
import Derived.Test.YtlapahjdkikodaaHL
import Derived.Test.YtlapahjdkikodaaHW
namespace Go.Proofs.Ytlapahjdkikodaa.GPe
open Go.RowKit Go.Proofs.YtlapahjdkikodaaW.PrintWords Go.Proofs.YtlapahjdkikodaaW.PrintLast Go.Proofs.YtlapahjdkikodaaW.PrintMore
/-- THE LAW: the walk at what the plain laws say. -/
theorem law_calls (a0 : Int) (A1 : Option Addr) (c1 : Nat) (l1 : List Int) (A2 : Option Addr) (c2 : Nat) (l2 : List Int) (w : World) (hr1 : Kd.C (Kd.int .i64) w A1 l1.length l1) (hc1 : l1.length ≤ c1) (hr2 : Kd.C (Kd.int .i64) w A2 l2.length l2) (hc2 : l2.length ≤ c2) :
    Calls Try.prog 4 #[.int .i64 a0, .slice A1 l1.length c1, .slice A2 l2.length c2] w fun e w' => e = .returned (.bool true) ∧ Below w.heap.size w w' := by
  obtain ⟨t, ht, hne⟩ := schema_some a0 100 (by omega)
  obtain ⟨p, hp, bp⟩ := pred_some t hne l1 2 (by omega) 100 (by omega) 0 (by omega) (by decide)
  obtain ⟨q, hq, bq⟩ := pred_some t hne l2 2 (by omega) 100 (by omega) 0 (by omega) (by decide)
  have hp' : colonnadelaw7_Pred.f 100 t l1 0 3 = some p := hp
  have hq' : colonnadelaw7_Pred.f 100 t l2 0 3 = some q := hq
  have hb : ∀ x ∈ [mk8 p, mk8 q], Bd 3 x := by
    intro x hx
    simp only [List.mem_cons, List.not_mem_nil, or_false] at hx
    rcases hx with rfl | rfl
    · exact bp
    · exact bq
  have hA : pred_All.f 100 [mk8 p, mk8 q] = some (4, 0, 0, false, 0, 0, [], [mk8 p, mk8 q]) := all_some (d := 3) (by omega) (by simp) hb
  have hE : pred_Any.f 100 [mk8 p, mk8 q] = some (5, 0, 0, false, 0, 0, [], [mk8 p, mk8 q]) := any_some (d := 3) (by omega) (by simp) hb
  have hsp := same_some 3 100 (by omega) (mk8 p) bp
  have hsq := same_some 3 100 (by omega) (mk8 q) bq
  have hw : colonnadelaw7_awake.f 100 = some true := by kernel_rfl
  obtain ⟨p0, p1, p2, p3, p4, p5, p6, p7⟩ := p
  obtain ⟨q0, q1, q2, q3, q4, q5, q6, q7⟩ := q
  exact PredOwn_walk 100 a0 A1 c1 l1 A2 c2 l2 w hr1 hc1 hr2 hc2 t ht p0 p1 p2 p3 p4 p5 p6 p7 hp' q0 q1 q2 q3 q4 q5 q6 q7 hq' _ rfl (by simp) _ rfl 4 0 0 false 0 0 [] _ hA _ rfl 5 0 0 false 0 0 [] _ hE
    (by simp) (by simp) (by simp) _ rfl (by simp) _ rfl (by simp) hsp (by simp) hsp (by simp) hsq (by simp) hsq true hw
end Go.Proofs.Ytlapahjdkikodaa.GPe
