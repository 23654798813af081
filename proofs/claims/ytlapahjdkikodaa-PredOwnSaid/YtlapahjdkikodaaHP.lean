import Derived.Test.YtlapahjdkikodaaWLast
import Derived.Test.YtlapahjdkikodaaWMore
import Derived.Test.YtlapahjdkikodaaWN
namespace Go.Proofs.Ytlapahjdkikodaa.Put
open Go.RowKit Go.Proofs.YtlapahjdkikodaaW.PrintWords Go.Proofs.YtlapahjdkikodaaW.PrintLast Go.Proofs.YtlapahjdkikodaaW.PrintMore
set_option linter.unusedVariables false
/-! A whole variable is written: the world is told by a letter. -/
structure PutAt (w w1 : World) (g : Nat) : Prop where
  os : w1.os = w.os
  tape : w1.tape = w.tape
  output : w1.output = w.output
  size : w1.heap.size = w.heap.size
  far : ∀ k, k ≠ g → w1.heap[k]? = w.heap[k]?
section
variable {P : Program} {w w0 w1 W : World} {g t : Nat} {cs cs' : Array Value} {o : Obj} {k : Nat}
theorem PutAt.below (h : PutAt w w1 g) (hb : Below w0.heap.size w0 w) (hg : w0.heap.size ≤ g) : Below w0.heap.size w0 w1 :=
  ⟨h.os.trans hb.os, h.tape.trans hb.tape, h.output.trans hb.output, by rw [h.size]; exact hb.size, fun k hk => (h.far k (by omega)).trans (hb.block k hk)⟩
theorem PutAt.blk (h : PutAt w w1 g) (hk : w.heap[k]? = some o) (hne : k ≠ g) : w1.heap[k]? = some o := (h.far k hne).trans hk
theorem PutAt.R_typed {α : Type} {d : Kd α} {e base : Nat} {ok : Nat → Prop} {v : Value} {xs : List α} (hp : PutAt w w1 g) (h : d.R e w base ok v xs) (hb : w.heap[g]? = some (.cells cs t (0, 0))) (ht : ∀ q, q ∈ e :: d.E → q ≠ t) : d.R e w1 base ok v xs := by
  refine Kd.R_mono (Kd.R_step (Kd.R_bound h) (fun k hk _ => hp.far k ?_)) (fun _ hk => hk.1)
  rintro rfl
  obtain ⟨_, _, _, q, hq, c, hc⟩ := hk
  rw [hb] at hc
  injection hc with hc
  injection hc with _ hqt
  exact ht q hq hqt.symm
theorem put_run {t' : TypeId} {u : Value} (hh : W.heap[g]? = some (.cells cs t (0, 0))) (hu : u.cells = cs') (ht : (P.info? t').map (·.size) = some cs'.size) (hsz : cs.size = cs'.size) (h1 : ∀ q ∈ cs'.toList, q.oneCell' = true) :
    ∃ w1, (Instr.storeAt t' (.pointer (some ⟨g, 0, none⟩)) u).run P W = .ok () w1 ∧ w1.heap[g]? = some (.cells cs' t (0, 0)) ∧ PutAt W w1 g := by
  have hl : cs'.toList.length = cs'.size := Array.length_toList
  refine ⟨W.setCells g 0 cs'.toList, run_store_run t' u cs'.toList hh (by rw [hu]) (by rw [ht, hl]) (by rw [hl]; omega) h1, ?_, ?_⟩
  · obtain ⟨cur', h3, h4, h5⟩ := setCells_row cs'.toList 0 W cs hh (by rw [hl]; omega)
    have : cur' = cs' := by
      apply Array.toList_inj.1
      rw [h5, hl, List.take_zero, List.nil_append, List.drop_of_length_le (by rw [Array.length_toList]; omega), List.append_nil]
    rw [h3, this]
  · obtain ⟨h2, h3, h4, h5⟩ := setCells_same g cs'.toList 0 W
    exact ⟨h2, h3, h4, h5, fun k hk => setCells_far cs'.toList 0 k hk⟩
variable {ops : Array Oper} {rest : List Oper} {oi : Oper} {a : Act} {Q : Exit → Act → World → Prop} {K : Act → World → Prop}
theorem exec_store {t' : TypeId} {p x : Operand} {u v : Value} (ho : oi.op = .store t' p x) (hp : a.eval p = v) (hx : a.eval x = u) (hrun : (Instr.storeAt t' v u).run P W = .ok () w1) : (execOp a.eval oi).run P W = .ok .skip w1 := by
  unfold execOp
  simp only [ho, hp, hx, Sem.run_bind, Sem.run_pure, Result.andThen_ok, hrun]
/-- a store of a whole variable, as a step of a region that draws -/
theorem skip_put {t' : TypeId} {p x : Operand} {u : Value} (hw : Region.wanted oi (yielded ops a.tmps) = true) (hN : oi.dst = none) (ho : oi.op = .store t' p x) (hp : a.eval p = .pointer (some ⟨g, 0, none⟩)) (hx : a.eval x = u)
    (hh : W.heap[g]? = some (.cells cs t (0, 0))) (hu : u.cells = cs') (ht : (P.info? t').map (·.size) = some cs'.size) (hsz : cs.size = cs'.size) (h1 : ∀ q ∈ cs'.toList, q.oneCell' = true)
    (h : ∀ w1, w1.heap[g]? = some (.cells cs' t (0, 0)) → PutAt W w1 g → K a w1) : if Region.wanted oi (yielded ops a.tmps) = true then Oper.wp P oi a W K Q else K (a.put none undef) W := by
  obtain ⟨w1, hr, hb, hput⟩ := put_run (P := P) hh hu ht hsz h1
  exact skip_ hw hN (exec_store ho hp hx hr) (h w1 hb hput)
/-- a store of a whole variable -/
theorem put_event {t' : TypeId} {p x : Operand} {u : Value} (hgd : oi.guard = none) (hN : oi.dst = none) (ho : oi.op = .store t' p x) (hp : a.eval p = .pointer (some ⟨g, 0, none⟩)) (hx : a.eval x = u)
    (hh : W.heap[g]? = some (.cells cs t (0, 0))) (hu : u.cells = cs') (ht : (P.info? t').map (·.size) = some cs'.size) (hsz : cs.size = cs'.size) (h1 : ∀ q ∈ cs'.toList, q.oneCell' = true)
    (h : ∀ w1, w1.heap[g]? = some (.cells cs' t (0, 0)) → PutAt W w1 g → wpList P ops Q rest a w1) : wpList P ops Q (oi :: rest) a W := by
  obtain ⟨w1, hr, hb, hput⟩ := put_run (P := P) hh hu ht hsz h1
  refine wpList_plain hgd fun K hK => ?_
  unfold Oper.wp
  rw [exec_store ho hp hx hr]
  show K (a.put oi.dst undef) w1
  rw [hN]
  exact hK _ _ (h w1 hb hput)
end
end Go.Proofs.Ytlapahjdkikodaa.Put
