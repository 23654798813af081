import Derived.Test.YtlapahjdkikodaaWMore
import Derived.ChangeArms
namespace Go.Proofs.Ytlapahjdkikodaa.RT
open Go.RowKit Go.Proofs.YtlapahjdkikodaaW.PrintWords Go.Proofs.YtlapahjdkikodaaW.PrintLast

/-- Whatever can be read as data at type T is a value of the kind d (the reading's depth at most n). -/
def RT {α : Type} (P : Program) (d : Kd α) (T : TypeId) (n : Nat) : Prop :=
  ∀ (H : Type) (enc : TypeId × Value → H) (w : World) (base : Nat) (spare : Nat → Bool) (held : Bool) (fuel : Nat) (cs : List Value) (x : DataW H × List MemPlace),
    fuel ≤ n → DataW.trod enc P w base spare held fuel T cs = some x → ∃ v, d.K w v cs
def RTF {α : Type} (P : Program) (fs : List Field) (off : Nat) (d : Kd α) (n : Nat) : Prop :=
  ∀ (H : Type) (enc : TypeId × Value → H) (w : World) (base : Nat) (spare : Nat → Bool) (held : Bool) (fuel : Nat) (cs : List Value),
    fuel ≤ n → cs.length = off + d.sz → (∀ (i : Nat) (f : Field), fs[i]? = some f → ∃ x, DataW.trod enc P w base spare held fuel f.type ((cs.drop f.offset).take (P.cellsOf f.type)) = some x) → ∃ v, d.K w v (cs.drop off)
theorem list_of {α : Type} {p : Nat → α → Prop} : ∀ len : Nat, (∀ i, i < len → ∃ x, p i x) → ∃ l : List α, l.length = len ∧ ∀ i v, l[i]? = some v → p i v
  | 0, _ => ⟨[], rfl, fun i v h => by simp at h⟩
  | len + 1, h => by
    obtain ⟨l, hl, hp⟩ := list_of len (fun i hi => h i (by omega))
    obtain ⟨x, hx⟩ := h len (by omega)
    refine ⟨l ++ [x], by simp [hl], fun i v hv => ?_⟩
    rcases Nat.lt_or_ge i l.length with h1 | h1
    · rw [List.getElem?_append_left h1] at hv
      exact hp i v hv
    · have : i = l.length := by
        have := (List.getElem?_eq_some_iff.1 hv).1
        simp at this
        omega
      subst this
      simp at hv
      subst hv
      rw [hl]
      exact hx
variable {P : Program} {α β : Type} {n : Nat} {T : TypeId}
theorem rt_int {k : IntKind} (hT : P.underlying T = some (.int k)) : RT P (Kd.int k) T n := by
  intro H enc w base spare held fuel cs x _ h
  obtain ⟨z, rfl, _⟩ := DataW.trod_int hT h
  exact ⟨z, rfl⟩
theorem rt_bool (hT : P.underlying T = some .bool) : RT P Kd.bool T n := by
  intro H enc w base spare held fuel cs x _ h
  obtain ⟨z, rfl, _⟩ := DataW.trod_bool hT h
  exact ⟨z, rfl⟩
theorem rt_string (hT : P.underlying T = some .string) : RT P Kd.string T n := by
  intro H enc w base spare held fuel cs x _ h
  obtain ⟨z, rfl, _⟩ := DataW.trod_string hT h
  exact ⟨z, rfl⟩
theorem rt_mono {d : Kd α} {m : Nat} (h : RT P d T n) (hm : m ≤ n) : RT P d T m := fun H enc w base spare held fuel cs x hf hx => h H enc w base spare held fuel cs x (Nat.le_trans hf hm) hx
theorem rt_slice {d : Kd α} {e : TypeId} (hT : P.underlying T = some (.slice e)) (hs : P.cellsOf e = d.sz) (hd : RT P d e n) : RT P (Kd.slice e d) T (n + 1) := by
  intro H enc w base spare held fuel cs x hf h
  rcases DataW.trod_slice hT h with ⟨rfl, _⟩ | ⟨a, len, cap, elems, rest, m, rfl, rfl, _, _, hl, hm, hlen, hel, _, _⟩
  · exact ⟨[], none, 0, rfl, Nat.le_refl _, rfl, by simp, fun h => absurd h (by simp)⟩
  · have each : ∀ i, i < len → ∃ v c, c.length = d.sz ∧ d.K w v c ∧ ∀ j u, c[j]? = some u → w.cell? (a.add (i * d.sz + j)) = some u := by
      intro i hi
      have h1 := hel i hi
      rw [List.getElem?_eq_getElem (by omega)] at h1
      obtain ⟨c, hc, hx⟩ := Option.bind_eq_some_iff.1 h1
      obtain ⟨v, hv⟩ := hd H enc w base spare held m c _ (by omega) hx
      obtain ⟨_, hcl, hcc⟩ := World.cells?_some hc
      refine ⟨v, c, by rw [hcl, hs], hv, fun j u hu => ?_⟩
      have hj : j < c.length := (List.getElem?_eq_some_iff.1 hu).1
      have := hcc j (by rw [← hcl]; exact hj)
      rw [Addr.add_add, hs] at this
      rw [this, hu]
    obtain ⟨l, hll, hp⟩ := list_of len each
    refine ⟨l, some a, cap, by rw [hll], by omega, by omega, ?_, fun _ => ⟨a, rfl, fun j p hj => hp j p hj⟩⟩
    simp only [maxLen] at hm
    omega
theorem rtf_last {d : Kd α} {f : Field} {off : Nat} (ho : f.offset = off) (hs : P.cellsOf f.type = d.sz) (hd : RT P d f.type n) : RTF P [f] off d n := by
  intro H enc w base spare held fuel cs hf hl hall
  obtain ⟨x, hx⟩ := hall 0 f rfl
  obtain ⟨v, hv⟩ := hd H enc w base spare held fuel _ x hf hx
  refine ⟨v, ?_⟩
  rw [ho, hs, List.take_of_length_le (by simp; omega)] at hv
  exact hv
theorem rtf_cons {d0 : Kd α} {d1 : Kd β} {f : Field} {fs : List Field} {off : Nat} (ho : f.offset = off) (hs : P.cellsOf f.type = d0.sz) (hd : RT P d0 f.type n) (hr : RTF P fs (off + d0.sz) d1 n) : RTF P (f :: fs) off (Kd.pair d0 d1) n := by
  intro H enc w base spare held fuel cs hf hl hall
  have hsz : (Kd.pair d0 d1).sz = d0.sz + d1.sz := rfl
  rw [hsz] at hl
  obtain ⟨x, hx⟩ := hall 0 f rfl
  obtain ⟨v, hv⟩ := hd H enc w base spare held fuel _ x hf hx
  obtain ⟨u, hu⟩ := hr H enc w base spare held fuel cs hf (by omega) (fun i g hg => hall (i + 1) g (by simpa using hg))
  refine ⟨(v, u), (cs.drop off).take d0.sz, cs.drop (off + d0.sz), ?_, ?_, hu⟩
  · rw [← List.drop_drop, List.take_append_drop]
  · rw [ho, hs] at hv; exact hv
theorem rt_struct {d : Kd α} {fs : Array Field} (hT : P.underlying T = some (.struct fs)) (hs : P.cellsOf T = d.sz) (hd : RTF P fs.toList 0 d n) : RT P d T (n + 1) := by
  intro H enc w base spare held fuel cs x hf h
  obtain ⟨xs, m, rfl, _, hl, hxl, hall⟩ := DataW.trod_struct hT h
  obtain ⟨v, hv⟩ := hd H enc w base spare held m cs (by omega) (by rw [hl, hs]; omega) (fun i f hi => by
    have hi' : fs[i]? = some f := by simpa using hi
    have hlt : i < xs.length := by rw [hxl]; exact (Array.getElem?_eq_some_iff.1 hi').1
    exact ⟨xs[i], by rw [hall i f hi', List.getElem?_eq_getElem hlt]⟩)
  exact ⟨v, by simpa using hv⟩
theorem rt_iso {d : Kd α} (f : β → α) (g : α → β) (hg : ∀ a, f (g a) = a) (hd : RT P d T n) : RT P (Kd.iso d f) T n := by
  intro H enc w base spare held fuel cs x hf h
  obtain ⟨v, hv⟩ := hd H enc w base spare held fuel cs x hf h
  exact ⟨g v, by show d.K w (f (g v)) cs; rw [hg]; exact hv⟩
end Go.Proofs.Ytlapahjdkikodaa.RT
