/- How a value that is read as data is opened: it is of the kind that the printed contracts ask for (whole numbers, bools, strings, slices and structs of these, in each other). No conditions. -/
import Derived.ChangeArms
import Derived.WideShapes
import Derived.Deep.Slices
import Derived.Test.YtefbmfgifjphfaaDoorWWords
namespace Go.Proofs.YtefbmfgifjphfaaDoor.XOpen
open Go.ChangeShapes Go.WideShapes Go.Proofs.YtefbmfgifjphfaaDoorW.PrintWords
/-- Cells that are read as type T are of the kind d; what is known of the value. -/
structure Opens {α : Type} (P : Program) (T : TypeId) (d : Kd α) (G : α → Prop) : Prop where
  out : ∀ {H : Type} (enc : TypeId × Value → H) (w : World) (spare : Nat → Bool) (held : Bool) (fuel : Nat) (cs : List Value) (x : DataW H × List MemPlace),
    DataW.trod enc P w 0 spare held fuel T cs = some x → ∃ y, d.K w y cs ∧ G y
theorem opens_int {P : Program} {T : TypeId} {k : IntKind} (h : P.underlying T = some (.int k)) : Opens P T (Kd.int k) (fun n => (Lit.int k n).wf = true) := by
  constructor
  intro H enc w spare held fuel cs x hx
  cases fuel with
  | zero => simp [DataW.trod] at hx
  | succ n =>
    unfold DataW.trod at hx
    rw [h] at hx
    split at hx <;> simp_all
    obtain ⟨⟨rfl, hw⟩, _⟩ := hx
    exact ⟨_, rfl, hw⟩
theorem opens_bool {P : Program} {T : TypeId} (h : P.underlying T = some .bool) : Opens P T Kd.bool (fun _ => True) := by
  constructor
  intro H enc w spare held fuel cs x hx
  cases fuel with
  | zero => simp [DataW.trod] at hx
  | succ n =>
    unfold DataW.trod at hx
    rw [h] at hx
    split at hx
    all_goals first | exact ⟨_, rfl, trivial⟩ | (simp_all; done)
theorem opens_string {P : Program} {T : TypeId} (h : P.underlying T = some .string) : Opens P T Kd.string (fun s => s.size ≤ maxLen) := by
  constructor
  intro H enc w spare held fuel cs x hx
  cases fuel with
  | zero => simp [DataW.trod] at hx
  | succ n =>
    unfold DataW.trod at hx
    rw [h] at hx
    split at hx <;> simp_all
    exact ⟨_, rfl, hx.1⟩
theorem list_of {α : Type} {n : Nat} {p : Nat → α → Prop} (h : ∀ i, i < n → ∃ x, p i x) : ∃ l : List α, l.length = n ∧ ∀ i x, l[i]? = some x → p i x := by
  induction n with
  | zero => exact ⟨[], rfl, fun i x hx => by simp at hx⟩
  | succ n ih =>
    obtain ⟨l, hl, hp⟩ := ih (fun i hi => h i (by omega))
    obtain ⟨y, hy⟩ := h n (by omega)
    refine ⟨l ++ [y], by simp [hl], fun i x hx => ?_⟩
    by_cases hi : i < l.length
    · rw [List.getElem?_append_left hi] at hx
      exact hp i x hx
    · rw [List.getElem?_append_right (by omega)] at hx
      by_cases h0 : i - l.length = 0
      · rw [h0] at hx
        simp at hx
        subst hx
        have : i = n := by omega
        subst this
        exact hy
      · rw [List.getElem?_eq_none (by simp; omega)] at hx
        cases hx
theorem opens_slice {P : Program} {T e : TypeId} {α : Type} {d : Kd α} {G : α → Prop} (h : P.underlying T = some (.slice e)) (hs : P.cellsOf e = d.sz) (he : Opens P e d G) :
    Opens P T (Kd.slice e d) (fun l => l.length ≤ maxLen ∧ ∀ x ∈ l, G x) := by
  constructor
  intro H enc w spare held fuel cs x hx
  rcases Go.Deep.open_slice h hx with ⟨rfl, _⟩ | ⟨a, len, cap, m, n, D, Pl, rfl, _, hl, hm, hmm, _, hel⟩
  · exact ⟨[], ⟨none, 0, rfl, Nat.le_refl _, Kd.C_nil _ _⟩, by simp [maxLen], fun x hx => by cases hx⟩
  · have hlm : len ≤ m := by rw [hmm]; split <;> omega
    obtain ⟨l, hlen, hp⟩ := list_of (n := len) (p := fun i y => (∃ c, w.cells? 0 (a.add (i * P.cellsOf e)) (P.cellsOf e) = some c ∧ d.K w y c) ∧ G y) (fun i hi => by
      obtain ⟨c, h1, h2⟩ := hel i (by omega)
      obtain ⟨y, hy, hg⟩ := he.out enc w spare held n c _ h2
      exact ⟨y, ⟨c, h1, hy⟩, hg⟩)
    refine ⟨l, ⟨some a, cap, by rw [hlen], by omega, ?_⟩, by omega, fun x hx => ?_⟩
    · rw [hs] at hp
      refine ⟨rfl, by unfold maxLen at hm; omega, fun _ => ⟨a, rfl, fun j p hj => ?_⟩⟩
      obtain ⟨⟨c, h1, h2⟩, _⟩ := hp j p hj
      obtain ⟨_, hcl, hc⟩ := World.cells?_some h1
      refine ⟨c, hcl, h2, fun i u hu => ?_⟩
      have hi : i < c.length := by
        rcases Nat.lt_or_ge i c.length with h | h
        · exact h
        · rw [List.getElem?_eq_none h] at hu
          cases hu
      have := hc i (by omega)
      rw [hu, Go.Deep.add_add] at this
      exact this
    · obtain ⟨i, hi, rfl⟩ := List.getElem_of_mem hx
      exact (hp i _ (List.getElem?_eq_getElem hi)).2
/-- The fields of a struct, from the cell off on. -/
structure OpensL {α : Type} (P : Program) (off : Nat) (fs : List Field) (d : Kd α) (G : α → Prop) : Prop where
  out : ∀ {H : Type} (enc : TypeId × Value → H) (w : World) (spare : Nat → Bool) (held : Bool) (fuel : Nat) (cs : List Value), cs.length = off + d.sz →
    (∀ f ∈ fs, ∃ x : DataW H × List MemPlace, DataW.trod enc P w 0 spare held fuel f.type ((cs.drop f.offset).take (P.cellsOf f.type)) = some x) → ∃ y, d.K w y (cs.drop off) ∧ G y
theorem opensL_one {α : Type} {P : Program} {off : Nat} {f : Field} {d : Kd α} {G : α → Prop} (ho : f.offset = off) (hs : P.cellsOf f.type = d.sz) (h : Opens P f.type d G) : OpensL P off [f] d G := by
  constructor
  intro H enc w spare held fuel cs hl hf
  obtain ⟨x, hx⟩ := hf f (List.mem_singleton.2 rfl)
  rw [ho, hs, List.take_of_length_le (by simp; omega)] at hx
  exact h.out enc w spare held fuel _ _ hx
theorem opensL_cons {α β : Type} {P : Program} {off n : Nat} {f : Field} {fs : List Field} {d : Kd α} {dd : Kd β} {G : α → Prop} {GG : β → Prop} (ho : f.offset = off) (hs : P.cellsOf f.type = d.sz) (hn : off + d.sz = n)
    (h : Opens P f.type d G) (hh : OpensL P n fs dd GG) : OpensL P off (f :: fs) (Kd.pair d dd) (fun y => G y.1 ∧ GG y.2) := by
  constructor
  intro H enc w spare held fuel cs hl hf
  obtain ⟨x, hx⟩ := hf f (List.mem_cons_self ..)
  rw [ho, hs] at hx
  obtain ⟨y, hy, gy⟩ := h.out enc w spare held fuel _ _ hx
  obtain ⟨z, hz, gz⟩ := hh.out enc w spare held fuel cs (by rw [hl]; show off + (d.sz + dd.sz) = _; omega) (fun g hg => hf g (List.mem_cons_of_mem _ hg))
  refine ⟨(y, z), ⟨_, _, ?_, hy, hz⟩, gy, gz⟩
  rw [← hn, ← List.drop_drop, List.take_append_drop]
theorem opens_struct {α β : Type} {P : Program} {T : TypeId} {fs : Array Field} {d : Kd α} {G : α → Prop} {f : β → α} (g : α → β) (hg : ∀ a, f (g a) = a) (h : P.underlying T = some (.struct fs)) (hs : P.cellsOf T = d.sz) (hf : OpensL P 0 fs.toList d G) :
    Opens P T (Kd.iso d f) (fun y => G (f y)) := by
  constructor
  intro H enc w spare held fuel cs x hx
  obtain ⟨xs, n, _, _, hl, hxs, hall⟩ := DataW.trod_struct h hx
  obtain ⟨y, hy, gy⟩ := hf.out enc w spare held n cs (by rw [hl, hs, Nat.zero_add]) (fun fd hfd => by
    obtain ⟨i, hi, rfl⟩ := List.getElem_of_mem hfd
    have hi' : i < fs.size := by simpa using hi
    have := hall i _ (by simp [hi'] : fs[i]? = some fs.toList[i])
    rw [List.getElem?_eq_getElem (by omega)] at this
    exact ⟨_, this⟩)
  rw [List.drop_zero] at hy
  exact ⟨g y, by show d.K w (f (g y)) cs; rw [hg]; exact hy, by show G (f (g y)); rw [hg]; exact gy⟩
end Go.Proofs.YtefbmfgifjphfaaDoor.XOpen
