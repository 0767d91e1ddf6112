/- What reads as data has a plain value that the print's kinds tell: numbers, truth values, strings, structs, slices of all these. -/
import Derived.Test.YtolcofjdjbnimaaWMore
import Derived.Deep.Slices
import Derived.ProofKit
namespace Go.Proofs.Ytolcofjdjbnimaa.Opens
open Go.RowKit Go.Deep Go.Proofs.YtolcofjdjbnimaaW.PrintWords Go.Proofs.YtolcofjdjbnimaaW.PrintLast Go.Proofs.YtolcofjdjbnimaaW.PrintMore
section
variable {H : Type} {enc : TypeId × Value → H} {P : Program} {w : World} {sp : Nat → Bool}

/-- Whatever reads as type t is a value of kind d, of which G holds. -/
def Opens {α : Type} (enc : TypeId × Value → H) (P : Program) (w : World) (sp : Nat → Bool) (t : TypeId) (d : Kd α) (G : α → Prop) : Prop :=
  ∀ (fuel : Nat) (cs : List Value) (x : DataW H × List MemPlace), DataW.trod enc P w 0 sp true fuel t cs = some x → ∃ v, d.K w v cs ∧ G v

theorem opens_int {t : TypeId} {k : IntKind} (ht : P.underlying t = some (.int k)) : Opens enc P w sp t (Kd.int k) (fun n => (Lit.int k n).wf = true) := by
  intro fuel cs x h
  obtain ⟨n, hc, _, hw⟩ := DataW.trod_int ht h
  exact ⟨n, hc, hw⟩
theorem opens_bool {t : TypeId} (ht : P.underlying t = some .bool) : Opens enc P w sp t Kd.bool (fun _ => True) := by
  intro fuel cs x h
  obtain ⟨n, hc, _⟩ := DataW.trod_bool ht h
  exact ⟨n, hc, trivial⟩
theorem opens_string {t : TypeId} (ht : P.underlying t = some .string) : Opens enc P w sp t Kd.string (fun s => s.size ≤ maxLen) := by
  intro fuel cs x h
  obtain ⟨n, hc, _, hw⟩ := DataW.trod_string ht h
  exact ⟨n, hc, hw⟩
theorem opens_mono {α : Type} {t : TypeId} {d : Kd α} {G G' : α → Prop} (h : Opens enc P w sp t d G) (hg : ∀ v, G v → G' v) : Opens enc P w sp t d G' := by
  intro fuel cs x hx
  obtain ⟨v, h1, h2⟩ := h fuel cs x hx
  exact ⟨v, h1, hg v h2⟩

theorem addr_add_add (a : Addr) (i j : Nat) : (a.add i).add j = a.add (i + j) := by
  by_cases hi : i = 0
  · subst hi
    rw [Addr.add_zero', Nat.zero_add]
  · by_cases hj : j = 0
    · subst hj
      rw [Addr.add_zero', Nat.add_zero]
    · have h3 : ¬ i + j = 0 := by omega
      simp [Addr.add, hi, hj, Nat.add_assoc]
theorem list_of {α : Type} {p : Nat → α → Prop} : ∀ n : Nat, (∀ i, i < n → ∃ v, p i v) → ∃ xs : List α, xs.length = n ∧ ∀ i v, xs[i]? = some v → p i v := by
  intro n
  induction n with
  | zero => exact fun _ => ⟨[], rfl, fun i v h => by simp at h⟩
  | succ n ih =>
    intro h
    obtain ⟨xs, hl, hx⟩ := ih (fun i hi => h i (by omega))
    obtain ⟨v, hv⟩ := h n (by omega)
    refine ⟨xs ++ [v], by simp [hl], fun i u hu => ?_⟩
    rcases Nat.lt_or_ge i xs.length with hlt | hge
    · rw [List.getElem?_append_left hlt] at hu
      exact hx i u hu
    · rw [List.getElem?_append_right hge] at hu
      have hi : i = n := by
        rcases Nat.eq_zero_or_pos (i - xs.length) with h0 | h0
        · omega
        · rw [List.getElem?_eq_none (by simp; omega)] at hu
          cases hu
      subst hi
      rw [hl, Nat.sub_self] at hu
      simp at hu
      subst hu
      exact hv
theorem opens_slice {α : Type} {t e : TypeId} {d : Kd α} {G : α → Prop} (ht : P.underlying t = some (.slice e)) (hc : P.cellsOf e = d.sz) (h : Opens enc P w sp e d G) :
    Opens enc P w sp t (Kd.slice e d) (fun xs => (∀ x ∈ xs, G x) ∧ xs.length ≤ maxLen) := by
  intro fuel cs x hx
  rcases open_slice ht hx with ⟨rfl, _⟩ | ⟨a, len, cap, m, n, D, Pl, rfl, _, hl, hm, hmm, _, hat⟩
  · exact ⟨[], ⟨none, 0, rfl, Nat.le_refl _, Kd.C_nil d w⟩, fun x hx => by simp at hx, by simp⟩
  · have hlm : len ≤ m := by rw [hmm]; split <;> omega
    obtain ⟨xs, hxl, hxs⟩ := list_of (p := fun i v => G v ∧ ∃ c : List Value, c.length = d.sz ∧ d.K w v c ∧ ∀ j u, c[j]? = some u → w.cell? (a.add (i * d.sz + j)) = some u) len (fun i hi => by
      obtain ⟨cs', h1, h2⟩ := hat i (by omega)
      obtain ⟨v, hk, hg⟩ := h n cs' _ h2
      obtain ⟨_, hlen, hcell⟩ := World.cells?_some h1
      refine ⟨v, hg, cs', by rw [hlen, hc], hk, fun j u hu => ?_⟩
      have hj : j < cs'.length := (List.getElem?_eq_some_iff.1 hu).1
      have h3 := hcell j (by omega)
      rw [hc] at h3
      rw [← hu, ← h3, addr_add_add])
    subst hxl
    refine ⟨xs, ⟨some a, cap, rfl, hl, rfl, ?_, fun _ => ⟨a, rfl, fun j p hp => ?_⟩⟩, fun x hx => ?_, by omega⟩
    · unfold maxLen at hm
      omega
    · obtain ⟨_, c, hcl, hk, hcell⟩ := hxs j p hp
      exact ⟨c, hcl, hk, hcell⟩
    · obtain ⟨i, hi, rfl⟩ := List.getElem_of_mem hx
      exact (hxs i _ (List.getElem?_eq_getElem hi)).1

/-- The fields from one on, of a struct of 'tot' cells. -/
def Tail {α : Type} (enc : TypeId × Value → H) (P : Program) (w : World) (sp : Nat → Bool) (fs : List Field) (off tot : Nat) (d : Kd α) (G : α → Prop) : Prop :=
  ∀ (n : Nat) (cs : List Value), cs.length = tot → (∀ f ∈ fs, ∃ y, DataW.trod enc P w 0 sp true n f.type ((cs.drop f.offset).take (P.cellsOf f.type)) = some y) → ∃ v, d.K w v (cs.drop off) ∧ G v
theorem tail_one {α : Type} {f : Field} {off tot : Nat} {d : Kd α} {G : α → Prop} (ho : f.offset = off) (hc : P.cellsOf f.type = d.sz) (hs : off + d.sz = tot) (h : Opens enc P w sp f.type d G) : Tail enc P w sp [f] off tot d G := by
  intro n cs hl hf
  obtain ⟨y, hy⟩ := hf f (List.mem_singleton.2 rfl)
  rw [ho, hc, List.take_of_length_le (by rw [List.length_drop]; omega)] at hy
  exact h n _ _ hy
theorem tail_cons {α β : Type} {f : Field} {fs : List Field} {off tot : Nat} {a : Kd α} {b : Kd β} {G : α → Prop} {G' : β → Prop} (ho : f.offset = off) (hc : P.cellsOf f.type = a.sz) (h : Opens enc P w sp f.type a G) (ht : Tail enc P w sp fs (off + a.sz) tot b G') :
    Tail enc P w sp (f :: fs) off tot (Kd.pair a b) (fun x => G x.1 ∧ G' x.2) := by
  intro n cs hl hf
  obtain ⟨y, hy⟩ := hf f List.mem_cons_self
  rw [ho, hc] at hy
  obtain ⟨u, hu, gu⟩ := h n _ _ hy
  obtain ⟨v, hv, gv⟩ := ht n cs hl (fun g hg => hf g (List.mem_cons_of_mem _ hg))
  refine ⟨(u, v), ⟨(cs.drop off).take a.sz, cs.drop (off + a.sz), ?_, hu, hv⟩, gu, gv⟩
  rw [← List.drop_drop, List.take_append_drop]
theorem opens_struct {α β : Type} {t : TypeId} {fs : Array Field} {tot : Nat} {d : Kd α} {f : β → α} {G : α → Prop} (ht : P.underlying t = some (.struct fs)) (hc : P.cellsOf t = tot) (h : Tail enc P w sp fs.toList 0 tot d G) (g : α → β) (hg : ∀ p, f (g p) = p) :
    Opens enc P w sp t (Kd.iso d f) (fun x => G (f x)) := by
  intro fuel cs x hx
  obtain ⟨xs, n, _, _, hl, hxl, hat⟩ := DataW.trod_struct ht hx
  obtain ⟨v, hk, hv⟩ := h n cs (by rw [hl, hc]) (fun f hf => by
    obtain ⟨i, hi, rfl⟩ := List.getElem_of_mem hf
    rw [Array.length_toList] at hi
    have := hat i (fs[i]) (Array.getElem?_eq_getElem hi)
    rw [Array.getElem_toList, this]
    exact ⟨_, List.getElem?_eq_getElem (by omega)⟩)
  rw [List.drop_zero] at hk
  exact ⟨g v, by show d.K w (f (g v)) cs; rw [hg]; exact hk, by show G (f (g v)); rw [hg]; exact hv⟩
end
end Go.Proofs.Ytolcofjdjbnimaa.Opens
