/- How an argument that lies in memory is opened: from 'it reads as data' to the kinds of the printed walks. No conditions. -/
import Derived.Test.YtiekokdlcgpcdaaDoorWWords
import Derived.Deep.Slices
import Derived.Deep.Strs
import Derived.ShutString
namespace Go.Proofs.YtiekokdlcgpcdaaDoor.Opn
open Go Go.ChangeShapes Go.WideShapes Go.Deep Go.RowKit Go.Proofs.YtiekokdlcgpcdaaDoorW.PrintWords

/-- Whatever reads as a value of type t is a value of the kind κ, and the value is well formed. -/
def Opens {α : Type} (P : Program) (w : World) (t : TypeId) (κ : Kd α) (wf : α → Prop) : Prop :=
  ∀ (H : Type) (enc : TypeId × Value → H) (base : Nat) (spare : Nat → Bool) (held : Bool) (fuel : Nat) (cs : List Value) (x : DataW H × List MemPlace),
    DataW.trod enc P w base spare held fuel t cs = some x → ∃ a : α, κ.K w a cs ∧ wf a

section
variable {P : Program} {w : World} {t e : TypeId}
theorem opens_int {k : IntKind} (ht : P.underlying t = some (.int k)) : Opens P w t (Kd.int k) (fun n => (Lit.int k n).wf = true) := by
  intro H enc base spare held fuel cs x h
  obtain ⟨n, rfl, _, hw⟩ := DataW.trod_int ht h
  exact ⟨n, rfl, hw⟩
theorem opens_bool (ht : P.underlying t = some .bool) : Opens P w t Kd.bool (fun _ => True) := by
  intro H enc base spare held fuel cs x h
  obtain ⟨b, rfl, _⟩ := DataW.trod_bool ht h
  exact ⟨b, rfl, trivial⟩
theorem opens_string (ht : P.underlying t = some .string) : Opens P w t Kd.string (fun s => s.size ≤ maxLen) := by
  intro H enc base spare held fuel cs x h
  obtain ⟨s, rfl, _, hs⟩ := DataW.trod_string ht h
  exact ⟨s, rfl, hs⟩
theorem opens_slice {α : Type} {κ : Kd α} {wf : α → Prop} (ht : P.underlying t = some (.slice e)) (hs : P.cellsOf e = κ.sz) (ho : Opens P w e κ wf) :
    Opens P w t (Kd.slice e κ) (fun l => l.length ≤ maxLen ∧ ∀ x ∈ l, wf x) := by
  classical
  intro H enc base spare held fuel cs x h
  rcases open_slice ht h with ⟨rfl, _⟩ | ⟨a, len, cap, m, n, D, Pl, rfl, hb, hl, hm, hmm, _, hx⟩
  · exact ⟨[], ⟨none, 0, rfl, Nat.le_refl _, rfl, by simp, fun hp => absurd hp (by simp)⟩, Nat.zero_le _, fun x hx => absurd hx (by simp)⟩
  · have hlm : len ≤ m := by rw [hmm]; split <;> omega
    have each : ∀ i, i < len → ∃ y : α, wf y ∧ ∃ c : List Value, c.length = κ.sz ∧ κ.K w y c ∧ ∀ j u, c[j]? = some u → w.cell? (a.add (i * κ.sz + j)) = some u := by
      intro i hi
      obtain ⟨cs', h1, h2⟩ := hx i (by omega)
      rw [hs] at h1
      obtain ⟨_, hlen, hget⟩ := World.cells?_some h1
      obtain ⟨y, hK, hw⟩ := ho H enc base spare held n cs' _ h2
      refine ⟨y, hw, cs', hlen, hK, fun j u hj => ?_⟩
      have hjl : j < cs'.length := (List.getElem?_eq_some_iff.1 hj).1
      have := hget j (by omega)
      rw [← hj, ← this, Go.Deep.add_add]
    let f : Nat → Option α := fun i => if hi : i < len then some (Classical.choose (each i hi)) else none
    have hf : ∀ i, (hi : i < len) → f i = some (Classical.choose (each i hi)) := fun i hi => dif_pos hi
    have hsp : ∀ i, (hi : i < len) → wf (Classical.choose (each i hi)) ∧ ∃ c : List Value, c.length = κ.sz ∧ κ.K w (Classical.choose (each i hi)) c ∧ ∀ j u, c[j]? = some u → w.cell? (a.add (i * κ.sz + j)) = some u := fun i hi => Classical.choose_spec (each i hi)
    obtain ⟨l, hll, hlg⟩ : ∃ l : List α, l.length = len ∧ ∀ i, i < len → l[i]? = f i := by
      refine ⟨(List.range len).attach.map (fun i => Classical.choose (each i.1 (List.mem_range.1 i.2))), by simp, fun i hi => ?_⟩
      rw [hf i hi]
      simp [hi]
    have hmem : ∀ i p, l[i]? = some p → wf p ∧ ∃ c : List Value, c.length = κ.sz ∧ κ.K w p c ∧ ∀ j u, c[j]? = some u → w.cell? (a.add (i * κ.sz + j)) = some u := by
      intro i p hp
      have hi : i < len := by
        have := (List.getElem?_eq_some_iff.1 hp).1
        omega
      rw [hlg i hi, hf i hi] at hp
      obtain rfl := Option.some.inj hp
      exact hsp i hi
    refine ⟨l, ⟨some a, cap, by rw [hll], by omega, rfl, ?_, fun _ => ⟨a, rfl, fun j p hj => ?_⟩⟩, by omega, fun x hx => ?_⟩
    · have : maxLen ≤ 9223372036854775807 := by decide
      omega
    · obtain ⟨_, c, h1, h2, h3⟩ := hmem j p hj
      exact ⟨c, h1, h2, h3⟩
    · obtain ⟨i, hi, rfl⟩ := List.mem_iff_getElem.1 hx
      exact (hmem i _ (List.getElem?_eq_getElem hi)).1

/-- A struct of two fields of one cell each. -/
theorem opens_struct2 {α β : Type} {κ0 : Kd α} {κ1 : Kd β} {wf0 : α → Prop} {wf1 : β → Prop} {f0 f1 : Field} (ht : P.underlying t = some (.struct #[f0, f1])) (hc : P.cellsOf t = 2)
    (p0 : f0.offset = 0) (p1 : f1.offset = 1) (c0 : P.cellsOf f0.type = 1) (c1 : P.cellsOf f1.type = 1) (h0 : Opens P w f0.type κ0 wf0) (h1 : Opens P w f1.type κ1 wf1) :
    Opens P w t (Kd.pair κ0 κ1) (fun x => wf0 x.1 ∧ wf1 x.2) := by
  intro H enc base spare held fuel cs x h
  obtain ⟨y0, y1, n, _, hl, g0, g1⟩ := trod_struct2 ht h
  rw [hc] at hl
  match cs, hl with
  | [v0, v1], _ =>
    rw [p0, c0] at g0
    rw [p1, c1] at g1
    obtain ⟨a0, k0, w0⟩ := h0 H enc base spare held n _ _ g0
    obtain ⟨a1, k1, w1⟩ := h1 H enc base spare held n _ _ g1
    exact ⟨(a0, a1), ⟨[v0], [v1], rfl, k0, k1⟩, w0, w1⟩
/-- A struct of three fields of one cell each. -/
theorem opens_struct3 {α β γ : Type} {κ0 : Kd α} {κ1 : Kd β} {κ2 : Kd γ} {wf0 : α → Prop} {wf1 : β → Prop} {wf2 : γ → Prop} {f0 f1 f2 : Field} (ht : P.underlying t = some (.struct #[f0, f1, f2])) (hc : P.cellsOf t = 3)
    (p0 : f0.offset = 0) (p1 : f1.offset = 1) (p2 : f2.offset = 2) (c0 : P.cellsOf f0.type = 1) (c1 : P.cellsOf f1.type = 1) (c2 : P.cellsOf f2.type = 1)
    (h0 : Opens P w f0.type κ0 wf0) (h1 : Opens P w f1.type κ1 wf1) (h2 : Opens P w f2.type κ2 wf2) :
    Opens P w t (Kd.pair κ0 (Kd.pair κ1 κ2)) (fun x => wf0 x.1 ∧ wf1 x.2.1 ∧ wf2 x.2.2) := by
  intro H enc base spare held fuel cs x h
  obtain ⟨y0, y1, y2, n, _, hl, g0, g1, g2⟩ := trod_struct3 ht h
  rw [hc] at hl
  match cs, hl with
  | [v0, v1, v2], _ =>
    rw [p0, c0] at g0
    rw [p1, c1] at g1
    rw [p2, c2] at g2
    obtain ⟨a0, k0, w0⟩ := h0 H enc base spare held n _ _ g0
    obtain ⟨a1, k1, w1⟩ := h1 H enc base spare held n _ _ g1
    obtain ⟨a2, k2, w2⟩ := h2 H enc base spare held n _ _ g2
    exact ⟨(a0, a1, a2), ⟨[v0], [v1, v2], rfl, k0, [v1], [v2], rfl, k1, k2⟩, w0, w1, w2⟩
theorem opens_iso {α β : Type} {κ : Kd α} {wf : α → Prop} (ho : Opens P w t κ wf) (f : β → α) (g : α → β) (hfg : ∀ a, f (g a) = a) : Opens P w t (Kd.iso κ f) (fun b => wf (f b)) := by
  intro H enc base spare held fuel cs x h
  obtain ⟨a, hK, hw⟩ := ho H enc base spare held fuel cs x h
  refine ⟨g a, ?_, ?_⟩
  · show κ.K w (f (g a)) cs
    rw [hfg]; exact hK
  · show wf (f (g a))
    rw [hfg]; exact hw
theorem opens_imp {α : Type} {κ : Kd α} {wf wf' : α → Prop} (ho : Opens P w t κ wf) (h : ∀ a, wf a → wf' a) : Opens P w t κ wf' := by
  intro H enc base spare held fuel cs x hx
  obtain ⟨a, hK, hw⟩ := ho H enc base spare held fuel cs x hx
  exact ⟨a, hK, h a hw⟩

section
variable {H : Type} {enc : TypeId × Value → H} {base : Nat} {spare : Nat → Bool} {held : Bool} {d : DataW H} {ps : List MemPlace} {r : Reach} {b0 : Nat} {v : Value}
/-- A parameter that is a slice. -/
theorem param_slice {α : Type} {κ : Kd α} {wf : List α → Prop} (ht : P.underlying t = some (.slice e)) (hval : Value.okWide P w r b0 t v) (hd : DataW.Trod enc P w base spare held t v d ps) (ho : Opens P w t (Kd.slice e κ) wf) :
    ∃ (A : Option Addr) (c : Nat) (l : List α), v = .slice A l.length c ∧ l.length ≤ c ∧ Kd.C κ w A l.length l ∧ wf l := by
  obtain ⟨A, n, c, rfl⟩ := okWide_slice ht hval
  obtain ⟨fuel, hf⟩ := hd
  obtain ⟨l, ⟨A', c', he, hl, hC⟩, hw⟩ := ho H enc base spare held fuel _ _ hf
  simp only [Value.cells, List.cons.injEq, Value.slice.injEq, and_true] at he
  obtain ⟨rfl, rfl, rfl⟩ := he
  exact ⟨A, c, l, rfl, hl, hC, hw⟩
/-- A parameter that is a struct. -/
theorem param_struct {α : Type} {κ : Kd α} {wf : α → Prop} {fs : Array Field} (ht : P.underlying t = some (.struct fs)) (hval : Value.okWide P w r b0 t v) (hd : DataW.Trod enc P w base spare held t v d ps) (ho : Opens P w t κ wf) :
    ∃ (cs : List Value) (a : α), v = .agg cs.toArray ∧ κ.K w a cs ∧ wf a := by
  obtain ⟨cs, rfl, _⟩ := okWide_struct ht hval
  obtain ⟨fuel, hf⟩ := hd
  obtain ⟨a, hK, hw⟩ := ho H enc base spare held fuel _ _ hf
  exact ⟨cs.toList, a, by simp, hK, hw⟩
end
end
end Go.Proofs.YtiekokdlcgpcdaaDoor.Opn
