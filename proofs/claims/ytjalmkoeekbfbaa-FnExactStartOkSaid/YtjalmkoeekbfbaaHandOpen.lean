/- What a row hands a function, opened: data of a type whose values are whole numbers, texts, slices and structs of such, as the print's kinds tell them. No condition. -/
import Derived.Test.YtjalmkoeekbfbaaV
import Derived.Deep.Slices
import Derived.ChangeArms
import Derived.ChangeShapes
import Derived.WideShapes
namespace Go.Proofs.Ytjalmkoeekbfbaa.Open
open Go.RowKit Go.Deep Go.ChangeShapes Go.WideShapes Go.Proofs.YtjalmkoeekbfbaaW.PrintWords
section
variable {H : Type} {enc : TypeId × Value → H} {P : Program} {W : World} {sp : Nat → Bool}

/-- Whatever is read at the type is a value of the kind, and a good one. -/
def Opens {H : Type} (enc : TypeId × Value → H) (P : Program) (W : World) (sp : Nat → Bool) {α : Type} (κ : Kd α) (good : α → Prop) (t : TypeId) : Prop :=
  ∀ fuel cs x, DataW.trod enc P W 0 sp true fuel t cs = some x → ∃ a, κ.K W a cs ∧ good a

theorem opens_int {t : TypeId} {k : IntKind} (ht : P.underlying t = some (.int k)) : Opens enc P W sp (Kd.int k) (fun n => (Lit.int k n).wf = true) t := by
  intro fuel cs x h
  obtain ⟨n, rfl, _, hw⟩ := DataW.trod_int ht h
  exact ⟨n, rfl, hw⟩

theorem opens_bool {t : TypeId} (ht : P.underlying t = some .bool) : Opens enc P W sp Kd.bool (fun _ => True) t := by
  intro fuel cs x h
  obtain ⟨b, rfl, _⟩ := DataW.trod_bool ht h
  exact ⟨b, rfl, trivial⟩

theorem opens_string {t : TypeId} (ht : P.underlying t = some .string) : Opens enc P W sp Kd.string (fun s => s.size ≤ maxLen) t := by
  intro fuel cs x h
  obtain ⟨s, rfl, _, hs⟩ := DataW.trod_string ht h
  exact ⟨s, rfl, hs⟩

theorem opens_slice {α : Type} (z : α) {κ : Kd α} {g : α → Prop} {t e : TypeId} (e' : Nat) (ht : P.underlying t = some (.slice e)) (hsz : P.cellsOf e = κ.sz) (he : Opens enc P W sp κ g e) :
    Opens enc P W sp (Kd.slice e' κ) (fun l => (∀ x ∈ l, g x) ∧ l.length ≤ maxLen) t := by
  intro fuel cs x h
  rcases open_slice ht h with ⟨rfl, _⟩ | ⟨a, len, cap, m, n, D, Pl, rfl, _, hl, hm, hmm, _, hx⟩
  · exact ⟨[], ⟨none, 0, rfl, Nat.le_refl _, rfl, Nat.zero_le _, fun h => absurd h (Nat.lt_irrefl 0)⟩, by simp⟩
  · have hlm : len ≤ m := by rw [hmm]; split <;> omega
    haveI : Inhabited α := ⟨z⟩
    obtain ⟨f, hf⟩ := choose_lt (α := α) (n := len) (p := fun i y => ∃ cs', W.cells? 0 (a.add (i * P.cellsOf e)) (P.cellsOf e) = some cs' ∧ κ.K W y cs' ∧ g y) (fun i hi => by
      obtain ⟨cs', h1, h2⟩ := hx i (Nat.lt_of_lt_of_le hi hlm)
      obtain ⟨y, h3, h4⟩ := he _ _ _ h2
      exact ⟨y, cs', h1, h3, h4⟩)
    have hlen : ((List.range len).map f).length = len := by simp
    have hmx : cap ≤ 9223372036854775807 := by have h := hm; unfold maxLen at h; omega
    refine ⟨(List.range len).map f, ⟨some a, cap, by rw [hlen], by rw [hlen]; exact hl, rfl, by rw [hlen]; omega, fun _ => ⟨a, rfl, ?_⟩⟩, ?_, by rw [hlen]; exact Nat.le_trans hl hm⟩
    · intro j p hj
      obtain ⟨hj1, hj2⟩ := List.getElem?_eq_some_iff.1 hj
      have hjl : j < len := by rwa [hlen] at hj1
      obtain ⟨cs', h1, h2, _⟩ := hf j hjl
      have hp : p = f j := by rw [← hj2]; simp
      subst hp
      refine ⟨cs', κ.K_len h2, h2, fun i u hu => ?_⟩
      obtain ⟨_, hlen', hget⟩ := World.cells?_some h1
      have hi : i < P.cellsOf e := by
        rw [← hlen']
        exact (List.getElem?_eq_some_iff.1 hu).1
      have := hget i hi
      rw [← hsz]
      rw [Deep.add_add] at this
      rw [this]
      exact hu
    · intro x hx'
      obtain ⟨i, hi, rfl⟩ := List.mem_map.1 hx'
      obtain ⟨_, _, _, h4⟩ := hf i (List.mem_range.1 hi)
      exact h4

/-- Fields of a struct, from cell lo to cell hi. -/
def OpensF {H : Type} (enc : TypeId × Value → H) (P : Program) (W : World) (sp : Nat → Bool) {α : Type} (κ : Kd α) (good : α → Prop) (fs : List Field) (lo hi : Nat) : Prop :=
  ∀ n (cs : List Value), hi ≤ cs.length → (∀ f ∈ fs, ∃ y, DataW.trod enc P W 0 sp true n f.type ((cs.drop f.offset).take (P.cellsOf f.type)) = some y) → ∃ a, κ.K W a ((cs.drop lo).take (hi - lo)) ∧ good a

theorem opensF_one {α : Type} {κ : Kd α} {g : α → Prop} {f : Field} {lo hi : Nat} (h : Opens enc P W sp κ g f.type) (ho : f.offset = lo) (hc : P.cellsOf f.type = hi - lo) : OpensF enc P W sp κ g [f] lo hi := by
  intro n cs _ hf
  obtain ⟨y, hy⟩ := hf f (List.mem_singleton.2 rfl)
  rw [ho, hc] at hy
  exact h _ _ _ hy

theorem opensF_cons {α β : Type} {κ : Kd α} {g : α → Prop} {κ' : Kd β} {g' : β → Prop} {f : Field} {fs : List Field} {lo mid hi : Nat} (h : Opens enc P W sp κ g f.type) (ho : f.offset = lo) (hc : P.cellsOf f.type = mid - lo)
    (h' : OpensF enc P W sp κ' g' fs mid hi) (h1 : lo ≤ mid) (h2 : mid ≤ hi) : OpensF enc P W sp (Kd.pair κ κ') (fun x => g x.1 ∧ g' x.2) (f :: fs) lo hi := by
  intro n cs hl hf
  obtain ⟨y, hy⟩ := hf f List.mem_cons_self
  rw [ho, hc] at hy
  obtain ⟨a, ha, hga⟩ := h _ _ _ hy
  obtain ⟨b, hb, hgb⟩ := h' n cs hl (fun f hf' => hf f (List.mem_cons_of_mem _ hf'))
  refine ⟨(a, b), ⟨_, _, ?_, ha, hb⟩, hga, hgb⟩
  have : (cs.drop lo).take (hi - lo) = (cs.drop lo).take (mid - lo) ++ ((cs.drop lo).drop (mid - lo)).take (hi - mid) := by
    rw [show hi - lo = (mid - lo) + (hi - mid) by omega, List.take_add]
  rw [this, List.drop_drop, show lo + (mid - lo) = mid by omega]

theorem opens_tuple {α : Type} {κ : Kd α} {g : α → Prop} {t : TypeId} {fs : Array Field} {m : Nat} (ht : P.underlying t = some (.struct fs)) (hc : P.cellsOf t = m) (h : OpensF enc P W sp κ g fs.toList 0 m) : Opens enc P W sp κ g t := by
  intro fuel cs x hx
  obtain ⟨xs, n, rfl, _, hl, hxl, hg⟩ := DataW.trod_struct ht hx
  obtain ⟨a, ha, hga⟩ := h n cs (by omega) (fun f hf => by
    obtain ⟨i, hi, rfl⟩ := List.getElem_of_mem hf
    have h1 := hg i fs[i] (by simp)
    have hil : i < xs.length := by rw [hxl]; simpa using hi
    rw [List.getElem?_eq_getElem hil] at h1
    exact ⟨_, by simpa using h1⟩)
  refine ⟨a, ?_, hga⟩
  rw [List.drop_zero, List.take_of_length_le (by omega)] at ha
  exact ha

theorem opens_struct {α β : Type} {κ : Kd α} {g : α → Prop} {t : TypeId} {fs : Array Field} {m : Nat} (ht : P.underlying t = some (.struct fs)) (hc : P.cellsOf t = m) (h : OpensF enc P W sp κ g fs.toList 0 m)
    (p : β → α) (q : α → β) (hpq : ∀ x, p (q x) = x) : Opens enc P W sp (Kd.iso κ p) (fun y => g (p y)) t := by
  intro fuel cs x hx
  obtain ⟨a, ha, hga⟩ := opens_tuple ht hc h fuel cs x hx
  refine ⟨q a, ?_, show g (p (q a)) by rw [hpq]; exact hga⟩
  show κ.K W (p (q a)) cs
  rw [hpq]
  exact ha

/-- An argument: a struct. -/
theorem arg_struct {α : Type} {κ : Kd α} {g : α → Prop} {r : Reach} {b0 : Nat} {t : TypeId} {fs : Array Field} {v : Value} {d : DataW H} {p : List MemPlace} (ht : P.underlying t = some (.struct fs)) (ho : Opens enc P W sp κ g t)
    (hv : Value.okWide P W r b0 t v) (h : DataW.Trod enc P W 0 sp true t v d p) : ∃ a cs, v = .agg ⟨cs⟩ ∧ κ.K W a cs ∧ g a := by
  obtain ⟨cs, rfl, _⟩ := okWide_struct ht hv
  obtain ⟨fuel, hf⟩ := h
  obtain ⟨a, ha, hg⟩ := ho _ _ _ hf
  exact ⟨a, cs.toList, rfl, ha, hg⟩

/-- An argument: a slice. -/
theorem arg_slice {α : Type} {κ : Kd α} {g : List α → Prop} {r : Reach} {b0 : Nat} {t e : TypeId} {e' : Nat} {v : Value} {d : DataW H} {p : List MemPlace} (ht : P.underlying t = some (.slice e)) (ho : Opens enc P W sp (Kd.slice e' κ) g t)
    (hv : Value.okWide P W r b0 t v) (h : DataW.Trod enc P W 0 sp true t v d p) : ∃ l A c, v = .slice A l.length c ∧ l.length ≤ c ∧ κ.C W A l.length l ∧ g l := by
  obtain ⟨a, len, cap, rfl⟩ := okWide_slice ht hv
  obtain ⟨fuel, hf⟩ := h
  obtain ⟨l, ⟨A, c, hcs, hl, hC⟩, hg⟩ := ho _ _ _ hf
  simp [Value.cells] at hcs
  obtain ⟨rfl, rfl, rfl⟩ := hcs
  exact ⟨l, _, _, rfl, hl, hC, hg⟩
end
end Go.Proofs.Ytjalmkoeekbfbaa.Open
