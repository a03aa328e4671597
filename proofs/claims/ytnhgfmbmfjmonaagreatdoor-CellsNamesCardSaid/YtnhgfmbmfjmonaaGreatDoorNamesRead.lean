/- From a law's walk to its row: what the arguments read as, and that they read as they did behind a call that turned nothing. No program stands here. -/
import Derived.Test.YtnhgfmbmfjmonaaGreatDoorNamesMap
import Derived.WalkKit
import Derived.ProofKit
import Derived.OpenShut
import Derived.Carry
import Derived.Lib.SmallJoins
import Derived.Deep.Slices
import Derived.Deep.Strs
import Derived.Deep.DeepHandedRow
import Derived.Lib.LaidTab
set_option linter.unusedVariables false
set_option linter.unusedSimpArgs false
namespace Go.Eng
open Go Go.RowKit Go.Mix Go.ChangeShapes Go.WideShapes Go.ChangeAt Go.Deep
section
variable {H : Type} {enc : TypeId × Value → H} {P : Program} {w W W' : World} {base : Nat} {spare : Nat → Bool} {held : Bool}
/-- what a reading of an element gives: wherever its cells lie, C -/
def Reads (enc : TypeId × Value → H) (P : Program) (w : World) (base : Nat) (spare : Nat → Bool) (held : Bool) {α : Type} (e : TypeId) (sz : Nat) (C : World → Nat → Nat → α → Prop) : Prop :=
  ∀ fuel cs x, DataW.trod enc P w base spare held fuel e cs = some x → ∃ a, ∀ b off, (∀ j v, j < sz → cs[j]? = some v → w.cell? ⟨b, off + j, none⟩ = some v) → C w b off a
theorem read_slice {α : Type} [Inhabited α] {t e : TypeId} {sz fuel : Nat} {C : World → Nat → Nat → α → Prop} {cs : List Value} {x : DataW H × List MemPlace} (ht : P.underlying t = some (.slice e)) (hc : P.cellsOf e = sz) (hsz : 0 < sz) (he : Reads enc P w base spare held e sz C)
    (h : DataW.trod enc P w base spare held fuel t cs = some x) : ∃ (s : Option Addr) (c : Nat) (l : List α), cs = [.slice s l.length c] ∧ Sl (fun _ => True) w s sz l C := by
  rcases open_slice ht h with ⟨rfl, _⟩ | ⟨a, len, cap, m, n, D, Pl, rfl, hb, hl, hm, hmm, _, hx⟩
  · exact ⟨none, 0, [], rfl, Sl.nil _⟩
  · rw [hc] at hx
    have hlm : len ≤ m := by rw [hmm]; split <;> omega
    have key : ∀ i, i < len → ∃ y : α, a.spot = none ∧ C w a.block (a.off + i * sz) y := fun i hi => by
      obtain ⟨cs', h1, h2⟩ := hx i (by omega)
      obtain ⟨_, hlen, hcell⟩ := World.cells?_some h1
      obtain ⟨y, hy⟩ := he _ _ _ h2
      have hsp : a.spot = none := by
        obtain ⟨cs0, g1, g2⟩ := hx 0 (by omega)
        obtain ⟨_, glen, gcell⟩ := World.cells?_some g1
        have := gcell 0 hsz
        rw [Nat.zero_mul, show (a.add 0) = a from rfl, show a.add 0 = a from rfl, List.getElem?_eq_getElem (by omega)] at this
        unfold World.cell? at this
        split at this
        · split at this
          · cases this
          · rename_i hs
            cases hspot : a.spot with
            | none => rfl
            | some q => rw [hspot] at hs; simp at hs
        · cases this
      refine ⟨y, hsp, hy _ _ (fun j v hj hv => ?_)⟩
      have := hcell j hj
      rw [hv] at this
      have e : (a.add (i * sz)).add j = ⟨a.block, a.off + i * sz + j, none⟩ := by
        obtain ⟨b, o, sp⟩ := a
        dsimp only at hsp
        subst hsp
        rw [addr_add, addr_add]
      rw [e] at this; exact this
    obtain ⟨f, hf⟩ := choose_lt (α := α) (p := fun i y => a.spot = none ∧ C w a.block (a.off + i * sz) y) key
    refine ⟨some a, cap, (List.range len).map f, by simp, fun i x hi => ?_⟩
    rw [List.getElem?_map] at hi
    rcases Nat.lt_or_ge i len with hlt | hge
    · rw [List.getElem?_range hlt] at hi
      obtain rfl := Option.some.inj hi
      obtain ⟨h1, h2⟩ := hf i hlt
      obtain ⟨b, o, sp⟩ := a
      dsimp only at h1
      subst h1
      exact ⟨b, o, rfl, trivial, h2⟩
    · rw [List.getElem?_eq_none (by simpa using hge)] at hi; cases hi
theorem reads_int {e : TypeId} {k : IntKind} (he : P.underlying e = some (.int k)) : Reads enc P w base spare held e 1 (Fl fun z : Int => [.int k z]) := fun fuel cs x h => by
  obtain ⟨n, rfl, _, _⟩ := DataW.trod_int he h
  refine ⟨n, fun b off hc j v hj => ?_⟩
  cases j with
  | zero => simp only [List.getElem?_cons_zero, Option.some.injEq] at hj; subst hj; exact hc 0 _ (by omega) rfl
  | succ j => simp at hj
theorem reads_slice {α : Type} [Inhabited α] {t e : TypeId} {sz : Nat} {C : World → Nat → Nat → α → Prop} (ht : P.underlying t = some (.slice e)) (hc : P.cellsOf e = sz) (hsz : 0 < sz) (he : Reads enc P w base spare held e sz C) : Reads enc P w base spare held t 1 (SlC (fun _ => True) sz C) := fun fuel cs x h => by
  obtain ⟨s, c, l, rfl, hl⟩ := read_slice ht hc hsz he h
  exact ⟨l, fun b off hcell => ⟨s, c, by have := hcell 0 _ (by omega) rfl; rwa [Nat.add_zero] at this, hl⟩⟩
/-- the arguments of a call that turned nothing read as they did -/
theorem trodAll_stays (hl : laidOutB P = true) : ∀ {ts : List TypeId} {vs : List Value} {ds : List (DataW H)} {ps : List MemPlace}, (∀ t ∈ ts, P.readableRec t = true ∧ t < P.types.size) → DataW.TrodAll enc P W 0 (fun _ => true) true ts vs ds ps → Below W.heap.size W W' → (∀ x ∈ ps, x.block < W.heap.size) →
    DataW.TrodAll enc P W' 0 (fun b => decide (b < W.heap.size)) true ts vs ds ps
  | [], vs, ds, ps, _, h, _, _ => by cases vs <;> cases ds <;> simp_all [DataW.TrodAll]
  | t :: ts, vs, ds, ps, hr, h, hb, hlt => by
    obtain ⟨v, vs', d, ds', p, q, rfl, rfl, rfl, h0, h1⟩ := trodAll_cons h
    exact trodAll_cons_mk (Below.trod hl (hr t (List.mem_cons_self ..)).1 (hr t (List.mem_cons_self ..)).2 h0 hb (fun x hx => hlt x (List.mem_append_left _ hx))) (trodAll_stays hl (fun t ht => hr t (List.mem_cons_of_mem _ ht)) h1 hb (fun x hx => hlt x (List.mem_append_right _ hx)))
/-- a law that answers true, and turned nothing -/
theorem law_post {f : Func} {s : ChangeSpec} {apart fresh handsOn : Bool} {args : Array Value} {ds gs : List (DataW H)} {before : List MemPlace} {tb : TypeId} (hW : DataW.Whole enc P f.params.toList s.vars apart W args.toList ds gs before) (hv : s.vars = [])
    (hs : s.fn H (ds ++ gs) = { results := [.lit (.bool true)], args := ds, vars := [] }) (hb : Below W.heap.size W W') (hl : laidOutB P = true) (hr : ∀ t ∈ f.params.toList, P.readableRec t = true ∧ t < P.types.size) (ht : f.resultTypes = #[tb]) (htb : P.underlying tb = some .bool) :
    s.post enc P f apart fresh handsOn false W args (.bool true) W' := by
  have hW0 := hW
  obtain ⟨p, q, hA, hV, rfl, hfz, hnd⟩ := hW
  rw [hv] at hV
  obtain ⟨rfl, rfl⟩ := trodVars_none hV
  have hlt : ∀ x ∈ p, x.block < W.heap.size := fun x hx => hW0.lt x (List.mem_append_left _ hx)
  refine ⟨ds, [], p ++ [], [], p, [], hW0, ?_, ?_, ?_, hb.frame _, fun h => by cases h⟩
  · rw [hs, ht]
    exact ⟨[], [], ⟨1, by unfold DataW.trod; rw [htb]; simp [Value.cells]⟩, rfl, rfl⟩
  · rw [hs]; exact trodAll_stays hl hr hA hb hlt
  · rw [hs, hv]; exact rfl
end
end Go.Eng
