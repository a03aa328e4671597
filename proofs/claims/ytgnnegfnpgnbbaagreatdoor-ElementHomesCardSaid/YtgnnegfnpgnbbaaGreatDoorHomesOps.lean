/- The engine's lemmas on operations: what each yields. No program stands here. -/
import Derived.Test.YtgnnegfnpgnbbaaGreatDoorHomesEng
set_option linter.unusedVariables false
set_option linter.unusedSimpArgs false
namespace Go.Eng
open Go Go.RowKit Go.Mix
variable {P : Program} {N : Nat} {ρ : Nat → Value} {w w' : World} {v : Value} {d : Option Tmp} {t : TypeId} {p : String} {a : Array Edge} {g : Option (Nat × Bool)}

theorem rn_move {x : Operand} (hx : ev N ρ x = v) : Rn P N ⟨d, .move x, t, p, a, g⟩ ρ w v w := ⟨fun _ h => (by cases h), by simp [execOp, hx]⟩
theorem rn_assign {x : Operand} (hx : ev N ρ x = v) : Rn P N ⟨d, .assign x, t, p, a, g⟩ ρ w v w := ⟨fun _ h => (by cases h), by simp [execOp, hx]⟩
theorem rn_pick {c x y : Operand} {b : Bool} (hc : ev N ρ c = .bool b) (hx : ev N ρ (if b then x else y) = v) : Rn P N ⟨d, .pick c x y, t, p, a, g⟩ ρ w v w :=
  ⟨fun _ h => (by cases h), by cases b <;> simp [execOp, hc, asBool] at hx ⊢ <;> rw [hx]⟩

/-! Integers -/
section ints
variable {x y : Operand} {T Ty : TypeId} {k : IntKind} {m n : Int}
theorem rn_bin {op : BinOp} (hx : ev N ρ x = .int k m) (hy : ev N ρ y = .int k n) (h : (binOp op T (.int k m) (.int k n)).run P w = .ok v w) : Rn P N ⟨d, .binOp op T x y Ty, t, p, a, g⟩ ρ w v w :=
  ⟨fun _ h => (by cases h), by
    have he : (eqGuard op T x y (.int k m) (.int k n)).run P w = .ok () w := by unfold eqGuard; cases op <;> simp
    simp [execOp, hx, hy, he, h]⟩
theorem wrap64_in {z : Int} (h1 : -9223372036854775808 ≤ z) (h2 : z ≤ 9223372036854775807) : IntKind.i64.wrap z = z := IntWalk.i64_in z ⟨h1, h2⟩
theorem rn_add (hx : ev N ρ x = .int .i64 m) (hy : ev N ρ y = .int .i64 n) (h : -9223372036854775808 ≤ m + n ∧ m + n ≤ 9223372036854775807) : Rn P N ⟨d, .binOp .add T x y Ty, t, p, a, g⟩ ρ w (.int .i64 (m + n)) w :=
  rn_bin hx hy (by simp [binOp, Op.intArith, wrap64_in h.1 h.2])
theorem rn_sub (hx : ev N ρ x = .int .i64 m) (hy : ev N ρ y = .int .i64 n) (h : -9223372036854775808 ≤ m - n ∧ m - n ≤ 9223372036854775807) : Rn P N ⟨d, .binOp .sub T x y Ty, t, p, a, g⟩ ρ w (.int .i64 (m - n)) w :=
  rn_bin hx hy (by simp [binOp, Op.intArith, wrap64_in h.1 h.2])
theorem rn_mul (hx : ev N ρ x = .int .i64 m) (hy : ev N ρ y = .int .i64 n) (h : -9223372036854775808 ≤ m * n ∧ m * n ≤ 9223372036854775807) : Rn P N ⟨d, .binOp .mul T x y Ty, t, p, a, g⟩ ρ w (.int .i64 (m * n)) w :=
  rn_bin hx hy (by simp [binOp, Op.intArith, wrap64_in h.1 h.2])
theorem rn_lss (hx : ev N ρ x = .int k m) (hy : ev N ρ y = .int k n) : Rn P N ⟨d, .binOp .lss T x y Ty, t, p, a, g⟩ ρ w (.bool (decide (m < n))) w := rn_bin hx hy (by simp [binOp, Op.intCmp])
theorem rn_leq (hx : ev N ρ x = .int k m) (hy : ev N ρ y = .int k n) : Rn P N ⟨d, .binOp .leq T x y Ty, t, p, a, g⟩ ρ w (.bool (decide (m ≤ n))) w := rn_bin hx hy (by simp [binOp, Op.intCmp])
theorem rn_gtr (hx : ev N ρ x = .int k m) (hy : ev N ρ y = .int k n) : Rn P N ⟨d, .binOp .gtr T x y Ty, t, p, a, g⟩ ρ w (.bool (decide (n < m))) w := rn_bin hx hy (by simp [binOp, Op.intCmp])
theorem rn_geq (hx : ev N ρ x = .int k m) (hy : ev N ρ y = .int k n) : Rn P N ⟨d, .binOp .geq T x y Ty, t, p, a, g⟩ ρ w (.bool (decide (n ≤ m))) w := rn_bin hx hy (by simp [binOp, Op.intCmp])
theorem rn_eql (hx : ev N ρ x = .int k m) (hy : ev N ρ y = .int k n) : Rn P N ⟨d, .binOp .eql T x y Ty, t, p, a, g⟩ ρ w (.bool (decide (m = n))) w :=
  rn_bin hx hy (by simp [binOp, Op.intCmp]; by_cases h : m = n <;> simp [h])
theorem rn_neq (hx : ev N ρ x = .int k m) (hy : ev N ρ y = .int k n) : Rn P N ⟨d, .binOp .neq T x y Ty, t, p, a, g⟩ ρ w (.bool (decide (m ≠ n))) w :=
  rn_bin hx hy (by simp [binOp, Op.intCmp]; by_cases h : m = n <;> simp [h])
theorem rn_quo (hx : ev N ρ x = .int .i64 m) (hy : ev N ρ y = .int .i64 n) (h : 0 ≤ m ∧ m ≤ 9223372036854775807 ∧ 0 < n) : Rn P N ⟨d, .binOp .quo T x y Ty, t, p, a, g⟩ ρ w (.int .i64 (m / n)) w :=
  rn_bin hx hy (by
    have h1 : m / n ≤ m := Int.ediv_le_self n h.1
    have h2 : 0 ≤ m / n := Int.ediv_nonneg h.1 (by omega)
    simp [binOp, Op.intDiv, show n ≠ 0 by omega, Int.tdiv_eq_ediv_of_nonneg h.1, wrap64_in (show -9223372036854775808 ≤ m / n by omega) (by omega)])
theorem rn_rem (hx : ev N ρ x = .int k m) (hy : ev N ρ y = .int k n) (h : 0 ≤ m ∧ 0 < n) : Rn P N ⟨d, .binOp .rem T x y Ty, t, p, a, g⟩ ρ w (.int k (m % n)) w :=
  rn_bin hx hy (by simp [binOp, Op.intDiv, show n ≠ 0 by omega, Int.tmod_eq_emod_of_nonneg h.1])
end ints
theorem rn_not {x : Operand} {T : TypeId} {b : Bool} (hx : ev N ρ x = .bool b) : Rn P N ⟨d, .unOp .not T x, t, p, a, g⟩ ρ w (.bool (!b)) w := ⟨fun _ h => (by cases h), by simp [execOp, hx, Op.unary]⟩
theorem rn_neg {x : Operand} {T : TypeId} {m : Int} (hx : ev N ρ x = .int .i64 m) (h : -9223372036854775807 ≤ m ∧ m ≤ 9223372036854775807) : Rn P N ⟨d, .unOp .neg T x, t, p, a, g⟩ ρ w (.int .i64 (-m)) w :=
  ⟨fun _ h => (by cases h), by simp [execOp, hx, Op.unary, Op.intArith, wrap64_in (show -9223372036854775808 ≤ -m by omega) (by omega)]⟩
theorem rn_extract {x : Operand} {i : Nat} {l : List Value} (hx : ev N ρ x = .tuple l.toArray) (hi : l[i]? = some v) : Rn P N ⟨d, .extract x i, t, p, a, g⟩ ρ w v w := ⟨fun _ h => (by cases h), by simp [execOp, hx, Instr.extract, hi]⟩
theorem rn_makeFunc {fn : Fn} {c : List Operand} {l : List Value} (hc : c.map (ev N ρ) = l) : Rn P N ⟨d, .makeFunc fn #[] c.toArray, t, p, a, g⟩ ρ w (.func fn #[] l.toArray) w :=
  ⟨fun _ h => (by cases h), by simp [execOp, Instr.makeFunc, hc]⟩
theorem rn_nilCheck {x : Operand} {ad : Addr} (hx : ev N ρ x = .pointer (some ad)) : Rn P N ⟨d, .nilCheck x, t, p, a, g⟩ ρ w (.pointer (some ad)) w := ⟨fun _ h => (by cases h), by simp [execOp, hx]⟩

/-! the form of an operand's value laid open -/
section forms
variable {x : Operand}
theorem t_int {k : IntKind} {m : Int} (h : ev N ρ x = .int k m) : ev N ρ x = .int k m := h
theorem t_bool {b : Bool} (h : ev N ρ x = .bool b) : ev N ρ x = .bool b := h
theorem t_pointer {q : Option Addr} (h : ev N ρ x = .pointer q) : ev N ρ x = .pointer q := h
theorem t_slice {q : Option Addr} {l c : Nat} (h : ev N ρ x = .slice q l c) : ev N ρ x = .slice q l c := h
theorem t_agg {l : Array Value} (h : ev N ρ x = .agg l) : ev N ρ x = .agg l := h
theorem t_string {l : ByteArray} (h : ev N ρ x = .string l) : ev N ρ x = .string l := h
theorem t_func {f : Fn} {q c : Array Value} (h : ev N ρ x = .func f q c) : ev N ρ x = .func f q c := h
theorem t_map {q : Option Nat} (h : ev N ρ x = .map q) : ev N ρ x = .map q := h
end forms

/-! Lists of operands -/
theorem args0 : List.map (ev N ρ) [] = [] := rfl
theorem argsC {x : Operand} {l : List Operand} {u : Value} {vs : List Value} (h : ev N ρ x = u) (k : List.map (ev N ρ) l = vs) : List.map (ev N ρ) (x :: l) = u :: vs := by simp [h, k]

/-! Calls -/
theorem ent_func {f : FuncId} {xs : List Operand} {Ts : Array TypeId} {vs : List Value} (hf : ∀ args w, (callFunc f args).run P w = .ok (.enter f args) w) (ha : xs.map (ev N ρ) = vs) :
    Ent P N ⟨d, .call { callee := .value (.func f), args := xs.toArray, argTypes := Ts }, t, p, a, g⟩ ρ f vs :=
  ⟨fun _ h => (by cases h), fun w => by
    subst ha
    simp [execOp, resolve, ev, Deferred.ofValue, invoke, hf]⟩
theorem ent_value {f : FuncId} {x : Operand} {xs : List Operand} {Ts : Array TypeId} {vs cap : List Value} (hf : ∀ args w, (callFunc f args).run P w = .ok (.enter f args) w) (hx : ev N ρ x = .func (.func f) #[] cap.toArray) (ha : xs.map (ev N ρ) = vs) :
    Ent P N ⟨d, .call { callee := .value x, args := xs.toArray, argTypes := Ts }, t, p, a, g⟩ ρ f (vs ++ cap) :=
  ⟨fun _ h => (by cases h), fun w => by
    subst ha
    simp [execOp, resolve, hx, Deferred.ofValue, invoke, hf]⟩

/-! Memory -/
theorem addr_add (b o n : Nat) : (⟨b, o, none⟩ : Addr).add n = ⟨b, o + n, none⟩ := by unfold Addr.add; split <;> simp_all
section mem
variable {x y : Operand} {T S : TypeId} {b o : Nat}
theorem rn_load1 (ha : ∀ w, (isAgg T).run P w = .ok false w) (hx : ev N ρ x = .pointer (some ⟨b, o, none⟩)) (hc : w.cell? ⟨b, o, none⟩ = some v) : Rn P N ⟨d, .load T x, t, p, a, g⟩ ρ w v w :=
  ⟨fun _ h => (by cases h), by simp [execOp, hx, Instr.loadAt, Instr.sureAddr, loadVar, ha, hc]⟩
theorem rn_loadN {n : Nat} {vs : List Value} (ha : ∀ w, (isAgg T).run P w = .ok true w) (hs : ∀ w, (sizeOf T).run P w = .ok n w) (hx : ev N ρ x = .pointer (some ⟨b, o, none⟩)) (hn : vs.length = n)
    (hc : ∀ j u, vs[j]? = some u → w.cell? ⟨b, o + j, none⟩ = some u) : Rn P N ⟨d, .load T x, t, p, a, g⟩ ρ w (.agg vs.toArray) w :=
  ⟨fun _ h => (by cases h), by
    subst hn
    have h1 := run_loadCells_list (P := P) (w := w) ⟨b, o, none⟩ vs (fun j u hj => by rw [addr_add]; exact hc j u hj)
    simp [execOp, hx, Instr.loadAt, Instr.sureAddr, loadVar, ha, hs, h1]⟩
theorem rn_load2 {u1 u2 : Value} (ha : ∀ w, (isAgg T).run P w = .ok true w) (hs : ∀ w, (sizeOf T).run P w = .ok 2 w) (hx : ev N ρ x = .pointer (some ⟨b, o, none⟩))
    (h1 : w.cell? ⟨b, o, none⟩ = some u1) (h2 : w.cell? ⟨b, o + 1, none⟩ = some u2) : Rn P N ⟨d, .load T x, t, p, a, g⟩ ρ w (.agg #[u1, u2]) w :=
  rn_loadN (vs := [u1, u2]) ha hs hx rfl (fun j u hj => by
    match j, hj with
    | 0, hj => simp at hj; subst hj; exact h1
    | 1, hj => simp at hj; subst hj; exact h2)
theorem rn_loadBlk {n : Nat} {cs vs : List Value} {T' : TypeId} (ha : ∀ w, (isAgg T).run P w = .ok true w) (hs : ∀ w, (sizeOf T).run P w = .ok n w) (hx : ev N ρ x = .pointer (some ⟨b, o, none⟩)) (B : Blk w b cs T')
    (hv : (cs.drop o).take n = vs) (hn : vs.length = n) : Rn P N ⟨d, .load T x, t, p, a, g⟩ ρ w (.agg vs.toArray) w :=
  rn_loadN ha hs hx hn (fun j u hj => B.cell _ (by
    subst hv
    rw [List.getElem?_take] at hj
    split at hj
    · rw [List.getElem?_drop] at hj; exact hj
    · cases hj))
theorem rn_load1Blk {cs : List Value} {T' : TypeId} (ha : ∀ w, (isAgg T).run P w = .ok false w) (hx : ev N ρ x = .pointer (some ⟨b, o, none⟩)) (B : Blk w b cs T') (hv : cs[o]? = some v) : Rn P N ⟨d, .load T x, t, p, a, g⟩ ρ w v w :=
  rn_load1 ha hx (B.cell _ hv)
theorem rn_fieldAddr {i off : Nat} (hf : ∀ b o w, (Instr.fieldAt S (.pointer (some ⟨b, o, none⟩)) i).run P w = .ok (.pointer (some ⟨b, o + off, none⟩)) w) (hx : ev N ρ x = .pointer (some ⟨b, o, none⟩)) :
    Rn P N ⟨d, .fieldAddr S x i, t, p, a, g⟩ ρ w (.pointer (some ⟨b, o + off, none⟩)) w := ⟨fun _ h => (by cases h), by simp [execOp, hx, hf]⟩
theorem rn_field {i : Nat} {u : Value} (hx : ev N ρ x = u) (hf : ∀ w, (Instr.field S u i).run P w = .ok v w) : Rn P N ⟨d, .field S x i, t, p, a, g⟩ ρ w v w := ⟨fun _ h => (by cases h), by simp [execOp, hx, hf]⟩
/-- an element's address: the index as a natural number -/
theorem rn_index {E sz : Nat} {len cap : Nat} (k : Nat) {m : Int} (ht : P.underlying T = some (.slice E)) (hs : ∀ w, (sizeOf E).run P w = .ok sz w) (hx : ev N ρ x = .slice (some ⟨b, o, none⟩) len cap) (hy : ev N ρ y = .int .i64 m)
    (hk : m = (k : Int)) (hlt : k < len) : Rn P N ⟨d, .indexAddr T x y, t, p, a, g⟩ ρ w (.pointer (some ⟨b, o + k * sz, none⟩)) w :=
  ⟨fun _ h => (by cases h), by
    subst hk
    have h1 : (0 : Int) ≤ (k : Int) ∧ (k : Int) < (len : Int) := by omega
    simp [execOp, hx, hy, Instr.indexAt, asIntOf, run_underlying ht, hs, h1, addr_add]
    omega⟩
theorem rn_len {E : TypeId} {s : Option Addr} {len cap : Nat} (ht : P.underlying T = some (.slice E)) (hx : ev N ρ x = .slice s len cap) :
    Rn P N ⟨d, .call { callee := .builtin .len, args := #[x], argTypes := #[T] }, t, p, a, g⟩ ρ w (.int .i64 len) w :=
  ⟨fun _ h => (by cases h), by simp [execOp, resolve, hx, invoke, builtin, Builtin.len_, run_underlying ht, goInt]⟩
theorem rn_box {u : Value} (hx : ev N ρ x = u) : Rn P N ⟨d, .box T x, t, p, a, g⟩ ρ w (.pointer (some ⟨w.heap.size, 0, none⟩)) (w.alloc (.cells u.cells T)) :=
  ⟨fun _ h => (by cases h), by simp [execOp, hx, Instr.box, newVar, newRow]⟩
theorem rn_alloc {z : List Value} (hz : ∀ w, ∃ u : Value, u.cells = z.toArray ∧ (zeroValue T).run P w = .ok u w) : Rn P N ⟨d, .alloc T, t, p, a, g⟩ ρ w (.pointer (some ⟨w.heap.size, 0, none⟩)) (w.alloc (.cells z.toArray T)) :=
  ⟨fun _ h => (by cases h), by
    obtain ⟨u, hu, hz⟩ := hz w
    simp [execOp, Instr.alloc, hz, newVar, newRow, hu]⟩
/-- a new block of our own -/
theorem lx_new {r : Option Nat} {ds : List Deferred} {lo rest : List Oper} {K : (Nat → Value) → World → Prop} {o : Oper} {cs : List Value} (hw : Want N lo o ρ true) (h : Rn P N o ρ w (.pointer (some ⟨w.heap.size, 0, none⟩)) (w.alloc (.cells cs.toArray T)))
    (k : ∀ b w', b = w.heap.size → Ext w w' → Blk w' b cs T → b < w'.heap.size → LX r P N ds lo K rest (up ρ o.dst (.pointer (some ⟨b, 0, none⟩))) w') : LX r P N ds lo K (o :: rest) ρ w :=
  lx_value hw h (k _ _ rfl (ext_alloc _ _) (by have := Blk.alloc w cs.toArray T; simpa using this) (by simp))
theorem run_storeCells_blk (b : Nat) (T : TypeId) : ∀ (vs : List Value) (i : Nat) (cs : List Value) (o : Nat) (w : World), Blk w b cs T → o + i + vs.length ≤ cs.length → (∀ u ∈ vs, u.oneCell' = true) →
    ∃ w', (storeCells ⟨b, o, none⟩ vs i).run P w = .ok () w' ∧ Blk w' b (cs.take (o + i) ++ vs ++ cs.drop (o + i + vs.length)) T ∧ Fr (· = b) w w'
  | [], i, cs, o, w, B, h, _ => ⟨w, by simp [storeCells], by simpa using B, Fr.refl _ _⟩
  | u :: vs, i, cs, o, w, B, h, h1 => by
    simp only [List.length_cons] at h
    have hlt : o + i < cs.length := by omega
    have hc : w.cell? ⟨b, o + i, none⟩ = some cs[o + i] := B.cell _ (by simp [hlt])
    have B' := B.set (o + i) u
    obtain ⟨w', hr, hB, hf⟩ := run_storeCells_blk b T vs (i + 1) _ o _ B' (by simp; omega) (fun x hx => h1 x (by simp [hx]))
    refine ⟨w', ?_, ?_, ?_⟩
    · unfold storeCells
      rw [addr_add]
      have hs := run_store P w ⟨b, o + i, none⟩ u .plain (h1 u (by simp))
      simp only [hc, B.frozen] at hs
      simp [hs, hr]
    · have e : (cs.set (o + i) u).take (o + (i + 1)) ++ vs ++ (cs.set (o + i) u).drop (o + (i + 1) + vs.length) = cs.take (o + i) ++ u :: vs ++ cs.drop (o + i + (u :: vs).length) := by
        rw [show o + (i + 1) = o + i + 1 by omega, List.take_succ_eq_append_getElem (by simpa using hlt), List.drop_set_of_lt (by omega), List.take_set_of_le (Nat.le_refl _)]
        simp only [List.getElem_set_self, List.append_assoc, List.cons_append, List.nil_append, List.length_cons]
        rw [show o + i + 1 + vs.length = o + i + (vs.length + 1) by omega]
      rw [e] at hB; exact hB
    · exact (fr_setCell w b (o + i) u).trans hf (fun _ _ h => h)
/-- a store into a block of our own -/
theorem lx_set {r : Option Nat} {ds : List Deferred} {lo rest : List Oper} {K : (Nat → Value) → World → Prop} {cs vs : List Value} {u : Value} {T' : TypeId} {n : Nat} (hw : Want N lo ⟨d, .store T x y, t, p, a, g⟩ ρ true)
    (hs : ∀ w, (sizeOf T).run P w = .ok n w) (hx : ev N ρ x = .pointer (some ⟨b, o, none⟩)) (hy : ev N ρ y = u) (hu : u.cells = vs.toArray) (hn : vs.length = n) (h1 : vs.all (fun u => u.oneCell') = true)
    (B : Blk w b cs T') (hle : o + n ≤ cs.length)
    (k : ∀ w', Fr (· = b) w w' → Blk w' b (cs.take o ++ vs ++ cs.drop (o + n)) T' → LX r P N ds lo K rest (up ρ d undef) w') : LX r P N ds lo K (⟨d, .store T x y, t, p, a, g⟩ :: rest) ρ w := by
  subst hn
  obtain ⟨w', hr, hB, hf⟩ := run_storeCells_blk (P := P) b T' vs 0 cs o w B (by simpa using hle) (fun u hu => List.all_eq_true.1 h1 u hu)
  refine lx_store hw (w' := w') ⟨fun _ h => (by cases h), ?_⟩ (k w' hf (by simpa using hB))
  simp [execOp, hx, hy, Instr.storeAt, Instr.sureAddr, storeVar, hs, hu, hr]
end mem

/-! moves, with the value's form laid open -/
section moves
variable {x : Operand}
theorem mv_int {k : IntKind} {m : Int} (hx : ev N ρ x = .int k m) : Rn P N ⟨d, .move x, t, p, a, g⟩ ρ w (.int k m) w := rn_move hx
theorem mv_bool {b : Bool} (hx : ev N ρ x = .bool b) : Rn P N ⟨d, .move x, t, p, a, g⟩ ρ w (.bool b) w := rn_move hx
theorem mv_pointer {q : Option Addr} (hx : ev N ρ x = .pointer q) : Rn P N ⟨d, .move x, t, p, a, g⟩ ρ w (.pointer q) w := rn_move hx
theorem mv_slice {q : Option Addr} {l c : Nat} (hx : ev N ρ x = .slice q l c) : Rn P N ⟨d, .move x, t, p, a, g⟩ ρ w (.slice q l c) w := rn_move hx
theorem mv_tuple {l : Array Value} (hx : ev N ρ x = .tuple l) : Rn P N ⟨d, .move x, t, p, a, g⟩ ρ w (.tuple l) w := rn_move hx
theorem mv_string {l : ByteArray} (hx : ev N ρ x = .string l) : Rn P N ⟨d, .move x, t, p, a, g⟩ ρ w (.string l) w := rn_move hx
theorem mv_func {f : Fn} {q c : Array Value} (hx : ev N ρ x = .func f q c) : Rn P N ⟨d, .move x, t, p, a, g⟩ ρ w (.func f q c) w := rn_move hx
theorem mv_map {q : Option Nat} (hx : ev N ρ x = .map q) : Rn P N ⟨d, .move x, t, p, a, g⟩ ρ w (.map q) w := rn_move hx
theorem as_int {k : IntKind} {m : Int} (hx : ev N ρ x = .int k m) : Rn P N ⟨d, .assign x, t, p, a, g⟩ ρ w (.int k m) w := rn_assign hx
theorem as_bool {b : Bool} (hx : ev N ρ x = .bool b) : Rn P N ⟨d, .assign x, t, p, a, g⟩ ρ w (.bool b) w := rn_assign hx
theorem as_pointer {q : Option Addr} (hx : ev N ρ x = .pointer q) : Rn P N ⟨d, .assign x, t, p, a, g⟩ ρ w (.pointer q) w := rn_assign hx
theorem as_slice {q : Option Addr} {l c : Nat} (hx : ev N ρ x = .slice q l c) : Rn P N ⟨d, .assign x, t, p, a, g⟩ ρ w (.slice q l c) w := rn_assign hx
theorem as_func {f : Fn} {q c : Array Value} (hx : ev N ρ x = .func f q c) : Rn P N ⟨d, .assign x, t, p, a, g⟩ ρ w (.func f q c) w := rn_assign hx
theorem as_nilFunc (hx : ev N ρ x = .nilFunc) : Rn P N ⟨d, .assign x, t, p, a, g⟩ ρ w .nilFunc w := rn_assign hx
theorem as_map {q : Option Nat} (hx : ev N ρ x = .map q) : Rn P N ⟨d, .assign x, t, p, a, g⟩ ρ w (.map q) w := rn_assign hx
end moves
theorem pick_t {c x y : Operand} (hc : ev N ρ c = .bool true) (hx : ev N ρ x = v) : Rn P N ⟨d, .pick c x y, t, p, a, g⟩ ρ w v w := rn_pick hc hx
theorem pick_f {c x y : Operand} (hc : ev N ρ c = .bool false) (hx : ev N ρ y = v) : Rn P N ⟨d, .pick c x y, t, p, a, g⟩ ρ w v w := rn_pick hc hx

/-! tests: two ways, or one that is known -/
section split
variable {r : Option Nat} {ds : List Deferred} {lo l : List Oper} {K : (Nat → Value) → World → Prop} {q : Prop} [Decidable q]
theorem lx_dec (h1 : q → LX r P N ds lo K l (up ρ d (.bool true)) w) (h2 : ¬ q → LX r P N ds lo K l (up ρ d (.bool false)) w) : LX r P N ds lo K l (up ρ d (.bool (decide q))) w := by
  by_cases h : q
  · rw [decide_eq_true h]; exact h1 h
  · rw [decide_eq_false h]; exact h2 h
theorem lx_dec_t (h : q) (k : LX r P N ds lo K l (up ρ d (.bool true)) w) : LX r P N ds lo K l (up ρ d (.bool (decide q))) w := by rw [decide_eq_true h]; exact k
theorem lx_dec_f (h : ¬ q) (k : LX r P N ds lo K l (up ρ d (.bool false)) w) : LX r P N ds lo K l (up ρ d (.bool (decide q))) w := by rw [decide_eq_false h]; exact k
theorem lx_b_t {b : Bool} (h : b = true) (k : LX r P N ds lo K l (up ρ d (.bool true)) w) : LX r P N ds lo K l (up ρ d (.bool b)) w := by subst h; exact k
theorem lx_b_f {b : Bool} (h : b = false) (k : LX r P N ds lo K l (up ρ d (.bool false)) w) : LX r P N ds lo K l (up ρ d (.bool b)) w := by subst h; exact k
variable {Ef : Nat → World → World → Prop} {Cl : Nat → World → Prop} {Fin : World → Prop} {X : Nat → Prop} {Sp : Nat → Loud} {tl : List Oper} {k : Nat} {Γ : Facts}
theorem mx_dec (h1 : q → MX r P N ds lo Ef Cl Fin X Sp K tl k l (up ρ d (.bool true)) Γ) (h2 : ¬ q → MX r P N ds lo Ef Cl Fin X Sp K tl k l (up ρ d (.bool false)) Γ) : MX r P N ds lo Ef Cl Fin X Sp K tl k l (up ρ d (.bool (decide q))) Γ := by
  by_cases h : q
  · rw [decide_eq_true h]; exact h1 h
  · rw [decide_eq_false h]; exact h2 h
theorem mx_dec_t (h : q) (g : MX r P N ds lo Ef Cl Fin X Sp K tl k l (up ρ d (.bool true)) Γ) : MX r P N ds lo Ef Cl Fin X Sp K tl k l (up ρ d (.bool (decide q))) Γ := by rw [decide_eq_true h]; exact g
theorem mx_dec_f (h : ¬ q) (g : MX r P N ds lo Ef Cl Fin X Sp K tl k l (up ρ d (.bool false)) Γ) : MX r P N ds lo Ef Cl Fin X Sp K tl k l (up ρ d (.bool (decide q))) Γ := by rw [decide_eq_false h]; exact g
theorem mx_b_t {b : Bool} (h : b = true) (g : MX r P N ds lo Ef Cl Fin X Sp K tl k l (up ρ d (.bool true)) Γ) : MX r P N ds lo Ef Cl Fin X Sp K tl k l (up ρ d (.bool b)) Γ := by subst h; exact g
end split

/-! a loop, with what its body leaves alone -/
theorem wk_loopA {r : Option Nat} {ds : List Deferred} {C : Cont} {c : Code} (W : List Nat) (S : Nat → Prop) (I : Nat → (Nat → Value) → World → Prop) (n : Nat) (h0 : I n ρ w)
    (hr : ∀ n ρ' w', Agree W ρ' ρ → Fr S w w' → I n ρ' w' → WK r P N c (thenK (fun ds' ρ'' w'' => ds' = ds ∧ Agree W ρ'' ρ ∧ Fr S w w'' ∧ ∃ n', n' < n ∧ I n' ρ'' w'') C) ds ρ' w') : WK r P N (.loop c) C ds ρ w :=
  wk_loop (fun n ds' ρ' w' => ds' = ds ∧ Agree W ρ' ρ ∧ Fr S w w' ∧ I n ρ' w') n ⟨rfl, Agree.refl _ _, Fr.refl _ _, h0⟩ (fun n ds' ρ' w' ⟨h1, h2, h3, h4⟩ => by
    subst h1
    exact (hr n ρ' w' h2 h3 h4).mono (fun e ds'' ρ'' w'' h => by
      cases e with
      | normal => obtain ⟨h1, h2, h3, n', h4, h5⟩ := h; exact ⟨n', h4, h1, h2, h3, h5⟩
      | _ => exact h))
theorem Blk.ne {w w' : World} {b b' : Nat} {cs : List Value} {T : TypeId} (h : Blk w b cs T) (k : Fr (· = b') w w') (hne : b ≠ b') : Blk w' b cs T := h.fr k hne
theorem Fr.set {S : Nat → Prop} {w0 w w' : World} {b : Nat} (h : Fr S w0 w) (k : Fr (· = b) w w') (hb : w0.heap.size ≤ b) : Fr S w0 w' := h.new k (fun i hi => by subst hi; exact hb)

/-! natural numbers -/
section nats
variable {x y : Operand} {T Ty : TypeId} {m n : Nat}
theorem rn_addN (hx : ev N ρ x = .int .i64 (m : Int)) (hy : ev N ρ y = .int .i64 (n : Int)) (h : m + n < 9223372036854775808) : Rn P N ⟨d, .binOp .add T x y Ty, t, p, a, g⟩ ρ w (.int .i64 ((m + n : Nat) : Int)) w := by
  have := rn_add (P := P) (w := w) (d := d) (T := T) (Ty := Ty) (t := t) (p := p) (a := a) (g := g) hx hy (by omega)
  rwa [Int.natCast_add]
end nats

/-! structs -/
section structs
variable {x y : Operand} {T Ty : TypeId} {u1 u2 : Value} {op : BinOp}
theorem rn_cmpS (hx : ev N ρ x = u1) (hy : ev N ρ y = u2) (hg : ∀ (x y : Operand) w, (eqGuard op T x y u1 u2).run P w = .ok () w) (h : ∀ w, (binOp op T u1 u2).run P w = .ok v w) : Rn P N ⟨d, .binOp op T x y Ty, t, p, a, g⟩ ρ w v w :=
  ⟨fun _ h => (by cases h), by simp [execOp, hx, hy, hg, h]⟩
theorem rn_build0 (h : ∀ w, (Instr.build T #[]).run P w = .ok v w) : Rn P N ⟨d, .build T #[], t, p, a, g⟩ ρ w v w := ⟨fun _ h => (by cases h), by simp [execOp, h]⟩
theorem rn_build1 {i : Nat} {x : Operand} {u : Value} (hx : ev N ρ x = u) (h : ∀ w, (Instr.build T #[(i, u)]).run P w = .ok v w) : Rn P N ⟨d, .build T #[(i, x)], t, p, a, g⟩ ρ w v w := ⟨fun _ h => (by cases h), by simp [execOp, hx, h]⟩
theorem rn_build2 {i j : Nat} {x y : Operand} {u q : Value} (hx : ev N ρ x = u) (hy : ev N ρ y = q) (h : ∀ w, (Instr.build T #[(i, u), (j, q)]).run P w = .ok v w) : Rn P N ⟨d, .build T #[(i, x), (j, y)], t, p, a, g⟩ ρ w v w := ⟨fun _ h => (by cases h), by simp [execOp, hx, hy, h]⟩
theorem rn_build3 {i j k : Nat} {x y z : Operand} {u q s : Value} (hx : ev N ρ x = u) (hy : ev N ρ y = q) (hz : ev N ρ z = s) (h : ∀ w, (Instr.build T #[(i, u), (j, q), (k, s)]).run P w = .ok v w) : Rn P N ⟨d, .build T #[(i, x), (j, y), (k, z)], t, p, a, g⟩ ρ w v w := ⟨fun _ h => (by cases h), by simp [execOp, hx, hy, hz, h]⟩
theorem rn_build4 {i j k l : Nat} {x y z c : Operand} {u q s e : Value} (hx : ev N ρ x = u) (hy : ev N ρ y = q) (hz : ev N ρ z = s) (hc : ev N ρ c = e) (h : ∀ w, (Instr.build T #[(i, u), (j, q), (k, s), (l, e)]).run P w = .ok v w) : Rn P N ⟨d, .build T #[(i, x), (j, y), (k, z), (l, c)], t, p, a, g⟩ ρ w v w := ⟨fun _ h => (by cases h), by simp [execOp, hx, hy, hz, hc, h]⟩
end structs
end Go.Eng
