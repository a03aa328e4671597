/- Ranges over functions: the record of such a loop, its rounds, the function that holds one, and the call of yield. No program stands here. -/
import Derived.Test.YtgnnegfnpgnbbaaGreatDoorHomesTab
import Derived.RangeFuncRecord
set_option linter.unusedVariables false
set_option linter.unusedSimpArgs false
namespace Go.Eng
open Go Go.RowKit Go.Mix
/-- what lies in a block -/
def At (w : World) (b : Nat) (o : Obj) : Prop := w.heap[b]? = some o
section
variable {w w' : World} {b c : Nat} {o : Obj}
theorem At.lt (h : At w b o) : b < w.heap.size := (Array.getElem?_eq_some_iff.1 h).1
theorem At.fr {S : Nat → Prop} (h : At w b o) (k : Fr S w w') (hs : ¬ S b) : At w' b o := (k.block b h.lt hs).trans h
theorem At.ext (h : At w b o) (k : Ext w w') : At w' b o := h.fr k (fun hn => hn)
theorem At.ne (h : At w b o) (k : Fr (· = c) w w') (hn : b ≠ c) : At w' b o := h.fr k hn
end
theorem fr_putObj (w : World) (r : Nat) (o : Obj) : Fr (· = r) w (w.putObj r o) := ⟨rfl, rfl, rfl, by simp, fun k _ hk => World.putObj_heap_other hk⟩
theorem at_putObj {w : World} {r : Nat} {o o' : Obj} (h : At w r o') : At (w.putObj r o) r o := World.putObj_heap_same h.lt
abbrev lrc (fn : FuncId) (N : Nat) (ρ : Nat → Value) (ps : List Tmp) (A B : Code) (db : Nat) (st : LoopState) (pe : Option Code) : Loop :=
  { state := st, pending := pe, fn := fn, tmps := (mk N ρ []).tmps, params := ps.toArray, assign := A, body := B, defers := db }
/-- a loop's record -/
def lrec (fn : FuncId) (N : Nat) (ρ : Nat → Value) (ps : List Tmp) (A B : Code) (db : Nat) (st : LoopState) (pe : Option Code) : Obj := .loop (lrc fn N ρ ps A B db st pe)
def mark (db : Nat) : Deferred := { target := .collected db, args := #[] }
/-- A call of yield, in the world w: it hands back a truth value, and R holds. -/
def Yd (P : Program) (l : Nat) (vs : List Value) (w : World) (R : Bool → World → Prop) : Prop :=
  ∃ f tmps A B, (Instr.yield l vs.toArray).run P w = .ok (.round l f tmps A B) w ∧ RoundIn (FR none) 0 P l f tmps A B w (fun e w' => ∃ b, e = .returned (.bool b) ∧ R b w')
theorem Yd.mono {P : Program} {l : Nat} {vs : List Value} {w : World} {R R' : Bool → World → Prop} (h : Yd P l vs w R) (hr : ∀ b w', R b w' → R' b w') : Yd P l vs w R' := by
  obtain ⟨f, tmps, A, B, h1, h2⟩ := h
  exact ⟨f, tmps, A, B, h1, h2.mono fun e w' ⟨b, he, hR⟩ => ⟨b, he, hr b w' hR⟩⟩
section
variable {P : Program} {N : Nat} {ρ : Nat → Value} {w w' : World} {v : Value} {r : Option Nat} {ds : List Deferred} {lo rest : List Oper} {K : (Nat → Value) → World → Prop} {d : Option Tmp} {t : TypeId} {p : String} {a : Array Edge} {g : Option (Nat × Bool)}
theorem lx_yield {l : Nat} {x : Operand} {xs : List Operand} {Ts : Array TypeId} {vs : List Value} {R : Bool → World → Prop}
    (hw : Want N lo ⟨d, .call { callee := .value x, args := xs.toArray, argTypes := Ts }, t, p, a, g⟩ ρ true) (hx : ev N ρ x = .func (.yield l) #[] #[]) (ha : xs.map (ev N ρ) = vs) (h : Yd P l vs w R)
    (k : ∀ b w', R b w' → LX none P N ds lo K rest (up ρ d (.bool b)) w') : LX none P N ds lo K (⟨d, .call { callee := .value x, args := xs.toArray, argTypes := Ts }, t, p, a, g⟩ :: rest) ρ w := ⟨by
  obtain ⟨f, tmps, A, B, h1, h2⟩ := h
  unfold wpListIn
  rw [if_pos (hw.out ds)]
  refine ⟨fun _ _ => trivial, ?_⟩
  have hr : (execOp (ev N ρ) ⟨d, .call { callee := .value x, args := xs.toArray, argTypes := Ts }, t, p, a, g⟩).run P w = .ok (.round l f tmps A B) w := by
    subst ha
    simp only [execOp, resolve, Sem.run_bind, List.map_toArray, hx, Deferred.ofValue, Sem.run_pure, Result.andThen_ok, invoke, Array.empty_append, h1]
  rw [Oper.semAt_eq _ _ _ (fun c h => by cases h), mk_eval, hr]
  simp only [Oper.uponIn, mk_put]
  exact ⟨fun h => by simp at h, RoundIn.mono h2 fun e w'' ⟨b, he, hR⟩ => by subst he; exact (k b w'' hR).out⟩⟩
/-- what comes of a round: on, or out -/
def Nx (A B : Prop) : Bool → Prop
  | true => A
  | false => B
theorem wk_abs {C : Cont} {c : Code} (h : ∀ ρ', (∀ k, ρ' k = ρ k) → WK r P N c C ds ρ' w) : WK r P N c C ds ρ w := h ρ (fun _ => rfl)
/-- the record's temporaries with yield's arguments in the parameters -/
def ups (ρ : Nat → Value) : List Tmp → List Value → Nat → Value
  | t :: ts, v :: vs => ups (up ρ (some t) v) ts vs
  | _, _ => ρ
theorem ups_tmps (N : Nat) : ∀ (ps : List Tmp) (vs : List Value) (ρ : Nat → Value), (ps.zip vs).foldl (fun tmps (q : Tmp × Value) => tmps.setIfInBounds q.1 q.2) (mk N ρ []).tmps = (mk N (ups ρ ps vs) []).tmps
  | [], vs, ρ => by cases vs <;> rfl
  | t :: ts, [], ρ => rfl
  | t :: ts, v :: vs, ρ => by
    rw [List.zip_cons_cons, List.foldl_cons]
    have h : (mk N ρ []).tmps.setIfInBounds t v = (mk N (up ρ (some t) v) []).tmps := congrArg Act.tmps (mk_put N ρ [] (some t) v)
    simp only
    rw [h, ups_tmps N ts vs]; rfl
@[reducible] def bodyK (RC : LoopState → Option Code → Obj) (l : Nat) (R : Bool → World → Prop) : Cont
  | .normal, _, _, w => At w l (RC .busy none) ∧ ∀ w', Fr (· = l) w w' → At w' l (RC .ready none) → R true w'
  | .ret, _, _, w => At w l (RC .busy none) ∧ ∀ w', Fr (· = l) w w' → At w' l (RC .done (some .ret)) → R false w'
  | _, _, _, _ => False
/-- A round. -/
theorem yd_round {fn : FuncId} {db l : Nat} {ps : List Tmp} {A B : Code} {vs : List Value} {RC : LoopState → Option Code → Obj} {R : Bool → World → Prop} (hRC : RC = lrec fn N ρ ps A B db) (hl : At w l (RC .ready none)) (hn : vs.length = ps.length)
    (h : WK (some l) P N A (fun e ds1 ρ1 w1 => match e with
      | .normal => ds1 = [] ∧ At w1 l (RC .ready none) ∧ ∀ w2, Fr (· = l) w1 w2 → At w2 l (RC .busy none) → WK (some l) P N B (bodyK RC l R) [] ρ1 w2
      | _ => False) [] (ups ρ ps vs) w) : Yd P l vs w R := by
  subst hRC
  refine ⟨fn, (mk N (ups ρ ps vs) []).tmps, A, B, ?_, roundIn_of_wpIn (F := FR none) trivial (wpIn_mono h.out ?_)⟩
  · have := run_yield (P := P) (args := vs.toArray) hl (by simpa using hn)
    rw [this]
    simp only [← ups_tmps, List.zip_toArray, List.foldl_toArray]
  · rintro e a w1 ⟨h1, h2, ρ1, ds1, rfl, hk⟩
    cases e with
    | normal =>
      obtain ⟨rfl, hl1, hk⟩ := hk
      refine ⟨_, run_beginRound hl1 rfl, wpIn_mono (hk _ (fr_putObj _ _ _) (at_putObj hl1)).out ?_⟩
      rintro e a w2 ⟨h1, h2, ρ2, ds2, rfl, hk⟩
      cases e with
      | normal => exact ⟨_, _, run_endRound none hk.1, true, rfl, hk.2 _ (fr_putObj _ _ _) (at_putObj hk.1)⟩
      | ret => exact ⟨_, _, run_endRound (some .ret) hk.1, false, rfl, hk.2 _ (fr_putObj _ _ _) (at_putObj hk.1)⟩
      | panic c => exact absurd rfl (h1 c)
      | outgrown => exact absurd rfl h2
      | exit id => exact hk.elim
      | goto l => exact hk.elim
    | ret => exact hk.elim
    | panic c => exact absurd rfl (h1 c)
    | outgrown => exact absurd rfl h2
    | exit id => exact hk.elim
    | goto l => exact hk.elim
/-- how the function that was ranged over may end -/
def Out (C : Cont) (ds : List Deferred) (RC : LoopState → Option Code → Obj) (ρ : Nat → Value) (db l : Nat) (w : World) : Prop :=
  (At w l (RC .ready none) ∧ ∀ w3, Fr (· = l) w w3 → C .normal (mark db :: ds) ρ w3) ∨
  (At w l (RC .done (some .ret)) ∧ ∀ w3, Fr (· = l) w w3 → C .ret (mark db :: ds) ρ w3)
theorem wk_range {C : Cont} {g : Operand} {ps : List Tmp} {A B : Code} {it : FuncId} {caps : List Value} (hg : ev N ρ g = .func (.func it) #[] caps.toArray) (hcf : ∀ args w, (callFunc it args).run P w = .ok (.enter it args) w)
    (h : ∀ (fn : FuncId) (db l : Nat) (w1 : World) (RC : LoopState → Option Code → Obj), RC = lrec fn N ρ ps A B db → db = w.heap.size → l = w.heap.size + 1 → w1.heap.size = w.heap.size + 2 → Ext w w1 → At w1 db (.deferred (some [])) → At w1 l (RC .ready none) →
      CT P it (.func (.yield l) #[] #[] :: caps) w1 (fun _ => True) (fun _ w2 => Out C ds RC ρ db l w2)) : WK none P N (.rangeFunc g ps.toArray A B) C ds ρ w := by
  refine ⟨wpIn_rangeFunc fun fn _ => ?_⟩
  have hw1 := run_enterLoop_outer (P := P) (w := w) fn (mk N ρ []).tmps ps.toArray A B
  have hE : Ext w ((w.alloc (.deferred (some []))).alloc (.loop (lrc fn N ρ ps A B w.heap.size .ready none))) := (ext_alloc _ _).trans' (ext_alloc _ _)
  have hd : At ((w.alloc (.deferred (some []))).alloc (.loop (lrc fn N ρ ps A B w.heap.size .ready none))) w.heap.size (.deferred (some [])) := At.ext (World.alloc_heap_new w _) (ext_alloc _ _)
  have hl : At ((w.alloc (.deferred (some []))).alloc (.loop (lrc fn N ρ ps A B w.heap.size .ready none))) (w.heap.size + 1) (lrec fn N ρ ps A B w.heap.size .ready none) := by
    have := World.alloc_heap_new (w.alloc (.deferred (some []))) (.loop (lrc fn N ρ ps A B w.heap.size .ready none))
    rwa [World.size_alloc] at this
  have hs : ((w.alloc (.deferred (some []))).alloc (.loop (lrc fn N ρ ps A B w.heap.size .ready none))).heap.size = w.heap.size + 2 := by simp
  have hw1 : (Instr.enterLoop fn (mk N ρ ds).tmps ps.toArray A B none).run P w = .ok (w.heap.size + 1, [mark w.heap.size]) ((w.alloc (.deferred (some []))).alloc (.loop (lrc fn N ρ ps A B w.heap.size .ready none))) := hw1
  obtain ⟨W, hW⟩ : ∃ W, W = (w.alloc (.deferred (some []))).alloc (.loop (lrc fn N ρ ps A B w.heap.size .ready none)) := ⟨_, rfl⟩
  rw [← hW] at hw1 hE hd hl hs
  have hc := h fn w.heap.size (w.heap.size + 1) W _ rfl rfl rfl hs hE hd hl
  refine ⟨w.heap.size + 1, [mark w.heap.size], W, { target := .fn (.func it) caps.toArray, args := #[.func (.yield (w.heap.size + 1)) #[] #[]] }, W, it, (.func (.yield (w.heap.size + 1)) #[] #[] :: caps).toArray, W, hw1, ?_, fun _ _ => trivial, ?_, fun h => by simp at h, CallsIn.mono hc.out ?_⟩
  · have e : ev N ρ (.const (.func (.yield (w.heap.size + 1)) #[] #[])) = .func (.yield (w.heap.size + 1)) #[] #[] := rfl
    simp [rangeCall, resolve, mk_eval, hg, Deferred.ofValue, e]
  · simp [invoke, hcf]
  · rintro e w2 ⟨v, rfl, hf, ⟨h1, h2⟩ | ⟨h1, h2⟩⟩
    · exact ⟨_, _, run_endLoop h1 (fun e => by cases e), fun _ e => (by cases e), fun e => (by cases e), ρ, _, rfl, h2 _ (fr_putObj _ _ _)⟩
    · exact ⟨_, _, run_endLoop h1 (fun e => by cases e), (wk_ret (h2 _ (fr_putObj _ _ _)) : WK none P N .ret C (mark w.heap.size :: ds) ρ _).out⟩

/-! ### Functions that hold such a loop -/
def Shut (K : World → Prop) : List Deferred → World → Prop
  | [], w => K w
  | d :: ds, w => ∃ db, d = mark db ∧ At w db (.deferred (some [])) ∧ ∀ w', Fr (· = db) w w' → Shut K ds w'
def retM (P : Program) (fn : Func) (N : Nat) (S : Nat → Prop) (R : Value → World → Prop) (w0 : World) : Cont
  | .normal, ds, ρ, w | .ret, ds, ρ, w => Shut (fun w => ∃ v, (results fn (mk N ρ []).tmps).run P w = .ok v w ∧ Fr S w0 w ∧ R v w) ds w
  | _, _, _, _ => False
theorem shut_leaves {fn : Func} {tmps : Array Value} {K : World → Prop} {R : Ending → World → Prop} (hK : ∀ w, K w → ∃ v, (results fn tmps).run P w = .ok v w ∧ R (.returned v) w) : ∀ (ds : List Deferred) (w : World), Shut K ds w → LeavesInM (FR none) 0 P fn tmps R ds .returning w
  | [], w, h => hK w h
  | d :: ds, w, ⟨db, hd, h1, h2⟩ => by
    subst hd
    exact ⟨fun e => (by cases e), Or.inl ⟨db, _, rfl, run_takeDeferred h1, shut_leaves hK ds _ (h2 _ (fr_putObj _ _ _))⟩⟩
theorem ct_bodyM {f : FuncId} {fn : Func} {c : Code} {args : List Value} {S : Nat → Prop} {R : Value → World → Prop} (hf : P.funcs[f]? = some fn) (hb : fn.body = some c) (hN : fn.ntmps = N) (ha : args.length ≤ N)
    (h : WK none P N c (retM P fn N S R w) [] (argsF args) w) : CT P f args w S R := by
  subst hN
  refine ⟨callsIn_of_wp_marks hf hb trivial (wpIn_mono (show c.wpIn (FR none) 0 P _ _ w from by rw [← mk_args _ _ ha]; exact h.out) ?_)⟩
  rintro e a w' ⟨h1, h2, ρ, ds, rfl, hk⟩
  cases e with
  | normal => exact shut_leaves (fun w ⟨v, g1, g2, g3⟩ => ⟨v, g1, v, rfl, g2, g3⟩) ds w' hk
  | ret => exact shut_leaves (fun w ⟨v, g1, g2, g3⟩ => ⟨v, g1, v, rfl, g2, g3⟩) ds w' hk
  | panic c => exact absurd rfl (h1 c)
  | outgrown => exact absurd rfl h2
  | exit id => exact hk.elim
  | goto l => exact hk.elim
variable {fn : Func} {S : Nat → Prop} {R : Value → World → Prop} {w0 : World}
theorem retN {ds : List Deferred} (h : retK P fn N S R w0 .ret ds ρ w) : retK P fn N S R w0 .normal ds ρ w := h
theorem retM0 (h : retK P fn N S R w0 .ret [] ρ w) : retM P fn N S R w0 .ret [] ρ w := h.2
theorem retMc {db : Nat} {ds : List Deferred} (hd : At w db (.deferred (some []))) (h : ∀ w', Fr (· = db) w w' → retM P fn N S R w0 .ret ds ρ w') : retM P fn N S R w0 .ret (mark db :: ds) ρ w := ⟨db, rfl, hd, fun w' hf => h w' hf⟩
end
end Go.Eng
