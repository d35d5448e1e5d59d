/- The abstract machine: regions that draw their order, deferred calls; it is sound (sound_call), on the conditions CtxR, GR, HR. -/
import Derived.Test.YtdflicpplbkplaaGreatDoorAmB
import Derived.OrdersIn
import Derived.RecoverIn
/-
  THE ABSTRACT MACHINE: regions that draw their order, first part: an operation looks at its operands alone.
-/
namespace Go.AM

theorem map_op {ρ ρ' : Operand → AV} {l : List Operand} (h : ∀ x, x ∈ l → ρ x = ρ' x) : l.map ρ = l.map ρ' := List.map_congr_left h

theorem nop_congr {C : Ctx} {mu : Bool} {ρ ρ' : Operand → AV} {op : Op} {H : Heap} (h : ∀ x, x ∈ op.operands → ρ x = ρ' x) : nop C mu ρ op H = nop C mu ρ' op H := by
  have hc : ∀ (c : Call), op = .call c → c.args.toList.map ρ = c.args.toList.map ρ' := fun c e => map_op fun x hx => h x (by subst e; simp only [Op.operands, Call.operands]; exact Array.mem_append.2 (.inr (by simpa using hx)))
  unfold nop
  cases op with
  | move x => simp only; rw [h x (by simp [Op.operands])]
  | assign x => simp only; rw [h x (by simp [Op.operands])]
  | pick c a b => simp only; rw [h c (by simp [Op.operands]), h a (by simp [Op.operands]), h b (by simp [Op.operands])]
  | box t x => simp only; rw [h x (by simp [Op.operands])]
  | build t ps =>
    have : (ps.toList.map fun p => (p.1, ρ p.2)) = ps.toList.map fun p => (p.1, ρ' p.2) := List.map_congr_left fun p hp => by
      rw [h p.2 (by simp only [Op.operands, List.mem_toArray, List.mem_map]; exact ⟨p, hp, rfl⟩)]
    simp only; rw [this]
  | buildSlice t n ps =>
    have : (ps.toList.map fun p => (p.1, ρ p.2)) = ps.toList.map fun p => (p.1, ρ' p.2) := List.map_congr_left fun p hp => by
      rw [h p.2 (by simp only [Op.operands, List.mem_toArray, List.mem_map]; exact ⟨p, hp, rfl⟩)]
    simp only; rw [this]
  | load t a => simp only; rw [h a (by simp [Op.operands])]
  | nilCheck x => simp only; rw [h x (by simp [Op.operands])]
  | binOp op t x y ty => simp only; rw [h x (by simp [Op.operands]), h y (by simp [Op.operands])]
  | unOp op t x => simp only; rw [h x (by simp [Op.operands])]
  | convert s d x => simp only; rw [h x (by simp [Op.operands])]
  | makeInterface t x => simp only; rw [h x (by simp [Op.operands])]
  | makeFunc fn a b =>
    have h1 : a.toList.map ρ = a.toList.map ρ' := map_op fun x hx => h x (by simp only [Op.operands]; exact Array.mem_append.2 (.inl (by simpa using hx)))
    have h2 : b.toList.map ρ = b.toList.map ρ' := map_op fun x hx => h x (by simp only [Op.operands]; exact Array.mem_append.2 (.inr (by simpa using hx)))
    cases fn <;> simp only [h1, h2]
  | makeMap t r => cases r <;> rfl
  | makeSlice t l c => simp only; rw [h l (by simp [Op.operands]), h c (by simp [Op.operands])]
  | slice t x lo hi mx =>
    have h1 : lo.map ρ = lo.map ρ' := by cases lo with | none => rfl | some x => simp only [Option.map_some]; rw [h x (by simp [Op.operands])]
    have h2 : hi.map ρ = hi.map ρ' := by cases hi with | none => rfl | some x => simp only [Option.map_some]; rw [h x (by simp [Op.operands])]
    have h3 : mx.map ρ = mx.map ρ' := by cases mx with | none => rfl | some x => simp only [Option.map_some]; rw [h x (by simp [Op.operands])]
    simp only [h1, h2, h3]; rw [h x (by simp [Op.operands])]
  | fieldAddr t x f => simp only; rw [h x (by simp [Op.operands])]
  | field t x f => simp only; rw [h x (by simp [Op.operands])]
  | indexAddr t x i => simp only; rw [h x (by simp [Op.operands]), h i (by simp [Op.operands])]
  | index t x i => simp only; rw [h x (by simp [Op.operands]), h i (by simp [Op.operands])]
  | lookup t m k ok => simp only; rw [h m (by simp [Op.operands]), h k (by simp [Op.operands])]
  | typeAssert x t a ok => simp only; rw [h x (by simp [Op.operands])]
  | extract x i => simp only; rw [h x (by simp [Op.operands])]
  | range t x => simp only; rw [h x (by simp [Op.operands])]
  | call c =>
    have hm : ∀ x, x ∈ c.args.toList → ρ x = ρ' x := fun x hx => h x (by simp only [Op.operands, Call.operands]; exact Array.mem_append.2 (.inr (by simpa using hx)))
    obtain ⟨callee, args, ts⟩ := c
    cases callee with
    | builtin b =>
      cases b <;> first
        | rfl
        | (simp only
           split
           · rename_i ea _
             rw [hm _ (by simp only at ea ⊢; rw [ea]; simp)]
           · rfl)
        | (simp only
           split
           · rename_i ea
             rw [hm _ (by simp only at ea ⊢; rw [ea]; simp), hm _ (by simp only at ea ⊢; rw [ea]; simp)]
           · rfl)
    | value f => rfl
    | invoke r n => rfl
  | _ => rfl

theorem eop_congr {C : Ctx} {ex : Run} {ro : Option Nat} {st : St} {env' : Nat → AV} {o : Oper} (h : ∀ x, x ∈ o.op.operands → ev C st.env x = ev C env' x) : eop C ex ro st o = eop C ex ro { st with env := env' } o := by
  unfold eop
  cases hop : o.op with
  | store t a x => rw [hop] at h; simp only; rw [h a (by simp [Op.operands]), h x (by simp [Op.operands])]
  | mapUpdate t m k x => rw [hop] at h; simp only; rw [h m (by simp [Op.operands]), h k (by simp [Op.operands]), h x (by simp [Op.operands])]
  | insert t m k x => rw [hop] at h; simp only; rw [h m (by simp [Op.operands]), h k (by simp [Op.operands]), h x (by simp [Op.operands])]
  | panic x => rw [hop] at h; simp only; rw [h x (by simp [Op.operands])]
  | next it b => rw [hop] at h; cases b <;> simp only; rw [h it (by simp [Op.operands])]
  | defer c =>
    rw [hop] at h
    obtain ⟨callee, args, ts⟩ := c
    have hm : args.toList.map (ev C st.env) = args.toList.map (ev C env') := map_op fun x hx => h x (by simp only [Op.operands, Call.operands]; exact Array.mem_append.2 (.inr (by simpa using hx)))
    cases callee with
    | value f => simp only; rw [h f (by simp [Op.operands, Call.operands]), hm]
    | _ => rfl
  | call c =>
    rw [hop] at h
    obtain ⟨callee, args, ts⟩ := c
    have hm : ∀ x, x ∈ args.toList → ev C st.env x = ev C env' x := fun x hx => h x (by simp only [Op.operands, Call.operands]; exact Array.mem_append.2 (.inr (by simpa using hx)))
    cases callee with
    | value f => simp only; rw [h f (by simp [Op.operands, Call.operands]), map_op hm]
    | builtin b =>
      cases b <;> first
        | rfl
        | (simp only
           split
           · rename_i ea _
             rw [hm _ (by rw [ea]; simp), hm _ (by rw [ea]; simp)]
           · rfl)
        | (simp only
           split
           · rename_i ea _
             rw [hm _ (by rw [ea]; simp)]
           · rfl)
    | invoke r n => rfl
  | _ => rfl

end Go.AM

/-
  THE ABSTRACT MACHINE: regions that draw their order, second part: what the static check says.
-/
namespace Go.AM

theorem nodupB_spec : ∀ {l : List Nat}, nodupB l = true → l.Nodup
  | [], _ => List.nodup_nil
  | x :: xs, h => by
    simp only [nodupB, Bool.and_eq_true, Bool.not_eq_true'] at h
    refine List.nodup_cons.2 ⟨fun hx => ?_, nodupB_spec h.2⟩
    have := h.1
    simp [hx] at this

section
variable {all : List Oper} {X : Nat → Prop}

/-- Closed downwards: with an operation, what it comes behind. -/
def Down (all : List Oper) (X : Nat → Prop) : Prop := ∀ j o, X j → all[j]? = some o → ∀ p, p ∈ edgesOf o → X p

theorem bitsOf_spec {acc : List (Nat × Nat)} : ∀ {ps : List Nat} {b : Nat}, bitsOf acc ps = some b → (∀ p, p ∈ ps → ∃ c, acc.lookup p = some c) ∧
    ∀ i, b.testBit i = true → ∃ p, p ∈ ps ∧ (i = p ∨ ∃ c, acc.lookup p = some c ∧ c.testBit i = true)
  | [], b, h => by cases h; exact ⟨(fun p hp => by cases hp), (fun i hi => by simp at hi)⟩
  | p :: ps, b, h => by
    rw [bitsOf, Option.bind_eq_some_iff] at h
    obtain ⟨c, hc, h⟩ := h
    obtain ⟨d, hd, rfl⟩ := Option.map_eq_some_iff.1 h
    obtain ⟨h1, h2⟩ := bitsOf_spec hd
    refine ⟨fun q hq => ?_, fun i hi => ?_⟩
    · rcases List.mem_cons.1 hq with rfl | hq
      · exact ⟨c, hc⟩
      · exact h1 q hq
    · simp only [Nat.testBit_or, Bool.or_eq_true] at hi
      rcases hi with (hi | hi) | hi
      · obtain ⟨q, hq, h3⟩ := h2 i hi
        exact ⟨q, List.mem_cons_of_mem _ hq, h3⟩
      · exact ⟨p, List.mem_cons_self, .inr ⟨c, hc, hi⟩⟩
      · refine ⟨p, List.mem_cons_self, .inl ?_⟩
        rw [Nat.testBit_two_pow] at hi
        have : p = i := by simpa using hi
        exact this.symm

/-- What is surely before: it is done where all that is asked for is. -/
theorem ancs_spec (hX : Down all X) : ∀ (l : List Nat) (acc A : List (Nat × Nat)), ancs all l acc = some A →
    (∀ j b, acc.lookup j = some b → ∀ i, b.testBit i = true → (∀ o, all[j]? = some o → ∀ p, p ∈ edgesOf o → X p) → X i) →
    ∀ j b, A.lookup j = some b → ∀ i, b.testBit i = true → (∀ o, all[j]? = some o → ∀ p, p ∈ edgesOf o → X p) → X i
  | [], acc, A, h, hacc => by cases h; exact hacc
  | i :: l, acc, A, h, hacc => by
    rw [ancs, Option.bind_eq_some_iff] at h
    obtain ⟨o, ho, h⟩ := h
    rw [Option.bind_eq_some_iff] at h
    obtain ⟨b, hb, h⟩ := h
    refine ancs_spec hX l _ A h fun j c hc k hk hp => ?_
    rw [List.lookup_cons] at hc
    split at hc
    · rename_i hji
      have hji : j = i := by simpa using hji
      subst hji
      cases hc
      obtain ⟨p, hp1, hp2⟩ := (bitsOf_spec hb).2 k hk
      have hXp := hp o ho p hp1
      rcases hp2 with rfl | ⟨c, hc, hk⟩
      · exact hXp
      · exact hacc p c hc k hk fun o' ho' q hq => hX p o' hXp ho' q hq
    · exact hacc j c hc k hk hp

theorem surely_spec (hX : Down all X) {ord : List Nat} {A : List (Nat × Nat)} (hA : ancs all ord [] = some A) {i j : Nat} (hs : surely A i j = true) (hp : ∀ o, all[j]? = some o → ∀ p, p ∈ edgesOf o → X p) : X i := by
  unfold surely at hs
  split at hs
  · rename_i b hb
    exact ancs_spec hX ord [] A hA (fun j b h => by cases h) j b hb i hs hp
  · cases hs

/-- Something can be done, or all is. -/
theorem progress : ∀ (l : List Nat) (acc A : List (Nat × Nat)), ancs all l acc = some A → (∀ p c, acc.lookup p = some c → X p) → (∀ i, i ∈ l → X i) ∨ ∃ i, i ∈ l ∧ ¬ X i ∧ ∃ o, all[i]? = some o ∧ ∀ p, p ∈ edgesOf o → X p
  | [], acc, A, h, hacc => .inl fun i hi => by cases hi
  | i :: l, acc, A, h, hacc => by
    rw [ancs, Option.bind_eq_some_iff] at h
    obtain ⟨o, ho, h⟩ := h
    rw [Option.bind_eq_some_iff] at h
    obtain ⟨b, hb, h⟩ := h
    by_cases hX : X i
    · rcases progress l _ A h (fun p c hc => by
        rw [List.lookup_cons] at hc
        split at hc
        · rename_i hpi
          have : p = i := by simpa using hpi
          rw [this]; exact hX
        · exact hacc p c hc) with h1 | ⟨j, h1, h2⟩
      · refine .inl fun j hj => ?_
        rcases List.mem_cons.1 hj with rfl | hj
        · exact hX
        · exact h1 j hj
      · exact .inr ⟨j, List.mem_cons_of_mem _ h1, h2⟩
    · exact .inr ⟨i, List.mem_cons_self, hX, o, ho, fun p hp => let ⟨c, hc⟩ := (bitsOf_spec hb).1 p hp; hacc p c hc⟩

/-- What is of a later stage comes behind an effect that is not done. -/
theorem later_spec {A : List (Nat × Nat)} : ∀ {l : List Stg} {e : Nat} {old : List Nat}, stagesOk A (some e) old l = true → ∀ i, i ∈ ordOf l → ∃ p, surely A p i = true ∧ (p = e ∨ p ∈ l.filterMap (·.e))
  | [], _, _, h, _, _ => by cases h
  | s :: l, e, old, h, i, hi => by
    simp only [stagesOk, Bool.and_eq_true] at h
    obtain ⟨⟨⟨⟨⟨h1, h2⟩, _⟩, _⟩, _⟩, h5⟩ := h
    simp only [ordOf, List.flatMap_cons, List.mem_append] at hi
    rcases hi with (hi | hi) | hi
    · exact ⟨e, List.all_eq_true.1 h1 i hi, .inl rfl⟩
    · cases hse : s.e with
      | none => rw [hse] at hi; simp at hi
      | some q =>
        rw [hse] at hi h2
        simp at hi
        subst hi
        exact ⟨e, by simpa using h2, .inl rfl⟩
    · cases hse : s.e with
      | none =>
        rw [hse] at h5
        have : l = [] := by simpa using h5
        subst this
        cases hi
      | some q =>
        rw [hse] at h5
        obtain ⟨p, hp1, hp2⟩ := later_spec h5 i hi
        refine ⟨p, hp1, .inr ?_⟩
        rw [List.filterMap_cons, hse]
        rcases hp2 with rfl | hp2
        · exact List.mem_cons_self
        · exact List.mem_cons_of_mem _ hp2

end
end Go.AM

/-
  THE ABSTRACT MACHINE: regions that draw their order, third part: the operations without an effect of a stage; equal values.
-/
namespace Go.AM

mutual
theorem eqA_eq : ∀ {a b : AV}, eqA a b = true → a = b
  | .bool a, .bool b, h => by simp [eqA] at h; rw [h]
  | .int k a, .int k' b, h => by simp [eqA] at h; rw [h.1, h.2]
  | .str a, .str b, h => by simp [eqA] at h; rw [h]
  | .ptr b o, .ptr b' o', h => by simp [eqA] at h; rw [h.1, h.2]
  | .vptr cs o, .vptr cs' o', h => by simp [eqA] at h; rw [h.1, eqAs_eq h.2]
  | .nilptr, .nilptr, _ => rfl
  | .nils, .nils, _ => rfl
  | .vs xs t, .vs ys u, h => by simp [eqA] at h; rw [h.1, eqAs_eq h.2]
  | .rs b o n e, .rs b' o' n' e', h => by simp [eqA] at h; obtain ⟨⟨⟨h1, h2⟩, h3⟩, h4⟩ := h; rw [h1, h2, h3, h4]
  | .map r, .map r', h => by simp [eqA] at h; rw [h]
  | .iter b, .iter b', h => by simp [eqA] at h; rw [h]
  | .func fn a b, .func gn c d, h => by simp [eqA] at h; obtain ⟨⟨h1, h2⟩, h3⟩ := h; rw [h1, eqAs_eq h2, eqAs_eq h3]
  | .nilFunc, .nilFunc, _ => rfl
  | .iface t v, .iface u w, h => by simp [eqA] at h; rw [h.1, eqA_eq h.2]
  | .nilIface, .nilIface, _ => rfl
  | .agg a, .agg b, h => by simp [eqA] at h; rw [eqAs_eq h]
  | .tuple a, .tuple b, h => by simp [eqA] at h; rw [eqAs_eq h]
theorem eqAs_eq : ∀ {a b : List AV}, eqAs a b = true → a = b
  | [], [], _ => rfl
  | x :: xs, y :: ys, h => by simp [eqAs] at h; rw [eqA_eq h.1, eqAs_eq h.2]
end

theorem eqB_eq {a b : AB} (h : eqB a b = true) : a = b := by
  unfold eqB at h
  split at h
  · rw [eqAs_eq h]
  · simp at h; rw [h]
  · rfl
  · cases h

section
variable {C : Ctx} {P : Program} {γ : Gh} {H : Heap} {w : World}

theorem put_env {st st' : St} {dst : Option Nat} {v : AV} (h : st.put dst v = some st') : st' = { st with env := st'.env } ∧ (∀ t, dst ≠ some t → st'.env t = st.env t) ∧ ∀ t, dst = some t → st'.env t = v := by
  unfold St.put at h
  cases dst with
  | none => cases h; exact ⟨rfl, fun _ _ => rfl, fun t h => by cases h⟩
  | some d =>
    simp only at h
    split at h
    · cases h
      refine ⟨rfl, fun t ht => ?_, fun t ht => ?_⟩
      · have : t ≠ d := fun e => ht (by rw [e])
        simp [upd, this]
      · cases ht; simp [upd]
    · cases h

/-- What the operations without an effect of a stage do to the state. -/
theorem runNs_frame {all : List Oper} {w : World} {γ : Gh} : ∀ (ns : List Nat) (st st1 : St), runNs C all ns st = some st1 → HR γ st.hp w →
    HR γ st1.hp w ∧ Ext γ st.hp w γ st1.hp w ∧ st1.nt = st.nt ∧ st1.defs = st.defs ∧ st1.mu = st.mu ∧ st1.fn = st.fn ∧ ∀ t, (∀ i o, i ∈ ns → all[i]? = some o → o.dst ≠ some t) → st1.env t = st.env t
  | [], st, st1, h, hH => by cases h; exact ⟨hH, .refl _ _ _, rfl, rfl, rfl, rfl, fun _ _ => rfl⟩
  | i :: ns, st, st1, h, hH => by
    rw [runNs, Option.bind_eq_some_iff] at h
    obtain ⟨st2, h2, h⟩ := h
    have key : HR γ st2.hp w ∧ Ext γ st.hp w γ st2.hp w ∧ st2.nt = st.nt ∧ st2.defs = st.defs ∧ st2.mu = st.mu ∧ st2.fn = st.fn ∧ ∀ t, (∀ o, all[i]? = some o → o.dst ≠ some t) → st2.env t = st.env t := by
      unfold runN1 at h2
      rw [Option.bind_eq_some_iff] at h2
      obtain ⟨o, ho, h2⟩ := h2
      rw [Option.bind_eq_some_iff] at h2
      obtain ⟨g, hg, h2⟩ := h2
      split at h2
      · cases h2
      · have fin : ∀ (s0 : St) (v : AV), s0.put o.dst v = some st2 → HR γ s0.hp w → Ext γ st.hp w γ s0.hp w → s0.nt = st.nt → s0.defs = st.defs → s0.mu = st.mu → s0.fn = st.fn → s0.env = st.env →
            HR γ st2.hp w ∧ Ext γ st.hp w γ st2.hp w ∧ st2.nt = st.nt ∧ st2.defs = st.defs ∧ st2.mu = st.mu ∧ st2.fn = st.fn ∧ ∀ t, (∀ o, all[i]? = some o → o.dst ≠ some t) → st2.env t = st.env t := by
          intro s0 v hp a1 a2 a3 a4 a5 a6 a7
          obtain ⟨e1, e2, _⟩ := put_env hp
          rw [e1]
          exact ⟨a1, a2, a3, a4, a5, a6, fun t ht => by rw [← a7]; exact e2 t (ht o ho)⟩
        split at h2
        · rw [Option.bind_eq_some_iff] at h2
          obtain ⟨r, hr, h2⟩ := h2
          cases r with
          | v x => exact fin st x h2 hH (.refl _ _ _) rfl rfl rfl rfl rfl
          | new f x => exact fin { st with hp := st.hp.new x } _ h2 (hH.new x) (Ext.new hH x) rfl rfl rfl rfl rfl
        · exact fin st _ h2 hH (.refl _ _ _) rfl rfl rfl rfl rfl
    obtain ⟨k1, k2, k3, k4, k5, k6, k7⟩ := key
    obtain ⟨m1, m2, m3, m4, m5, m6, m7⟩ := runNs_frame ns st2 st1 h k1
    exact ⟨m1, k2.trans m2, m3.trans k3, m4.trans k4, m5.trans k5, m6.trans k6, fun t ht => (m7 t fun j o hj => ht j o (List.mem_cons_of_mem _ hj)).trans (k7 t fun o => ht i o List.mem_cons_self)⟩

/-- One operand. -/
theorem evR1 (hg : GR C γ) {env : Nat → AV} {a : Act} (x : Operand) (he : ∀ t, x = .tmp t → VR γ (env t) (a.tmps.getD t undef)) : VR γ (ev C env x) (a.eval x) := by
  cases x with
  | tmp u => exact he u rfl
  | const v => exact evR (a := a) (env := fun _ => .bad) hg (fun _ => .bad _) (.const v)
  | global g => exact evR (a := a) (env := fun _ => .bad) hg (fun _ => .bad _) (.global g)
  | func f => exact evR (a := a) (env := fun _ => .bad) hg (fun _ => .bad _) (.func f)

theorem mem_looks {all : List Oper} {o : Oper} {t : Nat} (h : Operand.tmp t ∈ o.op.operands) : t ∈ looks all o := by
  unfold looks
  exact List.mem_append_left _ (List.mem_filterMap.2 ⟨.tmp t, by simpa using h, rfl⟩)

/-- The guard, where what it looks at is related. -/
theorem guardR1 {ops : List Oper} {st : St} {a : Act} {o : Oper} (he : ∀ t, t ∈ looks ops o → VR γ (st.env t) (a.tmps.getD t undef)) {g : Bool} (hg : guardOk ops st o = some g) : Region.wanted o (yielded ops.toArray a.tmps) = g := by
  unfold guardOk at hg
  unfold Region.wanted
  cases ho : o.guard with
  | none => rw [ho] at hg; simpa using hg
  | some p =>
    obtain ⟨j, want⟩ := p
    rw [ho] at hg
    simp only [Option.bind_eq_some_iff] at hg
    obtain ⟨q, hq, d, hd, hg⟩ := hg
    have hv := he d (by unfold looks; exact List.mem_append_right _ (by rw [ho]; simp [hq, hd]))
    split at hg
    · rename_i b hb
      rw [hb] at hv
      have hv' := hv.bool_inv
      have : a.tmps[d]? = some (.bool b) := by
        rw [Array.getD_eq_getD_getElem?] at hv'
        cases ht : a.tmps[d]? with
        | none => rw [ht] at hv'; simp [undef] at hv'
        | some v => rw [ht] at hv'; simpa using hv'
      cases hg
      simp [yielded, hq, hd, this]
    · cases hg

end
end Go.AM

/-
  THE ABSTRACT MACHINE: regions that draw their order, fourth part: whatever order is drawn.
-/
namespace Go.AM

def XS (listed : Array Bool) (i : Nat) : Prop := listed.getD i false = true

/-- So many are not done. -/
def left (n : Nat) (listed : Array Bool) : Nat := (List.range n).countP fun i => !listed.getD i false

theorem countP_lt {p q : Nat → Bool} (h : ∀ x, q x = true → p x = true) : ∀ (l : List Nat) (x : Nat), x ∈ l → p x = true → q x = false → l.countP q < l.countP p
  | y :: l, x, hx, hp, hq => by
    have hle : ∀ l : List Nat, l.countP q ≤ l.countP p := fun l => List.countP_mono_left fun x _ => h x
    simp only [List.countP_cons]
    rcases List.mem_cons.1 hx with rfl | hx
    · rw [hp, hq]; have := hle l; simp; omega
    · have := countP_lt h l x hx hp hq
      by_cases hy : q y = true
      · rw [h y hy, hy]; omega
      · have : q y = false := by simpa using hy
        rw [this]; simp; split <;> omega

theorem XS_set {listed : Array Bool} {i j : Nat} (hi : i < listed.size) : XS (listed.setIfInBounds i true) j ↔ j = i ∨ XS listed j := by
  unfold XS
  by_cases h : j = i
  · subst h; simp [hi]
  · simp [h, Array.getElem?_setIfInBounds_ne (Ne.symm h)]

theorem left_set {n i : Nat} {listed : Array Bool} (hn : i < n) (hi : i < listed.size) (h : ¬ XS listed i) : left n (listed.setIfInBounds i true) < left n listed := by
  refine countP_lt (fun x hx => ?_) _ i (List.mem_range.2 hn) (by unfold XS at h; simpa using h) (by simp [hi])
  by_cases hxi : x = i
  · subst hxi; unfold XS at h; simpa using h
  · simpa [Array.getElem?_setIfInBounds_ne (Ne.symm hxi)] using hx

/-- What is fixed about a region. -/
structure Sta (all : List Oper) (A : List (Nat × Nat)) (S : List Stg) : Prop where
  anc : ancs all (ordOf S) [] = some A
  nd : (ordOf S).Nodup
  cov : ∀ i, i < all.length → i ∈ ordOf S
  dst : (all.filterMap (·.dst)).Nodup
  read : ∀ i j, i ∈ ordOf S → j ∈ ordOf S → readOk all A (S.filterMap (·.e)) i j = true

/-- Where the schedule stands. -/
structure Pos (S : List Stg) (pre old effs : List Nat) (prev : Option Nat) (s : Stg) (l : List Stg) : Prop where
  split : ordOf S = pre ++ ((s.ns ++ s.e.toList) ++ ordOf l)
  pre1 : ∀ i, i ∈ pre → i ∈ old ∨ i ∈ effs
  old1 : ∀ i, i ∈ old → i ∈ pre
  eff1 : ∀ i, i ∈ effs → i ∈ pre
  disj : ∀ i, i ∈ effs → i ∉ old
  es : ∀ i, i ∈ S.filterMap (·.e) → i ∈ effs ∨ s.e = some i ∨ i ∈ l.filterMap (·.e)
  prev1 : ∀ p, prev = some p → p ∈ effs
  prev2 : prev = none → old = []

section
variable {C : Ctx} {P : Program}

/-- What holds on the way. -/
structure Inv (C : Ctx) (all : List Oper) (ro r : Option Nat) (γ0 : Gh) (H0 : Heap) (w0 : World) (old effs : List Nat) (s : Stg) (T : St) (listed : Array Bool) (a : Act) (w : World) (γ : Gh) : Prop where
  hp : HR γ T.hp w
  gr : GR C γ
  ro : RoR γ ro r
  ext : Ext γ0 H0 w0 γ T.hp w
  nt : a.tmps.size = T.nt
  env : ∀ t, (∀ j o, j ∈ old ++ s.ns → all[j]? = some o → o.dst = some t → XS listed j) → VR γ (T.env t) (a.tmps.getD t undef)
  defs : DefsR γ T.defs a.defers
  news : ∀ p, p ∈ stageNew C all s T → ¬ XS listed p.1 → γ.rho p.2 = none ∧ H0.next ≤ p.2 ∧ p.2 < T.hp.next
  down : Down all (XS listed)
  xs : ∀ i, XS listed i → i ∈ old ++ s.ns ∨ i ∈ effs
  effX : ∀ i, i ∈ effs → XS listed i
  size : listed.size = all.length
  dnt : ∀ j o d, j ∈ old ++ s.ns → all[j]? = some o → o.dst = some d → d < T.nt

theorem Pos.ns_pre {S : List Stg} {pre old effs : List Nat} {prev : Option Nat} {s : Stg} {l : List Stg} (hp : Pos S pre old effs prev s l) (hn : (ordOf S).Nodup) : (∀ i, i ∈ s.ns → i ∉ pre) ∧ (∀ e, s.e = some e → e ∉ pre ∧ e ∉ s.ns) ∧
    (∀ i, i ∈ ordOf l → i ∉ pre ∧ i ∉ s.ns ∧ s.e ≠ some i) ∧ s.ns.Nodup := by
  rw [hp.split] at hn
  obtain ⟨_, h2, h3⟩ := List.nodup_append.1 hn
  obtain ⟨h4, h5, h6⟩ := List.nodup_append.1 h2
  obtain ⟨h7, _, h8⟩ := List.nodup_append.1 h4
  refine ⟨fun i hi hp => h3 i hp i (by simp [hi]) rfl, fun e he => ⟨fun hp => h3 e hp e (by simp [he]) rfl, fun hns => h8 e hns e (by simp [he]) rfl⟩, fun i hi => ⟨fun hp => h3 i hp i (by simp [hi]) rfl, fun hns => h6 i (by simp [hns]) i hi rfl, fun he => h6 i (by simp [he]) i hi rfl⟩, h7⟩

/-- An operation that is ready is one of this stage or of those before it, or this stage's effect. -/
theorem ready_where {all : List Oper} {A : List (Nat × Nat)} {S : List Stg} (hS : Sta all A S) {pre old effs : List Nat} {prev : Option Nat} {s : Stg} {l : List Stg} (hP : Pos S pre old effs prev s l) (hst : stagesOk A prev old (s :: l) = true)
    {X : Nat → Prop} (hX : Down all X) (hxs : ∀ i, X i → i ∈ old ++ s.ns ∨ i ∈ effs) {i : Nat} {o : Oper} (hi : all[i]? = some o) (hn : ¬ X i) (hpd : ∀ p, p ∈ edgesOf o → X p) (heff : ∀ i, i ∈ effs → X i) :
    (i ∈ old ++ s.ns ∧ i ∈ s.re) ∨ s.e = some i := by
  have hcov := hS.cov i (List.getElem?_eq_some_iff.1 hi).1
  obtain ⟨n1, n2, n3, n4⟩ := hP.ns_pre hS.nd
  have hpd' : ∀ o', all[i]? = some o' → ∀ p, p ∈ edgesOf o' → X p := fun o' ho' => by rw [hi] at ho'; cases ho'; exact hpd
  have hst0 := hst
  simp only [stagesOk, Bool.and_eq_true] at hst
  obtain ⟨⟨⟨⟨h1, h3⟩, h4⟩, h5⟩, h6⟩ := hst
  rw [hP.split] at hcov
  simp only [List.mem_append] at hcov
  rcases hcov with hc | (hc | hc) | hc
  · rcases hP.pre1 i hc with ho | he
    · refine .inl ⟨List.mem_append_left _ ho, ?_⟩
      have := List.all_eq_true.1 h4 i ho
      simp only [Bool.or_eq_true] at this
      rcases this with h | h
      · simpa using h
      · cases hpr : prev with
        | none => rw [hpr] at h; cases h
        | some p =>
          rw [hpr] at h
          have hXp := heff p (hP.prev1 p hpr)
          exact absurd (surely_spec hX hS.anc h fun o' ho' q hq => hX p o' hXp ho' q hq) hn
    · exact absurd (heff i he) hn
  · exact .inl ⟨List.mem_append_right _ hc, by simpa using List.all_eq_true.1 h3 i hc⟩
  · exact .inr (by simpa using hc)
  · cases hse : s.e with
    | none =>
      rw [hse] at h6
      have : l = [] := by simpa using h6
      subst this; cases hc
    | some e =>
      rw [hse] at h6
      obtain ⟨p, hp1, hp2⟩ := later_spec h6 i hc
      have hXp := surely_spec hX hS.anc hp1 hpd'
      have hno : ∀ q, q ∉ pre → q ∉ s.ns → ¬ X q := fun q h1 h2 hXq => by
        rcases hxs q hXq with h | h
        · rcases List.mem_append.1 h with h | h
          · exact h1 (hP.old1 q h)
          · exact h2 h
        · exact h1 (hP.eff1 q h)
      rcases hp2 with rfl | hp2
      · obtain ⟨m1, m2⟩ := n2 p hse
        exact absurd hXp (hno p m1 m2)
      · have hmem : p ∈ ordOf l := by
          obtain ⟨s', hs', he'⟩ := List.mem_filterMap.1 hp2
          exact List.mem_flatMap.2 ⟨s', hs', by simp [he']⟩
        obtain ⟨m1, m2, _⟩ := n3 p hmem
        exact absurd hXp (hno p m1 m2)

end
end Go.AM

/-
  THE ABSTRACT MACHINE: regions that draw their order, fifth part: an operation without an effect, done at whatever time.
-/
namespace Go.AM

theorem filterMap_inj {α β : Type} {f : α → Option β} : ∀ {l : List α}, (l.filterMap f).Nodup → ∀ {i j : Nat} {x y : α} {d : β}, l[i]? = some x → l[j]? = some y → f x = some d → f y = some d → i = j
  | [], _, i, _, x, _, _, hx, _, _, _ => by simp at hx
  | z :: l, h, i, j, x, y, d, hx, hy, hfx, hfy => by
    have mem : ∀ (k : Nat) (u : α), l[k]? = some u → f u = some d → d ∈ l.filterMap f := fun k u hu hfu => List.mem_filterMap.2 ⟨u, List.mem_of_getElem? hu, hfu⟩
    cases hz : f z with
    | none =>
      rw [List.filterMap_cons, hz] at h
      cases i with
      | zero => simp at hx; subst hx; rw [hz] at hfx; cases hfx
      | succ i =>
        cases j with
        | zero => simp at hy; subst hy; rw [hz] at hfy; cases hfy
        | succ j =>
          rw [List.getElem?_cons_succ] at hx hy
          exact congrArg (· + 1) (filterMap_inj h hx hy hfx hfy)
    | some c =>
      rw [List.filterMap_cons, hz] at h
      obtain ⟨h1, h2⟩ := List.nodup_cons.1 h
      cases i with
      | zero =>
        simp at hx; subst hx; rw [hz] at hfx; cases hfx
        cases j with
        | zero => rfl
        | succ j => exact absurd (mem j y (by simpa using hy) hfy) h1
      | succ i =>
        cases j with
        | zero =>
          simp at hy; subst hy; rw [hz] at hfy; cases hfy
          exact absurd (mem i x (by simpa using hx) hfx) h1
        | succ j =>
          rw [List.getElem?_cons_succ] at hx hy
          exact congrArg (· + 1) (filterMap_inj h2 hx hy hfx hfy)

theorem runNs_dst {C : Ctx} {all : List Oper} : ∀ (ns : List Nat) (st st1 : St), runNs C all ns st = some st1 → st1.nt = st.nt ∧ ∀ i o d, i ∈ ns → all[i]? = some o → o.dst = some d → d < st.nt
  | [], st, st1, h => by cases h; exact ⟨rfl, fun i o d hi => by cases hi⟩
  | i :: ns, st, st1, h => by
    rw [runNs, Option.bind_eq_some_iff] at h
    obtain ⟨st2, h2, h⟩ := h
    obtain ⟨m1, m2⟩ := runNs_dst ns st2 st1 h
    have key : st2.nt = st.nt ∧ ∀ o d, all[i]? = some o → o.dst = some d → d < st.nt := by
      unfold runN1 at h2
      rw [Option.bind_eq_some_iff] at h2
      obtain ⟨o, ho, h2⟩ := h2
      rw [Option.bind_eq_some_iff] at h2
      obtain ⟨g, hg, h2⟩ := h2
      have put_nt : ∀ (s0 : St) (v : AV), s0.put o.dst v = some st2 → s0.nt = st.nt → st2.nt = st.nt ∧ ∀ o d, all[i]? = some o → o.dst = some d → d < st.nt := by
        intro s0 v hp hnt
        unfold St.put at hp
        refine ⟨?_, fun o' d ho' hd => ?_⟩
        · split at hp
          · cases hp; exact hnt
          · split at hp
            · cases hp; exact hnt
            · cases hp
        · rw [ho] at ho'; cases ho'
          rw [hd] at hp
          simp only at hp
          split at hp
          · rename_i hlt; rw [← hnt]; exact hlt
          · cases hp
      split at h2
      · cases h2
      · split at h2
        · rw [Option.bind_eq_some_iff] at h2
          obtain ⟨r, hr, h2⟩ := h2
          cases r with
          | v x => exact put_nt st x h2 rfl
          | new f x => exact put_nt { st with hp := st.hp.new x } _ h2 rfl
        · exact put_nt st _ h2 rfl
    refine ⟨m1.trans key.1, fun j o d hj ho hd => ?_⟩
    rcases List.mem_cons.1 hj with rfl | hj
    · exact key.2 o d ho hd
    · rw [← key.1]; exact m2 j o d hj ho hd

section
variable {C : Ctx} {P : Program}

/-- No operation of a stage without an effect is one with. -/
theorem not_es {all : List Oper} {A : List (Nat × Nat)} {S : List Stg} (hS : Sta all A S) {pre old effs : List Nat} {prev : Option Nat} {s : Stg} {l : List Stg} (hP : Pos S pre old effs prev s l) {j : Nat} (hj : j ∈ old ++ s.ns) : j ∉ S.filterMap (·.e) := by
  intro he
  obtain ⟨n1, n2, n3, _⟩ := hP.ns_pre hS.nd
  rcases hP.es j he with h | h | h
  · rcases List.mem_append.1 hj with ho | hn
    · exact hP.disj j h ho
    · exact n1 j hn (hP.eff1 j h)
  · obtain ⟨m1, m2⟩ := n2 j h
    rcases List.mem_append.1 hj with ho | hn
    · exact m1 (hP.old1 j ho)
    · exact m2 hn
  · obtain ⟨s', hs', he'⟩ := List.mem_filterMap.1 h
    obtain ⟨m1, m2, _⟩ := n3 j (List.mem_flatMap.2 ⟨s', hs', by simp [he']⟩)
    rcases List.mem_append.1 hj with ho | hn
    · exact m1 (hP.old1 j ho)
    · exact m2 hn

theorem in_ord {all : List Oper} {A : List (Nat × Nat)} {S : List Stg} (hS : Sta all A S) {j : Nat} {o : Oper} (h : all[j]? = some o) : j ∈ ordOf S := hS.cov j (List.getElem?_eq_some_iff.1 h).1

/-- What an operation that is ready looks at is what it is in the schedule. -/
theorem reads_ok {all : List Oper} {A : List (Nat × Nat)} {S : List Stg} (hS : Sta all A S) {pre old effs : List Nat} {prev : Option Nat} {s : Stg} {l : List Stg} (hP : Pos S pre old effs prev s l) {ro r : Option Nat} {γ0 γ : Gh} {H0 : Heap} {w0 w : World} {T : St} {listed : Array Bool} {a : Act}
    (hI : Inv C all ro r γ0 H0 w0 old effs s T listed a w γ) {i : Nat} {o : Oper} (hi : all[i]? = some o) (hpd : ∀ p, p ∈ edgesOf o → XS listed p) (hown : i ∈ old ++ s.ns ∨ s.e = some i) : ∀ t, t ∈ looks all o → VR γ (T.env t) (a.tmps.getD t undef) := by
  intro t ht
  refine hI.env t fun j o' hj ho' hd => ?_
  have hne := not_es hS hP hj
  have hread := hS.read i j (in_ord hS hi) (in_ord hS ho')
  unfold readOk at hread
  simp only [hi, ho', hd] at hread
  have hc : (looks all o).contains t = true := by simpa using ht
  rw [hc] at hread
  simp only [Bool.not_true, Bool.false_or] at hread
  split at hread
  · rename_i hij
    subst hij
    exact absurd (by simpa using hread) hne
  · simp only [Bool.or_eq_true, Bool.and_eq_true] at hread
    rcases hread with h | ⟨_, h⟩
    · exact surely_spec hI.down hS.anc h fun o'' ho'' p hp => by rw [hi] at ho''; cases ho''; exact hpd p hp
    · exact absurd (by simpa using h) hne


/-- What is known when an operation of the stage, or of one before it, has been done. -/
theorem Inv.after {all : List Oper} {A : List (Nat × Nat)} {S : List Stg} (hS : Sta all A S) {ro r : Option Nat} {γ0 γ γ' : Gh} {H0 : Heap} {w0 w w' : World} {old effs : List Nat} {s : Stg} {T : St} {listed : Array Bool} {a : Act} {i : Nat} {o : Oper} {u : Value}
    (hI : Inv C all ro r γ0 H0 w0 old effs s T listed a w γ) (hi : all[i]? = some o) (hd : i ∈ old ++ s.ns) (hpd : ∀ p, p ∈ edgesOf o → XS listed p) (hle : γ.Le γ') (hH : HR γ' T.hp w') (hE : Ext γ0 H0 w0 γ' T.hp w')
    (hu : ∀ d, o.dst = some d → VR γ' (T.env d) u) (hnew : ∀ p, p ∈ stageNew C all s T → p.1 ≠ i → γ'.rho p.2 = γ.rho p.2) : Inv C all ro r γ0 H0 w0 old effs s T (listed.setIfInBounds i true) (a.put o.dst u) w' γ' := by
  have hilt : i < listed.size := by rw [hI.size]; exact (List.getElem?_eq_some_iff.1 hi).1
  have hset : ∀ j, XS (listed.setIfInBounds i true) j ↔ j = i ∨ XS listed j := fun j => XS_set hilt
  refine ⟨hH, hI.gr.mono hle, hI.ro.mono hle, hE, ?_, fun t ht => ?_, ?_, fun p hp hn => ?_, fun j o' hj ho' p hp => ?_, fun j hj => ?_, fun j hj => (hset j).2 (.inr (hI.effX j hj)), by simp [hI.size], hI.dnt⟩
  · rw [← hI.nt]; unfold Act.put; cases o.dst <;> simp
  · by_cases hdt : o.dst = some t
    · have hlt : t < a.tmps.size := by rw [hI.nt]; exact hI.dnt i o t hd hi hdt
      rw [hdt]
      simpa [Act.put, Array.getD_eq_getD_getElem?, hlt] using hu t hdt
    · have h1 : (a.put o.dst u).tmps.getD t undef = a.tmps.getD t undef := by
        unfold Act.put
        cases hdo : o.dst with
        | none => rfl
        | some d =>
          have : d ≠ t := fun e => hdt (by rw [hdo, e])
          simp [Array.getD_eq_getD_getElem?, Array.getElem?_setIfInBounds_ne this]
      rw [h1]
      refine (hI.env t fun j o' hj ho' hdj => ?_).mono hle
      rcases (hset j).1 (ht j o' hj ho' hdj) with rfl | h
      · rw [hi] at ho'; cases ho'; exact absurd hdj hdt
      · exact h
  · unfold Act.put; cases o.dst <;> exact hI.defs.mono hle
  · have hne : p.1 ≠ i := fun e => hn ((hset p.1).2 (.inl e))
    obtain ⟨k1, k2, k3⟩ := hI.news p hp fun h => hn ((hset p.1).2 (.inr h))
    exact ⟨by rw [hnew p hp hne]; exact k1, k2, k3⟩
  · rcases (hset j).1 hj with rfl | h
    · rw [hi] at ho'; cases ho'; exact (hset p).2 (.inr (hpd p hp))
    · exact (hset p).2 (.inr (hI.down j o' h ho' p hp))
  · rcases (hset j).1 hj with rfl | h
    · exact .inl hd
    · exact hI.xs j h

end
end Go.AM

/-
  THE ABSTRACT MACHINE: regions that draw their order, sixth part: the step of an operation without an effect.
-/
namespace Go.AM
section
variable {C : Ctx} {P : Program}

theorem snd_inj : ∀ {l : List (Nat × Nat)}, (l.map (·.2)).Nodup → ∀ x y, x ∈ l → y ∈ l → x.2 = y.2 → x = y
  | [], _, x, y, hx, _, _ => by cases hx
  | z :: l, hn, x, y, hx, hy, hxy => by
    rw [List.map_cons] at hn
    obtain ⟨a1, a2⟩ := List.nodup_cons.1 hn
    by_cases hxz : x = z
    · by_cases hyz : y = z
      · rw [hxz, hyz]
      · have hy' : y ∈ l := (List.mem_cons.1 hy).resolve_left hyz
        exact absurd (List.mem_map.2 ⟨y, hy', by rw [← hxy, hxz]⟩) a1
    · have hx' : x ∈ l := (List.mem_cons.1 hx).resolve_left hxz
      by_cases hyz : y = z
      · exact absurd (List.mem_map.2 ⟨x, hx', by rw [hxy, hyz]⟩) a1
      · exact snd_inj a2 x y hx' ((List.mem_cons.1 hy).resolve_left hyz) hxy

open Classical in
theorem step_n (hC : CtxR C P) {all : List Oper} {A : List (Nat × Nat)} {S : List Stg} (hS : Sta all A S) {pre old effs : List Nat} {prev : Option Nat} {s : Stg} {l : List Stg} (hP : Pos S pre old effs prev s l) {ro r : Option Nat} {γ0 γ : Gh} {H0 : Heap} {w0 w : World} {T : St} {listed : Array Bool} {a : Act}
    (hI : Inv C all ro r γ0 H0 w0 old effs s T listed a w γ) {i : Nat} {o : Oper} (hi : all[i]? = some o) (hd : i ∈ old ++ s.ns) (hre : i ∈ s.re) (hn : ¬ XS listed i) (hpd : ∀ p, p ∈ edgesOf o → XS listed p) {base : Nat} {nw : List (Nat × Nat)} (hstage : stageOk C all s base nw T = true)
    {K : Act → World → Prop} {Q : Exit → Act → World → Prop} (hK : ∀ a' w' γ', Inv C all ro r γ0 H0 w0 old effs s T (listed.setIfInBounds i true) a' w' γ' → K a' w') : wpOpIn (fen r) 0 P all.toArray Q i K a w := by
  have hrd := reads_ok hS hP hI hi hpd (.inl hd)
  simp only [stageOk, Bool.and_eq_true] at hstage
  obtain ⟨⟨hst, hnd⟩, _⟩ := hstage
  have hs := List.all_eq_true.1 hst i hre
  have hnd := nodupB_spec hnd
  unfold wpOpIn
  simp only [List.getElem?_toArray, hi]
  have same : ∀ (u : Value), (∀ d, o.dst = some d → VR γ (T.env d) u) → K (a.put o.dst u) w := fun u hu =>
    hK _ _ γ (hI.after hS hi hd hpd (.refl γ) hI.hp hI.ext hu fun _ _ _ => rfl)
  have hρ : ∀ x, VR γ ((fun x => if x ∈ o.op.operands then ev C T.env x else .bad) x) (a.eval x) := fun x => by
    by_cases hx : x ∈ o.op.operands
    · simp only [hx, if_true]
      exact evR1 hI.gr x fun t ht => hrd t (mem_looks (by rw [← ht]; exact hx))
    · simp only [hx, if_false]; exact .bad _
  have hcongr : nop C T.mu (fun x => if x ∈ o.op.operands then ev C T.env x else .bad) o.op T.hp = nop C T.mu (ev C T.env) o.op T.hp := nop_congr fun x hx => by simp [hx]
  have sound : ∀ res, nop C T.mu (ev C T.env) o.op T.hp = some res → NSound P γ w res (execOp a.eval o) ∧ ∀ c, o.op ≠ .defer c := fun res hres =>
    ⟨nop_sound hC hI.gr hI.hp hρ (by rw [hcongr]; exact hres), fun c hc => by rw [hc] at hres; cases hres⟩
  unfold still1 at hs
  simp only [hi] at hs
  cases hg : guardOk all T o with
  | none => rw [hg] at hs; simp at hs
  | some g =>
    have hw := guardR1 hrd hg
    rw [hg] at hs
    cases g with
    | false =>
      rw [hw]
      simp only [if_false, Bool.false_eq_true]
      refine ⟨fun _ _ => trivial, same undef fun d hdd => ?_⟩
      rw [hdd] at hs
      simp only at hs
      split at hs
      · rename_i hb; rw [hb]; exact .bad _
      · cases hs
    | true =>
      rw [hw]
      simp only [if_true]
      cases hdo : o.dst with
      | none =>
        rw [hdo] at hs
        simp only at hs
        split at hs
        · rename_i x hx
          obtain ⟨⟨v, h1, _⟩, h2⟩ := sound _ hx
          refine ⟨fun _ _ => trivial, ?_⟩
          rw [Oper.semAt_eq _ _ _ h2, h1]
          show K (a.put o.dst v) w
          exact same v fun d h => by rw [hdo] at h; cases h
        · cases hs
      | some d =>
        rw [hdo] at hs
        simp only at hs
        split at hs
        · rename_i x hx
          have hxe := eqA_eq hs
          obtain ⟨⟨v, h1, h3⟩, h2⟩ := sound _ hx
          refine ⟨fun _ _ => trivial, ?_⟩
          rw [Oper.semAt_eq _ _ _ h2, h1]
          show K (a.put o.dst v) w
          exact same v fun d' h => by rw [hdo] at h; cases h; rw [← hxe]; exact h3
        · rename_i f x hx
          split at hs
          · rename_i id hid
            simp only [Bool.and_eq_true, decide_eq_true_eq] at hs
            obtain ⟨⟨h4, h5⟩, h6⟩ := hs
            have hfe := eqA_eq h4
            have hbe := eqB_eq h5
            have hnewid : newId C all T i = some id := by
              unfold newId
              simp only [hi, Option.bind_some, hdo, hg, hx, hid]
            have hmem : (i, id) ∈ stageNew C all s T := List.mem_filterMap.2 ⟨i, hre, by rw [hnewid]; rfl⟩
            obtain ⟨n1, n2, n3⟩ := hI.news _ hmem hn
            obtain ⟨hsound, h2⟩ := sound _ hx
            obtain ⟨v, w', γ', k1, k2, k3, k4, k5⟩ := hsound T.hp id hI.hp n1 n3 hbe.symm
            refine ⟨fun _ _ => trivial, ?_⟩
            rw [Oper.semAt_eq _ _ _ h2, k1]
            show K (a.put o.dst v) w'
            refine hK _ _ γ' (hI.after hS hi hd hpd k3.le k2 (Ext.transc hI.ext k3 n2) (fun d' h => by rw [hdo] at h; cases h; rw [← hfe]; exact k4) fun p hp hne => k5 p.2 fun e => hne ?_)
            have := snd_inj hnd p (i, id) hp hmem e
            rw [this]
          · cases hs
        · cases hs

end
end Go.AM

/-
  THE ABSTRACT MACHINE: regions that draw their order, seventh part: from stage to stage.
-/
namespace Go.AM
section
variable {C : Ctx} {P : Program}

theorem newId_lt {all : List Oper} {T : St} {i id : Nat} (hs : still1 C all T i = true) (hn : newId C all T i = some id) : id < T.hp.next := by
  unfold newId at hn
  rw [Option.bind_eq_some_iff] at hn
  obtain ⟨o, ho, hn⟩ := hn
  rw [Option.bind_eq_some_iff] at hn
  obtain ⟨d, hd, hn⟩ := hn
  split at hn
  · rename_i f x hg hx
    unfold still1 at hs
    simp only [ho, hg, hd, hx, hn, Bool.and_eq_true, decide_eq_true_eq] at hs
    exact hs.2
  · cases hn

/-- The next stage begins. -/
theorem Inv.next {all : List Oper} {A : List (Nat × Nat)} {S : List Stg} (hS : Sta all A S) {ro r : Option Nat} {γ0 γ γ' : Gh} {H0 : Heap} {w0 w w' : World} {old effs : List Nat} {s s2 : Stg} {T T' T1 : St} {listed : Array Bool} {a : Act} {e : Nat} {o : Oper} {u : Value} {ds : List Deferred}
    (hI : Inv C all ro r γ0 H0 w0 old effs s T listed a w γ) (he : all[e]? = some o) (hne : e ∉ old ++ s.ns) (hpd : ∀ p, p ∈ edgesOf o → XS listed p) (hE : Ext γ T.hp w γ' T'.hp w') (hH : HR γ' T'.hp w')
    (hnt : T'.nt = T.nt) (hdefs : DefsR γ' T'.defs ds) (henv : ∀ t, o.dst ≠ some t → T'.env t = T.env t) (hu : ∀ d, o.dst = some d → d < T.nt ∧ VR γ' (T'.env d) u)
    (hns : ∀ i, i ∈ s2.ns → i ∉ old ++ s.ns ∧ i ∉ effs ∧ i ≠ e) (hrun : runNs C all s2.ns T' = some T1) (hok : stageOk C all s2 T'.hp.next (stageNew C all s T) T1 = true) :
    Inv C all ro r γ0 H0 w0 (old ++ s.ns) (e :: effs) s2 T1 (listed.setIfInBounds e true) { tmps := (a.put o.dst u).tmps, defers := ds } w' γ' := by
  have hilt : e < listed.size := by rw [hI.size]; exact (List.getElem?_eq_some_iff.1 he).1
  have hset : ∀ j, XS (listed.setIfInBounds e true) j ↔ j = e ∨ XS listed j := fun j => XS_set hilt
  obtain ⟨f1, f2, f3, f4, f5, f6, f7⟩ := runNs_frame s2.ns T' T1 hrun hH
  obtain ⟨g1, g2⟩ := runNs_dst s2.ns T' T1 hrun
  have hE0 := hI.ext.trans hE
  simp only [stageOk, Bool.and_eq_true] at hok
  obtain ⟨⟨hst, _⟩, hnw⟩ := hok
  refine ⟨f1, hI.gr.mono hE.le, hI.ro.mono hE.le, hE0.trans f2, ?_, fun t ht => ?_, by rw [f4]; exact hdefs, fun p hp hn => ?_, fun j o' hj ho' p hp => ?_, fun j hj => ?_, fun j hj => ?_, by simp [hI.size], fun j o' d hj ho' hd => ?_⟩
  · rw [f3, hnt, ← hI.nt]; unfold Act.put; cases o.dst <;> simp
  · -- the temporaries
    by_cases hin : ∃ j o', j ∈ s2.ns ∧ all[j]? = some o' ∧ o'.dst = some t
    · obtain ⟨j, o', hj, ho', hd⟩ := hin
      have hX := ht j o' (List.mem_append_right _ hj) ho' hd
      obtain ⟨m1, m2, m3⟩ := hns j hj
      rcases (hset j).1 hX with h | h
      · exact absurd h m3
      · rcases hI.xs j h with h | h
        · exact absurd h m1
        · exact absurd h m2
    · have hT1 : T1.env t = T'.env t := f7 t fun i o' hi ho' hd => hin ⟨i, o', hi, ho', hd⟩
      rw [hT1]
      by_cases hdt : o.dst = some t
      · obtain ⟨hlt, hv⟩ := hu t hdt
        rw [← hI.nt] at hlt
        rw [hdt]
        simpa [Act.put, Array.getD_eq_getD_getElem?, hlt] using hv
      · have h1 : (a.put o.dst u).tmps.getD t undef = a.tmps.getD t undef := by
          unfold Act.put
          cases hdo : o.dst with
          | none => rfl
          | some d =>
            have : d ≠ t := fun e => hdt (by rw [hdo, e])
            simp [Array.getD_eq_getD_getElem?, Array.getElem?_setIfInBounds_ne this]
        show VR γ' (T'.env t) ((a.put o.dst u).tmps.getD t undef)
        rw [h1, henv t hdt]
        refine (hI.env t fun j o' hj ho' hdj => ?_).mono hE.le
        rcases (hset j).1 (ht j o' (List.mem_append_left _ hj) ho' hdj) with rfl | h
        · exact absurd hj hne
        · exact h
  · -- the new blocks
    have hlt : p.2 < T1.hp.next := by
      obtain ⟨i, hi, hp'⟩ := List.mem_filterMap.1 hp
      obtain ⟨id, hid, rfl⟩ := Option.map_eq_some_iff.1 hp'
      exact newId_lt (List.all_eq_true.1 hst i hi) hid
    have hc := List.all_eq_true.1 hnw p hp
    simp only [Bool.or_eq_true, Bool.and_eq_true, decide_eq_true_eq] at hc
    rcases hc with ⟨_, hb⟩ | hc
    · exact ⟨hH.fresh _ hb, Nat.le_trans hE0.next hb, hlt⟩
    · have hmem : p ∈ stageNew C all s T := by simpa using hc
      obtain ⟨k1, k2, k3⟩ := hI.news p hmem fun h => hn ((hset p.1).2 (.inr h))
      exact ⟨by rw [hE.rhoN p.2 k3]; exact k1, k2, hlt⟩
  · rcases (hset j).1 hj with rfl | h
    · rw [he] at ho'; cases ho'; exact (hset p).2 (.inr (hpd p hp))
    · exact (hset p).2 (.inr (hI.down j o' h ho' p hp))
  · rcases (hset j).1 hj with rfl | h
    · exact .inr List.mem_cons_self
    · rcases hI.xs j h with h | h
      · exact .inl (List.mem_append_left _ h)
      · exact .inr (List.mem_cons_of_mem _ h)
  · rcases List.mem_cons.1 hj with rfl | hj
    · exact (hset j).2 (.inl rfl)
    · exact (hset j).2 (.inr (hI.effX j hj))
  · rw [g1, hnt]
    rcases List.mem_append.1 hj with hj | hj
    · exact hI.dnt j o' d hj ho' hd
    · rw [← hnt]; exact g2 j o' d hj ho' hd

end
end Go.AM

/-
  THE ABSTRACT MACHINE: regions that draw their order, last part: whatever order is drawn.
-/
namespace Go.AM
section
variable {C : Ctx} {P : Program}

theorem left_pos {n i : Nat} {listed : Array Bool} (hn : i < n) (h : ¬ XS listed i) : 0 < left n listed :=
  List.countP_pos_iff.2 ⟨i, List.mem_range.2 hn, by unfold XS at h; simpa using h⟩

/-- What is still to be run. -/
def tailRun (C : Ctx) (ex : Run) (ro : Option Nat) (all : List Oper) (s : Stg) (l : List Stg) (T : St) : Option (Ex × St) :=
  match s.e with
  | none => if l.isEmpty then some (.normal, T) else none
  | some e => effOp C ex ro all T e (drawRun C ex ro all (stageNew C all s T) l)

theorem Pos.next {S : List Stg} {pre old effs : List Nat} {prev : Option Nat} {s s2 : Stg} {l : List Stg} {e : Nat} (hP : Pos S pre old effs prev s (s2 :: l)) (hn : (ordOf S).Nodup) (he : s.e = some e) :
    Pos S (pre ++ (s.ns ++ [e])) (old ++ s.ns) (e :: effs) (some e) s2 l := by
  obtain ⟨n1, n2, n3, _⟩ := hP.ns_pre hn
  obtain ⟨m1, m2⟩ := n2 e he
  refine ⟨?_, fun i hi => ?_, fun i hi => ?_, fun i hi => ?_, fun i hi ho => ?_, fun i hi => ?_, fun p hp => ?_, fun h => (by cases h)⟩
  · rw [hP.split, he]; simp [ordOf]
  · simp only [List.mem_append, List.mem_singleton] at hi
    rcases hi with hi | hi | hi
    · rcases hP.pre1 i hi with h | h
      · exact .inl (List.mem_append_left _ h)
      · exact .inr (List.mem_cons_of_mem _ h)
    · exact .inl (List.mem_append_right _ hi)
    · exact .inr (by rw [hi]; exact List.mem_cons_self)
  · rcases List.mem_append.1 hi with h | h
    · exact List.mem_append_left _ (hP.old1 i h)
    · simp [h]
  · rcases List.mem_cons.1 hi with rfl | h
    · simp
    · exact List.mem_append_left _ (hP.eff1 i h)
  · rcases List.mem_cons.1 hi with rfl | h
    · rcases List.mem_append.1 ho with ho | ho
      · exact m1 (hP.old1 i ho)
      · exact m2 ho
    · rcases List.mem_append.1 ho with ho | ho
      · exact hP.disj i h ho
      · exact n1 i ho (hP.eff1 i h)
  · rcases hP.es i hi with h | h | h
    · exact .inl (List.mem_cons_of_mem _ h)
    · rw [he] at h; cases h; exact .inl List.mem_cons_self
    · rw [List.filterMap_cons] at h
      cases h2 : s2.e with
      | none => rw [h2] at h; exact .inr (.inr h)
      | some q =>
        rw [h2] at h
        rcases List.mem_cons.1 h with rfl | h
        · exact .inr (.inl rfl)
        · exact .inr (.inr h)
  · cases hp; exact List.mem_cons_self

theorem edges_mem {o : Oper} {listed : Array Bool} (h : ∀ e, e ∈ o.after → Region.binds .any e = true → listed.getD e.on false = true) : ∀ p, p ∈ edgesOf o → XS listed p := by
  intro p hp
  obtain ⟨e, he, rfl⟩ := List.mem_map.1 hp
  obtain ⟨h1, h2⟩ := List.mem_filter.1 he
  exact h e (by simpa using h1) h2

/-- When nothing more can be done, all is. -/
theorem draw_end {all : List Oper} {A : List (Nat × Nat)} {S : List Stg} (hS : Sta all A S) {ex : Run} {ro r : Option Nat} {e_f : Ex} {st_f : St} {γ0 γ : Gh} {H0 : Heap} {w0 w : World} {pre old effs : List Nat} {prev : Option Nat} {s : Stg} {l : List Stg} {T : St} {listed : Array Bool} {a : Act}
    (hP : Pos S pre old effs prev s l) (ht : tailRun C ex ro all s l T = some (e_f, st_f)) (hI : Inv C all ro r γ0 H0 w0 old effs s T listed a w γ) (hr : Region.ready .any all.toArray listed = []) : Post γ0 H0 w0 e_f st_f .normal a w := by
  obtain ⟨n1, n2, n3, _⟩ := hP.ns_pre hS.nd
  rcases progress (X := XS listed) (ordOf S) [] A hS.anc (fun p c h => by cases h) with h | ⟨i, hi, hn, o, ho, hp⟩
  · have hse : s.e = none := by
      cases hse : s.e with
      | none => rfl
      | some e =>
        obtain ⟨m1, m2⟩ := n2 e hse
        have hX := h e (by rw [hP.split, hse]; simp)
        rcases hI.xs e hX with h | h
        · rcases List.mem_append.1 h with h | h
          · exact absurd (hP.old1 e h) m1
          · exact absurd h m2
        · exact absurd (hP.eff1 e h) m1
    unfold tailRun at ht
    rw [hse] at ht
    simp only at ht
    split at ht
    · cases ht
      exact ⟨γ, ⟨hI.hp, hI.nt, fun t => hI.env t fun j o hj ho _ => h j (in_ord hS ho), hI.defs⟩, hI.ext, .normal⟩
    · cases ht
  · have : i ∈ Region.ready .any all.toArray listed := by
      rw [mem_ready]
      have hlt : i < listed.size := by rw [hI.size]; exact (List.getElem?_eq_some_iff.1 ho).1
      refine ⟨?_, o, by simpa using ho, fun e he hb => hp e.on (List.mem_map.2 ⟨e, List.mem_filter.2 ⟨by simpa using he, hb⟩, rfl⟩)⟩
      unfold XS at hn
      simpa [Array.getD_eq_getD_getElem?, hlt] using hn
    rw [hr] at this
    cases this

end
end Go.AM

/-
  THE ABSTRACT MACHINE: regions that draw their order: the effect of a stage; all of it.
-/
namespace Go.AM
section
variable {C : Ctx} {P : Program}

open Classical in
theorem step_e (hC : CtxR C P) (hD : DefS C P) {ex : Run} (hex : RunS C P ex) {all : List Oper} {A : List (Nat × Nat)} {S : List Stg} (hS : Sta all A S) {pre old effs : List Nat} {prev : Option Nat} {s : Stg} {l : List Stg} (hP : Pos S pre old effs prev s l) {ro r : Option Nat} {γ0 γ : Gh} {H0 : Heap} {w0 w : World} {T : St} {listed : Array Bool} {a : Act}
    (hI : Inv C all ro r γ0 H0 w0 old effs s T listed a w γ) {e_f : Ex} {st_f : St} {i : Nat} {o : Oper} (hi : all[i]? = some o) (he : s.e = some i) (hpd : ∀ p, p ∈ edgesOf o → XS listed p) {k : St → Option (Ex × St)} (ht : effOp C ex ro all T i k = some (e_f, st_f))
    {K : Act → World → Prop} (hK : ∀ γ' T' w' u, k T' = some (e_f, st_f) → Ext γ T.hp w γ' T'.hp w' → HR γ' T'.hp w' → T'.nt = T.nt → T'.defs = T.defs → (∀ t, o.dst ≠ some t → T'.env t = T.env t) → (∀ d, o.dst = some d → d < T.nt ∧ VR γ' (T'.env d) u) → K (a.put o.dst u) w') :
    wpOpIn (fen r) 0 P all.toArray (Post γ0 H0 w0 e_f st_f) i K a w := by
  have hrd := reads_ok hS hP hI hi hpd (.inr he)
  have hcong : ∀ x, x ∈ o.op.operands → ev C T.env x = ev C (fun t => if t ∈ looks all o then T.env t else .bad) x := fun x hx => by
    cases x with
    | tmp t => simp [ev, mem_looks (all := all) hx]
    | _ => rfl
  have hmask : ∀ t, VR γ ((fun t => if t ∈ looks all o then T.env t else .bad) t) (a.tmps.getD t undef) := fun t => by
    by_cases h : t ∈ looks all o
    · simp only [h, if_true]; exact hrd t h
    · simp only [h, if_false]; exact .bad _
  -- a value is put where it belongs
  have fin : ∀ (T0 T' : St) (x : AV) (γ' : Gh) (w' : World) (u : Value), T0.put o.dst x = some T' → k T' = some (e_f, st_f) → T0.env = T.env → T0.nt = T.nt → T0.defs = T.defs → Ext γ T.hp w γ' T0.hp w' → HR γ' T0.hp w' → VR γ' x u → K (a.put o.dst u) w' := by
    intro T0 T' x γ' w' u hp hk h1 h2 h3 h4 h5 h6
    obtain ⟨e1, e2, e3⟩ := put_env hp
    have hT : T'.hp = T0.hp := by rw [e1]
    refine hK γ' T' w' u hk (by rw [hT]; exact h4) (by rw [hT]; exact h5) (by rw [e1]; exact h2) (by rw [e1]; exact h3) (fun t hdt => by rw [e2 t hdt, h1]) fun d hd => ⟨?_, by rw [e3 d hd]; exact h6⟩
    unfold St.put at hp
    rw [hd] at hp
    simp only at hp
    split at hp
    · rename_i hlt; rw [← h2]; exact hlt
    · cases hp
  unfold effOp at ht
  rw [Option.bind_eq_some_iff] at ht
  obtain ⟨o', ho', ht⟩ := ht
  rw [hi] at ho'; cases ho'
  rw [Option.bind_eq_some_iff] at ht
  obtain ⟨g, hg, ht⟩ := ht
  have hw := guardR1 hrd hg
  unfold wpOpIn
  simp only [List.getElem?_toArray, hi]
  cases g with
  | false =>
    simp only [if_false, Bool.false_eq_true] at ht
    rw [Option.bind_eq_some_iff] at ht
    obtain ⟨T', h1, h2⟩ := ht
    rw [hw]
    simp only [if_false, Bool.false_eq_true]
    exact ⟨fun _ _ => trivial, fin T T' _ γ w undef h1 h2 rfl rfl rfl (.refl _ _ _) hI.hp (.bad _)⟩
  | true =>
    simp only [if_true] at ht
    rw [hw]
    simp only [if_true]
    by_cases heff : isEff o.op = true
    · rw [if_pos heff, Option.bind_eq_some_iff] at ht
      obtain ⟨res, hres, ht⟩ := ht
      rw [eop_congr hcong] at hres
      have hst : StR γ { T with env := fun t => if t ∈ looks all o then T.env t else .bad } a w := ⟨hI.hp, hI.nt, hmask, hI.defs⟩
      have key := eop_sound hC hD hex hres hI.gr hI.ro hst
      cases res with
      | val v H' =>
        rw [Option.bind_eq_some_iff] at ht
        obtain ⟨T', h1, h2⟩ := ht
        exact key _ _ fun γ' w' u c1 c2 c3 => fin { T with hp := H' } T' v γ' w' u h1 h2 rfl rfl rfl c3 c2 c1
      | dfr d => cases ht
      | pan v H' =>
        simp only [Option.some.injEq, Prod.mk.injEq] at ht
        obtain ⟨rfl, rfl⟩ := ht
        refine key _ _ fun γ' w' u c1 c2 c3 => ⟨γ', ⟨c2, hI.nt, fun t => ?_, hI.defs.mono c3.le⟩, hI.ext.trans c3, .panic c1⟩
        show VR γ' (badAll all T.env t) _
        unfold badAll
        split
        · exact .bad _
        · rename_i hno
          refine (hI.env t fun j oj hj hoj hd => absurd ?_ hno).mono c3.le
          exact List.any_eq_true.2 ⟨oj, List.mem_of_getElem? hoj, by simp [hd]⟩
    · rw [if_neg heff, Option.bind_eq_some_iff] at ht
      obtain ⟨T', h1, h2⟩ := ht
      unfold runN1 at h1
      simp only [hi, Option.bind_some, hg, heff, if_false, Bool.false_eq_true, if_true] at h1
      rw [Option.bind_eq_some_iff] at h1
      obtain ⟨res, hres, h1⟩ := h1
      have hnd : ∀ c, o.op ≠ .defer c := fun c hc => by rw [hc] at heff; exact heff rfl
      have hρ : ∀ x, VR γ (ev C (fun t => if t ∈ looks all o then T.env t else .bad) x) (a.eval x) := evR hI.gr hmask
      rw [nop_congr hcong] at hres
      have key := nop_sound hC hI.gr hI.hp hρ hres
      refine ⟨fun _ _ => trivial, ?_⟩
      rw [Oper.semAt_eq _ _ _ hnd]
      cases res with
      | v x =>
        obtain ⟨u, c1, c2⟩ := key
        rw [c1]
        exact fin T T' x γ w u h1 h2 rfl rfl rfl (.refl _ _ _) hI.hp c2
      | new f x =>
        obtain ⟨u, w', γ', c1, c2, c3, c4, _⟩ := key (T.hp.new x) T.hp.next (hI.hp.new x) (hI.hp.fresh _ (Nat.le_refl _)) (by simp [Heap.new]) (by simp [Heap.new])
        rw [c1]
        exact fin { T with hp := T.hp.new x } T' _ γ' w' u h1 h2 rfl rfl rfl ((Ext.newc hI.hp x).trans c3) c2 c4

end
end Go.AM

/-
  THE ABSTRACT MACHINE: regions that draw their order are sound.
-/
namespace Go.AM
section
variable {C : Ctx} {P : Program}

theorem draw_go (hC : CtxR C P) (hD : DefS C P) {ex : Run} (hex : RunS C P ex) {all : List Oper} {A : List (Nat × Nat)} {S : List Stg} (hS : Sta all A S) {ro r : Option Nat} {γ0 : Gh} {H0 : Heap} {w0 : World} {e_f : Ex} {st_f : St} :
    ∀ (fuel : Nat) (listed : Array Bool) (a : Act) (w : World) (γ : Gh) (pre old effs : List Nat) (prev : Option Nat) (s : Stg) (l : List Stg) (T : St) (base : Nat) (nw : List (Nat × Nat)), left all.length listed ≤ fuel → Pos S pre old effs prev s l → stagesOk A prev old (s :: l) = true →
      stageOk C all s base nw T = true → tailRun C ex ro all s l T = some (e_f, st_f) → Inv C all ro r γ0 H0 w0 old effs s T listed a w γ →
      wpAnyIn (fen r) 0 P .any all.toArray (Post γ0 H0 w0 e_f st_f) fuel listed a w := by
  intro fuel
  induction fuel with
  | zero =>
    intro listed a w γ pre old effs prev s l T base nw hf hP hst hok ht hI
    have hr : Region.ready .any all.toArray listed = [] := by
      cases hr : Region.ready .any all.toArray listed with
      | nil => rfl
      | cons i rs =>
        have hi : i ∈ Region.ready .any all.toArray listed := by rw [hr]; exact List.mem_cons_self
        rw [mem_ready] at hi
        obtain ⟨h0, o, ho, _⟩ := hi
        have ho : all[i]? = some o := by simpa using ho
        have hn : ¬ XS listed i := by
          unfold XS
          have hlt : i < listed.size := by rw [hI.size]; exact (List.getElem?_eq_some_iff.1 ho).1
          simpa [Array.getD_eq_getD_getElem?, hlt] using h0
        have := left_pos (List.getElem?_eq_some_iff.1 ho).1 hn
        omega
    exact ⟨hr, draw_end hS hP ht hI hr⟩
  | succ fuel ih =>
    intro listed a w γ pre old effs prev s l T base nw hf hP hst hok ht hI
    refine ⟨fun hr => draw_end hS hP ht hI hr, fun i hi => ?_⟩
    rw [mem_ready] at hi
    obtain ⟨h0, o, ho, hpd⟩ := hi
    have ho : all[i]? = some o := by simpa using ho
    have hil := (List.getElem?_eq_some_iff.1 ho).1
    have hlt : i < listed.size := by rw [hI.size]; exact hil
    have hn : ¬ XS listed i := by
      unfold XS
      simpa [Array.getD_eq_getD_getElem?, hlt] using h0
    have hpd := edges_mem hpd
    have hleft : left all.length (listed.setIfInBounds i true) ≤ fuel := by have := left_set hil hlt hn; omega
    rcases ready_where hS hP hst hI.down hI.xs ho hn hpd hI.effX with ⟨hd, hre⟩ | he
    · exact step_n hC hS hP hI ho hd hre hn hpd hok fun a' w' γ' hI' => ih _ a' w' γ' pre old effs prev s l T base nw hleft hP hst hok ht hI'
    · have ht' := ht
      unfold tailRun at ht
      rw [he] at ht
      simp only at ht
      obtain ⟨n1, n2, n3, _⟩ := hP.ns_pre hS.nd
      obtain ⟨m1, m2⟩ := n2 i he
      have hne : i ∉ old ++ s.ns := fun h => by
        rcases List.mem_append.1 h with h | h
        · exact m1 (hP.old1 i h)
        · exact m2 h
      refine step_e hC hD hex hS hP hI ho he hpd ht fun γ' T' w' u hk hE hH hnt hdefs henv hu => ?_
      cases l with
      | nil => cases hk
      | cons s2 l2 =>
        rw [drawRun, Option.bind_eq_some_iff] at hk
        obtain ⟨T1, hrun, hk⟩ := hk
        split at hk
        · rename_i hok2
          have hst2 : stagesOk A (some i) (old ++ s.ns) (s2 :: l2) = true := by
            unfold stagesOk at hst
            simp only [Bool.and_eq_true, he] at hst
            exact hst.2
          have hns : ∀ j, j ∈ s2.ns → j ∉ old ++ s.ns ∧ j ∉ effs ∧ j ≠ i := fun j hj => by
            obtain ⟨q1, q2, q3⟩ := n3 j (by simp [ordOf, hj])
            refine ⟨fun h => ?_, fun h => q1 (hP.eff1 j h), fun h => q3 (by rw [he, h])⟩
            rcases List.mem_append.1 h with h | h
            · exact q1 (hP.old1 j h)
            · exact q2 h
          have hI2 := Inv.next (ds := (a.put o.dst u).defers) hS hI ho hne hpd hE hH hnt (by rw [hdefs]; have := hI.defs.mono hE.le; unfold Act.put; cases o.dst <;> exact this) henv hu hns hrun hok2
          exact ih _ _ w' γ' _ _ _ _ s2 l2 T1 _ _ hleft (hP.next hS.nd he) hst2 hok2 hk hI2
        · cases hk

theorem draw_sound (hC : CtxR C P) (hD : DefS C P) {ex : Run} (hex : RunS C P ex) : DrawS C P ex := by
  intro ro r ops S st e st' γ a w id hok h hg hro hst
  unfold dOK at hok
  split at hok
  · cases hok
  · rename_i A hA
    simp only [Bool.and_eq_true] at hok
    obtain ⟨⟨⟨⟨h1, h2⟩, h3⟩, h4⟩, h5⟩ := hok
    have hS : Sta ops.toList A S := ⟨hA, nodupB_spec h1, fun i hi => by simpa using List.all_eq_true.1 h2 i (List.mem_range.2 hi), nodupB_spec h3, fun i j hi hj => List.all_eq_true.1 (List.all_eq_true.1 h5 i hi) j hj⟩
    cases S with
    | nil => cases h
    | cons s l =>
      rw [drawRun, Option.bind_eq_some_iff] at h
      obtain ⟨T1, hrun, h⟩ := h
      split at h
      · rename_i hok2
        refine wpIn_region_any hC.mixed ?_
        have hw' : HR γ st.hp { w with drawn := w.drawn + 1 } := hst.hp.of_heap rfl
        obtain ⟨f1, f2, f3, f4, f5, f6, f7⟩ := runNs_frame s.ns st T1 hrun hw'
        obtain ⟨g1, g2⟩ := runNs_dst s.ns st T1 hrun
        have hE : Ext γ st.hp w γ T1.hp { w with drawn := w.drawn + 1 } := (Ext.of_heap (γ := γ) (H := st.hp) (w := w) (w' := { w with drawn := w.drawn + 1 }) rfl).trans f2
        have hX : ∀ i, ¬ XS (Array.replicate ops.size false) i := fun i h => by
          unfold XS at h
          rw [Array.getD_eq_getD_getElem?] at h
          by_cases hi : i < ops.size <;> simp [hi] at h
        have hsize : ops.toList.toArray.size = ops.size := by simp
        have key := draw_go hC hD hex hS (ro := ro) (r := r) (γ0 := γ) (H0 := st.hp) (w0 := w) (e_f := e) (st_f := st') ops.size (Array.replicate ops.size false) a { w with drawn := w.drawn + 1 } γ [] [] [] none s l T1 st.hp.next []
          (by
            have : left ops.toList.length (Array.replicate ops.size false) ≤ (List.range ops.toList.length).length := List.countP_le_length
            simpa using this)
          ⟨by simp [ordOf], fun i h => (by cases h), fun i h => (by cases h), fun i h => (by cases h), fun i h => (by cases h), fun i h => by
            rw [List.filterMap_cons] at h
            cases hse : s.e with
            | none => rw [hse] at h; exact .inr (.inr h)
            | some q =>
              rw [hse] at h
              rcases List.mem_cons.1 h with rfl | h
              · exact .inr (.inl rfl)
              · exact .inr (.inr h), fun p h => (by cases h), fun _ => rfl⟩ h4 hok2 h
          ⟨f1, hg, hro, hE, by rw [f3]; exact hst.nt, fun t ht => by
            rw [f7 t fun i o hi ho hd => hX i (ht i o (by simpa using hi) ho hd)]
            exact hst.env t, by rw [f4]; exact hst.defs, fun p hp _ => by
            simp only [stageOk, Bool.and_eq_true] at hok2
            obtain ⟨⟨k1, _⟩, k2⟩ := hok2
            have hlt : p.2 < T1.hp.next := by
              obtain ⟨i, hi, hp'⟩ := List.mem_filterMap.1 hp
              obtain ⟨id, hid, rfl⟩ := Option.map_eq_some_iff.1 hp'
              exact newId_lt (List.all_eq_true.1 k1 i hi) hid
            have hc := List.all_eq_true.1 k2 p hp
            simp only [Bool.or_eq_true, Bool.and_eq_true, decide_eq_true_eq] at hc
            rcases hc with ⟨_, hb⟩ | hc
            · exact ⟨hst.hp.fresh _ hb, hb, hlt⟩
            · simp at hc, fun j o h => absurd h (hX j), fun i h => absurd h (hX i), fun i h => (by cases h), by simp, fun j o d hj ho hd => by rw [g1]; exact g2 j o d (by simpa using hj) ho hd⟩
        simpa using key
      · cases h

/-- THE INTERPRETER IS SOUND, draws and all. -/
theorem call_sound' (hC : CtxR C P) (hD : DefS C P) {γ : Gh} {H : Heap} {w : World} {n f : Nat} {args : List AV} {us : List Value} {r : CR} {H' : Heap} (h : call C n f args H = some (r, H')) (hg : GR C γ) (hH : HR γ H w) (ha : VRs γ args us) :
    CallsIn Fence.wide 0 P f us.toArray w (CPost γ H w r H') := call_sound hC hD (fun _ hex => draw_sound hC hD hex) h hg hH ha

end
end Go.AM

/-
  THE ABSTRACT MACHINE: deferred calls that may recover are sound.
-/
namespace Go.AM

inductive MdS (γ : Gh) : Md → FrameMode → Prop where
  | returning : MdS γ .returning .returning
  | panicking {v : AV} {u : Value} (h : VR γ v u) : MdS γ (.panicking v) (.panicking [{ v := u, recovered := false }])
  | recovered {v : AV} {u : Value} (h : VR γ v u) : MdS γ (.recovered v) (.panicking [{ v := u, recovered := true }])

theorem MdS.mono {γ γ' : Gh} (hle : γ.Le γ') {u : Md} {m : FrameMode} (h : MdS γ u m) : MdS γ' u m := by
  cases h with
  | returning => exact .returning
  | panicking h => exact .panicking (h.mono hle)
  | recovered h => exact .recovered (h.mono hle)

section
variable {C : Ctx} {P : Program}

/-- What holds behind a part of a deferred call's body. -/
def PostS (γ : Gh) (H : Heap) (w : World) (c₀ : Frame) (cs : List Frame) (e : Ex) (st' : St) (u' : Md) : Exit → Act → List Frame → World → Prop :=
  fun e' a' cs' w' => ∃ γ' m', StR γ' st' a' w' ∧ Ext γ H w γ' st'.hp w' ∧ ExR γ' e e' ∧ MdS γ' u' m' ∧ cs' = { c₀ with mode := m' } :: cs

theorem dops_sound (hC : CtxR C P) {all : List Oper} {c₀ : Frame} {cs : List Frame} {st1 : St} {u1 : Md} {γ0 : Gh} {H0 : Heap} {w0 : World} : ∀ (l : List Oper) (k : Nat) (_ : ∀ j, l[j]? = all[k + j]?) (st : St) (u : Md) (m : FrameMode) (a : Act) (γ : Gh) (w : World),
    dops C all l st u = some (st1, u1) → GR C γ → StR γ st a w → Ext γ0 H0 w0 γ st.hp w → MdS γ u m →
    wpOpsSIn (fen none) 0 P all.toArray (PostS γ0 H0 w0 c₀ cs .normal st1 u1) (List.range' k l.length) a ({ c₀ with mode := m } :: cs) w
  | [], k, _, st, u, m, a, γ, w, h, hg, hst, hE, hm => by
    cases h
    exact ⟨γ, m, hst, hE, .normal, hm, rfl⟩
  | o :: l, k, hk, st, u, m, a, γ, w, h, hg, hst, hE, hm => by
    have h0 : all.toArray[k]? = some o := by simpa using (hk 0).symm
    have hk' : ∀ j, l[j]? = all[k + 1 + j]? := fun j => by have := hk (j + 1); rw [List.getElem?_cons_succ] at this; rw [this]; congr 1; omega
    rw [dops, Option.bind_eq_some_iff] at h
    obtain ⟨g, hgd, h⟩ := h
    have hw := guardR hst hgd
    rw [List.length_cons, List.range'_succ]
    simp only [wpOpsSIn, h0]
    refine ⟨fun _ _ => trivial, ?_⟩
    rw [hw]
    cases g with
    | false =>
      simp only [if_false, Bool.false_eq_true] at h ⊢
      rw [Option.bind_eq_some_iff] at h
      obtain ⟨st2, h2, h3⟩ := h
      obtain ⟨d1, d2⟩ := hst.put (u := undef) (.bad _) h2
      exact dops_sound hC l (k + 1) hk' st2 u m _ γ w h3 hg d1 (by rw [d2]; exact hE) hm
    | true =>
      simp only [if_true] at h ⊢
      rw [Option.bind_eq_some_iff] at h
      obtain ⟨⟨v, u2, H2⟩, h1, h⟩ := h
      rw [Option.bind_eq_some_iff] at h
      obtain ⟨st2, h2, h3⟩ := h
      unfold dop at h1
      split at h1
      · rename_i he
        have hrun : (execOp a.eval o).run P w = .ok .recover w := by simp only [execOp, he]; simp [resolve, invoke, builtin]
        simp only [hrun]
        cases hm with
        | returning =>
          simp only [Option.some.injEq, Prod.mk.injEq] at h1
          obtain ⟨rfl, rfl, rfl⟩ := h1
          obtain ⟨d1, d2⟩ := hst.put (u := .nilIface) .nilIface h2
          simp only [recoverD]
          exact dops_sound hC l (k + 1) hk' st2 _ _ _ γ w h3 hg d1 (by rw [d2]; exact hE) .returning
        | panicking hv =>
          simp only [Option.some.injEq, Prod.mk.injEq] at h1
          obtain ⟨rfl, rfl, rfl⟩ := h1
          obtain ⟨d1, d2⟩ := hst.put hv h2
          simp only [recoverD]
          exact dops_sound hC l (k + 1) hk' st2 _ _ _ γ w h3 hg d1 (by rw [d2]; exact hE) (.recovered hv)
        | recovered hv =>
          simp only [Option.some.injEq, Prod.mk.injEq] at h1
          obtain ⟨rfl, rfl, rfl⟩ := h1
          obtain ⟨d1, d2⟩ := hst.put (u := .nilIface) .nilIface h2
          simp only [recoverD]
          exact dops_sound hC l (k + 1) hk' st2 _ _ _ γ w h3 hg d1 (by rw [d2]; exact hE) (.recovered hv)
      · rename_i t p x he
        obtain ⟨H', hs, h1⟩ := Option.map_eq_some_iff.1 h1
        cases h1
        have hρ := evR (a := a) hg hst.env
        obtain ⟨w', k1, k2, k3⟩ := storeA_sound hC hst.hp (hρ p) (hρ x) hs
        have hrun : (execOp a.eval o).run P w = .ok .skip w' := by simp only [execOp, he]; simp [k1]
        simp only [hrun]
        have h2' : ({ st with hp := H2 } : St).put o.dst .bad = some st2 ∨ True := .inr trivial
        obtain ⟨d1, d2⟩ := (hst.mono k3.le k2).put (u := undef) (VRs.tuple VRs.nil) h2
        exact dops_sound hC l (k + 1) hk' st2 _ m _ γ w' h3 hg d1 (by rw [d2]; exact hE.trans k3) hm
      · obtain ⟨res, hres, h1⟩ := Option.map_eq_some_iff.1 h1
        have key := nop_sound hC hg hst.hp (evR (a := a) hg hst.env) hres
        cases res with
        | v x =>
          cases h1
          obtain ⟨y, c1, c2⟩ := key
          simp only [c1]
          obtain ⟨d1, d2⟩ := hst.put c2 h2
          exact dops_sound hC l (k + 1) hk' st2 _ m _ γ w h3 hg d1 (by rw [d2]; exact hE) hm
        | new f x =>
          cases h1
          obtain ⟨y, w', γ', c1, c2, c3, c4, _⟩ := key (st.hp.new x) st.hp.next (hst.hp.new x) (hst.hp.fresh _ (Nat.le_refl _)) (by simp [Heap.new]) (by simp [Heap.new])
          simp only [c1]
          have hEn := (Ext.newc hst.hp x).trans c3
          obtain ⟨d1, d2⟩ := (hst.mono hEn.le c2).put c4 h2
          exact dops_sound hC l (k + 1) hk' st2 _ m _ γ' w' h3 (hg.mono hEn.le) d1 (by rw [d2]; exact hE.trans hEn) (hm.mono hEn.le)


theorem execD_sound (hC : CtxR C P) {c₀ : Frame} {cs : List Frame} : ∀ (c : Code) (st : St) (u : Md) (e : Ex) (st' : St) (u' : Md) (m : FrameMode) (a : Act) (γ : Gh) (w : World), execD C c st u = some (e, st', u') → GR C γ → StR γ st a w → MdS γ u m →
    c.wpSIn (fen none) 0 P (PostS γ st.hp w c₀ cs e st' u') a ({ c₀ with mode := m } :: cs) w := by
  intro c
  induction c with
  | skip =>
    intro st u e st' u' m a γ w h hg hst hm
    simp only [execD, Option.some.injEq, Prod.mk.injEq] at h
    obtain ⟨rfl, rfl, rfl⟩ := h
    exact wpSIn_of_wpIn rfl (wpIn_skip ⟨γ, m, hst, .refl _ _ _, .normal, hm, rfl⟩)
  | ret =>
    intro st u e st' u' m a γ w h hg hst hm
    simp only [execD, Option.some.injEq, Prod.mk.injEq] at h
    obtain ⟨rfl, rfl, rfl⟩ := h
    exact wpSIn_of_wpIn rfl (wpIn_ret ⟨γ, m, hst, .refl _ _ _, .ret, hm, rfl⟩)
  | region id ops draw =>
    intro st u e st' u' m a γ w h hg hst hm
    cases draw with
    | true => simp [execD] at h
    | false =>
      simp only [execD, if_false, Bool.false_eq_true] at h
      obtain ⟨⟨st1, u1⟩, h1, h⟩ := Option.map_eq_some_iff.1 h
      cases h
      refine wpSIn_region ?_
      have key := dops_sound hC (c₀ := c₀) (cs := cs) (γ0 := γ) (H0 := st.hp) (w0 := w) ops.toList 0 (fun j => by simp) st u m a γ w h1 hg hst (.refl _ _ _) hm
      rw [List.range_eq_range']
      simpa using key
  | seq x y ihx ihy =>
    intro st u e st' u' m a γ w h hg hst hm
    rw [execD, Option.bind_eq_some_iff] at h
    obtain ⟨⟨e1, st1, u1⟩, h1, h2⟩ := h
    have hx := ihx st u e1 st1 u1 m a γ w h1 hg hst hm
    refine wpSIn_seq fun b k hb hr hF hroom => ?_
    obtain ⟨e', a', cs', w', hl, hq, harr⟩ := hx b k hb hr hF hroom
    refine ⟨e', a', cs', w', hl, ?_, harr⟩
    obtain ⟨γ', m', k1, k2, k3, k4, k5⟩ := hq
    cases k3 with
    | normal =>
      subst k5
      have hy := ihy st1 u1 e st' u' m' a' γ' w' h2 (hg.mono k2.le) k1 k4
      intro b2 k2' hb2 hr2 hF2 hroom2
      obtain ⟨e'', a'', cs'', w'', hl', ⟨γ'', m'', q1, q2, q3, q4, q5⟩, harr'⟩ := hy b2 k2' hb2 hr2 hF2 hroom2
      exact ⟨e'', a'', cs'', w'', hl', ⟨γ'', m'', q1, k2.trans q2, q3, q4, q5⟩, harr'⟩
    | exit id => cases h2; exact ⟨γ', m', k1, k2, .exit id, k4, k5⟩
    | ret => cases h2; exact ⟨γ', m', k1, k2, .ret, k4, k5⟩
    | panic hv => cases h2; exact ⟨γ', m', k1, k2, .panic hv, k4, k5⟩
  | cond q x y ihx ihy =>
    intro st u e st' u' m a γ w h hg hst hm
    simp only [execD] at h
    have hv := evR (a := a) hg hst.env q
    split at h
    · rename_i hq; rw [hq] at hv; exact wpSIn_cond hv.bool_inv (by simpa using ihx st u e st' u' m a γ w h hg hst hm)
    · rename_i hq; rw [hq] at hv; exact wpSIn_cond hv.bool_inv (by simpa using ihy st u e st' u' m a γ w h hg hst hm)
    · cases h
  | _ => intro st u e st' u' m a γ w h; simp [execD] at h

end
end Go.AM

/-
  THE ABSTRACT MACHINE: deferred calls are sound; so is all of it.
-/
namespace Go.AM
section
variable {C : Ctx} {P : Program}

def unrec (u : Md) : Md := match u with | .recovered _ => .returning | u => u

theorem settleR {γ : Gh} {u : Md} {m : FrameMode} (h : MdS γ u m) : MdR γ (unrec u) (settle m) := by
  cases h with
  | returning => exact .returning
  | panicking h => exact .panicking h
  | recovered h => exact .returning

theorem def_sound (hC : CtxR C P) : DefS C P := by
  intro r f args us u m H H' u' γ w h hg hH ha hm
  unfold runDef at h
  rw [Option.bind_eq_some_iff] at h
  obtain ⟨G, hG, h⟩ := h
  rw [Option.bind_eq_some_iff] at h
  obtain ⟨c, hc, h⟩ := h
  split at h
  · rename_i hnt
    rw [Option.bind_eq_some_iff] at h
    obtain ⟨⟨e, st, u1⟩, h1, h⟩ := h
    have hl := ha.1
    have hst : StR γ (frameOf C f G args H) { tmps := us.toArray ++ Array.replicate (G.ntmps - us.toArray.size) undef, defers := [] } w := by
      refine ⟨hH, ?_, fun t => ?_, .nil⟩
      · simp only [frameOf, Array.size_append, Array.size_replicate, List.size_toArray]; omega
      · simp only [frameOf, envOf]
        cases hx : args[t]? with
        | none => exact .bad _
        | some x =>
          obtain ⟨v, hv, hr⟩ := ha.get hx
          have : t < us.length := (List.getElem?_eq_some_iff.1 hv).1
          simp only [Option.getD_some]
          rw [Array.getD_eq_getD_getElem?, Array.getElem?_append_left (by simpa using this)]
          simpa [hv] using hr
    have hms : MdS γ u m := by cases hm with | returning => exact .returning | panicking h => exact .panicking h
    show CallsDIn (fen none) 0 P f us.toArray m w _
    refine callsDIn_of_wpSIn (hC.fn f G hG).1 hc trivial fun c₀ cs hmode => ?_
    have key := execD_sound hC (c₀ := c₀) (cs := cs) c _ u e st u1 m _ γ w h1 hg hst hms
    have hc0 : ({ c₀ with mode := m } : Frame) = c₀ := by subst hmode; rfl
    rw [hc0] at key
    intro b k hb hr hF hroom
    obtain ⟨e', a', cs', w', hl', ⟨γ', m', k1, k2, k3, k4, k5⟩, harr⟩ := key b k hb hr hF hroom
    refine ⟨e', a', cs', w', hl', ?_, harr⟩
    have hE : Ext γ H w γ' st.hp w' := k2
    have fin : (if st.defs.isEmpty then (results1 C G st).map fun _ => (unrec u1, st.hp) else none) = some (u', H') → a'.defers = [] ∧ ∃ u₀, cs' = { c₀ with mode := u₀ } :: cs ∧ ∃ v, (results G a'.tmps).run P w' = .ok v w' ∧
        ∃ v', Ending.returned v = .returned v' ∧ ∃ γ', MdR γ' u' (settle u₀) ∧ HR γ' H' w' ∧ Ext γ H w γ' H' w' := by
      intro h
      split at h
      · rename_i hd
        obtain ⟨v, hv, h⟩ := Option.map_eq_some_iff.1 h
        obtain ⟨rfl, rfl⟩ := Prod.mk.inj h
        have hd0 : st.defs = [] := by simpa using hd
        obtain ⟨x, q1, q2⟩ := results_sound (st := st) hC k1.hp k1.env hv
        have hdf := k1.defs
        rw [hd0] at hdf
        refine ⟨?_, m', k5, x, q1, x, rfl, γ', settleR k4, k1.hp, hE⟩
        generalize a'.defers = ds at hdf
        cases hdf; rfl
      · cases h
    cases k3 with
    | normal => exact fin (by cases u1 <;> exact h)
    | ret => exact fin (by cases u1 <;> exact h)
    | exit id => cases h
    | panic hv => cases h
  · cases h

/-- THE INTERPRETER IS SOUND. -/
theorem sound_call (hC : CtxR C P) {γ : Gh} {H : Heap} {w : World} {n f : Nat} {args : List AV} {us : List Value} {r : CR} {H' : Heap} (h : call C n f args H = some (r, H')) (hg : GR C γ) (hH : HR γ H w) (ha : VRs γ args us) :
    CallsIn Fence.wide 0 P f us.toArray w (CPost γ H w r H') := call_sound' hC (def_sound hC) h hg hH ha

end
end Go.AM
