/- The abstract machine: effects, freezing, code and calls are sound; no condition. -/
import Derived.Test.YtdflicpplbkplaaGreatDoorAmA
import Derived.Deep.AppendSrc
import Derived.Deep.Upon
import Derived.Deep.MidRow
import Derived.RangeFuncRecord
import Derived.Laws.AppendOwn
import Derived.TacticsIn
import Derived.LoopNIn
import Derived.Scope
/-
  THE ABSTRACT MACHINE: what a write into owned cells does; ownership handed on or given up.
-/
namespace Go.AM

/-- Memory that changed in given cells alone. -/
structure Chg (S : Nat → Nat → Prop) (w w' : World) : Prop where
  size : w'.heap.size = w.heap.size
  out : ∀ B i, ¬ S B i → w'.cell? ⟨B, i, none⟩ = w.cell? ⟨B, i, none⟩
  dom : ∀ B i v, w.cell? ⟨B, i, none⟩ = some v → ∃ u, w'.cell? ⟨B, i, none⟩ = some u
  frz : ∀ B i, w'.frozen? ⟨B, i, none⟩ = w.frozen? ⟨B, i, none⟩
  blk : ∀ B, (∀ i, ¬ S B i) → w'.heap[B]? = w.heap[B]?
  kind : ∀ (B : Nat) (c : Array Value) (e : TypeId) (f : Nat × Nat), w.heap[B]? = some (.cells c e f) → ∃ c' : Array Value, w'.heap[B]? = some (.cells c' e f) ∧ c'.size = c.size
  os : w'.os = w.os ∧ w'.output = w.output

theorem Chg.refl (S : Nat → Nat → Prop) (w : World) : Chg S w w :=
  ⟨rfl, fun _ _ _ => rfl, fun _ _ v h => ⟨v, h⟩, fun _ _ => rfl, fun _ _ => rfl, fun _ c _ _ h => ⟨c, h, rfl⟩, rfl, rfl⟩

theorem setCells_kind (b : Nat) : ∀ (vs : List Value) (o : Nat) (w : World) (B : Nat) (c : Array Value) (e : TypeId) (f : Nat × Nat), w.heap[B]? = some (.cells c e f) → ∃ c' : Array Value, (w.setCells b o vs).heap[B]? = some (.cells c' e f) ∧ c'.size = c.size
  | [], _, _, _, c, _, _, h => ⟨c, h, rfl⟩
  | v :: r, o, w, B, c, e, f, h => by
    rw [World.setCells]
    have : ∃ c' : Array Value, (w.setCell ⟨b, o, none⟩ v).heap[B]? = some (.cells c' e f) ∧ c'.size = c.size := by
      simp only [World.setCell, Array.getElem?_modify, h]
      by_cases hb : b = B
      · exact ⟨c.setIfInBounds o v, by simp [hb], by simp⟩
      · exact ⟨c, by simp [hb], rfl⟩
    obtain ⟨c', h1, h2⟩ := this
    obtain ⟨c'', h3, h4⟩ := setCells_kind b r (o + 1) _ B c' e f h1
    exact ⟨c'', h3, h4.trans h2⟩

theorem setCells_size (b : Nat) : ∀ (vs : List Value) (o : Nat) (w : World), (w.setCells b o vs).heap.size = w.heap.size
  | [], _, _ => rfl
  | v :: r, o, w => by rw [World.setCells, setCells_size b r]; simp [World.setCell]

theorem setCells_os (b : Nat) : ∀ (vs : List Value) (o : Nat) (w : World), (w.setCells b o vs).os = w.os ∧ (w.setCells b o vs).output = w.output
  | [], _, _ => ⟨rfl, rfl⟩
  | v :: r, o, w => by rw [World.setCells]; exact ⟨(setCells_os b r (o + 1) _).1, (setCells_os b r (o + 1) _).2⟩

theorem Chg.setCells {S : Nat → Nat → Prop} (w : World) (B o : Nat) (vs : List Value) (h : ∀ j, j < vs.length → S B (o + j)) : Chg S w (w.setCells B o vs) where
  size := setCells_size B vs o w
  out B' i hn := World.cell?_setCells_out B vs o w _ fun e _ => by
    simp only at e ⊢
    subst e
    by_cases h1 : i < o
    · exact .inl h1
    · by_cases h2 : o + vs.length ≤ i
      · exact .inr h2
      · have := h (i - o) (by omega)
        rw [show o + (i - o) = i by omega] at this
        exact absurd this hn
  dom B' i v hv := Option.isSome_iff_exists.1 (World.isSome_setCells B vs o w _ (by rw [hv]; rfl))
  frz B' i := World.frozen?_setCells B vs o w _
  blk B' hn := by
    by_cases e : B' = B
    · subst e
      cases vs with
      | nil => rfl
      | cons v r => exact absurd (h 0 (by simp)) (hn _)
    · by_cases hlt : B' < w.heap.size
      · exact World.heap_setCells_other w B o vs hlt e
      · rw [Array.getElem?_eq_none (by rw [setCells_size]; omega), Array.getElem?_eq_none (by omega)]
  kind B' c e f hB := setCells_kind B vs o w B' c e f hB
  os := setCells_os B vs o w

variable {γ : Gh} {H : Heap} {w w' : World}

theorem own_cell (h : HR γ H w) {b B i : Nat} (ho : own γ H b B i) : (∃ v, w.cell? ⟨B, i, none⟩ = some v) ∧ w.frozen? ⟨B, i, none⟩ = false := by
  unfold own at ho
  split at ho
  · rename_i B' base ext cs hr hk
    obtain ⟨h1, h2, h3⟩ := ho
    subst h1
    have := (h.cells b _ _ _ _ hr hk).2.2 (i - base) (by omega)
    rwa [show base + (i - base) = i by omega] at this
  · rename_i B' base len cap sz s hr hk
    obtain ⟨h1, h2, h3⟩ := ho
    subst h1
    have := (h.toks b _ _ _ _ _ _ hr hk).2 (i - base) (by omega) (by omega)
    rwa [show base + (i - base) = i by omega] at this
  · exact ho.elim

theorem own_lt (h : HR γ H w) {b B i : Nat} (ho : own γ H b B i) : b < H.next := by
  by_cases hb : b < H.next
  · exact hb
  · unfold own at ho
    rw [h.fresh b (by omega)] at ho
    exact ho.elim

theorem own_lt_rho (h : HR γ H w) {b : Nat} {p : Pl} (hr : γ.rho b = some p) : b < H.next := by
  by_cases hb : b < H.next
  · exact hb
  · rw [h.fresh b (by omega)] at hr; cases hr

theorem cell_blk {w : World} {B i : Nat} {v : Value} (h : w.cell? ⟨B, i, none⟩ = some v) : ∃ (c : Array Value) (e : TypeId) (f : Nat × Nat), w.heap[B]? = some (.cells c e f) := by
  unfold World.cell? at h
  split at h
  · rename_i c e f hb; exact ⟨c, e, f, hb⟩
  · cases h

def Gh.pass (γ : Gh) (n : Nat) (q : Option Pl) (l : Nat → Nat → Option Value) : Gh :=
  ⟨fun j => if j = n then q else γ.rho j, fun B i => match l B i with | some v => some v | none => γ.lv B i, γ.esz⟩

/-- A write into what a block owns; the block stays a row, or gives up what it owned: to a new one, to what never changes again. -/
theorem HR.pass (h : HR γ H w) {b : Nat} (hb : b < H.next) (hno : ∀ r, γ.rho b ≠ some (.obj r)) (hw : Chg (fun B i => own γ H b B i) w w') {K : Heap} (hK : H.next ≤ K.next) {q : Option Pl} (hq : ∀ p, q = some p → H.next < K.next)
    (hk : ∀ j, j ≠ b → j < H.next → K.blk j = H.blk j) {l : Nat → Nat → Option Value}
    (hl : ∀ B i v, l B i = some v → own γ H b B i ∧ w'.cell? ⟨B, i, none⟩ = some v ∧ ¬ own (γ.pass H.next q l) K H.next B i)
    (hx : K.blk b = .dead ∨ (q = none ∧ (∀ B i, l B i = none) ∧ (∃ cs0, H.blk b = .cells cs0) ∧ ∃ cs, K.blk b = .cells cs ∧ ∀ B base ext, γ.rho b = some (.cells B base ext) → cs.length ≤ ext ∧
      ∀ (j : Nat) (x : AV), cs[j]? = some x → ∃ v, w'.cell? ⟨B, base + j, none⟩ = some v ∧ VR γ x v ∧ one x = true))
    (hc : ∀ B base ext cs, q = some (.cells B base ext) → K.blk H.next = .cells cs → cs.length ≤ ext ∧ (∀ (j : Nat) (x : AV), cs[j]? = some x → ∃ v, w'.cell? ⟨B, base + j, none⟩ = some v ∧ VR γ x v ∧ one x = true) ∧
      ∀ j, j < ext → own γ H b B (base + j))
    (ht : ∀ B base len cap sz s, q = some (.tok B base len cap sz) → K.blk H.next = .tok s → s = sz ∧ ∀ j, len * sz ≤ j → j < cap * sz → own γ H b B (base + j))
    (hqo : ∀ r, q ≠ some (.obj r)) :
    HR (γ.pass H.next q l) K w' ∧ Ext γ H w (γ.pass H.next q l) K w' := by
  have hrn : γ.rho H.next = none := h.fresh _ (Nat.le_refl _)
  have hln : ∀ B i v, l B i = some v → γ.lv B i = none := fun B i v hv => h.d2 b B i (hl B i v hv).1
  have hle : γ.Le (γ.pass H.next q l) := by
    refine ⟨fun j p hj => ?_, fun B i v hv => ?_, rfl⟩
    · have : j ≠ H.next := fun e => by rw [e, hrn] at hj; cases hj
      simp [Gh.pass, this, hj]
    · cases hlv : l B i with
      | none => simp [Gh.pass, hlv, hv]
      | some u => rw [hln B i u hlv] at hv; cases hv
  have hrho : ∀ j, j ≠ H.next → (γ.pass H.next q l).rho j = γ.rho j := fun j hj => by simp [Gh.pass, hj]
  have hrq : (γ.pass H.next q l).rho H.next = q := by simp [Gh.pass]
  have hlt : ∀ j p, j ≠ H.next → γ.rho j = some p → j < H.next := fun j p hj hp => by
    by_cases hjl : j < H.next
    · exact hjl
    · rw [h.fresh j (by omega)] at hp; cases hp
  -- what is owned behind
  have ownO' : ∀ j, j ≠ H.next → j ≠ b → ∀ B i, own (γ.pass H.next q l) K j B i → own γ H j B i := fun j hj hjb B i ho => by
    unfold own at ho ⊢
    rw [hrho j hj] at ho
    cases hp : γ.rho j with
    | none => simp [hp] at ho
    | some p => rw [hp, hk j hjb (hlt j p hj hp)] at ho; exact ho
  have hbn : b ≠ H.next := Nat.ne_of_lt hb
  have ownB : ∀ B i, own (γ.pass H.next q l) K b B i → own γ H b B i ∧ (∀ B i, l B i = none) ∧ q = none := fun B i ho => by
    rcases hx with hd | ⟨hq0, hl0, ⟨cs0, h0⟩, cs, hcs, _⟩
    · unfold own at ho; rw [hd] at ho; split at ho <;> first | exact ho.elim | (rename_i hh; cases hh)
    · refine ⟨?_, hl0, hq0⟩
      unfold own at ho ⊢
      rw [hrho b hbn, hcs] at ho
      rw [h0]
      split at ho
      · rename_i hr hk'; simp [hr]; exact ho
      · rename_i hr hk'; cases hk'
      · exact ho.elim
  have ownN : ∀ B i, own (γ.pass H.next q l) K H.next B i → own γ H b B i := fun B i ho => by
    unfold own at ho
    split at ho
    · rename_i B' base ext cs hr hk'
      rw [hrq] at hr
      obtain ⟨h1, h2, h3⟩ := ho
      subst h1
      have := (hc B base ext cs hr hk').2.2 (i - base) (by omega)
      rwa [show base + (i - base) = i by omega] at this
    · rename_i B' base len cap sz s hr hk'
      rw [hrq] at hr
      obtain ⟨h1, h2, h3⟩ := ho
      subst h1
      have := (ht B base len cap sz _ hr hk').2 (i - base) (by omega) (by omega)
      rwa [show base + (i - base) = i by omega] at this
    · exact ho.elim
  have own_any : ∀ j B i, own (γ.pass H.next q l) K j B i → ∃ j', own γ H j' B i := fun j B i ho => by
    by_cases hj : j = H.next
    · subst hj; exact ⟨b, ownN B i ho⟩
    · by_cases hjb : j = b
      · subst hjb; exact ⟨j, (ownB B i ho).1⟩
      · exact ⟨j, ownO' j hj hjb B i ho⟩
  have still : ∀ j, j ≠ b → ∀ B i, own γ H j B i → w'.cell? ⟨B, i, none⟩ = w.cell? ⟨B, i, none⟩ := fun j hjb B i ho => hw.out B i fun hb' => hjb (h.d1 j b B i ho hb')
  have there : ∀ j B i, own γ H j B i → (∃ v, w'.cell? ⟨B, i, none⟩ = some v) ∧ w'.frozen? ⟨B, i, none⟩ = false := fun j B i ho => by
    obtain ⟨⟨v, hv⟩, hf⟩ := own_cell h ho
    exact ⟨hw.dom B i v hv, by rw [hw.frz]; exact hf⟩
  have noBlk : ∀ j r, γ.rho j = some (.obj r) → ∀ i, ¬ own γ H b r i := fun j r hr i ho => by
    obtain ⟨⟨v, hv⟩, _⟩ := own_cell h ho
    obtain ⟨c, e, f, hh⟩ := cell_blk hv
    exact (h.objs j r hr).2.2 c e f hh
  refine ⟨⟨?_, ?_, ?_, ?_, ?_, ?_, ?_, ?_⟩, ⟨hle, by rw [hw.size]; exact Nat.le_refl _, hK, ?_, ?_, hw.kind, fun j B i ho _ => own_any j B i ho, ?_, ?_, fun j hj => hrho j (Nat.ne_of_lt hj), hw.os⟩⟩
  · intro j hj
    by_cases e : j = H.next
    · subst e
      rw [hrq]
      cases hq' : q with
      | none => rfl
      | some p => have := hq p hq'; omega
    · rw [hrho j e]; exact h.fresh j (by omega)
  · intro j B base ext cs hr hkj
    by_cases hj : j = H.next
    · subst hj
      rw [hrq] at hr
      obtain ⟨h1, h2, h3⟩ := hc B base ext cs hr hkj
      exact ⟨h1, fun i x hx' => let ⟨v, a1, a2, a3⟩ := h2 i x hx'; ⟨v, a1, a2.mono hle, a3⟩, fun i hi => there b _ _ (h3 i hi)⟩
    · rw [hrho j hj] at hr
      by_cases hjb : j = b
      · subst hjb
        rcases hx with hd | ⟨_, _, ⟨cs0, h0⟩, cs', hcs, hcont⟩
        · rw [hd] at hkj; cases hkj
        · rw [hcs] at hkj; cases hkj
          obtain ⟨h1, h2⟩ := hcont B base ext hr
          exact ⟨h1, fun i x hx' => let ⟨v, a1, a2, a3⟩ := h2 i x hx'; ⟨v, a1, a2.mono hle, a3⟩, fun i hi => there j _ _ ((own_cells hr h0 B (base + i)).2 ⟨rfl, by omega, by omega⟩)⟩
      · rw [hk j hjb (hlt j _ hj hr)] at hkj
        obtain ⟨h1, h2, h3⟩ := h.cells j B base ext cs hr hkj
        refine ⟨h1, fun i x hx' => ?_, fun i hi => there j _ _ ((own_cells hr hkj B (base + i)).2 ⟨rfl, by omega, by omega⟩)⟩
        obtain ⟨v, a1, a2, a3⟩ := h2 i x hx'
        have : i < ext := by have := (List.getElem?_eq_some_iff.1 hx').1; omega
        exact ⟨v, by rw [still j hjb B (base + i) ((own_cells hr hkj B (base + i)).2 ⟨rfl, by omega, by omega⟩)]; exact a1, a2.mono hle, a3⟩
  · intro j B base len cap sz s hr hkj
    by_cases hj : j = H.next
    · subst hj
      rw [hrq] at hr
      obtain ⟨h0, h3⟩ := ht B base len cap sz s hr hkj
      exact ⟨h0, fun i h1 h2 => there b _ _ (h3 i h1 h2)⟩
    · rw [hrho j hj] at hr
      by_cases hjb : j = b
      · subst hjb
        rcases hx with hd | ⟨_, _, _, cs', hcs, _⟩
        · rw [hd] at hkj; cases hkj
        · rw [hcs] at hkj; cases hkj
      · rw [hk j hjb (hlt j _ hj hr)] at hkj
        exact ⟨(h.toks j B base len cap sz s hr hkj).1, fun i h1 h2 => there j _ _ ((own_tok hr hkj B (base + i)).2 ⟨rfl, by omega, by omega⟩)⟩
  · intro j r hr
    have hj : j ≠ H.next := fun e => by subst e; rw [hrq] at hr; exact hqo r hr
    rw [hrho j hj] at hr
    have hjb : j ≠ b := fun e => by subst e; exact hno r hr
    obtain ⟨h1, h2, h3⟩ := h.objs j r hr
    have hh : w'.heap[r]? = w.heap[r]? := hw.blk r (noBlk j r hr)
    rw [hh, hk j hjb (hlt j _ hj hr), hw.size]
    exact ⟨h1, h2.mono hle, h3⟩
  · intro B i v hv
    cases hlv : l B i with
    | none =>
      have hv' : γ.lv B i = some v := by simpa [Gh.pass, hlv] using hv
      rw [hw.out B i fun ho => by rw [h.d2 b B i ho] at hv'; cases hv']
      exact h.lock B i v hv'
    | some u =>
      have : u = v := by simpa [Gh.pass, hlv] using hv
      subst this
      exact (hl B i u hlv).2.1
  · intro j j' B i h1 h2
    by_cases hj : j = H.next
    · subst hj
      by_cases hj' : j' = H.next
      · exact hj'.symm
      · by_cases hjb : j' = b
        · subst hjb
          obtain ⟨_, _, hq0⟩ := ownB B i h2
          unfold own at h1; rw [hrq, hq0] at h1; exact h1.elim
        · exact absurd (h.d1 _ _ B i (ownN B i h1) (ownO' j' hj' hjb B i h2)) (fun e => hjb e.symm)
    · by_cases hj' : j' = H.next
      · subst hj'
        by_cases hjb : j = b
        · subst hjb
          obtain ⟨_, _, hq0⟩ := ownB B i h1
          unfold own at h2; rw [hrq, hq0] at h2; exact h2.elim
        · exact absurd (h.d1 _ _ B i (ownN B i h2) (ownO' j hj hjb B i h1)) (fun e => hjb e.symm)
      · have a : own γ H j B i := by
          by_cases hjb : j = b
          · subst hjb; exact (ownB B i h1).1
          · exact ownO' j hj hjb B i h1
        have a' : own γ H j' B i := by
          by_cases hjb : j' = b
          · subst hjb; exact (ownB B i h2).1
          · exact ownO' j' hj' hjb B i h2
        exact h.d1 j j' B i a a'
  · intro j B i ho
    have hlnone : l B i = none := by
      cases hlv : l B i with
      | none => rfl
      | some v =>
        obtain ⟨h1, _, h3⟩ := hl B i v hlv
        by_cases hj : j = H.next
        · subst hj; exact absurd ho h3
        · by_cases hjb : j = b
          · subst hjb; rw [(ownB B i ho).2.1] at hlv; cases hlv
          · exact absurd (h.d1 _ _ B i h1 (ownO' j hj hjb B i ho)) (fun e => hjb e.symm)
    obtain ⟨j', hj'⟩ := own_any j B i ho
    simp [Gh.pass, hlnone, h.d2 j' B i hj']
  · intro j j' r h1 h2
    have hj : j ≠ H.next := fun e => by subst e; rw [hrq] at h1; exact hqo r h1
    have hj' : j' ≠ H.next := fun e => by subst e; rw [hrq] at h2; exact hqo r h2
    rw [hrho j hj] at h1
    rw [hrho j' hj'] at h2
    exact h.d3 j j' r h1 h2
  · exact fun B i _ hn => hw.out B i (hn b)
  · exact fun B _ hn _ => hw.blk B (fun i => hn b i)
  · intro j r hr _
    have hj : j ≠ H.next := fun e => by subst e; rw [hrq] at hr; exact absurd hr (hqo r)
    rwa [hrho j hj] at hr
  · intro B i v hv _
    cases hlv : l B i with
    | none => exact .inl (by simpa [Gh.pass, hlv] using hv)
    | some u => exact .inr ⟨b, (hl B i u hlv).1⟩

theorem Gh.pass_none (γ : Gh) (n : Nat) (h : γ.rho n = none) : γ.pass n none (fun _ _ => none) = γ := by
  cases γ
  simp only [Gh.pass, Gh.mk.injEq, and_true] at h ⊢
  funext j
  by_cases e : j = n
  · subst e; simp [h]
  · simp [e]

/-- A write into an owned row. -/
theorem HR.write (h : HR γ H w) {b B base ext : Nat} {cs cs' : List AV} (hr : γ.rho b = some (.cells B base ext)) (hk : H.blk b = .cells cs) {xs : List AV} {vs : List Value} {o : Nat} (hv : VRs γ xs vs) (h1 : ∀ x, x ∈ xs → one x = true)
    (hs : splice cs o xs = some cs') : HR γ (H.set b (.cells cs')) (w.setCells B (base + o) vs) ∧ Ext γ H w γ (H.set b (.cells cs')) (w.setCells B (base + o) vs) := by
  have hb : b < H.next := by
    by_cases hb : b < H.next
    · exact hb
    · rw [h.fresh b (by omega)] at hr; cases hr
  obtain ⟨c1, c2, c3⟩ := h.cells b B base ext cs hr hk
  have hlen := splice_length hs
  have hin : o + xs.length ≤ cs.length := by
    unfold splice at hs; split at hs
    · assumption
    · cases hs
  have hcs' : cs' = cs.take o ++ xs ++ cs.drop (o + xs.length) := by
    rw [splice, if_pos hin] at hs; cases hs; rfl
  have hxl := hv.1
  have hown : ∀ j, j < vs.length → own γ H b B (base + o + j) := fun j hj => (own_cells hr hk B _).2 ⟨rfl, by omega, by omega⟩
  have key := h.pass (w' := w.setCells B (base + o) vs) (b := b) hb (fun r e => by rw [hr] at e; cases e) (.setCells w B (base + o) vs hown) (K := H.set b (.cells cs')) (Nat.le_refl _) (q := none) (fun p e => by cases e)
    (fun j hj _ => by simp [Heap.set, hj]) (l := fun _ _ => none) (fun B i v e => by cases e)
    (.inr ⟨rfl, fun _ _ => rfl, ⟨cs, hk⟩, cs', by simp [Heap.set], fun B' base' ext' e => by
      rw [hr] at e; cases e
      refine ⟨by omega, fun j x hx => ?_⟩
      by_cases hj : o ≤ j ∧ j < o + xs.length
      · have hx' : xs[j - o]? = some x := by
          rw [hcs', List.append_assoc, List.getElem?_append_right (by simp; omega), List.getElem?_append_left (by simp; omega)] at hx
          simpa [Nat.min_eq_left (show o ≤ cs.length by omega)] using hx
        obtain ⟨v, hv1, hv2⟩ := hv.get hx'
        obtain ⟨hlt, hv3⟩ := List.getElem?_eq_some_iff.1 hv1
        refine ⟨v, ?_, hv2, h1 x (List.mem_of_getElem? hx')⟩
        have := World.cell?_setCells_in B vs (base + o) w (fun i hi => by
          obtain ⟨⟨u, hu⟩, _⟩ := own_cell h (hown i hi)
          rw [hu]; rfl) (j - o) hlt
        rw [show base + o + (j - o) = base + j by omega, hv3] at this
        exact this
      · have hx' : cs[j]? = some x := by
          rw [hcs', List.append_assoc] at hx
          by_cases hj1 : j < o
          · rw [List.getElem?_append_left (by simp; omega)] at hx
            simpa [List.getElem?_take, hj1] using hx
          · rw [List.getElem?_append_right (by simp; omega), List.getElem?_append_right (by simp; omega)] at hx
            rw [List.getElem?_drop] at hx
            rw [← hx]
            congr 1
            simp [Nat.min_eq_left (show o ≤ cs.length by omega)]
            omega
        obtain ⟨v, a1, a2, a3⟩ := c2 j x hx'
        refine ⟨v, ?_, a2, a3⟩
        rw [World.cell?_setCells_out B vs (base + o) w _ (fun _ _ => by simp only; omega)]
        exact a1⟩)
    (fun _ _ _ _ e => by cases e) (fun _ _ _ _ _ _ e => by cases e) (fun _ e => by cases e)
  rw [Gh.pass_none γ H.next (h.fresh _ (Nat.le_refl _))] at key
  exact key

/-- A block that nobody may use again. -/
theorem HR.kill (h : HR γ H w) {b : Nat} (hno : ∀ r, γ.rho b ≠ some (.obj r)) : HR γ (H.set b .dead) w ∧ Ext γ H w γ (H.set b .dead) w := by
  by_cases hb : b < H.next
  · have key := h.pass (w' := w) hb hno (.refl _ w) (K := H.set b .dead) (Nat.le_refl _) (q := none) (fun p e => by cases e) (fun j hj _ => by simp [Heap.set, hj]) (l := fun _ _ => none) (fun B i v e => by cases e)
      (.inl (by simp [Heap.set])) (fun _ _ _ _ e => by cases e) (fun _ _ _ _ _ _ e => by cases e) (fun _ e => by cases e)
    rw [Gh.pass_none γ H.next (h.fresh _ (Nat.le_refl _))] at key
    exact key
  · have hr : γ.rho b = none := h.fresh b (by omega)
    have hblk : ∀ j p, γ.rho j = some p → (H.set b .dead).blk j = H.blk j := fun j p hp => by
      have : j ≠ b := fun e => by subst e; rw [hr] at hp; cases hp
      simp [Heap.set, this]
    have hown : ∀ j B i, own γ (H.set b .dead) j B i ↔ own γ H j B i := fun j B i => by
      unfold own
      cases hp : γ.rho j with
      | none => simp
      | some p => rw [hblk j p hp]
    exact ⟨⟨h.fresh, fun j B base ext cs hr hk => h.cells j B base ext cs hr (by rw [← hblk j _ hr]; exact hk), fun j B base len cap sz s hr hk => h.toks j B base len cap sz s hr (by rw [← hblk j _ hr]; exact hk),
      fun j r hr => by rw [hblk j _ hr]; exact h.objs j r hr, h.lock, fun j j' B i h1 h2 => h.d1 j j' B i ((hown _ _ _).1 h1) ((hown _ _ _).1 h2), fun j B i h1 => h.d2 j B i ((hown _ _ _).1 h1), h.d3⟩,
      ⟨.refl γ, Nat.le_refl _, Nat.le_refl _, fun _ _ _ _ => rfl, fun _ _ _ _ => rfl, fun _ c _ _ h => ⟨c, h, rfl⟩, fun j B i ho _ => ⟨j, (hown _ _ _).1 ho⟩, fun _ _ h _ => h, fun _ _ _ h _ => .inl h, fun _ _ => rfl, rfl, rfl⟩⟩

end Go.AM

/-
  THE ABSTRACT MACHINE: the operations with an effect are sound, first part: stores; maps; iterators.
-/
namespace Go.AM

/-- What is asked of an operation with an effect that ends in a value. -/
def ESound (P : Program) (γ : Gh) (H : Heap) (w : World) (a : AV) (H' : Heap) (s : Sem Next) : Prop :=
  ∃ γ' w' n v, s.run P w = .ok n w' ∧ (n = .value v ∨ (n = .skip ∧ v = undef)) ∧ VR γ' a v ∧ HR γ' H' w' ∧ Ext γ H w γ' H' w'

section
variable {C : Ctx} {P : Program} {γ : Gh} {H : Heap} {w : World}

theorem esound_u {s : Sem Unit} {H' : Heap} (h : ∃ w', s.run P w = .ok () w' ∧ HR γ H' w' ∧ Ext γ H w γ H' w') : ESound P γ H w .bad H' (do s; pure .skip) :=
  let ⟨w', h1, h2, h3⟩ := h
  ⟨γ, w', .skip, undef, by simp [h1], .inr ⟨rfl, rfl⟩, .bad _, h2, h3⟩

theorem storeA_sound (hC : CtxR C P) (hH : HR γ H w) {t : Nat} {p v : AV} {vp vv : Value} (hp : VR γ p vp) (hv : VR γ v vv) {H' : Heap} (h : storeA C t p v H = some H') :
    ∃ w', (Instr.storeAt t vp vv).run P w = .ok () w' ∧ HR γ H' w' ∧ Ext γ H w γ H' w' := by
  rw [storeA, Option.bind_eq_some_iff] at h
  obtain ⟨s, hs, h⟩ := h
  split at h
  · rename_i b o
    split at h
    · rename_i hst
      obtain ⟨cs, hb, h⟩ := Option.bind_eq_some_iff.1 h
      obtain ⟨cs', hsp, rfl⟩ := Option.map_eq_some_iff.1 h
      have hb := cells?_some hb
      simp only [Bool.and_eq_true, decide_eq_true_eq] at hst
      obtain ⟨hst, hsz⟩ := hst
      obtain ⟨hvc, hone⟩ := hv.cells hst
      cases hp with
      | @ptr _ B base ext _ hr =>
        have hlen : vv.cells.size = s := by have := hvc.1; simp at this; omega
        have hin : o + (cellsOf v).length ≤ cs.length := by
          unfold splice at hsp; split at hsp
          · assumption
          · cases hsp
        obtain ⟨c1, c2, c3⟩ := hH.cells b B base ext cs hr hb
        obtain ⟨k1, k2⟩ := hH.write hr hb hvc hone hsp
        refine ⟨_, ?_, k1, k2⟩
        have hst := run_storeCells_cells (P := P) B (base + o) vv.cells.toList 0 w (fun j hj => by
            obtain ⟨⟨u, hu⟩, _⟩ := c3 (o + j) (by simp at hj; omega)
            rw [show base + o + 0 + j = base + (o + j) by omega, hu]; rfl) (fun j hj => by
            obtain ⟨_, hu⟩ := c3 (o + j) (by simp at hj; omega)
            rw [show base + o + 0 + j = base + (o + j) by omega]; exact hu) (fun u hu => by
            obtain ⟨j, hj⟩ := List.getElem?_of_mem hu
            have hj2 : j < (cellsOf v).length := by rw [hvc.1]; exact (List.getElem?_eq_some_iff.1 hj).1
            exact one_of (hvc.2 j _ u (List.getElem?_eq_getElem hj2) hj) (hone _ (List.getElem_mem hj2)))
        simp only [Nat.add_zero] at hst
        simp [Instr.storeAt, Instr.sureAddr, storeVar, sizeT_run hC hs, hlen, hst]
    · cases h
  · cases h

/-- A heap object set anew. -/
theorem HR.putObj (h : HR γ H w) {b r : Nat} (hr : γ.rho b = some (.obj r)) {x : AB} {o : Obj} (ho : ObjR γ x (some o)) (hno : ∀ (c : Array Value) (e : TypeId) (f : Nat × Nat), o ≠ .cells c e f)  :
    HR γ (H.set b x) (w.putObj r o) ∧ Ext γ H w γ (H.set b x) (w.putObj r o) := by
  obtain ⟨hlt, _, hnc⟩ := h.objs b r hr
  have hne : ∀ j, j ≠ b → (H.set b x).blk j = H.blk j := fun j hj => by simp [Heap.set, hj]
  have hown : ∀ j B i, own γ (H.set b x) j B i ↔ own γ H j B i := fun j B i => by
    by_cases hj : j = b
    · subst hj; simp [own, hr]
    · simp [own, hne j hj]
  have hblk : ∀ (B i : Nat) (v : Value), w.cell? ⟨B, i, none⟩ = some v → B ≠ r := fun B i v hv e => by
    obtain ⟨c, e', f, hh⟩ := cell_blk hv
    rw [e] at hh
    exact hnc c e' f hh
  have hheap : ∀ B, B ≠ r → (w.putObj r o).heap[B]? = w.heap[B]? := fun B hB => World.putObj_heap_other hB
  have hcell : ∀ B i, (w.putObj r o).cell? ⟨B, i, none⟩ = w.cell? ⟨B, i, none⟩ := fun B i => by
    by_cases hB : B = r
    · subst hB
      have e1 : (w.putObj B o).cell? ⟨B, i, none⟩ = none := by
        simp only [World.cell?, World.putObj_heap_same hlt]
        cases o <;> first | rfl | exact absurd rfl (hno _ _ _)
      have e2 : w.cell? ⟨B, i, none⟩ = none := by
        cases hc : w.cell? ⟨B, i, none⟩ with
        | none => rfl
        | some v => exact absurd rfl (hblk B i v hc)
      rw [e2, e1]
    · simp only [World.cell?, hheap B hB]
  have hfrz : ∀ B i, B ≠ r → (w.putObj r o).frozen? ⟨B, i, none⟩ = w.frozen? ⟨B, i, none⟩ := fun B i hB => by simp only [World.frozen?, hheap B hB]
  have hsize : (w.putObj r o).heap.size = w.heap.size := by simp [World.putObj]
  have hpair : ∀ B i, ((∃ v, w.cell? ⟨B, i, none⟩ = some v) ∧ w.frozen? ⟨B, i, none⟩ = false) → ((∃ v, (w.putObj r o).cell? ⟨B, i, none⟩ = some v) ∧ (w.putObj r o).frozen? ⟨B, i, none⟩ = false) := fun B i ⟨⟨v, h1⟩, h2⟩ =>
    ⟨⟨v, by rw [hcell]; exact h1⟩, by rw [hfrz B i (hblk B i v h1)]; exact h2⟩
  refine ⟨⟨h.fresh, ?_, ?_, ?_, fun B i v hv => by rw [hcell]; exact h.lock B i v hv, fun j j' B i h1 h2 => h.d1 j j' B i ((hown _ _ _).1 h1) ((hown _ _ _).1 h2), fun j B i h1 => h.d2 j B i ((hown _ _ _).1 h1), h.d3⟩,
    ⟨.refl γ, by rw [hsize]; exact Nat.le_refl _, Nat.le_refl _, fun B i _ _ => hcell B i, fun B _ _ hB => hheap B (fun e => hB ⟨b, by rw [e]; exact hr⟩), ?_, fun j B i ho _ => ⟨j, (hown _ _ _).1 ho⟩, fun _ _ h _ => h, fun _ _ _ h _ => .inl h, fun _ _ => rfl, rfl, rfl⟩⟩
  · intro j B base ext cs hj hk
    have hjb : j ≠ b := fun e => by subst e; rw [hr] at hj; cases hj
    rw [hne j hjb] at hk
    obtain ⟨h1, h2, h3⟩ := h.cells j B base ext cs hj hk
    exact ⟨h1, fun i x hx => let ⟨v, a1, a2⟩ := h2 i x hx; ⟨v, by rw [hcell]; exact a1, a2⟩, fun i hi => hpair _ _ (h3 i hi)⟩
  · intro j B base len cap sz s hj hk
    have hjb : j ≠ b := fun e => by subst e; rw [hr] at hj; cases hj
    rw [hne j hjb] at hk
    obtain ⟨h0, h3⟩ := h.toks j B base len cap sz s hj hk
    exact ⟨h0, fun i h1 h2 => hpair _ _ (h3 i h1 h2)⟩
  · intro j r' hj
    by_cases hjb : j = b
    · subst hjb
      rw [hr] at hj; cases hj
      refine ⟨by rw [hsize]; exact hlt, ?_, fun c e f => ?_⟩
      · rw [World.putObj_heap_same hlt]; simpa [Heap.set] using ho
      · rw [World.putObj_heap_same hlt]; simpa using hno c e f
    · have hrr : r' ≠ r := fun e => by subst e; exact hjb (h.d3 j b r' hj hr)
      obtain ⟨h1, h2, h3⟩ := h.objs j r' hj
      refine ⟨by rw [hsize]; exact h1, ?_, ?_⟩
      · rw [hheap r' hrr, hne j hjb]; exact h2
      · rw [hheap r' hrr]; exact h3
  · intro B c e f hB
    have : B ≠ r := fun e' => by subst e'; exact hnc c e f hB
    exact ⟨c, by rw [hheap B this]; exact hB, rfl⟩

def notCells : Obj → Bool
  | .cells _ _ _ => false
  | _ => true

theorem run_setObj' {r : Nat} {o o' : Obj} (h : w.heap[r]? = some o') (hn : notCells o' = true) : (setObj r o).run P w = .ok () (w.putObj r o) := by
  have : r < w.heap.size := (Array.getElem?_eq_some_iff.1 h).1
  simp only [setObj, Sem.run, h, World.putObj]
  cases o' <;> first | rfl | cases hn
theorem run_getObj' {r : Nat} {o : Obj} (h : w.heap[r]? = some o) (hn : notCells o = true) : (getObj r).run P w = .ok o w := by
  simp only [getObj, Sem.run, h]
  cases o <;> first | rfl | cases hn

theorem keyStays {old new : Value} (h : Instr.sameBits 10000 old new = true) : (Instr.keyThatStays old new).run P w = .ok new w := by
  unfold Instr.keyThatStays; rw [if_pos h]; rfl

theorem eqS_refl {a b : AV} (h : eqS a b = some true) : a = b := by
  unfold eqS at h
  split at h
  · simp at h; rw [h]
  · split at h
    · rename_i hk; simp at h; rw [hk, h]
    · cases h
  · simp at h; rw [h]
  · cases h

theorem eqSs_refl : ∀ {a b : List AV}, eqSs a b = some true → a = b
  | [], [], _ => rfl
  | [], _ :: _, h => by cases h
  | _ :: _, [], h => by cases h
  | x :: a, y :: b, h => by
    rw [eqSs, Option.bind_eq_some_iff] at h
    obtain ⟨p, hp, h⟩ := h
    obtain ⟨q, hq, h⟩ := Option.map_eq_some_iff.1 h
    simp only [Bool.and_eq_true] at h
    obtain ⟨rfl, rfl⟩ := h
    rw [eqS_refl hp, eqSs_refl hq]

theorem eqKey_refl {a b : AV} (h : eqKey a b = some true) : a = b := by
  unfold eqKey at h
  split at h
  · rw [eqSs_refl h]
  · cases h
  · exact eqS_refl h

theorem putK_find {k v : AV} : ∀ {es es2 : List (AV × AV)}, putK k v es = some es2 → ∃ r, findK k es = some r
  | [], _, _ => ⟨none, rfl⟩
  | e :: es, es2, h => by
    rw [putK, Option.bind_eq_some_iff] at h
    obtain ⟨b, hb, h⟩ := h
    rw [findK, hb]
    cases b with
    | true => exact ⟨_, rfl⟩
    | false =>
      simp at h
      obtain ⟨r, hr, _⟩ := h
      obtain ⟨r', hr'⟩ := putK_find hr
      exact ⟨r', by simpa using hr'⟩

theorem mapUpdateA_sound (hC : CtxR C P) (hH : HR γ H w) {t : Nat} {m k v : AV} {vm vk vv : Value} (hm : VR γ m vm) (hk : VR γ k vk) (hv : VR γ v vv) {H' : Heap} (h : mapUpdateA C t m k v H = some H') :
    ∃ w', (Instr.mapUpdate t vm vk vv).run P w = .ok () w' ∧ HR γ H' w' ∧ Ext γ H w γ H' w' := by
  rw [mapUpdateA, Option.bind_eq_some_iff] at h
  obtain ⟨i, hi, h⟩ := h
  rw [Option.bind_eq_some_iff] at h
  obtain ⟨ke, hke, h⟩ := h
  have hK := KR.of (hC.ti t i hi) (map?'_some hke)
  simp only [KR] at hK
  split at h
  · rename_i b
    split at h
    · rename_i hok
      rw [Option.bind_eq_some_iff] at h
      obtain ⟨es, hes, h⟩ := h
      obtain ⟨es2, hput, rfl⟩ := Option.map_eq_some_iff.1 h
      have hb := map?_some hes
      cases hm with
      | @map _ r hr =>
        obtain ⟨hlt, ho, _⟩ := hH.objs b r hr
        rw [hb] at ho
        obtain ⟨es', clock, hobj, hlen, hent⟩ := ho
        obtain ⟨hc, hf⟩ := key_sound hC hk hok
        obtain ⟨res, hfind⟩ := putK_find hput
        have hE : EntR γ es es'.toList := ⟨by simpa using hlen, fun i e e' he he' => hent i e e' he (by simpa using he')⟩
        obtain ⟨r', h1, h2, h3⟩ := hf es es'.toList res hE hfind w
        have hgo := run_getObj' (P := P) hobj rfl
        cases res with
        | none =>
          cases h2 rfl
          have hes2 := put_none hfind hput
          have hso := run_setObj' (P := P) (o := .map (es'.push { key := vk, val := vv, born := clock }) (clock + 1)) hobj rfl
          obtain ⟨k1, k2⟩ := hH.putObj hr (x := .map es2) (o := .map (es'.push { key := vk, val := vv, born := clock }) (clock + 1)) (by
            refine ⟨_, _, rfl, by rw [hes2]; simp [hlen], fun i e e' he he' => ?_⟩
            rw [hes2] at he
            by_cases hi' : i < es.length
            · rw [List.getElem?_append_left hi'] at he
              rw [Array.getElem?_push_lt (by omega)] at he'
              exact hent i e e' he (by rw [Array.getElem?_eq_getElem (by omega)]; exact he')
            · rw [List.getElem?_append_right (by omega)] at he
              have hz : i - es.length = 0 := by
                cases hz : i - es.length with
                | zero => rfl
                | succ n => rw [hz] at he; simp at he
              have : i = es'.size := by omega
              subst this
              rw [hz] at he
              simp at he he'
              subst he; subst he'
              exact ⟨hk, hv⟩) (fun _ _ _ e => by cases e)
          exact ⟨_, by simp [Instr.mapUpdate, run_under hK, hgo, hc, h1, hso], k1, k2⟩
        | some x =>
          obtain ⟨v', rfl, _⟩ := h3 x rfl
          obtain ⟨hes2, hix, ent, hent1, heq⟩ := put_some hfind hput
          have hix' : idxK k es < es'.size := by omega
          obtain ⟨hek, _⟩ := hent _ ent es'[idxK k es] hent1 (Array.getElem?_eq_getElem hix')
          obtain ⟨hkv, _⟩ := eqKey_val heq hk hek
          have hbits : Instr.sameBits 10000 (((es'[idxK k es]?).map (·.key)).getD vk) vk = true := by
            rw [Array.getElem?_eq_getElem hix']
            have hkk : ent.1 = k := (eqKey_refl heq).symm
            rw [hkk] at heq
            have := (eqKey_val heq hk hk).2
            simpa [← hkv] using this
          have hso := run_setObj' (P := P) (o := .map (es'.modify (idxK k es) fun e => { e with key := vk, val := vv }) clock) hobj rfl
          obtain ⟨k1, k2⟩ := hH.putObj hr (x := .map es2) (o := .map (es'.modify (idxK k es) fun e => { e with key := vk, val := vv }) clock) (by
            refine ⟨_, _, rfl, by rw [hes2]; simp [hlen], fun i e e' he he' => ?_⟩
            rw [hes2] at he
            rw [Array.getElem?_modify] at he'
            by_cases hi' : idxK k es = i
            · subst hi'
              rw [List.getElem?_set_self hix] at he
              rw [if_pos rfl, Array.getElem?_eq_getElem hix'] at he'
              simp at he he'
              subst he; subst he'
              exact ⟨hk, hv⟩
            · rw [List.getElem?_set_ne hi'] at he
              rw [if_neg hi'] at he'
              exact hent i e e' he he') (fun _ _ _ e => by cases e)
          have hks := keyStays (P := P) (w := w) hbits
          exact ⟨_, by simp only [Instr.mapUpdate, Sem.run_bind, run_under hK, hgo, hc, h1, Result.andThen_ok, hks, hso], k1, k2⟩
    · cases h
  · cases h

end
end Go.AM

/-
  THE ABSTRACT MACHINE: the operations with an effect are sound, second part: append.
-/
namespace Go.AM
section
variable {C : Ctx} {P : Program} {γ : Gh} {H : Heap} {w : World}

/-- A new row, of which only the first cells matter. -/
theorem HR.alloc_row {K : Heap} (h : HR γ K w) {b : Nat} (hb : γ.rho b = none) (hlt : b < K.next) {cs : List AV} (hk : K.blk b = .cells cs) {vs : Array Value} (hle : cs.length ≤ vs.size)
    (hv : VRs γ cs (vs.toList.take cs.length)) (h1 : ∀ x, x ∈ cs → one x = true) (t : TypeId) :
    HR (γ.at b (.cells w.heap.size 0 vs.size) w.heap.size fun _ => none) K (w.alloc (.cells vs t)) ∧ Ext γ (K.cut b) w (γ.at b (.cells w.heap.size 0 vs.size) w.heap.size fun _ => none) K (w.alloc (.cells vs t)) := by
  have hn : ∀ j, (w.alloc (.cells vs t)).cell? ⟨w.heap.size, 0 + j, none⟩ = vs[j]? := fun j => by rw [Nat.zero_add]; exact World.cell?_alloc_new w vs t j
  have hf : ∀ j, (w.alloc (.cells vs t)).frozen? ⟨w.heap.size, 0 + j, none⟩ = false := fun j => by rw [Nat.zero_add]; exact World.frozen?_alloc_new w vs t j
  refine h.alloc hb hlt _ _ _ ?_ (fun _ _ _ _ _ _ e => by cases e) (fun _ e => by cases e) (fun i v e => by cases e) (fun _ _ => rfl)
  intro B base ext cs' e hk'
  cases e
  rw [hk] at hk'; cases hk'
  refine ⟨rfl, hle, fun j x hx => ?_, fun j hj => ⟨⟨vs[j], by rw [hn]; exact Array.getElem?_eq_getElem hj⟩, hf j⟩⟩
  obtain ⟨v, h1', h2⟩ := hv.get hx
  rw [List.getElem?_take] at h1'
  split at h1'
  · exact ⟨v, by rw [hn]; simpa using h1', h2, h1 x (List.mem_of_getElem? hx)⟩
  · cases h1'

/-- Elements that lie somewhere, as cells. -/
theorem flat_row {sz : Nat} : ∀ (xs : List AV) (B base : Nat), (∀ x, x ∈ xs → (cellsOf x).length = sz) →
    (∀ (i : Nat) (x : AV) (k : Nat) (y : AV), xs[i]? = some x → (cellsOf x)[k]? = some y → ∃ v, w.cell? ⟨B, base + (i * sz + k), none⟩ = some v ∧ VR γ y v ∧ one y = true) → Row γ w (flatA xs) B base
  | [], _, _, _, _ => fun j x hx => by simp [flatA] at hx
  | x :: xs, B, base, hs, h => fun j y hy => by
    rw [flatA_cons] at hy
    have hx := hs x (List.mem_cons_self)
    by_cases hj : j < sz
    · rw [List.getElem?_append_left (by omega)] at hy
      have := h 0 x j y rfl hy
      simpa using this
    · rw [List.getElem?_append_right (by omega), hx] at hy
      have ih := flat_row xs B (base + sz) (fun z hz => hs z (List.mem_cons_of_mem _ hz)) (fun i z k u hz hu => by
        have := h (i + 1) z k u (by simpa using hz) hu
        rw [show base + sz + (i * sz + k) = base + ((i + 1) * sz + k) by rw [Nat.add_mul]; omega]
        exact this)
      have := ih (j - sz) y hy
      rwa [show base + sz + (j - sz) = base + j by omega] at this

theorem Row.vals {cs : List AV} {B base : Nat} (h : Row γ w cs B base) : ∃ vs : List Value, VRs γ cs vs ∧ (∀ (j : Nat) (u : Value), vs[j]? = some u → w.cell? ⟨B, base + j, none⟩ = some u) ∧ ∀ u, u ∈ vs → u.oneCell' = true := by
  refine ⟨(List.range cs.length).map fun j => (w.cell? ⟨B, base + j, none⟩).getD undef, ⟨by simp, fun i x v hx hv => ?_⟩, fun j u hu => ?_, fun u hu => ?_⟩
  · obtain ⟨u, h1, h2, _⟩ := h i x hx
    have hi : i < cs.length := (List.getElem?_eq_some_iff.1 hx).1
    simp [hi, h1] at hv
    rw [← hv]; exact h2
  · have hj : j < cs.length := by have := (List.getElem?_eq_some_iff.1 hu).1; simpa using this
    obtain ⟨v, h1, _⟩ := h j cs[j] (List.getElem?_eq_getElem hj)
    simp [hj, h1] at hu
    rw [← hu]; exact h1
  · obtain ⟨j, hj, rfl⟩ := List.mem_map.1 hu
    have hj : j < cs.length := by simpa using hj
    obtain ⟨v, h1, h2, h3⟩ := h j cs[j] (List.getElem?_eq_getElem hj)
    rw [h1]
    exact one_of h2 h3

theorem chunk_flat {i : TI} : ∀ (n : Nat) (cs xs : List AV), (∀ x, x ∈ cs → one x = true) → chunkA i n cs = some xs → (i.agg = false → i.size = 1) → flatA xs = cs.take (n * i.size) ∧ n * i.size ≤ cs.length ∧ xs.length = n ∧ ∀ x, x ∈ xs → (cellsOf x).length = i.size
  | 0, cs, xs, _, h, _ => by cases h; simp [flatA]
  | n + 1, cs, xs, h1, h, ha => by
    rw [chunkA, Option.bind_eq_some_iff] at h
    obtain ⟨x, hx, h⟩ := h
    obtain ⟨ys, hy, rfl⟩ := Option.map_eq_some_iff.1 h
    obtain ⟨e1, e2, e3, e4⟩ := chunk_flat n (cs.drop i.size) ys (fun x hx => h1 x (List.mem_of_mem_drop hx)) hy ha
    have key : cellsOf x = cs.take i.size ∧ i.size ≤ cs.length := by
      unfold loadL at hx
      cases hag : i.agg with
      | true =>
        simp only [hag, if_true] at hx
        obtain ⟨zs, hz, rfl⟩ := Option.map_eq_some_iff.1 hx
        unfold sub at hz
        split at hz
        · rename_i hle
          cases hz
          exact ⟨by simp [cellsOf], by omega⟩
        · cases hz
      | false =>
        simp only [hag, if_false, Bool.false_eq_true] at hx
        have h2 := ha hag
        cases cs with
        | nil => simp at hx
        | cons c cs =>
          simp at hx; subst hx
          exact ⟨by rw [h2]; simp [cellsOf_one (h1 c (List.mem_cons_self))], by rw [h2]; simp⟩
    obtain ⟨k1, k2⟩ := key
    simp only [List.length_drop] at e2
    refine ⟨?_, by rw [Nat.add_mul]; omega, by simp [e3], fun y hy => ?_⟩
    · rw [flatA_cons, e1, k1, Nat.add_mul, Nat.one_mul, Nat.add_comm, List.take_add]
    · rcases List.mem_cons.1 hy with rfl | hy
      · rw [k1]; simp; omega
      · exact e4 y hy

/-- What an append takes its elements from. -/
theorem elemsA_sound (hC : CtxR C P) (hH : HR γ H w) {j i2 : TI} {t2 e : Nat} (h2 : C.ti t2 = some i2) (hrow : i2.isRow = true) (he : C.ti e = some j) {x : AV} {v : Value} (hx : VR γ x v) {ys : List AV} (h : elemsA j x H = some ys) (hne : ys ≠ [])
    (hhd : headSize ys j.size = true) : ∃ news, Src P j.size t2 v ys.length news w ∧ VRs γ (flatA ys) news ∧ (∀ y, y ∈ ys → (cellsOf y).length = j.size) ∧ ∀ y, y ∈ flatA ys → one y = true := by
  have hT2 := hC.ti t2 i2 h2
  have hkind : (∃ e', P.underlying t2 = some (.slice e')) ∨ P.underlying t2 = some .string := by
    have hk := hT2.k
    cases hik : i2.k <;> simp [TI.isRow, hik] at hrow
    · rw [hik] at hk; exact .inr hk
    · rw [hik] at hk; exact .inl ⟨_, hk⟩
  -- from a row of cells
  have fromRow : ∀ B base cap n, v = .slice (some ⟨B, base, none⟩) n cap → ys.length = n → Row γ w (flatA ys) B base → (∀ y, y ∈ ys → (cellsOf y).length = j.size) →
      ∃ news, Src P j.size t2 v ys.length news w ∧ VRs γ (flatA ys) news ∧ (∀ y, y ∈ ys → (cellsOf y).length = j.size) ∧ ∀ y, y ∈ flatA ys → one y = true := by
    intro B base cap n hv hn hr hs
    obtain ⟨vs, k1, k2, k3⟩ := hr.vals
    subst hn
    have hl : vs.length = ys.length * j.size := by rw [← k1.1, flatA_length ys hs]
    refine ⟨vs, ?_, k1, hs, hr.one⟩
    have hcell : ∀ (w' : World), w'.heap = w.heap → ∀ (i : Nat) (u : Value), vs[i]? = some u → w'.cell? ((⟨B, base, none⟩ : Addr).add i) = some u := fun w' e i u hu => by
      rw [add_at]
      simp only [World.cell?, e]
      exact k2 i u hu
    subst hv
    exact ⟨hkind, fun _ => rfl, run_firstCells_some w j.size ys.length ⟨B, base, none⟩ ys.length cap vs hl (hcell w rfl), run_firstCells_some w.drew j.size ys.length ⟨B, base, none⟩ ys.length cap vs hl (hcell w.drew rfl), hl, k3⟩
  unfold elemsA at h
  split at h
  · cases h; exact absurd rfl hne
  · cases h
    cases hx with
    | @vs _ _ B base cap sz c h1 hsz hlv hv hcap htok =>
      have hss : sz = j.size := by
        cases ys with
        | nil => exact absurd rfl hne
        | cons y ys =>
          simp only [headSize, beq_iff_eq] at hhd
          rw [← hsz 0 y rfl]; exact hhd
      subst hss
      have hs : ∀ y, y ∈ ys → (cellsOf y).length = j.size := fun y hy => let ⟨i, hi⟩ := List.getElem?_of_mem hy; hsz i y hi
      exact fromRow B base cap ys.length rfl rfl (flat_row ys B base hs fun i x k y hx hy => ⟨c i k, by rw [← Nat.add_assoc]; exact hH.lock _ _ _ (hlv i x k y hx hy), hv i x k y hx hy, h1 x (List.mem_of_getElem? hx) y (List.mem_of_getElem? hy)⟩) hs
  · rename_i b o n e'
    rw [Option.bind_eq_some_iff] at h
    obtain ⟨cs, hb, h⟩ := h
    have hb := cells?_some hb
    cases hx with
    | @rs _ B base ext cap _ _ _ hr hcap hext =>
      have hr0 := (hH.row hr hb).drop o
      have ha : j.agg = false → j.size = 1 := fun ha => by
        cases ys with
        | nil => exact absurd rfl hne
        | cons y ys =>
          simp only [headSize, beq_iff_eq] at hhd
          cases n with
          | zero => cases h
          | succ n =>
            rw [chunkA, Option.bind_eq_some_iff] at h
            obtain ⟨x, hx, h⟩ := h
            obtain ⟨ys', _, h⟩ := Option.map_eq_some_iff.1 h
            cases h
            unfold loadL at hx
            simp only [ha, if_false, Bool.false_eq_true] at hx
            rw [cellsOf_one (hr0.one _ (List.mem_of_getElem? hx))] at hhd
            simpa using hhd.symm
      obtain ⟨e1, e2, e3, e4⟩ := chunk_flat n (cs.drop o) ys hr0.one h ha
      refine fromRow B (base + o) cap n rfl e3 ?_ e4
      rw [e1]
      intro i x hx
      rw [List.getElem?_take] at hx
      split at hx
      · exact hr0 i x hx
      · cases hx
  · rename_i s
    split at h
    · rename_i hk
      cases h
      obtain ⟨b, rfl, hb⟩ := hx.str_inv
      have hs1 : j.size = 1 := by
        cases hs : s with
        | nil => rw [hs] at hne; simp at hne
        | cons c s =>
          rw [hs] at hhd
          simp [headSize, cellsOf] at hhd
          exact hhd.symm
      have hl : (byteCells b).length = s.length := by simp [byteCells, ← hb]
      have hf : flatA (s.map fun c => AV.int .u8 c.toNat) = s.map fun c => AV.int .u8 c.toNat := by
        clear hne hhd hl hb hx fromRow
        induction s with
        | nil => rfl
        | cons c s ih => rw [List.map_cons, flatA_cons, ih]; rfl
      refine ⟨byteCells b, ?_, ?_, fun y hy => ?_, fun y hy => ?_⟩
      · rw [hs1]
        have hb2 : b.size = s.length := by rw [← hb]; simp
        refine ⟨hkind, fun _ => ?_, ?_, ?_, by simp [hl], fun u hu => ?_⟩
        · simp [Builtin.lenOf, hb2]
        · have := firstCells_string (P := P) b w
          rw [hb2] at this; simpa using this
        · have := firstCells_string (P := P) b w.drew
          rw [hb2] at this; simpa using this
        · obtain ⟨_, _, rfl⟩ := List.mem_map.1 hu; rfl
      · rw [hf]
        refine ⟨by simp [hl], fun i x v hx hv => ?_⟩
        simp [byteCells, hb] at hx hv
        obtain ⟨c, hc, rfl⟩ := hx
        obtain ⟨c', hc', rfl⟩ := hv
        rw [hc] at hc'; cases hc'
        exact .int _ _
      · obtain ⟨c, _, rfl⟩ := List.mem_map.1 hy
        rw [hs1]; rfl
      · rw [hf] at hy
        obtain ⟨c, _, rfl⟩ := List.mem_map.1 hy
        rfl
    · cases h
  · cases h


theorem lim_fit {need bytes cap : Nat} (h : need * (bytes + 1) < lim) (hg : cap < need) : Builtin.nextslicecap need cap * bytes ≤ 281474976710656 ∧ ((need : Nat) : Int) ≤ 9223372036854775807 := by
  have h1 : need * bytes < lim := Nat.lt_of_le_of_lt (Nat.mul_le_mul_left _ (by omega)) h
  have h2 : need < lim := Nat.lt_of_le_of_lt (by rw [Nat.mul_add]; omega) h
  simp only [lim] at h1 h2
  exact ⟨growslice_fits hg (by omega), by omega⟩

/-- The slice grows: the cells that are new. -/
theorem grown_take {olds news zs : List Value} {a b : List AV} (ha : VRs γ a olds) (hb : VRs γ b news) : VRs γ (a ++ b) (((olds ++ news).toArray ++ zs.toArray).toList.take (a ++ b).length) := by
  have h := ha.append hb
  have : ((olds ++ news).toArray ++ zs.toArray).toList.take (a ++ b).length = olds ++ news := by
    simp only [Array.toList_append]
    rw [h.1, List.take_left]
  rw [this]
  exact h

/-- A new slice that an append makes: as a list, with the right to append. -/
theorem grow_tok (hH : HR γ H w) {xs : List AV} {olds : List Value} {zc : Array Value} {sz need cap : Nat} (hx : VRs γ (flatA xs) olds) (hs : ∀ x, x ∈ xs → (cellsOf x).length = sz) (h1 : ∀ y, y ∈ flatA xs → one y = true)
    (hn : xs.length = need) (hcap : need ≤ cap) (hz : zc.size = sz) (e : TypeId) :
    ∃ γ', HR γ' (H.new (.tok sz)) (w.drew.alloc (.cells (olds.toArray ++ Builtin.zeroCells zc (cap - need)) e)) ∧ Ext γ H w γ' (H.new (.tok sz)) (w.drew.alloc (.cells (olds.toArray ++ Builtin.zeroCells zc (cap - need)) e)) ∧
      VR γ' (.vs xs (some H.next)) (.slice (some ⟨w.heap.size, 0, none⟩) need cap) := by
  subst hn
  have hK := (hH.new (.tok sz)).of_heap (w' := w.drew) rfl
  have hl := flatA_length xs hs
  have ho : olds.length = xs.length * sz := by rw [← hx.1, hl]
  obtain ⟨γ', k1, k2, k3, _⟩ := newList (w := w.drew) hK (b := H.next) (hH.fresh _ (Nat.le_refl _)) (by simp [Heap.new]) (by simp [Heap.new]) (xs := xs) (vs := olds.toArray ++ Builtin.zeroCells zc (cap - xs.length)) hs h1
    (by simp only [Array.toList_append]; rw [List.take_append_of_le_length (by simp [ho]), ← ho]; simpa using hx) hcap (by simp [ho, size_zeroCells, hz, ← Nat.add_mul]; rw [Nat.add_sub_cancel' hcap]) e
  exact ⟨γ', k1, ((Ext.newc hH (.tok sz)).trans (.of_heap (w' := w.drew) rfl)).trans k2, k3⟩

/-- .. as a row that is owned. -/
theorem grow_row (hg : GR C γ) (hH : HR γ H w) {cs : List AV} {olds : List Value} {zc : Array Value} {e need cap : Nat} {i : TI} (hi : C.ti e = some i) (hx : VRs γ cs olds) (h1 : ∀ y, y ∈ cs → one y = true)
    (hn : cs.length = need * i.size) (hcap : need ≤ cap) (hz : zc.size = i.size) (te : TypeId) :
    ∃ γ', HR γ' (H.new (.cells cs)) (w.drew.alloc (.cells (olds.toArray ++ Builtin.zeroCells zc (cap - need)) te)) ∧ Ext γ H w γ' (H.new (.cells cs)) (w.drew.alloc (.cells (olds.toArray ++ Builtin.zeroCells zc (cap - need)) te)) ∧
      VR γ' (.rs H.next 0 need e) (.slice (some ⟨w.heap.size, 0, none⟩) need cap) := by
  have hK := (hH.new (.cells cs)).of_heap (w' := w.drew) rfl
  have hsz : (olds.toArray ++ Builtin.zeroCells zc (cap - need)).size = cap * i.size := by
    simp [size_zeroCells, hz, ← hx.1, hn, ← Nat.add_mul]; rw [Nat.add_sub_cancel' hcap]
  have hle : cs.length ≤ (olds.toArray ++ Builtin.zeroCells zc (cap - need)).size := by rw [hsz, hn]; exact Nat.mul_le_mul_right _ hcap
  have key := hK.alloc_row (w := w.drew) (b := H.next) (hH.fresh _ (Nat.le_refl _)) (by simp [Heap.new]) (cs := cs) (by simp [Heap.new]) (vs := olds.toArray ++ Builtin.zeroCells zc (cap - need)) hle
    (by simp only [Array.toList_append]; rw [List.take_append_of_le_length (by simp [← hx.1])]; simpa [hx.1] using hx) h1 te
  refine ⟨_, key.1, ((Ext.newc hH (.cells cs)).trans (.of_heap (w' := w.drew) rfl)).trans key.2, ?_⟩
  refine VR.rs (B := w.heap.size) (base := 0) (ext := (olds.toArray ++ Builtin.zeroCells zc (cap - need)).size) 0 need e ?_ hcap ?_
  · simp [Gh.at]
  · show 0 + cap * γ.esz e ≤ _
    rw [hg.esz e i hi, hsz]; omega


theorem mul_lt {i j len sz : Nat} (hi : i < len) (hj : j < sz) : i * sz + j < len * sz := by
  have h1 : (i + 1) * sz ≤ len * sz := Nat.mul_le_mul_right _ hi
  rw [Nat.add_mul, Nat.one_mul] at h1
  omega

/-- There is room: a list with the right to append. -/
theorem place_tok (hH : HR γ H w) {xs ys : List AV} {k B base cap sz : Nat} {news : List Value} (hx : VR γ (.vs xs (some k)) (.slice (some ⟨B, base, none⟩) xs.length cap)) (hk : H.blk k = .tok sz) (hy : VRs γ (flatA ys) news)
    (hs : ∀ y, y ∈ ys → (cellsOf y).length = sz) (h1 : ∀ y, y ∈ flatA ys → one y = true) (hroom : xs.length + ys.length ≤ cap) :
    (∀ j, j < news.length → (w.cell? ⟨B, base + xs.length * sz + j, none⟩).isSome = true ∧ w.frozen? ⟨B, base + xs.length * sz + j, none⟩ = false) ∧
    ∃ γ', HR γ' ((H.set k .dead).new (.tok sz)) (w.setCells B (base + xs.length * sz) news) ∧ Ext γ H w γ' ((H.set k .dead).new (.tok sz)) (w.setCells B (base + xs.length * sz) news) ∧
      VR γ' (.vs (xs ++ ys) (some H.next)) (.slice (some ⟨B, base, none⟩) (xs.length + ys.length) cap) := by
  cases hx with
  | @vs _ _ _ _ _ sz0 c hc1 hsz hlv hv hcap htok =>
    obtain ⟨sz', hse, hr⟩ := htok k rfl
    obtain ⟨e, _⟩ := hH.toks k _ _ _ _ _ _ hr hk
    subst e
    have hnl : news.length = ys.length * sz := by rw [← hy.1, flatA_length ys hs]
    have hcm : xs.length * sz + ys.length * sz ≤ cap * sz := by rw [← Nat.add_mul]; exact Nat.mul_le_mul_right _ hroom
    have hown : ∀ j, j < news.length → own γ H k B (base + xs.length * sz + j) := fun j hj => (own_tok hr hk B _).2 ⟨rfl, by omega, by omega⟩
    have hkl : k < H.next := own_lt_rho hH hr
    have hcellin : ∀ j, (hj : j < news.length) → (w.setCells B (base + xs.length * sz) news).cell? ⟨B, base + xs.length * sz + j, none⟩ = some news[j] := World.cell?_setCells_in B news (base + xs.length * sz) w (fun j hj => by
        obtain ⟨⟨v, hv⟩, _⟩ := own_cell hH (hown j hj)
        rw [hv]; rfl)
    refine ⟨fun j hj => by obtain ⟨⟨v, hv⟩, hf⟩ := own_cell hH (hown j hj); exact ⟨by rw [hv]; rfl, hf⟩, ?_⟩
    have key := hH.pass (w' := w.setCells B (base + xs.length * sz) news) (b := k) hkl (fun r e => by rw [hr] at e; cases e) (.setCells w B _ news hown) (K := (H.set k .dead).new (.tok sz)) (by simp [Heap.new, Heap.set])
      (q := some (.tok B base (xs.length + ys.length) cap sz)) (fun _ _ => by simp [Heap.new, Heap.set]) (fun j hj hl => by
        have : j ≠ H.next := by omega
        simp [Heap.new, Heap.set, hj, this])
      (l := fun B' i => if B' = B ∧ base + xs.length * sz ≤ i ∧ i < base + xs.length * sz + ys.length * sz then news[i - (base + xs.length * sz)]? else none)
      (fun B' i v e => by
        split at e
        · rename_i hc
          obtain ⟨rfl, h2, h3⟩ := hc
          obtain ⟨hlt, hv'⟩ := List.getElem?_eq_some_iff.1 e
          have hi : base + xs.length * sz + (i - (base + xs.length * sz)) = i := by omega
          refine ⟨by have := hown _ hlt; rwa [hi] at this, by have := hcellin _ hlt; rwa [hi, hv'] at this, fun ho => ?_⟩
          have := (own_tok (γ := γ.pass H.next (some (.tok B' base (xs.length + ys.length) cap sz)) _) (H := (H.set k .dead).new (.tok sz)) (b := H.next) (B := B') (base := base) (len := xs.length + ys.length) (cap := cap) (sz := sz) (s := sz) (by simp [Gh.pass]) (by simp [Heap.new, Heap.set]) B' i).1 ho
          rw [Nat.add_mul] at this
          omega
        · cases e)
      (.inl (by
        have : k ≠ H.next := by omega
        simp [Heap.new, Heap.set, this]))
      (fun _ _ _ _ e => by cases e)
      (fun B' base' len' cap' sz' s' e hk' => by
        cases e
        have : s' = sz := by simpa [Heap.new, Heap.set] using hk'.symm
        refine ⟨this, fun j h2 h3 => (own_tok hr hk B _).2 ⟨rfl, ?_, by omega⟩⟩
        rw [Nat.add_mul] at h2; omega)
      (fun r e => by cases e)
    refine ⟨_, key.1, key.2, ?_⟩
    have hle := key.2.le
    have hsx : ∀ x, x ∈ xs → (cellsOf x).length = sz := fun x hx => by
      obtain ⟨i, hi⟩ := List.getElem?_of_mem hx
      rw [hsz i x hi]
      exact (hse (fun e => by rw [e] at hx; cases hx)).symm
    have hs0 : ∀ i x, xs[i]? = some x → sz0 = sz := fun i x hx => by rw [← hsz i x hx]; exact hsx x (List.mem_of_getElem? hx)
    have hnew : ∀ (i : Nat) (y : AV) (j : Nat) (z : AV), ys[i]? = some y → (cellsOf y)[j]? = some z → i * sz + j < news.length ∧ ∃ v, news[i * sz + j]? = some v ∧ VR γ z v := fun i y j z hy' hz => by
      have hf := flatA_get ys hs i y j z hy' hz
      obtain ⟨v, a1, a2⟩ := hy.get hf
      exact ⟨(List.getElem?_eq_some_iff.1 a1).1, v, a1, a2⟩
    have main := VR.vs (γ := γ.pass H.next (some (.tok B base (xs.length + ys.length) cap sz)) fun B' i => if B' = B ∧ base + xs.length * sz ≤ i ∧ i < base + xs.length * sz + ys.length * sz then news[i - (base + xs.length * sz)]? else none)
      (xs := xs ++ ys) (tok := some H.next) (B := B) (base := base) (cap := cap) (sz := sz) (fun i j => if i < xs.length then c i j else (news[(i - xs.length) * sz + j]?).getD undef)
      (fun x hx y hy' => by
        rcases List.mem_append.1 hx with hx | hx
        · exact hc1 x hx y hy'
        · exact h1 y (List.mem_flatMap.2 ⟨x, hx, hy'⟩))
      (fun i x hx => by
        rcases List.mem_append.1 (List.mem_of_getElem? hx) with hx | hx
        · exact hsx x hx
        · exact hs x hx)
      (fun i x j y hx hy' => by
        by_cases hi : i < xs.length
        · rw [List.getElem?_append_left hi] at hx
          have := hlv i x j y hx hy'
          rw [hs0 i x hx] at this
          rw [if_pos hi]
          exact hle.lv _ _ _ this
        · rw [List.getElem?_append_right (by omega)] at hx
          obtain ⟨a0, v, a1, _⟩ := hnew _ x j y hx hy'
          rw [if_neg hi, a1]
          have hi2 : i * sz = xs.length * sz + (i - xs.length) * sz := by rw [← Nat.add_mul]; congr 1; omega
          have hin : base + xs.length * sz ≤ base + i * sz + j ∧ base + i * sz + j < base + xs.length * sz + ys.length * sz := by omega
          simp only [Gh.pass, true_and, hin, if_true, and_self]
          rw [show base + i * sz + j - (base + xs.length * sz) = (i - xs.length) * sz + j by omega, a1]
          rfl)
      (fun i x j y hx hy' => by
        by_cases hi : i < xs.length
        · rw [List.getElem?_append_left hi] at hx
          simp only [hi, if_true]
          exact (hv i x j y hx hy').mono hle
        · rw [List.getElem?_append_right (by omega)] at hx
          obtain ⟨_, v, a1, a2⟩ := hnew _ x j y hx hy'
          simp only [hi, if_false, a1]
          exact a2.mono hle)
      (by simpa using hroom)
      (fun t ht => by
        cases ht
        exact ⟨sz, fun _ => rfl, by simp [Gh.pass]⟩)
    simpa using main

/-- There is room: an owned row. -/
theorem place_row (hg : GR C γ) (hH : HR γ H w) {b o n e B base cap : Nat} {cs old ys : List AV} {i : TI} {news : List Value} (hi : C.ti e = some i) (hx : VR γ (.rs b o n e) (.slice (some ⟨B, base, none⟩) n cap)) (hk : H.blk b = .cells cs)
    (hold : sub cs o (n * i.size) = some old) (hy : VRs γ (flatA ys) news) (hs : ∀ y, y ∈ ys → (cellsOf y).length = i.size) (h1 : ∀ y, y ∈ flatA ys → one y = true) (hroom : n + ys.length ≤ cap) :
    (∀ j, j < news.length → (w.cell? ⟨B, base + n * i.size + j, none⟩).isSome = true ∧ w.frozen? ⟨B, base + n * i.size + j, none⟩ = false) ∧
    ∃ γ', HR γ' ((H.set b .dead).new (.cells (old ++ flatA ys))) (w.setCells B (base + n * i.size) news) ∧ Ext γ H w γ' ((H.set b .dead).new (.cells (old ++ flatA ys))) (w.setCells B (base + n * i.size) news) ∧
      VR γ' (.rs H.next 0 (n + ys.length) e) (.slice (some ⟨B, base, none⟩) (n + ys.length) cap) := by
  cases hx with
  | @rs _ _ base0 ext _ _ _ _ hr hcap hext =>
    rw [hg.esz e i hi] at hext
    have hnl : news.length = ys.length * i.size := by rw [← hy.1, flatA_length ys hs]
    have hcm : n * i.size + ys.length * i.size ≤ cap * i.size := by rw [← Nat.add_mul]; exact Nat.mul_le_mul_right _ hroom
    have hown : ∀ j, j < news.length → own γ H b B (base0 + o + n * i.size + j) := fun j hj => (own_cells hr hk B _).2 ⟨rfl, by omega, by omega⟩
    have hbl : b < H.next := own_lt_rho hH hr
    obtain ⟨hrow, hol⟩ := (hH.row hr hk).sub hold
    have hcellin : ∀ j, (hj : j < news.length) → (w.setCells B (base0 + o + n * i.size) news).cell? ⟨B, base0 + o + n * i.size + j, none⟩ = some news[j] := World.cell?_setCells_in B news (base0 + o + n * i.size) w (fun j hj => by
        obtain ⟨⟨v, hv⟩, _⟩ := own_cell hH (hown j hj)
        rw [hv]; rfl)
    refine ⟨fun j hj => by obtain ⟨⟨v, hv⟩, hf⟩ := own_cell hH (hown j hj); exact ⟨by rw [hv]; rfl, hf⟩, ?_⟩
    have key := hH.pass (w' := w.setCells B (base0 + o + n * i.size) news) (b := b) hbl (fun r e => by rw [hr] at e; cases e) (.setCells w B _ news hown) (K := (H.set b .dead).new (.cells (old ++ flatA ys))) (by simp [Heap.new, Heap.set])
      (q := some (.cells B (base0 + o) (cap * i.size))) (fun _ _ => by simp [Heap.new, Heap.set]) (fun j hj hl => by
        have : j ≠ H.next := by omega
        simp [Heap.new, Heap.set, hj, this])
      (l := fun _ _ => none) (fun B' i v e => by cases e)
      (.inl (by
        have : b ≠ H.next := by omega
        simp [Heap.new, Heap.set, this]))
      (fun B' base' ext' cs' e hk' => by
        cases e
        have : cs' = old ++ flatA ys := by simpa [Heap.new, Heap.set] using hk'.symm
        subst this
        have hfl := hy.1
        refine ⟨by simp [hol]; omega, fun j x hx => ?_, fun j hj => (own_cells hr hk B _).2 ⟨rfl, by omega, by omega⟩⟩
        by_cases hj : j < old.length
        · rw [List.getElem?_append_left hj] at hx
          obtain ⟨v, a1, a2⟩ := hrow j x hx
          refine ⟨v, ?_, a2⟩
          rw [World.cell?_setCells_out B news _ w _ (fun _ _ => by simp only; omega)]
          exact a1
        · rw [List.getElem?_append_right (by omega)] at hx
          obtain ⟨v, a1, a2⟩ := hy.get hx
          obtain ⟨hlt, hv'⟩ := List.getElem?_eq_some_iff.1 a1
          refine ⟨v, ?_, a2, h1 x (List.mem_of_getElem? hx)⟩
          have := hcellin _ hlt
          rw [hv', hol] at this
          rwa [show base0 + o + n * i.size + (j - n * i.size) = base0 + o + j by omega] at this)
      (fun _ _ _ _ _ _ e => by cases e) (fun r e => by cases e)
    refine ⟨_, key.1, key.2, ?_⟩
    refine VR.rs (B := B) (base := base0 + o) (ext := cap * i.size) 0 (n + ys.length) e (by simp [Gh.pass]) hroom ?_
    show 0 + cap * γ.esz e ≤ _
    rw [hg.esz e i hi]; omega

end
end Go.AM

/-
  THE ABSTRACT MACHINE: the operations with an effect are sound, third part: append; clear; iterators.
-/
namespace Go.AM
section
variable {C : Ctx} {P : Program} {γ : Gh} {H : Heap} {w : World}

theorem headSize_all {xs : List AV} {tok : Option Nat} {v : Value} (hx : VR γ (.vs xs tok) v) {s : Nat} (h : headSize xs s = true) : ∀ x, x ∈ xs → (cellsOf x).length = s := by
  cases hx with
  | @vs _ _ _ _ _ sz c h1 hsz hlv hv hcap htok =>
    intro x hx
    cases xs with
    | nil => cases hx
    | cons y ys =>
      simp only [headSize, beq_iff_eq] at h
      obtain ⟨i, hi⟩ := List.getElem?_of_mem hx
      rw [hsz i x hi, ← hsz 0 y rfl]; exact h

theorem appendA_sound (hC : CtxR C P) (hg : GR C γ) (hH : HR γ H w) {mu : Bool} {t t2 ty : Nat} {s x a : AV} {vs vx : Value} (hs : VR γ s vs) (hx : VR γ x vx) {H' : Heap} (h : appendA C mu t t2 s x H = some (a, H')) (ts : List TypeId) :
    ∃ γ' w' v, (Builtin.append_ (t :: t2 :: ts).toArray ty #[vs, vx]).run P w = .ok v w' ∧ VR γ' a v ∧ HR γ' H' w' ∧ Ext γ H w γ' H' w' := by
  have hts : ∀ (args : Array Value), Builtin.append_ (t :: t2 :: ts).toArray ty args = Builtin.append_ #[t, t2] ty args := fun args => by simp [Builtin.append_]
  rw [hts]
  unfold appendA at h
  rw [Option.bind_eq_some_iff] at h
  obtain ⟨i, hi, h⟩ := h
  rw [Option.bind_eq_some_iff] at h
  obtain ⟨e, he, h⟩ := h
  rw [Option.bind_eq_some_iff] at h
  obtain ⟨i2, hi2, h⟩ := h
  split at h
  · cases h
  rename_i hrow
  have hrow : i2.isRow = true := by simpa using hrow
  rw [Option.bind_eq_some_iff] at h
  obtain ⟨j, hj, h⟩ := h
  rw [Option.bind_eq_some_iff] at h
  obtain ⟨ys, hys, h⟩ := h
  have hK := KR.of (hC.ti t i hi) (slice?_some he)
  simp only [KR] at hK
  have hTj := hC.ti e j hj
  obtain ⟨inf, hinf, hsize, hbytes, z, hz, hzr⟩ := hTj.info
  have hkind : (∃ e', P.underlying t2 = some (.slice e')) ∨ P.underlying t2 = some .string := by
    have hk := (hC.ti t2 i2 hi2).k
    cases hik : i2.k <;> simp [TI.isRow, hik] at hrow
    · rw [hik] at hk; exact .inr hk
    · rw [hik] at hk; exact .inl ⟨_, hk⟩
  by_cases hemp : ys.isEmpty = true
  · -- nothing is appended
    rw [if_pos hemp] at h
    have hn : ys = [] := by simpa using hemp
    subst hn
    have hsrc : Src P inf.size t2 vx 0 [] w := by
      unfold elemsA at hys
      split at hys
      · cases hx
        exact ⟨hkind, fun _ => rfl, run_firstCells_none w _ 0 0 0, run_firstCells_none w.drew _ 0 0 0, by simp, fun _ h => by cases h⟩
      · cases hys
        cases hx
        exact ⟨hkind, fun _ => rfl, run_firstCells_some w _ 0 _ 0 _ [] (by simp) (fun j u hu => by cases hu), run_firstCells_some w.drew _ 0 _ 0 _ [] (by simp) (fun j u hu => by cases hu), by simp, fun _ h => by cases h⟩
      · rename_i b o n e'
        rw [Option.bind_eq_some_iff] at hys
        obtain ⟨cs, _, hys⟩ := hys
        have hn0 : n = 0 := by
          cases n with
          | zero => rfl
          | succ n =>
            rw [chunkA, Option.bind_eq_some_iff] at hys
            obtain ⟨x, _, hys⟩ := hys
            obtain ⟨zs, _, hys⟩ := Option.map_eq_some_iff.1 hys
            cases hys
        subst hn0
        cases hx
        exact ⟨hkind, fun _ => rfl, run_firstCells_some w _ 0 _ 0 _ [] (by simp) (fun j u hu => by cases hu), run_firstCells_some w.drew _ 0 _ 0 _ [] (by simp) (fun j u hu => by cases hu), by simp, fun _ h => by cases h⟩
      · rename_i l
        split at hys
        · have hl : l = [] := by simpa using hys
          subst hl
          obtain ⟨b, rfl, hb⟩ := hx.str_inv
          have hb0 : b.data = #[] := Array.toList_inj.1 (by simpa using hb)
          have hbs : b.size = 0 := by show b.data.size = 0; rw [hb0]; rfl
          have hex : (b.extract 0 0).data = #[] := by simp
          refine ⟨hkind, fun _ => by simp [Builtin.lenOf, hbs], ?_, ?_, by simp, fun _ h => by cases h⟩
          · simp [Builtin.firstCells]
          · simp [Builtin.firstCells]
        · cases hys
      · cases hys
    have fin : ∀ (base : Option Addr) (n cap : Nat), vs = .slice base n cap → n ≤ cap → a = s → H' = H → ∃ γ' w' v, (Builtin.append_ #[t, t2] ty #[vs, vx]).run P w = .ok v w' ∧ VR γ' a v ∧ HR γ' H' w' ∧ Ext γ H w γ' H' w' := by
      intro base n cap e1 hle e2 e3
      subst e1; subst e2; subst e3
      exact ⟨γ, w, _, run_append_nothing w t t2 ty e inf hK hinf base n cap hle vx hsrc, hs, hH, .refl _ _ _⟩
    have hs0 := hs
    cases hs0 with
    | nils => cases h; exact fin none 0 0 rfl (Nat.le_refl _) rfl rfl
    | vs c h1 hsz hlv hv hcap htok => cases h; exact fin _ _ _ rfl hcap rfl rfl
    | rs _ _ _ hr hcap hext => cases h; exact fin _ _ _ rfl hcap rfl rfl
    | _ => cases h
  · rw [if_neg hemp] at h
    have hne : ys ≠ [] := by simpa using hemp
    have hpos : 0 < ys.length := List.length_pos_iff.2 hne
    split at h
    · rename_i hhd
      simp only [Bool.and_eq_true] at hhd
      obtain ⟨hhd, hsd⟩ := hhd
      obtain ⟨s1, s2, s3⟩ := sound_inv hsd
      obtain ⟨news, hsrc, hnews, hysz, hyone⟩ := elemsA_sound hC hH hi2 hrow hj hx hys hne hhd
      rw [← hsize] at hsrc
      have hzc : z.cells.size = j.size := by
        have := (VR.cells (hzr γ) s1).1.1
        simp at this; omega
      unfold appendTo at h
      split at h
      · -- to nil
        split at h
        · rename_i hlim
          obtain ⟨hfit, h63⟩ := lim_fit (cap := 0) hlim hpos
          rw [← hbytes] at hfit
          cases hs
          have hrun := run_append_grow_src (P := P) w t t2 ty e inf z hK hinf hz none 0 0 [] (run_firstCells_none w.drew _ 0 0 0) vx ys.length news hsrc (by simpa using hpos) (by simpa using h63) (by simpa using hfit)
          simp only [Nat.zero_add, List.nil_append] at hrun
          cases mu with
          | true =>
            simp only [if_true, Option.some.injEq, Prod.mk.injEq] at h
            obtain ⟨rfl, rfl⟩ := h
            obtain ⟨γ', k1, k2, k3⟩ := grow_row (zc := z.cells) (need := ys.length) (cap := grownCap w ys.length 0 e) hg hH hj hnews hyone (flatA_length ys hysz) (grownCap_ge w _ _ _) hzc e
            exact ⟨γ', _, _, hrun, k3, k1, k2⟩
          | false =>
            simp only [if_false, Bool.false_eq_true, Option.some.injEq, Prod.mk.injEq] at h
            obtain ⟨rfl, rfl⟩ := h
            obtain ⟨γ', k1, k2, k3⟩ := grow_tok (zc := z.cells) (need := ys.length) (cap := grownCap w ys.length 0 e) hH hnews hysz hyone rfl (grownCap_ge w _ _ _) hzc e
            exact ⟨γ', _, _, hrun, k3, k1, k2⟩
        · cases h
      · -- to a list
        rename_i xs k
        split at h
        · rename_i sk hk
          split at h
          · rename_i hlim
            simp only [Bool.and_eq_true, decide_eq_true_eq] at hlim
            obtain ⟨rfl, hlim⟩ := hlim
            cases h
            have hs' := hs
            cases hs with
            | @vs _ _ B base cap sz0 c h1 hsz hlv hv hcap htok =>
              by_cases hroom : xs.length + ys.length ≤ cap
              · obtain ⟨p1, γ', p2, p3, p4⟩ := place_tok hH hs' hk hnews hysz hyone hroom
                have hrun := run_append_room_src (P := P) w t t2 ty e inf hK hinf B base xs.length cap vx ys.length news hsrc hroom (fun j hj => by rw [hsize]; exact (p1 j hj).1) (fun j hj => by rw [hsize]; exact (p1 j hj).2)
                rw [hsize] at hrun
                exact ⟨γ', _, _, hrun, p4, p2, p3⟩
              · obtain ⟨sz', hse, hr⟩ := htok k rfl
                obtain ⟨e1, _⟩ := hH.toks k _ _ _ _ _ _ hr hk
                subst e1
                have hsx : ∀ x, x ∈ xs → (cellsOf x).length = j.size := fun x hx => by
                  obtain ⟨i, hi⟩ := List.getElem?_of_mem hx
                  rw [hsz i x hi]
                  exact (hse (fun e => by rw [e] at hx; cases hx)).symm
                have hs0 : ∀ i x, xs[i]? = some x → sz0 = j.size := fun i x hx => by rw [← hsz i x hx]; exact hsx x (List.mem_of_getElem? hx)
                have hrow := flat_row (γ := γ) (w := w) xs B base hsx fun i x k y hx hy => ⟨c i k, by rw [← Nat.add_assoc, ← hs0 i x hx]; exact hH.lock _ _ _ (hlv i x k y hx hy), hv i x k y hx hy, h1 x (List.mem_of_getElem? hx) y (List.mem_of_getElem? hy)⟩
                obtain ⟨olds, o1, o2, o3⟩ := hrow.vals
                have hol : olds.length = xs.length * inf.size := by rw [← o1.1, flatA_length xs hsx, hsize]
                obtain ⟨hfit, h63⟩ := lim_fit (cap := cap) hlim (by omega)
                rw [← hbytes] at hfit
                have hold := run_firstCells_some (P := P) w.drew inf.size xs.length ⟨B, base, none⟩ xs.length cap olds hol (fun j u hu => by rw [add_at]; exact o2 j u hu)
                have hrun := run_append_grow_src (P := P) w t t2 ty e inf z hK hinf hz (some ⟨B, base, none⟩) xs.length cap olds hold vx ys.length news hsrc (by omega) h63 hfit
                obtain ⟨q1, q2⟩ := hH.kill (b := k) (fun r e => by rw [hr] at e; cases e)
                obtain ⟨γ', k1, k2, k3⟩ := grow_tok (w := w) (xs := xs ++ ys) (olds := olds ++ news) (zc := z.cells) (need := xs.length + ys.length) (cap := grownCap w (xs.length + ys.length) cap e) (sz := j.size) q1
                  (by rw [flatA_append]; exact o1.append hnews) (fun x hx => (List.mem_append.1 hx).elim (hsx x) (hysz x))
                  (fun y hy => by rw [flatA_append] at hy; exact (List.mem_append.1 hy).elim (hrow.one y) (hyone y)) (by simp) (grownCap_ge w _ _ _) hzc e
                exact ⟨γ', _, _, hrun, k3, k1, q2.trans k2⟩
          · cases h
        · cases h
      · -- to an owned row
        rename_i b o n e'
        split at h
        · rename_i hlim
          simp only [Bool.and_eq_true, decide_eq_true_eq] at hlim
          obtain ⟨rfl, hlim⟩ := hlim
          rw [Option.bind_eq_some_iff] at h
          obtain ⟨cs, hb, h⟩ := h
          obtain ⟨old, hold, h⟩ := Option.map_eq_some_iff.1 h
          cases h
          have hb := cells?_some hb
          have hs' := hs
          cases hs with
          | @rs _ B base ext cap _ _ _ hr hcap hext =>
            by_cases hroom : n + ys.length ≤ cap
            · obtain ⟨p1, γ', p2, p3, p4⟩ := place_row hg hH hj hs' hb hold hnews hysz hyone hroom
              have hrun := run_append_room_src (P := P) w t t2 ty e' inf hK hinf B (base + o) n cap vx ys.length news hsrc hroom (fun j hj => by rw [hsize]; exact (p1 j hj).1) (fun j hj => by rw [hsize]; exact (p1 j hj).2)
              rw [hsize] at hrun
              exact ⟨γ', _, _, hrun, p4, p2, p3⟩
            · obtain ⟨hrow, hol⟩ := (hH.row hr hb).sub hold
              obtain ⟨olds, o1, o2, o3⟩ := hrow.vals
              have hol' : olds.length = n * inf.size := by rw [← o1.1, hol, hsize]
              obtain ⟨hfit, h63⟩ := lim_fit (cap := cap) hlim (by omega)
              rw [← hbytes] at hfit
              have hold' := run_firstCells_some (P := P) w.drew inf.size n ⟨B, base + o, none⟩ n cap olds hol' (fun j u hu => by rw [add_at]; exact o2 j u hu)
              have hrun := run_append_grow_src (P := P) w t t2 ty e' inf z hK hinf hz (some ⟨B, base + o, none⟩) n cap olds hold' vx ys.length news hsrc (by omega) h63 hfit
              obtain ⟨q1, q2⟩ := hH.kill (b := b) (fun r e => by rw [hr] at e; cases e)
              obtain ⟨γ', k1, k2, k3⟩ := grow_row (w := w) (cs := old ++ flatA ys) (olds := olds ++ news) (zc := z.cells) (need := n + ys.length) (cap := grownCap w (n + ys.length) cap e') (i := j) hg q1 hj
                (o1.append hnews) (fun y hy => (List.mem_append.1 hy).elim (hrow.one y) (hyone y)) (by rw [List.length_append, hol, flatA_length ys hysz, Nat.add_mul]) (grownCap_ge w _ _ _) hzc e'
              exact ⟨γ', _, _, hrun, k3, k1, q2.trans k2⟩
        · cases h
      · cases h
    · cases h

end
end Go.AM

/-
  THE ABSTRACT MACHINE: the operations with an effect are sound, fourth part: clear; iterators.
-/
namespace Go.AM
section
variable {C : Ctx} {P : Program} {γ : Gh} {H : Heap} {w : World}

theorem clearA_sound (hC : CtxR C P) (hg : GR C γ) (hH : HR γ H w) {t ty : Nat} {x : AV} {v : Value} (hx : VR γ x v) {H' : Heap} (h : clearA C t x H = some H') (ts : List TypeId) :
    ∃ w', (Builtin.clear_ (t :: ts).toArray ty #[v]).run P w = .ok (.tuple #[]) w' ∧ HR γ H' w' ∧ Ext γ H w γ H' w' := by
  unfold clearA at h
  rw [Option.bind_eq_some_iff] at h
  obtain ⟨i, hi, h⟩ := h
  rw [Option.bind_eq_some_iff] at h
  obtain ⟨e, he, h⟩ := h
  rw [Option.bind_eq_some_iff] at h
  obtain ⟨j, hj, h⟩ := h
  have hK := KR.of (hC.ti t i hi) (slice?_some he)
  simp only [KR] at hK
  have nothing : ∀ base cap, v = .slice base 0 cap → (Builtin.clear_ (t :: ts).toArray ty #[v]).run P w = .ok (.tuple #[]) w := by
    intro base cap e
    subst e
    cases base <;> simp [Builtin.clear_, run_under hK]
  cases hx with
  | nils => cases h; exact ⟨w, nothing none 0 rfl, hH, .refl _ _ _⟩
  | @vs xs tok B base cap sz c h1 hsz hlv hv hcap htok =>
    cases xs with
    | nil => cases h; exact ⟨w, nothing _ cap rfl, hH, .refl _ _ _⟩
    | cons => cases h
  | @rs b B base ext cap o len e' hr hcap hext =>
    simp only at h
    by_cases hs : sound j = true
    · rw [if_pos hs, Option.bind_eq_some_iff] at h
      obtain ⟨cs, hb, h⟩ := h
      obtain ⟨cs', hsp, rfl⟩ := Option.map_eq_some_iff.1 h
      have hb := cells?_some hb
      obtain ⟨s1, s2, s3⟩ := sound_inv hs
      obtain ⟨z, hz, hzr⟩ := run_zero (hC.ti e j hj)
      obtain ⟨zc1, zc2⟩ := VR.cells (hzr γ) s1
      have hzc : z.cells.size = j.size := by have := zc1.1; simp at this; omega
      have hrel := zeros_rel (hzr γ) s1 s2 s3 len
      have hone : ∀ y, y ∈ flatA (List.replicate len j.zero) → one y = true := flatA_one fun x hx y hy => by
        rw [(List.mem_replicate.1 hx).2] at hy; exact zc2 y hy
      obtain ⟨c1, c2, c3⟩ := hH.cells b B base ext cs hr hb
      obtain ⟨k1, k2⟩ := hH.write hr hb hrel hone hsp
      have hin : o + (flatA (List.replicate len j.zero)).length ≤ cs.length := by
        unfold splice at hsp; split at hsp
        · assumption
        · cases hsp
      have hlen := hrel.1
      have heq : Builtin.zeroCells z.cells len = madeCells z.cells (len * j.size) := by rw [← hzc]; rfl
      have hst := run_storeCells_cells (P := P) B (base + o) (madeCells z.cells (len * j.size)).toList 0 w (fun i hi => by
          obtain ⟨⟨u, hu⟩, _⟩ := c3 (o + i) (by omega)
          rw [show base + o + 0 + i = base + (o + i) by omega, hu]; rfl) (fun i hi => by
          obtain ⟨_, hu⟩ := c3 (o + i) (by omega)
          rw [show base + o + 0 + i = base + (o + i) by omega]; exact hu) (fun u hu => by
          obtain ⟨i, hi⟩ := List.getElem?_of_mem hu
          have hj2 : i < (flatA (List.replicate len j.zero)).length := by rw [hlen]; exact (List.getElem?_eq_some_iff.1 hi).1
          exact one_of (hrel.2 i _ u (List.getElem?_eq_getElem hj2) hi) (hone _ (List.getElem_mem hj2)))
      simp only [Nat.add_zero] at hst
      cases len with
      | zero =>
        refine ⟨w, nothing _ cap rfl, ?_, ?_⟩
        · simpa [madeCells, World.setCells] using k1
        · simpa [madeCells, World.setCells] using k2
      | succ n =>
        refine ⟨_, ?_, k1, k2⟩
        simp [Builtin.clear_, run_under hK, hz, heq, hst]
    · rw [if_neg hs] at h; cases h
  | _ => cases h

theorem getD_data {b : ByteArray} {l : List UInt8} (h : b.data.toList = l) {pos : Nat} {c : UInt8} (hc : l[pos]? = some c) : pos < b.size ∧ b.get! pos = c := by
  subst h
  have h1 : pos < b.data.size := by have := (List.getElem?_eq_some_iff.1 hc).1; simpa using this
  refine ⟨h1, ?_⟩
  have h2 : b.data[pos]? = some c := by simpa using hc
  show b.data[pos]! = c
  simp [getElem!_def, h2]

theorem next_sound (hH : HR γ H w) {x : AV} {v : Value} (hx : VR γ x v) {b : Nat} (hb : x = .iter b) {s : List UInt8} {pos : Nat} (hk : H.blk b = .siter s pos) (ty : Nat) :
    (s[pos]? = none → (Instr.next v true ty).run P w = .ok (.tuple #[.bool false]) w) ∧
    (∀ c, s[pos]? = some c → c < 128 → ∃ w', (Instr.next v true ty).run P w = .ok (.tuple #[.bool true, .int .i64 pos, .int .i32 c.toNat]) w' ∧ HR γ (H.set b (.siter s (pos + 1))) w' ∧ Ext γ H w γ (H.set b (.siter s (pos + 1))) w') := by
  subst hb
  cases hx with
  | @iter _ r hr =>
    obtain ⟨hlt, ho, _⟩ := hH.objs b r hr
    rw [hk] at ho
    obtain ⟨bs, hobj, hbs⟩ := ho
    have hgo := run_getObj' (P := P) hobj rfl
    constructor
    · intro hn
      have : ¬ pos < bs.size := by
        have := List.getElem?_eq_none_iff.1 hn
        rw [← hbs] at this
        have e : bs.data.toList.length = bs.size := by simp
        omega
      simp [Instr.next, hgo, this]
    · intro c hc h128
      obtain ⟨h1, h2⟩ := getD_data hbs hc
      have hc' : c.toNat < 128 := h128
      have hdec : Utf8.decode bs pos = (c.toNat, 1) := by
        simp only [Utf8.decode, Nat.add_zero, h2, hc', if_true]
      have hso := run_setObj' (P := P) (o := .stringIter bs (pos + 1)) hobj rfl
      obtain ⟨k1, k2⟩ := hH.putObj hr (x := .siter s (pos + 1)) (o := .stringIter bs (pos + 1)) ⟨bs, rfl, hbs⟩ (fun _ _ _ e => by cases e)
      exact ⟨_, by simp [Instr.next, hgo, h1, hdec, hso, goInt], k1, k2⟩

/-! ### Freezing -/
theorem AV.Free.cells {x : AV} (h : x.Free) : ∀ y, y ∈ cellsOf x → y.Free := by
  intro y hy
  cases h with
  | agg cs h => exact h y hy
  | _ => simp [cellsOf] at hy; subst hy; constructor <;> assumption

/-- Cells that stay suffice for such a value. -/
theorem VR.free {γ γ' : Gh} (hlv : ∀ B i v, γ.lv B i = some v → γ'.lv B i = some v) {x : AV} {v : Value} (h : VR γ x v) : x.Free → VR γ' x v := by
  induction h with
  | bad v => exact fun _ => .bad v
  | bool b => exact fun _ => .bool b
  | int k n => exact fun _ => .int k n
  | str l s h => exact fun _ => .str l s h
  | ptr o h => exact fun hf => by cases hf
  | iter h => exact fun hf => by cases hf
  | vptr o c h1 h hv ih => exact fun hf => by cases hf with | vptr _ _ hf => exact .vptr o c h1 (fun j x hx => hlv _ _ _ (h j x hx)) fun j x hx => ih j x hx (hf x (List.mem_of_getElem? hx))
  | nilptr => exact fun _ => .nilptr
  | nils => exact fun _ => .nils
  | vs c h1 hsz hlv' hv hcap htok ih =>
    exact fun hf => by
      cases hf with
      | vs _ hf => exact .vs c h1 hsz (fun i x j y hx hy => hlv _ _ _ (hlv' i x j y hx hy)) (fun i x j y hx hy => ih i x j y hx hy ((hf x (List.mem_of_getElem? hx)).cells y (List.mem_of_getElem? hy))) hcap (fun t ht => by cases ht)
  | rs o len e h hcap hext => exact fun hf => by cases hf
  | mapNil => exact fun _ => .mapNil
  | map h => exact fun hf => by cases hf
  | func hf la lb ha hb iha ihb => exact fun hf => by cases hf
  | nilFunc => exact fun _ => .nilFunc
  | iface t h ih => exact fun hf => by cases hf with | iface _ _ hf => exact .iface t (ih hf)
  | nilIface => exact fun _ => .nilIface
  | agg h1 l h ih => exact fun hf => by cases hf with | agg _ hf => exact .agg h1 l fun i x v hx hv => ih i x v hx hv (hf x (List.mem_of_getElem? hx))
  | tuple l h ih => exact fun hf => by cases hf with | tuple _ hf => exact .tuple l fun i x v hx hv => ih i x v hx hv (hf x (List.mem_of_getElem? hx))

end
end Go.AM

/-
  THE ABSTRACT MACHINE: freezing is sound: memory stays; what a value shows is locked.
-/
namespace Go.AM

/-- What freezing does. -/
def FrzR (γ : Gh) (H : Heap) (w : World) (x x' : AV) (u : Value) (H' : Heap) : Prop :=
  ∃ γ', HR γ' H' w ∧ Ext γ H w γ' H' w ∧ VR γ' x' u ∧ x'.Free ∧ γ'.rho = γ.rho ∧ (one x = true → one x' = true) ∧ ((∃ cs, x = .agg cs) → ∃ cs, x' = .agg cs)

section
variable {C : Ctx} {P : Program} {γ : Gh} {H : Heap} {w : World}

theorem FrzR.id (hH : HR γ H w) {x : AV} {u : Value} (hx : VR γ x u) (hf : x.Free) : FrzR γ H w x x u H :=
  ⟨γ, hH, .refl _ _ _, hx, hf, rfl, fun h => h, fun h => h⟩

theorem GR.pass (hg : GR C γ) {γ' : Gh} (hle : γ.Le γ') : GR C γ' := hg.mono hle

/-- A list of values. -/
theorem frzL_sound {f : AV → Heap → Option (AV × Heap)} (hf : ∀ γ H x x' u H', GR C γ → HR γ H w → VR γ x u → f x H = some (x', H') → FrzR γ H w x x' u H') :
    ∀ (xs : List AV) (us : List Value) (γ : Gh) (H : Heap) (xs' : List AV) (H' : Heap), GR C γ → HR γ H w → VRs γ xs us → frzL f xs H = some (xs', H') →
    ∃ γ', HR γ' H' w ∧ Ext γ H w γ' H' w ∧ VRs γ' xs' us ∧ (∀ x, x ∈ xs' → x.Free) ∧ γ'.rho = γ.rho ∧
      (∀ (i : Nat) (x x' : AV), xs[i]? = some x → xs'[i]? = some x' → (one x = true → one x' = true) ∧ ((∃ cs, x = .agg cs) → ∃ cs, x' = .agg cs))
  | [], us, γ, H, xs', H', _, hH, hv, h => by
    cases h
    exact ⟨γ, hH, .refl _ _ _, hv, (fun x hx => by cases hx), rfl, (fun i x x' hx => by simp at hx)⟩
  | x :: xs, [], γ, H, xs', H', _, _, hv, _ => by have := hv.1; simp at this
  | x :: xs, u :: us, γ, H, xs', H', hg, hH, hv, h => by
    rw [frzL, Option.bind_eq_some_iff] at h
    obtain ⟨⟨x', H1⟩, h1, h⟩ := h
    obtain ⟨⟨ys, H2⟩, h2, h⟩ := Option.map_eq_some_iff.1 h
    cases h
    obtain ⟨γ1, a1, a2, a3, a4, a5, a6, a7⟩ := hf γ H x x' u H1 hg hH hv.head h1
    obtain ⟨γ2, b1, b2, b3, b4, b5, b6⟩ := frzL_sound hf xs us γ1 H1 _ _ (hg.mono a2.le) a1 (hv.tail.mono a2.le) h2
    refine ⟨γ2, b1, a2.trans b2, VRs.cons (a3.mono b2.le) b3, fun y hy => ?_, b5.trans a5, fun i y y' hy hy' => ?_⟩
    · rcases List.mem_cons.1 hy with rfl | hy
      · exact a4
      · exact b4 y hy
    · cases i with
      | zero => simp at hy hy'; subst hy; subst hy'; exact ⟨a6, a7⟩
      | succ i => exact b6 i y y' (by simpa using hy) (by simpa using hy')

/-- An element of a list, as one value. -/
theorem elem_val {x : AV} {c : Nat → Value} (h1 : ∀ y, y ∈ cellsOf x → one y = true) (hv : ∀ (j : Nat) (y : AV), (cellsOf x)[j]? = some y → VR γ y (c j)) : ∃ u, VR γ x u ∧ stor x = true ∧ ∀ (j : Nat) (y : AV), (cellsOf x)[j]? = some y → u.cells.toList[j]? = some (c j) := by
  by_cases hx : ∃ cs, x = .agg cs
  · obtain ⟨cs, rfl⟩ := hx
    simp only [cellsOf] at h1 hv
    refine ⟨.agg (((List.range cs.length).map c).toArray), VRs.agg ⟨by simp, fun i y v hy hv' => ?_⟩ h1, rfl, fun j y hy => ?_⟩
    · have hi : i < cs.length := (List.getElem?_eq_some_iff.1 hy).1
      simp [hi] at hv'
      rw [← hv']; exact hv i y hy
    · have hi : j < cs.length := (List.getElem?_eq_some_iff.1 hy).1
      simp [Value.cells, hi]
  · have hc : cellsOf x = [x] := by
      cases x <;> first | rfl | exact absurd ⟨_, rfl⟩ hx
    rw [hc] at h1 hv ⊢
    have ho := h1 x (by simp)
    have h0 := hv 0 x rfl
    refine ⟨c 0, h0, ?_, fun j y hy => ?_⟩
    · cases x <;> first | rfl | cases ho
    · cases j with
      | zero =>
        have e : (c 0).cells = #[c 0] := by
          generalize c 0 = u at h0
          cases h0 <;> first | rfl | cases ho
        rw [e]; rfl
      | succ j => simp at hy

/-- A list whose elements are frozen. -/
theorem frz_vs {f : AV → Heap → Option (AV × Heap)} (hf : ∀ γ H x x' u H', GR C γ → HR γ H w → VR γ x u → f x H = some (x', H') → FrzR γ H w x x' u H')
    (hg : GR C γ) (hH : HR γ H w) {xs xs' : List AV} {u : Value} {H' : Heap} (hx : VR γ (.vs xs none) u) (h : frzL f xs H = some (xs', H')) :
    ∃ γ', HR γ' H' w ∧ Ext γ H w γ' H' w ∧ VR γ' (.vs xs' none) u ∧ (AV.vs xs' none).Free ∧ γ'.rho = γ.rho := by
  cases hx with
  | @vs _ _ B base cap sz c h1 hsz hlv hv hcap htok =>
    have hel : ∀ i, (hi : i < xs.length) → ∃ u, VR γ xs[i] u ∧ stor xs[i] = true ∧ ∀ (j : Nat) (y : AV), (cellsOf xs[i])[j]? = some y → u.cells.toList[j]? = some (c i j) := fun i hi =>
      elem_val (fun y hy => h1 _ (List.getElem_mem hi) y hy) (fun j y hy => hv i _ j y (List.getElem?_eq_getElem hi) hy)
    let us : List Value := (List.range xs.length).map fun i => if hi : i < xs.length then (hel i hi).choose else undef
    have hus : ∀ i, (hi : i < xs.length) → us[i]? = some (hel i hi).choose := fun i hi => by simp [us, hi]
    have hvs : VRs γ xs us := ⟨by simp [us], fun i x v hx hv' => by
      obtain ⟨hi, rfl⟩ := List.getElem?_eq_some_iff.1 hx
      rw [hus i hi] at hv'
      cases hv'
      exact (hel i hi).choose_spec.1⟩
    obtain ⟨γ', b1, b2, b3, b4, b5, b6⟩ := frzL_sound hf xs us γ H xs' H' hg hH hvs h
    have hlen : xs'.length = xs.length := by rw [b3.1]; simp [us]
    -- cells of a frozen element
    have key : ∀ (i : Nat) (x' : AV), xs'[i]? = some x' → ∃ x, xs[i]? = some x ∧ (cellsOf x').length = (cellsOf x).length ∧ (∀ y, y ∈ cellsOf x' → one y = true) ∧
        ∀ (j : Nat) (y : AV), (cellsOf x')[j]? = some y → VR γ' y (c i j) := by
      intro i x' hx'
      have hi : i < xs.length := by rw [← hlen]; exact (List.getElem?_eq_some_iff.1 hx').1
      obtain ⟨e1, e2, e3⟩ := (hel i hi).choose_spec
      have hst : stor x' = true := by
        obtain ⟨c1, c2⟩ := b6 i xs[i] x' (List.getElem?_eq_getElem hi) hx'
        by_cases ho : one xs[i] = true
        · have := c1 ho
          cases x' <;> first | rfl | cases this
        · have : ∃ cs, xs[i] = .agg cs := by
            cases hxi : xs[i] <;> rw [hxi] at ho e2 <;> first | exact ⟨_, rfl⟩ | exact absurd rfl ho | cases e2
          obtain ⟨cs, rfl⟩ := c2 this
          rfl
      have hr := b3.2 i x' _ hx' (hus i hi)
      obtain ⟨d1, d2⟩ := hr.cells hst
      obtain ⟨d3, _⟩ := e1.cells e2
      have hl : (cellsOf x').length = (cellsOf xs[i]).length := d1.1.trans d3.1.symm
      refine ⟨xs[i], List.getElem?_eq_getElem hi, hl, d2, fun j y hy => ?_⟩
      have hj : j < (cellsOf xs[i]).length := by rw [← hl]; exact (List.getElem?_eq_some_iff.1 hy).1
      have := e3 j _ (List.getElem?_eq_getElem hj)
      exact d1.2 j y _ hy this
    refine ⟨γ', b1, b2, ?_, .vs _ b4, b5⟩
    have hcap' : xs'.length ≤ cap := by omega
    have := VR.vs (γ := γ') (xs := xs') (tok := none) (B := B) (base := base) (cap := cap) (sz := sz) c
      (fun x hx y hy => by
        obtain ⟨i, hi⟩ := List.getElem?_of_mem hx
        obtain ⟨_, _, _, k, _⟩ := key i x hi
        exact k y hy)
      (fun i x hx => by
        obtain ⟨x0, k1, k2, _⟩ := key i x hx
        rw [k2]; exact hsz i x0 k1)
      (fun i x j y hx hy => by
        obtain ⟨x0, k1, k2, _⟩ := key i x hx
        have hj : j < (cellsOf x0).length := by rw [← k2]; exact (List.getElem?_eq_some_iff.1 hy).1
        exact b2.le.lv _ _ _ (hlv i x0 j _ k1 (List.getElem?_eq_getElem hj)))
      (fun i x j y hx hy => by
        obtain ⟨x0, _, _, _, k⟩ := key i x hx
        exact k j y hy)
      hcap' (fun t ht => by cases ht)
    rwa [hlen] at this

/-- An owned row, made a list that never changes again. -/
theorem lock_row (hg : GR C γ) (hH : HR γ H w) {b o len e : Nat} {u : Value} (hx : VR γ (.rs b o len e) u) {cs xs : List AV} {i : TI} (hi : C.ti e = some i) (hs : (i.agg || i.size == 1) = true) (hk : H.blk b = .cells cs) (hc : chunkA i len (cs.drop o) = some xs) :
    ∃ γ', HR γ' (H.set b .dead) w ∧ Ext γ H w γ' (H.set b .dead) w ∧ VR γ' (.vs xs none) u ∧ γ'.rho = γ.rho := by
  cases hx with
  | @rs _ B base ext cap _ _ _ hr hcap hext =>
    have hrow := (hH.row hr hk).drop o
    have ha : i.agg = false → i.size = 1 := fun h => by simpa [h] using hs
    obtain ⟨e1, e2, e3, e4⟩ := chunk_flat len (cs.drop o) xs hrow.one hc ha
    obtain ⟨c1, c2, c3⟩ := hH.cells b B base ext cs hr hk
    rw [List.length_drop] at e2
    have hown : ∀ j, base + o ≤ j → j < base + o + len * i.size → own γ H b B j := fun j h1 h2 => by
      by_cases hz : len * i.size = 0
      · omega
      · exact (own_cells hr hk B j).2 ⟨rfl, by omega, by omega⟩
    have hfr := hH.fresh _ (Nat.le_refl H.next)
    have key := hH.pass (w' := w) (b := b) (own_lt_rho hH hr) (fun r e => by rw [hr] at e; cases e) (.refl _ w) (K := H.set b .dead) (Nat.le_refl _) (q := none) (fun p e => by cases e) (fun j hj _ => by simp [Heap.set, hj])
      (l := fun B' j => if B' = B ∧ base + o ≤ j ∧ j < base + o + len * i.size then w.cell? ⟨B, j, none⟩ else none)
      (fun B' j v hv => by
        split at hv
        · rename_i hc
          obtain ⟨rfl, h1, h2⟩ := hc
          refine ⟨hown j h1 h2, hv, fun ho => ?_⟩
          unfold own at ho
          simp [Gh.pass] at ho
        · cases hv)
      (.inl (by simp [Heap.set])) (fun _ _ _ _ e => by cases e) (fun _ _ _ _ _ _ e => by cases e) (fun _ e => by cases e)
    refine ⟨_, key.1, key.2, ?_, ?_⟩
    · subst e3
      have hcell : ∀ (i' : Nat) (x : AV) (j : Nat) (y : AV), xs[i']? = some x → (cellsOf x)[j]? = some y → i' * i.size + j < xs.length * i.size ∧ ∃ v, w.cell? ⟨B, base + o + (i' * i.size + j), none⟩ = some v ∧ VR γ y v ∧ one y = true := fun i' x j y hx hy => by
        have h1 := flatA_get xs e4 i' x j y hx hy
        rw [e1, List.getElem?_take] at h1
        split at h1
        · rename_i hlt
          exact ⟨hlt, hrow _ y h1⟩
        · cases h1
      refine VR.vs (sz := i.size) (fun i' j => (w.cell? ⟨B, base + o + (i' * i.size + j), none⟩).getD undef) (fun x hx y hy => ?_) (fun i' x hx => e4 x (List.mem_of_getElem? hx)) (fun i' x j y hx hy => ?_) (fun i' x j y hx hy => ?_) hcap (fun t ht => by cases ht)
      · obtain ⟨i', hi'⟩ := List.getElem?_of_mem hx
        obtain ⟨j, hj⟩ := List.getElem?_of_mem hy
        obtain ⟨_, _, _, _, h⟩ := hcell i' x j y hi' hj
        exact h
      · obtain ⟨hlt, v, h1, _⟩ := hcell i' x j y hx hy
        have hin : base + o ≤ base + o + i' * i.size + j ∧ base + o + i' * i.size + j < base + o + xs.length * i.size := by omega
        simp only [Gh.pass, true_and, hin, and_self, if_true]
        rw [show base + o + i' * i.size + j = base + o + (i' * i.size + j) by omega, h1]
        rfl
      · obtain ⟨hlt, v, h1, h2, _⟩ := hcell i' x j y hx hy
        rw [h1]
        exact h2.mono key.2.le
    · funext j
      simp only [Gh.pass]
      by_cases e : j = H.next
      · subst e; simp [hfr]
      · simp [e]

theorem frz_sound (w : World) : ∀ (n : Nat) (γ : Gh) (H : Heap) (x x' : AV) (u : Value) (H' : Heap), GR C γ → HR γ H w → VR γ x u → frz C n x H = some (x', H') → FrzR γ H w x x' u H'
  | 0, _, _, _, _, _, _, _, _, _, h => by cases h
  | n + 1, γ, H, x, x', u, H', hg, hH, hx, h => by
    have ih := frz_sound w n
    unfold frz at h
    split at h
    · cases h
    · cases h
    · cases h
    · cases h
    · cases h
    · cases h
    · rename_i xs tok
      obtain ⟨⟨ys, H1⟩, h1, h⟩ := Option.map_eq_some_iff.1 h
      cases h
      have hx' : VR γ (.vs xs none) u := by
        cases hx with
        | vs c a1 a2 a3 a4 a5 a6 => exact .vs c a1 a2 a3 a4 a5 (fun t ht => by cases ht)
      obtain ⟨γ', b1, b2, b3, b4, b5⟩ := frz_vs ih hg hH hx' h1
      exact ⟨γ', b1, b2, b3, b4, b5, fun _ => rfl, fun ⟨_, e⟩ => by cases e⟩
    · rename_i b o len e
      rw [Option.bind_eq_some_iff] at h
      obtain ⟨i, hi, h⟩ := h
      split at h
      · rename_i hs
        rw [Option.bind_eq_some_iff] at h
        obtain ⟨cs, hb, h⟩ := h
        rw [Option.bind_eq_some_iff] at h
        obtain ⟨xs, hxs, h⟩ := h
        obtain ⟨⟨ys, H1⟩, h1, h⟩ := Option.map_eq_some_iff.1 h
        cases h
        obtain ⟨γ1, a1, a2, a3, a4⟩ := lock_row hg hH hx hi hs (cells?_some hb) hxs
        obtain ⟨γ', b1, b2, b3, b4, b5⟩ := frz_vs ih (hg.mono a2.le) a1 a3 h1
        exact ⟨γ', b1, a2.trans b2, b3, b4, b5.trans a4, fun _ => rfl, fun ⟨_, e⟩ => by cases e⟩
      · cases h
    · rename_i t y
      obtain ⟨⟨y', H1⟩, h1, h⟩ := Option.map_eq_some_iff.1 h
      cases h
      cases hx with
      | iface _ hy =>
        obtain ⟨γ', b1, b2, b3, b4, b5, _, _⟩ := ih γ H y y' _ H1 hg hH hy h1
        exact ⟨γ', b1, b2, .iface t b3, .iface _ _ b4, b5, fun _ => rfl, fun ⟨_, e⟩ => by cases e⟩
    · rename_i cs
      obtain ⟨⟨ys, H1⟩, h1, h⟩ := Option.map_eq_some_iff.1 h
      cases h
      obtain ⟨us, rfl, hr, hone⟩ := hx.agg_inv
      obtain ⟨γ', b1, b2, b3, b4, b5, b6⟩ := frzL_sound ih cs us.toList γ H ys H1 hg hH hr h1
      refine ⟨γ', b1, b2, VRs.agg b3 (fun y hy => ?_), .agg _ b4, b5, (fun h => by cases h), (fun _ => ⟨_, rfl⟩)⟩
      obtain ⟨i, hi⟩ := List.getElem?_of_mem hy
      have hlt : i < cs.length := by rw [hr.1, ← b3.1]; exact (List.getElem?_eq_some_iff.1 hi).1
      exact (b6 i _ y (List.getElem?_eq_getElem hlt) hi).1 (hone _ (List.getElem_mem hlt))
    · rename_i cs
      obtain ⟨⟨ys, H1⟩, h1, h⟩ := Option.map_eq_some_iff.1 h
      cases h
      obtain ⟨us, rfl, hr⟩ := hx.tuple_inv
      obtain ⟨γ', b1, b2, b3, b4, b5, b6⟩ := frzL_sound ih cs us.toList γ H ys H1 hg hH hr h1
      exact ⟨γ', b1, b2, VRs.tuple b3, .tuple _ b4, b5, (fun h => by cases h), (fun ⟨_, e⟩ => by cases e)⟩
    · cases h
      refine FrzR.id hH hx ?_
      cases x with
      | map r => cases r with
        | none => exact .mapNil
        | some r => rename_i hh _ _ _ _ _ _ _ _; exact (hh r rfl).elim
      | bool b => exact .bool b
      | int k n => exact .int k n
      | str s => exact .str s
      | nilptr => exact .nilptr
      | nils => exact .nils
      | nilFunc => exact .nilFunc
      | nilIface => exact .nilIface
      | rs b o len e => exact (‹∀ (b' o' len' e' : Nat), AV.rs b o len e = AV.rs b' o' len' e' → False› _ _ _ _ rfl).elim
      | _ => simp_all

end
end Go.AM

/-
  THE ABSTRACT MACHINE: running code is sound, first part: states; operands; a pure call's memory and its caller's.
-/
namespace Go.AM

inductive DefR (γ : Gh) : ADef → Deferred → Prop where
  | coll {d r : Nat} {a : Array Value} (h : γ.rho d = some (.obj r)) : DefR γ (.coll d) ⟨.collected r, a⟩
  | call {f : Nat} {cap args : List AV} {cap' args' : Array Value} (hc : VRs γ cap cap'.toList) (ha : VRs γ args args'.toList) : DefR γ (.call (.func f) cap args) ⟨.fn (.func f) cap', args'⟩

inductive DefsR (γ : Gh) : List ADef → List Deferred → Prop where
  | nil : DefsR γ [] []
  | cons {d : ADef} {d' : Deferred} {l : List ADef} {l' : List Deferred} (h : DefR γ d d') (hs : DefsR γ l l') : DefsR γ (d :: l) (d' :: l')

theorem DefR.mono {γ γ' : Gh} (hle : γ.Le γ') {d : ADef} {d' : Deferred} (h : DefR γ d d') : DefR γ' d d' := by
  cases h with
  | coll h => exact .coll (hle.rho _ _ h)
  | call hc ha => exact .call (hc.mono hle) (ha.mono hle)
theorem DefsR.mono {γ γ' : Gh} (hle : γ.Le γ') {d : List ADef} {d' : List Deferred} (h : DefsR γ d d') : DefsR γ' d d' := by
  induction h with
  | nil => exact .nil
  | cons h _ ih => exact .cons (h.mono hle) ih

structure StR (γ : Gh) (st : St) (a : Act) (w : World) : Prop where
  hp : HR γ st.hp w
  nt : a.tmps.size = st.nt
  env : ∀ t, VR γ (st.env t) (a.tmps.getD t undef)
  defs : DefsR γ st.defs a.defers

inductive ExR (γ : Gh) : Ex → Exit → Prop where
  | normal : ExR γ .normal .normal
  | exit (id : Nat) : ExR γ (.exit id) (.exit id)
  | ret : ExR γ .ret .ret
  | panic {v : AV} {u : Value} (h : VR γ v u) : ExR γ (.panic v) (.panic [{ v := u, recovered := false }])

def fen (r : Option Nat) : Fence := { Fence.wide with round := r }

inductive RoR (γ : Gh) : Option Nat → Option Nat → Prop where
  | none : RoR γ none none
  | some {l r : Nat} (h : γ.rho l = some (.obj r)) : RoR γ (some l) (some r)

theorem RoR.mono {γ γ' : Gh} (hle : γ.Le γ') {l r : Option Nat} (h : RoR γ l r) : RoR γ' l r := by
  cases h with
  | none => exact .none
  | some h => exact .some (hle.rho _ _ h)

/-- What holds behind code that the interpreter has run. -/
def Post (γ : Gh) (H : Heap) (w : World) (e : Ex) (st' : St) : Exit → Act → World → Prop := fun e' a' w' => ∃ γ', StR γ' st' a' w' ∧ Ext γ H w γ' st'.hp w' ∧ ExR γ' e e'

/-- Behind a call. -/
def CPost (γ : Gh) (H : Heap) (w : World) (r : CR) (H' : Heap) : Ending → World → Prop
  | .returned v, w' => ∃ γ' a, r = .ret a ∧ VR γ' a v ∧ HR γ' H' w' ∧ Ext γ H w γ' H' w'
  | .panicked chain, w' => ∃ γ' a u, r = .pan a ∧ chain = [{ v := u, recovered := false }] ∧ VR γ' a u ∧ HR γ' H' w' ∧ Ext γ H w γ' H' w'
  | .outgrown, _ => False

/-- The interpreter is sound. -/
def RunS (C : Ctx) (P : Program) (ex : Run) : Prop := ∀ ro r c st e st' γ a w, ex ro c st = some (e, st') → GR C γ → RoR γ ro r → StR γ st a w → c.wpIn (fen r) 0 P (Post γ st.hp w e st') a w

section
variable {C : Ctx} {P : Program} {γ : Gh} {H : Heap} {w : World}

theorem constR (v : Value) : VR γ (ofConst v) v := by
  unfold ofConst
  split
  · exact .bool _
  · exact .int _ _
  · exact .str _ _ rfl
  · exact .nilptr
  · exact .nils
  · exact .mapNil
  · exact .nilFunc
  · exact .nilIface
  · exact .bad _

theorem evR (hg : GR C γ) {env : Nat → AV} {a : Act} (he : ∀ t, VR γ (env t) (a.tmps.getD t undef)) (x : Operand) : VR γ (ev C env x) (a.eval x) := by
  cases x with
  | tmp t => exact he t
  | const v => exact constR v
  | global g =>
    simp only [ev, Act.eval]
    cases hc : C.glob g with
    | none => exact .bad _
    | some cs =>
      have h := hg.glob g cs hc
      have := VR.vptr (γ := γ) (cs := cs) (B := g) (base := 0) 0 (fun j => if hj : j < cs.length then (h j cs[j] (List.getElem?_eq_getElem hj)).2.choose else undef)
        (fun x hx => by obtain ⟨j, hj⟩ := List.getElem?_of_mem hx; exact (h j x hj).1)
        (fun j x hx => by
          obtain ⟨hj, rfl⟩ := List.getElem?_eq_some_iff.1 hx
          rw [dif_pos hj, Nat.zero_add]
          exact (h j cs[j] (List.getElem?_eq_getElem hj)).2.choose_spec.1)
        (fun j x hx => by
          obtain ⟨hj, rfl⟩ := List.getElem?_eq_some_iff.1 hx
          rw [dif_pos hj]
          exact (h j cs[j] (List.getElem?_eq_getElem hj)).2.choose_spec.2)
      simpa using this
  | func f => exact .func (.func f) rfl rfl (fun i x v h => by simp at h) (fun i x v h => by simp at h)

theorem StR.put {st st' : St} {a : Act} (h : StR γ st a w) {dst : Option Nat} {v : AV} {u : Value} (hv : VR γ v u) (hp : st.put dst v = some st') : StR γ st' (a.put dst u) w ∧ st'.hp = st.hp := by
  unfold St.put at hp
  cases dst with
  | none => cases hp; exact ⟨h, rfl⟩
  | some d =>
    simp only at hp
    split at hp
    · rename_i hd
      cases hp
      refine ⟨⟨h.hp, by simp [Act.put, h.nt], fun t => ?_, h.defs⟩, rfl⟩
      simp only [Act.put, upd]
      by_cases ht : t = d
      · subst ht
        have : t < a.tmps.size := by rw [h.nt]; exact hd
        simpa [Array.getD_eq_getD_getElem?, this] using hv
      · simpa [Array.getD_eq_getD_getElem?, ht, Array.getElem?_setIfInBounds_ne (Ne.symm ht)] using h.env t
    · cases hp

theorem StR.mono {γ' : Gh} {st : St} {a : Act} {w' : World} (h : StR γ st a w) (hle : γ.Le γ') {H' : Heap} (hH : HR γ' H' w') : StR γ' { st with hp := H' } a w' :=
  ⟨hH, h.nt, fun t => (h.env t).mono hle, h.defs.mono hle⟩

theorem guardR {ops : List Oper} {st : St} {a : Act} (h : StR γ st a w) {o : Oper} {g : Bool} (hg : guardOk ops st o = some g) : Region.wanted o (yielded ops.toArray a.tmps) = g := by
  unfold guardOk at hg
  unfold Region.wanted
  cases ho : o.guard with
  | none => rw [ho] at hg; simpa using hg
  | some p =>
    obtain ⟨j, want⟩ := p
    rw [ho] at hg
    simp only [Option.bind_eq_some_iff] at hg
    obtain ⟨q, hq, d, hd, hg⟩ := hg
    have hv := h.env d
    split at hg
    · rename_i b hb
      rw [hb] at hv
      have hv' := hv.bool_inv
      have : a.tmps[d]? = some (.bool b) := by
        rw [Array.getD_eq_getD_getElem?] at hv'
        cases ht : a.tmps[d]? with
        | none => rw [ht] at hv'; simp [undef] at hv'
        | some v => rw [ht] at hv'; simpa using hv'
      cases hg
      simp [yielded, hq, hd, this]
    · cases hg

/-- The caller's memory behind a pure call. -/
theorem pure_back {γ3 : Gh} {H3 : Heap} {w2 : World} (h1 : HR γ H w) (h3 : HR γ3 H3 w2) (he : Ext ⟨fun _ => none, γ.lv, γ.esz⟩ Heap.empty w γ3 H3 w2) :
    HR ⟨γ.rho, γ3.lv, γ.esz⟩ H w2 ∧ Ext γ H w ⟨γ.rho, γ3.lv, γ.esz⟩ H w2 := by
  have hno : ∀ b B i, ¬ own ⟨fun _ => none, γ.lv, γ.esz⟩ Heap.empty b B i := fun b B i ho => ho
  have hcell : ∀ B i, B < w.heap.size → w2.cell? ⟨B, i, none⟩ = w.cell? ⟨B, i, none⟩ := fun B i hB => he.cell B i hB fun b => hno b B i
  have hblk : ∀ B, B < w.heap.size → w2.heap[B]? = w.heap[B]? := fun B hB => he.blk B hB (fun b i => hno b B i) fun ⟨b, hb⟩ => by cases hb
  have hfrz : ∀ B i, B < w.heap.size → w2.frozen? ⟨B, i, none⟩ = w.frozen? ⟨B, i, none⟩ := fun B i hB => by simp only [World.frozen?, hblk B hB]
  have hle : γ.Le ⟨γ.rho, γ3.lv, γ.esz⟩ := ⟨fun _ _ h => h, fun B i v hv => he.le.lv B i v hv, rfl⟩
  have hlv : ∀ B i v, γ3.lv B i = some v → B < w.heap.size → γ.lv B i = some v := fun B i v hv hB => by
    rcases he.lvn B i v hv hB with h | ⟨b, hb⟩
    · exact h
    · exact (hno b B i hb).elim
  have hpair : ∀ B i, ((∃ v, w.cell? ⟨B, i, none⟩ = some v) ∧ w.frozen? ⟨B, i, none⟩ = false) → ((∃ v, w2.cell? ⟨B, i, none⟩ = some v) ∧ w2.frozen? ⟨B, i, none⟩ = false) := fun B i ⟨⟨v, a1⟩, a2⟩ =>
    ⟨⟨v, by rw [hcell B i (cell_lt a1)]; exact a1⟩, by rw [hfrz B i (cell_lt a1)]; exact a2⟩
  refine ⟨⟨h1.fresh, ?_, ?_, ?_, h3.lock, h1.d1, ?_, h1.d3⟩, ⟨hle, he.size, Nat.le_refl _, fun B i hB _ => hcell B i hB, fun B hB _ _ => hblk B hB, he.kind, fun b B i ho _ => ⟨b, ho⟩, fun _ _ h _ => h, fun B i v hv hB => .inl (hlv B i v hv hB), fun _ _ => rfl, he.os⟩⟩
  · intro b B base ext cs hr hk
    obtain ⟨c1, c2, c3⟩ := h1.cells b B base ext cs hr hk
    exact ⟨c1, fun j x hx => let ⟨v, a1, a2, a3⟩ := c2 j x hx; ⟨v, by rw [hcell _ _ (cell_lt a1)]; exact a1, a2.mono hle, a3⟩, fun j hj => hpair _ _ (c3 j hj)⟩
  · intro b B base len cap sz s hr hk
    obtain ⟨c1, c2⟩ := h1.toks b B base len cap sz s hr hk
    exact ⟨c1, fun j a1 a2 => hpair _ _ (c2 j a1 a2)⟩
  · intro b r hr
    obtain ⟨c1, c2, c3⟩ := h1.objs b r hr
    exact ⟨Nat.lt_of_lt_of_le c1 he.size, by rw [hblk r c1]; exact c2.mono hle, by rw [hblk r c1]; exact c3⟩
  · intro b B i ho
    cases hv : γ3.lv B i with
    | none => rfl
    | some v =>
      obtain ⟨⟨u, hu⟩, _⟩ := own_cell h1 ho
      have := hlv B i v hv (cell_lt hu)
      rw [h1.d2 b B i ho] at this
      cases this

/-- Where a pure call starts. -/
theorem pure_in (h : HR γ H w) : HR ⟨fun _ => none, γ.lv, γ.esz⟩ Heap.empty w :=
  ⟨(fun _ _ => rfl), (fun _ _ _ _ _ h => by cases h), (fun _ _ _ _ _ _ _ h => by cases h), (fun _ _ h => by cases h), h.lock, (fun _ _ _ _ h => h.elim), (fun _ _ _ h => h.elim), (fun _ _ _ h => by cases h)⟩

theorem GR.pure (hC : CtxR C P) (hg : GR C γ) {γ' : Gh} (hlv : ∀ B i v, γ.lv B i = some v → γ'.lv B i = some v) (he : γ'.esz = γ.esz) : GR C γ' :=
  ⟨fun e i h => by rw [he]; exact hg.esz e i h, fun g cs h j x hx => let ⟨a, v, b, c⟩ := hg.glob g cs h j x hx; ⟨a, v, hlv _ _ _ b, c.free hlv (hC.globF g cs h x (List.mem_of_getElem? hx))⟩⟩

theorem VRs.free {γ' : Gh} (hlv : ∀ B i v, γ.lv B i = some v → γ'.lv B i = some v) {xs : List AV} {us : List Value} (h : VRs γ xs us) (hf : ∀ x, x ∈ xs → x.Free) : VRs γ' xs us :=
  ⟨h.1, fun i x v hx hv => (h.2 i x v hx hv).free hlv (hf x (List.mem_of_getElem? hx))⟩

end
end Go.AM

/-
  THE ABSTRACT MACHINE: running code is sound, second part: results; a function on its way out; calls.
-/
namespace Go.AM

inductive MdR (γ : Gh) : Md → FrameMode → Prop where
  | returning : MdR γ .returning .returning
  | panicking {v : AV} {u : Value} (h : VR γ v u) : MdR γ (.panicking v) (.panicking [{ v := u, recovered := false }])

/-- Deferred calls are sound. -/
def DefS (C : Ctx) (P : Program) : Prop := ∀ (r : Option Nat) f args us (u : Md) (m : FrameMode) H H' u' γ w, runDef C (.func f) args u H = some (u', H') → GR C γ → HR γ H w → VRs γ args us → MdR γ u m →
  CallsDIn (fen r) 0 P f us.toArray m w fun e m' w' => ∃ v, e = .returned v ∧ ∃ γ', MdR γ' u' (settle m') ∧ HR γ' H' w' ∧ Ext γ H w γ' H' w'

section
variable {C : Ctx} {P : Program} {γ : Gh} {H : Heap} {w : World}

theorem loadA_ptr {t : Nat} {p a : AV} {v : Value} (hp : VR γ p v) (h : loadA C t p H = some a) : ∃ x, v = .pointer (some x) := by
  unfold loadA at h
  rw [Option.bind_eq_some_iff] at h
  obtain ⟨i, _, h⟩ := h
  cases hp with
  | ptr => exact ⟨_, rfl⟩
  | vptr => exact ⟨_, rfl⟩
  | _ => cases h

def resF (tmps : Array Value) : ResultVar → Sem Value
  | .tmp t => pure (tmps.getD t undef)
  | .cell a t => do loadVar t (← asAddr (tmps.getD a undef))

theorem resV_sound (hC : CtxR C P) (hH : HR γ H w) {st : St} {tmps : Array Value} (he : ∀ t, VR γ (st.env t) (tmps.getD t undef)) {q : ResultVar} {v : AV} (h : resV C { st with hp := H } q = some v) :
    ∃ u, (resF tmps q).run P w = .ok u w ∧ VR γ v u := by
  cases q with
  | tmp t => simp only [resV, Option.some.injEq] at h; subst h; exact ⟨_, rfl, he t⟩
  | cell a t =>
    simp only [resV] at h
    obtain ⟨u, h1, h2⟩ := loadA_sound hC hH (he a) h
    refine ⟨u, ?_, h2⟩
    obtain ⟨x, hx⟩ := loadA_ptr (he a) h
    rw [← h1]
    simp [resF, hx, asAddr, Instr.loadAt, Instr.sureAddr]

theorem resVs_sound (hC : CtxR C P) (hH : HR γ H w) {st : St} {tmps : Array Value} (he : ∀ t, VR γ (st.env t) (tmps.getD t undef)) : ∀ (l : List ResultVar) (vs : List AV), l.mapM (resV C { st with hp := H }) = some vs →
    ∃ us, (l.mapM (resF tmps)).run P w = .ok us w ∧ VRs γ vs us
  | [], vs, h => by simp at h; subst h; exact ⟨[], by simp, VRs.nil⟩
  | q :: l, vs, h => by
    simp only [List.mapM_cons, Option.bind_eq_bind, Option.pure_def, Option.bind_eq_some_iff] at h
    obtain ⟨v, hv, vs', hvs, h⟩ := h
    cases h
    obtain ⟨u, h1, h2⟩ := resV_sound hC hH he hv
    obtain ⟨us, h3, h4⟩ := resVs_sound hC hH he l vs' hvs
    exact ⟨u :: us, by simp [List.mapM_cons, h1, h3], VRs.cons h2 h4⟩

theorem results_sound (hC : CtxR C P) (hH : HR γ H w) {st : St} {tmps : Array Value} (he : ∀ t, VR γ (st.env t) (tmps.getD t undef)) {F : Func} {v : AV} (h : results1 C F { st with hp := H } = some v) :
    ∃ u, (results F tmps).run P w = .ok u w ∧ VR γ v u := by
  unfold results1 at h
  obtain ⟨vs, hvs, hv⟩ := Option.map_eq_some_iff.1 h
  obtain ⟨us, h1, h2⟩ := resVs_sound hC hH he _ vs hvs
  have hres : results F tmps = (do let vs ← F.results.mapM (resF tmps); pure (if h : vs.size = 1 then vs[0] else .tuple vs)) := by
    unfold results
    congr 1
  rw [hres]
  simp only [Array.mapM_eq_mapM_toList, Sem.run_bind, map_eq_pure_bind, h1, Result.andThen_ok, Sem.run_pure]
  refine ⟨_, rfl, ?_⟩
  have hl := h2.1
  split at hv
  · rename_i x
    cases us with
    | nil => simp at hl
    | cons u us =>
      cases us with
      | nil => subst hv; simpa using h2.head
      | cons => simp at hl
  · rename_i hn
    subst hv
    have hs : ¬ (us.toArray.size = 1) := by
      intro e
      have e' : us.length = 1 := by simpa using e
      rw [e'] at hl
      cases vs with
      | nil => simp at hl
      | cons x vs =>
        cases vs with
        | nil => exact hn x rfl
        | cons => simp at hl
    rw [dif_neg hs]
    exact VRs.tuple (by simpa using h2)

theorem fen_depth (r : Option Nat) : (fen r).depth.isSome = true → 1 ≤ 0 := by intro h; simp [fen, Fence.wide] at h

/-- A function on its way out. -/
theorem runDefs_sound (hC : CtxR C P) (hD : DefS C P) {r0 : Option Nat} {F : Func} {st : St} {tmps : Array Value} {γ0 : Gh} {H0 : Heap} {w0 : World} {r : CR} {H' : Heap} :
    ∀ (ds : List ADef) (ds' : List Deferred) (u : Md) (m : FrameMode) (γ : Gh) (H : Heap) (w : World), runDefs C F st ds u H = some (r, H') → GR C γ → HR γ H w → Ext γ0 H0 w0 γ H w → (∀ t, VR γ (st.env t) (tmps.getD t undef)) → DefsR γ ds ds' → MdR γ u m →
    LeavesInM (fen r0) 0 P F tmps (CPost γ0 H0 w0 r H') ds' m w := by
  intro ds
  induction ds with
  | nil =>
    intro ds' u m γ H w h hg hH hE he hd hm
    cases hd
    cases hm with
    | returning =>
      simp only [runDefs] at h
      obtain ⟨v, hv, h⟩ := Option.map_eq_some_iff.1 h
      cases h
      obtain ⟨u, h1, h2⟩ := results_sound hC hH he hv
      exact ⟨u, h1, γ, v, rfl, h2, hH, hE⟩
    | @panicking v u hv =>
      simp only [runDefs, Option.some.injEq, Prod.mk.injEq] at h
      obtain ⟨rfl, rfl⟩ := h
      exact ⟨γ, v, u, rfl, rfl, hv, hH, hE⟩
  | cons d ds ih =>
    intro ds' u m γ H w h hg hH hE he hd hm
    cases hd with
    | cons hd hds =>
      have hrun : m ≠ .run := by cases hm <;> simp
      refine ⟨hrun, ?_⟩
      cases hd with
      | @coll b r' a hr =>
        simp only [runDefs] at h
        split at h
        · rename_i hb
          obtain ⟨hlt, ho, _⟩ := hH.objs b r' hr
          rw [hb] at ho
          have ho : w.heap[r']? = some (.deferred (some [])) := ho
          obtain ⟨k1, k2⟩ := hH.putObj hr (x := .dead) (o := .deferred none) trivial (fun _ _ _ e => by cases e)
          refine .inl ⟨r', w.putObj r' (.deferred none), rfl, ?_, ih _ u m γ _ _ h hg k1 (hE.trans k2) he hds hm⟩
          simp only [Instr.takeDeferred, Sem.run_bind, run_getObj' ho rfl, Result.andThen_ok, run_setObj' ho rfl, Sem.run_pure]
        · cases h
      | @call f cap args cap' args' hc ha =>
        simp only [runDefs] at h
        rw [Option.bind_eq_some_iff] at h
        obtain ⟨⟨u1, H1⟩, h1, h⟩ := h
        have hargs : VRs γ (args ++ cap) (args' ++ cap').toList := by rw [Array.toList_append]; exact ha.append hc
        have key := hD r0 f (args ++ cap) (args' ++ cap').toList u m H H1 u1 γ w h1 hg hH hargs hm
        obtain ⟨F', hF'⟩ : ∃ F', C.fn f = some F' := by
          unfold runDef at h1
          rw [Option.bind_eq_some_iff] at h1
          obtain ⟨G, hG, _⟩ := h1
          exact ⟨G, hG⟩
        have hinv := (hC.fn f F' hF').2 (args' ++ cap') w
        refine .inr ⟨fen_depth r0, .func f, cap', f, args' ++ cap', rfl, hinv, fun _ _ => trivial, ?_⟩
        simp only [Array.toArray_toList] at key
        refine key.mono fun e m' w' ⟨v, he', γ', hm', hH', hE'⟩ => ?_
        subst he'
        exact ih _ u1 (settle m') γ' H1 w' h (hg.mono hE'.le) hH' (hE.trans hE') (fun t => (he t).mono hE'.le) (hds.mono hE'.le) hm'

/-- A call of a function with a body. -/
theorem callB_sound (hC : CtxR C P) (hD : DefS C P) {ex : Run} (hex : RunS C P ex) {f : Nat} {args : List AV} {us : List Value} {r : CR} {H' : Heap} (h : callB C ex f args H = some (r, H')) (hg : GR C γ) (hH : HR γ H w) (ha : VRs γ args us) (r0 : Option Nat) :
    CallsIn (fen r0) 0 P f us.toArray w (CPost γ H w r H') ∧ ∃ F, C.fn f = some F := by
  unfold callB at h
  rw [Option.bind_eq_some_iff] at h
  obtain ⟨F, hF, h⟩ := h
  rw [Option.bind_eq_some_iff] at h
  obtain ⟨c, hc, h⟩ := h
  split at h
  · rename_i hnt
    rw [Option.bind_eq_some_iff] at h
    obtain ⟨⟨e, st⟩, h1, h⟩ := h
    refine ⟨?_, F, hF⟩
    have hl := ha.1
    have hst : StR γ (frameOf C f F args H) { tmps := us.toArray ++ Array.replicate (F.ntmps - us.toArray.size) undef, defers := [] } w := by
      refine ⟨hH, ?_, fun t => ?_, .nil⟩
      · simp only [frameOf, Array.size_append, Array.size_replicate, List.size_toArray]; omega
      · simp only [frameOf, envOf]
        cases hx : args[t]? with
        | none => exact .bad _
        | some x =>
          obtain ⟨v, hv, hr⟩ := ha.get hx
          have : t < us.length := (List.getElem?_eq_some_iff.1 hv).1
          simp only [Option.getD_some]
          rw [Array.getD_eq_getD_getElem?, Array.getElem?_append_left (by simpa using this)]
          simpa [hv] using hr
    have hw := hex none none c _ e st γ _ w h1 hg .none hst
    show CallsIn (fen none) 0 P f us.toArray w (CPost γ H w r H')
    refine callsIn_of_wp_marks (hC.fn f F hF).1 hc trivial (Go.wpIn_mono hw fun e' a' w' ⟨γ', k1, k2, k3⟩ => ?_) rfl
    have hE : Ext γ H w γ' st.hp w' := k2
    cases k3 with
    | normal => exact runDefs_sound hC hD st.defs _ .returning _ γ' st.hp w' h (hg.mono hE.le) k1.hp hE k1.env k1.defs .returning
    | ret => exact runDefs_sound hC hD st.defs _ .returning _ γ' st.hp w' h (hg.mono hE.le) k1.hp hE k1.env k1.defs .returning
    | exit id => cases h
    | panic hv => exact runDefs_sound hC hD st.defs _ (.panicking _) _ γ' st.hp w' h (hg.mono hE.le) k1.hp hE k1.env k1.defs (.panicking hv)
  · cases h

theorem frz_of (hg : GR C γ) (hH : HR γ H w) {x x' : AV} {u : Value} {n : Nat} {H' : Heap} (hx : VR γ x u) (h : frz C n x H = some (x', H')) : ∃ γ', HR γ' H' w ∧ Ext γ H w γ' H' w ∧ VR γ' x' u ∧ x'.Free :=
  let ⟨γ', a, b, c, d, _⟩ := frz_sound w n γ H x x' u H' hg hH hx h
  ⟨γ', a, b, c, d⟩

/-- A call. -/
theorem callF_sound (hC : CtxR C P) (hD : DefS C P) {ex : Run} (hex : RunS C P ex) {f : Nat} {args : List AV} {us : List Value} {r : CR} {H' : Heap} (h : callF C ex f args H = some (r, H')) (hg : GR C γ) (hH : HR γ H w) (ha : VRs γ args us) (r0 : Option Nat) :
    CallsIn (fen r0) 0 P f us.toArray w (CPost γ H w r H') ∧ ∃ F, C.fn f = some F := by
  unfold callF at h
  split at h
  · -- pure
    rw [Option.bind_eq_some_iff] at h
    obtain ⟨⟨as, H1⟩, h1, h⟩ := h
    rw [Option.bind_eq_some_iff] at h
    obtain ⟨⟨r2, H2⟩, h2, h⟩ := h
    obtain ⟨⟨r3, H3⟩, h3, h⟩ := Option.map_eq_some_iff.1 h
    cases h
    obtain ⟨γ1, a1, a2, a3, a4, _, _⟩ := frzL_sound (frz_sound w deep) args us γ H as H1 hg hH ha h1
    have hg1 := hg.mono a2.le
    have hgp : GR C ⟨fun _ => none, γ1.lv, γ1.esz⟩ := GR.pure hC hg1 (fun _ _ _ h => h) rfl
    obtain ⟨k1, k2⟩ := callB_sound hC hD hex h2 hgp (pure_in a1) (VRs.free (γ := γ1) (γ' := ⟨fun _ => none, γ1.lv, γ1.esz⟩) (fun _ _ _ h => h) a3 a4) r0
    refine ⟨k1.mono fun e w' he => ?_, k2⟩
    have fin : ∀ (γ2 : Gh) (a a' : AV) (u : Value), frz C deep a H2 = some (a', H3) → VR γ2 a u → HR γ2 H2 w' → Ext ⟨fun _ => none, γ1.lv, γ1.esz⟩ Heap.empty w γ2 H2 w' → ∃ γ', VR γ' a' u ∧ HR γ' H1 w' ∧ Ext γ H w γ' H1 w' := by
      intro γ2 a a' u hf hv hH2 hE2
      obtain ⟨γ3, b1, b2, b3, b4⟩ := frz_of (hgp.mono hE2.le) hH2 hv hf
      obtain ⟨c1, c2⟩ := pure_back a1 b1 (hE2.trans b2)
      exact ⟨⟨γ1.rho, γ3.lv, γ1.esz⟩, VR.free (γ := γ3) (γ' := ⟨γ1.rho, γ3.lv, γ1.esz⟩) (fun _ _ _ h => h) b3 b4, c1, a2.trans c2⟩
    cases e with
    | returned v =>
      obtain ⟨γ2, a, rfl, b1, b2, b3⟩ := he
      simp only [CR.mapM] at h3
      obtain ⟨⟨a', H4⟩, h4, h3⟩ := Option.map_eq_some_iff.1 h3
      cases h3
      obtain ⟨γ', c1, c2, c3⟩ := fin γ2 a a' v h4 b1 b2 b3
      exact ⟨γ', a', rfl, c1, c2, c3⟩
    | panicked chain =>
      obtain ⟨γ2, a, u, rfl, rfl, b1, b2, b3⟩ := he
      simp only [CR.mapM] at h3
      obtain ⟨⟨a', H4⟩, h4, h3⟩ := Option.map_eq_some_iff.1 h3
      cases h3
      obtain ⟨γ', c1, c2, c3⟩ := fin γ2 a a' u h4 b1 b2 b3
      exact ⟨γ', a', u, rfl, rfl, c1, c2, c3⟩
    | outgrown => exact he.elim
  · split at h
    · rw [Option.bind_eq_some_iff] at h
      obtain ⟨⟨r2, H2⟩, h2, h3⟩ := h
      obtain ⟨k1, k2⟩ := callB_sound hC hD hex h2 hg hH ha r0
      refine ⟨k1.mono fun e w' he => ?_, k2⟩
      cases e with
      | returned v =>
        obtain ⟨γ2, a, rfl, b1, b2, b3⟩ := he
        simp only [CR.mapM] at h3
        obtain ⟨⟨a', H4⟩, h4, h3⟩ := Option.map_eq_some_iff.1 h3
        cases h3
        obtain ⟨γ', c1, c2, c3, _⟩ := frz_of (hg.mono b3.le) b2 b1 h4
        exact ⟨γ', a', rfl, c3, c1, b3.trans c2⟩
      | panicked chain =>
        obtain ⟨γ2, a, u, rfl, rfl, b1, b2, b3⟩ := he
        simp only [CR.mapM] at h3
        obtain ⟨⟨a', H4⟩, h4, h3⟩ := Option.map_eq_some_iff.1 h3
        cases h3
        obtain ⟨γ', c1, c2, c3, _⟩ := frz_of (hg.mono b3.le) b2 b1 h4
        exact ⟨γ', a', u, rfl, rfl, c3, c1, b3.trans c2⟩
      | outgrown => exact he.elim
    · exact callB_sound hC hD hex h hg hH ha r0

end
end Go.AM

/-
  THE ABSTRACT MACHINE: running code is sound, third part: rounds; the operations with an effect.
-/
namespace Go.AM
section
variable {C : Ctx} {P : Program} {γ : Gh} {H : Heap} {w : World}

theorem parEnv_sound {nt : Nat} : ∀ (ps : List Nat) (xs : List AV) (us : List Value) (env env' : Nat → AV) (tmps : Array Value), parEnv nt ps xs env = some env' → (∀ t, VR γ (env t) (tmps.getD t undef)) → tmps.size = nt → VRs γ xs us →
    ps.length = us.length ∧ (∀ t, VR γ (env' t) (((ps.zip us).foldl (fun tmps p => tmps.setIfInBounds p.1 p.2) tmps).getD t undef)) ∧ ((ps.zip us).foldl (fun tmps p => tmps.setIfInBounds p.1 p.2) tmps).size = nt
  | [], [], us, env, env', tmps, h, he, hs, ha => by
    cases h
    have : us = [] := List.length_eq_zero_iff.1 ha.1.symm
    subst this
    exact ⟨rfl, he, hs⟩
  | [], _ :: _, _, _, _, _, h, _, _, _ => by cases h
  | _ :: _, [], _, _, _, _, h, _, _, _ => by cases h
  | _ :: _, _ :: _, [], _, _, _, _, _, _, ha => by have := ha.1; simp at this
  | p :: ps, x :: xs, u :: us, env, env', tmps, h, he, hs, ha => by
    rw [parEnv] at h
    split at h
    · rename_i hp
      obtain ⟨h1, h2, h3⟩ := parEnv_sound ps xs us (upd env p x) env' (tmps.setIfInBounds p u) h (fun t => by
        simp only [upd]
        by_cases ht : t = p
        · subst ht
          have : t < tmps.size := by omega
          simpa [Array.getD_eq_getD_getElem?, this] using ha.head
        · simpa [Array.getD_eq_getD_getElem?, ht, Array.getElem?_setIfInBounds_ne (Ne.symm ht)] using he t) (by simpa using hs) ha.tail
      exact ⟨by simp [h1], h2, h3⟩
    · cases h

theorem loop_obj (hH : HR γ H w) {l rl : Nat} (hl : γ.rho l = some (.obj rl)) {L : ALoop} (hb : (H.blk l).loop? = some L) : ∃ lo, w.heap[rl]? = some (.loop lo) ∧ LoopR γ L lo := by
  obtain ⟨_, ho, _⟩ := hH.objs l rl hl
  rw [loop?_some hb] at ho
  exact ho

theorem endEx_exit {e : Ex} {p : Option Code} (h : endEx e = some p) {e' : Exit} {γ : Gh} (hr : ExR γ e e') {l : Nat} {R : Ending → World → Prop} {a : Act} {w : World} (hR : ∃ v w', (Instr.endRound l p).run P w = .ok v w' ∧ R (.returned v) w') : roundPost P l R e' a w := by
  cases hr with
  | normal => cases h; exact hR
  | exit id => cases h; exact hR
  | ret => cases h; exact hR
  | panic => cases h

theorem doRound_sound {ex : Run} (hex : RunS C P ex) {l rl : Nat} {args : List AV} {us : List Value} {r : CR} {H' : Heap} (h : doRound ex l args H = some (r, H')) (hg : GR C γ) (hH : HR γ H w) (hl : γ.rho l = some (.obj rl)) (ha : VRs γ args us) (r0 : Option Nat) :
    ∃ fn tmps asg body, (Instr.yield rl us.toArray).run P w = .ok (.round rl fn tmps asg body) w ∧ RoundIn (fen r0) 0 P rl fn tmps asg body w (CPost γ H w r H') := by
  unfold doRound at h
  rw [Option.bind_eq_some_iff] at h
  obtain ⟨L, hL, h⟩ := h
  split at h
  · rename_i hready
    rw [Option.bind_eq_some_iff] at h
    obtain ⟨env, henv, h⟩ := h
    rw [Option.bind_eq_some_iff] at h
    obtain ⟨⟨e1, st1⟩, h1, h⟩ := h
    obtain ⟨lo, hlo, hLR⟩ := loop_obj hH hl hL
    obtain ⟨p1, p2, p3⟩ := parEnv_sound L.ps args us L.env env lo.tmps henv hLR.env hLR.nt ha
    have hgl : (Instr.getLoop rl).run P w = .ok lo w := by simp [Instr.getLoop, run_getObj' hlo rfl]
    have hps : lo.params.size = us.length := by rw [← p1, ← hLR.ps]; simp
    refine ⟨lo.fn, (lo.params.zip us.toArray).foldl (fun tmps (t, a) => tmps.setIfInBounds t a) lo.tmps, lo.assign, lo.body, by simp [Instr.yield, hgl, hps], ?_⟩
    have htm : (lo.params.zip us.toArray).foldl (fun tmps (t, a) => tmps.setIfInBounds t a) lo.tmps = (L.ps.zip us).foldl (fun tmps p => tmps.setIfInBounds p.1 p.2) lo.tmps := by
      rw [← Array.foldl_toList, Array.toList_zip, hLR.ps]
    rw [htm]
    split at h
    · -- the assignment has ended normally
      rename_i he1
      rw [Option.bind_eq_some_iff] at h
      obtain ⟨L1, hL1, h⟩ := h
      split at h
      · rename_i hready1
        rw [Option.bind_eq_some_iff] at h
        obtain ⟨⟨e2, st2⟩, h2, h⟩ := h
        rw [Option.bind_eq_some_iff] at h
        obtain ⟨L2, hL2, h⟩ := h
        rw [Option.bind_eq_some_iff] at h
        obtain ⟨p, hp, h⟩ := h
        split at h
        · cases h
          simp only at he1
          subst he1
          refine roundIn_of_wpIn (F := fen r0) trivial ?_
          have w1 := hex (some l) (some rl) L.asg _ .normal st1 γ { tmps := (L.ps.zip us).foldl (fun tmps p => tmps.setIfInBounds p.1 p.2) lo.tmps, defers := [] } w h1 hg (.some hl) ⟨hH, p3, p2, .nil⟩
          rw [hLR.asg]
          show L.asg.wpIn (fen (some rl)) 0 P _ _ w
          refine Go.wpIn_mono w1 fun e' a' w' ⟨γ1, k1, k2, k3⟩ => ?_
          cases k3
          show ∃ w₂, (Instr.beginRound rl).run P w' = .ok () w₂ ∧ lo.body.wpIn (fen (some rl)) 0 P (roundPost P rl _) a' w₂
          have hl1 := k2.le.rho _ _ hl
          obtain ⟨lo1, hlo1, hLR1⟩ := loop_obj k1.hp hl1 hL1
          have hst1 : lo1.state = .ready := by rw [hLR1.s]; exact hready1
          obtain ⟨q1, q2⟩ := k1.hp.putObj hl1 (x := .loop { L1 with s := .busy }) (o := .loop { lo1 with state := .busy }) ⟨_, rfl, { hLR1 with s := rfl }⟩ (fun _ _ _ e => by cases e)
          refine ⟨w'.putObj rl (.loop { lo1 with state := .busy }), ?_, ?_⟩
          · have hgl1 : (Instr.getLoop rl).run P w' = .ok lo1 w' := by simp [Instr.getLoop, run_getObj' hlo1 rfl]
            have hso := run_setObj' (P := P) (o := .loop { lo1 with state := .busy }) hlo1 rfl
            simp [Instr.beginRound, hgl1, hso, hst1]
          · rw [hLR.body]
            have w2 := hex (some l) (some rl) L.body _ e2 st2 γ1 a' (w'.putObj rl (.loop { lo1 with state := .busy })) h2 (hg.mono k2.le) (.some hl1) ⟨q1, k1.nt, k1.env, k1.defs⟩
            refine Go.wpIn_mono w2 fun e3 a3 w3 ⟨γ3, m1, m2, m3⟩ => ?_
            refine endEx_exit hp m3 ?_
            have hl3 := m2.le.rho _ _ hl1
            obtain ⟨lo3, hlo3, hLR3⟩ := loop_obj m1.hp hl3 hL2
            obtain ⟨s1, s2⟩ := m1.hp.putObj hl3 (x := .loop { L2 with s := if p.isNone then .ready else .done, pend := p }) (o := .loop { lo3 with state := if p.isNone then .ready else .done, pending := p }) ⟨_, rfl, { hLR3 with s := rfl, pend := rfl }⟩ (fun _ _ _ e => by cases e)
            refine ⟨.bool p.isNone, w3.putObj rl (.loop { lo3 with state := if p.isNone then .ready else .done, pending := p }), ?_, γ3, .bool p.isNone, rfl, .bool _, s1, ?_⟩
            · have hgl3 : (Instr.getLoop rl).run P w3 = .ok lo3 w3 := by simp [Instr.getLoop, run_getObj' hlo3 rfl]
              have hso := run_setObj' (P := P) (o := .loop { lo3 with state := if p.isNone then .ready else .done, pending := p }) hlo3 rfl
              simp only [Instr.endRound, Sem.run_bind, hgl3, Result.andThen_ok, hso, Sem.run_pure]
            · have k2' : Ext γ H w γ1 st1.hp w' := k2
              have m2' : Ext γ1 (st1.hp.set l (.loop { L1 with s := .busy })) _ γ3 st2.hp w3 := m2
              exact ((k2'.trans q2).trans m2').trans s2
        · cases h
      · cases h
    · cases h
  · cases h

end
end Go.AM

/-
  THE ABSTRACT MACHINE: running code is sound, fourth part: operations; regions in order; ranges over functions; code.
-/
namespace Go.AM

/-- Regions that draw their order are sound. -/
def DrawS (C : Ctx) (P : Program) (ex : Run) : Prop := ∀ ro r (ops : Array Oper) l st e st' γ a w id, dOK ops.toList l = true → drawRun C ex ro ops.toList [] l st = some (e, st') → GR C γ → RoR γ ro r → StR γ st a w →
  (Code.region id ops true).wpIn (fen r) 0 P (Post γ st.hp w e st') a w

section
variable {C : Ctx} {P : Program} {γ : Gh} {H : Heap} {w : World}

/-- What is asked of an operation with an effect, by what it comes to. -/
def EopR (C : Ctx) (P : Program) (γ : Gh) (r : Option Nat) (st : St) (a : Act) (w : World) (o : Oper) : OR → Prop
  | .val v H' => ∀ next Q, (∀ γ' w' u, VR γ' v u → HR γ' H' w' → Ext γ st.hp w γ' H' w' → next (a.put o.dst u) w') → o.wpIn (fen r) 0 P a w next Q
  | .dfr d => ∀ next Q, (∀ d', DefR γ d d' → next ({ a with defers := d' :: a.defers }.put o.dst undef) w) → o.wpIn (fen r) 0 P a w next Q
  | .pan v H' => ∀ next Q, (∀ γ' w' u, VR γ' v u → HR γ' H' w' → Ext γ st.hp w γ' H' w' → Q (.panic [{ v := u, recovered := false }]) a w') → o.wpIn (fen r) 0 P a w next Q

theorem eopR_val {r : Option Nat} {st : St} {a : Act} {o : Oper} {v : AV} {H' : Heap} (ho : ∀ c, o.op ≠ .defer c) (h : ESound P γ st.hp w v H' (execOp a.eval o)) : EopR C P γ r st a w o (.val v H') := by
  intro next Q hn
  obtain ⟨γ', w', n, u, h1, h2, h3, h4, h5⟩ := h
  refine ⟨fun _ _ => trivial, ?_⟩
  rw [Oper.semAt_eq _ _ _ ho, h1]
  rcases h2 with rfl | ⟨rfl, rfl⟩
  · exact hn γ' w' u h3 h4 h5
  · exact hn γ' w' undef h3 h4 h5

/-- A call of a function value. -/
theorem callV_sound (hC : CtxR C P) (hD : DefS C P) {ex : Run} (hex : RunS C P ex) {fv : AV} {args : List AV} {v : Value} {us : List Value} {res : CR} {H' : Heap} (h : callV C ex fv args H = some (res, H')) (hg : GR C γ) (hH : HR γ H w)
    (hv : VR γ fv v) (ha : VRs γ args us) (r0 : Option Nat) : ∃ d, (Deferred.ofValue v us.toArray).run P w = .ok d w ∧
      ((∃ f as, (invoke d.target d.args).run P w = .ok (.enter f as) w ∧ CallsIn (fen r0) 0 P f as w (CPost γ H w res H')) ∨
       (∃ l fn tmps asg body, (invoke d.target d.args).run P w = .ok (.round l fn tmps asg body) w ∧ RoundIn (fen r0) 0 P l fn tmps asg body w (CPost γ H w res H'))) := by
  unfold callV at h
  split at h
  · rename_i f first cap
    obtain ⟨fn', first', cap', rfl, hfn, h1, h2⟩ := hv.func_inv
    cases hfn
    have hargs : VRs γ (first ++ args ++ cap) ((first' ++ us.toArray) ++ cap').toList := by
      simp only [Array.toList_append]
      exact (h1.append (by simpa using ha)).append h2
    obtain ⟨k1, F, hF⟩ := callF_sound hC hD hex h hg hH hargs r0
    refine ⟨_, rfl, .inl ⟨f, (first' ++ us.toArray) ++ cap', (hC.fn f F hF).2 _ w, by rw [Array.toArray_toList] at k1; exact k1⟩⟩
  · rename_i l cap
    obtain ⟨fn', first', cap', rfl, hfn, h1, h2⟩ := hv.func_inv
    cases hfn with
    | @yield _ rl hl =>
      have hf' : first' = #[] := by
        have := h1.1
        simp at this
        exact Array.eq_empty_of_size_eq_zero this.symm
      subst hf'
      obtain ⟨fn, tmps, asg, body, k1, k2⟩ := doRound_sound hex h hg hH hl ha r0
      refine ⟨_, rfl, .inr ⟨rl, fn, tmps, asg, body, ?_, k2⟩⟩
      show (Instr.yield rl (#[] ++ us.toArray)).run P w = _
      simpa using k1
  · cases h

theorem orOf {r : Option Nat} {st : St} {a : Act} {o : Oper} {res : CR} {H' : Heap} (h : ∀ next Q, (∀ γ' w' u v, res = .ret v → VR γ' v u → HR γ' H' w' → Ext γ st.hp w γ' H' w' → next (a.put o.dst u) w') →
    (∀ γ' w' u v, res = .pan v → VR γ' v u → HR γ' H' w' → Ext γ st.hp w γ' H' w' → Q (.panic [{ v := u, recovered := false }]) a w') → o.wpIn (fen r) 0 P a w next Q) : EopR C P γ r st a w o (OR.of (res, H')) := by
  cases res with
  | ret v => exact fun next Q hn => h next Q (fun γ' w' u v' e => by cases e; exact hn γ' w' u) (fun _ _ _ _ e => by cases e)
  | pan v => exact fun next Q hn => h next Q (fun _ _ _ _ e => by cases e) (fun γ' w' u v' e => by cases e; exact hn γ' w' u)

theorem eop_sound (hC : CtxR C P) (hD : DefS C P) {ex : Run} (hex : RunS C P ex) {ro r : Option Nat} {st : St} {a : Act} {o : Oper} {res : OR} (h : eop C ex ro st o = some res) (hg : GR C γ) (hro : RoR γ ro r) (hst : StR γ st a w) : EopR C P γ r st a w o res := by
  have hρ := evR (a := a) hg hst.env
  have hH := hst.hp
  unfold eop at h
  split at h
  · -- store
    rename_i t p x he
    obtain ⟨H', h1, rfl⟩ := Option.map_eq_some_iff.1 h
    refine eopR_val (fun c e => by rw [he] at e; cases e) ?_
    simp only [execOp, he]
    exact esound_u (storeA_sound hC hH (hρ p) (hρ x) h1)
  · rename_i t m k x he
    obtain ⟨H', h1, rfl⟩ := Option.map_eq_some_iff.1 h
    refine eopR_val (fun c e => by rw [he] at e; cases e) ?_
    simp only [execOp, he]
    exact esound_u (mapUpdateA_sound hC hH (hρ m) (hρ k) (hρ x) h1)
  · rename_i t m k x he
    obtain ⟨H', h1, rfl⟩ := Option.map_eq_some_iff.1 h
    refine eopR_val (fun c e => by rw [he] at e; cases e) ?_
    simp only [execOp, he]
    exact esound_u (mapUpdateA_sound hC hH (hρ m) (hρ k) (hρ x) h1)
  · -- panic
    rename_i x he
    split at h
    · rename_i t v hx
      cases h
      intro next Q hn
      refine ⟨fun _ _ => trivial, ?_⟩
      rw [Oper.semAt_eq _ _ _ (fun c e => by rw [he] at e; cases e)]
      have hv := hρ x
      rw [hx] at hv
      cases hq : a.eval x with
      | iface t' u =>
        rw [hq] at hv
        have hrun : (execOp a.eval o).run P w = .halt (.panic (.iface t' u)) w := by simp only [execOp, he, hq]; rfl
        rw [hrun]
        exact hn γ w _ hv hH (.refl _ _ _)
      | _ => rw [hq] at hv; cases hv
    · cases h
  · -- defer
    rename_i f args ts he
    split at h
    · rename_i g first cap hf
      cases h
      cases hro
      intro next Q hn
      refine ⟨fun _ _ => trivial, ?_⟩
      have hv := hρ f
      rw [hf] at hv
      obtain ⟨fn', first', cap', hq, hfn, h1, h2⟩ := hv.func_inv
      cases hfn
      have hargs := list_one hρ args
      have hrun : (execOp a.eval o).run P w = .ok (.defer { target := .fn (.func g) cap', args := first' ++ args.map a.eval }) w := by
        simp only [execOp, he, resolve, hq]; rfl
      show o.uponIn (fen none) 0 P a next Q ((execOp a.eval o).run P w)
      rw [hrun, Oper.uponIn_defer]
      exact hn _ (.call h2 (by rw [Array.toList_append]; exact h1.append hargs))
    · cases h
  · -- next
    rename_i it he
    split at h
    · rename_i b hit
      split at h
      · rename_i s pos hb
        have hv := hρ it
        obtain ⟨n1, n2⟩ := next_sound (P := P) hH hv hit hb o.type
        split at h
        · rename_i hn
          cases h
          refine eopR_val (fun c e => by rw [he] at e; cases e) ?_
          simp only [execOp, he]
          exact ⟨γ, w, _, _, run_v (n1 hn), .inl rfl, VRs.tuple (VRs.cons (.bool _) VRs.nil), hH, .refl _ _ _⟩
        · rename_i c hn
          split at h
          · rename_i hlt
            cases h
            refine eopR_val (fun c e => by rw [he] at e; cases e) ?_
            simp only [execOp, he]
            obtain ⟨w', k1, k2, k3⟩ := n2 c hn hlt
            exact ⟨γ, w', _, _, run_v k1, .inl rfl, VRs.tuple (VRs.cons (.bool _) (VRs.cons (.int _ _) (VRs.cons (.int _ _) VRs.nil))), k2, k3⟩
          · cases h
      · cases h
    · cases h
  · -- a call
    rename_i f args ts he
    obtain ⟨⟨res, H'⟩, h1, rfl⟩ := Option.map_eq_some_iff.1 h
    refine orOf fun next Q hn hp => ?_
    obtain ⟨d, hd, k⟩ := callV_sound hC hD hex h1 hg hH (hρ f) (list_one hρ args) r
    have hargs : (args.map a.eval).toList.toArray = args.map a.eval := Array.toArray_toList
    rw [hargs] at hd
    refine ⟨fun _ _ => trivial, ?_⟩
    rw [Oper.semAt_eq _ _ _ (fun c e => by rw [he] at e; cases e)]
    have hrun : ∀ n, (invoke d.target d.args).run P w = .ok n w → (execOp a.eval o).run P w = .ok n w := fun n hn => by
      simp only [execOp, he, resolve]; rw [Sem.run_bind, hd]; exact hn
    rcases k with ⟨g, as, k1, k2⟩ | ⟨l, fn, tmps, asg, body, k1, k2⟩
    · rw [hrun _ k1, Oper.uponIn_enter]
      refine ⟨fen_depth r, k2.mono fun e w' hc => ?_⟩
      cases e with
      | returned v =>
        obtain ⟨γ', x, rfl, c1, c2, c3⟩ := hc
        exact hn γ' w' v x rfl c1 c2 c3
      | panicked chain =>
        obtain ⟨γ', x, u, rfl, rfl, c1, c2, c3⟩ := hc
        exact hp γ' w' u x rfl c1 c2 c3
      | outgrown => exact hc.elim
    · rw [hrun _ k1, Oper.uponIn_round]
      refine ⟨fen_depth r, k2.mono fun e w' hc => ?_⟩
      cases e with
      | returned v =>
        obtain ⟨γ', x, rfl, c1, c2, c3⟩ := hc
        exact hn γ' w' v x rfl c1 c2 c3
      | panicked chain =>
        obtain ⟨γ', x, u, rfl, rfl, c1, c2, c3⟩ := hc
        exact hp γ' w' u x rfl c1 c2 c3
      | outgrown => exact hc.elim
  · -- append
    rename_i args ts he
    split at h
    · rename_i s x t t2 tl ea et
      obtain ⟨⟨v, H'⟩, h1, rfl⟩ := Option.map_eq_some_iff.1 h
      have e1 : args = #[s, x] := Array.toList_inj.1 (by simpa using ea)
      have e2 : ts = (t :: t2 :: tl).toArray := Array.toList_inj.1 (by simpa using et)
      subst e1; subst e2
      refine eopR_val (fun c e => by rw [he] at e; cases e) ?_
      obtain ⟨γ', w', u, k1, k2, k3, k4⟩ := appendA_sound (ty := o.type) hC hg hH (hρ s) (hρ x) h1 tl
      refine ⟨γ', w', .value u, u, ?_, .inl rfl, k2, k3, k4⟩
      simp only [execOp, he]
      simp [resolve, invoke, builtin, k1]
    · cases h
  · -- clear
    rename_i args ts he
    split at h
    · rename_i x t tl ea et
      obtain ⟨H', h1, rfl⟩ := Option.map_eq_some_iff.1 h
      have e1 : args = #[x] := Array.toList_inj.1 (by simpa using ea)
      have e2 : ts = (t :: tl).toArray := Array.toList_inj.1 (by simpa using et)
      subst e1; subst e2
      refine eopR_val (fun c e => by rw [he] at e; cases e) ?_
      obtain ⟨w', k1, k2, k3⟩ := clearA_sound (ty := o.type) hC hg hH (hρ x) h1 tl
      refine ⟨γ, w', .value (.tuple #[]), _, ?_, .inl rfl, VRs.tuple VRs.nil, k2, k3⟩
      simp only [execOp, he]
      simp [resolve, invoke, builtin, k1]
    · cases h
  · cases h


/-- One operation. -/
theorem oneOp_sound (hC : CtxR C P) (hD : DefS C P) {ex : Run} (hex : RunS C P ex) {ro r : Option Nat} {st st1 : St} {a : Act} {o : Oper} {e : Ex} {k : St → Option (Ex × St)} (h : oneOp C ex ro st o k = some (e, st1)) (hg : GR C γ) (hro : RoR γ ro r) (hst : StR γ st a w)
    {next : Act → World → Prop} {Q : Exit → Act → World → Prop} (hn : ∀ γ' a' w' st', k st' = some (e, st1) → StR γ' st' a' w' → Ext γ st.hp w γ' st'.hp w' → next a' w')
    (hp : ∀ γ' w' v u, e = .panic v → VR γ' v u → StR γ' st1 a w' → Ext γ st.hp w γ' st1.hp w' → Q (.panic [{ v := u, recovered := false }]) a w') : o.wpIn (fen r) 0 P a w next Q := by
  unfold oneOp at h
  split at h
  · rw [Option.bind_eq_some_iff] at h
    obtain ⟨res, hres, h⟩ := h
    have key := eop_sound hC hD hex hres hg hro hst
    cases res with
    | val v H' =>
      rw [Option.bind_eq_some_iff] at h
      obtain ⟨st2, h2, h3⟩ := h
      refine key next Q fun γ' w' u c1 c2 c3 => ?_
      obtain ⟨d1, d2⟩ := (hst.mono c3.le c2).put c1 h2
      exact hn γ' _ w' st2 h3 d1 (by rw [d2]; exact c3)
    | dfr d =>
      rw [Option.bind_eq_some_iff] at h
      obtain ⟨st2, h2, h3⟩ := h
      refine key next Q fun d' hd => ?_
      have hst' : StR γ { st with defs := d :: st.defs } { a with defers := d' :: a.defers } w := ⟨hst.hp, hst.nt, hst.env, .cons hd hst.defs⟩
      obtain ⟨d1, d2⟩ := hst'.put (u := undef) (.bad _) h2
      exact hn γ _ w st2 h3 d1 (by rw [d2]; exact .refl _ _ _)
    | pan v H' =>
      simp only [Option.some.injEq, Prod.mk.injEq] at h
      obtain ⟨rfl, rfl⟩ := h
      exact key next Q fun γ' w' u c1 c2 c3 => hp γ' w' v u rfl c1 (hst.mono c3.le c2) c3
  · rename_i heff
    rw [Option.bind_eq_some_iff] at h
    obtain ⟨res, hres, h⟩ := h
    have hnd : ∀ c, o.op ≠ .defer c := fun c hc => by rw [hc] at heff; exact heff rfl
    have key := nop_sound hC hg hst.hp (evR (a := a) hg hst.env) hres
    refine ⟨fun _ _ => trivial, ?_⟩
    rw [Oper.semAt_eq _ _ _ hnd]
    cases res with
    | v x =>
      rw [Option.bind_eq_some_iff] at h
      obtain ⟨st2, h2, h3⟩ := h
      obtain ⟨u, c1, c2⟩ := key
      rw [c1, Oper.uponIn_value]
      obtain ⟨d1, d2⟩ := hst.put c2 h2
      exact hn γ _ w st2 h3 d1 (by rw [d2]; exact .refl _ _ _)
    | new f x =>
      rw [Option.bind_eq_some_iff] at h
      obtain ⟨st2, h2, h3⟩ := h
      obtain ⟨u, w', γ', c1, c2, c3, c4, _⟩ := key (st.hp.new x) st.hp.next (hst.hp.new x) (hst.hp.fresh _ (Nat.le_refl _)) (by simp [Heap.new]) (by simp [Heap.new])
      rw [c1, Oper.uponIn_value]
      obtain ⟨d1, d2⟩ := (hst.mono c3.le c2).put c4 h2
      exact hn γ' _ w' st2 h3 d1 (by rw [d2]; exact (Ext.newc hst.hp x).trans c3)

theorem runOps_sound (hC : CtxR C P) (hD : DefS C P) {ex : Run} (hex : RunS C P ex) {ro r : Option Nat} {all : List Oper} {st1 : St} {e : Ex} {γ0 : Gh} {H0 : Heap} {w0 : World} : ∀ (l : List Oper) (st : St) (a : Act) (γ : Gh) (w : World), runOps C ex ro all l st = some (e, st1) → GR C γ → RoR γ ro r → StR γ st a w →
    Ext γ0 H0 w0 γ st.hp w → wpListIn (fen r) 0 P all.toArray (Post γ0 H0 w0 e st1) l a w
  | [], st, a, γ, w, h, hg, hro, hst, hE => by
    cases h
    exact ⟨γ, hst, hE, .normal⟩
  | o :: l, st, a, γ, w, h, hg, hro, hst, hE => by
    rw [runOps, Option.bind_eq_some_iff] at h
    obtain ⟨g, hgd, h⟩ := h
    have hw := guardR hst hgd
    cases g with
    | true =>
      simp only [if_true] at h
      simp only [wpListIn, hw, if_true]
      refine oneOp_sound hC hD hex h hg hro hst (fun γ' a' w' st' h' hst' hE' => runOps_sound hC hD hex l st' a' γ' w' h' (hg.mono hE'.le) (hro.mono hE'.le) hst' (hE.trans hE')) (fun γ' w' v u he hv hst' hE' => ?_)
      subst he
      exact ⟨γ', hst', hE.trans hE', .panic hv⟩
    | false =>
      simp only [if_false, Bool.false_eq_true] at h
      rw [Option.bind_eq_some_iff] at h
      obtain ⟨st2, h2, h3⟩ := h
      simp only [wpListIn, hw, if_false, Bool.false_eq_true]
      refine ⟨fun _ _ => trivial, ?_⟩
      obtain ⟨d1, d2⟩ := hst.put (u := undef) (.bad _) h2
      exact runOps_sound hC hD hex l st2 _ γ w h3 hg hro d1 (by rw [d2]; exact hE)

end
end Go.AM

/-
  THE ABSTRACT MACHINE: running code is sound, fifth part: ranges over functions; code.
-/
namespace Go.AM
section
variable {C : Ctx} {P : Program} {γ : Gh} {H : Heap} {w : World}

theorem wpIn_scope {F : Fence} {n : Nat} {Q : Exit → Act → World → Prop} {a : Act} {c : Code} (h : c.wpIn F n P (Exit.noGoto Q) a w) : (Code.scope c).wpIn F n P Q a w := by
  intro b k cs hro hb hr
  have h0 : (lone (b.atR a (.code (.scope c) :: k)) cs w).fenced P F := fenced_calm hb hr rfl
  have hs : step P (lone (b.atR a (.code (.scope c) :: k)) cs w) = .next (lone (b.atR a (.code c :: .inScope c :: k)) cs w) := step_lone_go (by simp [stepG, stepG.exec, Frame.atR])
  obtain ⟨e, a₁, w₁, hq, harr⟩ := h b (.inScope c :: k) cs hro hb hr
  cases e with
  | normal => exact ⟨.normal, a₁, w₁, hq, .head h0 hs (StepsIn.trans harr (.one (fenced_calm hb hr rfl) (step_lone_go (by simp [stepG, stepG.exec, Frame.atR]))))⟩
  | exit id => exact ⟨.exit id, a₁, w₁, hq, fun k' hk => .head h0 hs (harr.1 k' (by simp [exitTo, hk])), fun hr' hk => let ⟨k₁, h1, h2⟩ := harr.2 hr' (by simp [exitTo, hk]); ⟨k₁, h1, .head h0 hs h2⟩⟩
  | goto l => exact hq.elim
  | ret => exact ⟨_, a₁, w₁, hq, .of_steps (.one h0 hs) harr⟩
  | panic ch => exact ⟨_, a₁, w₁, hq, .of_steps (.one h0 hs) harr⟩
  | outgrown => exact ⟨_, a₁, w₁, hq, .of_steps (.one h0 hs) harr⟩

/-- A call of a function value that is no round. -/
theorem callW_sound (hC : CtxR C P) (hD : DefS C P) {ex : Run} (hex : RunS C P ex) {fv : AV} {args : List AV} {v : Value} {us : List Value} {res : CR} {H' : Heap} (h : callW C ex fv args H = some (res, H')) (hg : GR C γ) (hH : HR γ H w)
    (hv : VR γ fv v) (ha : VRs γ args us) (r0 : Option Nat) : ∃ d, (Deferred.ofValue v us.toArray).run P w = .ok d w ∧
      ∃ f as, (invoke d.target d.args).run P w = .ok (.enter f as) w ∧ CallsIn (fen r0) 0 P f as w (CPost γ H w res H') := by
  unfold callW at h
  split at h
  · rename_i f first cap
    obtain ⟨fn', first', cap', rfl, hfn, h1, h2⟩ := hv.func_inv
    cases hfn
    have hargs : VRs γ (first ++ args ++ cap) ((first' ++ us.toArray) ++ cap').toList := by
      simp only [Array.toList_append]
      exact (h1.append (by simpa using ha)).append h2
    obtain ⟨k1, F, hF⟩ := callF_sound hC hD hex h hg hH hargs r0
    exact ⟨_, rfl, f, (first' ++ us.toArray) ++ cap', (hC.fn f F hF).2 _ w, by rw [Array.toArray_toList] at k1; exact k1⟩
  · cases h

theorem newObj_at (hH : HR γ H w) {x : AB} {o : Obj} (hx : ∀ γ', γ.Le γ' → ObjR γ' x (some o)) (hno : ∀ (c : Array Value) (e : TypeId) (f : Nat × Nat), o ≠ .cells c e f) :
    ∃ γ', HR γ' (H.new x) (w.alloc o) ∧ Ext γ H w γ' (H.new x) (w.alloc o) ∧ γ'.rho H.next = some (.obj w.heap.size) := by
  obtain ⟨h1, h2⟩ := (hH.new x).alloc_obj (b := H.next) (hH.fresh _ (Nat.le_refl _)) (by simp [Heap.new]) o (by simpa [Heap.new] using hx) hno
  exact ⟨_, h1, (Ext.newc hH x).trans h2, by simp [Gh.at]⟩

theorem pend_sound {r : Option Nat} {pd : Option Code} {e0 : Ex} (h : pendEx pd = some e0) {γ2 : Gh} {stx : St} {a : Act} {wx : World} (hst : StR γ2 stx a wx) (hE : Ext γ H w γ2 stx.hp wx) :
    (match (generalizing := false) pd with | none => Post γ H w e0 stx .normal a wx | some c => c.wpIn (fen r) 0 P (Post γ H w e0 stx) a wx) := by
  unfold pendEx at h
  split at h
  · cases h; exact ⟨γ2, hst, hE, .normal⟩
  · cases h; exact wpIn_ret ⟨γ2, hst, hE, .ret⟩
  · cases h; exact wpIn_exit ⟨γ2, hst, hE, .exit _⟩
  · cases h

theorem resolve_range (a : Act) (f : Operand) (n : Nat) : resolve a.eval (rangeCall f n) 0 = Deferred.ofValue (a.eval f) #[Value.func (.yield n) #[] #[]] := by
  simp [resolve, rangeCall, Act.eval]

theorem after_sound {r : Option Nat} {l rl : Nat} {st : St} {a : Act} {res : CR} {H2 : Heap} {e : Ex} {st' : St} (h : afterRange l st (res, H2) = some (e, st')) {γ1 : Gh} {H1 : Heap} {w1 : World} (hl : γ1.rho l = some (.obj rl))
    (hst : StR γ1 { st with hp := H1 } a w1) (hE : Ext γ H w γ1 H1 w1) : ∀ e' w', CPost γ1 H1 w1 res H2 e' w' → rangePost (fen r) 0 P rl (Post γ H w e st') a e' w' := by
  intro e' w' hc
  cases e' with
  | returned v =>
    obtain ⟨γ2, x, rfl, c1, c2, c3⟩ := hc
    simp only [afterRange] at h
    rw [Option.bind_eq_some_iff] at h
    obtain ⟨L, hL, h⟩ := h
    split at h
    · cases h
    · rename_i hb
      obtain ⟨e0, he0, h⟩ := Option.map_eq_some_iff.1 h
      cases h
      have hl2 := c3.le.rho _ _ hl
      obtain ⟨lo, hlo, hLR⟩ := loop_obj c2 hl2 hL
      obtain ⟨q1, q2⟩ := c2.putObj hl2 (x := .loop { L with s := .exhausted }) (o := .loop { lo with state := .exhausted }) ⟨_, rfl, { hLR with s := rfl }⟩ (fun _ _ _ e => by cases e)
      have hst2 : StR γ2 { st with hp := H2.set l (.loop { L with s := .exhausted }) } a (w'.putObj rl (.loop { lo with state := .exhausted })) := hst.mono c3.le q1
      have hE2 : Ext γ H w γ2 (H2.set l (.loop { L with s := .exhausted })) (w'.putObj rl (.loop { lo with state := .exhausted })) := (hE.trans c3).trans q2
      refine ⟨lo.pending, w'.putObj rl (.loop { lo with state := .exhausted }), ?_, ?_⟩
      · have hgl : (Instr.getLoop rl).run P w' = .ok lo w' := by simp [Instr.getLoop, run_getObj' hlo rfl]
        have hso := run_setObj' (P := P) (o := .loop { lo with state := .exhausted }) hlo rfl
        have hnb : (lo.state == .busy) = false := by
          rw [hLR.s]
          cases hs : L.s <;> first | rfl | exact absurd hs hb
        simp only [Instr.endLoop, Sem.run_bind, hgl, Result.andThen_ok, hnb, if_false, Bool.false_eq_true, hso, Sem.run_pure]
      · have he1 : pendEx lo.pending = some e := by rw [hLR.pend]; exact he0
        exact pend_sound he1 hst2 hE2
  | panicked chain =>
    obtain ⟨γ2, x, u, rfl, rfl, c1, c2, c3⟩ := hc
    simp only [afterRange, Option.some.injEq, Prod.mk.injEq] at h
    obtain ⟨rfl, rfl⟩ := h
    exact ⟨γ2, hst.mono c3.le c2, hE.trans c3, .panic c1⟩
  | outgrown => exact hc.elim

theorem doRange_sound (hC : CtxR C P) (hD : DefS C P) {ex : Run} (hex : RunS C P ex) {ro r : Option Nat} {f : Operand} {ps : Array Tmp} {asg body : Code} {st st' : St} {e : Ex} {a : Act} (h : doRange C ex ro f ps.toList asg body st = some (e, st')) (hg : GR C γ) (hro : RoR γ ro r)
    (hst : StR γ st a w) : (Code.rangeFunc f ps asg body).wpIn (fen r) 0 P (Post γ st.hp w e st') a w := by
  refine wpIn_rangeFunc fun fn _ => ?_
  unfold doRange at h
  cases hro with
  | none =>
    simp only at h
    rw [Option.bind_eq_some_iff] at h
    obtain ⟨⟨res, H2⟩, h1, h2⟩ := h
    obtain ⟨γ1, a1, a2, a3⟩ := newObj_at (o := .deferred (some [])) (x := .defq) hst.hp (fun _ _ => rfl) (fun _ _ _ e => by cases e)
    obtain ⟨γ2, b1, b2, b3⟩ := newObj_at (o := .loop { state := .ready, pending := none, fn := fn, tmps := a.tmps, params := ps, assign := asg, body := body, defers := w.heap.size }) (x := newLoop st ps.toList asg body st.hp.next) a1
      (fun γ' hle => ⟨_, rfl, ⟨rfl, rfl, hst.nt, fun t => (hst.env t).mono (a2.le.trans hle), rfl, rfl, rfl, w.heap.size, hle.rho _ _ a3, rfl⟩⟩) (fun _ _ _ e => by cases e)
    have hE := a2.trans b2
    have hl : γ2.rho (st.hp.next + 1) = some (.obj (w.alloc (.deferred (some []))).heap.size) := b3
    have hst2 : StR γ2 { st with defs := .coll st.hp.next :: st.defs, hp := (st.hp.new .defq).new (newLoop st ps.toList asg body st.hp.next) } { a with defers := [{ target := .collected w.heap.size, args := #[] }] ++ a.defers } _ :=
      ⟨b1, hst.nt, fun t => (hst.env t).mono hE.le, .cons (.coll (b2.le.rho _ _ a3)) (hst.defs.mono hE.le)⟩
    have harg : VRs γ2 [AV.func (.yield (st.hp.next + 1)) [] []] [Value.func (.yield (w.alloc (.deferred (some []))).heap.size) #[] #[]] :=
      VRs.cons (.func (.yield hl) rfl rfl (fun i x v h => by simp at h) (fun i x v h => by simp at h)) VRs.nil
    obtain ⟨d, d1, g, as, d2, d3⟩ := callW_sound hC hD hex h1 (hg.mono hE.le) b1 ((evR (a := a) hg hst.env f).mono hE.le) harg none
    refine ⟨(w.alloc (.deferred (some []))).heap.size, [{ target := .collected w.heap.size, args := #[] }], (w.alloc (.deferred (some []))).alloc (.loop { state := .ready, pending := none, fn := fn, tmps := a.tmps, params := ps, assign := asg, body := body, defers := w.heap.size }), d,
      (w.alloc (.deferred (some []))).alloc (.loop { state := .ready, pending := none, fn := fn, tmps := a.tmps, params := ps, assign := asg, body := body, defers := w.heap.size }), g, as,
      (w.alloc (.deferred (some []))).alloc (.loop { state := .ready, pending := none, fn := fn, tmps := a.tmps, params := ps, assign := asg, body := body, defers := w.heap.size }), ?_, ?_, fun _ _ => trivial, d2, fen_depth none, d3.mono ?_⟩
    · rfl
    · rw [resolve_range]; exact d1
    · exact after_sound (st := { st with defs := .coll st.hp.next :: st.defs }) h2 hl hst2 hE
  | @some l r hl0 =>
    simp only at h
    rw [Option.bind_eq_some_iff] at h
    obtain ⟨L, hL, h⟩ := h
    rw [Option.bind_eq_some_iff] at h
    obtain ⟨⟨res, H2⟩, h1, h2⟩ := h
    obtain ⟨lo, hlo, hLR⟩ := loop_obj hst.hp hl0 hL
    obtain ⟨dr, hd1, hd2⟩ := hLR.dq
    obtain ⟨γ2, b1, b2, b3⟩ := newObj_at (o := .loop { state := .ready, pending := none, fn := fn, tmps := a.tmps, params := ps, assign := asg, body := body, defers := lo.defers }) (x := newLoop st ps.toList asg body L.dq) hst.hp
      (fun γ' hle => ⟨_, rfl, ⟨rfl, rfl, hst.nt, fun t => (hst.env t).mono hle, rfl, rfl, rfl, dr, hle.rho _ _ hd1, hd2⟩⟩) (fun _ _ _ e => by cases e)
    have hst2 : StR γ2 { st with hp := st.hp.new (newLoop st ps.toList asg body L.dq) } { a with defers := [] ++ a.defers } _ :=
      ⟨b1, hst.nt, fun t => (hst.env t).mono b2.le, hst.defs.mono b2.le⟩
    have harg : VRs γ2 [AV.func (.yield st.hp.next) [] []] [Value.func (.yield w.heap.size) #[] #[]] :=
      VRs.cons (.func (.yield b3) rfl rfl (fun i x v h => by simp at h) (fun i x v h => by simp at h)) VRs.nil
    obtain ⟨d, d1, g, as, d2, d3⟩ := callW_sound hC hD hex h1 (hg.mono b2.le) b1 ((evR (a := a) hg hst.env f).mono b2.le) harg (some r)
    refine ⟨w.heap.size, [], w.alloc (.loop { state := .ready, pending := none, fn := fn, tmps := a.tmps, params := ps, assign := asg, body := body, defers := lo.defers }), d,
      w.alloc (.loop { state := .ready, pending := none, fn := fn, tmps := a.tmps, params := ps, assign := asg, body := body, defers := lo.defers }), g, as,
      w.alloc (.loop { state := .ready, pending := none, fn := fn, tmps := a.tmps, params := ps, assign := asg, body := body, defers := lo.defers }), ?_, ?_, fun _ _ => trivial, d2, fen_depth (some r), d3.mono ?_⟩
    · have hgl : (Instr.getLoop r).run P w = .ok lo w := by simp [Instr.getLoop, run_getObj' hlo rfl]
      show (Instr.enterLoop fn a.tmps ps asg body (some r)).run P w = _
      simp [Instr.enterLoop, hgl]
    · rw [resolve_range]; exact d1
    · exact after_sound h2 b3 hst2 b2

/-- A loop, by rounds. -/
def RunL (C : Ctx) (P : Program) (ex : Run) (m : Nat) : Prop := ∀ ro r b st e st' γ a w γ0 H0 w0, ex ro (.loop b) st = some (e, st') → GR C γ → RoR γ ro r → StR γ st a w → Ext γ0 H0 w0 γ st.hp w → Code.roundsIn (fen r) 0 P b (Post γ0 H0 w0 e st') m a w

theorem loop_round (hC : CtxR C P) {ex : Run} (hex : RunS C P ex) {m : Nat} (hL : RunL C P ex m) : RunL C P (stepC C ex) (m + 1) := by
  intro ro r b st e st' γ a w γ0 H0 w0 h hg hro hst hE
  simp only [stepC] at h
  rw [Option.bind_eq_some_iff] at h
  obtain ⟨⟨e1, st1⟩, h1, h2⟩ := h
  have hw := hex ro r b st e1 st1 γ a w h1 hg hro hst
  rw [roundsIn_succ]
  refine Go.wpIn_mono hw fun e' a' w' ⟨γ', k1, k2, k3⟩ => ?_
  cases k3 with
  | normal => exact hL ro r b st1 e st' γ' a' w' γ0 H0 w0 h2 (hg.mono k2.le) (hro.mono k2.le) k1 (hE.trans k2)
  | exit id => cases h2; exact ⟨γ', k1, hE.trans k2, .exit id⟩
  | ret => cases h2; exact ⟨γ', k1, hE.trans k2, .ret⟩
  | panic hv => cases h2; exact ⟨γ', k1, hE.trans k2, .panic hv⟩

theorem stepC_sound (hC : CtxR C P) (hD : DefS C P) {ex : Run} (hW : DrawS C P ex) (hex : RunS C P ex) {m : Nat} (hL : RunL C P ex m) : RunS C P (stepC C ex) := by
  intro ro r c st e st' γ a w h hg hro hst
  have hh := h
  unfold stepC at h
  split at h
  · cases h; exact wpIn_skip ⟨γ, hst, .refl _ _ _, .normal⟩
  · cases h; exact wpIn_label ⟨γ, hst, .refl _ _ _, .normal⟩
  · -- a region
    rename_i id ops draw
    cases draw with
    | true =>
      simp only [if_true] at h
      rw [Option.bind_eq_some_iff] at h
      obtain ⟨l, _, h⟩ := h
      split at h
      · rename_i hok
        exact hW ro r ops l st e st' γ a w id hok h hg hro hst
      · cases h
    | false =>
      simp only [if_false, Bool.false_eq_true] at h
      have := runOps_sound hC hD hex (γ0 := γ) (H0 := st.hp) (w0 := w) ops.toList st a γ w h hg hro hst (.refl _ _ _)
      exact wpIn_region_list (by simpa using this)
  · -- one behind the other
    rename_i x y
    rw [Option.bind_eq_some_iff] at h
    obtain ⟨⟨e1, st1⟩, h1, h2⟩ := h
    have hw := hex ro r x st e1 st1 γ a w h1 hg hro hst
    refine wpIn_seq (Go.wpIn_mono hw fun e' a' w' ⟨γ', k1, k2, k3⟩ => ?_)
    cases k3 with
    | normal =>
      have hy := hex ro r y st1 e st' γ' a' w' h2 (hg.mono k2.le) (hro.mono k2.le) k1
      exact Go.wpIn_mono hy fun e'' a'' w'' ⟨γ'', m1, m2, m3⟩ => ⟨γ'', m1, k2.trans m2, m3⟩
    | exit id => cases h2; exact ⟨γ', k1, k2, .exit id⟩
    | ret => cases h2; exact ⟨γ', k1, k2, .ret⟩
    | panic hv => cases h2; exact ⟨γ', k1, k2, .panic hv⟩
  · -- a choice
    rename_i q x y
    split at h
    · rename_i t ht
      have hv := evR (a := a) hg hst.env q
      rw [ht] at hv
      exact wpIn_cond hv.bool_inv (hex ro r _ st e st' γ a w h hg hro hst)
    · cases h
  · -- a block
    rename_i id b
    obtain ⟨⟨e1, st1⟩, h1, h2⟩ := Option.map_eq_some_iff.1 h
    have hw := hex ro r b st e1 st1 γ a w h1 hg hro hst
    refine wpIn_block (Go.wpIn_mono hw fun e' a' w' ⟨γ', k1, k2, k3⟩ => ?_)
    cases k3 with
    | normal => cases h2; exact ⟨γ', k1, k2, .normal⟩
    | exit i =>
      simp only at h2
      simp only [Exit.inBlock]
      split at h2
      · rename_i hi; cases h2; rw [if_pos hi]; exact ⟨γ', k1, k2, .normal⟩
      · rename_i hi; cases h2; rw [if_neg hi]; exact ⟨γ', k1, k2, .exit i⟩
    | ret => cases h2; exact ⟨γ', k1, k2, .ret⟩
    | panic hv => cases h2; exact ⟨γ', k1, k2, .panic hv⟩
  · -- a loop
    rename_i b
    exact wpIn_loop_rounds (m + 1) (loop_round hC hex hL ro r b st e st' γ a w γ st.hp w hh hg hro hst (.refl _ _ _))
  · -- a range over a function
    exact doRange_sound hC hD hex h hg hro hst
  · cases h; exact wpIn_exit ⟨γ, hst, .refl _ _ _, .exit _⟩
  · -- a scope
    rename_i b
    have hw := hex ro r b st e st' γ a w h hg hro hst
    refine wpIn_scope (Go.wpIn_mono hw fun e' a' w' ⟨γ', k1, k2, k3⟩ => ?_)
    cases k3 with
    | normal => exact ⟨γ', k1, k2, .normal⟩
    | exit id => exact ⟨γ', k1, k2, .exit id⟩
    | ret => exact ⟨γ', k1, k2, .ret⟩
    | panic hv => exact ⟨γ', k1, k2, .panic hv⟩
  · cases h; exact wpIn_ret ⟨γ, hst, .refl _ _ _, .ret⟩
  · cases h
  · cases h

/-- THE INTERPRETER IS SOUND. -/
theorem exec_sound (hC : CtxR C P) (hD : DefS C P) (hW : ∀ n, RunS C P (exec C n) → DrawS C P (exec C n)) : ∀ n, RunS C P (exec C n) ∧ RunL C P (exec C n) n
  | 0 => ⟨fun ro r c st e st' γ a w h => (by cases h), fun ro r b st e st' γ a w γ0 H0 w0 h => (by cases h)⟩
  | n + 1 =>
    let ⟨h1, h2⟩ := exec_sound hC hD hW n
    ⟨stepC_sound hC hD (hW n h1) h1 h2, loop_round hC h1 h2⟩

/-- A CALL FROM OUTSIDE. -/
theorem call_sound (hC : CtxR C P) (hD : DefS C P) (hW : ∀ n, RunS C P (exec C n) → DrawS C P (exec C n)) {n f : Nat} {args : List AV} {us : List Value} {r : CR} {H' : Heap} (h : call C n f args H = some (r, H')) (hg : GR C γ) (hH : HR γ H w) (ha : VRs γ args us) :
    CallsIn Fence.wide 0 P f us.toArray w (CPost γ H w r H') :=
  (callF_sound hC hD (exec_sound hC hD hW n).1 h hg hH ha none).1

end
end Go.AM
