/- Abstract values of a program of slices, maps and trees, and what holds between them and memory: for any program whose types are as a table says. -/
import Derived.WalkKit
import Derived.Deep.LoopGhost
import Derived.ChangeMaps4
import Derived.ChangeKeysEq
set_option linter.unusedSimpArgs false
set_option linter.unusedVariables false
set_option linter.unusedSectionVars false
set_option linter.unnecessarySimpa false
section
namespace Go.Ab
open Go.RowKit

/-- Abstract values. -/
inductive AV where
  | sc (v : Value)
  | agg (cs : List AV)
  | tup (vs : List AV)
  | lst (e : TypeId) (l : List (List AV))
  | nils
  | own (id gen : Nat)
  | ptr (id off : Nat)
  | rptr (id gen idx off : Nat)
  | sub (id gen lo n : Nat)
  | eptr (cs : List AV)
  | fn (f : Fn) (first cap : List AV)
  | mp (id : Nat)
  | gate (c : Bool) (x : AV)
  | any
  deriving Inhabited

inductive Blk where
  | cells (cs : List AV)
  | row (e : TypeId) (gen : Nat) (al : Bool) (l : List (List AV))
  | map (es : List (Value × AV))
  | dead
  deriving Inhabited

abbrev St := List Blk
def Blk.live : Blk → Bool
  | .dead => false
  | .row _ _ al _ => al
  | _ => true

/-- What is used of the program's type table. -/
inductive TK where
  | bool | int (k : IntKind) | str | ptr (e : TypeId) | slice (e : TypeId) | arr (n : Nat) (e : TypeId) | map (k e : TypeId) | strct | other
def kindOf : TypeDesc → TK
  | .bool => .bool
  | .int k => .int k
  | .string => .str
  | .pointer e => .ptr e
  | .slice e => .slice e
  | .array n e => .arr n e
  | .map k e => .map k e
  | .struct _ => .strct
  | _ => .other
structure TyI where
  cells : Nat
  bytes : Nat
  kind : TK
  flds : List (Nat × Nat)
  zero : Option Value
abbrev Tab := TypeId → Option TyI
def Tab.cells (T : Tab) (t : TypeId) : Nat := match T t with | some i => i.cells | none => 0
def Tab.bytes (T : Tab) (t : TypeId) : Nat := match T t with | some i => i.bytes | none => 0
def cellsP (P : Program) (t : TypeId) : Nat := match P.info? t with | some i => i.size | none => 0
def fldsOf (P : Program) : TypeDesc → List (Nat × Nat)
  | .struct fs => fs.toList.map fun f => (f.offset, cellsP P f.type)
  | _ => []
def tabOf (P : Program) : Tab := fun t =>
  match P.info? t, P.underlying t with
  | some i, some d => some ⟨i.size, i.bytes, kindOf d, fldsOf P d, i.zero⟩
  | _, _ => none
def TabOk (T : Tab) (P : Program) : Prop := ∀ t i, T t = some i → ∃ j d, P.info? t = some j ∧ P.underlying t = some d ∧ kindOf d = i.kind ∧ fldsOf P d = i.flds ∧ j.size = i.cells ∧ j.bytes = i.bytes ∧ j.zero = i.zero
theorem tabOf_ok (P : Program) : TabOk (tabOf P) P := by
  intro t i h
  unfold tabOf at h
  cases h1 : P.info? t with
  | none => simp [h1] at h
  | some j =>
    cases h2 : P.underlying t with
    | none => simp [h1, h2] at h
    | some d =>
      simp [h1, h2] at h
      subst h
      exact ⟨j, d, rfl, rfl, rfl, rfl, rfl, rfl, rfl⟩

structure Env where
  w : World
  st : St
  φ : Nat → Nat
  M : Nat → Prop

def Env.mut (E : Env) (b : Nat) : Prop := E.M b ∨ ∃ id blk, E.st[id]? = some blk ∧ blk.live = true ∧ E.φ id = b
def Env.stable (E : Env) (b : Nat) : Prop := b < E.w.heap.size ∧ ¬ E.mut b

mutual
def Rel (T : Tab) (E : Env) : AV → Value → Prop
  | .sc v, u => u = v ∧ v.oneCell' = true
  | .agg cs, u => ∃ vs : List Value, u = .agg vs.toArray ∧ RelC T E cs vs
  | .tup xs, u => ∃ vs : List Value, u = .tuple vs.toArray ∧ RelL T E xs vs
  | .lst e l, u => l.length * T.bytes e ≤ 140737488355328 ∧ l.length ≤ maxLen ∧ ∃ a cap, u = .slice a l.length cap ∧ l.length ≤ cap ∧ (l = [] ∨ ∃ b o, a = some ⟨b, o, none⟩ ∧ E.stable b ∧ RelM T E b (T.cells e) o l)
  | .nils, u => ∃ a, u = .slice a 0 0
  | .own id g, u => id < E.st.length ∧ ∀ e g' al l, E.st[id]? = some (.row e g' al l) → g ≤ g' ∧ (g' = g →
      (al = true → ∃ cap c, u = .slice (some ⟨E.φ id, 0, none⟩) l.length cap ∧ E.w.heap[E.φ id]? = some (.cells c e (0, 0)) ∧ c.size = cap * T.cells e ∧ l.length ≤ cap) ∧
      (al = false → ∃ a, u = .slice a 0 0))
  | .ptr id off, u => id < E.st.length ∧ ∀ cs, E.st[id]? = some (.cells cs) → u = .pointer (some ⟨E.φ id, off, none⟩)
  | .rptr id g i f, u => id < E.st.length ∧ ∀ e g' al l, E.st[id]? = some (.row e g' al l) → g ≤ g' ∧ (g' = g → al = true → u = .pointer (some ⟨E.φ id, i * T.cells e + f, none⟩))
  | .sub id g lo n, u => id < E.st.length ∧ ∀ e g' al l, E.st[id]? = some (.row e g' al l) → g ≤ g' ∧ (g' = g → ∃ a cap, u = .slice a n cap ∧ n ≤ cap ∧ (n = 0 ∨ (al = true ∧ a = some ⟨E.φ id, lo * T.cells e, none⟩)))
  | .eptr cs, u => ∃ b o, u = .pointer (some ⟨b, o, none⟩) ∧ E.stable b ∧ RelX T E b o cs
  | .fn f fs cs, u => ∃ vs ws : List Value, u = .func f vs.toArray ws.toArray ∧ RelL T E fs vs ∧ RelL T E cs ws
  | .mp id, u => id < E.st.length ∧ ∀ es, E.st[id]? = some (.map es) → u = .map (some (E.φ id))
  | .gate c x, u => (c = true → Rel T E x u) ∧ (c = false → u = undef)
  | .any, _ => True
def RelL (T : Tab) (E : Env) : List AV → List Value → Prop
  | [], vs => vs = []
  | x :: xs, vs => ∃ v r, vs = v :: r ∧ Rel T E x v ∧ RelL T E xs r
def RelC (T : Tab) (E : Env) : List AV → List Value → Prop
  | [], vs => vs = []
  | x :: xs, vs => ∃ v r, vs = v :: r ∧ Rel T E x v ∧ v.oneCell' = true ∧ RelC T E xs r
def RelX (T : Tab) (E : Env) (b : Nat) : Nat → List AV → Prop
  | _, [] => True
  | o, x :: xs => (∃ v, E.w.cell? ⟨b, o, none⟩ = some v ∧ Rel T E x v ∧ v.oneCell' = true) ∧ RelX T E b (o + 1) xs
def RelM (T : Tab) (E : Env) (b k : Nat) : Nat → List (List AV) → Prop
  | _, [] => True
  | o, e :: l => e.length = k ∧ RelX T E b o e ∧ RelM T E b k (o + k) l
end
end Go.Ab
end

section
namespace Go.Ab
open Go.RowKit

def Compat (E E' : Env) (id : Nat) : Prop :=
  match E'.st[id]? with
  | none => True
  | some .dead => True
  | some (.cells _) => (∃ cs, E.st[id]? = some (.cells cs)) ∧ E'.φ id = E.φ id
  | some (.map _) => (∃ es, E.st[id]? = some (.map es)) ∧ E'.φ id = E.φ id
  | some (.row e g' al' l') => ∃ g al l, E.st[id]? = some (.row e g al l) ∧ g ≤ g' ∧ (g' = g → al' = al ∧ (al = true → E'.φ id = E.φ id ∧ l'.length = l.length ∧
      ∀ c t, E.w.heap[E.φ id]? = some (.cells c t (0, 0)) → ∃ c', E'.w.heap[E.φ id]? = some (.cells c' t (0, 0)) ∧ c'.size = c.size))

structure Step (E E' : Env) : Prop where
  os : E'.w.os = E.w.os
  tape : E'.w.tape = E.w.tape
  output : E'.w.output = E.w.output
  size : E.w.heap.size ≤ E'.w.heap.size
  len : E.st.length ≤ E'.st.length
  M : E'.M = E.M
  blk : ∀ b, b < E.w.heap.size → (E.M b ∨ ¬ E.mut b) → E'.w.heap[b]? = E.w.heap[b]?
  stab : ∀ b, E.stable b → E'.stable b
  compat : ∀ id, id < E.st.length → Compat E E' id

theorem Step.cell {E E' : Env} (h : Step E E') {b : Nat} (hb : E.stable b) (o : Nat) : E'.w.cell? ⟨b, o, none⟩ = E.w.cell? ⟨b, o, none⟩ :=
  World.cell?_of_block (w := E.w) (a := ⟨b, o, none⟩) (h.blk b hb.1 (.inr hb.2))

mutual
theorem Rel.step {T : Tab} {E E' : Env} (h : Step E E') : ∀ (x : AV) (u : Value), Rel T E x u → Rel T E' x u
  | .sc v, u, hr => by simpa only [Rel] using hr
  | .agg cs, u, hr => by
    simp only [Rel] at hr ⊢
    obtain ⟨vs, h1, h2⟩ := hr
    exact ⟨vs, h1, RelC.step h cs vs h2⟩
  | .tup cs, u, hr => by
    simp only [Rel] at hr ⊢
    obtain ⟨vs, h1, h2⟩ := hr
    exact ⟨vs, h1, RelL.step h cs vs h2⟩
  | .lst e l, u, hr => by
    simp only [Rel] at hr ⊢
    obtain ⟨h1, h2, a, cap, h3, hcap, h4⟩ := hr
    refine ⟨h1, h2, a, cap, h3, hcap, ?_⟩
    rcases h4 with h4 | ⟨b, o, h4, h5, h6⟩
    · exact .inl h4
    · exact .inr ⟨b, o, h4, h.stab b h5, RelM.step h b (T.cells e) (fun o => h.cell h5 o) l o h6⟩
  | .nils, u, hr => by simpa only [Rel] using hr
  | .own id g, u, hr => by
    simp only [Rel] at hr ⊢
    obtain ⟨h1, h2⟩ := hr
    refine ⟨Nat.lt_of_lt_of_le h1 h.len, fun e g' al' l' hl' => ?_⟩
    have hc := h.compat id h1
    simp only [Compat, hl'] at hc
    obtain ⟨g0, al, l, hl, hg, hk⟩ := hc
    obtain ⟨i1, i2⟩ := h2 e g0 al l hl
    refine ⟨Nat.le_trans i1 hg, fun hgg => ?_⟩
    obtain ⟨rfl, hk⟩ := hk (by omega)
    obtain ⟨i2, i3⟩ := i2 (by omega)
    refine ⟨fun ha => ?_, i3⟩
    obtain ⟨k1, k2, k3⟩ := hk ha
    obtain ⟨cap, c, e1, e2, e3, e6⟩ := i2 ha
    obtain ⟨c', e4, e5⟩ := k3 c e e2
    exact ⟨cap, c', by rw [k1, k2]; exact e1, by rw [k1]; exact e4, by rw [e5]; exact e3, by rw [k2]; exact e6⟩
  | .ptr id off, u, hr => by
    simp only [Rel] at hr ⊢
    obtain ⟨h1, h2⟩ := hr
    refine ⟨Nat.lt_of_lt_of_le h1 h.len, fun cs hcs => ?_⟩
    have hc := h.compat id h1
    simp only [Compat, hcs] at hc
    obtain ⟨⟨cs0, k0⟩, k1⟩ := hc
    rw [k1]; exact h2 _ k0
  | .rptr id g i f, u, hr => by
    simp only [Rel] at hr ⊢
    obtain ⟨h1, h2⟩ := hr
    refine ⟨Nat.lt_of_lt_of_le h1 h.len, fun e g' al' l' hl' => ?_⟩
    have hc := h.compat id h1
    simp only [Compat, hl'] at hc
    obtain ⟨g0, al, l, hl, hg, hk⟩ := hc
    obtain ⟨i1, i2⟩ := h2 e g0 al l hl
    refine ⟨Nat.le_trans i1 hg, fun hgg ha => ?_⟩
    obtain ⟨rfl, hk⟩ := hk (by omega)
    obtain ⟨k1, k2, k3⟩ := hk ha
    rw [k1]; exact i2 (by omega) ha
  | .sub id g lo n, u, hr => by
    simp only [Rel] at hr ⊢
    obtain ⟨h1, h2⟩ := hr
    refine ⟨Nat.lt_of_lt_of_le h1 h.len, fun e g' al' l' hl' => ?_⟩
    have hc := h.compat id h1
    simp only [Compat, hl'] at hc
    obtain ⟨g0, al, l, hl, hg, hk⟩ := hc
    obtain ⟨i1, i2⟩ := h2 e g0 al l hl
    refine ⟨Nat.le_trans i1 hg, fun hgg => ?_⟩
    obtain ⟨rfl, hk⟩ := hk (by omega)
    obtain ⟨a, cap, e1, e2, e3⟩ := i2 (by omega)
    refine ⟨a, cap, e1, e2, e3.imp (fun q => q) fun ⟨ha, e4⟩ => ⟨ha, ?_⟩⟩
    rw [(hk ha).1]; exact e4
  | .eptr cs, u, hr => by
    simp only [Rel] at hr ⊢
    obtain ⟨b, o, h1, h2, h3⟩ := hr
    exact ⟨b, o, h1, h.stab b h2, RelX.step h b (fun o => h.cell h2 o) cs o h3⟩
  | .fn f fs cs, u, hr => by
    simp only [Rel] at hr ⊢
    obtain ⟨vs, ws, h1, h2, h3⟩ := hr
    exact ⟨vs, ws, h1, RelL.step h fs vs h2, RelL.step h cs ws h3⟩
  | .mp id, u, hr => by
    simp only [Rel] at hr ⊢
    obtain ⟨h1, h2⟩ := hr
    refine ⟨Nat.lt_of_lt_of_le h1 h.len, fun cs hcs => ?_⟩
    have hc := h.compat id h1
    simp only [Compat, hcs] at hc
    obtain ⟨⟨cs0, k0⟩, k1⟩ := hc
    rw [k1]; exact h2 _ k0
  | .gate c x, u, hr => by
    simp only [Rel] at hr ⊢
    exact ⟨fun hc => Rel.step h x u (hr.1 hc), hr.2⟩
  | .any, u, hr => by simp only [Rel]
theorem RelL.step {T : Tab} {E E' : Env} (h : Step E E') : ∀ (xs : List AV) (vs : List Value), RelL T E xs vs → RelL T E' xs vs
  | [], vs, hr => by simpa only [RelL] using hr
  | x :: xs, vs, hr => by
    simp only [RelL] at hr ⊢
    obtain ⟨v, r, h1, h2, h3⟩ := hr
    exact ⟨v, r, h1, Rel.step h x v h2, RelL.step h xs r h3⟩
theorem RelC.step {T : Tab} {E E' : Env} (h : Step E E') : ∀ (xs : List AV) (vs : List Value), RelC T E xs vs → RelC T E' xs vs
  | [], vs, hr => by simpa only [RelC] using hr
  | x :: xs, vs, hr => by
    simp only [RelC] at hr ⊢
    obtain ⟨v, r, h1, h2, h4, h3⟩ := hr
    exact ⟨v, r, h1, Rel.step h x v h2, h4, RelC.step h xs r h3⟩
theorem RelX.step {T : Tab} {E E' : Env} (h : Step E E') (b : Nat) (hb : ∀ o, E'.w.cell? ⟨b, o, none⟩ = E.w.cell? ⟨b, o, none⟩) : ∀ (xs : List AV) (o : Nat), RelX T E b o xs → RelX T E' b o xs
  | [], o, hr => by simp only [RelX]
  | x :: xs, o, hr => by
    simp only [RelX] at hr ⊢
    obtain ⟨⟨v, h1, h2, h4⟩, h3⟩ := hr
    exact ⟨⟨v, by rw [hb]; exact h1, Rel.step h x v h2, h4⟩, RelX.step h b hb xs _ h3⟩
theorem RelM.step {T : Tab} {E E' : Env} (h : Step E E') (b k : Nat) (hb : ∀ o, E'.w.cell? ⟨b, o, none⟩ = E.w.cell? ⟨b, o, none⟩) : ∀ (l : List (List AV)) (o : Nat), RelM T E b k o l → RelM T E' b k o l
  | [], o, hr => by simp only [RelM]
  | e :: l, o, hr => by
    simp only [RelM] at hr ⊢
    obtain ⟨h1, h2, h3⟩ := hr
    exact ⟨h1, RelX.step h b hb e o h2, RelM.step h b k hb l _ h3⟩
end
end Go.Ab
end

section
namespace Go.Ab
open Go.RowKit

def RelB (T : Tab) (E : Env) (i : Nat) : Blk → Prop
  | .cells cs => ∃ c t, E.w.heap[E.φ i]? = some (.cells c t (0, 0)) ∧ RelC T E cs c.toList
  | .row e _ al l => l.length * T.bytes e ≤ 140737488355328 ∧ (al = false → l = []) ∧ (al = true → ∃ c cap, E.w.heap[E.φ i]? = some (.cells c e (0, 0)) ∧ c.size = cap * T.cells e ∧ l.length ≤ cap ∧ cap ≤ maxLen ∧ RelM T E (E.φ i) (T.cells e) 0 l)
  | .map es => ∃ mes clock, E.w.heap[E.φ i]? = some (.map mes clock) ∧ mes.toList.map (·.key) = es.map (·.1) ∧ RelL T E (es.map (·.2)) (mes.toList.map (·.val))
  | .dead => True

structure Inv (T : Tab) (E : Env) : Prop where
  inj : ∀ i j bi bj, E.st[i]? = some bi → E.st[j]? = some bj → bi.live = true → bj.live = true → E.φ i = E.φ j → i = j
  lt : ∀ i bi, E.st[i]? = some bi → bi.live = true → E.φ i < E.w.heap.size ∧ ¬ E.M (E.φ i)
  Mlt : ∀ b, E.M b → b < E.w.heap.size
  blk : ∀ i bi, E.st[i]? = some bi → RelB T E i bi

theorem Step.refl (E : Env) : Step E E where
  os := rfl
  tape := rfl
  output := rfl
  size := Nat.le_refl _
  len := Nat.le_refl _
  M := rfl
  blk := fun _ _ _ => rfl
  stab := fun _ h => h
  compat := fun id _ => by
    unfold Compat
    cases h : E.st[id]? with
    | none => trivial
    | some b =>
      cases b with
      | cells cs => exact ⟨⟨cs, rfl⟩, rfl⟩
      | row e g al l => exact ⟨g, al, l, rfl, Nat.le_refl _, fun _ => ⟨rfl, fun _ => ⟨rfl, rfl, fun c t h => ⟨c, h, rfl⟩⟩⟩⟩
      | map es => exact ⟨⟨es, rfl⟩, rfl⟩
      | dead => trivial

theorem Step.trans {A B C : Env} (h : Step A B) (k : Step B C) : Step A C where
  os := k.os.trans h.os
  tape := k.tape.trans h.tape
  output := k.output.trans h.output
  size := Nat.le_trans h.size k.size
  len := Nat.le_trans h.len k.len
  M := k.M.trans h.M
  blk := fun b hb hm => by
    refine (k.blk b (Nat.lt_of_lt_of_le hb h.size) ?_).trans (h.blk b hb hm)
    rcases hm with hm | hm
    · exact .inl (by rw [h.M]; exact hm)
    · exact .inr (h.stab b ⟨hb, hm⟩).2
  stab := fun b hb => k.stab b (h.stab b hb)
  compat := fun id hid => by
    have h1 := h.compat id hid
    have h2 := k.compat id (Nat.lt_of_lt_of_le hid h.len)
    unfold Compat at *
    cases hC : C.st[id]? with
    | none => trivial
    | some b =>
      rw [hC] at h2
      cases b with
      | dead => trivial
      | cells cs =>
        obtain ⟨⟨cs1, e1⟩, e2⟩ := h2
        rw [e1] at h1
        obtain ⟨⟨cs0, e3⟩, e4⟩ := h1
        exact ⟨⟨cs0, e3⟩, e2.trans e4⟩
      | map cs =>
        obtain ⟨⟨cs1, e1⟩, e2⟩ := h2
        rw [e1] at h1
        obtain ⟨⟨cs0, e3⟩, e4⟩ := h1
        exact ⟨⟨cs0, e3⟩, e2.trans e4⟩
      | row e g al l =>
        obtain ⟨g1, al1, l1, e1, i1, k1⟩ := h2
        rw [e1] at h1
        obtain ⟨g0, al0, l0, e0, i0, k0⟩ := h1
        refine ⟨g0, al0, l0, e0, by omega, fun hg => ?_⟩
        obtain ⟨a0, k0⟩ := k0 (by omega)
        obtain ⟨b0, k1⟩ := k1 (by omega)
        refine ⟨b0.trans a0, fun hal => ?_⟩
        obtain ⟨a1, a2, a3⟩ := k0 hal
        obtain ⟨b1, b2, b3⟩ := k1 (a0.trans hal)
        refine ⟨b1.trans a1, b2.trans a2, fun c t hc => ?_⟩
        obtain ⟨c', hc', hs⟩ := a3 c t hc
        obtain ⟨c'', hc'', hs'⟩ := b3 c' t (by rw [a1]; exact hc')
        exact ⟨c'', by rw [a1] at hc''; exact hc'', hs'.trans hs⟩

theorem RelB.step {T : Tab} {E E' : Env} (h : Step E E') {i : Nat} (hφ : E'.φ i = E.φ i) (hh : E'.w.heap[E.φ i]? = E.w.heap[E.φ i]?) : ∀ bi, RelB T E i bi → RelB T E' i bi
  | .cells cs, hr => by
    obtain ⟨c, t, h1, h2⟩ := hr
    exact ⟨c, t, by rw [hφ, hh]; exact h1, RelC.step h _ _ h2⟩
  | .row e g al l, hr => by
    obtain ⟨h0, h1, h2⟩ := hr
    refine ⟨h0, h1, fun hal => ?_⟩
    obtain ⟨c, cap, h1, h2, h3, h4, h5⟩ := h2 hal
    refine ⟨c, cap, by rw [hφ, hh]; exact h1, h2, h3, h4, ?_⟩
    rw [hφ]
    exact RelM.step h _ _ (fun o => World.cell?_of_block (w := E.w) (a := ⟨E.φ i, o, none⟩) hh) _ _ h5
  | .map es, hr => by
    obtain ⟨c, t, h1, h2, h3⟩ := hr
    exact ⟨c, t, by rw [hφ, hh]; exact h1, h2, RelL.step h _ _ h3⟩
  | .dead, _ => trivial

theorem Env.not_mut_of_ge {T : Tab} {E : Env} (hi : Inv T E) {b : Nat} (hb : E.w.heap.size ≤ b) : ¬ E.mut b := by
  rintro (h | ⟨id, blk, h1, h2, h3⟩)
  · have := hi.Mlt b h; omega
  · have := (hi.lt id blk h1 h2).1; omega

/-- One block id changes: its content, its place; new blocks; nothing else. -/
theorem Env.upd {T : Tab} {E : Env} (hi : Inv T E) {id b' : Nat} {blk blk' : Blk} {w' : World}
    (hid : E.st[id]? = some blk) (ho : w'.os = E.w.os) (ht : w'.tape = E.w.tape) (hout : w'.output = E.w.output)
    (hsz : E.w.heap.size ≤ w'.heap.size) (hk : ∀ k, k < E.w.heap.size → (blk.live = true → k ≠ E.φ id) → w'.heap[k]? = E.w.heap[k]?)
    (hb : (blk.live = true ∧ b' = E.φ id) ∨ (E.w.heap.size ≤ b' ∧ b' < w'.heap.size) ∨ blk'.live = false)
    (hc : Compat E ⟨w', E.st.set id blk', fun i => if i = id then b' else E.φ i, E.M⟩ id) :
    Step E ⟨w', E.st.set id blk', fun i => if i = id then b' else E.φ i, E.M⟩ ∧
    (RelB T ⟨w', E.st.set id blk', fun i => if i = id then b' else E.φ i, E.M⟩ id blk' → Inv T ⟨w', E.st.set id blk', fun i => if i = id then b' else E.φ i, E.M⟩) := by
  have hidlt : id < E.st.length := (List.getElem?_eq_some_iff.1 hid).1
  have hget : ∀ i, i ≠ id → (E.st.set id blk')[i]? = E.st[i]? := fun i hne => List.getElem?_set_ne (Ne.symm hne)
  have hgetid : (E.st.set id blk')[id]? = some blk' := by rw [List.getElem?_set_self hidlt]
  have hne : ∀ i bi, E.st[i]? = some bi → bi.live = true → i ≠ id → w'.heap[E.φ i]? = E.w.heap[E.φ i]? := fun i bi h1 l1 hii =>
    hk _ (hi.lt i bi h1 l1).1 fun hl e => hii (hi.inj i id _ _ h1 hid l1 hl e)
  have hs : Step E ⟨w', E.st.set id blk', fun i => if i = id then b' else E.φ i, E.M⟩ := by
    refine ⟨ho, ht, hout, hsz, by simp, rfl, fun b hb1 hb2 => hk b hb1 ?_, fun b hb1 => ⟨Nat.lt_of_lt_of_le hb1.1 hsz, ?_⟩, fun i hilt => ?_⟩
    · rintro hl rfl
      rcases hb2 with hb2 | hb2
      · exact (hi.lt id blk hid hl).2 hb2
      · exact hb2 (.inr ⟨id, blk, hid, hl, rfl⟩)
    · rintro (h1 | ⟨i, bi, h1, h2, h3⟩)
      · exact hb1.2 (.inl h1)
      · dsimp only at h1 h3
        by_cases hii : i = id
        · subst hii
          simp only [if_true] at h3
          rw [hgetid] at h1
          cases h1
          rcases hb with ⟨hl, hb⟩ | hb | hb
          · exact hb1.2 (.inr ⟨i, blk, hid, hl, by rw [← hb, h3]⟩)
          · have := hb1.1; omega
          · rw [h2] at hb; cases hb
        · rw [hget i hii] at h1
          rw [if_neg hii] at h3
          exact hb1.2 (.inr ⟨i, bi, h1, h2, h3⟩)
    · by_cases hii : i = id
      · subst hii; exact hc
      · have hr := (Step.refl E).compat i hilt
        unfold Compat at hr ⊢
        dsimp only
        rw [hget i hii, if_neg hii]
        cases hE : E.st[i]? with
        | none => trivial
        | some bi =>
          rw [hE] at hr
          cases bi with
          | dead => trivial
          | cells cs => exact ⟨⟨cs, rfl⟩, rfl⟩
          | map cs => exact ⟨⟨cs, rfl⟩, rfl⟩
          | row e g al l =>
            refine ⟨g, al, l, rfl, Nat.le_refl _, fun _ => ⟨rfl, fun hal => ⟨rfl, rfl, fun c t hh => ⟨c, ?_, rfl⟩⟩⟩⟩
            rw [hne i _ hE hal hii]
            exact hh
  refine ⟨hs, fun hB => ⟨?_, ?_, fun b hb => Nat.lt_of_lt_of_le (hi.Mlt b hb) hsz, ?_⟩⟩
  · intro i j bi bj h1 h2 l1 l2 h3
    dsimp only at h1 h2 h3
    by_cases hii : i = id
    · by_cases hjj : j = id
      · rw [hii, hjj]
      · rw [if_pos hii, if_neg hjj] at h3
        rw [hget j hjj] at h2
        have hj := hi.lt j bj h2 l2
        rw [hii, hgetid] at h1
        cases h1
        rcases hb with ⟨hl, hb⟩ | hb | hb
        · have := hi.inj id j _ _ hid h2 hl l2 (by rw [← hb, h3]); omega
        · omega
        · rw [l1] at hb; cases hb
    · by_cases hjj : j = id
      · rw [if_neg hii, if_pos hjj] at h3
        rw [hget i hii] at h1
        have hj := hi.lt i bi h1 l1
        rw [hjj, hgetid] at h2
        cases h2
        rcases hb with ⟨hl, hb⟩ | hb | hb
        · have := hi.inj i id _ _ h1 hid l1 hl (by rw [← hb, h3]); omega
        · omega
        · rw [l2] at hb; cases hb
      · rw [if_neg hii, if_neg hjj] at h3
        rw [hget i hii] at h1
        rw [hget j hjj] at h2
        exact hi.inj i j _ _ h1 h2 l1 l2 h3
  · intro i bi h1 l1
    dsimp only at h1 ⊢
    by_cases hii : i = id
    · rw [if_pos hii]
      rw [hii, hgetid] at h1
      cases h1
      rcases hb with ⟨hl, hb⟩ | hb | hb
      · rw [hb]; exact ⟨Nat.lt_of_lt_of_le (hi.lt id blk hid hl).1 hsz, (hi.lt id blk hid hl).2⟩
      · exact ⟨hb.2, fun hm => by have := hi.Mlt _ hm; omega⟩
      · rw [l1] at hb; cases hb
    · rw [if_neg hii]
      rw [hget i hii] at h1
      have := hi.lt i bi h1 l1
      exact ⟨Nat.lt_of_lt_of_le this.1 hsz, this.2⟩
  · intro i bi h1
    dsimp only at h1
    by_cases hii : i = id
    · subst hii
      rw [hgetid] at h1
      cases h1
      exact hB
    · rw [hget i hii] at h1
      by_cases hlive : bi.live = true
      · refine RelB.step hs ?_ ?_ bi (hi.blk i bi h1)
        · dsimp only; rw [if_neg hii]
        · exact hne i bi h1 hlive hii
      · have hB := hi.blk i bi h1
        cases bi with
        | dead => trivial
        | row e g al l =>
          simp only [Blk.live] at hlive
          exact ⟨hB.1, hB.2.1, fun ha => absurd ha hlive⟩
        | _ => simp [Blk.live] at hlive

/-- New blocks that nobody has a number for (stable from now on), draws. -/
theorem Env.ext {T : Tab} {E : Env} (hi : Inv T E) {w' : World}
    (ho : w'.os = E.w.os) (ht : w'.tape = E.w.tape) (hout : w'.output = E.w.output)
    (hsz : E.w.heap.size ≤ w'.heap.size) (hk : ∀ k, k < E.w.heap.size → w'.heap[k]? = E.w.heap[k]?) :
    Step E { E with w := w' } ∧ Inv T { E with w := w' } := by
  have hs : Step E { E with w := w' } := by
    refine ⟨ho, ht, hout, hsz, Nat.le_refl _, rfl, fun b hb1 _ => hk b hb1, fun b hb => ⟨Nat.lt_of_lt_of_le hb.1 hsz, hb.2⟩, fun i hilt => ?_⟩
    have hr := (Step.refl E).compat i hilt
    unfold Compat at hr ⊢
    dsimp only at hr ⊢
    cases hE : E.st[i]? with
    | none => trivial
    | some bi =>
      cases bi with
      | dead => trivial
      | cells cs => exact ⟨⟨cs, rfl⟩, rfl⟩
      | map cs => exact ⟨⟨cs, rfl⟩, rfl⟩
      | row e g al l =>
        refine ⟨g, al, l, rfl, Nat.le_refl _, fun _ => ⟨rfl, fun hal => ⟨rfl, rfl, fun c t hh => ⟨c, ?_, rfl⟩⟩⟩⟩
        rw [hk _ (hi.lt i _ hE hal).1]; exact hh
  refine ⟨hs, hi.inj, fun i bi h1 l1 => ⟨Nat.lt_of_lt_of_le (hi.lt i bi h1 l1).1 hsz, (hi.lt i bi h1 l1).2⟩, fun b hb => Nat.lt_of_lt_of_le (hi.Mlt b hb) hsz, fun i bi h1 => ?_⟩
  by_cases hlive : bi.live = true
  · exact RelB.step hs rfl (hk _ (hi.lt i bi h1 hlive).1) bi (hi.blk i bi h1)
  · have hB := hi.blk i bi h1
    cases bi with
    | dead => trivial
    | row e g al l =>
      simp only [Blk.live] at hlive
      exact ⟨hB.1, hB.2.1, fun ha => absurd ha hlive⟩
    | _ => simp [Blk.live] at hlive

/-- A new block with a number. -/
theorem Env.new {T : Tab} {E : Env} (hi : Inv T E) (o : Obj) (blk : Blk) :
    Step E ⟨E.w.alloc o, E.st ++ [blk], fun i => if i = E.st.length then E.w.heap.size else E.φ i, E.M⟩ ∧
    (RelB T ⟨E.w.alloc o, E.st ++ [blk], fun i => if i = E.st.length then E.w.heap.size else E.φ i, E.M⟩ E.st.length blk →
      Inv T ⟨E.w.alloc o, E.st ++ [blk], fun i => if i = E.st.length then E.w.heap.size else E.φ i, E.M⟩) := by
  have hget : ∀ i, i < E.st.length → (E.st ++ [blk])[i]? = E.st[i]? := fun i h => List.getElem?_append_left h
  have hlast : (E.st ++ [blk])[E.st.length]? = some blk := by simp
  have hlen : ∀ i bi, (E.st ++ [blk])[i]? = some bi → i < E.st.length ∨ (i = E.st.length ∧ bi = blk) := by
    intro i bi h
    rcases Nat.lt_or_ge i E.st.length with h1 | h1
    · exact .inl h1
    · have h2 : i < (E.st ++ [blk]).length := (List.getElem?_eq_some_iff.1 h).1
      simp at h2
      have : i = E.st.length := by omega
      subst this
      rw [hlast] at h; cases h
      exact .inr ⟨rfl, rfl⟩
  have hs : Step E ⟨E.w.alloc o, E.st ++ [blk], fun i => if i = E.st.length then E.w.heap.size else E.φ i, E.M⟩ := by
    refine ⟨rfl, rfl, rfl, by simp, by simp, rfl, fun b hb _ => Below.heap_alloc _ _ _ hb, fun b hb => ⟨by have := hb.1; simp; omega, ?_⟩, fun i hilt => ?_⟩
    · rintro (h1 | ⟨i, bi, h1, h2, h3⟩)
      · exact hb.2 (.inl h1)
      · dsimp only at h1 h3
        rcases hlen i bi h1 with h4 | ⟨h4, h5⟩
        · rw [hget i h4] at h1
          rw [if_neg (by omega)] at h3
          exact hb.2 (.inr ⟨i, bi, h1, h2, h3⟩)
        · rw [if_pos h4] at h3
          have := hb.1; omega
    · unfold Compat
      dsimp only
      rw [hget i hilt]
      cases hE : E.st[i]? with
      | none => trivial
      | some bi =>
        cases bi with
        | dead => trivial
        | cells cs => exact ⟨⟨cs, rfl⟩, if_neg (by omega)⟩
        | map cs => exact ⟨⟨cs, rfl⟩, if_neg (by omega)⟩
        | row e g al l =>
          refine ⟨g, al, l, rfl, Nat.le_refl _, fun _ => ⟨rfl, fun hal => ⟨if_neg (by omega), rfl, fun c t hh => ⟨c, ?_, rfl⟩⟩⟩⟩
          rw [Below.heap_alloc _ _ _ (hi.lt i _ hE hal).1]; exact hh
  refine ⟨hs, fun hB => ⟨?_, ?_, fun b hb => by have := hi.Mlt b hb; simp; omega, ?_⟩⟩
  · intro i j bi bj h1 h2 l1 l2 h3
    dsimp only at h1 h2 h3
    rcases hlen i bi h1 with h4 | ⟨h4, h5⟩
    · rw [hget i h4] at h1
      have hi1 := (hi.lt i bi h1 l1).1
      rw [if_neg (by omega)] at h3
      rcases hlen j bj h2 with h6 | ⟨h6, h7⟩
      · rw [hget j h6] at h2
        rw [if_neg (by omega)] at h3
        exact hi.inj i j _ _ h1 h2 l1 l2 h3
      · rw [if_pos h6] at h3; omega
    · rw [if_pos h4] at h3
      rcases hlen j bj h2 with h6 | ⟨h6, h7⟩
      · rw [hget j h6] at h2
        have hj1 := (hi.lt j bj h2 l2).1
        rw [if_neg (by omega)] at h3; omega
      · omega
  · intro i bi h1 l1
    dsimp only at h1 ⊢
    rcases hlen i bi h1 with h4 | ⟨h4, h5⟩
    · rw [hget i h4] at h1
      rw [if_neg (by omega)]
      have := hi.lt i bi h1 l1
      exact ⟨by simp; omega, this.2⟩
    · rw [if_pos h4]
      exact ⟨by simp, fun hm => by have := hi.Mlt _ hm; omega⟩
  · intro i bi h1
    dsimp only at h1
    rcases hlen i bi h1 with h4 | ⟨h4, h5⟩
    · rw [hget i h4] at h1
      by_cases hlive : bi.live = true
      · refine RelB.step hs ?_ ?_ bi (hi.blk i bi h1)
        · dsimp only; rw [if_neg (by omega)]
        · exact Below.heap_alloc _ _ _ (hi.lt i bi h1 hlive).1
      · have hB := hi.blk i bi h1
        cases bi with
        | dead => trivial
        | row e g al l =>
          simp only [Blk.live] at hlive
          exact ⟨hB.1, hB.2.1, fun ha => absurd ha hlive⟩
        | _ => simp [Blk.live] at hlive
    · rw [h4, h5]; exact hB
end Go.Ab
end

section
namespace Go.Ab
open Go.RowKit

abbrev Slots := Nat → AV
def Slots.put (σ : Slots) (d : Option Tmp) (v : AV) : Slots :=
  match d with
  | none => σ
  | some d => fun i => if i = d then v else σ i

structure RelS (T : Tab) (E : Env) (n : Nat) (σ : Slots) (a : Act) : Prop where
  defers : a.defers = []
  size : n ≤ a.tmps.size
  val : ∀ i, Rel T E (σ i) (a.tmps.getD i undef)

theorem RelS.step {T : Tab} {E E' : Env} {n : Nat} {σ : Slots} {a : Act} (h : RelS T E n σ a) (hs : Step E E') : RelS T E' n σ a :=
  ⟨h.defers, h.size, fun i => Rel.step hs _ _ (h.val i)⟩

def dstOk (n : Nat) : Option Tmp → Prop
  | none => True
  | some d => d < n

theorem RelS.put {T : Tab} {E : Env} {n : Nat} {σ : Slots} {a : Act} (h : RelS T E n σ a) {d : Option Tmp} (hd : dstOk n d) {x : AV} {u : Value} (hr : Rel T E x u) :
    RelS T E n (σ.put d x) (a.put d u) := by
  cases d with
  | none => exact h
  | some d =>
    have hlt : d < a.tmps.size := Nat.lt_of_lt_of_le hd h.size
    refine ⟨h.defers, by simp [Act.put]; exact h.size, fun i => ?_⟩
    simp only [Slots.put, Act.put]
    by_cases hi : i = d
    · subst hi
      rw [if_pos rfl]
      simpa [Array.getD, hlt] using hr
    · rw [if_neg hi]
      have := h.val i
      have hne : d ≠ i := fun e => hi e.symm
      simpa [Array.getElem?_setIfInBounds_ne hne] using this

/-- What a callee is promised, and promises. -/
def ACalls (T : Tab) (P : Program) (f : FuncId) (args : List AV) (st : St) (Q : AV → St → Prop) : Prop :=
  ∀ (E : Env) (vs : List Value), E.st = st → Inv T E → RelL T E args vs →
    Calls P f vs.toArray E.w (fun e w' => ∃ v r E', e = .returned v ∧ E'.w = w' ∧ Inv T E' ∧ Step E E' ∧ Rel T E' r v ∧ Q r E'.st)

/-- The weakest precondition over abstract states. -/
def AW (T : Tab) (P : Program) (E0 : Env) (n : Nat) (c : Code) (K : Exit → Slots → St → Prop) (σ : Slots) (st : St) : Prop :=
  ∀ (E : Env) (a : Act), E.st = st → Inv T E → Step E0 E → RelS T E n σ a →
    c.wp P (fun e a' w' => ∃ E' σ', E'.w = w' ∧ Inv T E' ∧ Step E0 E' ∧ RelS T E' n σ' a' ∧ K e σ' E'.st) a E.w

section
variable {T : Tab} {P : Program} {E0 : Env} {n : Nat} {K : Exit → Slots → St → Prop} {σ : Slots} {st : St}

theorem AW.mono {c : Code} {K' : Exit → Slots → St → Prop} (h : AW T P E0 n c K σ st) (hk : ∀ e σ st, K e σ st → K' e σ st) : AW T P E0 n c K' σ st :=
  fun E a h1 h2 h3 h4 => wp_mono (h E a h1 h2 h3 h4) fun _ _ _ ⟨E', σ', k1, k2, k3, k4, k5⟩ => ⟨E', σ', k1, k2, k3, k4, hk _ _ _ k5⟩

theorem AW.skip (h : K .normal σ st) : AW T P E0 n .skip K σ st :=
  fun E _ h1 h2 h3 h4 => wp_skip ⟨E, σ, rfl, h2, h3, h4, h1 ▸ h⟩
theorem AW.ret (h : K .ret σ st) : AW T P E0 n .ret K σ st :=
  fun E _ h1 h2 h3 h4 => wp_ret ⟨E, σ, rfl, h2, h3, h4, h1 ▸ h⟩
theorem AW.exit {id : Nat} (h : K (.exit id) σ st) : AW T P E0 n (.exit id) K σ st :=
  fun E _ h1 h2 h3 h4 => wp_exit ⟨E, σ, rfl, h2, h3, h4, h1 ▸ h⟩

def seqK (k : Slots → St → Prop) (K : Exit → Slots → St → Prop) : Exit → Slots → St → Prop
  | .normal, σ, st => k σ st
  | e, σ, st => K e σ st

theorem AW.seq {x y : Code} (h : AW T P E0 n x (seqK (AW T P E0 n y K) K) σ st) : AW T P E0 n (.seq x y) K σ st := by
  intro E a h1 h2 h3 h4
  refine wp_seq (wp_mono (h E a h1 h2 h3 h4) ?_)
  rintro e a' w' ⟨E', σ', k1, k2, k3, k4, k5⟩
  subst k1
  cases e with
  | normal => exact k5 E' a' rfl k2 k3 k4
  | exit id => exact ⟨E', σ', rfl, k2, k3, k4, k5⟩
  | goto l => exact ⟨E', σ', rfl, k2, k3, k4, k5⟩
  | ret => exact ⟨E', σ', rfl, k2, k3, k4, k5⟩
  | panic ch => exact ⟨E', σ', rfl, k2, k3, k4, k5⟩
  | outgrown => exact ⟨E', σ', rfl, k2, k3, k4, k5⟩

def blockK (id : Nat) (k : Slots → St → Prop) (K : Exit → Slots → St → Prop) : Exit → Slots → St → Prop
  | .normal, σ, st => k σ st
  | .exit id', σ, st => if id' = id then k σ st else K (.exit id') σ st
  | e, σ, st => K e σ st

theorem AW.block {id : Nat} {c : Code} (h : AW T P E0 n c (blockK id (K .normal) K) σ st) : AW T P E0 n (.block id c) K σ st := by
  intro E a h1 h2 h3 h4
  refine wp_block (wp_mono (h E a h1 h2 h3 h4) ?_)
  rintro e a' w' ⟨E', σ', k1, k2, k3, k4, k5⟩
  subst k1
  cases e with
  | normal => exact ⟨E', σ', rfl, k2, k3, k4, k5⟩
  | exit id' =>
    simp only [Exit.inBlock]
    simp only [blockK] at k5
    split
    · rename_i he; rw [if_pos he] at k5; exact ⟨E', σ', rfl, k2, k3, k4, k5⟩
    · rename_i he; rw [if_neg he] at k5; exact ⟨E', σ', rfl, k2, k3, k4, k5⟩
  | goto l => exact ⟨E', σ', rfl, k2, k3, k4, k5⟩
  | ret => exact ⟨E', σ', rfl, k2, k3, k4, k5⟩
  | panic ch => exact ⟨E', σ', rfl, k2, k3, k4, k5⟩
  | outgrown => exact ⟨E', σ', rfl, k2, k3, k4, k5⟩

theorem AW.loop {c : Code} (I : Nat → Slots → St → Prop) (n0 : Nat) (h0 : I n0 σ st)
    (hr : ∀ m σ st, I m σ st → AW T P E0 n c (seqK (fun σ' st' => ∃ m', m' < m ∧ I m' σ' st') K) σ st) : AW T P E0 n (.loop c) K σ st := by
  intro E a h1 h2 h3 h4
  refine wp_loop_ghost (fun m a w => ∃ E σ, E.w = w ∧ Inv T E ∧ Step E0 E ∧ RelS T E n σ a ∧ I m σ E.st) n0 ⟨E, σ, rfl, h2, h3, h4, h1 ▸ h0⟩ ?_
  rintro m a w ⟨E, σ, rfl, k2, k3, k4, k5⟩
  refine wp_mono (hr m σ E.st k5 E a rfl k2 k3 k4) ?_
  rintro e a' w' ⟨E', σ', k1, k2, k3, k4, k5⟩
  subst k1
  cases e with
  | normal => obtain ⟨m', hm, hI⟩ := k5; exact ⟨m', hm, E', σ', rfl, k2, k3, k4, hI⟩
  | exit id' => exact ⟨E', σ', rfl, k2, k3, k4, k5⟩
  | goto l => exact ⟨E', σ', rfl, k2, k3, k4, k5⟩
  | ret => exact ⟨E', σ', rfl, k2, k3, k4, k5⟩
  | panic ch => exact ⟨E', σ', rfl, k2, k3, k4, k5⟩
  | outgrown => exact ⟨E', σ', rfl, k2, k3, k4, k5⟩

/-- An operand's abstract value. -/
def AV.ofConst1 : Value → AV
  | .slice none 0 0 => .nils
  | .func f fs cs => if fs.size = 0 ∧ cs.size = 0 then .fn f [] [] else .any
  | .agg _ => .any
  | .tuple _ => .any
  | v => .sc v
def AV.ofConst : Value → AV
  | .agg vs => if vs.toList.all (·.oneCell') = true then .agg (vs.toList.map AV.ofConst1) else .any
  | v => AV.ofConst1 v
def ev (σ : Slots) : Operand → AV
  | .tmp t => σ t
  | .const v => AV.ofConst v
  | .global g => .sc (.pointer (some ⟨g, 0, none⟩))
  | .func f => .fn (.func f) [] []

theorem rel_ofConst1 (T : Tab) (E : Env) (v : Value) : Rel T E (AV.ofConst1 v) v := by
  unfold AV.ofConst1
  split
  · simp only [Rel]; exact ⟨none, rfl⟩
  · split
    · rename_i f fs cs h
      obtain ⟨h1, h2⟩ := h
      simp only [Rel, RelL]
      exact ⟨[], [], by rw [Array.eq_empty_of_size_eq_zero h1, Array.eq_empty_of_size_eq_zero h2], rfl, rfl⟩
    · simp only [Rel]
  · simp only [Rel]
  · simp only [Rel]
  · rename_i h1 h2 h3 h4
    simp only [Rel]
    refine ⟨trivial, ?_⟩
    cases v <;> first | rfl | (exact absurd rfl (h3 _)) | (exact absurd rfl (h4 _))

theorem relC_consts1 (T : Tab) (E : Env) : ∀ (vs : List Value), vs.all (·.oneCell') = true → RelC T E (vs.map AV.ofConst1) vs
  | [], _ => by simp only [List.map_nil, RelC]
  | v :: vs, h => by
    simp only [List.all_cons, Bool.and_eq_true] at h
    simp only [List.map_cons, RelC]
    exact ⟨v, vs, rfl, rel_ofConst1 T E v, h.1, relC_consts1 T E vs h.2⟩
theorem rel_ofConst (T : Tab) (E : Env) (v : Value) : Rel T E (AV.ofConst v) v := by
  unfold AV.ofConst
  split
  · split
    · rename_i vs h
      simp only [Rel]
      exact ⟨vs.toList, by simp, relC_consts1 T E _ h⟩
    · simp only [Rel]
  · exact rel_ofConst1 T E v

theorem RelS.ev {E : Env} {a : Act} (h : RelS T E n σ a) (x : Operand) : Rel T E (Ab.ev σ x) (a.eval x) := by
  cases x with
  | tmp t => exact h.val t
  | const v => exact rel_ofConst T E v
  | global g => simp only [Ab.ev, Rel, Act.eval]; exact ⟨trivial, rfl⟩
  | func f => simp only [Ab.ev, Rel, RelL, Act.eval]; exact ⟨[], [], rfl, rfl, rfl⟩

theorem AW.cond {c : Operand} {x y : Code} {b : Bool} (hc : Ab.ev σ c = .sc (.bool b)) (hx : b = true → AW T P E0 n x K σ st) (hy : b = false → AW T P E0 n y K σ st) :
    AW T P E0 n (.cond c x y) K σ st := by
  intro E a h1 h2 h3 h4
  have hv := h4.ev c
  rw [hc] at hv
  simp only [Rel] at hv
  exact wp_cond_split hv.1 (fun hb => hx hb E a h1 h2 h3 h4) (fun hb => hy hb E a h1 h2 h3 h4)

end
end Go.Ab
end

section
namespace Go.Ab
open Go.RowKit

theorem addr_add (b o j : Nat) : (⟨b, o, none⟩ : Addr).add j = ⟨b, o + j, none⟩ := by
  unfold Addr.add; split <;> simp_all

def aggD : TK → Bool
  | .strct => true
  | .arr _ _ => true
  | _ => false

section
variable {T : Tab} {P : Program} (hT : TabOk T P) {E : Env}

include hT in
theorem run_under {t : TypeId} {i : TyI} (h : T t = some i) : ∃ d, kindOf d = i.kind ∧ fldsOf P d = i.flds ∧ ∀ w, (underlying t).run P w = .ok d w := by
  obtain ⟨j, d, h1, h2, h3, h4, _⟩ := hT t i h
  exact ⟨d, h3, h4, fun w => run_underlying h2 w⟩

include hT in
theorem run_isAgg {t : TypeId} {i : TyI} (h : T t = some i) (w : World) : (isAgg t).run P w = .ok (aggD i.kind) w := by
  obtain ⟨d, h1, _, h2⟩ := run_under hT h
  unfold isAgg
  rw [Sem.run_bind, h2, ← h1]
  cases d <;> rfl

include hT in
theorem run_sizeOf {t : TypeId} {i : TyI} (h : T t = some i) (w : World) : (sizeOf t).run P w = .ok i.cells w := by
  obtain ⟨j, d, h1, h2, _, _, h3, _⟩ := hT t i h
  simp [sizeOf, typeInfo, h1, h3]

include hT in
theorem run_zero {t : TypeId} {i : TyI} {z : Value} (h : T t = some i) (hz : i.zero = some z) (w : World) : (zeroValue t).run P w = .ok z w := by
  obtain ⟨j, d, h1, h2, _, _, h3, h4, h5⟩ := hT t i h
  simp [zeroValue, typeInfo, h1, h5, hz]

/-- The values that lie where abstract cells lie. -/
theorem RelX.vals {b : Nat} : ∀ (cs : List AV) (o : Nat), RelX T E b o cs → ∃ vs : List Value, RelC T E cs vs ∧ vs.length = cs.length ∧ ∀ j v, vs[j]? = some v → E.w.cell? ⟨b, o + j, none⟩ = some v
  | [], o, _ => ⟨[], by simp only [RelC], rfl, by simp⟩
  | x :: xs, o, h => by
    simp only [RelX] at h
    obtain ⟨⟨v, h1, h2, h3⟩, h4⟩ := h
    obtain ⟨vs, k1, k2, k3⟩ := RelX.vals xs (o + 1) h4
    refine ⟨v :: vs, ?_, by simp [k2], ?_⟩
    · simp only [RelC]; exact ⟨v, vs, rfl, h2, h3, k1⟩
    · intro j u hj
      cases j with
      | zero => simp at hj; subst hj; simpa using h1
      | succ j =>
        have := k3 j u (by simpa using hj)
        rw [← this]; congr 2; omega

theorem RelC.take : ∀ (cs : List AV) (vs : List Value), RelC T E cs vs → ∀ n, RelC T E (cs.take n) (vs.take n)
  | [], vs, h, n => by simp only [RelC] at h; subst h; cases n <;> simp [RelC]
  | x :: xs, vs, h, n => by
    simp only [RelC] at h
    obtain ⟨v, r, rfl, h1, h2, h3⟩ := h
    cases n with
    | zero => simp [RelC]
    | succ n => simp only [List.take_succ_cons, RelC]; exact ⟨v, _, rfl, h1, h2, RelC.take xs r h3 n⟩

theorem RelC.drop : ∀ (cs : List AV) (vs : List Value), RelC T E cs vs → ∀ n, RelC T E (cs.drop n) (vs.drop n)
  | [], vs, h, n => by simp only [RelC] at h; subst h; cases n <;> simp [RelC]
  | x :: xs, vs, h, n => by
    cases n with
    | zero => simpa using h
    | succ n =>
      simp only [RelC] at h
      obtain ⟨v, r, rfl, h1, h2, h3⟩ := h
      simpa using RelC.drop xs r h3 n

theorem RelC.append : ∀ (cs : List AV) (vs : List Value) {ds : List AV} {us : List Value}, RelC T E cs vs → RelC T E ds us → RelC T E (cs ++ ds) (vs ++ us)
  | [], vs, ds, us, h, k => by simp only [RelC] at h; subst h; simpa using k
  | x :: xs, vs, ds, us, h, k => by
    simp only [RelC] at h
    obtain ⟨v, r, rfl, h1, h2, h3⟩ := h
    simp only [List.cons_append, RelC]
    exact ⟨v, _, rfl, h1, h2, RelC.append xs r h3 k⟩

theorem RelC.len : ∀ (cs : List AV) (vs : List Value), RelC T E cs vs → vs.length = cs.length
  | [], vs, h => by simp only [RelC] at h; subst h; rfl
  | x :: xs, vs, h => by
    simp only [RelC] at h
    obtain ⟨v, r, rfl, h1, h2, h3⟩ := h
    simp [RelC.len xs r h3]

theorem RelC.one : ∀ (cs : List AV) (vs : List Value), RelC T E cs vs → ∀ v ∈ vs, v.oneCell' = true
  | [], vs, h => by simp only [RelC] at h; subst h; simp
  | x :: xs, vs, h => by
    simp only [RelC] at h
    obtain ⟨v, r, rfl, h1, h2, h3⟩ := h
    intro u hu
    rcases List.mem_cons.1 hu with rfl | hu
    · exact h2
    · exact RelC.one xs r h3 u hu

theorem RelX.drop {b : Nat} : ∀ (cs : List AV) (o n : Nat), RelX T E b o cs → RelX T E b (o + n) (cs.drop n)
  | [], o, n, h => by simp [RelX]
  | x :: xs, o, 0, h => by simpa using h
  | x :: xs, o, n + 1, h => by
    simp only [RelX] at h
    have := RelX.drop xs (o + 1) n h.2
    simpa [Nat.add_assoc, Nat.add_comm 1 n] using this

/-- The cells of a new block hold what they were made of. -/
theorem RelX.of_cells {b : Nat} {c : List Value} (hc : ∀ j v, c[j]? = some v → E.w.cell? ⟨b, j, none⟩ = some v) : ∀ (cs : List AV) (vs : List Value) (o : Nat), RelC T E cs vs → (∀ j, j < vs.length → c[o + j]? = vs[j]?) → RelX T E b o cs
  | [], vs, o, h, _ => by simp only [RelX]
  | x :: xs, vs, o, h, ho => by
    simp only [RelC] at h
    obtain ⟨v, r, rfl, h1, h2, h3⟩ := h
    simp only [RelX]
    refine ⟨⟨v, hc _ _ ?_, h1, h2⟩, RelX.of_cells hc xs r (o + 1) h3 fun j hj => ?_⟩
    · have := ho 0 (by simp); simpa using this
    · have := ho (j + 1) (by simp; omega); simpa [Nat.add_assoc, Nat.add_comm 1 j] using this

/-- What is loaded. -/
def mk (i : TyI) (cs : List AV) : AV := if aggD i.kind then .agg (cs.take i.cells) else cs.headD .any

def cellsOk (i : TyI) (cs : List AV) : Prop := if aggD i.kind then i.cells ≤ cs.length else cs ≠ []

include hT in
theorem load_at {t : TypeId} {i : TyI} (h : T t = some i) {b o : Nat} {cs : List AV} (hx : RelX T E b o cs) (hok : cellsOk i cs) :
    ∃ u, (Instr.loadAt t (.pointer (some ⟨b, o, none⟩))).run P E.w = .ok u E.w ∧ Rel T E (mk i cs) u := by
  obtain ⟨vs, h1, h2, h3⟩ := RelX.vals cs o hx
  unfold cellsOk at hok
  unfold mk
  by_cases ha : aggD i.kind = true
  · rw [if_pos ha] at hok ⊢
    have hl := run_loadCells_list (P := P) E.w ⟨b, o, none⟩ (vs.take i.cells) (fun j v hj => by
      rw [addr_add]
      rw [List.getElem?_take] at hj
      split at hj
      · exact h3 j v hj
      · cases hj)
    have hlen : (vs.take i.cells).length = i.cells := by simp [h2, hok]
    rw [hlen] at hl
    refine ⟨.agg (vs.take i.cells).toArray, ?_, ?_⟩
    · simp [Instr.loadAt, Instr.sureAddr, loadVar, run_isAgg hT h, ha, run_sizeOf hT h, hl]
    · simp only [Rel]
      exact ⟨_, rfl, RelC.take cs vs h1 _⟩
  · rw [if_neg ha] at hok ⊢
    cases cs with
    | nil => exact absurd rfl hok
    | cons x xs =>
      simp only [RelX] at hx
      obtain ⟨⟨v, k1, k2, k3⟩, _⟩ := hx
      refine ⟨v, ?_, by simpa using k2⟩
      simp [Instr.loadAt, Instr.sureAddr, loadVar, run_isAgg hT h, ha, k1]

theorem relX_of_blk {id : Nat} {cs : List AV} (hi : Inv T E) (hid : E.st[id]? = some (.cells cs)) : RelX T E (E.φ id) 0 cs := by
  obtain ⟨c, t, h1, h2⟩ := hi.blk id _ hid
  refine RelX.of_cells (c := c.toList) (fun j v hj => ?_) cs c.toList 0 h2 (fun j _ => by simp)
  simp [World.cell?, h1]; simpa using hj

end
end Go.Ab
end

section
namespace Go.Ab
open Go.RowKit

def str : AV → AV
  | .gate _ x => x
  | x => x
def gok : AV → Prop
  | .gate c _ => c = true
  | _ => True
theorem rel_str {T : Tab} {E : Env} {x : AV} {u : Value} (h : Rel T E x u) (hg : gok x) : Rel T E (str x) u := by
  cases x <;> first | exact h | (simp only [Rel] at h; exact h.1 hg)

def i64ok (z : Int) : Prop := -9223372036854775808 ≤ z ∧ z ≤ 9223372036854775807

/-- The order of strings. -/
def strLt (a b : ByteArray) : Bool := Op.bytesLess a.data.toList b.data.toList

def binI : BinOp → Int → Int → AV
  | .add, a, b => .sc (.int .i64 (a + b))
  | .sub, a, b => .sc (.int .i64 (a - b))
  | .mul, a, b => .sc (.int .i64 (a * b))
  | .quo, a, b => .sc (.int .i64 (a.tdiv b))
  | .rem, a, b => .sc (.int .i64 (a.tmod b))
  | .eql, a, b => .sc (.bool (decide (a = b)))
  | .neq, a, b => .sc (.bool (!decide (a = b)))
  | .lss, a, b => .sc (.bool (decide (a < b)))
  | .leq, a, b => .sc (.bool (decide (a ≤ b)))
  | .gtr, a, b => .sc (.bool (decide (b < a)))
  | .geq, a, b => .sc (.bool (decide (b ≤ a)))
  | _, _, _ => .any
def binIok : BinOp → Int → Int → Prop
  | .add, a, b => i64ok (a + b)
  | .sub, a, b => i64ok (a - b)
  | .mul, a, b => i64ok (a * b)
  | .quo, a, b => b ≠ 0 ∧ i64ok (a.tdiv b)
  | .rem, _, b => b ≠ 0
  | .eql, _, _ => True
  | .neq, _, _ => True
  | .lss, _, _ => True
  | .leq, _, _ => True
  | .gtr, _, _ => True
  | .geq, _, _ => True
  | _, _, _ => False

theorem run_binI (P : Program) (w : World) (t : TypeId) : ∀ (op : BinOp) (a b : Int), binIok op a b →
    ∃ u, (binOp op t (.int .i64 a) (.int .i64 b)).run P w = .ok u w ∧ binI op a b = .sc u ∧ u.oneCell' = true
  | .add, a, b, h => ⟨.int .i64 (a + b), by simp [binOp, Op.intArith, IntWalk.i64_in _ h], rfl, rfl⟩
  | .sub, a, b, h => ⟨.int .i64 (a - b), by simp [binOp, Op.intArith, IntWalk.i64_in _ h], rfl, rfl⟩
  | .mul, a, b, h => ⟨.int .i64 (a * b), by simp [binOp, Op.intArith, IntWalk.i64_in _ h], rfl, rfl⟩
  | .quo, a, b, h => ⟨.int .i64 (a.tdiv b), by simp [binOp, Op.intDiv, h.1, IntWalk.i64_in _ h.2], rfl, rfl⟩
  | .rem, a, b, h => ⟨.int .i64 (a.tmod b), by simp [binOp, Op.intDiv, show ¬ b = 0 from h], rfl, rfl⟩
  | .eql, a, b, h => ⟨.bool (a == b), by simp [binOp, Op.intCmp], by simp only [binI]; congr 2, rfl⟩
  | .neq, a, b, h => ⟨.bool (a != b), by simp [binOp, Op.intCmp], by simp only [binI]; congr 2, rfl⟩
  | .lss, a, b, h => ⟨.bool (decide (a < b)), by simp [binOp, Op.intCmp], rfl, rfl⟩
  | .leq, a, b, h => ⟨.bool (decide (a ≤ b)), by simp [binOp, Op.intCmp], rfl, rfl⟩
  | .gtr, a, b, h => ⟨.bool (decide (b < a)), by simp [binOp, Op.intCmp], rfl, rfl⟩
  | .geq, a, b, h => ⟨.bool (decide (b ≤ a)), by simp [binOp, Op.intCmp], rfl, rfl⟩
  | .and, _, _, h | .or, _, _, h | .xor, _, _, h | .shl, _, _, h | .shr, _, _, h | .andNot, _, _, h => h.elim

def binS : BinOp → ByteArray → ByteArray → AV
  | .eql, a, b => .sc (.bool (decide (a = b)))
  | .neq, a, b => .sc (.bool (!decide (a = b)))
  | .lss, a, b => .sc (.bool (strLt a b))
  | .gtr, a, b => .sc (.bool (!(strLt a b || decide (a = b))))
  | .leq, a, b => .sc (.bool (strLt a b || decide (a = b)))
  | .geq, a, b => .sc (.bool (!strLt a b))
  | .add, a, b => .sc (.string (a ++ b))
  | _, _, _ => .any
def binSok : BinOp → ByteArray → ByteArray → Prop
  | .eql, _, _ => True
  | .neq, _, _ => True
  | .lss, _, _ => True
  | .gtr, _, _ => True
  | .leq, _, _ => True
  | .geq, _, _ => True
  | .add, a, b => i64ok (a.size + b.size)
  | _, _, _ => False

theorem toList_beq (a b : ByteArray) : (a.toList == b.toList) = decide (a = b) := by
  rw [ByteArray.toList_eq, ByteArray.toList_eq]
  by_cases h : a = b
  · subst h; simp
  · have : ¬ a.data.toList = b.data.toList := fun e => h (by
      cases a; cases b; simp only [ByteArray.mk.injEq]; exact Array.toList_inj.1 e)
    rw [decide_eq_false h, beq_eq_false_iff_ne.2 this]

theorem run_binS (P : Program) (w : World) (t : TypeId) : ∀ (op : BinOp) (a b : ByteArray), binSok op a b →
    ∃ u, (binOp op t (.string a) (.string b)).run P w = .ok u w ∧ binS op a b = .sc u ∧ u.oneCell' = true
  | .eql, a, b, h => ⟨_, by simp only [binOp, Op.stringOp, toList_beq]; rfl, rfl, rfl⟩
  | .neq, a, b, h => ⟨_, by simp only [binOp, Op.stringOp, toList_beq]; rfl, rfl, rfl⟩
  | .lss, a, b, h => ⟨_, by simp only [binOp, Op.stringOp, ByteArray.toList_eq]; rfl, rfl, rfl⟩
  | .gtr, a, b, h => ⟨_, by simp only [binOp, Op.stringOp, toList_beq]; simp only [ByteArray.toList_eq]; rfl, rfl, rfl⟩
  | .leq, a, b, h => ⟨_, by simp only [binOp, Op.stringOp, toList_beq]; simp only [ByteArray.toList_eq]; rfl, rfl, rfl⟩
  | .geq, a, b, h => ⟨_, by simp only [binOp, Op.stringOp, ByteArray.toList_eq]; rfl, rfl, rfl⟩
  | .add, a, b, h => ⟨.string (a ++ b), by
      have h2 : ¬ ((a.size + b.size : Nat) : Int) > IntKind.i64.max := by
        have := h.2
        have e : IntKind.i64.max = 9223372036854775807 := by decide
        rw [e]; push_cast; omega
      simp only [binOp, Op.stringOp, if_neg h2]; rfl, rfl, rfl⟩
  | .and, _, _, h | .or, _, _, h | .xor, _, _, h | .shl, _, _, h | .shr, _, _, h | .andNot, _, _, h => h.elim
  | .sub, _, _, h | .mul, _, _, h | .quo, _, _, h | .rem, _, _, h => h.elim

/-- Is it a value that is compared with nil? 'some true': it is nil. -/
def isNilP (st : St) : AV → Option Bool
  | .sc (.pointer none) => some true
  | .ptr id _ => match st[id]? with | some (.cells _) => some false | _ => none
  | .eptr _ => some false
  | _ => none
def isNilM (st : St) : AV → Option Bool
  | .sc (.map none) => some true
  | .mp id => match st[id]? with | some (.map _) => some false | _ => none
  | _ => none
def isBoolD : TK → Bool
  | .bool => true
  | _ => false
def isPtrD : TK → Bool
  | .ptr _ => true
  | _ => false
def isMapD : TK → Bool
  | .map _ _ => true
  | _ => false
def nilV (b : Option Bool) (op : BinOp) : AV :=
  match op with
  | .eql => .sc (.bool (b.getD false))
  | .neq => .sc (.bool (!(b.getD false)))
  | _ => .any
/-- What stands for a comparison that is not carried out. -/
def anyB : BinOp → AV
  | .eql => .sc (.bool false)
  | .neq => .sc (.bool false)
  | .lss => .sc (.bool false)
  | .leq => .sc (.bool false)
  | .gtr => .sc (.bool false)
  | .geq => .sc (.bool false)
  | _ => .any
def boolV (a b : Bool) : BinOp → AV
  | .eql => .sc (.bool (a == b))
  | .neq => .sc (.bool (!(a == b)))
  | _ => .any
def eqOp : BinOp → Prop
  | .eql => True
  | .neq => True
  | _ => False
def descIs (T : Tab) (t : TypeId) (p : TK → Bool) : Prop :=
  match T t with
  | some i => p i.kind = true
  | none => False

def shrV (a b : Int) : BinOp → AV
  | .shr => .sc (.int .u64 (a / 2 ^ b.toNat))
  | _ => .any
def isShr : BinOp → Prop
  | .shr => True
  | _ => False
def binV (st : St) (op : BinOp) (x y : AV) : AV :=
  match y with
  | .sc (.int .i64 b) => match x with | .sc (.int .i64 a) => binI op a b | _ => anyB op
  | .sc (.string b) => match x with | .sc (.string a) => binS op a b | _ => anyB op
  | .sc (.bool b) => match x with | .sc (.bool a) => boolV a b op | _ => anyB op
  | .sc (.pointer none) => nilV (isNilP st x) op
  | .sc (.map none) => nilV (isNilM st x) op
  | .sc (.int .u64 b) => match x with | .sc (.int .u64 a) => shrV a b op | _ => .any
  | _ => anyB op
def binOk (T : Tab) (t : TypeId) (st : St) (op : BinOp) (x y : AV) : Prop :=
  match y with
  | .sc (.int .i64 b) => match x with | .sc (.int .i64 a) => binIok op a b | _ => False
  | .sc (.string b) => match x with | .sc (.string a) => binSok op a b | _ => False
  | .sc (.bool _) => match x with | .sc (.bool _) => descIs T t isBoolD ∧ eqOp op | _ => False
  | .sc (.pointer none) => descIs T t isPtrD ∧ (isNilP st x).isSome = true ∧ eqOp op
  | .sc (.map none) => descIs T t isMapD ∧ (isNilM st x).isSome = true ∧ eqOp op
  | .sc (.int .u64 b) => match x with | .sc (.int .u64 a) => 0 ≤ a ∧ 0 ≤ b ∧ b ≤ 63 ∧ isShr op | _ => False
  | _ => False

section
variable {T : Tab} {P : Program} (hT : TabOk T P) {E : Env}

theorem rel_nilP {st : St} (hst : E.st = st) {x : AV} {u : Value} {b : Bool} (h : Rel T E x u) (hn : isNilP st x = some b) :
    ∃ a : Option Addr, u = .pointer a ∧ b = a.isNone := by
  subst hst
  cases x with
  | sc v =>
    simp only [Rel] at h
    obtain ⟨rfl, _⟩ := h
    cases u with
    | pointer a => cases a <;> simp [isNilP] at hn; exact ⟨none, rfl, by simpa using hn.symm⟩
    | _ => simp [isNilP] at hn
  | ptr id off =>
    simp only [Rel] at h
    simp only [isNilP] at hn
    cases hc : E.st[id]? with
    | none => simp [hc] at hn
    | some blk =>
      cases blk <;> simp [hc] at hn
      exact ⟨_, h.2 _ hc, by simpa using hn.symm⟩
  | eptr cs =>
    simp only [Rel] at h
    obtain ⟨b', o, rfl, _⟩ := h
    simp [isNilP] at hn
    exact ⟨_, rfl, by simpa using hn.symm⟩
  | _ => simp [isNilP] at hn
theorem rel_nilM {st : St} (hst : E.st = st) {x : AV} {u : Value} {b : Bool} (h : Rel T E x u) (hn : isNilM st x = some b) :
    ∃ a : Option Nat, u = .map a ∧ b = a.isNone := by
  subst hst
  cases x with
  | sc v =>
    simp only [Rel] at h
    obtain ⟨rfl, _⟩ := h
    cases u with
    | map a => cases a <;> simp [isNilM] at hn; exact ⟨none, rfl, by simpa using hn.symm⟩
    | _ => simp [isNilM] at hn
  | mp id =>
    simp only [Rel] at h
    simp only [isNilM] at hn
    cases hc : E.st[id]? with
    | none => simp [hc] at hn
    | some blk =>
      cases blk <;> simp [hc] at hn
      exact ⟨_, h.2 _ hc, by simpa using hn.symm⟩
  | _ => simp [isNilM] at hn

theorem run_eqGuard_quiet (op : BinOp) (t : TypeId) (x y : Operand) (a b : Value) (w : World) (h : ¬ ∃ cs ds, a = .agg cs ∧ b = .agg ds) (h2 : ¬ (a = .nilIface ∧ b = .nilIface)) :
    (eqGuard op t x y a b).run P w = .ok () w := by
  unfold eqGuard
  cases a <;> cases b <;> first | (exact absurd ⟨_, _, rfl, rfl⟩ h) | (exact absurd ⟨rfl, rfl⟩ h2) | (cases op <;> rfl)

theorem run_equal_of {t : TypeId} {x y : Value} {w : World} {r : Bool} (h : ∀ d, (Op.equalIn (d + 1) t x y).run P w = .ok r w) : (Op.equal t x y).run P w = .ok r w := h 9999

theorem run_equal_bool {t : TypeId} {w : World} {a b : Bool} (hu : (underlying t).run P w = .ok .bool w) : (Op.equal t (.bool a) (.bool b)).run P w = .ok (a == b) w :=
  run_equal_of fun d => by rw [Op.equalIn]; simp [hu]

theorem run_equal_ptr {t e : TypeId} {w : World} {a : Option Addr} (hu : (underlying t).run P w = .ok (.pointer e) w) : (Op.equal t (.pointer a) (.pointer none)).run P w = .ok a.isNone w :=
  run_equal_of fun d => by rw [Op.equalIn]; cases a <;> simp [hu]

theorem run_equal_map {t k e : TypeId} {w : World} {a : Option Nat} (hu : (underlying t).run P w = .ok (.map k e) w) : (Op.equal t (.map a) (.map none)).run P w = .ok a.isNone w :=
  run_equal_of fun d => by rw [Op.equalIn]; cases a <;> simp [hu]

theorem desc_of {t : TypeId} {p : TK → Bool} (h : descIs T t p) : ∃ i, T t = some i ∧ p i.kind = true := by
  unfold descIs at h
  cases hi : T t with
  | none => simp [hi] at h
  | some i => simp [hi] at h; exact ⟨i, rfl, h⟩

include hT in
theorem run_bin {st : St} (hst : E.st = st) {t : TypeId} {op : BinOp} {x y : AV} {a b : Value} (xo yo : Operand) (h1 : Rel T E x a) (h2 : Rel T E y b) (hok : binOk T t st op x y) :
    ∃ u, (do eqGuard op t xo yo a b; binOp op t a b : Sem Value).run P E.w = .ok u E.w ∧ Rel T E (binV st op x y) u := by
  unfold binOk at hok
  split at hok
  · rename_i q
    split at hok
    · rename_i p
      simp only [Rel] at h1 h2
      obtain ⟨rfl, _⟩ := h1
      obtain ⟨rfl, _⟩ := h2
      obtain ⟨u, k1, k2, k3⟩ := run_binI P E.w t op p q hok
      refine ⟨u, ?_, ?_⟩
      · rw [Sem.run_bind, run_eqGuard_quiet _ _ _ _ _ _ _ (by simp) (by simp)]; exact k1
      · simp only [binV, k2, Rel]; exact ⟨trivial, k3⟩
    · exact hok.elim
  · rename_i q
    split at hok
    · rename_i p
      simp only [Rel] at h1 h2
      obtain ⟨rfl, _⟩ := h1
      obtain ⟨rfl, _⟩ := h2
      obtain ⟨u, k1, k2, k3⟩ := run_binS P E.w t op p q hok
      refine ⟨u, ?_, ?_⟩
      · rw [Sem.run_bind, run_eqGuard_quiet _ _ _ _ _ _ _ (by simp) (by simp)]; exact k1
      · simp only [binV, k2, Rel]; exact ⟨trivial, k3⟩
    · exact hok.elim
  · rename_i q
    split at hok
    · rename_i p
      simp only [Rel] at h1 h2
      obtain ⟨rfl, _⟩ := h1
      obtain ⟨rfl, _⟩ := h2
      obtain ⟨hd, hop⟩ := hok
      obtain ⟨i, hi, hd⟩ := desc_of hd
      obtain ⟨d, hk, _, hu⟩ := run_under hT hi
      obtain rfl : d = .bool := by rw [← hk] at hd; cases d <;> first | rfl | (simp [kindOf, isBoolD] at hd)
      have hu := hu E.w
      cases op <;> try (exact hop.elim)
      · refine ⟨.bool (p == q), ?_, by simp only [binV, boolV, Rel]; exact ⟨trivial, rfl⟩⟩
        rw [Sem.run_bind, run_eqGuard_quiet _ _ _ _ _ _ _ (by simp) (by simp)]
        simp [binOp, run_equal_bool hu]
      · refine ⟨.bool (!(p == q)), ?_, by simp only [binV, boolV, Rel]; exact ⟨trivial, rfl⟩⟩
        rw [Sem.run_bind, run_eqGuard_quiet _ _ _ _ _ _ _ (by simp) (by simp)]
        simp [binOp, run_equal_bool hu]
    · exact hok.elim
  · simp only [Rel] at h2
    obtain ⟨rfl, _⟩ := h2
    obtain ⟨hd, hs, hop⟩ := hok
    obtain ⟨bb, hb⟩ := Option.isSome_iff_exists.1 hs
    obtain ⟨i, hi, hd⟩ := desc_of hd
    obtain ⟨d, hk, _, hu⟩ := run_under hT hi
    obtain ⟨e, rfl⟩ : ∃ e, d = .pointer e := by rw [← hk] at hd; cases d <;> first | exact ⟨_, rfl⟩ | (simp [kindOf, isPtrD] at hd)
    have hu := hu E.w
    obtain ⟨a', rfl, rfl⟩ := rel_nilP hst h1 hb
    cases op <;> try (exact hop.elim)
    · refine ⟨.bool a'.isNone, ?_, by simp only [binV, nilV, hb, Rel, Option.getD_some]; exact ⟨trivial, rfl⟩⟩
      rw [Sem.run_bind, run_eqGuard_quiet _ _ _ _ _ _ _ (by simp) (by simp)]
      simp [binOp, run_equal_ptr hu]
    · refine ⟨.bool (!a'.isNone), ?_, by simp only [binV, nilV, hb, Rel, Option.getD_some]; exact ⟨trivial, rfl⟩⟩
      rw [Sem.run_bind, run_eqGuard_quiet _ _ _ _ _ _ _ (by simp) (by simp)]
      simp [binOp, run_equal_ptr hu]
  · simp only [Rel] at h2
    obtain ⟨rfl, _⟩ := h2
    obtain ⟨hd, hs, hop⟩ := hok
    obtain ⟨bb, hb⟩ := Option.isSome_iff_exists.1 hs
    obtain ⟨i, hi, hd⟩ := desc_of hd
    obtain ⟨d, hk, _, hu⟩ := run_under hT hi
    obtain ⟨k, e, rfl⟩ : ∃ k e, d = .map k e := by rw [← hk] at hd; cases d <;> first | exact ⟨_, _, rfl⟩ | (simp [kindOf, isMapD] at hd)
    have hu := hu E.w
    obtain ⟨a', rfl, rfl⟩ := rel_nilM hst h1 hb
    cases op <;> try (exact hop.elim)
    · refine ⟨.bool a'.isNone, ?_, by simp only [binV, nilV, hb, Rel, Option.getD_some]; exact ⟨trivial, rfl⟩⟩
      rw [Sem.run_bind, run_eqGuard_quiet _ _ _ _ _ _ _ (by simp) (by simp)]
      simp [binOp, run_equal_map hu]
    · refine ⟨.bool (!a'.isNone), ?_, by simp only [binV, nilV, hb, Rel, Option.getD_some]; exact ⟨trivial, rfl⟩⟩
      rw [Sem.run_bind, run_eqGuard_quiet _ _ _ _ _ _ _ (by simp) (by simp)]
      simp [binOp, run_equal_map hu]
  · rename_i q
    split at hok
    · rename_i p
      simp only [Rel] at h1 h2
      obtain ⟨rfl, _⟩ := h1
      obtain ⟨rfl, _⟩ := h2
      obtain ⟨k1, k2, k3, k4⟩ := hok
      cases op <;> try (exact k4.elim)
      refine ⟨.int .u64 (p / 2 ^ q.toNat), ?_, by simp only [binV, shrV, Rel]; exact ⟨trivial, rfl⟩⟩
      rw [Sem.run_bind, run_eqGuard_quiet _ _ _ _ _ _ _ (by simp) (by simp)]
      have e : min q.toNat (IntKind.u64).bits = q.toNat := by
        have : (IntKind.u64).bits = 64 := by decide
        rw [this]; omega
      have e2 : p.fdiv (2 ^ q.toNat) = p / 2 ^ q.toNat := Int.fdiv_eq_ediv_of_nonneg _ (Int.le_of_lt (Int.pow_pos (by decide)))
      simp [binOp, Op.shift, if_neg (show ¬ q < 0 by omega), e, e2]
    · exact hok.elim
  · exact hok.elim
end
end Go.Ab
end

section
namespace Go.Ab
open Go.RowKit

/-- Operation 'o' yields v, in new memory at most. -/
def QR (T : Tab) (P : Program) (E : Env) (o : Oper) (a : Act) (v : AV) : Prop :=
  (∃ u w', (execOp a.eval o).run P E.w = .ok (.value u) w' ∧ Below E.w.heap.size E.w w' ∧ Rel T { E with w := w' } v u) ∨
  (∃ f args, (execOp a.eval o).run P E.w = .ok (.enter f args) E.w ∧ Calls P f args E.w (fun e w' => ∃ u, e = .returned u ∧ Below E.w.heap.size E.w w' ∧ Rel T { E with w := w' } v u))

theorem QR.same {T : Tab} {P : Program} {E : Env} {o : Oper} {a : Act} {v : AV} {u : Value} (h : (execOp a.eval o).run P E.w = .ok (.value u) E.w) (hr : Rel T E v u) : QR T P E o a v :=
  .inl ⟨u, E.w, h, Below.refl _ _, hr⟩

/-- The stripped operand. -/
def sv (σ : Slots) (x : Operand) : AV := str (ev σ x)

section
variable {T : Tab} {P : Program} (hT : TabOk T P) {E : Env} {n : Nat} {σ : Slots} {st : St} {a : Act} (hs : RelS T E n σ a) (hst : E.st = st) (hi : Inv T E) {o : Oper}

theorem RelS.sv (hs : RelS T E n σ a) {x : Operand} (hg : gok (Ab.ev σ x)) : Rel T E (Ab.sv σ x) (a.eval x) := rel_str (hs.ev x) hg

include hs in
theorem qr_move {x : Operand} (ho : o.op = .move x ∨ o.op = .assign x) (hg : gok (ev σ x)) : QR T P E o a (sv σ x) := by
  refine QR.same (u := a.eval x) ?_ (hs.sv hg)
  rcases ho with ho | ho <;> (unfold execOp; rw [ho]; rfl)

def loadV (T : Tab) (st : St) (t : TypeId) (x : AV) : AV :=
  match T t with
  | none => .any
  | some i =>
    match x with
    | .eptr cs => mk i cs
    | .ptr id off => match st[id]? with | some (.cells cs) => mk i (cs.drop off) | _ => .any
    | .rptr id _ k f => match st[id]? with | some (.row _ _ _ l) => (match l[k]? with | some c => mk i (c.drop f) | none => .any) | _ => .any
    | _ => .any
def loadOk (T : Tab) (st : St) (t : TypeId) (x : AV) : Prop :=
  match T t with
  | none => False
  | some i =>
    match x with
    | .eptr cs => cellsOk i cs
    | .ptr id off => match st[id]? with | some (.cells cs) => cellsOk i (cs.drop off) | _ => False
    | .rptr id g k f => match st[id]? with | some (.row _ g' al l) => g' = g ∧ al = true ∧ (match l[k]? with | some c => cellsOk i (c.drop f) | none => False) | _ => False
    | _ => False

theorem relX_of_row {id g : Nat} {e : TypeId} {l : List (List AV)} (hi : Inv T E) (hid : E.st[id]? = some (.row e g true l)) {k : Nat} {c : List AV} (hk : l[k]? = some c) : RelX T E (E.φ id) (k * T.cells e) c := by
  obtain ⟨_, _, hh⟩ := hi.blk id _ hid
  obtain ⟨cc, cap, h1, h2, h3, h4, h5⟩ := hh rfl
  have key : ∀ (l : List (List AV)) (off k : Nat), RelM T E (E.φ id) (T.cells e) off l → l[k]? = some c → RelX T E (E.φ id) (off + k * T.cells e) c := by
    intro l
    induction l with
    | nil => intro off k _ h; simp at h
    | cons x xs ih =>
      intro off k hm h
      simp only [RelM] at hm
      cases k with
      | zero => simp at h; subst h; simpa using hm.2.1
      | succ k =>
        have := ih (off + T.cells e) k hm.2.2 (by simpa using h)
        rw [Nat.add_assoc] at this
        rw [Nat.succ_mul, Nat.add_comm (k * _)]; exact this
  simpa using key l 0 k h5 hk

include hT hst hi in
theorem load_core {t : TypeId} {y : AV} {u : Value} (hr : Rel T E y u) (hok : loadOk T st t y) :
    ∃ b off v, u = .pointer (some ⟨b, off, none⟩) ∧ (Instr.loadAt t u).run P E.w = .ok v E.w ∧ Rel T E (loadV T st t y) v := by
  unfold loadOk at hok
  unfold loadV
  cases hTt : T t with
  | none => simp [hTt] at hok
  | some i =>
    simp only [hTt] at hok ⊢
    have fin : ∀ (b off : Nat) (cs : List AV), u = .pointer (some ⟨b, off, none⟩) → RelX T E b off cs → cellsOk i cs →
        ∃ b off v, u = .pointer (some ⟨b, off, none⟩) ∧ (Instr.loadAt t u).run P E.w = .ok v E.w ∧ Rel T E (mk i cs) v := by
      intro b off cs h1 h2 h3
      obtain ⟨v, k1, k2⟩ := load_at (P := P) hT hTt h2 h3
      exact ⟨b, off, v, h1, by rw [h1]; exact k1, k2⟩
    cases y with
    | eptr cs =>
      simp only [Rel] at hr
      obtain ⟨b, off, h1, h2, h3⟩ := hr
      exact fin b off cs h1 h3 hok
    | ptr id off =>
      simp only [Rel] at hr
      dsimp only at hok ⊢
      cases hb : st[id]? with
      | none => simp [hb] at hok
      | some blk =>
        cases blk <;> simp only [hb] at hok <;> try exact hok.elim
        rename_i cs
        have hb' : E.st[id]? = some (.cells cs) := by rw [hst]; exact hb
        have := RelX.drop cs 0 off (relX_of_blk hi hb')
        rw [Nat.zero_add] at this
        exact fin _ _ _ (hr.2 _ hb') this hok
    | rptr id g k f =>
      simp only [Rel] at hr
      dsimp only at hok ⊢
      cases hb : st[id]? with
      | none => simp [hb] at hok
      | some blk =>
        cases blk <;> simp only [hb] at hok <;> try exact hok.elim
        rename_i e g' al l
        obtain ⟨rfl, rfl, hok⟩ := hok
        cases hl : l[k]? with
        | none => simp [hl] at hok
        | some c =>
          simp only [hl] at hok ⊢
          have hb' : E.st[id]? = some (.row e g' true l) := by rw [hst]; exact hb
          exact fin _ _ _ ((hr.2 _ _ _ _ hb').2 rfl rfl) (RelX.drop _ _ f (relX_of_row hi hb' hl)) hok
    | _ => exact hok.elim

include hT hs hst hi in
theorem qr_load {t : TypeId} {x : Operand} (ho : o.op = .load t x) (hg : gok (ev σ x)) (hok : loadOk T st t (sv σ x)) : QR T P E o a (loadV T st t (sv σ x)) := by
  obtain ⟨b, off, v, h1, h2, h3⟩ := load_core (P := P) hT hst hi (hs.sv hg) hok
  refine QR.same (u := v) ?_ h3
  unfold execOp; rw [ho]; dsimp only
  simp [h2]

include hT hs hst in
theorem qr_bin {op : BinOp} {t ty : TypeId} {x y : Operand} (ho : o.op = .binOp op t x y ty) (hx : gok (ev σ x)) (hy : gok (ev σ y)) (hok : binOk T t st op (sv σ x) (sv σ y)) : QR T P E o a (binV st op (sv σ x) (sv σ y)) := by
  obtain ⟨u, h1, h2⟩ := run_bin hT hst x y (hs.sv hx) (hs.sv hy) hok
  refine QR.same (u := u) ?_ h2
  unfold execOp; rw [ho]; dsimp only
  rw [Sem.run_bind, h1]; rfl

def unV : UnOp → AV → AV
  | .not, .sc (.bool b) => .sc (.bool (!b))
  | .neg, .sc (.int .i64 z) => .sc (.int .i64 (-z))
  | _, _ => .any
def unOk : UnOp → AV → Prop
  | .not, .sc (.bool _) => True
  | .neg, .sc (.int .i64 z) => i64ok (-z)
  | _, _ => False
include hs in
theorem qr_un {op : UnOp} {t : TypeId} {x : Operand} (ho : o.op = .unOp op t x) (hx : gok (ev σ x)) (hok : unOk op (sv σ x)) : QR T P E o a (unV op (sv σ x)) := by
  have hr := hs.sv hx
  generalize sv σ x = y at hr hok ⊢
  unfold unOk at hok
  split at hok
  · rename_i b
    simp only [Rel] at hr
    refine QR.same (u := .bool (!b)) ?_ (by simp only [unV, Rel]; exact ⟨trivial, rfl⟩)
    unfold execOp; rw [ho]; dsimp only
    rw [hr.1]; simp [Op.unary]
  · rename_i z
    simp only [Rel] at hr
    refine QR.same (u := .int .i64 (-z)) ?_ (by simp only [unV, Rel]; exact ⟨trivial, rfl⟩)
    unfold execOp; rw [ho]; dsimp only
    rw [hr.1]; simp [Op.unary, Op.intArith, IntWalk.i64_in _ hok]
  · exact hok.elim

def offV (x : AV) (k : Nat) : AV :=
  match x with
  | .ptr id off => .ptr id (off + k)
  | .eptr cs => .eptr (cs.drop k)
  | .rptr id g i f => .rptr id g i (f + k)
  | _ => .any
def isAddr (st : St) : AV → Prop
  | .ptr id _ => match st[id]? with | some (.cells _) => True | _ => False
  | .eptr _ => True
  | .rptr id g _ _ => match st[id]? with | some (.row _ g' al _) => g' = g ∧ al = true | _ => False
  | _ => False
def faV (T : Tab) (s : TypeId) (x : AV) (f : Nat) : AV :=
  match T s with
  | none => .any
  | some i => match i.flds[f]? with | some (off, _) => offV x off | none => .any
def faOk (T : Tab) (st : St) (s : TypeId) (x : AV) (f : Nat) : Prop :=
  match T s with
  | none => False
  | some i => (match i.flds[f]? with | some (_, sz) => sz ≠ 0 | none => False) ∧ isAddr st x

theorem rel_off {x : AV} {u : Value} (hst : E.st = st) (h : Rel T E x u) (hok : isAddr st x) (k : Nat) : ∃ b off, u = .pointer (some ⟨b, off, none⟩) ∧ Rel T E (offV x k) (.pointer (some ⟨b, off + k, none⟩)) := by
  subst hst
  cases x with
  | ptr id off =>
    simp only [Rel] at h
    simp only [isAddr] at hok
    cases hb : E.st[id]? with
    | none => simp [hb] at hok
    | some blk =>
      cases blk <;> simp [hb] at hok
      rename_i cs
      refine ⟨_, _, h.2 _ hb, ?_⟩
      simp only [offV, Rel]
      exact ⟨h.1, fun _ _ => trivial⟩
  | eptr cs =>
    simp only [Rel] at h
    obtain ⟨b, o, h1, h2, h3⟩ := h
    refine ⟨b, o, h1, ?_⟩
    simp only [offV, Rel]
    exact ⟨b, o + k, rfl, h2, RelX.drop cs o k h3⟩
  | rptr id g i f =>
    simp only [Rel] at h
    simp only [isAddr] at hok
    cases hb : E.st[id]? with
    | none => simp [hb] at hok
    | some blk =>
      cases blk <;> simp only [hb] at hok <;> try exact hok.elim
      rename_i e g' al l
      obtain ⟨rfl, rfl⟩ := hok
      refine ⟨_, _, (h.2 _ _ _ _ hb).2 rfl rfl, ?_⟩
      simp only [offV, Rel]
      refine ⟨h.1, fun e' g2 al2 l2 hb2 => ?_⟩
      rw [hb] at hb2; cases hb2
      exact ⟨Nat.le_refl _, fun _ _ => by rw [Nat.add_assoc]⟩
  | _ => exact hok.elim

include hT in
theorem run_fieldAt {s : TypeId} {f b off : Nat} {i : TyI} {fo sz : Nat} (h : T s = some i) (hf : i.flds[f]? = some (fo, sz)) (hz : sz ≠ 0) (w : World) :
    (Instr.fieldAt s (.pointer (some ⟨b, off, none⟩)) f).run P w = .ok (.pointer (some ⟨b, off + fo, none⟩)) w := by
  obtain ⟨d, h1, h2, h3⟩ := run_under hT h
  rw [← h2] at hf
  cases d with
  | struct fs =>
    simp only [fldsOf, List.getElem?_map, Option.map_eq_some_iff, Prod.mk.injEq] at hf
    obtain ⟨fd, k1, k2, k3⟩ := hf
    have k1' : fs[f]? = some fd := by simpa using k1
    have hsz : (sizeOf fd.type).run P w = .ok sz w := by
      unfold cellsP at k3
      cases hi : P.info? fd.type with
      | none => simp [hi] at k3; omega
      | some j => simp [hi] at k3; simp [sizeOf, typeInfo, hi, k3]
    simp [Instr.fieldAt, h3, k1', Instr.sureAddr, fieldPlace, hsz, hz, addr_add, k2]
  | _ => simp [fldsOf] at hf

include hT hs hst in
theorem qr_fieldAddr {s : TypeId} {x : Operand} {f : Nat} (ho : o.op = .fieldAddr s x f) (hx : gok (ev σ x)) (hok : faOk T st s (sv σ x) f) : QR T P E o a (faV T s (sv σ x) f) := by
  have hr := hs.sv hx
  generalize sv σ x = y at hr hok ⊢
  unfold faOk at hok
  unfold faV
  cases hTs : T s with
  | none => simp [hTs] at hok
  | some i =>
    simp only [hTs] at hok ⊢
    obtain ⟨hf, ha⟩ := hok
    cases hfl : i.flds[f]? with
    | none => simp [hfl] at hf
    | some p =>
      obtain ⟨fo, sz⟩ := p
      simp only [hfl] at hf ⊢
      obtain ⟨b, off, h1, h2⟩ := rel_off hst hr ha fo
      refine QR.same (u := .pointer (some ⟨b, off + fo, none⟩)) ?_ h2
      unfold execOp; rw [ho]; dsimp only
      rw [h1, Sem.run_bind, run_fieldAt hT hTs hfl hf]; rfl
end
end Go.Ab
end

section
namespace Go.Ab
open Go.RowKit

section
variable {T : Tab} {P : Program} (hT : TabOk T P) {E : Env} {n : Nat} {σ : Slots} {st : St} {a : Act} (hs : RelS T E n σ a) (hst : E.st = st) (hi : Inv T E) {o : Oper}

/-- A part of a struct value. -/
def fieldV (T : Tab) (s : TypeId) (x : AV) (f : Nat) : AV :=
  match T s with
  | none => .any
  | some i => match i.flds[f]? with
    | some (off, sz) => match x with | .agg cs => if sz = 1 then (match cs[off]? with | some c => c | none => .any) else .agg ((cs.drop off).take sz) | _ => .any
    | none => .any

def extractV (x : AV) (i : Nat) : AV := match x with | .tup vs => (match vs[i]? with | some v => v | none => .any) | _ => .any
def extractOk (x : AV) (i : Nat) : Prop := match x with | .tup vs => i < vs.length | _ => False

theorem RelL.get : ∀ (xs : List AV) (vs : List Value), RelL T E xs vs → ∀ (i : Nat) (x : AV), xs[i]? = some x → ∃ v, vs[i]? = some v ∧ Rel T E x v
  | [], vs, h, i, x, hx => by simp at hx
  | y :: ys, vs, h, i, x, hx => by
    simp only [RelL] at h
    obtain ⟨v, r, rfl, h1, h2⟩ := h
    cases i with
    | zero => simp at hx; subst hx; exact ⟨v, rfl, h1⟩
    | succ i => simpa using RelL.get ys r h2 i x (by simpa using hx)

theorem RelL.len : ∀ (xs : List AV) (vs : List Value), RelL T E xs vs → vs.length = xs.length
  | [], vs, h => by simp only [RelL] at h; subst h; rfl
  | y :: ys, vs, h => by
    simp only [RelL] at h
    obtain ⟨v, r, rfl, h1, h2⟩ := h
    simp [RelL.len ys r h2]

theorem RelL.append : ∀ (xs : List AV) (vs : List Value) {ys : List AV} {us : List Value}, RelL T E xs vs → RelL T E ys us → RelL T E (xs ++ ys) (vs ++ us)
  | [], vs, ys, us, h, k => by simp only [RelL] at h; subst h; simpa using k
  | x :: xs, vs, ys, us, h, k => by
    simp only [RelL] at h
    obtain ⟨v, r, rfl, h1, h2⟩ := h
    simp only [List.cons_append, RelL]
    exact ⟨v, _, rfl, h1, RelL.append xs r h2 k⟩

include hs in
theorem qr_extract {x : Operand} {i : Nat} (ho : o.op = .extract x i) (hx : gok (ev σ x)) (hok : extractOk (sv σ x) i) : QR T P E o a (extractV (sv σ x) i) := by
  have hr := hs.sv hx
  generalize sv σ x = y at hr hok ⊢
  cases y <;> try exact hok.elim
  rename_i vs
  simp only [Rel] at hr
  obtain ⟨us, h1, h2⟩ := hr
  simp only [extractOk] at hok
  simp only [extractV, List.getElem?_eq_getElem hok]
  obtain ⟨v, h3, h4⟩ := RelL.get vs us h2 i _ (List.getElem?_eq_getElem hok)
  refine QR.same (u := v) ?_ h4
  unfold execOp; rw [ho]; dsimp only
  rw [h1]; simp [Instr.extract, h3]

def inKind : IntKind → Int → Prop
  | .i64, a => i64ok a
  | .u64, a => 0 ≤ a ∧ a ≤ 18446744073709551615
  | _, _ => False
theorem wrap_in {k : IntKind} {a : Int} (h : inKind k a) : k.wrap a = a := by
  cases k <;> try exact h.elim
  · exact IntWalk.i64_in _ h
  · obtain ⟨h1, h2⟩ := h
    rw [show IntKind.u64.wrap a = a % 18446744073709551616 from rfl]
    omega
def convV (T : Tab) (d : TypeId) (x : AV) : AV :=
  match T d with
  | some i => (match i.kind with | .int k => (match x with | .sc (.int _ a) => .sc (.int k a) | _ => .any) | _ => .any)
  | none => .any
def convOk (T : Tab) (s d : TypeId) (x : AV) : Prop :=
  (T s).isSome = true ∧
  match T d with
  | some i => (match i.kind with | .int k => (match x with | .sc (.int _ a) => inKind k a | _ => False) | _ => False)
  | none => False
include hT hs in
theorem qr_convert {x : Operand} {s d : TypeId} (ho : o.op = .convert s d x) (hx : gok (ev σ x)) (hok : convOk T s d (sv σ x)) : QR T P E o a (convV T d (sv σ x)) := by
  have hr := hs.sv hx
  generalize sv σ x = y at hr hok ⊢
  obtain ⟨h1, h2⟩ := hok
  obtain ⟨i, hi⟩ := Option.isSome_iff_exists.1 h1
  obtain ⟨ds, _, _, hus⟩ := run_under hT hi
  unfold convV
  split at h2
  · rename_i j hj
    obtain ⟨dd, hk, _, hud⟩ := run_under hT hj
    split at h2
    · rename_i k hkk
      split at h2
      · rename_i kk z
        simp only [Rel] at hr
        have : dd = .int k := by rw [← hk] at hkk; cases dd <;> simp [kindOf] at hkk; rw [hkk]
        subst this
        refine QR.same (u := .int k z) ?_ (by simp only [hkk, Rel]; exact ⟨trivial, rfl⟩)
        unfold execOp; rw [ho]; dsimp only
        rw [hr.1]
        simp [convert, hus, hud, Conv.intToInt, wrap_in h2]
      · exact h2.elim
    · exact h2.elim
  · exact h2.elim

def nilOk (st : St) : AV → Prop
  | .ptr id _ => match st[id]? with | some (.cells _) => True | _ => False
  | .eptr _ => True
  | .fn (.func _) _ _ => True
  | _ => False
include hs hst in
theorem qr_nilCheck {x : Operand} (ho : o.op = .nilCheck x) (hx : gok (ev σ x)) (hok : nilOk st (sv σ x)) : QR T P E o a (sv σ x) := by
  have hr := hs.sv hx
  generalize sv σ x = y at hr hok ⊢
  subst hst
  have fin : ∀ u, a.eval x = u → (∀ q, u = .pointer q → q.isSome = true) → (match u with | .pointer _ => True | .func (.func _) _ _ => True | _ => False) → QR T P E o a y := by
    intro u h1 h2 h3
    refine QR.same (u := u) ?_ (h1 ▸ hr)
    unfold execOp; rw [ho]; dsimp only
    rw [h1]
    cases u <;> try exact h3.elim
    · rename_i q
      have := h2 q rfl
      cases q with
      | none => simp at this
      | some q => rfl
    · rename_i f _ _
      cases f <;> first | rfl | exact h3.elim
  cases y with
  | ptr id off =>
    simp only [Rel] at hr
    simp only [nilOk] at hok
    cases hb : E.st[id]? with
    | none => simp [hb] at hok
    | some blk =>
      cases blk <;> simp [hb] at hok
      exact fin _ (hr.2 _ hb) (fun q hq => by cases hq; rfl) trivial
  | eptr cs =>
    simp only [Rel] at hr
    obtain ⟨b, off, h1, _⟩ := hr
    exact fin _ h1 (fun q hq => by cases hq; rfl) trivial
  | fn f fs cs =>
    cases f <;> try exact hok.elim
    simp only [Rel] at hr
    obtain ⟨vs, ws, h1, _⟩ := hr
    exact fin _ h1 (fun q hq => by cases hq) trivial
  | _ => exact hok.elim

/-- The values of several operands. -/
theorem rel_operands (hs : RelS T E n σ a) : ∀ (xs : List Operand), (∀ x ∈ xs, gok (ev σ x)) → RelL T E (xs.map (sv σ)) (xs.map a.eval)
  | [], _ => by simp only [List.map_nil, RelL]
  | x :: xs, h => by
    simp only [List.map_cons, RelL]
    exact ⟨_, _, rfl, hs.sv (h x (by simp)), rel_operands hs xs fun y hy => h y (by simp [hy])⟩

include hs in
theorem qr_makeFunc {fn : Fn} {first cap : Array Operand} (ho : o.op = .makeFunc fn first cap) (h1 : ∀ x ∈ first.toList, gok (ev σ x)) (h2 : ∀ x ∈ cap.toList, gok (ev σ x)) :
    QR T P E o a (.fn fn (first.toList.map (sv σ)) (cap.toList.map (sv σ))) := by
  refine QR.same (u := .func fn (first.toList.map a.eval).toArray (cap.toList.map a.eval).toArray) ?_ ?_
  · unfold execOp; rw [ho]; dsimp only
    simp [Instr.makeFunc, ← Array.toList_map]
  · simp only [Rel]
    exact ⟨_, _, rfl, rel_operands hs _ h1, rel_operands hs _ h2⟩

/-- len. -/
def lenV (st : St) (x : AV) : AV :=
  match x with
  | .lst _ l => .sc (.int .i64 l.length)
  | .nils => .sc (.int .i64 0)
  | .sc (.string s) => .sc (.int .i64 s.size)
  | .own id _ => match st[id]? with | some (.row _ _ _ l) => .sc (.int .i64 l.length) | _ => .any
  | .mp id => match st[id]? with | some (.map es) => .sc (.int .i64 es.length) | _ => .any
  | .sub _ _ _ n => .sc (.int .i64 n)
  | _ => .any
def isSliceK : TK → Bool
  | .slice _ => true
  | _ => false
def isStrK : TK → Bool
  | .str => true
  | _ => false
def lenOk (T : Tab) (st : St) (t : TypeId) (x : AV) : Prop :=
  match x with
  | .lst _ _ => descIs T t isSliceK
  | .nils => descIs T t isSliceK
  | .sc (.string _) => descIs T t isStrK
  | .own id g => descIs T t isSliceK ∧ (match st[id]? with | some (.row _ g' _ _) => g' = g | _ => False)
  | .mp id => descIs T t isMapD ∧ (match st[id]? with | some (.map _) => True | _ => False)
  | .sub id g _ _ => descIs T t isSliceK ∧ (match st[id]? with | some (.row _ g' _ _) => g' = g | _ => False)
  | _ => False
/-- What is known besides. -/
def lenKnow (T : Tab) (st : St) (x : AV) : Prop :=
  match x with
  | .lst e l => l.length * T.bytes e ≤ 140737488355328 ∧ l.length ≤ 9223372036854775807
  | .own id _ => match st[id]? with | some (.row e _ _ l) => l.length * T.bytes e ≤ 140737488355328 ∧ l.length ≤ 9223372036854775807 | _ => True
  | _ => True

include hs hst hi in
theorem len_know {x : Operand} (hx : gok (ev σ x)) {t : TypeId} (hok : lenOk T st t (sv σ x)) : lenKnow T st (sv σ x) := by
  have hr := hs.sv hx
  generalize sv σ x = y at hr hok ⊢
  cases y <;> try trivial
  · simp only [Rel] at hr
    simp only [lenKnow]
    have := hr.2.1
    unfold maxLen at this
    exact ⟨hr.1, by omega⟩
  · rename_i id g
    simp only [lenOk] at hok
    simp only [lenKnow]
    cases hb : st[id]? with
    | none => simp [hb] at hok
    | some blk =>
      cases blk <;> simp [hb] at hok
      rename_i e g' al l
      obtain ⟨h1, h2, h3⟩ := hi.blk id _ (by rw [hst]; exact hb)
      refine ⟨h1, ?_⟩
      cases al with
      | true =>
        obtain ⟨c, cap, k2, k3, k4, k5, _⟩ := h3 rfl
        unfold maxLen at k5
        omega
      | false => rw [h2 rfl]; simp

include hT hs hst hi in
theorem qr_len {t : TypeId} {x : Operand} {c : Call} (ho : o.op = .call c) (hc : c.callee = .builtin .len) (ha : c.args = #[x]) (hat : c.argTypes = #[t]) (hx : gok (ev σ x)) (hok : lenOk T st t (sv σ x)) : QR T P E o a (lenV st (sv σ x)) := by
  have hr := hs.sv hx
  generalize sv σ x = y at hr hok ⊢
  subst hst
  have fin : ∀ (u : Value) (r : Nat), a.eval x = u → (Builtin.len_ #[t] o.type #[u]).run P E.w = .ok (goInt r) E.w → lenV E.st y = .sc (.int .i64 r) → QR T P E o a (lenV E.st y) := by
    intro u r h1 h2 h3
    refine QR.same (u := goInt r) ?_ (by rw [h3]; simp only [Rel]; exact ⟨rfl, rfl⟩)
    unfold execOp; rw [ho]; dsimp only
    simp only [resolve, hc, Sem.run_bind, Sem.run_pure, Result.andThen_ok, invoke, builtin, ha, hat]
    simp [h1, h2]
  cases y with
  | lst e l =>
    simp only [Rel] at hr
    obtain ⟨_, _, b, cap, h1, _⟩ := hr
    obtain ⟨i, hi1, hi2⟩ := desc_of hok
    obtain ⟨d, hk, _, hu⟩ := run_under hT hi1
    refine fin _ l.length h1 ?_ rfl
    rw [← hk] at hi2
    cases d <;> simp [kindOf, isSliceK] at hi2
    simp [Builtin.len_, hu]
  | nils =>
    simp only [Rel] at hr
    obtain ⟨b, h1⟩ := hr
    obtain ⟨i, hi1, hi2⟩ := desc_of hok
    obtain ⟨d, hk, _, hu⟩ := run_under hT hi1
    refine fin _ 0 h1 ?_ rfl
    rw [← hk] at hi2
    cases d <;> simp [kindOf, isSliceK] at hi2
    simp [Builtin.len_, hu]
  | sc v =>
    cases v <;> try exact hok.elim
    rename_i s
    simp only [Rel] at hr
    obtain ⟨i, hi1, hi2⟩ := desc_of hok
    obtain ⟨d, hk, _, hu⟩ := run_under hT hi1
    refine fin _ s.size hr.1 ?_ rfl
    rw [← hk] at hi2
    cases d <;> simp [kindOf, isStrK] at hi2
    simp [Builtin.len_, hu]
  | own id g =>
    simp only [Rel] at hr
    simp only [lenOk] at hok
    obtain ⟨hd, hok⟩ := hok
    cases hb : E.st[id]? with
    | none => simp [hb] at hok
    | some blk =>
      cases blk <;> simp [hb] at hok
      rename_i e g' al l
      obtain ⟨k1, k2⟩ := (hr.2 _ _ _ _ hb).2 hok
      obtain ⟨b, cap, h1⟩ : ∃ b cap, a.eval x = .slice b l.length cap := by
        cases al with
        | true => obtain ⟨cap, c', h1, _⟩ := k1 rfl; exact ⟨_, _, h1⟩
        | false => obtain ⟨b, h1⟩ := k2 rfl; have h2 := (hi.blk id _ hb).2.1 rfl; subst h2; exact ⟨_, _, h1⟩
      obtain ⟨i, hi1, hi2⟩ := desc_of hd
      obtain ⟨d, hk, _, hu⟩ := run_under hT hi1
      refine fin _ l.length h1 ?_ (by simp [lenV, hb])
      rw [← hk] at hi2
      cases d <;> simp [kindOf, isSliceK] at hi2
      simp [Builtin.len_, hu]
  | mp id =>
    simp only [Rel] at hr
    simp only [lenOk] at hok
    obtain ⟨hd, hok⟩ := hok
    cases hb : E.st[id]? with
    | none => simp [hb] at hok
    | some blk =>
      cases blk <;> simp [hb] at hok
      rename_i es
      have h1 := hr.2 _ hb
      obtain ⟨mes, clock, k1, k2, k3⟩ := hi.blk id _ hb
      obtain ⟨i, hi1, hi2⟩ := desc_of hd
      obtain ⟨d, hk, _, hu⟩ := run_under hT hi1
      refine fin _ es.length h1 ?_ (by simp [lenV, hb])
      rw [← hk] at hi2
      cases d <;> simp [kindOf, isMapD] at hi2
      have hl : mes.size = es.length := by have := congrArg List.length k2; simpa using this
      have hg : (getObj (E.φ id)).run P E.w = .ok (.map mes clock) E.w := by simp [getObj, Sem.run, k1]
      simp [Builtin.len_, hu, hg, hl]
  | sub id g lo m =>
    simp only [Rel] at hr
    simp only [lenOk] at hok
    obtain ⟨hd, hok⟩ := hok
    cases hb : E.st[id]? with
    | none => simp [hb] at hok
    | some blk =>
      cases blk <;> simp [hb] at hok
      rename_i e g' al l
      obtain ⟨b, cap, h1, _⟩ := (hr.2 _ _ _ _ hb).2 hok
      obtain ⟨i, hi1, hi2⟩ := desc_of hd
      obtain ⟨d, hk, _, hu⟩ := run_under hT hi1
      refine fin _ m h1 ?_ rfl
      rw [← hk] at hi2
      cases d <;> simp [kindOf, isSliceK] at hi2
      simp [Builtin.len_, hu]
  | _ => exact hok.elim
end
end Go.Ab
end

section
namespace Go.Ab
open Go.RowKit

mutual
def AV.pure : AV → Bool
  | .sc _ => true
  | .agg cs => AV.pureL cs
  | .tup vs => AV.pureL vs
  | .lst _ l => AV.pureM l
  | .nils => true
  | .own _ _ => false
  | .ptr _ _ => false
  | .rptr _ _ _ _ => false
  | .sub _ _ _ _ => false
  | .eptr cs => AV.pureL cs
  | .fn _ fs cs => AV.pureL fs && AV.pureL cs
  | .mp _ => false
  | .gate _ x => x.pure
  | .any => true
def AV.pureL : List AV → Bool
  | [] => true
  | x :: xs => x.pure && AV.pureL xs
def AV.pureM : List (List AV) → Bool
  | [] => true
  | x :: xs => AV.pureL x && AV.pureM xs
end

mutual
theorem Rel.pureTo {T : Tab} {E F : Env} (hw : F.w = E.w) (hs : ∀ b, E.stable b → F.stable b) : ∀ (x : AV) (u : Value), x.pure = true → Rel T E x u → Rel T F x u
  | .sc v, u, _, hr => by simpa only [Rel] using hr
  | .agg cs, u, hp, hr => by
    simp only [Rel] at hr ⊢
    obtain ⟨vs, h1, h2⟩ := hr
    exact ⟨vs, h1, RelC.pureTo hw hs cs vs (by simpa only [AV.pure] using hp) h2⟩
  | .tup cs, u, hp, hr => by
    simp only [Rel] at hr ⊢
    obtain ⟨vs, h1, h2⟩ := hr
    exact ⟨vs, h1, RelL.pureTo hw hs cs vs (by simpa only [AV.pure] using hp) h2⟩
  | .lst e l, u, hp, hr => by
    simp only [Rel] at hr ⊢
    obtain ⟨h1, h2, a, cap, h3, hcp, h4⟩ := hr
    refine ⟨h1, h2, a, cap, h3, hcp, ?_⟩
    rcases h4 with h4 | ⟨b, o, h4, h5, h6⟩
    · exact .inl h4
    · exact .inr ⟨b, o, h4, hs b h5, RelM.pureTo hw hs b (T.cells e) l o (by simpa only [AV.pure] using hp) h6⟩
  | .nils, u, _, hr => by simpa only [Rel] using hr
  | .own id g, u, hp, hr => by simp [AV.pure] at hp
  | .ptr id off, u, hp, hr => by simp [AV.pure] at hp
  | .rptr id g i f, u, hp, hr => by simp [AV.pure] at hp
  | .sub id g lo n, u, hp, hr => by simp [AV.pure] at hp
  | .eptr cs, u, hp, hr => by
    simp only [Rel] at hr ⊢
    obtain ⟨b, o, h1, h2, h3⟩ := hr
    exact ⟨b, o, h1, hs b h2, RelX.pureTo hw hs b cs o (by simpa only [AV.pure] using hp) h3⟩
  | .fn f fs cs, u, hp, hr => by
    simp only [AV.pure, Bool.and_eq_true] at hp
    simp only [Rel] at hr ⊢
    obtain ⟨vs, ws, h1, h2, h3⟩ := hr
    exact ⟨vs, ws, h1, RelL.pureTo hw hs fs vs hp.1 h2, RelL.pureTo hw hs cs ws hp.2 h3⟩
  | .mp id, u, hp, hr => by simp [AV.pure] at hp
  | .gate c x, u, hp, hr => by
    simp only [Rel] at hr ⊢
    exact ⟨fun hc => Rel.pureTo hw hs x u (by simpa only [AV.pure] using hp) (hr.1 hc), hr.2⟩
  | .any, u, _, hr => by simp only [Rel]
theorem RelL.pureTo {T : Tab} {E F : Env} (hw : F.w = E.w) (hs : ∀ b, E.stable b → F.stable b) : ∀ (xs : List AV) (vs : List Value), AV.pureL xs = true → RelL T E xs vs → RelL T F xs vs
  | [], vs, _, hr => by simpa only [RelL] using hr
  | x :: xs, vs, hp, hr => by
    simp only [AV.pureL, Bool.and_eq_true] at hp
    simp only [RelL] at hr ⊢
    obtain ⟨v, r, h1, h2, h3⟩ := hr
    exact ⟨v, r, h1, Rel.pureTo hw hs x v hp.1 h2, RelL.pureTo hw hs xs r hp.2 h3⟩
theorem RelC.pureTo {T : Tab} {E F : Env} (hw : F.w = E.w) (hs : ∀ b, E.stable b → F.stable b) : ∀ (xs : List AV) (vs : List Value), AV.pureL xs = true → RelC T E xs vs → RelC T F xs vs
  | [], vs, _, hr => by simpa only [RelC] using hr
  | x :: xs, vs, hp, hr => by
    simp only [AV.pureL, Bool.and_eq_true] at hp
    simp only [RelC] at hr ⊢
    obtain ⟨v, r, h1, h2, h4, h3⟩ := hr
    exact ⟨v, r, h1, Rel.pureTo hw hs x v hp.1 h2, h4, RelC.pureTo hw hs xs r hp.2 h3⟩
theorem RelX.pureTo {T : Tab} {E F : Env} (hw : F.w = E.w) (hs : ∀ b, E.stable b → F.stable b) (b : Nat) : ∀ (xs : List AV) (o : Nat), AV.pureL xs = true → RelX T E b o xs → RelX T F b o xs
  | [], o, _, hr => by simp only [RelX]
  | x :: xs, o, hp, hr => by
    simp only [AV.pureL, Bool.and_eq_true] at hp
    simp only [RelX] at hr ⊢
    obtain ⟨⟨v, h1, h2, h4⟩, h3⟩ := hr
    exact ⟨⟨v, by rw [hw]; exact h1, Rel.pureTo hw hs x v hp.1 h2, h4⟩, RelX.pureTo hw hs b xs _ hp.2 h3⟩
theorem RelM.pureTo {T : Tab} {E F : Env} (hw : F.w = E.w) (hs : ∀ b, E.stable b → F.stable b) (b k : Nat) : ∀ (l : List (List AV)) (o : Nat), AV.pureM l = true → RelM T E b k o l → RelM T F b k o l
  | [], o, _, hr => by simp only [RelM]
  | e :: l, o, hp, hr => by
    simp only [AV.pureM, Bool.and_eq_true] at hp
    simp only [RelM] at hr ⊢
    obtain ⟨h1, h2, h3⟩ := hr
    exact ⟨h1, RelX.pureTo hw hs b e o hp.1 h2, RelM.pureTo hw hs b k l _ hp.2 h3⟩
end

/-- A call that only makes new memory: what it is given, what it hands back. -/
structure PureCall (T : Tab) (P : Program) (f : FuncId) (args : List AV) (r : AV) : Prop where
  enter : ∀ (as : Array Value) (w : World), (callFunc f as).run P w = .ok (.enter f as) w
  pa : AV.pureL args = true
  pr : r.pure = true
  call : ∀ (w : World) (M : Nat → Prop) (vs : List Value), (∀ b, M b → b < w.heap.size) → RelL T ⟨w, [], fun _ => 0, M⟩ args vs →
    Calls P f vs.toArray w (fun e w' => ∃ u, e = .returned u ∧ Below w.heap.size w w' ∧ Rel T ⟨w', [], fun _ => 0, M⟩ r u)

section
variable {T : Tab} {P : Program} (hT : TabOk T P) {E : Env} {n : Nat} {σ : Slots} {st : St} {a : Act} (hs : RelS T E n σ a) (hst : E.st = st) (hi : Inv T E) {o : Oper}

theorem Env.stable_of_mut (E : Env) (w' : World) (b : Nat) : Env.stable ⟨w', [], fun _ => 0, E.mut⟩ b ↔ b < w'.heap.size ∧ ¬ E.mut b := by
  unfold Env.stable Env.mut
  simp

/-- What a function value is called with. -/
def callArgs (f : AV) (args : List AV) : Option (FuncId × List AV) :=
  match f with
  | .fn (.func g) first cap => some (g, first ++ args ++ cap)
  | _ => none

include hs hi in
theorem qr_call {c : Call} {f : Operand} {g : FuncId} {xs : List AV} {r : AV} (ho : o.op = .call c) (hc : c.callee = .value f) (hf : gok (ev σ f)) (hg : ∀ x ∈ c.args.toList, gok (ev σ x))
    (hca : callArgs (sv σ f) (c.args.toList.map (sv σ)) = some (g, xs)) (hp : PureCall T P g xs r) : QR T P E o a r := by
  have hr := hs.sv hf
  have hargs := rel_operands hs c.args.toList hg
  generalize sv σ f = y at hr hca
  obtain ⟨first, cap, rfl, rfl⟩ : ∃ first cap, y = .fn (.func g) first cap ∧ first ++ c.args.toList.map (sv σ) ++ cap = xs := by
    cases y with
    | fn f first cap =>
      cases f <;> simp only [callArgs, Option.some.injEq, Prod.mk.injEq] at hca <;> first | exact ⟨first, cap, by rw [hca.1], hca.2⟩ | (cases hca)
    | _ => simp [callArgs] at hca
  simp only [Rel] at hr
  obtain ⟨vs, ws, h1, h2, h3⟩ := hr
  have hall : RelL T E (first ++ c.args.toList.map (sv σ) ++ cap) (vs ++ c.args.toList.map a.eval ++ ws) := RelL.append _ _ (RelL.append _ _ h2 hargs) h3
  refine .inr ⟨g, (vs ++ c.args.toList.map a.eval ++ ws).toArray, ?_, ?_⟩
  · unfold execOp; rw [ho]; dsimp only
    simp only [resolve, hc, h1, Deferred.ofValue, Sem.run_bind, Sem.run_pure, Result.andThen_ok, invoke]
    rw [← hp.enter]
    congr 2
    simp [← Array.toList_map]
  · refine (hp.call E.w E.mut _ (fun b hb => ?_) (RelL.pureTo (E := E) (F := ⟨E.w, [], fun _ => 0, E.mut⟩) rfl (fun b hb => (Env.stable_of_mut E E.w b).2 hb) _ _ hp.pa hall)).mono ?_
    · rcases hb with hb | ⟨id, blk, k1, k2, k3⟩
      · exact hi.Mlt b hb
      · rw [← k3]; exact (hi.lt id blk k1 k2).1
    · rintro e w' ⟨u, k1, k2, k3⟩
      exact ⟨u, k1, k2, Rel.pureTo (E := ⟨w', [], fun _ => 0, E.mut⟩) (F := { E with w := w' }) rfl (fun b hb => (Env.stable_of_mut E w' b).1 hb) r u hp.pr k3⟩

theorem RelM.get {b k : Nat} : ∀ (l : List (List AV)) (off j : Nat) (x : List AV), RelM T E b k off l → l[j]? = some x → RelX T E b (off + j * k) x
  | [], off, j, x, _, h => by simp at h
  | y :: ys, off, j, x, hm, h => by
    simp only [RelM] at hm
    cases j with
    | zero => simp at h; subst h; simpa using hm.2.1
    | succ j =>
      have := RelM.get ys (off + k) j x hm.2.2 (by simpa using h)
      rw [Nat.add_assoc] at this
      rw [Nat.succ_mul, Nat.add_comm (j * k)]; exact this

def sliceElem (T : Tab) (t : TypeId) : Option TypeId := match T t with | some i => (match i.kind with | .slice e => some e | _ => none) | none => none

theorem sliceElem_spec {t e : TypeId} (h : sliceElem T t = some e) : ∃ i, T t = some i ∧ i.kind = .slice e := by
  unfold sliceElem at h
  cases hi : T t with
  | none => simp [hi] at h
  | some i =>
    simp only [hi] at h
    cases hk : i.kind <;> simp [hk] at h
    exact ⟨i, rfl, by rw [hk, h]⟩

include hT in
theorem run_under_slice {t e : TypeId} (h : sliceElem T t = some e) (w : World) : (underlying t).run P w = .ok (.slice e) w := by
  obtain ⟨i, h1, h2⟩ := sliceElem_spec h
  obtain ⟨d, k1, _, k3⟩ := run_under hT h1
  rw [h2] at k1
  cases d <;> simp [kindOf] at k1
  rw [k3, k1]

include hT in
theorem run_sizeOf' {t : TypeId} (h : (T t).isSome = true) (w : World) : (sizeOf t).run P w = .ok (T.cells t) w := by
  obtain ⟨i, hi⟩ := Option.isSome_iff_exists.1 h
  rw [run_sizeOf hT hi]
  simp [Tab.cells, hi]

include hT hs in
/-- The address of an element of a list. -/
theorem qr_indexAddr {t e : TypeId} {x ix : Operand} {l : List (List AV)} {k : Int} {c : List AV} (ho : o.op = .indexAddr t x ix) (hx : gok (ev σ x)) (hix : gok (ev σ ix))
    (hxv : sv σ x = .lst e l) (hkv : sv σ ix = .sc (.int .i64 k)) (hte : sliceElem T t = some e) (hse : (T e).isSome = true) (h0 : 0 ≤ k) (hl : l[k.toNat]? = some c) : QR T P E o a (.eptr c) := by
  have hr := hs.sv hx
  have hr2 := hs.sv hix
  rw [hxv] at hr
  rw [hkv] at hr2
  simp only [Rel] at hr hr2
  obtain ⟨_, _, b, cap, h1, _, h2⟩ := hr
  have hlt : k.toNat < l.length := (List.getElem?_eq_some_iff.1 hl).1
  rcases h2 with h2 | ⟨bb, off, h3, h4, h5⟩
  · subst h2; simp at hlt
  · subst h3
    refine QR.same (u := .pointer (some ⟨bb, off + k.toNat * T.cells e, none⟩)) ?_ ?_
    · unfold execOp; rw [ho]; dsimp only
      rw [h1, hr2.1]
      have hb : (0 : Int) ≤ k ∧ k < (l.length : Int) := by omega
      simp [Instr.indexAt, asIntOf, run_under_slice hT hte, hb, run_sizeOf' hT hse, addr_add]
    · simp only [Rel]
      exact ⟨bb, _, rfl, h4, RelM.get l off _ c h5 hl⟩

include hT hs hst in
/-- The address of an element of a row of one's own. -/
theorem qr_indexAddr_own {t e : TypeId} {x ix : Operand} {l : List (List AV)} {k : Int} {id g : Nat} (ho : o.op = .indexAddr t x ix) (hx : gok (ev σ x)) (hix : gok (ev σ ix))
    (hxv : sv σ x = .own id g) (hb : st[id]? = some (.row e g true l)) (hkv : sv σ ix = .sc (.int .i64 k)) (hte : sliceElem T t = some e) (hse : (T e).isSome = true) (h0 : 0 ≤ k) (hl : k < l.length) : QR T P E o a (.rptr id g k.toNat 0) := by
  have hr := hs.sv hx
  have hr2 := hs.sv hix
  rw [hxv] at hr
  rw [hkv] at hr2
  simp only [Rel] at hr hr2
  subst hst
  obtain ⟨cap, c, h1, h2, h3⟩ := ((hr.2 _ _ _ _ hb).2 rfl).1 rfl
  refine QR.same (u := .pointer (some ⟨E.φ id, k.toNat * T.cells e, none⟩)) ?_ ?_
  · unfold execOp; rw [ho]; dsimp only
    rw [h1, hr2.1]
    have hb : (0 : Int) ≤ k ∧ k < (l.length : Int) := by omega
    simp [Instr.indexAt, asIntOf, run_under_slice hT hte, hb, run_sizeOf' hT hse, addr_add]
  · simp only [Rel]
    refine ⟨hr.1, fun e' g' al' l' hb' => ?_⟩
    rw [hb] at hb'
    cases hb'
    exact ⟨Nat.le_refl _, fun _ _ => rfl⟩

include hT hs hst in
theorem qr_indexAddr_sub {t e : TypeId} {x ix : Operand} {l : List (List AV)} {k : Int} {id g lo m : Nat} (ho : o.op = .indexAddr t x ix) (hx : gok (ev σ x)) (hix : gok (ev σ ix))
    (hxv : sv σ x = .sub id g lo m) (hb : st[id]? = some (.row e g true l)) (hkv : sv σ ix = .sc (.int .i64 k)) (hte : sliceElem T t = some e) (hse : (T e).isSome = true) (h0 : 0 ≤ k) (hl : k < m) : QR T P E o a (.rptr id g (lo + k.toNat) 0) := by
  have hr := hs.sv hx
  have hr2 := hs.sv hix
  rw [hxv] at hr
  rw [hkv] at hr2
  simp only [Rel] at hr hr2
  subst hst
  obtain ⟨aa, cap, h1, h2, h3⟩ := (hr.2 _ _ _ _ hb).2 rfl
  obtain ⟨_, h3⟩ := h3.resolve_left (by omega)
  subst h3
  refine QR.same (u := .pointer (some ⟨E.φ id, (lo + k.toNat) * T.cells e, none⟩)) ?_ ?_
  · unfold execOp; rw [ho]; dsimp only
    rw [h1, hr2.1]
    have hb : (0 : Int) ≤ k ∧ k < (m : Int) := by omega
    simp [Instr.indexAt, asIntOf, run_under_slice hT hte, hb, run_sizeOf' hT hse, addr_add, Nat.add_mul]
  · simp only [Rel]
    refine ⟨hr.1, fun e' g' al' l' hb' => ?_⟩
    rw [hb] at hb'
    cases hb'
    exact ⟨Nat.le_refl _, fun _ _ => by simp⟩

/-- The cells of a value. -/
def cellsOf : AV → List AV
  | .agg cs => cs
  | x => [x]
def boxOk : AV → Prop
  | .agg _ => True
  | .sc _ => True
  | .lst _ _ => True
  | .nils => True
  | .own _ _ => True
  | .ptr _ _ => True
  | .fn _ _ _ => True
  | .mp _ => True
  | .eptr _ => True
  | _ => False

theorem rel_cells {x : AV} {u : Value} (hok : boxOk x) (h : Rel T E x u) (hptr : ∀ id, (∃ o, x = .ptr id o) ∨ (∃ g, x = .own id g) ∨ x = .mp id → ∃ blk, E.st[id]? = some blk ∧ (match x, blk with | .ptr _ _, .cells _ => True | .own _ g, .row _ g' _ _ => g' = g | .mp _, .map _ => True | _, _ => False)) :
    RelC T E (cellsOf x) u.cells.toList := by
  have one : u.oneCell' = true → Rel T E x u → RelC T E [x] u.cells.toList := by
    intro h1 h2
    have : u.cells = #[u] := by cases u <;> first | rfl | (simp [Value.oneCell'] at h1)
    rw [this]
    simp only [RelC]
    exact ⟨u, [], rfl, h2, h1, rfl⟩
  have h' := h
  cases x with
  | agg cs =>
    simp only [Rel] at h
    obtain ⟨vs, rfl, h2⟩ := h
    simpa [cellsOf, Value.cells] using h2
  | sc v => simp only [Rel] at h; obtain ⟨rfl, h2⟩ := h; exact one h2 h'
  | lst e l => simp only [Rel] at h; obtain ⟨_, _, b, cap, rfl, _⟩ := h; exact one rfl h'
  | nils => simp only [Rel] at h; obtain ⟨b, rfl⟩ := h; exact one rfl h'
  | eptr cs => simp only [Rel] at h; obtain ⟨b, o, rfl, _⟩ := h; exact one rfl h'
  | fn f fs cs => simp only [Rel] at h; obtain ⟨vs, ws, rfl, _⟩ := h; exact one rfl h'
  | ptr id off =>
    obtain ⟨blk, k1, k2⟩ := hptr id (.inl ⟨off, rfl⟩)
    cases blk <;> try exact k2.elim
    simp only [Rel] at h
    exact one (by rw [h.2 _ k1]; rfl) h'
  | own id g =>
    obtain ⟨blk, k1, k2⟩ := hptr id (.inr (.inl ⟨g, rfl⟩))
    cases blk <;> try exact k2.elim
    simp only [Rel] at h
    rename_i e g' al l
    obtain ⟨k3, k4⟩ := (h.2 _ _ _ _ k1).2 k2
    refine one ?_ h'
    cases al with
    | true => obtain ⟨cap, c, e1, _⟩ := k3 rfl; rw [e1]; rfl
    | false => obtain ⟨b, e1⟩ := k4 rfl; rw [e1]; rfl
  | mp id =>
    obtain ⟨blk, k1, k2⟩ := hptr id (.inr (.inr rfl))
    cases blk <;> try exact k2.elim
    simp only [Rel] at h
    exact one (by rw [h.2 _ k1]; rfl) h'
  | _ => exact hok.elim

/-- A value that can lie in memory as it is. -/
def liesOk (st : St) : AV → Prop
  | .agg _ => True
  | .sc _ => True
  | .lst _ _ => True
  | .nils => True
  | .fn _ _ _ => True
  | .eptr _ => True
  | .own id g => match st[id]? with | some (.row _ g' _ _) => g' = g | _ => False
  | .ptr id _ => match st[id]? with | some (.cells _) => True | _ => False
  | .mp id => match st[id]? with | some (.map _) => True | _ => False
  | _ => False

theorem rel_cells' {x : AV} {u : Value} (hst : E.st = st) (hok : liesOk st x) (h : Rel T E x u) : RelC T E (cellsOf x) u.cells.toList := by
  subst hst
  refine rel_cells (by cases x <;> first | trivial | exact hok.elim) h ?_
  intro id hid
  rcases hid with ⟨o, rfl⟩ | ⟨g, rfl⟩ | rfl
  · simp only [liesOk] at hok
    cases hb : E.st[id]? with
    | none => simp [hb] at hok
    | some blk => cases blk <;> simp [hb] at hok; exact ⟨_, rfl, trivial⟩
  · simp only [liesOk] at hok
    cases hb : E.st[id]? with
    | none => simp [hb] at hok
    | some blk => cases blk <;> simp [hb] at hok; exact ⟨_, rfl, hok⟩
  · simp only [liesOk] at hok
    cases hb : E.st[id]? with
    | none => simp [hb] at hok
    | some blk => cases blk <;> simp [hb] at hok; exact ⟨_, rfl, trivial⟩

theorem below_alloc (w : World) (ob : Obj) : Below w.heap.size w (w.alloc ob) := (Below.refl _ _).alloc (Nat.le_refl _) _

/-- New memory that nobody has a number for holds what it was made of. -/
theorem relX_new (hi : Inv T E) {cs : List AV} {c : Array Value} {t : TypeId} (h : RelC T E cs c.toList) :
    Env.stable { E with w := E.w.alloc (.cells c t) } E.w.heap.size ∧ RelX T { E with w := E.w.alloc (.cells c t) } E.w.heap.size 0 cs := by
  have hx := Env.ext hi (w' := E.w.alloc (.cells c t)) rfl rfl rfl (by simp) (fun k hk => Below.heap_alloc _ _ _ hk)
  refine ⟨⟨by simp, fun hm => ?_⟩, ?_⟩
  · rcases hm with hm | ⟨id, blk, k1, k2, k3⟩
    · have := hi.Mlt _ hm; omega
    · have := (hi.lt id blk k1 k2).1; dsimp only at k3; omega
  · refine RelX.of_cells (c := c.toList) (fun j v hj => ?_) cs c.toList 0 (RelC.step hx.1 _ _ h) (fun j _ => by simp)
    show (E.w.alloc (.cells c t)).cell? ⟨E.w.heap.size, j, none⟩ = some v
    rw [World.cell?_alloc_new]; simpa using hj

include hs hst hi in
/-- A variable that is never written again. -/
theorem qr_box {t : TypeId} {x : Operand} (ho : o.op = .box t x) (hx : gok (ev σ x)) (hok : liesOk st (sv σ x)) : QR T P E o a (.eptr (cellsOf (sv σ x))) := by
  have hc := rel_cells' hst hok (hs.sv hx)
  obtain ⟨h1, h2⟩ := relX_new (t := t) hi hc
  refine .inl ⟨.pointer (some ⟨E.w.heap.size, 0, none⟩), E.w.alloc (.cells (a.eval x).cells t), ?_, below_alloc _ _, ?_⟩
  · unfold execOp; rw [ho]; rfl
  · simp only [Rel]
    exact ⟨_, _, rfl, h1, h2⟩

/-- pick: each arm counts only where it is taken. -/
def pickV (b : AV) (x y : AV) : AV :=
  match b, str x, str y with
  | .sc (.bool b), .sc (.bool p), .sc (.bool q) => .sc (.bool (bif b then p else q))
  | _, _, _ => .any
def pickOk (b : AV) (x y : AV) : Prop :=
  match b, str x, str y with
  | .sc (.bool b), .sc (.bool _), .sc (.bool _) => (b = true → gok x) ∧ (b = false → gok y)
  | _, _, _ => False
include hs in
theorem qr_pick {c x y : Operand} (ho : o.op = .pick c x y) (hc : gok (ev σ c)) (hok : pickOk (sv σ c) (ev σ x) (ev σ y)) : QR T P E o a (pickV (sv σ c) (ev σ x) (ev σ y)) := by
  have hr := hs.sv hc
  have h1 := hs.ev x
  have h2 := hs.ev y
  unfold pickOk at hok
  unfold pickV
  split at hok
  · rename_i b p q e1 e2 e3
    rw [e1] at hr
    simp only [Rel] at hr
    have hr1 := hr.1
    cases b with
    | true =>
      have := rel_str h1 (hok.1 rfl)
      rw [e2] at this
      simp only [Rel] at this
      refine QR.same (u := .bool p) ?_ (by simp only [Rel]; exact ⟨rfl, rfl⟩)
      unfold execOp; rw [ho]; dsimp only
      rw [hr1, this.1]; rfl
    | false =>
      have := rel_str h2 (hok.2 rfl)
      rw [e3] at this
      simp only [Rel] at this
      refine QR.same (u := .bool q) ?_ (by simp only [Rel]; exact ⟨rfl, rfl⟩)
      unfold execOp; rw [ho]; dsimp only
      rw [hr1, this.1]; rfl
  · exact hok.elim
end
end Go.Ab
end

section
namespace Go.Ab
open Go.RowKit

/-- A field that is no struct and no array: where it lies. -/
def plainField (P : Program) (s : TypeId) (f : Nat) : Option Nat :=
  match P.underlying s with
  | some (.struct fs) =>
    (match fs[f]? with
    | some fd => (match P.underlying fd.type with | some d => if aggD (kindOf d) then none else some fd.offset | none => none)
    | none => none)
  | _ => none
def cellV (x : AV) (off : Nat) : AV := match x with | .agg cs => (match cs[off]? with | some c => c | none => .any) | _ => .any
def cellOk (x : AV) (off : Nat) : Prop := match x with | .agg cs => off < cs.length | _ => False

def maxV : AV → AV → AV
  | .sc (.int .i64 a), .sc (.int .i64 b) => .sc (.int .i64 (max a b))
  | _, _ => .any
def minV : AV → AV → AV
  | .sc (.int .i64 a), .sc (.int .i64 b) => .sc (.int .i64 (min a b))
  | _, _ => .any
def intsOk : AV → AV → Prop
  | .sc (.int .i64 _), .sc (.int .i64 _) => True
  | _, _ => False

/-- Is it a comparison of a slice with nil? -/
def nilCmp (o : Op) : Option (Bool × TypeId × Operand) :=
  match o with
  | .binOp .eql t x (.const (.slice none 0 0)) _ => some (true, t, x)
  | .binOp .neq t x (.const (.slice none 0 0)) _ => some (false, t, x)
  | _ => none
/-- Can it be (b: nil, not nil)? -/
def nilCan (st : St) (x : AV) (b : Bool) : Prop :=
  match x with
  | .lst _ l => b = true → l = []
  | .own id _ => match st[id]? with | some (.row _ _ _ l) => b = true → l = [] | _ => True
  | _ => True
def nilSl (st : St) (x : AV) : Prop :=
  match x with
  | .lst _ _ => True
  | .nils => True
  | .own id g => match st[id]? with | some (.row _ g' _ _) => g' = g | _ => False
  | _ => False

section
variable {T : Tab} {P : Program} (hT : TabOk T P) {E : Env} {n : Nat} {σ : Slots} {st : St} {a : Act} (hs : RelS T E n σ a) (hst : E.st = st) (hi : Inv T E) {o : Oper}

theorem RelC.get : ∀ (xs : List AV) (vs : List Value), RelC T E xs vs → ∀ (i : Nat) (x : AV), xs[i]? = some x → ∃ v, vs[i]? = some v ∧ Rel T E x v
  | [], vs, h, i, x, hx => by simp at hx
  | y :: ys, vs, h, i, x, hx => by
    simp only [RelC] at h
    obtain ⟨v, r, rfl, h1, _, h2⟩ := h
    cases i with
    | zero => simp at hx; subst hx; exact ⟨v, rfl, h1⟩
    | succ i => simpa using RelC.get ys r h2 i x (by simpa using hx)

include hs in
theorem qr_field {s : TypeId} {x : Operand} {f off : Nat} (ho : o.op = .field s x f) (hx : gok (ev σ x)) (hf : plainField P s f = some off) (hok : cellOk (sv σ x) off) : QR T P E o a (cellV (sv σ x) off) := by
  have hr := hs.sv hx
  generalize sv σ x = y at hr hok ⊢
  cases y <;> try exact hok.elim
  rename_i cs
  simp only [cellOk] at hok
  simp only [Rel] at hr
  obtain ⟨vs, h1, h2⟩ := hr
  simp only [cellV, List.getElem?_eq_getElem hok]
  obtain ⟨v, h3, h4⟩ := RelC.get cs vs h2 off _ (List.getElem?_eq_getElem hok)
  refine QR.same (u := v) ?_ h4
  unfold plainField at hf
  split at hf
  · rename_i fs hu
    split at hf
    · rename_i fd hfd
      split at hf
      · rename_i d hd
        split at hf
        · cases hf
        · rename_i hagg
          simp only [Option.some.injEq] at hf
          subst hf
          unfold execOp; rw [ho]; dsimp only
          rw [h1]
          have hia : (isAgg fd.type).run P E.w = .ok false E.w := by
            unfold isAgg
            rw [Sem.run_bind, run_underlying hd]
            cases d <;> first | rfl | (exact absurd rfl hagg)
          simp [Instr.field, run_underlying hu, hfd, part, hia, asAgg, h3]
      · cases hf
    · cases hf
  · cases hf

include hs in
theorem qr_max {x y : Operand} {c : Call} (ho : o.op = .call c) (hc : c.callee = .builtin .max) (ha : c.args = #[x, y]) (hx : gok (ev σ x)) (hy : gok (ev σ y)) (hok : intsOk (sv σ x) (sv σ y)) : QR T P E o a (maxV (sv σ x) (sv σ y)) := by
  have hr := hs.sv hx
  have hq := hs.sv hy
  generalize sv σ x = p at hr hok ⊢
  generalize sv σ y = q at hq hok ⊢
  unfold intsOk at hok
  split at hok
  · rename_i z1 z2
    simp only [Rel] at hr hq
    refine QR.same (u := .int .i64 (max z1 z2)) ?_ (by simp only [maxV, Rel]; exact ⟨trivial, rfl⟩)
    unfold execOp; rw [ho]; dsimp only
    simp only [resolve, hc, Sem.run_bind, Sem.run_pure, Result.andThen_ok, invoke, builtin, ha]
    simp [hr.1, hq.1, Builtin.max_, Builtin.max2]
    split <;> omega
  · exact hok.elim

include hs in
theorem qr_min {x y : Operand} {c : Call} (ho : o.op = .call c) (hc : c.callee = .builtin .min) (ha : c.args = #[x, y]) (hx : gok (ev σ x)) (hy : gok (ev σ y)) (hok : intsOk (sv σ x) (sv σ y)) : QR T P E o a (minV (sv σ x) (sv σ y)) := by
  have hr := hs.sv hx
  have hq := hs.sv hy
  generalize sv σ x = p at hr hok ⊢
  generalize sv σ y = q at hq hok ⊢
  unfold intsOk at hok
  split at hok
  · rename_i z1 z2
    simp only [Rel] at hr hq
    refine QR.same (u := .int .i64 (min z1 z2)) ?_ (by simp only [minV, Rel]; exact ⟨trivial, rfl⟩)
    unfold execOp; rw [ho]; dsimp only
    simp only [resolve, hc, Sem.run_bind, Sem.run_pure, Result.andThen_ok, invoke, builtin, ha]
    simp [hr.1, hq.1, Builtin.min_, Builtin.min2]
    split <;> omega
  · exact hok.elim

include hT hs hst hi in
theorem qr_nilcmp {t : TypeId} {x : Operand} {eq : Bool} (ho : nilCmp o.op = some (eq, t, x)) (hx : gok (ev σ x)) (hok : nilSl st (sv σ x)) (hd : descIs T t isSliceK) :
    ∃ b, nilCan st (sv σ x) b ∧ QR T P E o a (.sc (.bool (b == eq))) := by
  have hr := hs.sv hx
  generalize sv σ x = y at hr hok ⊢
  obtain ⟨i, hi1, hi2⟩ := desc_of hd
  obtain ⟨j, d, h1, h2, h3, _⟩ := hT t i hi1
  rw [← h3] at hi2
  cases d <;> simp [kindOf, isSliceK] at hi2
  rename_i d
  have key : ∃ ad k c, a.eval x = .slice ad k c ∧ nilCan st y ad.isNone := by
    subst hst
    cases y <;> try exact hok.elim
    · rename_i e l
      simp only [Rel] at hr
      obtain ⟨_, _, ad, cap, k1, _, k2⟩ := hr
      refine ⟨ad, _, _, k1, ?_⟩
      simp only [nilCan]
      intro hn
      rcases k2 with k2 | ⟨b, o, k2, _⟩
      · exact k2
      · rw [k2] at hn; cases hn
    · simp only [Rel] at hr
      obtain ⟨ad, k1⟩ := hr
      exact ⟨ad, _, _, k1, by simp only [nilCan]⟩
    · rename_i id g
      simp only [nilSl] at hok
      simp only [Rel] at hr
      cases hb : E.st[id]? with
      | none => simp [hb] at hok
      | some blk =>
        cases blk <;> simp [hb] at hok
        rename_i e g' al l
        obtain ⟨k1, k2⟩ := (hr.2 _ _ _ _ hb).2 hok
        cases al with
        | true =>
          obtain ⟨cap, c, q1, _⟩ := k1 rfl
          refine ⟨_, _, _, q1, ?_⟩
          simp [nilCan, hb]
        | false =>
          obtain ⟨ad, q1⟩ := k2 rfl
          have := (hi.blk id _ hb).2.1 rfl
          refine ⟨_, _, _, q1, ?_⟩
          simp [nilCan, hb, this]
  obtain ⟨ad, k, c, e1, e2⟩ := key
  refine ⟨ad.isNone, e2, ?_⟩
  have hrun : (Op.equal t (.slice ad k c) (.slice none 0 0)).run P E.w = .ok ad.isNone E.w := by
    unfold Op.equal Op.maxDepth
    rw [show (10000 : Nat) = 9999 + 1 from rfl]
    unfold Op.equalIn
    rw [Sem.run_bind, run_underlying h2]
    cases ad <;> rfl
  unfold nilCmp at ho
  split at ho
  · rename_i t' x' _ hop
    simp only [Option.some.injEq, Prod.mk.injEq] at ho
    obtain ⟨rfl, rfl, rfl⟩ := ho
    refine QR.same (u := .bool (ad.isNone == true)) ?_ (by simp only [Rel]; exact ⟨trivial, rfl⟩)
    unfold execOp; rw [hop]; dsimp only
    rw [e1]
    simp [binOp, hrun, Act.eval, eqGuard]
  · rename_i t' x' _ hop
    simp only [Option.some.injEq, Prod.mk.injEq] at ho
    obtain ⟨rfl, rfl, rfl⟩ := ho
    refine QR.same (u := .bool (ad.isNone == false)) ?_ (by simp only [Rel]; exact ⟨trivial, rfl⟩)
    unfold execOp; rw [hop]; dsimp only
    rw [e1]
    simp [binOp, hrun, Act.eval, eqGuard]
  · cases ho
end
end Go.Ab
end

section
namespace Go.Ab
open Go.RowKit

/-- One operation, abstractly. -/
def AO (T : Tab) (P : Program) (E0 : Env) (n : Nat) (ops : Array Oper) (o : Oper) (k : Slots → St → Prop) (σ : Slots) (st : St) : Prop :=
  ∀ (E : Env) (a : Act), E.st = st → Inv T E → Step E0 E → RelS T E n σ a → ∀ (K : Act → World → Prop) (Q : Exit → Act → World → Prop),
    (∀ E' σ' a', Inv T E' → Step E0 E' → RelS T E' n σ' a' → k σ' E'.st → K a' E'.w) →
    if Region.wanted o (yielded ops a.tmps) then o.wp P a E.w K Q else K (a.put o.dst undef) E.w

/-- Several operations. -/
def AL (T : Tab) (P : Program) (E0 : Env) (n : Nat) (ops : Array Oper) (l : List Oper) (k : Slots → St → Prop) (σ : Slots) (st : St) : Prop :=
  ∀ (E : Env) (a : Act), E.st = st → Inv T E → Step E0 E → RelS T E n σ a → ∀ (Q : Exit → Act → World → Prop),
    (∀ E' σ' a', Inv T E' → Step E0 E' → RelS T E' n σ' a' → k σ' E'.st → Q .normal a' E'.w) → wpList P ops Q l a E.w

section
variable {T : Tab} {P : Program} {E0 : Env} {n : Nat} {ops : Array Oper}

theorem AL.nil {k : Slots → St → Prop} {σ : Slots} {st : St} (h : k σ st) : AL T P E0 n ops [] k σ st :=
  fun E a h1 h2 h3 h4 _ hq => wpList_nil (hq E σ a h2 h3 h4 (h1 ▸ h))

theorem AL.cons {o : Oper} {os : List Oper} {k : Slots → St → Prop} {σ : Slots} {st : St} (h : AO T P E0 n ops o (AL T P E0 n ops os k) σ st) : AL T P E0 n ops (o :: os) k σ st :=
  fun E a h1 h2 h3 h4 Q hq => wpList_step fun K hK => h E a h1 h2 h3 h4 K Q fun E' _ a' k1 k2 k3 k4 => hK _ _ (k4 E' a' rfl k1 k2 k3 Q hq)

theorem AW.region {id : Nat} {l : List Oper} {K : Exit → Slots → St → Prop} {σ : Slots} {st : St} (h : AL T P E0 n l.toArray l (K .normal) σ st) : AW T P E0 n (.region id l.toArray false) K σ st := by
  intro E a h1 h2 h3 h4
  refine wp_region_list ?_
  exact h E a h1 h2 h3 h4 _ fun E' σ' a' k1 k2 k3 k4 => ⟨E', σ', rfl, k1, k2, k3, k4⟩

theorem Oper.wp_of_QR {E : Env} {o : Oper} {a : Act} {v : AV} (h : QR T P E o a v) {K : Act → World → Prop} {Q : Exit → Act → World → Prop}
    (hk : ∀ u w', Below E.w.heap.size E.w w' → Rel T { E with w := w' } v u → K (a.put o.dst u) w') : o.wp P a E.w K Q := by
  unfold Oper.wp
  rcases h with ⟨u, w', h1, h2, h3⟩ | ⟨f, args, h1, h2⟩
  · rw [h1, Oper.upon_value]; exact hk u w' h2 h3
  · rw [h1, Oper.upon_enter]
    refine h2.mono ?_
    rintro e w' ⟨u, rfl, k1, k2⟩
    exact hk u w' k1 k2

theorem Env.ext_below {E : Env} (hi : Inv T E) {w' : World} (h : Below E.w.heap.size E.w w') : Step E { E with w := w' } ∧ Inv T { E with w := w' } :=
  Env.ext hi h.os h.tape h.output h.size h.block

theorem AO.quiet {o : Oper} {k : Slots → St → Prop} {σ : Slots} {st : St} (hg : o.guard = none) (hd : dstOk n o.dst)
    (hq : ∀ E a, E.st = st → Inv T E → RelS T E n σ a → ∃ v, QR T P E o a v ∧ k (σ.put o.dst v) st) : AO T P E0 n ops o k σ st := by
  intro E a h1 h2 h3 h4 K Q hK
  rw [if_pos (by simp [Region.wanted, hg])]
  obtain ⟨v, hq, hk⟩ := hq E a h1 h2 h4
  refine Oper.wp_of_QR hq fun u w' k1 k2 => ?_
  obtain ⟨s1, s2⟩ := Env.ext_below h2 k1
  exact hK { E with w := w' } _ _ s2 (h3.trans s1) ((h4.step s1).put hd k2) (by dsimp only; rw [h1]; exact hk)

/-- Whether a guarded operation is carried out. -/
def gcond (ops : Array Oper) (σ : Slots) (g : Nat) (want : Bool) : Option Bool :=
  match (ops[g]?).bind (·.dst) with
  | none => none
  | some d =>
    match σ d with
    | .sc (.bool b) => some (b == want)
    | .gate c (.sc (.bool b)) => some (c && (b == want))
    | _ => none

theorem wanted_of_gcond {E : Env} {σ : Slots} {a : Act} {o : Oper} {g : Nat} {want c : Bool} (hs : RelS T E n σ a) (hg : o.guard = some (g, want)) (hc : gcond ops σ g want = some c) :
    Region.wanted o (yielded ops a.tmps) = c := by
  unfold gcond at hc
  simp only [Region.wanted, hg]
  cases hd : (ops[g]?).bind (·.dst) with
  | none => simp [hd] at hc
  | some d =>
    simp only [hd] at hc
    have hv := hs.val d
    unfold yielded
    rw [hd]
    have hget : ∀ u : Value, u ≠ undef → a.tmps.getD d undef = u → (some d).bind (a.tmps[·]?) = some u := by
      intro u hu he
      simp only [Option.bind_some]
      by_cases hlt : d < a.tmps.size
      · simp [Array.getD, hlt] at he; simp [hlt, he]
      · simp [Array.getD, hlt] at he; exact absurd he.symm hu
    cases hσ : σ d with
    | sc v =>
      cases v <;> simp [hσ] at hc
      rename_i b
      rw [hσ] at hv
      simp only [Rel] at hv
      rw [hget _ (by simp [undef]) hv.1]
      subst hc
      cases b <;> cases want <;> rfl
    | gate c' x =>
      cases x <;> simp [hσ] at hc
      rename_i v
      cases v <;> simp at hc
      rename_i b
      rw [hσ] at hv
      simp only [Rel] at hv
      cases c' with
      | true =>
        rw [hget _ (by simp [undef]) (hv.1 rfl).1]
        subst hc
        cases b <;> cases want <;> rfl
      | false =>
        have hu := hv.2 rfl
        subst hc
        simp only [Option.bind_some, Bool.false_and]
        by_cases hlt : d < a.tmps.size
        · simp [Array.getD, hlt] at hu; simp [hlt, hu, undef]
        · simp [hlt]
    | _ => simp [hσ] at hc

theorem AO.gated {o : Oper} {k : Slots → St → Prop} {σ : Slots} {st : St} {g : Nat} {want c : Bool} (hg : o.guard = some (g, want)) (hc : gcond ops σ g want = some c) (hd : dstOk n o.dst)
    (hq : ∀ E a, E.st = st → Inv T E → RelS T E n σ a → ∃ v, (c = true → QR T P E o a v) ∧ k (σ.put o.dst (.gate c v)) st) : AO T P E0 n ops o k σ st := by
  intro E a h1 h2 h3 h4 K Q hK
  rw [wanted_of_gcond h4 hg hc]
  obtain ⟨v, hq, hk⟩ := hq E a h1 h2 h4
  cases hcb : c with
  | true =>
    rw [if_pos rfl]
    refine Oper.wp_of_QR (hq hcb) fun u w' k1 k2 => ?_
    obtain ⟨s1, s2⟩ := Env.ext_below h2 k1
    refine hK { E with w := w' } _ _ s2 (h3.trans s1) ((h4.step s1).put hd (x := .gate c v) ?_) (by dsimp only; rw [h1]; exact hk)
    simp only [Rel, hcb]
    exact ⟨fun _ => k2, fun h => by cases h⟩
  | false =>
    rw [if_neg (by simp)]
    refine hK E _ _ h2 h3 (h4.put hd (x := .gate c v) ?_) (by rw [h1]; exact hk)
    simp only [Rel, hcb]
    exact ⟨fun h => by (cases h), fun _ => trivial⟩
end
end Go.Ab
end

section
namespace Go.Ab
open Go.RowKit

/-- The cells of a list, one behind the other. -/
def RelF (T : Tab) (E : Env) (k : Nat) : List (List AV) → List Value → Prop
  | [], vs => vs = []
  | e :: l, vs => ∃ us r, vs = us ++ r ∧ e.length = k ∧ RelC T E e us ∧ RelF T E k l r

section
variable {T : Tab} {P : Program} (hT : TabOk T P) {E : Env} {n : Nat} {σ : Slots} {st : St} {a : Act} (hs : RelS T E n σ a) (hst : E.st = st) (hi : Inv T E) {o : Oper}

theorem RelF.len {k : Nat} : ∀ (l : List (List AV)) (vs : List Value), RelF T E k l vs → vs.length = l.length * k
  | [], vs, h => by simp only [RelF] at h; subst h; simp
  | e :: l, vs, h => by
    simp only [RelF] at h
    obtain ⟨us, r, rfl, h1, h2, h3⟩ := h
    have := RelC.len e us h2
    rw [List.length_append, RelF.len l r h3, this, h1, List.length_cons, Nat.succ_mul]; omega

theorem RelF.one {k : Nat} : ∀ (l : List (List AV)) (vs : List Value), RelF T E k l vs → ∀ v ∈ vs, v.oneCell' = true
  | [], vs, h => by simp only [RelF] at h; subst h; simp
  | e :: l, vs, h => by
    simp only [RelF] at h
    obtain ⟨us, r, rfl, h1, h2, h3⟩ := h
    intro v hv
    rcases List.mem_append.1 hv with hv | hv
    · exact RelC.one e us h2 v hv
    · exact RelF.one l r h3 v hv

theorem RelF.append {k : Nat} : ∀ (l : List (List AV)) (vs : List Value) {l' : List (List AV)} {us : List Value}, RelF T E k l vs → RelF T E k l' us → RelF T E k (l ++ l') (vs ++ us)
  | [], vs, l', us, h, h' => by simp only [RelF] at h; subst h; simpa using h'
  | e :: l, vs, l', us, h, h' => by
    simp only [RelF] at h
    obtain ⟨ws, r, rfl, h1, h2, h3⟩ := h
    simp only [List.cons_append, RelF]
    exact ⟨ws, _, List.append_assoc _ _ _, h1, h2, RelF.append l r h3 h'⟩

theorem RelF.step {E' : Env} (hs : Step E E') {k : Nat} : ∀ (l : List (List AV)) (vs : List Value), RelF T E k l vs → RelF T E' k l vs
  | [], vs, h => h
  | e :: l, vs, h => by
    simp only [RelF] at h ⊢
    obtain ⟨ws, r, rfl, h1, h2, h3⟩ := h
    exact ⟨ws, r, rfl, h1, RelC.step hs _ _ h2, RelF.step hs l r h3⟩

theorem RelM.flat {b k : Nat} : ∀ (l : List (List AV)) (o : Nat), RelM T E b k o l → ∃ vs, RelF T E k l vs ∧ ∀ j v, vs[j]? = some v → E.w.cell? ⟨b, o + j, none⟩ = some v
  | [], o, _ => ⟨[], rfl, by simp⟩
  | e :: l, o, h => by
    simp only [RelM] at h
    obtain ⟨h1, h2, h3⟩ := h
    obtain ⟨us, k1, k2, k3⟩ := RelX.vals e o h2
    obtain ⟨r, m1, m2⟩ := RelM.flat l (o + k) h3
    refine ⟨us ++ r, ⟨us, r, rfl, h1, k1, m1⟩, fun j v hj => ?_⟩
    by_cases hlt : j < us.length
    · rw [List.getElem?_append_left hlt] at hj
      exact k3 j v hj
    · rw [List.getElem?_append_right (by omega)] at hj
      have := m2 _ v hj
      rw [← this]; congr 2; omega

theorem RelM.of_flat {b k : Nat} {c : List Value} (hc : ∀ j v, c[j]? = some v → E.w.cell? ⟨b, j, none⟩ = some v) : ∀ (l : List (List AV)) (vs : List Value) (o : Nat), RelF T E k l vs → (∀ j, j < vs.length → c[o + j]? = vs[j]?) → RelM T E b k o l
  | [], vs, o, h, _ => by simp only [RelM]
  | e :: l, vs, o, h, ho => by
    simp only [RelF] at h
    obtain ⟨us, r, rfl, h1, h2, h3⟩ := h
    have hl := RelC.len e us h2
    simp only [RelM]
    refine ⟨h1, RelX.of_cells hc e us o h2 (fun j hj => ?_), RelM.of_flat hc l r (o + k) h3 fun j hj => ?_⟩
    · rw [ho j (by simp; omega), List.getElem?_append_left hj]
    · have := ho (us.length + j) (by simp; omega)
      rw [List.getElem?_append_right (by omega)] at this
      rw [show o + k + j = o + (us.length + j) by omega, this]
      congr 1; omega

/-- What a slice value holds, to be copied. -/
def srcOf (st : St) : AV → Option (List (List AV))
  | .lst _ l => some l
  | .nils => some []
  | .own id g => match st[id]? with | some (.row _ g' _ l) => if g' = g then some l else none | _ => none
  | _ => none
def srcElem (st : St) (e : TypeId) : AV → Prop
  | .lst e' _ => e' = e
  | .nils => True
  | .own id _ => match st[id]? with | some (.row e' _ _ _) => e' = e | _ => False
  | _ => False

theorem rel_src {x : AV} {u : Value} {e : TypeId} {l : List (List AV)} (hst : E.st = st) (hi : Inv T E) (h : Rel T E x u) (hl : srcOf st x = some l) (he : srcElem st e x) :
    ∃ a cap, u = .slice a l.length cap ∧ (l = [] ∨ ∃ b vs, a = some b ∧ RelF T E (T.cells e) l vs ∧ ∀ j v, vs[j]? = some v → E.w.cell? (b.add j) = some v) := by
  subst hst
  cases x with
  | lst e' l' =>
    simp only [srcOf, Option.some.injEq] at hl
    simp only [srcElem] at he
    subst hl; subst he
    simp only [Rel] at h
    obtain ⟨_, _, a, cap, h1, _, h2⟩ := h
    refine ⟨a, cap, h1, ?_⟩
    rcases h2 with h2 | ⟨b, off, rfl, h3, h4⟩
    · exact .inl h2
    · obtain ⟨vs, k1, k2⟩ := RelM.flat _ _ h4
      exact .inr ⟨_, vs, rfl, k1, fun j v hj => by rw [addr_add]; exact k2 j v hj⟩
  | nils =>
    simp only [srcOf, Option.some.injEq] at hl
    subst hl
    simp only [Rel] at h
    obtain ⟨a, h1⟩ := h
    exact ⟨a, 0, h1, .inl rfl⟩
  | own id g =>
    simp only [srcOf] at hl
    simp only [srcElem] at he
    cases hb : E.st[id]? with
    | none => simp [hb] at hl
    | some blk =>
      cases blk <;> simp [hb] at hl he
      rename_i e' g' al l'
      obtain ⟨rfl, rfl⟩ := hl
      subst he
      simp only [Rel] at h
      obtain ⟨k1, k2⟩ := (h.2 _ _ _ _ hb).2 rfl
      obtain ⟨m1, m2, m3⟩ := hi.blk id _ hb
      cases al with
      | true =>
        obtain ⟨cap, c, e1, e2, e3⟩ := k1 rfl
        obtain ⟨c', cap', q1, q2, q3, q4, q5⟩ := m3 rfl
        obtain ⟨vs, p1, p2⟩ := RelM.flat _ _ q5
        exact ⟨_, cap, e1, .inr ⟨_, vs, rfl, p1, fun j v hj => by rw [addr_add]; exact p2 j v hj⟩⟩
      | false =>
        obtain ⟨b, e1⟩ := k2 rfl
        rw [m2 rfl]
        exact ⟨b, 0, e1, .inl rfl⟩
  | _ => simp [srcOf] at hl
end
end Go.Ab
end

section
namespace Go.Ab
open Go.RowKit

def elemOk (T : Tab) (e : TypeId) : Prop :=
  match T e with
  | some i => (match i.zero with | some z => z.cells.size = i.cells ∧ 0 < i.cells ∧ 0 < i.bytes | none => False)
  | none => False

section
variable {T : Tab} {P : Program} (hT : TabOk T P) {E : Env} {n : Nat} {σ : Slots} {st : St} {a : Act}

theorem elemOk_spec {e : TypeId} (h : elemOk T e) : ∃ i z, T e = some i ∧ i.zero = some z ∧ z.cells.size = i.cells ∧ 0 < i.cells ∧ 0 < i.bytes ∧ T.cells e = i.cells ∧ T.bytes e = i.bytes := by
  unfold elemOk at h
  cases hi : T e with
  | none => simp [hi] at h
  | some i =>
    simp only [hi] at h
    cases hz : i.zero with
    | none => simp [hz] at h
    | some z => simp only [hz] at h; exact ⟨i, z, rfl, hz, h.1, h.2.1, h.2.2, by simp [Tab.cells, hi], by simp [Tab.bytes, hi]⟩

include hT in
theorem under_slice {t e : TypeId} (h : sliceElem T t = some e) : P.underlying t = some (.slice e) := by
  obtain ⟨i, h1, h2⟩ := sliceElem_spec h
  obtain ⟨j, d, k1, k2, k3, _⟩ := hT t i h1
  rw [h2] at k3
  cases d <;> simp [kindOf] at k3
  rw [k2, k3]

/-- An unallocated row gets a number. -/
theorem Env.adopt (hi : Inv T E) (e : TypeId) :
    Step E { E with st := E.st ++ [.row e 0 false []] } ∧ Inv T { E with st := E.st ++ [.row e 0 false []] } ∧
    ∀ u, (∃ b, u = Value.slice b 0 0) → Rel T { E with st := E.st ++ [.row e 0 false []] } (.own E.st.length 0) u := by
  have hget : ∀ i, i < E.st.length → (E.st ++ [Blk.row e 0 false []])[i]? = E.st[i]? := fun i h => List.getElem?_append_left h
  have hlast : (E.st ++ [Blk.row e 0 false []])[E.st.length]? = some (.row e 0 false []) := by simp
  have hlen : ∀ i bi, (E.st ++ [Blk.row e 0 false []])[i]? = some bi → i < E.st.length ∨ (i = E.st.length ∧ bi = .row e 0 false []) := by
    intro i bi h
    rcases Nat.lt_or_ge i E.st.length with h1 | h1
    · exact .inl h1
    · have h2 : i < (E.st ++ [Blk.row e 0 false []]).length := (List.getElem?_eq_some_iff.1 h).1
      simp at h2
      have : i = E.st.length := by omega
      subst this
      rw [hlast] at h; cases h
      exact .inr ⟨rfl, rfl⟩
  have hs : Step E { E with st := E.st ++ [.row e 0 false []] } := by
    refine ⟨rfl, rfl, rfl, Nat.le_refl _, by simp, rfl, fun _ _ _ => rfl, fun b hb => ⟨hb.1, ?_⟩, fun i hilt => ?_⟩
    · rintro (h1 | ⟨i, bi, h1, h2, h3⟩)
      · exact hb.2 (.inl h1)
      · dsimp only at h1 h3
        rcases hlen i bi h1 with h4 | ⟨h4, h5⟩
        · rw [hget i h4] at h1
          exact hb.2 (.inr ⟨i, bi, h1, h2, h3⟩)
        · subst h5; cases h2
    · have hr := (Step.refl E).compat i hilt
      unfold Compat at hr ⊢
      dsimp only at hr ⊢
      rw [hget i hilt]
      cases hE : E.st[i]? with
      | none => trivial
      | some bi => rw [hE] at hr; exact hr
  refine ⟨hs, ⟨?_, ?_, hi.Mlt, ?_⟩, ?_⟩
  · intro i j bi bj h1 h2 l1 l2 h3
    dsimp only at h1 h2 h3
    rcases hlen i bi h1 with h4 | ⟨h4, h5⟩
    · rcases hlen j bj h2 with h6 | ⟨h6, h7⟩
      · rw [hget i h4] at h1
        rw [hget j h6] at h2
        exact hi.inj i j _ _ h1 h2 l1 l2 h3
      · subst h7; cases l2
    · subst h5; cases l1
  · intro i bi h1 l1
    dsimp only at h1 ⊢
    rcases hlen i bi h1 with h4 | ⟨h4, h5⟩
    · rw [hget i h4] at h1; exact hi.lt i bi h1 l1
    · subst h5; cases l1
  · intro i bi h1
    dsimp only at h1
    rcases hlen i bi h1 with h4 | ⟨h4, h5⟩
    · rw [hget i h4] at h1
      exact RelB.step hs rfl rfl bi (hi.blk i bi h1)
    · subst h5
      exact ⟨by simp, fun _ => rfl, fun h => (by cases h)⟩
  · rintro u ⟨b, rfl⟩
    simp only [Rel]
    refine ⟨by simp, fun e' g' al l h1 => ?_⟩
    rw [hlast] at h1
    cases h1
    exact ⟨Nat.le_refl _, fun _ => ⟨fun h => (by cases h), fun _ => ⟨b, rfl⟩⟩⟩

theorem toArray_len (l : List Value) : l.toArray.size = l.length := by simp

include hT in
/-- append onto a row of one's own. -/
theorem append_core (hi : Inv T E) {t e : TypeId} {id g : Nat} {al : Bool} {l l' : List (List AV)} {y : AV} {u uy : Value} (ty : TypeId)
    (hu : Rel T E (.own id g) u) (hb : E.st[id]? = some (.row e g al l)) (hy : Rel T E y uy) (hsrc : srcOf E.st y = some l') (hse : srcElem E.st e y)
    (hte : sliceElem T t = some e) (hel : elemOk T e) (hbd : (l.length + l'.length) * T.bytes e ≤ 140737488355328) :
    ∃ v E', (Builtin.append_ #[t, t] ty #[u, uy]).run P E.w = .ok v E'.w ∧ Inv T E' ∧ Step E E' ∧ E'.st = E.st.set id (.row e (g + 1) (al || !l'.isEmpty) (l ++ l')) ∧ Rel T E' (.own id (g + 1)) v := by
  obtain ⟨i, z, hTe, hz, hzs, hc0, hb0, hce, hbe⟩ := elemOk_spec hel
  obtain ⟨j, d, hj, _, _, _, hjs, hjb, hjz⟩ := hT e i hTe
  have hund := under_slice hT hte
  have hidlt : id < E.st.length := (List.getElem?_eq_some_iff.1 hb).1
  simp only [Rel] at hu
  obtain ⟨_, hu⟩ := hu
  obtain ⟨hu1, hu2⟩ := (hu _ _ _ _ hb).2 rfl
  obtain ⟨hB1, hB2, hB3⟩ := hi.blk id _ hb
  obtain ⟨ay, capy, rfl, hsy⟩ := rel_src rfl hi hy hsrc hse
  have hlen63 : l.length + l'.length ≤ 140737488355328 := Nat.le_trans (Nat.le_mul_of_pos_right _ (by omega)) hbd
  have hmax : l.length + l'.length ≤ maxLen := by unfold maxLen; omega
  rw [hbe] at hbd
  rw [hce] at hB3 hu1
  rw [hce] at hsy
  have hgetid : ∀ b, (E.st.set id b)[id]? = some b := fun b => by rw [List.getElem?_set_self hidlt]
  -- the value, in the new environment
  have hval : ∀ (E' : Env) (cap : Nat) (c : Array Value), E'.st = E.st.set id (.row e (g + 1) true (l ++ l')) → E'.w.heap[E'.φ id]? = some (.cells c e (0, 0)) → c.size = cap * i.cells → l.length + l'.length ≤ cap →
      Rel T E' (.own id (g + 1)) (.slice (some ⟨E'.φ id, 0, none⟩) (l.length + l'.length) cap) := by
    intro E' cap c h1 h2 h3 h3b
    simp only [Rel]
    refine ⟨by rw [h1]; simpa using hidlt, fun e' g' al' l'' h4 => ?_⟩
    rw [h1, hgetid] at h4
    cases h4
    exact ⟨Nat.le_refl _, fun _ => ⟨fun _ => ⟨cap, c, by simp, h2, by rw [hce]; exact h3, by simpa using h3b⟩, fun h => (by cases h)⟩⟩
  have hcompat : ∀ (E' : Env) al', E'.st = E.st.set id (.row e (g + 1) al' (l ++ l')) → Compat E E' id := by
    intro E' al' h1
    unfold Compat
    rw [h1, hgetid]
    exact ⟨g, al, l, hb, Nat.le_succ _, fun h => by omega⟩
  -- a new block
  have grown : ∀ (w' : World) (cc : Array Value) (vs : List Value) (cap : Nat), w' = E.w.drew.alloc (.cells cc e) → RelF T E i.cells (l ++ l') vs → (∀ (jj : Nat) (v : Value), vs[jj]? = some v → cc[jj]? = some v) → cc.size = cap * i.cells → l.length + l'.length ≤ cap → cap ≤ maxLen →
      ∃ E', E'.w = w' ∧ Inv T E' ∧ Step E E' ∧ E'.st = E.st.set id (.row e (g + 1) true (l ++ l')) ∧ Rel T E' (.own id (g + 1)) (.slice (some ⟨E.w.heap.size, 0, none⟩) (l.length + l'.length) cap) := by
    intro w' cc vs cap hw hF hcc hsz hle hcm
    subst hw
    have hup := Env.upd (T := T) (b' := E.w.heap.size) (blk' := .row e (g + 1) true (l ++ l')) (w' := E.w.drew.alloc (.cells cc e)) hi hb rfl rfl rfl (by simp)
      (fun k hk _ => Below.heap_alloc E.w.drew _ _ hk) (.inr (.inl ⟨Nat.le_refl _, by simp⟩)) (hcompat _ true rfl)
    have hheap : (E.w.drew.alloc (.cells cc e)).heap[E.w.heap.size]? = some (.cells cc e (0, 0)) := heap_alloc_new E.w.drew _
    refine ⟨_, rfl, hup.2 ?_, hup.1, rfl, ?_⟩
    · refine ⟨by rw [List.length_append, hbe]; exact hbd, fun h => (by cases h), fun _ => ⟨cc, cap, ?_, by rw [hce]; exact hsz, by simpa using hle, hcm, ?_⟩⟩
      · dsimp only; rw [if_pos rfl]; exact hheap
      · dsimp only; rw [if_pos rfl, hce]
        refine RelM.of_flat (c := cc.toList) (fun jj v hjj => ?_) (l ++ l') vs 0 (RelF.step hup.1 _ _ hF) (fun jj hjj => ?_)
        · show World.cell? (E.w.drew.alloc (.cells cc e)) ⟨E.w.heap.size, jj, none⟩ = some v
          simp only [World.cell?, hheap]; simpa using hjj
        · rw [Nat.zero_add, List.getElem?_eq_getElem hjj]
          have := hcc jj _ (List.getElem?_eq_getElem hjj)
          simpa using this
    · have := hval ⟨E.w.drew.alloc (.cells cc e), E.st.set id (.row e (g + 1) true (l ++ l')), fun i => if i = id then E.w.heap.size else E.φ i, E.M⟩ cap cc rfl (by dsimp only; rw [if_pos rfl]; exact hheap) hsz hle
      dsimp only at this
      rw [if_pos rfl] at this
      exact this
  have noop : l' = [] → al = false → ∃ E', E'.w = E.w ∧ Inv T E' ∧ Step E E' ∧ E'.st = E.st.set id (.row e (g + 1) false []) ∧ ∀ b, Rel T E' (.own id (g + 1)) (.slice b 0 0) := by
    intro h1 h2
    subst h1; subst h2
    have hl := hB2 rfl
    subst hl
    have hup := Env.upd (T := T) (b' := E.φ id) (blk' := .row e (g + 1) false []) (w' := E.w) hi hb rfl rfl rfl (Nat.le_refl _)
      (fun k hk _ => rfl) (.inr (.inr rfl)) (hcompat _ false rfl)
    refine ⟨⟨E.w, E.st.set id (.row e (g + 1) false []), fun i => if i = id then E.φ id else E.φ i, E.M⟩, rfl, hup.2 ⟨by simp, fun _ => rfl, fun h => (by cases h)⟩, hup.1, rfl, fun b => ?_⟩
    simp only [Rel]
    refine ⟨by simpa using hidlt, fun e' g' al' l'' h4 => ?_⟩
    rw [hgetid] at h4
    cases h4
    exact ⟨Nat.le_refl _, fun _ => ⟨fun h => (by cases h), fun _ => ⟨b, rfl⟩⟩⟩
  have hzr : ∀ m, (Builtin.zeroCells z.cells m).size = m * i.cells := fun m => by rw [size_zeroCells, hzs]
  have hgc : ∀ need old, need ≤ 140737488355328 → need ≤ grownCap E.w need old e ∧ grownCap E.w need old e ≤ maxLen := fun need old h => ⟨grownCap_ge _ _ _ _, grownCap_le_maxLen _ _ _ _ (by unfold maxLen; omega)⟩
  have h48 : ∀ need, need * i.bytes ≤ 140737488355328 → need * i.bytes ≤ 281474976710656 := fun _ h => by omega
  by_cases hl' : l' = []
  · -- nothing is appended
    subst hl'
    have happ : (Builtin.append_ #[t, t] ty #[u, .slice ay 0 capy]).run P E.w = .ok u E.w := by
      have hf : ∀ w : World, (Builtin.firstCells i.cells 0 (.slice ay 0 capy)).run P w = .ok #[] w := fun w => by
        cases ay <;> simp [Builtin.firstCells, loadCells, loadCellsFrom]
      cases al with
      | true =>
        obtain ⟨cap, c, e1, e2, e3, e7⟩ := hu1 rfl
        obtain ⟨c2, cap2, q1, q2, q3, q4, q5⟩ := hB3 rfl
        rw [e2] at q1; cases q1
        have hcc : cap = cap2 := Nat.eq_of_mul_eq_mul_right hc0 (e3.symm.trans q2)
        subst e1
        have hle : l.length ≤ cap := by omega
        simp [Builtin.append_, run_underlying hund, sizeOf, typeInfo, hj, hjs, Builtin.lenOf, hle, hf, storeCells]
      | false =>
        obtain ⟨bb, e1⟩ := hu2 rfl
        subst e1
        cases bb <;> simp [Builtin.append_, run_underlying hund, sizeOf, typeInfo, hj, hjs, Builtin.lenOf, hf, storeCells]
    cases al with
    | true =>
      obtain ⟨cap, c, e1, e2, e3, e7⟩ := hu1 rfl
      obtain ⟨c2, cap2, q1, q2, q3, q4, q5⟩ := hB3 rfl
      rw [e2] at q1; cases q1
      have hup := Env.upd (T := T) (b' := E.φ id) (blk' := .row e (g + 1) true (l ++ [])) (w' := E.w) hi hb rfl rfl rfl (Nat.le_refl _)
        (fun k hk _ => rfl) (.inl ⟨rfl, rfl⟩) (hcompat _ true rfl)
      refine ⟨u, ⟨E.w, E.st.set id (.row e (g + 1) true (l ++ [])), fun i => if i = id then E.φ id else E.φ i, E.M⟩, happ, hup.2 ?_, hup.1, by simp, ?_⟩
      · refine ⟨by rw [List.append_nil, hbe]; simpa using hbd, fun h => (by cases h), fun _ => ⟨c, cap2, ?_, by rw [hce]; exact q2, by simpa using q3, q4, ?_⟩⟩
        · dsimp only; rw [if_pos rfl]; exact e2
        · dsimp only; rw [if_pos rfl, hce]
          have q6 : RelM T E (E.φ id) i.cells 0 (l ++ []) := by rw [List.append_nil]; exact q5
          exact RelM.step hup.1 _ _ (fun _ => rfl) _ _ q6
      · have := hval ⟨E.w, E.st.set id (.row e (g + 1) true (l ++ [])), fun i => if i = id then E.φ id else E.φ i, E.M⟩ cap c rfl (by dsimp only; rw [if_pos rfl]; exact e2) e3 (by simpa using e7)
        dsimp only at this
        rw [if_pos rfl] at this
        rw [e1]; simpa using this
    | false =>
      obtain ⟨E', k1, k2, k3, k4, k5⟩ := noop rfl rfl
      obtain ⟨bb, e1⟩ := hu2 rfl
      have hl := hB2 rfl
      subst hl
      refine ⟨u, E', by rw [k1]; exact happ, k2, k3, by simpa using k4, by rw [e1]; exact k5 bb⟩
  · obtain ⟨b, vs, rfl, hF, hcells⟩ := hsy.resolve_left hl'
    have hvl := RelF.len l' vs hF
    have hm0 : 0 < l'.length := List.length_pos_iff.2 hl'
    have hal : (al || !l'.isEmpty) = true := by cases l' <;> simp at hl' ⊢
    rw [hal]
    have hz' : j.zero = some z := hjz.trans hz
    cases al with
    | true =>
      obtain ⟨cap, c, rfl, e2, e3, e7⟩ := hu1 rfl
      obtain ⟨c2, cap2, q1, q2, q3, q4, q5⟩ := hB3 rfl
      rw [e2] at q1; cases q1
      have hcc : cap = cap2 := Nat.eq_of_mul_eq_mul_right hc0 (e3.symm.trans q2)
      subst hcc
      obtain ⟨vo, p1, p2⟩ := RelM.flat _ _ q5
      have hol := RelF.len l vo p1
      have hcur : ∀ (jj : Nat) (v : Value), vo[jj]? = some v → c[jj]? = some v := fun jj v h => by
        have := p2 jj v h
        simpa [World.cell?, e2] using this
      by_cases hroom : l.length + l'.length ≤ cap
      · have hfit : l.length * j.size + vs.length ≤ c.size := by rw [hjs, hvl, ← Nat.add_mul, e3]; exact Nat.mul_le_mul_right _ hroom
        have hrun := run_append_room (P := P) E.w t ty e j hund hj (E.φ id) l.length cap c e2 b l'.length capy vs (by rw [hjs]; exact hvl) hcells (RelF.one _ _ hF) hroom hfit
        rw [hjs] at hrun
        have hup := Env.upd (T := T) (b' := E.φ id) (blk' := .row e (g + 1) true (l ++ l')) (w' := E.w.setRow (E.φ id) (c.toList.take (l.length * i.cells) ++ vs ++ c.toList.drop (l.length * i.cells + vs.length)).toArray) hi hb rfl rfl rfl (by simp)
          (fun k hk h => setRow_other _ _ _ _ (h rfl)) (.inl ⟨rfl, rfl⟩) (hcompat _ true rfl)
        have hheap := setRow_heap E.w (E.φ id) c (c.toList.take (l.length * i.cells) ++ vs ++ c.toList.drop (l.length * i.cells + vs.length)).toArray e (0, 0) e2
        have hsz2 : (c.toList.take (l.length * i.cells) ++ vs ++ c.toList.drop (l.length * i.cells + vs.length)).toArray.size = cap * i.cells := by
          rw [hjs] at hfit
          simp only [List.size_toArray, List.length_append, List.length_take, List.length_drop, Array.length_toList]
          omega
        have htake : c.toList.take (l.length * i.cells) = vo := by
          apply List.ext_getElem?
          intro jj
          rw [List.getElem?_take]
          split
          · rename_i hlt
            rw [← hol] at hlt
            rw [List.getElem?_eq_getElem hlt]
            have := hcur jj _ (List.getElem?_eq_getElem hlt)
            simpa using this
          · rename_i hlt
            rw [List.getElem?_eq_none (by omega)]
        refine ⟨_, _, hrun, hup.2 ?_, hup.1, rfl, ?_⟩
        · refine ⟨by rw [List.length_append, hbe]; exact hbd, fun h => (by cases h), fun _ => ⟨_, cap, ?_, by rw [hce]; exact hsz2, by simpa using hroom, q4, ?_⟩⟩
          · dsimp only; rw [if_pos rfl]; exact hheap
          · dsimp only; rw [if_pos rfl, hce]
            refine RelM.of_flat (c := c.toList.take (l.length * i.cells) ++ vs ++ c.toList.drop (l.length * i.cells + vs.length)) (fun jj v hjj => ?_) (l ++ l') (vo ++ vs) 0 (RelF.step hup.1 _ _ (RelF.append _ _ p1 hF)) (fun jj hjj => ?_)
            · show World.cell? (E.w.setRow (E.φ id) _) ⟨E.φ id, jj, none⟩ = some v
              simp only [World.cell?, hheap]; simpa using hjj
            · rw [Nat.zero_add, htake, List.getElem?_append_left hjj]
        · have := hval ⟨E.w.setRow (E.φ id) (c.toList.take (l.length * i.cells) ++ vs ++ c.toList.drop (l.length * i.cells + vs.length)).toArray, E.st.set id (.row e (g + 1) true (l ++ l')), fun i => if i = id then E.φ id else E.φ i, E.M⟩ cap _ rfl (by dsimp only; rw [if_pos rfl]; exact hheap) hsz2 hroom
          dsimp only at this
          rw [if_pos rfl] at this
          exact this
      · have hrun := run_append_grow (P := P) E.w t ty e j z hund hj hz' ⟨E.φ id, 0, none⟩ l.length cap vo (by rw [hjs]; exact hol) (fun jj v h => by rw [addr_add]; exact p2 jj v h)
          b l'.length capy vs (by rw [hjs]; exact hvl) hcells (by omega) (by omega) (growslice_fits (by omega) (by rw [hjb]; exact hbd))
        obtain ⟨g1, g2⟩ := hgc (l.length + l'.length) cap hlen63
        obtain ⟨E', k1, k2, k3, k4, k5⟩ := grown _ (vo.toArray ++ vs.toArray ++ Builtin.zeroCells z.cells (grownCap E.w (l.length + l'.length) cap e - (l.length + l'.length))) (vo ++ vs) (grownCap E.w (l.length + l'.length) cap e) rfl
          (RelF.append _ _ p1 hF) (fun jj v h => by
            have hlt : jj < (vo ++ vs).length := (List.getElem?_eq_some_iff.1 h).1
            rw [← h, Array.getElem?_append_left (by simp at hlt ⊢; exact hlt)]; simp [List.getElem?_append])
          (by rw [Array.size_append, hzr]; simp only [Array.size_append, List.size_toArray, hol, hvl]; rw [← Nat.add_mul, ← Nat.add_mul]; congr 1; omega) g1 g2
        refine ⟨_, E', by rw [k1]; exact hrun, k2, k3, k4, k5⟩
    | false =>
      obtain ⟨bb, rfl⟩ := hu2 rfl
      have hl := hB2 rfl
      subst hl
      obtain ⟨g1, g2⟩ := hgc (0 + l'.length) 0 (by simpa using hlen63)
      simp only [List.length_nil, Nat.zero_add] at hbd hlen63 g1 g2
      have hfit : Builtin.nextslicecap l'.length 0 * j.bytes ≤ 281474976710656 := growslice_fits hm0 (by rw [hjb]; exact hbd)
      obtain ⟨E', k1, k2, k3, k4, k5⟩ := grown _ (vs.toArray ++ Builtin.zeroCells z.cells (grownCap E.w l'.length 0 e - l'.length)) vs (grownCap E.w l'.length 0 e) rfl
        (by simpa using hF) (fun jj v h => by
          have hlt : jj < vs.length := (List.getElem?_eq_some_iff.1 h).1
          rw [← h, Array.getElem?_append_left (by simpa using hlt)]; simp)
        (by rw [Array.size_append, hzr]; simp only [List.size_toArray, hvl]; rw [← Nat.add_mul]; congr 1; omega) (by simpa using g1) g2
      refine ⟨_, E', ?_, k2, k3, k4, k5⟩
      rw [k1]
      cases bb with
      | none =>
        have hrun := run_append_nil (P := P) E.w t ty e j z hund hj hz' b l'.length capy vs (by rw [hjs]; exact hvl) hcells hm0 (by omega) (by rw [hjb]; omega)
        simpa using hrun
      | some b0 =>
        have hrun := run_append_grow (P := P) E.w t ty e j z hund hj hz' b0 0 0 [] (by simp) (by simp)
          b l'.length capy vs (by rw [hjs]; exact hvl) hcells (by omega) (by omega) (by simpa using hfit)
        simpa using hrun
end
end Go.Ab
end

section
namespace Go.Ab
open Go.RowKit

def notTmp (d : Nat) : Operand → Prop
  | .tmp e => e ≠ d
  | _ => True
def zeroA (i : TyI) : List AV := match i.zero with | some z => z.cells.toList.map AV.ofConst | none => []
def zeroOk (i : TyI) : Prop := match i.zero with | some z => z.cells.toList.all (·.oneCell') = true | none => False
def splice (cs : List AV) (off : Nat) (ds : List AV) : List AV := cs.take off ++ ds ++ cs.drop (off + ds.length)

theorem relC_consts (T : Tab) (E : Env) : ∀ (vs : List Value), vs.all (·.oneCell') = true → RelC T E (vs.map AV.ofConst) vs
  | [], _ => by simp only [List.map_nil, RelC]
  | v :: vs, h => by
    simp only [List.all_cons, Bool.and_eq_true] at h
    simp only [List.map_cons, RelC]
    exact ⟨v, vs, rfl, rel_ofConst T E v, h.1, relC_consts T E vs h.2⟩

section
variable {T : Tab} {P : Program} (hT : TabOk T P) {E0 E : Env} {n : Nat} {σ : Slots} {st : St} {a : Act} {ops : Array Oper} {o : Oper} {k : Slots → St → Prop}

/-- An environment's new block. -/
theorem Env.new_cells (hi : Inv T E) {cs : List AV} {c : Array Value} {t : TypeId} (h : RelC T E cs c.toList) :
    ∃ E', E'.w = E.w.alloc (.cells c t) ∧ E'.st = E.st ++ [.cells cs] ∧ Step E E' ∧ Inv T E' ∧ Rel T E' (.ptr E.st.length 0) (.pointer (some ⟨E.w.heap.size, 0, none⟩)) := by
  have hn := Env.new hi (.cells c t) (.cells cs)
  refine ⟨_, rfl, rfl, hn.1, hn.2 ?_, ?_⟩
  · refine ⟨c, t, ?_, RelC.step hn.1 _ _ h⟩
    dsimp only; rw [if_pos rfl]; exact heap_alloc_new _ _
  · simp only [Rel]
    exact ⟨by simp, fun cs' _ => by simp⟩

include hT in
theorem AO.alloc {t : TypeId} {i : TyI} (ho : o.op = .alloc t) (hg : o.guard = none) (hd : dstOk n o.dst) (hi : T t = some i) (hz : zeroOk i)
    (hk : k (σ.put o.dst (.ptr st.length 0)) (st ++ [.cells (zeroA i)])) : AO T P E0 n ops o k σ st := by
  intro E a h1 h2 h3 h4 K Q hK
  rw [if_pos (by simp [Region.wanted, hg])]
  unfold zeroOk at hz
  unfold zeroA at hk
  cases hzz : i.zero with
  | none => simp [hzz] at hz
  | some z =>
    simp only [hzz] at hz hk
    obtain ⟨E', k1, k2, k3, k4, k5⟩ := Env.new_cells (t := t) (c := z.cells) h2 (relC_consts T E _ hz)
    unfold Oper.wp
    have hrun : (execOp a.eval o).run P E.w = .ok (.value (.pointer (some ⟨E.w.heap.size, 0, none⟩))) (E.w.alloc (.cells z.cells t)) := by
      unfold execOp; rw [ho]; dsimp only
      simp [Instr.alloc, run_zero hT hi hzz, newVar, newRow]
    rw [hrun, Oper.upon_value, ← k1]
    refine hK E' _ _ k4 (h3.trans k3) ((h4.step k3).put hd k5) ?_
    rw [k2, h1]; exact hk

theorem AO.boxMut {t : TypeId} {x : Operand} (ho : o.op = .box t x) (hg : o.guard = none) (hd : dstOk n o.dst) (hx : gok (ev σ x)) (hok : liesOk st (sv σ x))
    (hk : k (σ.put o.dst (.ptr st.length 0)) (st ++ [.cells (cellsOf (sv σ x))])) : AO T P E0 n ops o k σ st := by
  intro E a h1 h2 h3 h4 K Q hK
  rw [if_pos (by simp [Region.wanted, hg])]
  obtain ⟨E', k1, k2, k3, k4, k5⟩ := Env.new_cells (t := t) h2 (rel_cells' h1 hok (h4.sv hx))
  unfold Oper.wp
  have hrun : (execOp a.eval o).run P E.w = .ok (.value (.pointer (some ⟨E.w.heap.size, 0, none⟩))) (E.w.alloc (.cells (a.eval x).cells t)) := by
    unfold execOp; rw [ho]; rfl
  rw [hrun, Oper.upon_value, ← k1]
  refine hK E' _ _ k4 (h3.trans k3) ((h4.step k3).put hd k5) ?_
  rw [k2, h1]; exact hk

/-- The whole of a store. -/
theorem Env.store (hi : Inv T E) {id off : Nat} {cs ds : List AV} {us : List Value} (hb : E.st[id]? = some (.cells cs)) (hr : RelC T E ds us) (hle : off + ds.length ≤ cs.length) :
    ∃ E', (storeCells ⟨E.φ id, off, none⟩ us).run P E.w = .ok () E'.w ∧ E'.st = E.st.set id (.cells (splice cs off ds)) ∧ Step E E' ∧ Inv T E' := by
  have hidlt : id < E.st.length := (List.getElem?_eq_some_iff.1 hb).1
  obtain ⟨c, t, h1, h2⟩ := hi.blk id _ hb
  have hlc := RelC.len _ _ h2
  have hld := RelC.len _ _ hr
  have hrun := run_storeCells_at P (E.φ id) off t us 0 c E.w h1 (by rw [hld]; simp at hlc; omega) (RelC.one _ _ hr)
  simp only [Nat.add_zero] at hrun
  have hup := Env.upd (T := T) (b' := E.φ id) (blk' := .cells (splice cs off ds)) (w' := E.w.setRow (E.φ id) (c.toList.take off ++ us ++ c.toList.drop (off + us.length)).toArray) hi hb rfl rfl rfl (by simp)
    (fun kk hk h => setRow_other _ _ _ _ (h rfl)) (.inl ⟨rfl, rfl⟩) (by
      unfold Compat
      dsimp only
      rw [List.getElem?_set_self hidlt]
      exact ⟨⟨cs, hb⟩, if_pos rfl⟩)
  refine ⟨_, hrun, rfl, hup.1, hup.2 ⟨(c.toList.take off ++ us ++ c.toList.drop (off + us.length)).toArray, t, ?_, ?_⟩⟩
  · dsimp only; rw [if_pos rfl]; exact setRow_heap _ _ _ _ _ _ h1
  · refine RelC.step hup.1 _ _ ?_
    have : RelC T E (splice cs off ds) (c.toList.take off ++ us ++ c.toList.drop (off + us.length)) := by
      unfold splice
      rw [← hld]
      exact RelC.append _ _ (RelC.append _ _ (RelC.take _ _ h2 _) hr) (RelC.drop _ _ h2 _)
    simpa using this

theorem cells_size {ds : List AV} {u : Value} (h : RelC T E ds u.cells.toList) : u.cells.size = ds.length := by
  have := RelC.len _ _ h
  simpa using this

include hT in
theorem AO.store {t : TypeId} {x y : Operand} {id off : Nat} {cs : List AV} (ho : o.op = .store t x y) (hg : o.guard = none) (hd : o.dst = none) (hx : gok (ev σ x)) (hy : gok (ev σ y))
    (hxv : sv σ x = .ptr id off) (hb : st[id]? = some (.cells cs)) (hok : liesOk st (sv σ y)) (hTt : (T t).isSome = true) (hlen : (cellsOf (sv σ y)).length = T.cells t) (hle : off + T.cells t ≤ cs.length)
    (hk : k σ (st.set id (.cells (splice cs off (cellsOf (sv σ y)))))) : AO T P E0 n ops o k σ st := by
  intro E a h1 h2 h3 h4 K Q hK
  rw [if_pos (by simp [Region.wanted, hg])]
  have hr := rel_cells' h1 hok (h4.sv hy)
  have hp := h4.sv hx
  rw [hxv] at hp
  simp only [Rel] at hp
  have hb' : E.st[id]? = some (.cells cs) := by rw [h1]; exact hb
  obtain ⟨E', k1, k2, k3, k4⟩ := Env.store (P := P) h2 hb' hr (by rw [hlen]; exact hle)
  unfold Oper.wp
  have hrun : (execOp a.eval o).run P E.w = .ok .skip E'.w := by
    unfold execOp; rw [ho]; dsimp only
    rw [hp.2 _ hb']
    have hs : (a.eval y).cells.size = T.cells t := by rw [cells_size hr, hlen]
    simp [Instr.storeAt, Instr.sureAddr, storeVar, run_sizeOf' hT hTt, hs, k1]
  rw [hrun, Oper.upon_skip]
  refine hK E' σ _ k4 (h3.trans k3) ?_ (by rw [k2, h1]; exact hk)
  rw [hd]; exact h4.step k3

include hT in
theorem AO.append {c : Call} {t e : TypeId} {x y : Operand} {id g : Nat} {al : Bool} {l l' : List (List AV)} (ho : o.op = .call c) (hc : c.callee = .builtin .append) (ha : c.args = #[x, y]) (hat : c.argTypes = #[t, t])
    (hg : o.guard = none) (hd : dstOk n o.dst) (hx : gok (ev σ x)) (hy : gok (ev σ y)) (hxv : sv σ x = .own id g) (hb : st[id]? = some (.row e g al l)) (hsrc : srcOf st (sv σ y) = some l') (hse : srcElem st e (sv σ y))
    (hte : sliceElem T t = some e) (hel : elemOk T e) (hbd : (l.length + l'.length) * T.bytes e ≤ 140737488355328)
    (hk : k (σ.put o.dst (.own id (g + 1))) (st.set id (.row e (g + 1) (al || !l'.isEmpty) (l ++ l')))) : AO T P E0 n ops o k σ st := by
  intro E a h1 h2 h3 h4 K Q hK
  rw [if_pos (by simp [Region.wanted, hg])]
  subst h1
  have hu := h4.sv hx
  rw [hxv] at hu
  obtain ⟨v, E', k1, k2, k3, k4, k5⟩ := append_core hT h2 o.type hu hb (h4.sv hy) hsrc hse hte hel hbd
  unfold Oper.wp
  have hrun : (execOp a.eval o).run P E.w = .ok (.value v) E'.w := by
    unfold execOp; rw [ho]; dsimp only
    simp only [resolve, hc, Sem.run_bind, Sem.run_pure, Result.andThen_ok, invoke, builtin, ha, hat]
    simp [k1]
  rw [hrun, Oper.upon_value]
  exact hK E' _ _ k2 (h3.trans k3) ((h4.step k3).put hd k5) (by rw [k4]; exact hk)

theorem srcOf_app {st r : St} {x : AV} {l : List (List AV)} (h : srcOf st x = some l) : srcOf (st ++ r) x = some l := by
  cases x <;> simp only [srcOf] at h ⊢ <;> try exact h
  rename_i id g
  cases hb : st[id]? with
  | none => simp [hb] at h
  | some b => rw [hb] at h; rw [List.getElem?_append_left (List.getElem?_eq_some_iff.1 hb).1, hb]; exact h
theorem srcElem_app {st r : St} {e : TypeId} {x : AV} (h : srcElem st e x) : srcElem (st ++ r) e x := by
  cases x <;> simp only [srcElem] at h ⊢ <;> try exact h
  rename_i id g
  cases hb : st[id]? with
  | none => simp [hb] at h
  | some b => rw [hb] at h; rw [List.getElem?_append_left (List.getElem?_eq_some_iff.1 hb).1, hb]; exact h


include hT in
/-- append onto nil. -/
theorem AO.appendNil {c : Call} {t e : TypeId} {x y : Operand} {l' : List (List AV)} (ho : o.op = .call c) (hc : c.callee = .builtin .append) (ha : c.args = #[x, y]) (hat : c.argTypes = #[t, t])
    (hg : o.guard = none) (hd : dstOk n o.dst) (hx : gok (ev σ x)) (hy : gok (ev σ y)) (hxv : sv σ x = .nils) (hsrc : srcOf st (sv σ y) = some l') (hse : srcElem st e (sv σ y))
    (hte : sliceElem T t = some e) (hel : elemOk T e) (hbd : l'.length * T.bytes e ≤ 140737488355328)
    (hk : k (σ.put o.dst (.own st.length 1)) (st ++ [.row e 1 (!l'.isEmpty) l'])) : AO T P E0 n ops o k σ st := by
  intro E a h1 h2 h3 h4 K Q hK
  rw [if_pos (by simp [Region.wanted, hg])]
  subst h1
  have hu := h4.sv hx
  rw [hxv] at hu
  simp only [Rel] at hu
  obtain ⟨s1, s2, s3⟩ := Env.adopt h2 e
  have hyr := Rel.step s1 _ _ (h4.sv hy)
  have hb' : (E.st ++ [Blk.row e 0 false []])[E.st.length]? = some (.row e 0 false []) := by simp
  have hsrc := srcOf_app (r := [Blk.row e 0 false []]) hsrc
  have hse := srcElem_app (r := [Blk.row e 0 false []]) hse
  obtain ⟨v, E', k1, k2, k3, k4, k5⟩ := append_core (E := { E with st := E.st ++ [.row e 0 false []] }) (l' := l') hT s2 o.type (s3 _ hu) hb' hyr hsrc hse hte hel (by simpa using hbd)
  unfold Oper.wp
  have hrun : (execOp a.eval o).run P E.w = .ok (.value v) E'.w := by
    unfold execOp; rw [ho]; dsimp only
    simp only [resolve, hc, Sem.run_bind, Sem.run_pure, Result.andThen_ok, invoke, builtin, ha, hat]
    simp [k1]
  rw [hrun, Oper.upon_value]
  refine hK E' _ _ k2 ((h3.trans s1).trans k3) (((h4.step s1).step k3).put hd k5) ?_
  rw [k4]
  simpa using hk

include hT in
/-- A variable that is declared and stored into at once, and never again. -/
theorem AL.once {o2 : Oper} {os : List Oper} {t : TypeId} {d : Nat} {y : Operand} {i : TyI} (ho : o.op = .alloc t) (hg : o.guard = none) (hd : o.dst = some d) (hdn : d < n) (hi : T t = some i) (hzc : match i.zero with | some z => z.cells.size = i.cells | none => False)
    (ho2 : o2.op = .store t (.tmp d) y) (hg2 : o2.guard = none) (hd2 : o2.dst = none) (hyd : notTmp d y) (hy : gok (ev σ y)) (hok : liesOk st (sv σ y)) (hlen : (cellsOf (sv σ y)).length = i.cells)
    (hk : AL T P E0 n ops os k (σ.put (some d) (.eptr (cellsOf (sv σ y)))) st) : AL T P E0 n ops (o :: o2 :: os) k σ st := by
  intro E a h1 h2 h3 h4 Q hQ
  cases hz : i.zero with
  | none => simp [hz] at hzc
  | some z =>
    simp only [hz] at hzc
    have hr := rel_cells' h1 hok (h4.sv hy)
    have hsz := cells_size hr
    have hdl : d < a.tmps.size := Nat.lt_of_lt_of_le hdn h4.size
    refine wpList_step fun K hK => ?_
    rw [if_pos (by simp [Region.wanted, hg])]
    unfold Oper.wp
    have hrun : (execOp a.eval o).run P E.w = .ok (.value (.pointer (some ⟨E.w.heap.size, 0, none⟩))) (E.w.alloc (.cells z.cells t)) := by
      unfold execOp; rw [ho]; dsimp only
      simp [Instr.alloc, run_zero hT hi hz, newVar, newRow]
    rw [hrun, Oper.upon_value]
    refine hK _ _ (wpList_step fun K2 hK2 => ?_)
    rw [if_pos (by simp [Region.wanted, hg2])]
    unfold Oper.wp
    -- the operands behind the first one
    have hea : (a.put o.dst (.pointer (some ⟨E.w.heap.size, 0, none⟩))).eval (.tmp d) = .pointer (some ⟨E.w.heap.size, 0, none⟩) := by
      rw [hd]; simp [Act.eval, Act.put, hdl]
    have hey : (a.put o.dst (.pointer (some ⟨E.w.heap.size, 0, none⟩))).eval y = a.eval y := by
      rw [hd]
      exact Act.eval_put (dst := some d) fun d' hd' e => by
        cases hd'
        subst e
        exact hyd rfl
    have hst := run_storeCells_at P E.w.heap.size 0 t (a.eval y).cells.toList 0 z.cells (E.w.alloc (.cells z.cells t)) (heap_alloc_new _ _) (by
      have : (a.eval y).cells.toList.length = z.cells.size := by rw [hzc, ← hlen, ← hsz]; simp
      omega) (RelC.one _ _ hr)
    have hfull : (z.cells.toList.take (0 + 0) ++ (a.eval y).cells.toList ++ z.cells.toList.drop (0 + 0 + (a.eval y).cells.toList.length)).toArray = (a.eval y).cells := by
      have h5 : (a.eval y).cells.toList.length = z.cells.toList.length := by rw [Array.length_toList, Array.length_toList, hsz, hlen, hzc]
      rw [h5, List.drop_of_length_le (by simp)]
      simp
    rw [hfull] at hst
    have hw : (E.w.alloc (.cells z.cells t)).setRow E.w.heap.size (a.eval y).cells = E.w.alloc (.cells (a.eval y).cells t) := by
      unfold World.setRow World.alloc
      congr 1
      apply Array.ext_getElem?
      intro kk
      rw [Array.getElem?_modify]
      by_cases hkk : E.w.heap.size = kk
      · subst hkk; simp
      · have : kk ≠ E.w.heap.size := fun e => hkk e.symm
        simp [hkk, this, Array.getElem?_push]
    rw [hw] at hst
    have hrun2 : (execOp (a.put o.dst (.pointer (some ⟨E.w.heap.size, 0, none⟩))).eval o2).run P (E.w.alloc (.cells z.cells t)) = .ok .skip (E.w.alloc (.cells (a.eval y).cells t)) := by
      unfold execOp; rw [ho2]; dsimp only
      rw [hea, hey]
      have hs : (a.eval y).cells.size = i.cells := by rw [hsz, hlen]
      simp [Instr.storeAt, Instr.sureAddr, storeVar, run_sizeOf hT hi, hs, hst]
    rw [hrun2, Oper.upon_skip]
    refine hK2 _ _ ?_
    obtain ⟨s1, s2⟩ := Env.ext_below h2 (below_alloc E.w (.cells (a.eval y).cells t))
    obtain ⟨r1, r2⟩ := relX_new (t := t) h2 hr
    rw [hd2]
    refine hk { E with w := E.w.alloc (.cells (a.eval y).cells t) } _ h1 s2 (h3.trans s1) ?_ Q hQ
    rw [hd]
    refine (h4.step s1).put (d := some d) hdn ?_
    simp only [Rel]
    exact ⟨_, _, rfl, r1, r2⟩
end
end Go.Ab
end

section
namespace Go.Ab
open Go.RowKit

theorem fold_set (off : Nat) : ∀ (vs : List Value) (k : Nat) (c : Array Value), off + k + vs.length ≤ c.size →
    ((vs.zipIdx k).foldl (fun (cs : Array Value) (p : Value × Nat) => cs.setIfInBounds (off + p.2) p.1) c).toList = c.toList.take (off + k) ++ vs ++ c.toList.drop (off + k + vs.length)
  | [], k, c, _ => by simp
  | v :: vs, k, c, h => by
    simp only [List.zipIdx_cons, List.foldl_cons]
    simp only [List.length_cons] at h
    rw [fold_set off vs (k + 1) (c.setIfInBounds (off + k) v) (by simp; omega)]
    simp only [Array.toList_setIfInBounds, List.length_cons]
    have hlt : off + k < c.toList.length := by simp; omega
    rw [show off + (k + 1) = off + k + 1 by omega]
    rw [List.take_succ_eq_append_getElem (by simpa using hlt)]
    simp only [List.getElem_set_self, List.append_assoc, List.singleton_append]
    rw [List.take_set_of_le (by omega), List.drop_set_of_lt (by omega)]
    rw [show off + k + (vs.length + 1) = off + k + 1 + vs.length by omega]

section
variable {T : Tab} {P : Program} (hT : TabOk T P) {E : Env} {n : Nat} {σ : Slots} {st : St} {a : Act} (hs : RelS T E n σ a) (hst : E.st = st) (hi : Inv T E) {o : Oper}

/-- One part laid into the cells. -/
def putPart (place : Nat → Option (Nat × Nat)) (cs : List AV) (p : Nat × AV) : List AV :=
  match place p.1 with
  | some (off, _) => splice cs off (cellsOf p.2)
  | none => cs
def partOk (place : Nat → Option (Nat × Nat)) (st : St) (total : Nat) (p : Nat × AV) : Prop :=
  match place p.1 with
  | some (off, sz) => (cellsOf p.2).length = sz ∧ off + sz ≤ total ∧ liesOk st p.2
  | none => False

theorem splice_len {cs ds : List AV} {off : Nat} (h : off + ds.length ≤ cs.length) : (splice cs off ds).length = cs.length := by
  unfold splice; simp; omega

include hs hst in
theorem rel_fill (place : Nat → Option (Nat × Nat)) : ∀ (parts : List (Nat × Operand)) (cs : List AV) (c : Array Value), RelC T E cs c.toList →
    (∀ p ∈ parts, gok (ev σ p.2) ∧ partOk place st cs.length (p.1, sv σ p.2)) →
    ∃ c', Instr.fill place c (parts.map fun p => (p.1, a.eval p.2)) = some c' ∧ RelC T E ((parts.map fun p => (p.1, sv σ p.2)).foldl (putPart place) cs) c'.toList
  | [], cs, c, h, _ => ⟨c, rfl, h⟩
  | p :: ps, cs, c, h, hok => by
    obtain ⟨hg, hp⟩ := hok p (by simp)
    have hcl := RelC.len _ _ h
    simp only [Array.length_toList] at hcl
    unfold partOk at hp
    dsimp only at hp
    cases hpl : place p.1 with
    | none => simp [hpl] at hp
    | some q =>
      obtain ⟨off, sz⟩ := q
      simp only [hpl] at hp
      obtain ⟨h1, h2, h3⟩ := hp
      have hr := rel_cells' hst h3 (hs.sv hg)
      have hsz := cells_size hr
      have hsz' : (a.eval p.2).cells.toList.length = sz := by rw [Array.length_toList, hsz, h1]
      have hfold := fold_set off (a.eval p.2).cells.toList 0 c (by rw [hsz']; omega)
      have hrel : RelC T E (splice cs off (cellsOf (sv σ p.2))) ((a.eval p.2).cells.zipIdx.foldl (fun (cs : Array Value) (q : Value × Nat) => cs.setIfInBounds (off + q.2) q.1) c).toList := by
        rw [← Array.foldl_toList, Array.toList_zipIdx, hfold]
        unfold splice
        rw [h1, hsz', Nat.add_zero]
        exact RelC.append _ _ (RelC.append _ _ (RelC.take _ _ h _) hr) (RelC.drop _ _ h _)
      have hlen2 : (splice cs off (cellsOf (sv σ p.2))).length = cs.length := splice_len (by rw [h1]; exact h2)
      obtain ⟨c', k1, k2⟩ := rel_fill place ps _ _ hrel (fun q hq => by
        rw [hlen2]; exact hok q (by simp [hq]))
      refine ⟨c', ?_, ?_⟩
      · simp only [List.map_cons, Instr.fill, hpl]
        rw [if_neg (by rw [hsz, h1, hcl]; simp; omega)]
        exact k1
      · simp only [List.map_cons, List.foldl_cons]
        have : putPart place cs (p.1, sv σ p.2) = splice cs off (cellsOf (sv σ p.2)) := by simp [putPart, hpl]
        rw [this]; exact k2

/-- Where the parts of a struct or an array lie. -/
def placeT (T : Tab) (i : TyI) : Nat → Option (Nat × Nat) :=
  match i.kind with
  | .arr _ e => fun k => some (k * T.cells e, T.cells e)
  | _ => fun k => i.flds[k]?
def isBuilt (T : Tab) (i : TyI) : Prop := match i.kind with | .strct => i.flds.all (fun p => p.2 != 0) = true | .arr _ e => (T e).isSome = true | _ => False
def buildV (T : Tab) (t : TypeId) (ps : List (Nat × AV)) : AV :=
  match T t with
  | some i => .agg (ps.foldl (putPart (placeT T i)) (zeroA i))
  | none => .any
def allP {α : Type} (p : α → Prop) : List α → Prop
  | [] => True
  | x :: xs => p x ∧ allP p xs
theorem allP_spec {α : Type} {p : α → Prop} : ∀ {l : List α}, allP p l → ∀ x ∈ l, p x
  | _ :: _, h, x, hx => by
    rcases List.mem_cons.1 hx with rfl | hx
    · exact h.1
    · exact allP_spec h.2 x hx
def isStruct : TK → Bool
  | .strct => true
  | _ => false
def buildOk (T : Tab) (st : St) (t : TypeId) (ps : List (Nat × AV)) : Prop :=
  match T t with
  | some i => isBuilt T i ∧ zeroOk i ∧ allP (partOk (placeT T i) st (zeroA i).length) ps
  | none => False

theorem places_of {fs : List Field} (h : (fs.map fun f => (f.offset, cellsP P f.type)).all (fun p => p.2 != 0) = true) :
    fs.mapM (fun f => (P.info? f.type).map fun i => (f.offset, i.size)) = some (fs.map fun f => (f.offset, cellsP P f.type)) := by
  induction fs with
  | nil => rfl
  | cons f fs ih =>
    simp only [List.map_cons, List.all_cons, Bool.and_eq_true] at h
    have hf : ∃ i, P.info? f.type = some i ∧ i.size = cellsP P f.type := by
      unfold cellsP at h ⊢
      cases hi : P.info? f.type with
      | none => simp [hi] at h
      | some i => exact ⟨i, rfl, rfl⟩
    obtain ⟨i, h1, h2⟩ := hf
    simp [List.mapM_cons, h1, ih h.2, h2]

include hT hs hst in
theorem qr_build {t : TypeId} {parts : Array (Nat × Operand)} (ho : o.op = .build t parts) (hg : ∀ p ∈ parts.toList, gok (ev σ p.2)) (hok : buildOk T st t (parts.toList.map fun p => (p.1, sv σ p.2))) :
    QR T P E o a (buildV T t (parts.toList.map fun p => (p.1, sv σ p.2))) := by
  unfold buildOk at hok
  unfold buildV
  cases hTt : T t with
  | none => simp [hTt] at hok
  | some i =>
    simp only [hTt] at hok ⊢
    obtain ⟨hk, hz, hp⟩ := hok
    obtain ⟨j, d, hj, hu, hkd, hfd, _, _, hjz⟩ := hT t i hTt
    cases d with
    | array n e =>
      have hik : i.kind = .arr n e := by rw [← hkd]; rfl
      have hpl : placeT T i = fun k => some (k * T.cells e, T.cells e) := by unfold placeT; rw [hik]
      simp only [isBuilt, hik] at hk
      obtain ⟨ie, hie⟩ := Option.isSome_iff_exists.1 hk
      have hce : T.cells e = ie.cells := by unfold Tab.cells; rw [hie]
      have hz' := hz
      unfold zeroOk at hz'
      cases hzz : i.zero with
      | none => simp [hzz] at hz'
      | some z =>
        simp only [hzz] at hz'
        have hza : zeroA i = z.cells.toList.map AV.ofConst := by simp [zeroA, hzz]
        obtain ⟨c', k1, k2⟩ := rel_fill hs hst (placeT T i) parts.toList (zeroA i) z.cells (by rw [hza]; exact relC_consts T E _ hz') (fun p hpm => ⟨hg p hpm, allP_spec hp _ (List.mem_map.2 ⟨p, hpm, rfl⟩)⟩)
        rw [hpl, hce] at k1
        refine QR.same (u := .agg c') ?_ ?_
        · unfold execOp; rw [ho]; dsimp only
          have e1 := run_zero hT hTt hzz E.w
          have e2 := run_sizeOf hT hie E.w
          simp only [Instr.build, Sem.run_bind, e1, Result.andThen_ok, run_underlying hu, e2, Array.toList_map, k1, Sem.run_pure]
        · simp only [Rel]
          exact ⟨c'.toList, by simp, k2⟩
    | struct fields =>
      have hik : i.kind = .strct := by rw [← hkd]; rfl
      have hplt : placeT T i = (i.flds[·]?) := by unfold placeT; rw [hik]
      simp only [isBuilt, hik] at hk
      have hfl := hk
      rw [hplt] at hp ⊢
      simp only [fldsOf] at hfd
      have hz' := hz
      unfold zeroOk at hz'
      cases hzz : i.zero with
      | none => simp [hzz] at hz'
      | some z =>
        simp only [hzz] at hz'
        have hza : zeroA i = z.cells.toList.map AV.ofConst := by simp [zeroA, hzz]
        obtain ⟨c', k1, k2⟩ := rel_fill hs hst (i.flds[·]?) parts.toList (zeroA i) z.cells (by rw [hza]; exact relC_consts T E _ hz') (fun p hpm => ⟨hg p hpm, allP_spec hp _ (List.mem_map.2 ⟨p, hpm, rfl⟩)⟩)
        have hpl := places_of (P := P) (fs := fields.toList) (by rw [hfd]; exact hfl)
        rw [hfd] at hpl
        have hb : P.built t (parts.toList.map fun p => (p.1, a.eval p.2)) = some c' := by
          unfold Program.built
          simp only [hj, hu, hjz, hzz, hpl]
          simpa using k1
        have hrun := run_build (P := P) E.w t (parts.map fun (p : Nat × Operand) => (p.1, a.eval p.2)) c' (by simpa using hb)
        refine QR.same (u := .agg c') ?_ ?_
        · unfold execOp; rw [ho]; dsimp only
          rw [Sem.run_bind, hrun]; rfl
        · simp only [Rel]
          exact ⟨c'.toList, by simp, k2⟩
    | _ => unfold isBuilt at hk; rw [← hkd] at hk; simp [kindOf] at hk
end
end Go.Ab
end

section
namespace Go.Ab
open Go.RowKit

section
variable {T : Tab} {P : Program} (hT : TabOk T P) {E : Env} {n : Nat} {σ : Slots} {st : St} {a : Act} (hs : RelS T E n σ a) (hst : E.st = st) (hi : Inv T E) {o : Oper}

/-- Parts one behind the other. -/
theorem fold_seq (k : Nat) : ∀ (xs : List AV) (j : Nat) (cs : List AV), (∀ x ∈ xs, (cellsOf x).length = k) → (j + xs.length) * k = cs.length →
    ((xs.zipIdx j).map fun p => (p.2, p.1)).foldl (putPart (fun i => some (i * k, k))) cs = cs.take (j * k) ++ (xs.map cellsOf).flatten
  | [], j, cs, _, hl => by
    simp only [List.length_nil, Nat.add_zero] at hl
    simp only [List.zipIdx_nil, List.map_nil, List.foldl_nil, List.flatten_nil, List.append_nil]
    rw [hl, List.take_length]
  | x :: xs, j, cs, hk, hl => by
    have hx := hk x (by simp)
    simp only [List.length_cons] at hl
    have hjl : j * k + k ≤ cs.length := by
      rw [← hl, ← Nat.succ_mul]; exact Nat.mul_le_mul_right _ (by omega)
    simp only [List.zipIdx_cons, List.map_cons, List.foldl_cons, List.flatten_cons]
    have hp : putPart (fun i => some (i * k, k)) cs (j, x) = splice cs (j * k) (cellsOf x) := rfl
    rw [hp, fold_seq k xs (j + 1) _ (fun y hy => hk y (by simp [hy])) (by rw [splice_len (by omega), ← hl]; congr 1; omega)]
    unfold splice
    rw [Nat.succ_mul, List.append_assoc, List.take_append]
    rw [List.take_of_length_le (by simp; omega)]
    rw [List.take_append, List.take_of_length_le (l := cellsOf x) (by simp; omega)]
    have : (cs.take (j * k)).length = j * k := by simp; omega
    rw [this, hx]
    simp

theorem relF_of (k : Nat) : ∀ (xs : List AV) (vs : List Value), (∀ x ∈ xs, (cellsOf x).length = k) → RelC T E (xs.map cellsOf).flatten vs → RelF T E k (xs.map cellsOf) vs
  | [], vs, _, h => by simpa [RelF, RelC] using h
  | x :: xs, vs, hk, h => by
    simp only [List.map_cons, List.flatten_cons] at h
    simp only [List.map_cons, RelF]
    have hx := hk x (by simp)
    refine ⟨vs.take k, vs.drop k, (List.take_append_drop k vs).symm, hx, ?_, relF_of k xs _ (fun y hy => hk y (by simp [hy])) ?_⟩
    · have := RelC.take _ _ h k
      rwa [← hx, List.take_left, hx] at this
    · have := RelC.drop _ _ h k
      rwa [← hx, List.drop_left, hx] at this

theorem relC_any : ∀ (vs : List Value), (∀ v ∈ vs, v.oneCell' = true) → RelC T E (List.replicate vs.length .any) vs
  | [], _ => by simp [RelC]
  | v :: vs, h => by
    simp only [List.length_cons, List.replicate_succ, RelC]
    exact ⟨v, vs, rfl, by simp only [Rel], h v (by simp), relC_any vs fun u hu => h u (by simp [hu])⟩

def buildSliceV (e : TypeId) (xs : List AV) : AV := match xs with | [] => .nils | _ => .lst e (xs.map cellsOf)
def buildSliceOk (T : Tab) (st : St) (t : TypeId) (len : Nat) (idx : List Nat) (xs : List AV) : Prop :=
  match sliceElem T t with
  | some e => (match T e with
    | some i => zeroOk i ∧ 0 < i.cells ∧ (zeroA i).length = i.cells ∧ len * i.cells ≤ 16777216 ∧ len * i.bytes ≤ 140737488355328 ∧ idx = List.range len ∧ allP (fun x => (cellsOf x).length = i.cells ∧ liesOk st x) xs
    | none => False)
  | none => False

include hT hs hst hi in
theorem qr_buildSlice {t : TypeId} {len : Nat} {parts : Array (Nat × Operand)} (ho : o.op = .buildSlice t len parts) (hg : ∀ p ∈ parts.toList, gok (ev σ p.2))
    (hok : buildSliceOk T st t len (parts.toList.map (·.1)) (parts.toList.map fun p => sv σ p.2)) :
    QR T P E o a (buildSliceV ((sliceElem T t).getD 0) (parts.toList.map fun p => sv σ p.2)) := by
  unfold buildSliceOk at hok
  cases hse : sliceElem T t with
  | none => simp [hse] at hok
  | some e =>
    simp only [hse] at hok
    cases hTe : T e with
    | none => simp [hTe] at hok
    | some i =>
      simp only [hTe] at hok
      obtain ⟨hz, hc0, hzl, h24, h47, hidx, hall⟩ := hok
      have hz' := hz
      unfold zeroOk at hz'
      cases hzz : i.zero with
      | none => simp [hzz] at hz'
      | some z =>
        simp only [hzz] at hz'
        have hzs : z.cells.size = i.cells := by rw [← hzl]; simp [zeroA, hzz]
        have hpl : parts.toList.length = len := by have := congrArg List.length hidx; simpa using this
        generalize hxs : (parts.toList.map fun p => sv σ p.2) = xs at hall ⊢
        have hxl : xs.length = len := by rw [← hxs]; simpa using hpl
        have hk := allP_spec hall
        -- the cells ahead of the filling
        let init : Array Value := (Array.range (len * i.cells)).map fun j => (if len * i.cells = 0 then (#[] : Array Value) else z.cells)[j % (if len * i.cells = 0 then (#[] : Array Value) else z.cells).size]!
        have hinit : init.toList.length = len * i.cells := by simp [init]
        have hone : ∀ v ∈ init.toList, v.oneCell' = true := by
          intro v hv
          simp only [init, Array.toList_map, Array.toList_range, List.mem_map, List.mem_range] at hv
          obtain ⟨j, hj, rfl⟩ := hv
          have hne : len * i.cells ≠ 0 := by omega
          rw [if_neg hne]
          have hlt : j % z.cells.size < z.cells.size := Nat.mod_lt _ (by omega)
          rw [getElem!_pos z.cells _ hlt]
          exact List.all_eq_true.1 hz' _ (by simp)
        have hrel := relC_any (T := T) (E := E) init.toList hone
        rw [hinit] at hrel
        have hpairs : (parts.toList.map fun p => (p.1, sv σ p.2)) = (xs.zipIdx 0).map fun p => (p.2, p.1) := by
          apply List.ext_getElem?
          intro j
          rw [List.getElem?_map, List.getElem?_map, List.getElem?_zipIdx, ← hxs, List.getElem?_map]
          cases hj : parts.toList[j]? with
          | none => simp
          | some p =>
            have h1 : (parts.toList.map (·.1))[j]? = some p.1 := by rw [List.getElem?_map, hj]; rfl
            rw [hidx] at h1
            have h2 : j < len := by have := (List.getElem?_eq_some_iff.1 h1).1; simpa using this
            rw [List.getElem?_range h2] at h1
            simp at h1
            simp [h1]
        obtain ⟨c', k1, k2⟩ := rel_fill hs hst (fun ii => some (ii * i.cells, i.cells)) parts.toList _ init hrel (fun p hp => ⟨hg p hp, by
          have hm : sv σ p.2 ∈ xs := by rw [← hxs]; exact List.mem_map.2 ⟨p, hp, rfl⟩
          obtain ⟨q1, q2⟩ := hk _ hm
          unfold partOk
          dsimp only
          refine ⟨q1, ?_, q2⟩
          have hp1 : p.1 < len := by
            have : p.1 ∈ parts.toList.map (·.1) := List.mem_map.2 ⟨p, hp, rfl⟩
            rw [hidx] at this; simpa using this
          simp only [List.length_replicate]
          rw [← Nat.succ_mul]; exact Nat.mul_le_mul_right _ hp1⟩)
        rw [hpairs, fold_seq i.cells xs 0 _ (fun x hx => (hk x hx).1) (by simp [hxl])] at k2
        simp only [Nat.zero_mul, List.take_zero, List.nil_append] at k2
        have hF := relF_of i.cells xs _ (fun x hx => (hk x hx).1) k2
        have hsz := run_sizeOf hT hTe
        refine .inl ⟨.slice (some ⟨E.w.heap.size, 0, none⟩) len len, E.w.alloc (.cells c' e), ?_, below_alloc _ _, ?_⟩
        · unfold execOp; rw [ho]; dsimp only
          have hgt : ¬ len * i.cells > 2 ^ 24 := by omega
          have hfill : Instr.fill (fun ii => some (ii * i.cells, i.cells)) init (parts.map fun (p : Nat × Operand) => (p.1, a.eval p.2)).toList = some c' := by simpa using k1
          by_cases hzero : len * i.cells = 0
          · have hfill' : Instr.fill (fun ii => some (ii * i.cells, i.cells)) ((Array.range (len * i.cells)).map fun j => (#[] : Array Value)[j % (#[] : Array Value).size]!) (parts.map fun (p : Nat × Operand) => (p.1, a.eval p.2)).toList = some c' := by
              simpa only [init, if_pos hzero] using hfill
            simp only [Instr.buildSlice, Sem.run_bind, run_under_slice hT hse, Result.andThen_ok, hsz, if_neg hgt, if_pos hzero, Sem.run_pure]
            rw [hfill']
            simp [newRow]
          · have hfill' : Instr.fill (fun ii => some (ii * i.cells, i.cells)) ((Array.range (len * i.cells)).map fun j => z.cells[j % z.cells.size]!) (parts.map fun (p : Nat × Operand) => (p.1, a.eval p.2)).toList = some c' := by
              simpa only [init, if_neg hzero] using hfill
            simp only [Instr.buildSlice, Sem.run_bind, run_under_slice hT hse, Result.andThen_ok, hsz, if_neg hgt, if_neg hzero, Sem.run_pure, run_zero hT hTe hzz]
            rw [hfill']
            simp [newRow]
        · cases xs with
          | nil =>
            simp only [List.length_nil] at hxl
            subst hxl
            simp only [buildSliceV, Rel]
            exact ⟨_, rfl⟩
          | cons x xs =>
            simp only [buildSliceV, Option.getD_some, Rel]
            have hx := Env.ext hi (w' := E.w.alloc (.cells c' e)) rfl rfl rfl (by simp) (fun kk hkk => Below.heap_alloc _ _ _ hkk)
            refine ⟨by simp only [List.length_map, Tab.bytes, hTe]; rw [hxl]; exact h47, by simp only [List.length_map]; unfold maxLen; rw [hxl]; have := Nat.le_trans (Nat.le_mul_of_pos_right len hc0) h24; omega, _, len, by rw [List.length_map, hxl], Nat.le_of_eq (by rw [List.length_map, hxl]), .inr ⟨_, _, rfl, ?_, ?_⟩⟩
            · refine ⟨by simp, fun hm => ?_⟩
              rcases hm with hm | ⟨id, blk, q1, q2, q3⟩
              · have := hi.Mlt _ hm; omega
              · have := (hi.lt id blk q1 q2).1; dsimp only at q3; omega
            · have hce : T.cells e = i.cells := by simp [Tab.cells, hTe]
              rw [hce]
              refine RelM.of_flat (c := c'.toList) (fun jj v hjj => ?_) _ c'.toList 0 (RelF.step hx.1 _ _ hF) (fun jj _ => by simp)
              show (E.w.alloc (.cells c' e)).cell? ⟨E.w.heap.size, jj, none⟩ = some v
              rw [World.cell?_alloc_new]; simpa using hjj
include hT hs hst hi in
theorem run_buildSlice {t : TypeId} {len : Nat} {parts : Array (Nat × Operand)} (ho : o.op = .buildSlice t len parts) (hg : ∀ p ∈ parts.toList, gok (ev σ p.2))
    (hok : buildSliceOk T st t len (parts.toList.map (·.1)) (parts.toList.map fun p => sv σ p.2)) :
    ∃ e i c', sliceElem T t = some e ∧ T e = some i ∧ 0 < i.cells ∧ len * i.cells ≤ 16777216 ∧ len * i.bytes ≤ 140737488355328 ∧ parts.toList.length = len ∧ (execOp a.eval o).run P E.w = .ok (.value (.slice (some ⟨E.w.heap.size, 0, none⟩) len len)) (E.w.alloc (.cells c' e)) ∧
      RelF T E i.cells ((parts.toList.map fun p => sv σ p.2).map cellsOf) c'.toList ∧ c'.size = len * i.cells := by
  unfold buildSliceOk at hok
  cases hse : sliceElem T t with
  | none => simp [hse] at hok
  | some e =>
    simp only [hse] at hok
    cases hTe : T e with
    | none => simp [hTe] at hok
    | some i =>
      simp only [hTe] at hok
      obtain ⟨hz, hc0, hzl, h24, h47, hidx, hall⟩ := hok
      have hz' := hz
      unfold zeroOk at hz'
      cases hzz : i.zero with
      | none => simp [hzz] at hz'
      | some z =>
        simp only [hzz] at hz'
        have hzs : z.cells.size = i.cells := by rw [← hzl]; simp [zeroA, hzz]
        have hpl : parts.toList.length = len := by have := congrArg List.length hidx; simpa using this
        generalize hxs : (parts.toList.map fun p => sv σ p.2) = xs at hall ⊢
        have hxl : xs.length = len := by rw [← hxs]; simpa using hpl
        have hk := allP_spec hall
        -- the cells ahead of the filling
        let init : Array Value := (Array.range (len * i.cells)).map fun j => (if len * i.cells = 0 then (#[] : Array Value) else z.cells)[j % (if len * i.cells = 0 then (#[] : Array Value) else z.cells).size]!
        have hinit : init.toList.length = len * i.cells := by simp [init]
        have hone : ∀ v ∈ init.toList, v.oneCell' = true := by
          intro v hv
          simp only [init, Array.toList_map, Array.toList_range, List.mem_map, List.mem_range] at hv
          obtain ⟨j, hj, rfl⟩ := hv
          have hne : len * i.cells ≠ 0 := by omega
          rw [if_neg hne]
          have hlt : j % z.cells.size < z.cells.size := Nat.mod_lt _ (by omega)
          rw [getElem!_pos z.cells _ hlt]
          exact List.all_eq_true.1 hz' _ (by simp)
        have hrel := relC_any (T := T) (E := E) init.toList hone
        rw [hinit] at hrel
        have hpairs : (parts.toList.map fun p => (p.1, sv σ p.2)) = (xs.zipIdx 0).map fun p => (p.2, p.1) := by
          apply List.ext_getElem?
          intro j
          rw [List.getElem?_map, List.getElem?_map, List.getElem?_zipIdx, ← hxs, List.getElem?_map]
          cases hj : parts.toList[j]? with
          | none => simp
          | some p =>
            have h1 : (parts.toList.map (·.1))[j]? = some p.1 := by rw [List.getElem?_map, hj]; rfl
            rw [hidx] at h1
            have h2 : j < len := by have := (List.getElem?_eq_some_iff.1 h1).1; simpa using this
            rw [List.getElem?_range h2] at h1
            simp at h1
            simp [h1]
        obtain ⟨c', k1, k2⟩ := rel_fill hs hst (fun ii => some (ii * i.cells, i.cells)) parts.toList _ init hrel (fun p hp => ⟨hg p hp, by
          have hm : sv σ p.2 ∈ xs := by rw [← hxs]; exact List.mem_map.2 ⟨p, hp, rfl⟩
          obtain ⟨q1, q2⟩ := hk _ hm
          unfold partOk
          dsimp only
          refine ⟨q1, ?_, q2⟩
          have hp1 : p.1 < len := by
            have : p.1 ∈ parts.toList.map (·.1) := List.mem_map.2 ⟨p, hp, rfl⟩
            rw [hidx] at this; simpa using this
          simp only [List.length_replicate]
          rw [← Nat.succ_mul]; exact Nat.mul_le_mul_right _ hp1⟩)
        rw [hpairs, fold_seq i.cells xs 0 _ (fun x hx => (hk x hx).1) (by simp [hxl])] at k2
        simp only [Nat.zero_mul, List.take_zero, List.nil_append] at k2
        have hF := relF_of i.cells xs _ (fun x hx => (hk x hx).1) k2
        have hsz := run_sizeOf hT hTe
        have hcs : c'.size = len * i.cells := by
          have h8 := RelC.len _ _ k2
          have h9 : ∀ ys : List AV, (∀ y ∈ ys, (cellsOf y).length = i.cells) → (ys.map cellsOf).flatten.length = ys.length * i.cells := by
            intro ys
            induction ys with
            | nil => intro _; simp
            | cons y ys ih =>
              intro hy
              simp only [List.map_cons, List.flatten_cons, List.length_append, List.length_cons]
              rw [ih fun z hz => hy z (by simp [hz]), hy y (by simp), Nat.succ_mul, Nat.add_comm]
          rw [h9 xs (fun x hx => (hk x hx).1), hxl] at h8
          simpa using h8
        refine ⟨e, i, c', rfl, hTe, hc0, h24, h47, hpl, ?_, hF, hcs⟩
        · unfold execOp; rw [ho]; dsimp only
          have hgt : ¬ len * i.cells > 2 ^ 24 := by omega
          have hfill : Instr.fill (fun ii => some (ii * i.cells, i.cells)) init (parts.map fun (p : Nat × Operand) => (p.1, a.eval p.2)).toList = some c' := by simpa using k1
          by_cases hzero : len * i.cells = 0
          · have hfill' : Instr.fill (fun ii => some (ii * i.cells, i.cells)) ((Array.range (len * i.cells)).map fun j => (#[] : Array Value)[j % (#[] : Array Value).size]!) (parts.map fun (p : Nat × Operand) => (p.1, a.eval p.2)).toList = some c' := by
              simpa only [init, if_pos hzero] using hfill
            simp only [Instr.buildSlice, Sem.run_bind, run_under_slice hT hse, Result.andThen_ok, hsz, if_neg hgt, if_pos hzero, Sem.run_pure]
            rw [hfill']
            simp [newRow]
          · have hfill' : Instr.fill (fun ii => some (ii * i.cells, i.cells)) ((Array.range (len * i.cells)).map fun j => z.cells[j % z.cells.size]!) (parts.map fun (p : Nat × Operand) => (p.1, a.eval p.2)).toList = some c' := by
              simpa only [init, if_neg hzero] using hfill
            simp only [Instr.buildSlice, Sem.run_bind, run_under_slice hT hse, Result.andThen_ok, hsz, if_neg hgt, if_neg hzero, Sem.run_pure, run_zero hT hTe hzz]
            rw [hfill']
            simp [newRow]
end
end Go.Ab
end

section
namespace Go.Ab
open Go.RowKit

def isK (k : Int) : Value → Bool
  | .int .i64 z => decide (z = k)
  | _ => false
def intKeys (es : List (Value × AV)) : Bool := es.all fun p => match p.1 with | .int .i64 _ => true | _ => false
def mget : List (Value × AV) → Int → Option AV
  | [], _ => none
  | p :: r, k => if isK k p.1 then some p.2 else mget r k
def mput : List (Value × AV) → Int → AV → List (Value × AV)
  | [], k, v => [(.int .i64 k, v)]
  | p :: r, k, v => if isK k p.1 then (p.1, v) :: r else p :: mput r k v
def mdel : List (Value × AV) → Int → List (Value × AV)
  | [], _ => []
  | p :: r, k => if isK k p.1 then r else p :: mdel r k

def isI64 : TK → Bool
  | .int .i64 => true
  | _ => false
/-- The type's key, element. -/
def mapElem (T : Tab) (t : TypeId) : Option (TypeId × TypeId) := match T t with | some i => (match i.kind with | .map k e => some (k, e) | _ => none) | none => none
def zeroV (T : Tab) (t : TypeId) : AV := match T t with | some i => mk i (zeroA' i) | none => .any
where zeroA' (i : TyI) : List AV := match i.zero with | some z => (if aggD i.kind then z.cells.toList.map AV.ofConst else [AV.ofConst z]) | none => []

/-! Keys of two numbers. -/
def isKP (a b : Int) : Value → Bool
  | .agg ⟨[.int .i64 x, .int .i64 y]⟩ => decide (x = a) && decide (y = b)
  | _ => false
def isPK : Value → Bool
  | .agg ⟨[.int .i64 _, .int .i64 _]⟩ => true
  | _ => false
def pairKeys (es : List (Value × AV)) : Bool := es.all fun p => isPK p.1
def mgetP : List (Value × AV) → Int → Int → Option AV
  | [], _, _ => none
  | p :: r, a, b => if isKP a b p.1 then some p.2 else mgetP r a b
def mputP : List (Value × AV) → Int → Int → AV → List (Value × AV)
  | [], a, b, v => [(.agg #[.int .i64 a, .int .i64 b], v)]
  | p :: r, a, b, v => if isKP a b p.1 then (p.1, v) :: r else p :: mputP r a b v
/-- Is it an array of two numbers? -/
def pairT (T : Tab) (kt : TypeId) : Prop :=
  match T kt with
  | some i => (match i.kind with | .arr n e => n = 2 ∧ (match T e with | some j => isI64 j.kind = true ∧ j.cells = 1 | none => False) | _ => False)
  | none => False
theorem isPK_spec {v : Value} (h : isPK v = true) : ∃ x y, v = .agg #[.int .i64 x, .int .i64 y] := by
  unfold isPK at h
  split at h
  · exact ⟨_, _, rfl⟩
  · cases h
theorem isK_spec {k : Int} {v : Value} (h : isK k v = true) : v = .int .i64 k := by
  cases v <;> simp only [isK] at h <;> try cases h
  rename_i kd z
  cases kd <;> simp only [decide_eq_true_eq] at h <;> first | rw [h] | cases h

section
variable {T : Tab} {P : Program} (hT : TabOk T P) {E : Env} {n : Nat} {σ : Slots} {st : St} {a : Act} (hs : RelS T E n σ a) (hst : E.st = st) (hi : Inv T E) {o : Oper}

theorem findNow_abs (k : Int) : ∀ (mes : List MapEntry) (es : List (Value × AV)) (i : Nat), mes.map (·.key) = es.map (·.1) → intKeys es = true →
    (Instr.findNow (.int .i64) (.int .i64 k) mes i = some none ∧ mget es k = none ∧ (∀ v, mput es k v = es ++ [(.int .i64 k, v)]) ∧ mdel es k = es) ∨
    ∃ j e v, Instr.findNow (.int .i64) (.int .i64 k) mes i = some (some (i + j, e.val)) ∧ mes[j]? = some e ∧ e.key = .int .i64 k ∧ es[j]? = some (.int .i64 k, v) ∧ mget es k = some v ∧
      (∀ x, mput es k x = es.set j (.int .i64 k, x)) ∧ mdel es k = es.eraseIdx j
  | [], [], i, _, _ => .inl ⟨rfl, rfl, fun _ => rfl, rfl⟩
  | [], _ :: _, i, h, _ => by simp at h
  | _ :: _, [], i, h, _ => by simp at h
  | m :: mes, p :: es, i, h, hk => by
    simp only [List.map_cons, List.cons.injEq] at h
    simp only [intKeys, List.all_cons, Bool.and_eq_true] at hk
    obtain ⟨p1, p2⟩ := p
    dsimp only at h hk
    cases p1 <;> try (cases hk.1; done)
    rename_i kd z
    cases kd <;> try (cases hk.1; done)
    have hkey : m.key = .int .i64 z := h.1
    by_cases hz : z = k
    · subst hz
      refine .inr ⟨0, m, p2, by simp [Instr.findNow, Instr.sameNow, hkey], rfl, hkey, rfl, by simp [mget, isK], fun x => by simp [mput, isK], by simp [mdel, isK]⟩
    · have hne : (k == z) = false := beq_eq_false_iff_ne.2 fun e => hz e.symm
      rcases findNow_abs k mes es (i + 1) h.2 hk.2 with ⟨h1, h2, h3, h4⟩ | ⟨j, e, v, h1, h2, h3, h4, h5, h6, h7⟩
      · exact .inl ⟨by simp [Instr.findNow, Instr.sameNow, hkey, hne, h1], by simp [mget, isK, hz, h2], fun v => by simp [mput, isK, hz, h3], by simp [mdel, isK, hz, h4]⟩
      · refine .inr ⟨j + 1, e, v, by simp [Instr.findNow, Instr.sameNow, hkey, hne, h1]; omega, by simpa using h2, h3, by simpa using h4, by simp [mget, isK, hz, h5], fun x => by simp [mput, isK, hz, h6], by simp [mdel, isK, hz, h7]⟩

def lookupV (T : Tab) (st : St) (t : TypeId) (x ix : AV) (ok : Bool) : AV :=
  match x, ix with
  | .mp id, .sc (.int .i64 k) =>
    (match st[id]? with
    | some (.map es) =>
      (match mapElem T t with
      | some (_, e) =>
        (match mget es k with
        | some v => if ok then .tup [v, .sc (.bool true)] else v
        | none => if ok then .tup [zeroV T e, .sc (.bool false)] else zeroV T e)
      | none => .any)
    | _ => .any)
  | .mp id, .agg [.sc (.int .i64 a), .sc (.int .i64 b)] =>
    (match st[id]? with
    | some (.map es) =>
      (match mapElem T t with
      | some (_, e) =>
        (match mgetP es a b with
        | some v => if ok then .tup [v, .sc (.bool true)] else v
        | none => if ok then .tup [zeroV T e, .sc (.bool false)] else zeroV T e)
      | none => .any)
    | _ => .any)
  | _, _ => .any
def lookupOk (T : Tab) (st : St) (t : TypeId) (x ix : AV) : Prop :=
  match x, ix with
  | .mp id, .sc (.int .i64 _) =>
    (match st[id]? with
    | some (.map es) =>
      (match mapElem T t with
      | some (kt, e) => intKeys es = true ∧ descIs T kt isI64 ∧ (match T e with | some i => (match i.zero with | some z => z.cells.size = i.cells ∧ (aggD i.kind = true → ∃ cs, z = .agg cs) ∧ z.cells.toList.all (·.oneCell') = true | none => False) | none => False)
      | none => False)
    | _ => False)
  | .mp id, .agg [.sc (.int .i64 _), .sc (.int .i64 _)] =>
    (match st[id]? with
    | some (.map es) =>
      (match mapElem T t with
      | some (kt, e) => pairKeys es = true ∧ pairT T kt ∧ (match T e with | some i => (match i.zero with | some z => z.cells.size = i.cells ∧ (aggD i.kind = true → ∃ cs, z = .agg cs) ∧ z.cells.toList.all (·.oneCell') = true | none => False) | none => False)
      | none => False)
    | _ => False)
  | _, _ => False

theorem mapElem_spec (hT : TabOk T P) {t kt e : TypeId} (h : mapElem T t = some (kt, e)) : P.underlying t = some (.map kt e) := by
  unfold mapElem at h
  cases hTt : T t with
  | none => simp [hTt] at h
  | some i =>
    simp only [hTt] at h
    obtain ⟨j, d, h1, h2, h3, _⟩ := hT t i hTt
    rw [← h3] at h
    cases d <;> simp [kindOf] at h
    rw [h2, h.1, h.2]
theorem i64_spec (hT : TabOk T P) {kt : TypeId} (h : descIs T kt isI64) : P.underlying kt = some (.int .i64) := by
  obtain ⟨i, hi1, hi2⟩ := desc_of h
  obtain ⟨j, d, h1, h2, h3, h4⟩ := hT kt i hi1
  rw [← h3] at hi2
  have key : ∀ d : TypeDesc, isI64 (kindOf d) = true → d = .int .i64 := by
    intro d hd
    cases d with
    | int kd => cases kd <;> first | rfl | exact absurd hd (by decide)
    | _ => exact absurd hd (by simp [kindOf, isI64])
  rw [h2, key d hi2]

theorem pair_spec (hT : TabOk T P) {kt : TypeId} (h : pairT T kt) : ∃ e i, P.underlying kt = some (.array 2 e) ∧ P.underlying e = some (.int .i64) ∧ P.info? e = some i ∧ i.size = 1 := by
  unfold pairT at h
  cases hTt : T kt with
  | none => simp [hTt] at h
  | some i =>
    simp only [hTt] at h
    obtain ⟨j, d, h1, h2, h3, _⟩ := hT kt i hTt
    split at h
    · rename_i n e hk
      obtain ⟨rfl, h⟩ := h
      cases hTe : T e with
      | none => simp [hTe] at h
      | some k =>
        simp only [hTe] at h
        obtain ⟨j2, d2, g1, g2, g3, _, g4, _⟩ := hT e k hTe
        have hd : d = .array 2 e := by rw [← h3] at hk; cases d <;> simp [kindOf] at hk; rw [hk.1, hk.2]
        have hi : descIs T e isI64 := by unfold descIs; simp only [hTe]; exact h.1
        exact ⟨e, j2, by rw [h2, hd], i64_spec hT hi, g1, by rw [g4]; exact h.2⟩
    · exact h.elim
theorem run_part_int {e : TypeId} {i : TypeInfo} (hu : P.underlying e = some (.int .i64)) (hi : P.info? e = some i) (hs : i.size = 1) (w : World) (cs : Array Value) (j : Nat) {v : Value} (hv : cs[j]? = some v) : (part e cs j).run P w = .ok v w := by
  simp [part, isAgg, run_underlying hu, hv]
theorem run_eqP {kt e : TypeId} {i : TypeInfo} (hk : P.underlying kt = some (.array 2 e)) (hu : P.underlying e = some (.int .i64)) (hi : P.info? e = some i) (hs : i.size = 1) (w : World) (a b c d : Int) :
    (Op.equal kt (.agg #[.int .i64 a, .int .i64 b]) (.agg #[.int .i64 c, .int .i64 d])).run P w = .ok (decide (a = c) && decide (b = d)) w := by
  have key : ∀ n, (Op.equalIn (n + 2) kt (.agg #[.int .i64 a, .int .i64 b]) (.agg #[.int .i64 c, .int .i64 d])).run P w = .ok (decide (a = c) && decide (b = d)) w := by
    intro n
    have hc : P.cellsOf e = 1 := by simp [Program.cellsOf, hi, hs]
    have he : ∀ x y : Int, (Op.equalIn (n + 1) e (.int .i64 x) (.int .i64 y)).run P w = .ok (decide (x = y)) w := fun x y => by
      rw [Op.equalIn]; simp [run_underlying hu]; rfl
    rw [run_equalIn_array (P := P) (w := w) (n + 1) _ _ hk hi, hc]
    rw [show List.range 2 = [0, 1] from rfl]
    simp only [Op.eqItems, Sem.run_bind, run_part_int hu hi hs w #[.int .i64 a, .int .i64 b] (0 * 1) (v := .int .i64 a) rfl, run_part_int hu hi hs w #[.int .i64 c, .int .i64 d] (0 * 1) (v := .int .i64 c) rfl,
      run_part_int hu hi hs w #[.int .i64 a, .int .i64 b] (1 * 1) (v := .int .i64 b) rfl, run_part_int hu hi hs w #[.int .i64 c, .int .i64 d] (1 * 1) (v := .int .i64 d) rfl, Result.andThen_ok, he]
    have p1 : ∀ x y : Int, (part e #[.int .i64 x, .int .i64 y] 1).run P w = .ok (.int .i64 y) w := fun x y => run_part_int hu hi hs w _ 1 rfl
    by_cases h1 : a = c <;> by_cases h2 : b = d <;> simp [h1, h2, he, p1]
  exact key 9998
theorem run_checkP {kt e : TypeId} {i : TypeInfo} (hk : P.underlying kt = some (.array 2 e)) (hu : P.underlying e = some (.int .i64)) (hi : P.info? e = some i) (hs : i.size = 1) (w : World) (em : Bool) (a b : Int) :
    (Instr.checkKey em 10000 kt (.agg #[.int .i64 a, .int .i64 b])).run P w = .ok () w := by
  have key : ∀ n, (Instr.checkKey em (n + 2) kt (.agg #[.int .i64 a, .int .i64 b])).run P w = .ok () w := by
    intro n
    have hsz : (sizeOf e).run P w = .ok 1 w := by simp [sizeOf, typeInfo, hi, hs]
    have hc : ∀ x : Int, (Instr.checkKey em (n + 1) e (.int .i64 x)).run P w = .ok () w := fun x => by
      rw [Instr.checkKey]; simp [run_underlying hu]
    rw [Instr.checkKey]
    simp only [Sem.run_bind, run_underlying hk, Result.andThen_ok]
    simp only [Std.Legacy.Range.forIn_eq_forIn_range', Std.Legacy.Range.size, Nat.sub_zero, Nat.add_one_sub_one, Nat.div_one]
    rw [show List.range' 0 2 1 = [0, 1] from rfl]
    simp only [List.forIn_cons, List.forIn_nil, Sem.run_bind, hsz, Result.andThen_ok, run_part_int hu hi hs w #[.int .i64 a, .int .i64 b] (0 * 1) (v := .int .i64 a) rfl, run_part_int hu hi hs w #[.int .i64 a, .int .i64 b] (1 * 1) (v := .int .i64 b) rfl, hc, Sem.run_pure]
  exact key 9998
theorem findAsk_abs {kt e : TypeId} {i : TypeInfo} (hk : P.underlying kt = some (.array 2 e)) (hu : P.underlying e = some (.int .i64)) (hi : P.info? e = some i) (hs : i.size = 1) (w : World) (a b : Int) : ∀ (mes : List MapEntry) (es : List (Value × AV)) (i : Nat), mes.map (·.key) = es.map (·.1) → pairKeys es = true →
    ((Instr.findAsking kt (.agg #[.int .i64 a, .int .i64 b]) mes i).run P w = .ok none w ∧ mgetP es a b = none ∧ (∀ v, mputP es a b v = es ++ [(.agg #[.int .i64 a, .int .i64 b], v)])) ∨
    ∃ j e v, (Instr.findAsking kt (.agg #[.int .i64 a, .int .i64 b]) mes i).run P w = .ok (some (i + j, e.val)) w ∧ mes[j]? = some e ∧ es[j]? = some (.agg #[.int .i64 a, .int .i64 b], v) ∧ mgetP es a b = some v
  | [], [], i, _, _ => .inl ⟨rfl, rfl, fun _ => rfl⟩
  | [], _ :: _, i, h, _ => by simp at h
  | _ :: _, [], i, h, _ => by simp at h
  | m :: mes, p :: es, i, h, hp => by
    simp only [List.map_cons, List.cons.injEq] at h
    simp only [pairKeys, List.all_cons, Bool.and_eq_true] at hp
    obtain ⟨p1, p2⟩ := p
    dsimp only at h hp
    obtain ⟨x, y, rfl⟩ := isPK_spec hp.1
    have hkey : m.key = .agg #[.int .i64 x, .int .i64 y] := h.1
    have he := run_eqP hk hu hi hs w a b x y
    by_cases hz : a = x ∧ b = y
    · obtain ⟨rfl, rfl⟩ := hz
      refine .inr ⟨0, m, p2, ?_, rfl, rfl, by simp [mgetP, isKP]⟩
      simp only [Instr.findAsking, hkey, Sem.run_bind, he]
      simp
    · have hn : (decide (a = x) && decide (b = y)) = false := by simpa using hz
      have hn2 : isKP a b (.agg #[.int .i64 x, .int .i64 y]) = false := by
        simp [isKP]; exact fun e1 e2 => hz ⟨e1.symm, e2.symm⟩
      rw [hn] at he
      rcases findAsk_abs hk hu hi hs w a b mes es (i + 1) h.2 hp.2 with ⟨h1, h2, h3⟩ | ⟨j, e, v, h1, h2, h3, h4⟩
      · refine .inl ⟨?_, by simp [mgetP, hn2, h2], fun v => by simp [mputP, hn2, h3]⟩
        simp only [Instr.findAsking, hkey, Sem.run_bind, he]
        simpa using h1
      · refine .inr ⟨j + 1, e, v, ?_, by simpa using h2, by simpa using h3, by simp [mgetP, hn2, h4]⟩
        simp only [Instr.findAsking, hkey, Sem.run_bind, he]
        simp [h1]; omega
theorem run_findKeyP {kt e : TypeId} (hk : P.underlying kt = some (.array 2 e)) (k : Value) (mes : List MapEntry) (w : World) : (Instr.findKey kt k mes).run P w = (Instr.findAsking kt k mes).run P w := by
  cases mes with
  | nil => simp [Instr.findKey, run_underlying hk, Instr.findNow, Instr.findAsking]
  | cons e es => simp [Instr.findKey, run_underlying hk, Instr.findNow, Instr.sameNow]
theorem zeroV_rel {e : TypeId} {i : TyI} {z : Value} (hTe : T e = some i) (hz : i.zero = some z) (h1 : z.cells.size = i.cells) (h2 : aggD i.kind = true → ∃ cs, z = .agg cs) (h3 : z.cells.toList.all (·.oneCell') = true) : Rel T E (zeroV T e) z := by
  have e0 : zeroV T e = mk i (if aggD i.kind then z.cells.toList.map AV.ofConst else [AV.ofConst z]) := by unfold zeroV; simp only [hTe]; unfold zeroV.zeroA'; simp only [hz]
  rw [e0]
  unfold mk
  by_cases ha : aggD i.kind = true
  · rw [if_pos ha, if_pos ha]
    obtain ⟨cs, rfl⟩ := h2 ha
    rw [List.take_of_length_le (by simp [← h1])]
    simp only [Rel]
    exact ⟨cs.toList, by simp, relC_consts T E cs.toList h3⟩
  · rw [if_neg ha, if_neg ha]
    exact rel_ofConst T E z


theorem RelL.set {x : AV} {u : Value} : ∀ (xs : List AV) (vs : List Value) (j : Nat), RelL T E xs vs → Rel T E x u → RelL T E (xs.set j x) (vs.set j u)
  | [], vs, j, h, _ => by simp only [RelL] at h; subst h; simp [RelL]
  | y :: ys, vs, 0, h, hx => by
    simp only [RelL] at h
    obtain ⟨v, r, rfl, h1, h2⟩ := h
    simp only [List.set_cons_zero, RelL]
    exact ⟨u, r, rfl, hx, h2⟩
  | y :: ys, vs, j + 1, h, hx => by
    simp only [RelL] at h
    obtain ⟨v, r, rfl, h1, h2⟩ := h
    simp only [List.set_cons_succ, RelL]
    exact ⟨v, _, rfl, h1, RelL.set ys r j h2 hx⟩
theorem RelL.erase : ∀ (xs : List AV) (vs : List Value) (j : Nat), RelL T E xs vs → RelL T E (xs.eraseIdx j) (vs.eraseIdx j)
  | [], vs, j, h => by simp only [RelL] at h; subst h; simp [RelL]
  | y :: ys, vs, 0, h => by
    simp only [RelL] at h
    obtain ⟨v, r, rfl, h1, h2⟩ := h
    simpa only [List.eraseIdx_cons_zero] using h2
  | y :: ys, vs, j + 1, h => by
    simp only [RelL] at h
    obtain ⟨v, r, rfl, h1, h2⟩ := h
    simp only [List.eraseIdx_cons_succ, RelL]
    exact ⟨v, _, rfl, h1, RelL.erase ys r j h2⟩

/-- A map's new content. -/
theorem Env.setMap (hi : Inv T E) {id : Nat} {es es' : List (Value × AV)} {mes' : Array MapEntry} {clock' : Nat} (hb : E.st[id]? = some (.map es))
    (hk : mes'.toList.map (·.key) = es'.map (·.1)) (hv : RelL T E (es'.map (·.2)) (mes'.toList.map (·.val))) :
    ∃ E', E'.w = { E.w with heap := E.w.heap.setIfInBounds (E.φ id) (.map mes' clock') } ∧ E'.st = E.st.set id (.map es') ∧ Step E E' ∧ Inv T E' := by
  have hidlt : id < E.st.length := (List.getElem?_eq_some_iff.1 hb).1
  obtain ⟨mes, clock, h1, _, _⟩ := hi.blk id _ hb
  have hlt := hi.lt id _ hb rfl
  have hup := Env.upd (T := T) (b' := E.φ id) (blk' := .map es') (w' := { E.w with heap := E.w.heap.setIfInBounds (E.φ id) (.map mes' clock') }) hi hb rfl rfl rfl (by simp)
    (fun kk hk h => by have := h rfl; simp [Ne.symm this]) (.inl ⟨rfl, rfl⟩) (by
      unfold Compat
      dsimp only
      rw [List.getElem?_set_self hidlt]
      exact ⟨⟨es, hb⟩, if_pos rfl⟩)
  refine ⟨_, rfl, rfl, hup.1, hup.2 ⟨mes', clock', ?_, hk, RelL.step hup.1 _ _ hv⟩⟩
  dsimp only; rw [if_pos rfl]; simp [hlt.1]

include hT hs hst hi in
theorem qr_lookup {t : TypeId} {x ix : Operand} {ok : Bool} (ho : o.op = .lookup t x ix ok) (hx : gok (ev σ x)) (hix : gok (ev σ ix)) (hok : lookupOk T st t (sv σ x) (sv σ ix)) : QR T P E o a (lookupV T st t (sv σ x) (sv σ ix) ok) := by
  have hr := hs.sv hx
  have hq := hs.sv hix
  generalize sv σ x = p at hr hok ⊢
  generalize sv σ ix = q at hq hok ⊢
  subst hst
  unfold lookupOk at hok
  split at hok
  · rename_i id k
    split at hok
    · rename_i es hb
      split at hok
      · rename_i kt e he
        obtain ⟨q1, q2, q3⟩ := hok
        simp only [Rel] at hr hq
        have hu := mapElem_spec hT he
        have huk := i64_spec hT q2
        obtain ⟨mes, clock, m1, m2, m3⟩ := hi.blk id _ hb
        have hrun : ∀ r : Option (Nat × Value), Instr.findNow (.int .i64) (.int .i64 k) mes.toList 0 = some r → ∀ zv, (r = none → (zeroValue e).run P E.w = .ok zv E.w) →
            (execOp a.eval o).run P E.w = .ok (.value (if ok then .tuple #[(match r with | some (_, v) => v | none => zv), .bool r.isSome] else (match r with | some (_, v) => v | none => zv))) E.w := by
          intro r hf zv hz
          unfold execOp; rw [ho]; dsimp only
          rw [hr.2 _ hb, hq.1]
          have hck := fun b => MapKept.run_checkKey (P := P) (w := E.w) (k := .int .i64 k) huk rfl b 9999
          have hfk := MapKept.run_findKey (P := P) (w := E.w) (k := .int .i64 k) huk hf
          cases r with
          | none => cases ok <;> simp [Instr.lookup, run_underlying hu, MapKept.run_getObj_map m1, hck, hfk, hz rfl]
          | some r => obtain ⟨_, v⟩ := r; cases ok <;> simp [Instr.lookup, run_underlying hu, MapKept.run_getObj_map m1, hck, hfk]
        cases hTe : T e with
        | none => simp [hTe] at q3
        | some i =>
          cases hz : i.zero with
          | none => simp [hTe, hz] at q3
          | some z =>
            simp only [hTe, hz] at q3
            rcases findNow_abs k mes.toList es 0 m2 q1 with ⟨h1, h2, _, _⟩ | ⟨j, m, v, h1, h2, h3, h4, h5, _, _⟩
            · refine QR.same (hrun none h1 z fun _ => run_zero hT hTe hz _) ?_
              have hzr := zeroV_rel (E := E) hTe hz q3.1 q3.2.1 q3.2.2
              simp only [lookupV, hb, he, h2]
              cases ok with
              | false => exact hzr
              | true =>
                simp only [if_true, Rel, RelL]
                exact ⟨[z, .bool false], rfl, z, [.bool false], rfl, hzr, .bool false, [], rfl, ⟨rfl, rfl⟩, rfl⟩
            · refine QR.same (hrun _ h1 undef fun h => by cases h) ?_
              have hv : Rel T E v m.val := by
                obtain ⟨u, k1, k2⟩ := RelL.get _ _ m3 j v (by simp [h4])
                rw [List.getElem?_map, h2] at k1
                cases k1
                exact k2
              simp only [lookupV, hb, he, h5]
              cases ok with
              | false => exact hv
              | true =>
                simp only [if_true, Rel, RelL]
                exact ⟨[m.val, .bool true], rfl, m.val, [.bool true], rfl, hv, .bool true, [], rfl, ⟨rfl, rfl⟩, rfl⟩
      · exact hok.elim
    · exact hok.elim
  · rename_i id ka kb
    split at hok
    · rename_i es hb
      split at hok
      · rename_i kt e he
        obtain ⟨q1, q2, q3⟩ := hok
        simp only [Rel] at hr
        have hq : a.eval ix = .agg #[.int .i64 ka, .int .i64 kb] := by
          simp only [Rel, RelC] at hq
          obtain ⟨vs, h1, v1, r1, h2, ⟨h3, _⟩, _, v2, r2, h4, ⟨h5, _⟩, _, h6⟩ := hq
          rw [h1, h2, h3, h4, h5, h6]
        have hu := mapElem_spec hT he
        obtain ⟨ke, ki, hk1, hk2, hk3, hk4⟩ := pair_spec hT q2
        obtain ⟨mes, clock, m1, m2, m3⟩ := hi.blk id _ hb
        have hck := fun b => run_checkP hk1 hk2 hk3 hk4 E.w b ka kb
        have hrun : ∀ r : Option (Nat × Value), (Instr.findAsking kt (.agg #[.int .i64 ka, .int .i64 kb]) mes.toList 0).run P E.w = .ok r E.w → ∀ zv, (r = none → (zeroValue e).run P E.w = .ok zv E.w) →
            (execOp a.eval o).run P E.w = .ok (.value (if ok then .tuple #[(match r with | some (_, v) => v | none => zv), .bool r.isSome] else (match r with | some (_, v) => v | none => zv))) E.w := by
          intro r hf zv hz
          unfold execOp; rw [ho]; dsimp only
          rw [hr.2 _ hb, hq]
          have hfk := run_findKeyP hk1 (.agg #[.int .i64 ka, .int .i64 kb]) mes.toList E.w
          rw [hf] at hfk
          cases r with
          | none => cases ok <;> simp [Instr.lookup, run_underlying hu, MapKept.run_getObj_map m1, hck, hfk, hz rfl]
          | some r => obtain ⟨_, v⟩ := r; cases ok <;> simp [Instr.lookup, run_underlying hu, MapKept.run_getObj_map m1, hck, hfk]
        cases hTe : T e with
        | none => simp [hTe] at q3
        | some i =>
          cases hz : i.zero with
          | none => simp [hTe, hz] at q3
          | some z =>
            simp only [hTe, hz] at q3
            rcases findAsk_abs hk1 hk2 hk3 hk4 E.w ka kb mes.toList es 0 m2 q1 with ⟨h1, h2, _⟩ | ⟨j, m, v, h1, h2, h4, h5⟩
            · refine QR.same (hrun none h1 z fun _ => run_zero hT hTe hz _) ?_
              have hzr := zeroV_rel (E := E) hTe hz q3.1 q3.2.1 q3.2.2
              simp only [lookupV, hb, he, h2]
              cases ok with
              | false => exact hzr
              | true =>
                simp only [if_true, Rel, RelL]
                exact ⟨[z, .bool false], rfl, z, [.bool false], rfl, hzr, .bool false, [], rfl, ⟨rfl, rfl⟩, rfl⟩
            · refine QR.same (hrun _ h1 undef fun h => by cases h) ?_
              have hv : Rel T E v m.val := by
                obtain ⟨u, k1, k2⟩ := RelL.get _ _ m3 j v (by simp [h4])
                rw [List.getElem?_map, h2] at k1
                cases k1
                exact k2
              simp only [lookupV, hb, he, h5]
              cases ok with
              | false => exact hv
              | true =>
                simp only [if_true, Rel, RelL]
                exact ⟨[m.val, .bool true], rfl, m.val, [.bool true], rfl, hv, .bool true, [], rfl, ⟨rfl, rfl⟩, rfl⟩
      · exact hok.elim
    · exact hok.elim
  · exact hok.elim


variable {E0 : Env} {ops : Array Oper} {k : Slots → St → Prop}

theorem AO.makeMap {t : TypeId} (ho : o.op = .makeMap t none) (hg : o.guard = none) (hd : dstOk n o.dst) (hk : k (σ.put o.dst (.mp st.length)) (st ++ [.map []])) : AO T P E0 n ops o k σ st := by
  intro E a h1 h2 h3 h4 K Q hK
  rw [if_pos (by simp [Region.wanted, hg])]
  subst h1
  have hn := Env.new (T := T) h2 (.map #[] 0) (.map [])
  unfold Oper.wp
  have hrun : (execOp a.eval o).run P E.w = .ok (.value (.map (some E.w.heap.size))) (E.w.alloc (.map #[] 0)) := by
    unfold execOp; rw [ho]; rfl
  rw [hrun, Oper.upon_value]
  refine hK ⟨E.w.alloc (.map #[] 0), E.st ++ [.map []], fun i => if i = E.st.length then E.w.heap.size else E.φ i, E.M⟩ _ _ (hn.2 ⟨#[], 0, ?_, rfl, by simp [RelL]⟩) (h3.trans hn.1) ((h4.step hn.1).put hd ?_) hk
  · dsimp only; rw [if_pos rfl]; exact heap_alloc_new _ _
  · simp only [Rel]
    exact ⟨by simp, fun es _ => by simp⟩

include hT in
theorem AO.mapUpdate {t kt e : TypeId} {x y z : Operand} {id : Nat} {q : Int} {es : List (Value × AV)} (ho : o.op = .mapUpdate t x y z) (hg : o.guard = none) (hd : o.dst = none) (hx : gok (ev σ x)) (hy : gok (ev σ y)) (hz : gok (ev σ z))
    (hxv : sv σ x = .mp id) (hyv : sv σ y = .sc (.int .i64 q)) (hb : st[id]? = some (.map es)) (hme : mapElem T t = some (kt, e)) (hkt : descIs T kt isI64) (hik : intKeys es = true)
    (hk : k σ (st.set id (.map (mput es q (sv σ z))))) : AO T P E0 n ops o k σ st := by
  intro E a h1 h2 h3 h4 K Q hK
  rw [if_pos (by simp [Region.wanted, hg])]
  subst h1
  have hr := h4.sv hx
  have hq := h4.sv hy
  have hv := h4.sv hz
  rw [hxv] at hr
  rw [hyv] at hq
  simp only [Rel] at hr hq
  have hu := mapElem_spec hT hme
  have huk := i64_spec hT hkt
  obtain ⟨mes, clock, m1, m2, m3⟩ := h2.blk id _ hb
  have hck := fun b => MapKept.run_checkKey (P := P) (w := E.w) (k := .int .i64 q) huk rfl b 9999
  rcases findNow_abs q mes.toList es 0 m2 hik with ⟨f1, f2, f3, _⟩ | ⟨j, m, v, f1, f2, f3, f4, f5, f6, _⟩
  · obtain ⟨E', e1, e2, e3, e4⟩ := Env.setMap (es' := es ++ [(.int .i64 q, sv σ z)]) (mes' := mes.push ⟨.int .i64 q, a.eval z, clock⟩) (clock' := clock + 1) h2 hb (by simp [m2]) (by
      rw [Array.toList_push, List.map_append, List.map_append]
      exact RelL.append _ _ m3 (by simp only [List.map_cons, List.map_nil, RelL]; exact ⟨_, [], rfl, hv, rfl⟩))
    unfold Oper.wp
    have hrun : (execOp a.eval o).run P E.w = .ok .skip E'.w := by
      unfold execOp; rw [ho]; dsimp only
      rw [hr.2 _ hb, hq.1, e1]
      simp [Instr.mapUpdate, run_underlying hu, MapKept.run_getObj_map m1, hck, MapKept.run_findKey huk f1, MapKept.run_setObj_map _ m1]
    rw [hrun, Oper.upon_skip]
    refine hK E' σ _ e4 (h3.trans e3) ?_ (by rw [e2, ← f3]; exact hk)
    rw [hd]; exact h4.step e3
  · have hjl : j < mes.toList.length := (List.getElem?_eq_some_iff.1 f2).1
    have hmj : mes[j]? = some m := by simpa using f2
    obtain ⟨E', e1, e2, e3, e4⟩ := Env.setMap (es' := es.set j (.int .i64 q, sv σ z)) (mes' := mes.modify j fun e => { e with key := .int .i64 q, val := a.eval z }) (clock' := clock) h2 hb (by
      rw [Array.toList_modify, ChangeMaps.modify_eq_set _ _ _ _ f2, List.map_set, List.map_set, m2]) (by
      rw [Array.toList_modify, ChangeMaps.modify_eq_set _ _ _ _ f2, List.map_set, List.map_set]
      exact RelL.set _ _ j m3 hv)
    unfold Oper.wp
    have hrun : (execOp a.eval o).run P E.w = .ok .skip E'.w := by
      unfold execOp; rw [ho]; dsimp only
      rw [hr.2 _ hb, hq.1, e1]
      have hks := MapKept.run_keyThatStays (P := P) (w := E.w) (d := .int .i64) (k := .int .i64 q) rfl
      simp [Instr.mapUpdate, run_underlying hu, MapKept.run_getObj_map m1, hck, MapKept.run_findKey huk f1, MapKept.run_setObj_map _ m1, hmj, f3, hks]
    rw [hrun, Oper.upon_skip]
    refine hK E' σ _ e4 (h3.trans e3) ?_ (by rw [e2, ← f6]; exact hk)
    rw [hd]; exact h4.step e3

include hT in
/-- A new key of two numbers. -/
theorem AO.mapUpdateP {t kt e : TypeId} {x y z : Operand} {id : Nat} {ka kb : Int} {es : List (Value × AV)} (ho : o.op = .mapUpdate t x y z) (hg : o.guard = none) (hd : o.dst = none) (hx : gok (ev σ x)) (hy : gok (ev σ y)) (hz : gok (ev σ z))
    (hxv : sv σ x = .mp id) (hyv : sv σ y = .agg [.sc (.int .i64 ka), .sc (.int .i64 kb)]) (hb : st[id]? = some (.map es)) (hme : mapElem T t = some (kt, e)) (hkt : pairT T kt) (hik : pairKeys es = true) (hnew : mgetP es ka kb = none)
    (hk : k σ (st.set id (.map (mputP es ka kb (sv σ z))))) : AO T P E0 n ops o k σ st := by
  intro E a h1 h2 h3 h4 K Q hK
  rw [if_pos (by simp [Region.wanted, hg])]
  subst h1
  have hr := h4.sv hx
  have hq := h4.sv hy
  have hv := h4.sv hz
  rw [hxv] at hr
  rw [hyv] at hq
  simp only [Rel] at hr
  have hq : a.eval y = .agg #[.int .i64 ka, .int .i64 kb] := by
    simp only [Rel, RelC] at hq
    obtain ⟨vs, h1, v1, r1, h2, ⟨h3, _⟩, _, v2, r2, h4, ⟨h5, _⟩, _, h6⟩ := hq
    rw [h1, h2, h3, h4, h5, h6]
  have hu := mapElem_spec hT hme
  obtain ⟨ke, ki, hk1, hk2, hk3, hk4⟩ := pair_spec hT hkt
  obtain ⟨mes, clock, m1, m2, m3⟩ := h2.blk id _ hb
  have hck := fun b => run_checkP hk1 hk2 hk3 hk4 E.w b ka kb
  rcases findAsk_abs hk1 hk2 hk3 hk4 E.w ka kb mes.toList es 0 m2 hik with ⟨f1, f2, f3⟩ | ⟨j, m, v, f1, f2, f4, f5⟩
  · obtain ⟨E', e1, e2, e3, e4⟩ := Env.setMap (es' := es ++ [(.agg #[.int .i64 ka, .int .i64 kb], sv σ z)]) (mes' := mes.push ⟨.agg #[.int .i64 ka, .int .i64 kb], a.eval z, clock⟩) (clock' := clock + 1) h2 hb (by simp [m2]) (by
      rw [Array.toList_push, List.map_append, List.map_append]
      exact RelL.append _ _ m3 (by simp only [List.map_cons, List.map_nil, RelL]; exact ⟨_, [], rfl, hv, rfl⟩))
    unfold Oper.wp
    have hfk := run_findKeyP hk1 (.agg #[.int .i64 ka, .int .i64 kb]) mes.toList E.w
    rw [f1] at hfk
    have hrun : (execOp a.eval o).run P E.w = .ok .skip E'.w := by
      unfold execOp; rw [ho]; dsimp only
      rw [hr.2 _ hb, hq, e1]
      simp [Instr.mapUpdate, run_underlying hu, MapKept.run_getObj_map m1, hck, hfk, MapKept.run_setObj_map _ m1]
    rw [hrun, Oper.upon_skip]
    refine hK E' σ _ e4 (h3.trans e3) ?_ (by rw [e2, ← f3]; exact hk)
    rw [hd]; exact h4.step e3
  · rw [hnew] at f5; cases f5
end
end Go.Ab
end

section
namespace Go.Ab
open Go.RowKit

def ixV (d : Int) : Option AV → Option Int
  | none => some d
  | some (.sc (.int .i64 k)) => some k
  | _ => none
/-- What a slice expression yields. -/
def sliceV (st : St) (x : AV) (lo hi : Option AV) : AV :=
  match x with
  | .lst e l => (match ixV 0 lo, ixV l.length hi with | some i, some j => .lst e ((l.drop i.toNat).take (j - i).toNat) | _, _ => .any)
  | .nils => .nils
  | .own id g => (match st[id]? with
    | some (.row _ _ _ l) => (match ixV 0 lo, ixV l.length hi with | some i, some j => .sub id g i.toNat (j - i).toNat | _, _ => .any)
    | _ => .any)
  | _ => .any
def boundsOk (n : Int) (lo hi mx : Option AV) : Prop :=
  match ixV 0 lo, ixV n hi, ixV n mx with
  | some i, some j, some m => 0 ≤ i ∧ i ≤ j ∧ j ≤ m ∧ m ≤ n
  | _, _, _ => False
def sliceOk (T : Tab) (st : St) (t : TypeId) (x : AV) (lo hi mx : Option AV) : Prop :=
  (mx.isSome = true → hi.isSome = true) ∧
  match x with
  | .lst e l => sliceElem T t = some e ∧ (T e).isSome = true ∧ boundsOk l.length lo hi mx
  | .nils => (match sliceElem T t with | some e => (T e).isSome = true | none => False) ∧ boundsOk 0 lo hi mx
  | .own id g => (match st[id]? with
    | some (.row e g' _ l) => g' = g ∧ sliceElem T t = some e ∧ (T e).isSome = true ∧ boundsOk l.length lo hi mx
    | _ => False)
  | _ => False
def capV (x : AV) : AV := match x with | .nils => .sc (.int .i64 0) | _ => .any
def capOk (T : Tab) (t : TypeId) (x : AV) : Prop := match x with | .nils => descIs T t isSliceK | _ => False

section
variable {T : Tab} {P : Program} (hT : TabOk T P) {E : Env} {n : Nat} {σ : Slots} {st : St} {a : Act} (hs : RelS T E n σ a) (hst : E.st = st) (hi : Inv T E) {o : Oper}

theorem ixV_some {d k : Int} {x : AV} (h : ixV d (some x) = some k) : x = .sc (.int .i64 k) := by
  unfold ixV at h
  split at h
  · rename_i he; cases he
  · rename_i he; cases he; cases h; rfl
  · cases h

theorem run_bound {x : Value} {k : Int} {y : Nat} {c : BoundsCode} {w : World} (hx : x = .int .i64 k) (h0 : 0 ≤ k) (h1 : k ≤ y) : (Instr.sliceBound x y c).run P w = .ok k.toNat w := by
  subst hx
  simp [Instr.sliceBound, asIntOf, h0, h1]

/-- The bounds of a slice expression. -/
theorem run_bounds {len cap : Nat} {lo hi mx : Option Operand} (hgl : ∀ x, lo = some x → gok (ev σ x)) (hgh : ∀ x, hi = some x → gok (ev σ x)) (hgm : ∀ x, mx = some x → gok (ev σ x)) (hs : RelS T E n σ a)
    (hle : len ≤ cap) (hmh : mx.isSome = true → hi.isSome = true) (hb : boundsOk len (lo.map (sv σ)) (hi.map (sv σ)) (mx.map (sv σ))) (w : World) :
    ∃ i j m : Nat, ixV 0 (lo.map (sv σ)) = some (i : Int) ∧ ixV len (hi.map (sv σ)) = some (j : Int) ∧ i ≤ j ∧ j ≤ len ∧ j ≤ m ∧ m ≤ cap ∧
      (Instr.sliceBounds true len cap (lo.map a.eval) (hi.map a.eval) (mx.map a.eval)).run P w = .ok (i, j, m) w := by
  unfold boundsOk at hb
  have num : ∀ (x : Operand) (k : Int), gok (ev σ x) → sv σ x = .sc (.int .i64 k) → a.eval x = .int .i64 k := by
    intro x k hx he
    have := hs.sv hx
    rw [he] at this
    simp only [Rel] at this
    exact this.1
  split at hb
  · rename_i i j m h1 h2 h3
    obtain ⟨q0, q1, q2, q3⟩ := hb
    have bnd : ∀ (x : Operand) (k : Int) (y : Nat) (c : BoundsCode), gok (ev σ x) → sv σ x = .sc (.int .i64 k) → 0 ≤ k → k ≤ y → (Instr.sliceBound (a.eval x) y c).run P w = .ok k.toNat w := fun x k y c hx he h0 h1 => run_bound (num x k hx he) h0 h1
    cases lo with
    | none =>
      simp only [Option.map_none, ixV, Option.some.injEq] at h1
      subst h1
      cases hi with
      | none =>
        cases mx with
        | some y => exact absurd (hmh rfl) (by simp)
        | none =>
          simp only [Option.map_none, ixV, Option.some.injEq] at h2 h3
          subst h2
          exact ⟨0, len, cap, rfl, rfl, Nat.zero_le _, Nat.le_refl _, hle, Nat.le_refl _, by simp [Instr.sliceBounds]⟩
      | some x =>
        have hx := ixV_some h2
        refine ⟨0, j.toNat, ?_⟩
        cases mx with
        | none =>
          refine ⟨cap, rfl, by rw [h2]; congr 1; omega, Nat.zero_le _, by omega, by omega, Nat.le_refl _, ?_⟩
          simp [Instr.sliceBounds, bnd x j cap .sliceAcap (hgh x rfl) hx q1 (by omega)]
        | some y =>
          have hy := ixV_some h3
          refine ⟨m.toNat, rfl, by rw [h2]; congr 1; omega, Nat.zero_le _, by omega, by omega, by omega, ?_⟩
          simp [Instr.sliceBounds, bnd y m cap .slice3Acap (hgm y rfl) hy (by omega) (by omega), bnd x j m.toNat .slice3B (hgh x rfl) hx q1 (by omega)]
    | some z =>
      have hz := ixV_some h1
      refine ⟨i.toNat, ?_⟩
      cases hi with
      | none =>
        cases mx with
        | some y => exact absurd (hmh rfl) (by simp)
        | none =>
          simp only [Option.map_none, ixV, Option.some.injEq] at h2 h3
          subst h2
          refine ⟨len, cap, by rw [h1]; congr 1; omega, rfl, by omega, Nat.le_refl _, hle, Nat.le_refl _, ?_⟩
          simp [Instr.sliceBounds, bnd z i len .sliceB (hgl z rfl) hz q0 (by omega)]
      | some x =>
        have hx := ixV_some h2
        refine ⟨j.toNat, ?_⟩
        cases mx with
        | none =>
          refine ⟨cap, by rw [h1]; congr 1; omega, by rw [h2]; congr 1; omega, by omega, by omega, by omega, Nat.le_refl _, ?_⟩
          simp [Instr.sliceBounds, bnd x j cap .sliceAcap (hgh x rfl) hx (by omega) (by omega), bnd z i j.toNat .sliceB (hgl z rfl) hz q0 (by omega)]
        | some y =>
          have hy := ixV_some h3
          refine ⟨m.toNat, by rw [h1]; congr 1; omega, by rw [h2]; congr 1; omega, by omega, by omega, by omega, by omega, ?_⟩
          simp [Instr.sliceBounds, bnd y m cap .slice3Acap (hgm y rfl) hy (by omega) (by omega), bnd x j m.toNat .slice3B (hgh x rfl) hx (by omega) (by omega), bnd z i j.toNat .slice3C (hgl z rfl) hz q0 (by omega)]
  · exact hb.elim

include hT in
theorem run_sliceAt {t e : TypeId} {b : Option Addr} {len cap : Nat} {lo hi mx : Option Value} {i j m : Nat} {w : World} (hte : sliceElem T t = some e) (hse : (T e).isSome = true)
    (h : (Instr.sliceBounds true len cap lo hi mx).run P w = .ok (i, j, m) w) :
    (Instr.sliceAt t (.slice b len cap) lo hi mx).run P w = .ok (.slice (if m = i then b else b.map (·.add (i * T.cells e))) (j - i) (m - i)) w := by
  have hu := run_under_slice (P := P) hT hte w
  unfold Instr.sliceAt
  rw [Sem.run_bind, hu]
  simp only [Result.andThen_ok]
  unfold Instr.slice
  rw [Sem.run_bind, hu]
  simp only [Result.andThen_ok]
  rw [Sem.run_bind, h]
  simp [run_sizeOf' hT hse]

include hT hs hst hi in
theorem qr_slice {t : TypeId} {x : Operand} {lo hi' mx : Option Operand} (ho : o.op = .slice t x lo hi' mx) (hx : gok (ev σ x)) (hgl : ∀ y, lo = some y → gok (ev σ y)) (hgh : ∀ y, hi' = some y → gok (ev σ y)) (hgm : ∀ y, mx = some y → gok (ev σ y))
    (hok : sliceOk T st t (sv σ x) (lo.map (sv σ)) (hi'.map (sv σ)) (mx.map (sv σ))) : QR T P E o a (sliceV st (sv σ x) (lo.map (sv σ)) (hi'.map (sv σ))) := by
  have hr := hs.sv hx
  generalize hxv : sv σ x = p at hr hok ⊢
  subst hst
  obtain ⟨hmh, hok⟩ := hok
  have hmh : mx.isSome = true → hi'.isSome = true := by simpa using hmh
  have hrun : ∀ (v : Value), (Instr.sliceAt t (a.eval x) (lo.map a.eval) (hi'.map a.eval) (mx.map a.eval)).run P E.w = .ok v E.w → (execOp a.eval o).run P E.w = .ok (.value v) E.w := by
    intro v hv
    unfold execOp; rw [ho]; dsimp only
    rw [Sem.run_bind, hv]; rfl
  cases p with
  | lst e l =>
    dsimp only at hok
    obtain ⟨h1, h2, h3⟩ := hok
    simp only [Rel] at hr
    obtain ⟨k1, k2, b, cap, k3, k4, k5⟩ := hr
    obtain ⟨i, j, m, e1, e2, e3, e4, e5, e6, e7⟩ := run_bounds (P := P) hgl hgh hgm hs k4 hmh h3 E.w
    refine QR.same (hrun _ (by rw [k3]; exact run_sliceAt hT h1 h2 e7)) ?_
    simp only [sliceV, e1, e2, Rel]
    have hlen : ((l.drop (i : Int).toNat).take ((j : Int) - (i : Int)).toNat).length = j - i := by simp; omega
    have hsub : ((l.drop (i : Int).toNat).take ((j : Int) - (i : Int)).toNat) = (l.drop i).take (j - i) := by congr 1; omega
    rw [hsub] at hlen ⊢
    rw [hlen]
    refine ⟨Nat.le_trans (Nat.mul_le_mul_right _ (by omega)) k1, by omega, _, m - i, rfl, by omega, ?_⟩
    by_cases hji : j = i
    · exact .inl (by rw [hji, Nat.sub_self]; simp)
    · rcases k5 with k5 | ⟨bb, off, k5, k6, k7⟩
      · subst k5; simp at e4; omega
      · subst k5
        rw [if_neg (by omega)]
        refine .inr ⟨bb, off + i * T.cells e, by simp [addr_add], k6, ?_⟩
        have dropM : ∀ (i : Nat) (l : List (List AV)) (off : Nat), RelM T E bb (T.cells e) off l → RelM T E bb (T.cells e) (off + i * T.cells e) (l.drop i) := by
          intro i
          induction i with
          | zero => intro l off h; simpa using h
          | succ i ih =>
            intro l off h
            cases l with
            | nil => simp only [List.drop_nil, RelM]
            | cons c l =>
              simp only [RelM] at h
              have := ih l _ h.2.2
              rw [List.drop_succ_cons, show off + (i + 1) * T.cells e = off + T.cells e + i * T.cells e by rw [Nat.add_mul]; omega]
              exact this
        have takeM : ∀ (l : List (List AV)) (n off : Nat), RelM T E bb (T.cells e) off l → RelM T E bb (T.cells e) off (l.take n) := by
          intro l
          induction l with
          | nil => intro n off h; simp only [List.take_nil, RelM]
          | cons c l ih =>
            intro n off h
            cases n with
            | zero => simp only [List.take_zero, RelM]
            | succ n =>
              simp only [RelM] at h
              simp only [List.take_succ_cons, RelM]
              exact ⟨h.1, h.2.1, ih n _ h.2.2⟩
        exact takeM _ _ _ (dropM _ _ _ k7)
  | nils =>
    dsimp only at hok
    obtain ⟨h1, h3⟩ := hok
    simp only [Rel] at hr
    obtain ⟨b, k3⟩ := hr
    cases hse : sliceElem T t with
    | none => simp [hse] at h1
    | some e =>
      simp only [hse] at h1
      obtain ⟨i, j, m, e1, e2, e3, e4, e5, e6, e7⟩ := run_bounds (P := P) (len := 0) (cap := 0) hgl hgh hgm hs (Nat.le_refl _) hmh h3 E.w
      refine QR.same (hrun _ (by rw [k3]; exact run_sliceAt hT hse h1 e7)) ?_
      simp only [sliceV, Rel]
      obtain rfl : j = 0 := by omega
      obtain rfl : i = 0 := by omega
      obtain rfl : m = 0 := by omega
      exact ⟨b, by simp⟩
  | own id g =>
    dsimp only at hok
    simp only [Rel] at hr
    cases hb : E.st[id]? with
    | none => simp [hb] at hok
    | some blk =>
      cases blk <;> simp only [hb] at hok <;> try exact hok.elim
      rename_i e g' al l
      obtain ⟨rfl, h1, h2, h3⟩ := hok
      obtain ⟨k1, k2⟩ := (hr.2 _ _ _ _ hb).2 rfl
      have hcase : ∃ b cap, a.eval x = .slice b l.length cap ∧ l.length ≤ cap ∧ (l.length = 0 ∨ (al = true ∧ b = some ⟨E.φ id, 0, none⟩)) := by
        cases al with
        | true =>
          obtain ⟨cap, c, f1, _, _, f4⟩ := k1 rfl
          exact ⟨_, cap, f1, f4, .inr ⟨rfl, rfl⟩⟩
        | false =>
          obtain ⟨b, f1⟩ := k2 rfl
          have hl0 := (hi.blk id _ hb).2.1 rfl
          subst hl0
          exact ⟨b, 0, f1, Nat.le_refl _, .inl rfl⟩
      obtain ⟨b, cap, k3, k4, k5⟩ := hcase
      obtain ⟨i, j, m, e1, e2, e3, e4, e5, e6, e7⟩ := run_bounds (P := P) hgl hgh hgm hs k4 hmh h3 E.w
      refine QR.same (hrun _ (by rw [k3]; exact run_sliceAt hT h1 h2 e7)) ?_
      simp only [sliceV, hb, e1, e2, Rel]
      refine ⟨hr.1, fun e' g2 al2 l2 hb2 => ?_⟩
      cases hb2
      have hji : ((j : Int) - (i : Int)).toNat = j - i := by omega
      have hii : (i : Int).toNat = i := by omega
      rw [hji, hii]
      refine ⟨Nat.le_refl _, fun _ => ⟨_, m - i, rfl, by omega, ?_⟩⟩
      by_cases hz : j - i = 0
      · exact .inl hz
      · rcases k5 with k5 | ⟨k5, rfl⟩
        · omega
        · rw [if_neg (by omega)]
          exact .inr ⟨k5, by simp [addr_add]⟩
  | _ => exact hok.elim

include hT hs in
theorem qr_cap {c : Call} {x : Operand} {t : TypeId} (ho : o.op = .call c) (hc : c.callee = .builtin .cap) (ha : c.args = #[x]) (hat : c.argTypes = #[t]) (hx : gok (ev σ x)) (hok : capOk T t (sv σ x)) : QR T P E o a (capV (sv σ x)) := by
  have hr := hs.sv hx
  generalize sv σ x = p at hr hok ⊢
  cases p with
  | nils =>
    simp only [Rel] at hr
    obtain ⟨b, hr⟩ := hr
    obtain ⟨i, hi1, hi2⟩ := desc_of hok
    obtain ⟨j, d, h1, h2, h3, _⟩ := hT t i hi1
    rw [← h3] at hi2
    cases d <;> simp [kindOf, isSliceK] at hi2
    refine QR.same (u := .int .i64 0) ?_ (by simp only [capV, Rel]; exact ⟨trivial, rfl⟩)
    unfold execOp; rw [ho]; dsimp only
    simp only [resolve, hc, Sem.run_bind, Sem.run_pure, Result.andThen_ok, invoke, builtin, ha, hat]
    simp [Builtin.cap_, run_underlying h2, hr, goInt]
  | _ => exact hok.elim
end
end Go.Ab
end

section
namespace Go.Ab
open Go.RowKit
section
variable {T : Tab} {P : Program} (hT : TabOk T P) {E0 E : Env} {n : Nat} {σ : Slots} {st : St} {a : Act} {ops : Array Oper} {o : Oper} {k : Slots → St → Prop}

theorem RelX.congr {E' : Env} {b : Nat} (hr : ∀ x u, Rel T E x u → Rel T E' x u) : ∀ (xs : List AV) (o : Nat), (∀ j, j < xs.length → E'.w.cell? ⟨b, o + j, none⟩ = E.w.cell? ⟨b, o + j, none⟩) → RelX T E b o xs → RelX T E' b o xs
  | [], _, _, _ => by simp only [RelX]
  | x :: xs, o, h, hx => by
    simp only [RelX] at hx ⊢
    obtain ⟨⟨v, h1, h2, h3⟩, h4⟩ := hx
    have h0 := h 0 (by simp)
    simp only [Nat.add_zero] at h0
    refine ⟨⟨v, by rw [h0]; exact h1, hr _ _ h2, h3⟩, RelX.congr hr xs (o + 1) (fun j hj => ?_) h4⟩
    have := h (j + 1) (by simp; omega)
    rw [show o + 1 + j = o + (j + 1) by omega]; exact this
theorem RelX.of_relC {b : Nat} : ∀ (xs : List AV) (us : List Value) (o : Nat), RelC T E xs us → (∀ j, j < us.length → E.w.cell? ⟨b, o + j, none⟩ = us[j]?) → RelX T E b o xs
  | [], _, _, _, _ => by simp only [RelX]
  | x :: xs, us, o, h, hc => by
    simp only [RelC] at h
    obtain ⟨v, r, rfl, h1, h2, h3⟩ := h
    simp only [RelX]
    have h0 := hc 0 (by simp)
    simp only [Nat.add_zero, List.getElem?_cons_zero] at h0
    refine ⟨⟨v, h0, h1, h2⟩, RelX.of_relC xs r (o + 1) h3 fun j hj => ?_⟩
    have := hc (j + 1) (by simp; omega)
    rw [show o + 1 + j = o + (j + 1) by omega, this]; simp
theorem RelX.append {b : Nat} : ∀ (xs ys : List AV) (o : Nat), RelX T E b o xs → RelX T E b (o + xs.length) ys → RelX T E b o (xs ++ ys)
  | [], _, _, _, h => by simpa using h
  | x :: xs, ys, o, hx, hy => by
    simp only [RelX] at hx
    simp only [List.cons_append, RelX]
    refine ⟨hx.1, RelX.append xs ys (o + 1) hx.2 ?_⟩
    rw [show o + 1 + xs.length = o + (x :: xs).length by simp; omega]; exact hy
theorem RelX.take {b : Nat} : ∀ (xs : List AV) (n o : Nat), RelX T E b o xs → RelX T E b o (xs.take n)
  | [], _, _, _ => by simp only [List.take_nil, RelX]
  | x :: xs, 0, _, _ => by simp only [List.take_zero, RelX]
  | x :: xs, n + 1, o, h => by
    simp only [RelX] at h
    simp only [List.take_succ_cons, RelX]
    exact ⟨h.1, RelX.take xs n (o + 1) h.2⟩
/-- A part of a row's element, anew. -/
theorem RelM.put {E' : Env} {b kk p : Nat} {ds c : List AV} {us : List Value} {f : Nat} (hr : ∀ x u, Rel T E x u → Rel T E' x u)
    (hcell : ∀ j, j < p ∨ p + us.length ≤ j → E'.w.cell? ⟨b, j, none⟩ = E.w.cell? ⟨b, j, none⟩) (hnew : ∀ j, j < us.length → E'.w.cell? ⟨b, p + j, none⟩ = us[j]?) (hrel : RelC T E' ds us) (hle : f + ds.length ≤ kk) :
    ∀ (l : List (List AV)) (o i : Nat), RelM T E b kk o l → l[i]? = some c → p = o + i * kk + f → RelM T E' b kk o (l.set i (splice c f ds))
  | [], _, _, _, h, _ => by simp at h
  | e :: l, o, i, hm, hc, hp => by
    have hul := RelC.len _ _ hrel
    simp only [RelM] at hm
    obtain ⟨m1, m2, m3⟩ := hm
    cases i with
    | zero =>
      simp only [List.getElem?_cons_zero, Option.some.injEq] at hc
      subst hc
      simp only [Nat.zero_mul, Nat.add_zero] at hp
      simp only [List.set_cons_zero, RelM]
      refine ⟨?_, ?_, ?_⟩
      · unfold splice; simp; omega
      · unfold splice
        refine RelX.append _ _ _ (RelX.append _ _ _ (RelX.congr hr _ _ (fun j hj => hcell _ (.inl ?_)) (RelX.take _ _ _ m2)) ?_) ?_
        · simp at hj; omega
        · have hl : (e.take f).length = f := by simp; omega
          rw [hl, ← hp]
          exact RelX.of_relC ds us p hrel hnew
        · have hl : (e.take f ++ ds).length = f + ds.length := by simp; omega
          rw [hl]
          exact RelX.congr hr _ _ (fun j hj => hcell _ (.inr (by omega))) (RelX.drop e o (f + ds.length) m2)
      · have rest : ∀ (l : List (List AV)) (o' : Nat), p + us.length ≤ o' → RelM T E b kk o' l → RelM T E' b kk o' l := by
          intro l
          induction l with
          | nil => intro o' _ _; simp only [RelM]
          | cons e l ih =>
            intro o' ho h
            simp only [RelM] at h ⊢
            exact ⟨h.1, RelX.congr hr _ _ (fun j _ => hcell _ (.inr (by omega))) h.2.1, ih _ (by omega) h.2.2⟩
        exact rest l _ (by omega) m3
    | succ i =>
      simp only [List.getElem?_cons_succ] at hc
      simp only [List.set_cons_succ, RelM]
      refine ⟨m1, RelX.congr hr _ _ (fun j hj => hcell _ (.inl ?_)) m2, RelM.put hr hcell hnew hrel hle l (o + kk) i m3 hc ?_⟩
      · rw [hp, Nat.add_mul]; omega
      · rw [hp, Nat.add_mul]; omega

theorem setRow_cell {w : World} {b : Nat} {c c' : Array Value} {t : TypeId} (h : w.heap[b]? = some (.cells c t (0, 0))) (j : Nat) : (w.setRow b c').cell? ⟨b, j, none⟩ = c'[j]? := by
  have := setRow_heap w b c c' t (0, 0) h
  simp [World.cell?, this]

/-- A store into an element of a row of one's own. -/
theorem Env.storeRow (hi : Inv T E) {id g i f : Nat} {e : TypeId} {l : List (List AV)} {c ds : List AV} {us : List Value} (hb : E.st[id]? = some (.row e g true l)) (hc : l[i]? = some c) (hr : RelC T E ds us) (hle : f + ds.length ≤ T.cells e) :
    ∃ E', (storeCells ⟨E.φ id, i * T.cells e + f, none⟩ us).run P E.w = .ok () E'.w ∧ E'.st = E.st.set id (.row e g true (l.set i (splice c f ds))) ∧ Step E E' ∧ Inv T E' := by
  have hidlt : id < E.st.length := (List.getElem?_eq_some_iff.1 hb).1
  have hil : i < l.length := (List.getElem?_eq_some_iff.1 hc).1
  obtain ⟨h1, h2, h3⟩ := hi.blk id _ hb
  obtain ⟨cc, cap, q1, q2, q3, q4, q5⟩ := h3 rfl
  have hld := RelC.len _ _ hr
  have hfit : i * T.cells e + f + us.length ≤ cc.size := by
    rw [hld, q2]
    have h5 : (i + 1) * T.cells e ≤ cap * T.cells e := Nat.mul_le_mul_right _ (by omega)
    rw [Nat.succ_mul] at h5
    omega
  have hrun := run_storeCells_at P (E.φ id) (i * T.cells e + f) e us 0 cc E.w q1 (by omega) (RelC.one _ _ hr)
  simp only [Nat.add_zero] at hrun
  generalize hcc : (cc.toList.take (i * T.cells e + f) ++ us ++ cc.toList.drop (i * T.cells e + f + us.length)).toArray = c2 at hrun
  have hsz : c2.size = cc.size := by
    rw [← hcc]
    simp only [List.size_toArray, List.length_append, List.length_take, List.length_drop, Array.length_toList]
    omega
  have hget : ∀ j, c2[j]? = if i * T.cells e + f ≤ j ∧ j < i * T.cells e + f + us.length then us[j - (i * T.cells e + f)]? else cc[j]? := by
    intro j
    rw [← hcc]
    simp only [List.getElem?_toArray]
    split
    · rename_i hj
      rw [List.getElem?_append_left (by simp; omega), List.getElem?_append_right (by simp; omega)]
      congr 1; simp; omega
    · rename_i hj
      by_cases hlt : j < i * T.cells e + f
      · rw [List.getElem?_append_left (by simp; omega), List.getElem?_append_left (by simp; omega), List.getElem?_take_of_lt hlt]; simp
      · rw [List.getElem?_append_right (by simp; omega), List.getElem?_drop]
        simp
        congr 1; omega
  have hup := Env.upd (T := T) (b' := E.φ id) (blk' := .row e g true (l.set i (splice c f ds))) (w' := E.w.setRow (E.φ id) c2) hi hb rfl rfl rfl (by simp)
    (fun kk hk h => setRow_other _ _ _ _ (h rfl)) (.inl ⟨rfl, rfl⟩) (by
      unfold Compat
      dsimp only
      rw [List.getElem?_set_self hidlt]
      refine ⟨g, true, l, hb, Nat.le_refl _, fun _ => ⟨rfl, fun _ => ⟨if_pos rfl, by simp, fun c0 t hc0 => ?_⟩⟩⟩
      rw [q1] at hc0
      cases hc0
      exact ⟨c2, setRow_heap _ _ _ _ _ _ q1, hsz⟩)
  refine ⟨_, hrun, rfl, hup.1, hup.2 ⟨by rw [List.length_set]; exact h1, fun h => (by cases h), fun _ => ⟨c2, cap, ?_, by rw [hsz]; exact q2, by rw [List.length_set]; exact q3, q4, ?_⟩⟩⟩
  · dsimp only; rw [if_pos rfl]; exact setRow_heap _ _ _ _ _ _ q1
  · dsimp only; rw [if_pos rfl]
    refine RelM.put (E := E) (p := i * T.cells e + f) (us := us) (fun x u h => Rel.step hup.1 x u h) (fun j hj => ?_) (fun j hj => ?_) (RelC.step hup.1 _ _ hr) hle l 0 i q5 hc (by omega)
    · dsimp only
      rw [setRow_cell q1, hget, if_neg (by omega)]
      simp [World.cell?, q1]
    · dsimp only
      rw [setRow_cell q1, hget, if_pos (by omega)]
      congr 1; omega

include hT in
theorem AO.storeRow {t e : TypeId} {x y : Operand} {id g i f : Nat} {l : List (List AV)} {c : List AV} (ho : o.op = .store t x y) (hg : o.guard = none) (hd : o.dst = none) (hx : gok (ev σ x)) (hy : gok (ev σ y))
    (hxv : sv σ x = .rptr id g i f) (hb : st[id]? = some (.row e g true l)) (hc : l[i]? = some c) (hok : liesOk st (sv σ y)) (hTt : (T t).isSome = true) (hlen : (cellsOf (sv σ y)).length = T.cells t) (hle : f + T.cells t ≤ T.cells e)
    (hk : k σ (st.set id (.row e g true (l.set i (splice c f (cellsOf (sv σ y))))))) : AO T P E0 n ops o k σ st := by
  intro E a h1 h2 h3 h4 K Q hK
  rw [if_pos (by simp [Region.wanted, hg])]
  have hr := rel_cells' h1 hok (h4.sv hy)
  have hp := h4.sv hx
  rw [hxv] at hp
  simp only [Rel] at hp
  have hb' : E.st[id]? = some (.row e g true l) := by rw [h1]; exact hb
  obtain ⟨E', k1, k2, k3, k4⟩ := Env.storeRow (P := P) h2 hb' hc hr (by rw [hlen]; exact hle)
  unfold Oper.wp
  have hrun : (execOp a.eval o).run P E.w = .ok .skip E'.w := by
    unfold execOp; rw [ho]; dsimp only
    rw [(hp.2 _ _ _ _ hb').2 rfl rfl]
    have hs : (a.eval y).cells.size = T.cells t := by rw [cells_size hr, hlen]
    simp [Instr.storeAt, Instr.sureAddr, storeVar, run_sizeOf' hT hTt, hs, k1]
  rw [hrun, Oper.upon_skip]
  refine hK E' σ _ k4 (h3.trans k3) ?_ (by rw [k2, h1]; exact hk)
  rw [hd]; exact h4.step k3

theorem map_erase {α β : Type} (f : α → β) : ∀ (l : List α) (j : Nat), (l.eraseIdx j).map f = (l.map f).eraseIdx j
  | [], _ => rfl
  | _ :: _, 0 => rfl
  | x :: xs, j + 1 => by simp only [List.eraseIdx_cons_succ, List.map_cons, map_erase f xs j]

include hT in
/-- delete. -/
theorem AO.delete {c : Call} {t t' kt e : TypeId} {x y : Operand} {id : Nat} {q : Int} {es : List (Value × AV)} (ho : o.op = .call c) (hcal : c.callee = .builtin .delete) (ha : c.args = #[x, y]) (hat : c.argTypes = #[t, t'])
    (hg : o.guard = none) (hd : dstOk n o.dst) (hx : gok (ev σ x)) (hy : gok (ev σ y))
    (hxv : sv σ x = .mp id) (hyv : sv σ y = .sc (.int .i64 q)) (hb : st[id]? = some (.map es)) (hme : mapElem T t = some (kt, e)) (hkt : descIs T kt isI64) (hik : intKeys es = true)
    (hk : k (σ.put o.dst (.tup [])) (st.set id (.map (mdel es q)))) : AO T P E0 n ops o k σ st := by
  intro E a h1 h2 h3 h4 K Q hK
  rw [if_pos (by simp [Region.wanted, hg])]
  subst h1
  have hr := h4.sv hx
  have hq := h4.sv hy
  rw [hxv] at hr
  rw [hyv] at hq
  simp only [Rel] at hr hq
  have hu := mapElem_spec hT hme
  have huk := i64_spec hT hkt
  obtain ⟨mes, clock, m1, m2, m3⟩ := h2.blk id _ hb
  have hck := fun b => MapKept.run_checkKey (P := P) (w := E.w) (k := .int .i64 q) huk rfl b 9999
  have tup : ∀ E', Rel T E' (.tup []) (.tuple #[]) := fun E' => by simp only [Rel, RelL]; exact ⟨[], rfl, rfl⟩
  rcases findNow_abs q mes.toList es 0 m2 hik with ⟨f1, f2, _, f4⟩ | ⟨j, m, v, f1, f2, f3, f4, f5, _, f7⟩
  · obtain ⟨E', e1, e2, e3, e4⟩ := Env.setMap (es' := es) (mes' := mes) (clock' := clock) h2 hb m2 m3
    unfold Oper.wp
    have hrun : (execOp a.eval o).run P E.w = .ok (.value (.tuple #[])) E'.w := by
      unfold execOp; rw [ho]; dsimp only
      simp only [resolve, hcal, Sem.run_bind, Sem.run_pure, Result.andThen_ok, invoke, builtin, ha, hat]
      rw [e1]
      simp [hr.2 _ hb, hq.1, Builtin.delete_, run_underlying hu, MapKept.run_getObj_map m1, hck, MapKept.run_findKey huk f1, MapKept.run_setObj_map _ m1]
    rw [hrun, Oper.upon_value]
    exact hK E' _ _ e4 (h3.trans e3) ((h4.step e3).put hd (tup _)) (by rw [e2, ← f4] ; rw [f4]; rw [f4] at hk; exact hk)
  · have hjl : j < mes.toList.length := (List.getElem?_eq_some_iff.1 f2).1
    have hmj : mes[j]? = some m := by simpa using f2
    have hjs : j < mes.size := by simpa using hjl
    obtain ⟨E', e1, e2, e3, e4⟩ := Env.setMap (es' := es.eraseIdx j) (mes' := mes.eraseIdxIfInBounds j) (clock' := clock) h2 hb (by
      rw [Array.eraseIdxIfInBounds, dif_pos hjs, Array.toList_eraseIdx, map_erase, map_erase, m2]) (by
      rw [Array.eraseIdxIfInBounds, dif_pos hjs, Array.toList_eraseIdx, map_erase, map_erase]
      exact RelL.erase _ _ j m3)
    unfold Oper.wp
    have hrun : (execOp a.eval o).run P E.w = .ok (.value (.tuple #[])) E'.w := by
      unfold execOp; rw [ho]; dsimp only
      simp only [resolve, hcal, Sem.run_bind, Sem.run_pure, Result.andThen_ok, invoke, builtin, ha, hat]
      rw [e1]
      simp [hr.2 _ hb, hq.1, Builtin.delete_, run_underlying hu, MapKept.run_getObj_map m1, hck, MapKept.run_findKey huk f1, MapKept.run_setObj_map _ m1]
    rw [hrun, Oper.upon_value]
    exact hK E' _ _ e4 (h3.trans e3) ((h4.step e3).put hd (tup _)) (by rw [e2, ← f7]; exact hk)
end
end Go.Ab
end

section
namespace Go.Ab
open Go.RowKit
section
variable {T : Tab} {P : Program} (hT : TabOk T P) {E : Env}

/-- A row of one's own, cut short. -/
theorem Env.trunc (hi : Inv T E) {id g m : Nat} {e : TypeId} {al : Bool} {l : List (List AV)} {u : Value} (hu : Rel T E (.own id g) u) (hb : E.st[id]? = some (.row e g al l)) (hm : m ≤ l.length) :
    ∃ E' b cap, u = .slice b l.length cap ∧ l.length ≤ cap ∧ E'.w = E.w ∧ Inv T E' ∧ Step E E' ∧ E'.st = E.st.set id (.row e (g + 1) al (l.take m)) ∧
      Rel T E' (.own id (g + 1)) (.slice (if cap = 0 then b else b.map (·.add (0 * T.cells e))) (m - 0) (cap - 0)) := by
  have hidlt : id < E.st.length := (List.getElem?_eq_some_iff.1 hb).1
  simp only [Rel] at hu
  obtain ⟨_, hu⟩ := hu
  obtain ⟨hu1, hu2⟩ := (hu _ _ _ _ hb).2 rfl
  obtain ⟨h1, h2, h3⟩ := hi.blk id _ hb
  have hlen : (l.take m).length = m := by simp; omega
  have takeM : ∀ (E : Env) (b : Nat) (l : List (List AV)) (n off : Nat), RelM T E b (T.cells e) off l → RelM T E b (T.cells e) off (l.take n) := by
    intro E b l
    induction l with
    | nil => intro n off h; simp only [List.take_nil, RelM]
    | cons c l ih =>
      intro n off h
      cases n with
      | zero => simp only [List.take_zero, RelM]
      | succ n =>
        simp only [RelM] at h
        simp only [List.take_succ_cons, RelM]
        exact ⟨h.1, h.2.1, ih n _ h.2.2⟩
  have hup := Env.upd (T := T) (b' := E.φ id) (blk' := .row e (g + 1) al (l.take m)) (w' := E.w) hi hb rfl rfl rfl (Nat.le_refl _)
    (fun k hk _ => rfl) (by cases al with | true => exact .inl ⟨rfl, rfl⟩ | false => exact .inr (.inr rfl)) (by
      unfold Compat
      dsimp only
      rw [List.getElem?_set_self hidlt]
      exact ⟨g, al, l, hb, Nat.le_succ _, fun h => by omega⟩)
  have hgetid : ∀ b, (E.st.set id b)[id]? = some b := fun b => by rw [List.getElem?_set_self hidlt]
  cases al with
  | true =>
    obtain ⟨cap, c, rfl, e2, e3, e4⟩ := hu1 rfl
    obtain ⟨c2, cap2, q1, q2, q3, q4, q5⟩ := h3 rfl
    rw [e2] at q1; cases q1
    refine ⟨⟨E.w, E.st.set id (.row e (g + 1) true (l.take m)), fun i => if i = id then E.φ id else E.φ i, E.M⟩, _, cap, rfl, e4, rfl, hup.2 ⟨?_, fun h => (by cases h), fun _ => ⟨c, cap2, ?_, q2, by omega, q4, ?_⟩⟩, hup.1, rfl, ?_⟩
    · exact Nat.le_trans (Nat.mul_le_mul_right _ (by omega)) h1
    · dsimp only; rw [if_pos rfl]; exact e2
    · dsimp only; rw [if_pos rfl]; exact takeM _ _ _ _ _ (RelM.step hup.1 _ _ (fun _ => rfl) _ _ q5)
    · simp only [Rel]
      refine ⟨by simpa using hidlt, fun e' g' al' l'' h4 => ?_⟩
      rw [hgetid] at h4
      cases h4
      refine ⟨Nat.le_refl _, fun _ => ⟨fun _ => ⟨cap, c, ?_, by rw [if_pos trivial]; exact e2, e3, by omega⟩, fun h => (by cases h)⟩⟩
      rw [hlen, if_pos trivial]
      by_cases hc : cap = 0
      · rw [if_pos hc]; simp
      · rw [if_neg hc]; simp [addr_add]
  | false =>
    obtain ⟨b, rfl⟩ := hu2 rfl
    have hl := h2 rfl
    subst hl
    obtain rfl : m = 0 := by simpa using hm
    refine ⟨⟨E.w, E.st.set id (.row e (g + 1) false (([] : List (List AV)).take 0)), fun i => if i = id then E.φ id else E.φ i, E.M⟩, b, 0, rfl, Nat.le_refl _, rfl, hup.2 ⟨by simp, fun _ => rfl, fun h => (by cases h)⟩, hup.1, rfl, ?_⟩
    simp only [Rel]
    refine ⟨by simpa using hidlt, fun e' g' al' l'' h4 => ?_⟩
    rw [hgetid] at h4
    cases h4
    exact ⟨Nat.le_refl _, fun _ => ⟨fun h => (by cases h), fun _ => ⟨b, by simp⟩⟩⟩

theorem run_appendZeros (w : World) (t tn ty e : TypeId) (i : TypeInfo) (z : Value) (b : Option Addr) (ht : P.underlying t = some (.slice e)) (htn : P.underlying tn = some (.int .i64)) (hi : P.info? e = some i) (hz : i.zero = some z)
    (n : Nat) (h0 : 0 < n) (hs : 0 < i.size) (h63 : n ≤ 140737488355328) (h48 : n * i.bytes ≤ 140737488355328) :
    (Builtin.append_ #[t, tn] ty #[.slice b 0 0, .int .i64 n]).run P w =
      .ok (.slice (some ⟨w.heap.size, 0, none⟩) n (grownCap w n 0 e)) (w.drew.alloc (.cells (Builtin.zeroCells z.cells n ++ Builtin.zeroCells z.cells (grownCap w n 0 e - n)) e)) := by
  have hn : n ≠ 0 := by omega
  have hw : IntKind.i64.wrap (n : Int) = n := by rw [IntKind.wrap_i64]; omega
  have h63' : ¬ (9223372036854775807 < (n : Int)) := by omega
  have h48' : ¬ (281474976710656 < Builtin.nextslicecap n 0 * i.bytes) := by rw [nextslicecap_zero h0]; omega
  have h48i : ¬ (281474976710656 < (n : Int) * (i.bytes : Int)) := by rw [← Int.natCast_mul]; omega
  have hneg : ¬ ((n : Int) < 0) := by omega
  have hns : ¬ (n * i.size = 0) := Nat.mul_ne_zero hn (by omega)
  cases b with
  | none => simp [Builtin.append_, run_underlying ht, run_underlying htn, sizeOf, typeInfo, zeroValue, hi, hz, asInt, asIntOf, hw, hn, hneg, hns, h63', h48', h48i, Question.forced, run_firstCells_none, newRow, grownCap]
  | some b => simp [Builtin.append_, run_underlying ht, run_underlying htn, sizeOf, typeInfo, zeroValue, hi, hz, asInt, asIntOf, hw, hn, hneg, hns, h63', h48', h48i, Question.forced, Builtin.firstCells, loadCells, loadCellsFrom, newRow, grownCap]

theorem zeroCells_rel {E : Env} {z : Value} (hz : z.cells.toList.all (·.oneCell') = true) (h0 : 0 < z.cells.size) : ∀ n, RelF T E z.cells.size (List.replicate n (z.cells.toList.map AV.ofConst)) (Builtin.zeroCells z.cells n).toList := by
  intro n
  have key : ∀ n, (Builtin.zeroCells z.cells n).toList = (List.replicate n z.cells.toList).flatten := by
    intro n
    apply List.ext_getElem?
    intro j
    induction n generalizing j with
    | zero => simp [Builtin.zeroCells]
    | succ n ih =>
      rw [List.replicate_succ, List.flatten_cons]
      by_cases hj : j < z.cells.size
      · rw [List.getElem?_append_left (by simpa using hj)]
        have h1 : j < (n + 1) * z.cells.size := by rw [Nat.succ_mul]; omega
        have h2 : j % z.cells.size = j := Nat.mod_eq_of_lt hj
        simp [Builtin.zeroCells, h1, h2, getElem!_pos, hj]
      · rw [List.getElem?_append_right (by simp; omega)]
        have := ih (j - z.cells.size)
        rw [show z.cells.toList.length = z.cells.size by simp]
        rw [← this]
        simp only [Builtin.zeroCells, Array.toList_map, Array.toList_range, List.getElem?_map]
        by_cases h1 : j < (n + 1) * z.cells.size
        · have h2 : j - z.cells.size < n * z.cells.size := by rw [Nat.succ_mul] at h1; omega
          rw [List.getElem?_range h1, List.getElem?_range h2]
          have h3 : (j - z.cells.size) % z.cells.size = j % z.cells.size := by
            conv => rhs; rw [show j = j - z.cells.size + z.cells.size by omega]
            rw [Nat.add_mod_right]
          simp [h3]
        · have h2 : ¬ j - z.cells.size < n * z.cells.size := by rw [Nat.succ_mul] at h1; omega
          rw [List.getElem?_eq_none (by simp; omega), List.getElem?_eq_none (by simp; omega)]
  rw [key]
  induction n with
  | zero => simp [RelF]
  | succ n ih =>
    rw [List.replicate_succ, List.replicate_succ, List.flatten_cons]
    simp only [RelF]
    exact ⟨z.cells.toList, _, rfl, by simp, relC_consts T E _ hz, ih⟩

include hT in
/-- append of so many zeros onto nil. -/
theorem appendZeros_core (hi : Inv T E) {t tn e : TypeId} {i : TyI} {u : Value} {n : Nat} (ty : TypeId) (hu : ∃ b, u = .slice b 0 0) (hte : sliceElem T t = some e) (hTe : T e = some i) (hz : zeroOk i) (hzl : (zeroA i).length = i.cells) (hc0 : 0 < i.cells)
    (htn : P.underlying tn = some (.int .i64)) (hn : 0 < n) (hbd : n * i.bytes ≤ 140737488355328) (hb0 : 0 < i.bytes) :
    ∃ v E', (Builtin.append_ #[t, tn] ty #[u, .int .i64 n]).run P E.w = .ok v E'.w ∧ Inv T E' ∧ Step E E' ∧ E'.st = E.st ++ [.row e 0 true (List.replicate n (zeroA i))] ∧ Rel T E' (.own E.st.length 0) v := by
  obtain ⟨b, rfl⟩ := hu
  obtain ⟨j, d, hj, _, _, _, hjs, hjb, hjz⟩ := hT e i hTe
  have hund := under_slice hT hte
  unfold zeroOk at hz
  unfold zeroA at hzl ⊢
  cases hzz : i.zero with
  | none => simp [hzz] at hz
  | some z =>
    simp only [hzz] at hz hzl ⊢
    have hzs : z.cells.size = i.cells := by simpa using hzl
    have h47 : n ≤ 140737488355328 := Nat.le_trans (Nat.le_mul_of_pos_right _ hb0) hbd
    have hrun := run_appendZeros (P := P) E.w t tn ty e j z b hund htn hj (hjz.trans hzz) n hn (by omega) h47 (by rw [hjb]; exact hbd)
    have hg1 := grownCap_ge E.w n 0 e
    have hg2 := grownCap_le_maxLen E.w n 0 e (by unfold maxLen; omega)
    generalize hcc : Builtin.zeroCells z.cells n ++ Builtin.zeroCells z.cells (grownCap E.w n 0 e - n) = cc at hrun
    have hn2 := Env.new (T := T) (E := { E with w := E.w.drew }) (Env.ext hi (w' := E.w.drew) rfl rfl rfl (Nat.le_refl _) (fun _ _ => rfl)).2 (.cells cc e) (.row e 0 true (List.replicate n (z.cells.toList.map AV.ofConst)))
    have s1 := (Env.ext hi (w' := E.w.drew) rfl rfl rfl (Nat.le_refl _) (fun _ _ => rfl)).1
    have hce : T.cells e = i.cells := by simp [Tab.cells, hTe]
    have hbe : T.bytes e = i.bytes := by simp [Tab.bytes, hTe]
    have hsz : cc.size = grownCap E.w n 0 e * i.cells := by
      rw [← hcc, Array.size_append, size_zeroCells, size_zeroCells, hzs, ← Nat.add_mul]; congr 1; omega
    have hheap : (E.w.drew.alloc (.cells cc e)).heap[E.w.drew.heap.size]? = some (.cells cc e (0, 0)) := heap_alloc_new E.w.drew _
    refine ⟨_, ⟨E.w.drew.alloc (.cells cc e), E.st ++ [.row e 0 true (List.replicate n (z.cells.toList.map AV.ofConst))], fun i => if i = E.st.length then E.w.drew.heap.size else E.φ i, E.M⟩, hrun, hn2.2 ⟨by simp [hbe]; exact hbd, fun h => (by cases h), fun _ => ⟨cc, grownCap E.w n 0 e, ?_, by rw [hce]; exact hsz, by simpa using hg1, hg2, ?_⟩⟩, s1.trans hn2.1, rfl, ?_⟩
    · dsimp only; rw [if_pos rfl]; exact hheap
    · dsimp only; rw [if_pos rfl, hce]
      refine RelM.of_flat (c := cc.toList) (fun jj v hjj => ?_) _ (Builtin.zeroCells z.cells n).toList 0 ?_ (fun jj hjj => ?_)
      · show (E.w.drew.alloc (.cells cc e)).cell? ⟨E.w.drew.heap.size, jj, none⟩ = some v
        rw [World.cell?_alloc_new]; simpa using hjj
      · have := zeroCells_rel (T := T) (E := ⟨E.w.drew.alloc (.cells cc e), E.st ++ [.row e 0 true (List.replicate n (z.cells.toList.map AV.ofConst))], fun i => if i = E.st.length then E.w.drew.heap.size else E.φ i, E.M⟩) hz (by omega) n
        rw [hzs] at this; exact this
      · rw [← hcc, Nat.zero_add, Array.toList_append, List.getElem?_append_left hjj]
    · simp only [Rel]
      refine ⟨by simp, fun e' g' al' l'' h4 => ?_⟩
      simp only [List.getElem?_append_right (Nat.le_refl _), Nat.sub_self, List.getElem?_cons_zero, Option.some.injEq, Blk.row.injEq] at h4
      obtain ⟨rfl, rfl, rfl, rfl⟩ := h4
      exact ⟨Nat.le_refl _, fun _ => ⟨fun _ => ⟨grownCap E.w n 0 e, cc, by rw [if_pos trivial]; simp, by rw [if_pos trivial]; exact hheap, by rw [hce]; exact hsz, by simpa using hg1⟩, fun h => (by cases h)⟩⟩
end
end Go.Ab
end

section
namespace Go.Ab
open Go.RowKit
/-- What is left of a row when a part of it is cleared. -/
def clearL (l : List (List AV)) (lo n : Nat) (z : List AV) : List (List AV) := l.take lo ++ List.replicate n z ++ l.drop (lo + n)
theorem clearL_zero (l : List (List AV)) (lo : Nat) (z : List AV) : clearL l lo 0 z = l := by simp [clearL]
theorem clearL_succ (l : List (List AV)) (lo n : Nat) (z : List AV) (h : lo + (n + 1) ≤ l.length) : clearL (l.set lo z) (lo + 1) n z = clearL l lo (n + 1) z := by
  unfold clearL
  have h1 : (l.set lo z).take (lo + 1) = l.take lo ++ [z] := by
    rw [List.take_set, List.take_add_one, List.getElem?_eq_getElem (by omega)]
    simp only [Option.toList_some]
    rw [List.set_append_right _ _ (by simp; omega)]
    simp [show lo - min lo l.length = 0 by omega]
  have h2 : (l.set lo z).drop (lo + 1 + n) = l.drop (lo + (n + 1)) := by
    rw [List.drop_set, if_pos (by omega)]; congr 1; omega
  rw [h1, h2, List.replicate_succ]
  simp
theorem zeroCells_succ (z : Array Value) (n : Nat) (h0 : 0 < z.size) : (Builtin.zeroCells z (n + 1)).toList = z.toList ++ (Builtin.zeroCells z n).toList := by
  apply List.ext_getElem?
  intro j
  by_cases hj : j < z.size
  · rw [List.getElem?_append_left (by simpa using hj)]
    have h1 : j < (n + 1) * z.size := by rw [Nat.succ_mul]; omega
    have h2 : j % z.size = j := Nat.mod_eq_of_lt hj
    simp [Builtin.zeroCells, h1, h2, getElem!_pos, hj]
  · rw [List.getElem?_append_right (by simp; omega)]
    rw [show z.toList.length = z.size by simp]
    simp only [Builtin.zeroCells, Array.toList_map, Array.toList_range, List.getElem?_map]
    by_cases h1 : j < (n + 1) * z.size
    · have h2 : j - z.size < n * z.size := by rw [Nat.succ_mul] at h1; omega
      rw [List.getElem?_range h1, List.getElem?_range h2]
      have h3 : (j - z.size) % z.size = j % z.size := by
        conv => rhs; rw [show j = j - z.size + z.size by omega]
        rw [Nat.add_mod_right]
      simp [h3]
    · have h2 : ¬ j - z.size < n * z.size := by rw [Nat.succ_mul] at h1; omega
      rw [List.getElem?_eq_none (by simp; omega), List.getElem?_eq_none (by simp; omega)]
theorem storeCells_shift (x a b : Nat) (vs : List Value) : ∀ i j, a + i = b + j → storeCells ⟨x, a, none⟩ vs i = storeCells ⟨x, b, none⟩ vs j := by
  induction vs with
  | nil => intros; rfl
  | cons v vs ih =>
    intro i j h
    have e : (⟨x, a, none⟩ : Addr).add i = (⟨x, b, none⟩ : Addr).add j := by rw [addr_add, addr_add, h]
    simp only [storeCells, e]
    rw [ih (i + 1) (j + 1) (by omega)]
theorem storeCells_app (P : Program) (x a : Nat) (us vs : List Value) : ∀ (i : Nat) (w w1 : World), (storeCells ⟨x, a, none⟩ us i).run P w = .ok () w1 → (storeCells ⟨x, a, none⟩ (us ++ vs) i).run P w = (storeCells ⟨x, a + us.length, none⟩ vs i).run P w1 := by
  induction us with
  | nil => intro i w w1 h; simp only [storeCells, Sem.run_pure, Result.ok.injEq] at h; obtain ⟨_, rfl⟩ := h; rfl
  | cons v us ih =>
    intro i w w1 h
    simp only [List.cons_append, storeCells, Sem.run_bind] at h ⊢
    cases hs : (store ((⟨x, a, none⟩ : Addr).add i) v).run P w with
    | ok u w2 =>
      rw [hs] at h
      simp only [Result.andThen_ok] at h ⊢
      rw [ih (i + 1) w2 w1 h, storeCells_shift x (a + us.length) (a + (us.length + 1)) vs (i + 1) i (by omega)]
      simp
    | _ => rw [hs] at h; cases h
section
variable {T : Tab} {P : Program} (hT : TabOk T P) {E0 : Env} {n : Nat} {σ : Slots} {st : St} {ops : Array Oper} {o : Oper} {k : Slots → St → Prop}
theorem relM_elen {E : Env} {b kk : Nat} : ∀ (l : List (List AV)) (o i : Nat) (h : i < l.length), RelM T E b kk o l → l[i].length = kk
  | [], _, _, h, _ => by simp at h
  | e :: l, o, 0, _, hr => by simp only [RelM] at hr; simpa using hr.1
  | e :: l, o, i + 1, h, hr => by simp only [RelM] at hr; simpa using relM_elen l _ i (by simpa using h) hr.2.2
theorem set_self {α : Type} {l : List α} {i : Nat} {x : α} (h : l[i]? = some x) : l.set i x = l := by
  apply List.ext_getElem?
  intro j
  by_cases hj : i = j
  · subst hj; rw [List.getElem?_set_self (List.getElem?_eq_some_iff.1 h).1, h]
  · rw [List.getElem?_set_ne hj]
theorem Env.clearRow {z : Array Value} {e : TypeId} {g id : Nat} (hz : z.toList.all (·.oneCell') = true) (h0 : 0 < z.size) (hze : z.size = T.cells e) : ∀ (m lo : Nat) (l : List (List AV)) (E : Env), Inv T E → E.st[id]? = some (.row e g true l) → lo + m ≤ l.length →
    ∃ E', (storeCells ⟨E.φ id, lo * T.cells e, none⟩ (Builtin.zeroCells z m).toList).run P E.w = .ok () E'.w ∧ E'.st = E.st.set id (.row e g true (clearL l lo m (z.toList.map AV.ofConst))) ∧ Step E E' ∧ Inv T E'
  | 0, lo, l, E, hi, hb, hle => by
    refine ⟨E, ?_, ?_, Step.refl E, hi⟩
    · have : (Builtin.zeroCells z 0).toList = [] := by simp [Builtin.zeroCells]
      rw [this]; rfl
    · rw [clearL_zero]
      exact (set_self hb).symm
  | m + 1, lo, l, E, hi, hb, hle => by
    have hidlt : id < E.st.length := (List.getElem?_eq_some_iff.1 hb).1
    have hlo : lo < l.length := by omega
    have hc : l[lo]? = some l[lo] := List.getElem?_eq_getElem hlo
    obtain ⟨h1, h2, h3⟩ := hi.blk id _ hb
    obtain ⟨cc, cap, q1, q2, q3, q4, q5⟩ := h3 rfl
    have hcl : l[lo].length = T.cells e := relM_elen l 0 lo hlo q5
    obtain ⟨E1, r1, r2, r3, r4⟩ := Env.storeRow (P := P) (f := 0) (ds := z.toList.map AV.ofConst) (us := z.toList) hi hb hc (relC_consts T E _ hz) (by simp; omega)
    have hsp : splice l[lo] 0 (z.toList.map AV.ofConst) = z.toList.map AV.ofConst := by
      unfold splice
      simp [hcl, ← hze]
    rw [hsp] at r2
    have hb1 : E1.st[id]? = some (.row e g true (l.set lo (z.toList.map AV.ofConst))) := by rw [r2, List.getElem?_set_self hidlt]
    obtain ⟨E2, s1, s2, s3, s4⟩ := Env.clearRow hz h0 hze m (lo + 1) _ E1 r4 hb1 (by rw [List.length_set]; omega)
    have hφ : E1.φ id = E.φ id := by
      have hc := r3.compat id hidlt
      unfold Compat at hc
      rw [hb1] at hc
      obtain ⟨g', al', l', c1, c2, c3⟩ := hc
      rw [hb] at c1
      cases c1
      exact ((c3 rfl).2 rfl).1
    refine ⟨E2, ?_, ?_, r3.trans s3, s4⟩
    · rw [zeroCells_succ _ _ h0]
      have := storeCells_app P (E.φ id) (lo * T.cells e) z.toList (Builtin.zeroCells z m).toList 0 E.w E1.w (by simpa using r1)
      rw [this, ← s1, hφ]
      congr 2
      rw [Nat.succ_mul]; simp [hze]
    · rw [s2, r2, List.set_set, clearL_succ _ _ _ _ hle]
include hT in
/-- clear of a part of a row. -/
theorem AO.clear {c : Call} {t e : TypeId} {i : TyI} {x : Operand} {id g lo m : Nat} {l : List (List AV)} (ho : o.op = .call c) (hcal : c.callee = .builtin .clear) (ha : c.args = #[x]) (hat : c.argTypes = #[t])
    (hg : o.guard = none) (hd : dstOk n o.dst) (hx : gok (ev σ x))
    (hxv : sv σ x = .sub id g lo m) (hb : st[id]? = some (.row e g true l)) (hte : sliceElem T t = some e) (hTe : T e = some i) (hz : zeroOk i) (hzl : (zeroA i).length = i.cells) (hc0 : 0 < i.cells) (hle : lo + m ≤ l.length)
    (hk : k (σ.put o.dst (.tup [])) (st.set id (.row e g true (clearL l lo m (zeroA i))))) : AO T P E0 n ops o k σ st := by
  intro E a h1 h2 h3 h4 K Q hK
  rw [if_pos (by simp [Region.wanted, hg])]
  subst h1
  have hr := h4.sv hx
  rw [hxv] at hr
  simp only [Rel] at hr
  obtain ⟨_, hr⟩ := hr
  obtain ⟨_, hr⟩ := hr _ _ _ _ hb
  obtain ⟨aa, cap, r1, r2, r3⟩ := hr rfl
  obtain ⟨j, d, hj, _, _, _, hjs, hjb, hjz⟩ := hT e i hTe
  have hund := under_slice hT hte
  unfold zeroOk at hz
  unfold zeroA at hzl hk
  cases hzz : i.zero with
  | none => simp [hzz] at hz
  | some z =>
    simp only [hzz] at hz hzl hk
    have hzs : z.cells.size = i.cells := by simpa using hzl
    have hce : T.cells e = i.cells := by simp [Tab.cells, hTe]
    have tup : ∀ E', Rel T E' (.tup []) (.tuple #[]) := fun E' => by simp only [Rel, RelL]; exact ⟨[], rfl, rfl⟩
    obtain ⟨E', s1, s2, s3, s4⟩ := Env.clearRow (P := P) (z := z.cells) hz (by omega) (by omega) m lo l E h2 hb hle
    unfold Oper.wp
    have hrun : (execOp a.eval o).run P E.w = .ok (.value (.tuple #[])) E'.w := by
      unfold execOp; rw [ho]; dsimp only
      simp only [resolve, hcal, Sem.run_bind, Sem.run_pure, Result.andThen_ok, invoke, builtin, ha, hat]
      rcases Nat.eq_zero_or_pos m with hm | hm
      · subst hm
        have : E'.w = E.w := by
          have e0 : (Builtin.zeroCells z.cells 0).toList = [] := by simp [Builtin.zeroCells]
          rw [e0] at s1
          simp only [storeCells, Sem.run_pure, Result.ok.injEq] at s1
          exact s1.2.symm
        rw [this]
        cases aa <;> simp [r1, Builtin.clear_, run_underlying hund]
      · rcases r3 with r3 | ⟨_, r3⟩
        · omega
        · subst r3
          have hm' : m ≠ 0 := by omega
          obtain ⟨m, rfl⟩ : ∃ q, m = q + 1 := ⟨m - 1, by omega⟩
          simp [r1, Builtin.clear_, run_underlying hund, zeroValue, typeInfo, hj, hjz.trans hzz, s1]
    rw [hrun, Oper.upon_value]
    exact hK E' _ _ s4 (h3.trans s3) ((h4.step s3).put hd (tup _)) (by rw [s2]; exact hk)
end
end Go.Ab
end
