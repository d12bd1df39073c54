/- Conditions of code over abstract values, and that they suffice: for any program whose types are as a table says. -/
import Derived.Test.YtbkflaajlkopaaaGreatW1
import Derived.RangeFuncNested
import Derived.RangeFuncLeaves
import Derived.OrdersIn
import Derived.KernelRfl
set_option linter.unusedSimpArgs false
set_option linter.unusedVariables false
set_option linter.unusedSectionVars false
set_option linter.unnecessarySimpa false
section
namespace Go.Ab
open Go.RowKit

def goksL : List AV → Prop
  | [] => True
  | x :: xs => gok x ∧ goksL xs
theorem goksL_spec {σ : Slots} : ∀ {l : List Operand}, goksL (l.map (ev σ)) → ∀ x ∈ l, gok (ev σ x)
  | _ :: _, h, x, hx => by
    rcases List.mem_cons.1 hx with rfl | hx
    · exact h.1
    · exact goksL_spec h.2 x hx

/-- Saying less. -/
def leV : AV → AV → Prop
  | .nils, .lst _ l => l = []
  | .agg cs, .agg ds => leL cs ds
  | .tup cs, .tup ds => leL cs ds
  | x, y => x = y
where leL : List AV → List AV → Prop
  | [], [] => True
  | x :: xs, y :: ys => leV x y ∧ leL xs ys
  | _, _ => False

mutual
theorem leV_rel {T : Tab} {E : Env} : ∀ (x y : AV) (u : Value), leV x y → Rel T E x u → Rel T E y u
  | .sc v, y, u, h, hr => by simp only [leV] at h; subst h; exact hr
  | .agg cs, y, u, h, hr => by
    cases y <;> simp only [leV] at h <;> try (cases h)
    rename_i ds
    simp only [Rel] at hr ⊢
    obtain ⟨vs, h1, h2⟩ := hr
    exact ⟨vs, h1, leV_relC cs ds vs h h2⟩
  | .tup cs, y, u, h, hr => by
    cases y <;> simp only [leV] at h <;> try (cases h)
    rename_i ds
    simp only [Rel] at hr ⊢
    obtain ⟨vs, h1, h2⟩ := hr
    exact ⟨vs, h1, leV_relL cs ds vs h h2⟩
  | .lst e l, y, u, h, hr => by simp only [leV] at h; subst h; exact hr
  | .nils, y, u, h, hr => by
    cases y <;> simp only [leV] at h <;> try (cases h)
    · simp only [Rel] at hr ⊢
      obtain ⟨b, rfl⟩ := hr
      exact ⟨by simp, by simp, b, 0, rfl, by simp, .inl trivial⟩
    · exact hr
  | .own id g, y, u, h, hr => by simp only [leV] at h; subst h; exact hr
  | .ptr id off, y, u, h, hr => by simp only [leV] at h; subst h; exact hr
  | .rptr id g i f, y, u, h, hr => by simp only [leV] at h; subst h; exact hr
  | .sub id g i f, y, u, h, hr => by simp only [leV] at h; subst h; exact hr
  | .eptr cs, y, u, h, hr => by simp only [leV] at h; subst h; exact hr
  | .fn f fs cs, y, u, h, hr => by simp only [leV] at h; subst h; exact hr
  | .mp id, y, u, h, hr => by simp only [leV] at h; subst h; exact hr
  | .gate c x, y, u, h, hr => by simp only [leV] at h; subst h; exact hr
  | .any, y, u, h, hr => by simp only [leV] at h; subst h; exact hr
theorem leV_relL {T : Tab} {E : Env} : ∀ (xs ys : List AV) (vs : List Value), leV.leL xs ys → RelL T E xs vs → RelL T E ys vs
  | [], ys, vs, h, hr => by cases ys <;> simp only [leV.leL] at h; exact hr
  | x :: xs, ys, vs, h, hr => by
    cases ys <;> simp only [leV.leL] at h
    simp only [RelL] at hr ⊢
    obtain ⟨v, r, h1, h2, h3⟩ := hr
    exact ⟨v, r, h1, leV_rel x _ v h.1 h2, leV_relL xs _ r h.2 h3⟩
theorem leV_relC {T : Tab} {E : Env} : ∀ (xs ys : List AV) (vs : List Value), leV.leL xs ys → RelC T E xs vs → RelC T E ys vs
  | [], ys, vs, h, hr => by cases ys <;> simp only [leV.leL] at h; exact hr
  | x :: xs, ys, vs, h, hr => by
    cases ys <;> simp only [leV.leL] at h
    simp only [RelC] at hr ⊢
    obtain ⟨v, r, h1, h2, h4, h3⟩ := hr
    exact ⟨v, r, h1, leV_rel x _ v h.1 h2, h4, leV_relC xs _ r h.2 h3⟩
end

mutual
/-- What a value is once nothing is written any more. -/
def AV.frz (st : St) : AV → AV
  | .own id g => match st[id]? with | some (.row e g' _ l) => if g' = g then .lst e l else .any | _ => .any
  | .agg cs => .agg (AV.frzL st cs)
  | .tup cs => .tup (AV.frzL st cs)
  | x => x
def AV.frzL (st : St) : List AV → List AV
  | [] => []
  | x :: xs => AV.frz st x :: AV.frzL st xs
end

section
variable {T : Tab} {E : Env}

/-- The same memory, all numbers forgotten. -/
def Env.bare (E : Env) : Env := ⟨E.w, [], fun _ => 0, E.M⟩

theorem Env.stable_bare {b : Nat} (h : E.stable b) : E.bare.stable b :=
  ⟨h.1, fun hm => h.2 (by
    rcases hm with hm | ⟨id, blk, h1, _⟩
    · exact .inl hm
    · simp [Env.bare] at h1)⟩

mutual
theorem rel_frz (hi : Inv T E) : ∀ (x : AV) (u : Value), (x.frz E.st).pure = true → Rel T E x u → Rel T E.bare (x.frz E.st) u
  | .own id g, u, hp, hr => by
    simp only [AV.frz] at hp ⊢
    simp only [Rel] at hr
    cases hb : E.st[id]? with
    | none => simp only [Rel]
    | some blk =>
      cases blk <;> simp only [hb, Rel] at hp ⊢
      rename_i e g' al l
      by_cases hg : g' = g
      · rw [if_pos hg] at hp ⊢
        obtain ⟨k1, k2⟩ := (hr.2 _ _ _ _ hb).2 hg
        obtain ⟨m1, m2, m3⟩ := hi.blk id _ hb
        simp only [Rel]
        cases al with
        | true =>
          obtain ⟨cap, c, e1, e2, e3, e6⟩ := k1 rfl
          obtain ⟨c', cap', q1, q2, q3, q4, q5⟩ := m3 rfl
          have hlt := hi.lt id _ hb rfl
          refine ⟨m1, Nat.le_trans q3 q4, _, cap, e1, e6, .inr ⟨_, _, rfl, ⟨hlt.1, fun hm => ?_⟩, ?_⟩⟩
          · rcases hm with hm | ⟨i2, b2, h2, _⟩
            · exact hlt.2 hm
            · simp [Env.bare] at h2
          · exact RelM.pureTo (E := E) (F := E.bare) rfl (fun b hb => Env.stable_bare hb) _ _ l 0 (by simpa only [AV.pure] using hp) q5
        | false =>
          obtain ⟨b, e1⟩ := k2 rfl
          have := m2 rfl
          subst this
          exact ⟨by simp, by simp, b, 0, e1, by simp, .inl rfl⟩
      · rw [if_neg hg]; simp only [Rel]
  | .agg cs, u, hp, hr => by
    simp only [AV.frz] at hp ⊢
    simp only [Rel] at hr ⊢
    obtain ⟨vs, h1, h2⟩ := hr
    exact ⟨vs, h1, relC_frz hi cs vs (by simpa only [AV.pure] using hp) h2⟩
  | .tup cs, u, hp, hr => by
    simp only [AV.frz] at hp ⊢
    simp only [Rel] at hr ⊢
    obtain ⟨vs, h1, h2⟩ := hr
    exact ⟨vs, h1, relL_frz hi cs vs (by simpa only [AV.pure] using hp) h2⟩
  | .sc v, u, hp, hr => Rel.pureTo (E := E) (F := E.bare) rfl (fun b hb => Env.stable_bare hb) _ u hp hr
  | .lst e l, u, hp, hr => Rel.pureTo (E := E) (F := E.bare) rfl (fun b hb => Env.stable_bare hb) _ u hp hr
  | .nils, u, hp, hr => Rel.pureTo (E := E) (F := E.bare) rfl (fun b hb => Env.stable_bare hb) _ u hp hr
  | .ptr id off, u, hp, hr => Rel.pureTo (E := E) (F := E.bare) rfl (fun b hb => Env.stable_bare hb) _ u hp hr
  | .sub id g i f, u, hp, hr => Rel.pureTo (E := E) (F := E.bare) rfl (fun b hb => Env.stable_bare hb) _ u hp hr
  | .rptr id g i f, u, hp, hr => Rel.pureTo (E := E) (F := E.bare) rfl (fun b hb => Env.stable_bare hb) _ u hp hr
  | .eptr cs, u, hp, hr => Rel.pureTo (E := E) (F := E.bare) rfl (fun b hb => Env.stable_bare hb) _ u hp hr
  | .fn f fs cs, u, hp, hr => Rel.pureTo (E := E) (F := E.bare) rfl (fun b hb => Env.stable_bare hb) _ u hp hr
  | .mp id, u, hp, hr => Rel.pureTo (E := E) (F := E.bare) rfl (fun b hb => Env.stable_bare hb) _ u hp hr
  | .gate c x, u, hp, hr => Rel.pureTo (E := E) (F := E.bare) rfl (fun b hb => Env.stable_bare hb) _ u hp hr
  | .any, u, hp, hr => Rel.pureTo (E := E) (F := E.bare) rfl (fun b hb => Env.stable_bare hb) _ u hp hr
theorem relC_frz (hi : Inv T E) : ∀ (xs : List AV) (vs : List Value), AV.pureL (AV.frzL E.st xs) = true → RelC T E xs vs → RelC T E.bare (AV.frzL E.st xs) vs
  | [], vs, _, hr => by simpa only [AV.frzL, RelC] using hr
  | x :: xs, vs, hp, hr => by
    simp only [AV.frzL, AV.pureL, Bool.and_eq_true] at hp
    simp only [AV.frzL, RelC] at hr ⊢
    obtain ⟨v, r, h1, h2, h4, h3⟩ := hr
    exact ⟨v, r, h1, rel_frz hi x v hp.1 h2, h4, relC_frz hi xs r hp.2 h3⟩
theorem relL_frz (hi : Inv T E) : ∀ (xs : List AV) (vs : List Value), AV.pureL (AV.frzL E.st xs) = true → RelL T E xs vs → RelL T E.bare (AV.frzL E.st xs) vs
  | [], vs, _, hr => by simpa only [AV.frzL, RelL] using hr
  | x :: xs, vs, hp, hr => by
    simp only [AV.frzL, AV.pureL, Bool.and_eq_true] at hp
    simp only [AV.frzL, RelL] at hr ⊢
    obtain ⟨v, r, h1, h2, h3⟩ := hr
    exact ⟨v, r, h1, rel_frz hi x v hp.1 h2, relL_frz hi xs r hp.2 h3⟩
end
end
end Go.Ab
end

section
namespace Go.Ab
open Go.RowKit

/-- What comes once a slot is filled. -/
def putK (k : Slots → St → Prop) (d : Option Tmp) (σ : Slots) (st : St) (v : AV) : Prop := k (σ.put d v) st
def putKg (k : Slots → St → Prop) (d : Option Tmp) (σ : Slots) (st : St) (c : Bool) (v : AV) : Prop := k (σ.put d (.gate c v)) st
/-- A call, by a contract. -/
def vcCall (T : Tab) (P : Program) (g : FuncId) (xs : List AV) (c : Bool) (kv : AV → Prop) : Prop := ∃ xs' r, (c = true → leV.leL xs xs' ∧ PureCall T P g xs' r) ∧ kv r

section
variable (T : Tab) (P : Program) (n : Nat) (mu : List Nat) (ops : Array Oper)

/-- A quiet operation: what is owed, and what it yields. c: whether it is carried out. -/
def vcQ0 (kn : Bool) (σ : Slots) (st : St) (c : Bool) (o : Oper) (kv : AV → Prop) : Prop :=
  match o.op with
  | .move x => (c = true → gok (ev σ x)) ∧ kv (sv σ x)
  | .assign x => (c = true → gok (ev σ x)) ∧ kv (sv σ x)
  | .load t x => (c = true → gok (ev σ x) ∧ loadOk T st t (sv σ x)) ∧ kv (loadV T st t (sv σ x))
  | .binOp op t x y _ => (c = true → gok (ev σ x) ∧ gok (ev σ y) ∧ binOk T t st op (sv σ x) (sv σ y)) ∧ kv (binV st op (sv σ x) (sv σ y))
  | .unOp op _ x => (c = true → gok (ev σ x) ∧ unOk op (sv σ x)) ∧ kv (unV op (sv σ x))
  | .fieldAddr s x f => (c = true → gok (ev σ x) ∧ faOk T st s (sv σ x) f) ∧ kv (faV T s (sv σ x) f)
  | .extract x i => (c = true → gok (ev σ x) ∧ extractOk (sv σ x) i) ∧ kv (extractV (sv σ x) i)
  | .nilCheck x => (c = true → gok (ev σ x) ∧ nilOk st (sv σ x)) ∧ kv (sv σ x)
  | .makeFunc f fs cs => (c = true → goksL (fs.toList.map (ev σ)) ∧ goksL (cs.toList.map (ev σ))) ∧ kv (.fn f (fs.toList.map (sv σ)) (cs.toList.map (sv σ)))
  | .box _ x => (c = true → gok (ev σ x) ∧ liesOk st (sv σ x)) ∧ kv (.eptr (cellsOf (sv σ x)))
  | .pick b x y => (c = true → gok (ev σ b) ∧ pickOk (sv σ b) (ev σ x) (ev σ y)) ∧ kv (pickV (sv σ b) (ev σ x) (ev σ y))
  | .build t ps => (c = true → goksL (ps.toList.map fun p => ev σ p.2) ∧ buildOk T st t (ps.toList.map fun p => (p.1, sv σ p.2))) ∧ kv (buildV T t (ps.toList.map fun p => (p.1, sv σ p.2)))
  | .buildSlice t len ps => (c = true → goksL (ps.toList.map fun p => ev σ p.2) ∧ buildSliceOk T st t len (ps.toList.map (·.1)) (ps.toList.map fun p => sv σ p.2)) ∧ kv (buildSliceV ((sliceElem T t).getD 0) (ps.toList.map fun p => sv σ p.2))
  | .indexAddr t x ix =>
    match sv σ x with
    | .lst e l =>
      (match sv σ ix with
      | .sc (.int .i64 k) => ∃ cc, (c = true → gok (ev σ x) ∧ gok (ev σ ix) ∧ sliceElem T t = some e ∧ (T e).isSome = true ∧ 0 ≤ k ∧ l[k.toNat]? = some cc) ∧ kv (.eptr cc)
      | _ => False)
    | .own id g =>
      (match sv σ ix with
      | .sc (.int .i64 k) =>
        (match st[id]? with
        | some (.row e g' al l) => (c = true → gok (ev σ x) ∧ gok (ev σ ix) ∧ sliceElem T t = some e ∧ (T e).isSome = true ∧ g' = g ∧ al = true ∧ 0 ≤ k ∧ k < l.length) ∧ kv (.rptr id g k.toNat 0)
        | _ => False)
      | _ => False)
    | .sub id g lo m =>
      (match sv σ ix with
      | .sc (.int .i64 k) =>
        (match st[id]? with
        | some (.row e g' al _) => (c = true → gok (ev σ x) ∧ gok (ev σ ix) ∧ sliceElem T t = some e ∧ (T e).isSome = true ∧ g' = g ∧ al = true ∧ 0 ≤ k ∧ k < m) ∧ kv (.rptr id g (lo + k.toNat) 0)
        | _ => False)
      | _ => False)
    | _ => False
  | .convert s d x => (c = true → gok (ev σ x) ∧ convOk T s d (sv σ x)) ∧ kv (convV T d (sv σ x))
  | .field s x f =>
    (match plainField P s f with
    | some off => (c = true → gok (ev σ x) ∧ cellOk (sv σ x) off) ∧ kv (cellV (sv σ x) off)
    | none => False)
  | .slice t x lo hi mx => (c = true → gok (ev σ x) ∧ goksL ((lo.toList ++ (hi.toList ++ mx.toList)).map (ev σ)) ∧ sliceOk T st t (sv σ x) (lo.map (sv σ)) (hi.map (sv σ)) (mx.map (sv σ))) ∧ kv (sliceV st (sv σ x) (lo.map (sv σ)) (hi.map (sv σ)))
  | .lookup t x ix ok => (c = true → gok (ev σ x) ∧ gok (ev σ ix) ∧ lookupOk T st t (sv σ x) (sv σ ix)) ∧ kv (lookupV T st t (sv σ x) (sv σ ix) ok)
  | .call cl =>
    match cl.callee with
    | .builtin .max =>
      (match cl.args.toList with
      | [x, y] => (c = true → gok (ev σ x) ∧ gok (ev σ y) ∧ intsOk (sv σ x) (sv σ y)) ∧ kv (maxV (sv σ x) (sv σ y))
      | _ => False)
    | .builtin .min =>
      (match cl.args.toList with
      | [x, y] => (c = true → gok (ev σ x) ∧ gok (ev σ y) ∧ intsOk (sv σ x) (sv σ y)) ∧ kv (minV (sv σ x) (sv σ y))
      | _ => False)
    | .builtin .cap =>
      (match cl.args.toList with
      | [x] =>
        (match cl.argTypes.toList with
        | [t] => (c = true → gok (ev σ x) ∧ capOk T t (sv σ x)) ∧ kv (capV (sv σ x))
        | _ => False)
      | _ => False)
    | .builtin .len =>
      (match cl.args.toList with
      | [x] =>
        (match cl.argTypes.toList with
        | [t] => (c = true → gok (ev σ x) ∧ lenOk T st t (sv σ x)) ∧ ((kn = true → c = true → lenKnow T st (sv σ x)) → kv (lenV st (sv σ x)))
        | _ => False)
      | _ => False)
    | .value f =>
      (match callArgs (sv σ f) (cl.args.toList.map (sv σ)) with
      | some (g, xs) => (c = true → gok (ev σ f) ∧ goksL (cl.args.toList.map (ev σ))) ∧ vcCall T P g xs c kv
      | none => False)
    | _ => False
  | _ => False

def vcQ (kn : Bool) (σ : Slots) (st : St) (c : Bool) (o : Oper) (kv : AV → Prop) : Prop :=
  match nilCmp o.op with
  | some (eq, t, x) => kn = true ∧ (c = true → gok (ev σ x) ∧ nilSl st (sv σ x) ∧ descIs T t isSliceK) ∧ ∀ b, nilCan st (sv σ x) b → kv (.sc (.bool (b == eq)))
  | none => vcQ0 T P kn σ st c o kv

/-- An operation that is always carried out. -/
def vcN (kn : Bool) (o : Oper) (k : Slots → St → Prop) (σ : Slots) (st : St) : Prop :=
  match o.op with
  | .alloc t => (match T t with | some i => zeroOk i ∧ k (σ.put o.dst (.ptr st.length 0)) (st ++ [.cells (zeroA i)]) | none => False)
  | .box _ x =>
    if mu.contains (o.dst.getD 0) then gok (ev σ x) ∧ liesOk st (sv σ x) ∧ k (σ.put o.dst (.ptr st.length 0)) (st ++ [.cells (cellsOf (sv σ x))])
    else gok (ev σ x) ∧ liesOk st (sv σ x) ∧ k (σ.put o.dst (.eptr (cellsOf (sv σ x)))) st
  | .store t x y =>
    (match sv σ x with
    | .ptr id off =>
      (match st[id]? with
      | some (.cells cs) => gok (ev σ x) ∧ gok (ev σ y) ∧ liesOk st (sv σ y) ∧ (T t).isSome = true ∧ (cellsOf (sv σ y)).length = T.cells t ∧ off + T.cells t ≤ cs.length ∧ o.dst = none ∧ k σ (st.set id (.cells (splice cs off (cellsOf (sv σ y)))))
      | _ => False)
    | .rptr id g i f =>
      (match st[id]? with
      | some (.row e g' al l) => g' = g ∧ al = true ∧ gok (ev σ x) ∧ gok (ev σ y) ∧ liesOk st (sv σ y) ∧ (T t).isSome = true ∧ (cellsOf (sv σ y)).length = T.cells t ∧ f + T.cells t ≤ T.cells e ∧ o.dst = none ∧ ∃ c, l[i]? = some c ∧ k σ (st.set id (.row e g true (l.set i (splice c f (cellsOf (sv σ y))))))
      | _ => False)
    | _ => False)
  | .makeMap _ none => k (σ.put o.dst (.mp st.length)) (st ++ [.map []])
  | .mapUpdate t x y z =>
    (match sv σ x with
    | .mp id =>
      (match sv σ y with
      | .sc (.int .i64 q) =>
        (match st[id]? with
        | some (.map es) =>
          (match mapElem T t with
          | some (kt, _) => gok (ev σ x) ∧ gok (ev σ y) ∧ gok (ev σ z) ∧ descIs T kt isI64 ∧ intKeys es = true ∧ o.dst = none ∧ k σ (st.set id (.map (mput es q (sv σ z))))
          | none => False)
        | _ => False)
      | .agg [.sc (.int .i64 q1), .sc (.int .i64 q2)] =>
        (match st[id]? with
        | some (.map es) =>
          (match mapElem T t with
          | some (kt, _) => gok (ev σ x) ∧ gok (ev σ y) ∧ gok (ev σ z) ∧ pairT T kt ∧ pairKeys es = true ∧ mgetP es q1 q2 = none ∧ o.dst = none ∧ k σ (st.set id (.map (mputP es q1 q2 (sv σ z))))
          | none => False)
        | _ => False)
      | _ => False)
    | _ => False)
  | .call cl =>
    (match cl.callee with
    | .builtin .delete =>
      (match cl.args.toList with
      | [x, y] =>
        (match cl.argTypes.toList with
        | [t, _] =>
          (match sv σ x with
          | .mp id =>
            (match sv σ y with
            | .sc (.int .i64 q) =>
              (match st[id]? with
              | some (.map es) =>
                (match mapElem T t with
                | some (kt, _) => gok (ev σ x) ∧ gok (ev σ y) ∧ descIs T kt isI64 ∧ intKeys es = true ∧ k (σ.put o.dst (.tup [])) (st.set id (.map (mdel es q)))
                | none => False)
              | _ => False)
            | _ => False)
          | _ => False)
        | _ => False)
      | _ => False)
    | .builtin .clear =>
      (match cl.args.toList with
      | [x] =>
        (match cl.argTypes.toList with
        | [t] =>
          (match sv σ x with
          | .sub id g lo m =>
            (match st[id]? with
            | some (.row e g' al l) =>
              (match T e with
              | some i => g' = g ∧ al = true ∧ gok (ev σ x) ∧ sliceElem T t = some e ∧ zeroOk i ∧ (zeroA i).length = i.cells ∧ 0 < i.cells ∧ lo + m ≤ l.length ∧ k (σ.put o.dst (.tup [])) (st.set id (.row e g true (clearL l lo m (zeroA i))))
              | none => False)
            | _ => False)
          | _ => False)
        | _ => False)
      | _ => False)
    | .builtin .append =>
      (match cl.args.toList with
      | [x, y] =>
        (match cl.argTypes.toList with
        | [t, t'] => t' = t ∧ gok (ev σ x) ∧ gok (ev σ y) ∧
          (match srcOf st (sv σ y) with
          | some l' =>
            (match sv σ x with
            | .own id g =>
              (match st[id]? with
              | some (.row e g' al l) => g' = g ∧ srcElem st e (sv σ y) ∧ sliceElem T t = some e ∧ elemOk T e ∧ (l.length + l'.length) * T.bytes e ≤ 140737488355328 ∧ k (σ.put o.dst (.own id (g + 1))) (st.set id (.row e (g + 1) (al || !l'.isEmpty) (l ++ l')))
              | _ => False)
            | .nils =>
              (match sliceElem T t with
              | some e => True ∧ srcElem st e (sv σ y) ∧ elemOk T e ∧ l'.length * T.bytes e ≤ 140737488355328 ∧ k (σ.put o.dst (.own st.length 1)) (st ++ [.row e 1 (!l'.isEmpty) l'])
              | none => False)
            | _ => False)
          | none => False)
        | _ => False)
      | _ => False)
    | _ => vcQ T P kn σ st true o (putK k o.dst σ st))
  | _ => vcQ T P kn σ st true o (putK k o.dst σ st)

def vcOp (kn : Bool) (o : Oper) (k : Slots → St → Prop) (σ : Slots) (st : St) : Prop :=
  (match o.dst with | some d => d < n | none => True) ∧
  match o.guard with
  | none => vcN T P mu kn o k σ st
  | some (g, want) =>
    match gcond ops σ g want with
    | some c => vcQ T P kn σ st c o (putKg k o.dst σ st c)
    | none => False

/-- Declared and stored into at once, never again. -/
def onceOf (o o2 : Oper) : Option (TypeId × Nat × Operand) :=
  match o.op, o.dst, o.guard, o2.op, o2.dst, o2.guard with
  | .alloc t, some d, none, .store t' (.tmp d') y, none, none => if t' = t ∧ d' = d ∧ mu.contains d = false then some (t, d, y) else none
  | _, _, _, _, _, _ => none

def vcOps : List Oper → (Slots → St → Prop) → Slots → St → Prop
  | [], k, σ, st => k σ st
  | [o], k, σ, st => vcOp T P n mu ops true o k σ st
  | o :: o2 :: os, k, σ, st =>
    match onceOf mu o o2 with
    | some (t, d, y) => d < n ∧ notTmp d y ∧ gok (ev σ y) ∧ liesOk st (sv σ y) ∧
        (match T t with | some i => (match i.zero with | some z => z.cells.size = i.cells | none => False) ∧ (cellsOf (sv σ y)).length = i.cells | none => False) ∧
        vcOps os k (σ.put (some d) (.eptr (cellsOf (sv σ y)))) st
    | none => vcOp T P n mu ops true o (vcOps (o2 :: os) k) σ st
end

section
variable {T : Tab} {P : Program} (hT : TabOk T P) {E0 : Env} {n : Nat} {mu : List Nat} {ops : Array Oper}

theorem toList_one {α : Type} {xs : Array α} {x : α} (h : xs.toList = [x]) : xs = #[x] := by
  cases xs; simp at h; simp [h]
theorem toList_two {α : Type} {xs : Array α} {x y : α} (h : xs.toList = [x, y]) : xs = #[x, y] := by
  cases xs; simp at h; simp [h]

theorem QR.le {E : Env} {o : Oper} {a : Act} {v v' : AV} (h : QR T P E o a v) (hl : leV v v') : QR T P E o a v' := by
  rcases h with ⟨u, w', h1, h2, h3⟩ | ⟨f, args, h1, h2⟩
  · exact .inl ⟨u, w', h1, h2, leV_rel _ _ _ hl h3⟩
  · exact .inr ⟨f, args, h1, h2.mono fun e w' ⟨u, k1, k2, k3⟩ => ⟨u, k1, k2, leV_rel _ _ _ hl k3⟩⟩

theorem PureCall.args_le {g : FuncId} {xs xs' : List AV} {r : AV} (h : PureCall T P g xs' r) (hl : leV.leL xs xs') (hp : AV.pureL xs = true) : PureCall T P g xs r :=
  ⟨h.enter, hp, h.pr, fun w M vs hM hr => h.call w M vs hM (leV_relL _ _ _ hl hr)⟩

mutual
theorem leV_pure : ∀ (x y : AV), leV x y → y.pure = true → x.pure = true
  | .agg cs, y, h, hp => by
    cases y <;> simp only [leV] at h <;> try (cases h)
    simp only [AV.pure] at hp ⊢
    exact leV_pureL _ _ h hp
  | .tup cs, y, h, hp => by
    cases y <;> simp only [leV] at h <;> try (cases h)
    simp only [AV.pure] at hp ⊢
    exact leV_pureL _ _ h hp
  | .nils, _, _, _ => rfl
  | .sc v, y, h, hp => by simp only [leV] at h; subst h; exact hp
  | .lst e l, y, h, hp => by simp only [leV] at h; subst h; exact hp
  | .own id g, y, h, hp => by simp only [leV] at h; subst h; exact hp
  | .ptr id off, y, h, hp => by simp only [leV] at h; subst h; exact hp
  | .rptr id g i f, y, h, hp => by simp only [leV] at h; subst h; exact hp
  | .sub id g i f, y, h, hp => by simp only [leV] at h; subst h; exact hp
  | .eptr cs, y, h, hp => by simp only [leV] at h; subst h; exact hp
  | .fn f fs cs, y, h, hp => by simp only [leV] at h; subst h; exact hp
  | .mp id, y, h, hp => by simp only [leV] at h; subst h; exact hp
  | .gate c x, y, h, hp => by simp only [leV] at h; subst h; exact hp
  | .any, y, h, hp => by simp only [leV] at h; subst h; exact hp
theorem leV_pureL : ∀ (xs ys : List AV), leV.leL xs ys → AV.pureL ys = true → AV.pureL xs = true
  | [], _, _, _ => rfl
  | x :: xs, ys, h, hp => by
    cases ys <;> simp only [leV.leL] at h
    simp only [AV.pureL, Bool.and_eq_true] at hp ⊢
    exact ⟨leV_pure x _ h.1 hp.1, leV_pureL xs _ h.2 hp.2⟩
end

include hT in
theorem vcQ0_sound {σ : Slots} {st : St} {kn c : Bool} {o : Oper} {kv : AV → Prop} (h : vcQ0 T P kn σ st c o kv) (E : Env) (a : Act) (hst : E.st = st) (hi : Inv T E) (hs : RelS T E n σ a) :
    ∃ v, (c = true → QR T P E o a v) ∧ kv v := by
  unfold vcQ0 at h
  split at h
  · rename_i x ho
    exact ⟨_, fun hc => qr_move hs (.inl ho) (h.1 hc), h.2⟩
  · rename_i x ho
    exact ⟨_, fun hc => qr_move hs (.inr ho) (h.1 hc), h.2⟩
  · rename_i t x ho
    exact ⟨_, fun hc => qr_load hT hs hst hi ho (h.1 hc).1 (h.1 hc).2, h.2⟩
  · rename_i op t x y ty ho
    exact ⟨_, fun hc => qr_bin hT hs hst ho (h.1 hc).1 (h.1 hc).2.1 (h.1 hc).2.2, h.2⟩
  · rename_i op t x ho
    exact ⟨_, fun hc => qr_un hs ho (h.1 hc).1 (h.1 hc).2, h.2⟩
  · rename_i s x f ho
    exact ⟨_, fun hc => qr_fieldAddr hT hs hst ho (h.1 hc).1 (h.1 hc).2, h.2⟩
  · rename_i x i ho
    exact ⟨_, fun hc => qr_extract hs ho (h.1 hc).1 (h.1 hc).2, h.2⟩
  · rename_i x ho
    exact ⟨_, fun hc => qr_nilCheck hs hst ho (h.1 hc).1 (h.1 hc).2, h.2⟩
  · rename_i f fs cs ho
    exact ⟨_, fun hc => qr_makeFunc hs ho (goksL_spec (h.1 hc).1) (goksL_spec (h.1 hc).2), h.2⟩
  · rename_i t x ho
    exact ⟨_, fun hc => qr_box hs hst hi ho (h.1 hc).1 (h.1 hc).2, h.2⟩
  · rename_i b x y ho
    exact ⟨_, fun hc => qr_pick hs ho (h.1 hc).1 (h.1 hc).2, h.2⟩
  · rename_i t ps ho
    refine ⟨_, fun hc => qr_build hT hs hst ho (fun p hp => ?_) (h.1 hc).2, h.2⟩
    have := goksL_spec (l := ps.toList.map (·.2)) (σ := σ) (by rw [List.map_map]; exact (h.1 hc).1)
    exact this p.2 (List.mem_map.2 ⟨p, hp, rfl⟩)
  · rename_i t len ps ho
    refine ⟨_, fun hc => qr_buildSlice hT hs hst hi ho (fun p hp => ?_) (h.1 hc).2, h.2⟩
    have := goksL_spec (l := ps.toList.map (·.2)) (σ := σ) (by rw [List.map_map]; exact (h.1 hc).1)
    exact this p.2 (List.mem_map.2 ⟨p, hp, rfl⟩)
  · rename_i t x ix ho
    split at h
    · rename_i e l hx
      split at h
      · rename_i k hk
        obtain ⟨cc, h1, h2⟩ := h
        exact ⟨_, fun hc => qr_indexAddr hT hs ho (h1 hc).1 (h1 hc).2.1 hx hk (h1 hc).2.2.1 (h1 hc).2.2.2.1 (h1 hc).2.2.2.2.1 (h1 hc).2.2.2.2.2, h2⟩
      · exact h.elim
    · rename_i id g hx
      split at h
      · rename_i k hk
        split at h
        · rename_i e g' al l hb
          refine ⟨_, fun hc => ?_, h.2⟩
          obtain ⟨q1, q2, q3, q4, q5, q6, q7, q8⟩ := h.1 hc
          subst q5; subst q6
          exact qr_indexAddr_own hT hs hst ho q1 q2 hx hb hk q3 q4 q7 q8
        · exact h.elim
      · exact h.elim
    · rename_i id g lo m hx
      split at h
      · rename_i k hk
        split at h
        · rename_i e g' al l hb
          refine ⟨_, fun hc => ?_, h.2⟩
          obtain ⟨q1, q2, q3, q4, q5, q6, q7, q8⟩ := h.1 hc
          subst q5; subst q6
          exact qr_indexAddr_sub hT hs hst ho q1 q2 hx hb hk q3 q4 q7 q8
        · exact h.elim
      · exact h.elim
    · exact h.elim
  · rename_i s d x ho
    exact ⟨_, fun hc => qr_convert hT hs ho (h.1 hc).1 (h.1 hc).2, h.2⟩
  · rename_i s x f ho
    split at h
    · rename_i off hf
      exact ⟨_, fun hc => qr_field hs ho (h.1 hc).1 hf (h.1 hc).2, h.2⟩
    · exact h.elim
  · rename_i t x lo hi' mx ho
    refine ⟨_, fun hc => ?_, h.2⟩
    obtain ⟨q1, q2, q3⟩ := h.1 hc
    have q2 := goksL_spec (l := lo.toList ++ (hi'.toList ++ mx.toList)) (σ := σ) q2
    exact qr_slice hT hs hst hi ho q1 (fun y hy => q2 y (by subst hy; simp)) (fun y hy => q2 y (by subst hy; simp)) (fun y hy => q2 y (by subst hy; simp)) q3
  · rename_i t x ix ok ho
    exact ⟨_, fun hc => qr_lookup hT hs hst hi ho (h.1 hc).1 (h.1 hc).2.1 (h.1 hc).2.2, h.2⟩
  · rename_i cl ho
    split at h
    · rename_i hcal
      split at h
      · rename_i x y hxy
        exact ⟨_, fun hc => qr_max hs ho hcal (toList_two hxy) (h.1 hc).1 (h.1 hc).2.1 (h.1 hc).2.2, h.2⟩
      · exact h.elim
    · rename_i hcal
      split at h
      · rename_i x y hxy
        exact ⟨_, fun hc => qr_min hs ho hcal (toList_two hxy) (h.1 hc).1 (h.1 hc).2.1 (h.1 hc).2.2, h.2⟩
      · exact h.elim
    · rename_i hcal
      split at h
      · rename_i x hx
        split at h
        · rename_i t ht
          exact ⟨_, fun hc => qr_cap hT hs ho hcal (toList_one hx) (toList_one ht) (h.1 hc).1 (h.1 hc).2, h.2⟩
        · exact h.elim
      · exact h.elim
    · rename_i hcal
      split at h
      · rename_i x hx
        split at h
        · rename_i t ht
          refine ⟨_, fun hc => qr_len hT hs hst hi ho hcal (toList_one hx) (toList_one ht) (h.1 hc).1 (h.1 hc).2, h.2 fun _ hc => len_know hs hst hi (h.1 hc).1 (h.1 hc).2⟩
        · exact h.elim
      · exact h.elim
    · rename_i f hcal
      split at h
      · rename_i g xs hca
        obtain ⟨h0, xs', r, h1, h2⟩ := h
        refine ⟨r, fun hc => ?_, h2⟩
        obtain ⟨q1, q2⟩ := h0 hc
        obtain ⟨q3, q4⟩ := h1 hc
        exact qr_call hs hi ho hcal q1 (goksL_spec q2) hca (q4.args_le q3 (leV_pureL _ _ q3 q4.pa))
      · exact h.elim
    · exact h.elim
  · exact h.elim

include hT in
theorem vcQ_sound {σ : Slots} {st : St} {kn c : Bool} {o : Oper} {kv : AV → Prop} (h : vcQ T P kn σ st c o kv) (E : Env) (a : Act) (hst : E.st = st) (hi : Inv T E) (hs : RelS T E n σ a) :
    ∃ v, (c = true → QR T P E o a v) ∧ kv v := by
  unfold vcQ at h
  split at h
  · rename_i eq t x ho
    obtain ⟨_, h1, h2⟩ := h
    cases hcb : c with
    | true =>
      obtain ⟨q1, q2, q3⟩ := h1 hcb
      obtain ⟨b, k1, k2⟩ := qr_nilcmp hT hs hst hi ho q1 q2 q3
      exact ⟨_, fun _ => k2, h2 b k1⟩
    | false =>
      refine ⟨_, fun hf => (by cases hf), h2 false ?_⟩
      unfold nilCan
      split
      · exact fun hf => by cases hf
      · split
        · exact fun hf => by cases hf
        · trivial
      · trivial
  · exact vcQ0_sound hT h E a hst hi hs

include hT in
theorem vcN_sound {σ : Slots} {st : St} {kn : Bool} {o : Oper} {k : Slots → St → Prop} (hg : o.guard = none) (hd : dstOk n o.dst) (h : vcN T P mu kn o k σ st) : AO T P E0 n ops o k σ st := by
  have quiet : vcQ T P kn σ st true o (putK k o.dst σ st) → AO T P E0 n ops o k σ st := fun h =>
    AO.quiet hg hd fun E a h1 h2 h3 => by
      obtain ⟨v, k1, k2⟩ := vcQ_sound hT h E a h1 h2 h3
      exact ⟨v, k1 rfl, k2⟩
  unfold vcN at h
  split at h
  · rename_i t ho
    split at h
    · rename_i i hTt
      exact AO.alloc hT ho hg hd hTt h.1 h.2
    · exact h.elim
  · rename_i t x ho
    split at h
    · exact AO.boxMut ho hg hd h.1 h.2.1 h.2.2
    · exact AO.quiet hg hd fun E a h1 h2 h3 => ⟨_, qr_box h3 h1 h2 ho h.1 h.2.1, h.2.2⟩
  · rename_i t x y ho
    split at h
    · rename_i id off hx
      split at h
      · rename_i cs hb
        obtain ⟨q1, q2, q3, q4, q5, q6, q7, q8⟩ := h
        exact AO.store hT ho hg q7 q1 q2 hx hb q3 q4 q5 q6 q8
      · exact h.elim
    · rename_i id g i f hx
      split at h
      · rename_i e g' al l hb
        obtain ⟨rfl, rfl, q1, q2, q3, q4, q5, q6, q7, c, q8, q9⟩ := h
        exact AO.storeRow hT ho hg q7 q1 q2 hx hb q8 q3 q4 q5 q6 q9
      · exact h.elim
    · exact h.elim
  · rename_i t ho
    exact AO.makeMap ho hg hd h
  · rename_i t x y z ho
    split at h
    · rename_i id hx
      split at h
      · rename_i q hy
        split at h
        · rename_i es hb
          split at h
          · rename_i kt e he
            obtain ⟨q1, q2, q3, q4, q5, q6, q7⟩ := h
            exact AO.mapUpdate hT ho hg q6 q1 q2 q3 hx hy hb he q4 q5 q7
          · exact h.elim
        · exact h.elim
      · rename_i qa qb hy
        split at h
        · rename_i es hb
          split at h
          · rename_i kt e he
            obtain ⟨q1, q2, q3, q4, q5, q6, q7, q8⟩ := h
            exact AO.mapUpdateP hT ho hg q7 q1 q2 q3 hx hy hb he q4 q5 q6 q8
          · exact h.elim
        · exact h.elim
      · exact h.elim
    · exact h.elim
  · rename_i cl ho
    split at h
    · rename_i hcal
      split at h
      · rename_i x y hxy
        split at h
        · rename_i t t' htt
          split at h
          · rename_i id hx
            split at h
            · rename_i q hy
              split at h
              · rename_i es hb
                split at h
                · rename_i kt e he
                  obtain ⟨q1, q2, q3, q4, q5⟩ := h
                  exact AO.delete hT ho hcal (toList_two hxy) (toList_two htt) hg hd q1 q2 hx hy hb he q3 q4 q5
                · exact h.elim
              · exact h.elim
            · exact h.elim
          · exact h.elim
        · exact h.elim
      · exact h.elim
    · rename_i hcal
      split at h
      · rename_i x hxx
        split at h
        · rename_i t htt
          split at h
          · rename_i id g lo m hx
            split at h
            · rename_i e g' al l hb
              split at h
              · rename_i i hi
                obtain ⟨rfl, rfl, q1, q2, q3, q4, q5, q6, q7⟩ := h
                exact AO.clear hT ho hcal (toList_one hxx) (toList_one htt) hg hd q1 hx hb q2 hi q3 q4 q5 q6 q7
              · exact h.elim
            · exact h.elim
          · exact h.elim
        · exact h.elim
      · exact h.elim
    · rename_i hcal
      split at h
      · rename_i x y hxy
        split at h
        · rename_i t t' htt
          obtain ⟨rfl, q1, q2, h⟩ := h
          split at h
          · rename_i l' hsrc
            split at h
            · rename_i id g hx
              split at h
              · rename_i e g' al l hb
                obtain ⟨rfl, p1, p2, p3, p4, p5⟩ := h
                exact AO.append hT ho hcal (toList_two hxy) (toList_two htt) hg hd q1 q2 hx hb hsrc p1 p2 p3 p4 p5
              · exact h.elim
            · rename_i hx
              split at h
              · rename_i e he
                obtain ⟨p1, p2, p3, p4, p5⟩ := h
                exact AO.appendNil hT ho hcal (toList_two hxy) (toList_two htt) hg hd q1 q2 hx hsrc p2 he p3 p4 p5
              · exact h.elim
            · exact h.elim
          · exact h.elim
        · exact h.elim
      · exact h.elim
    · exact quiet h
  · exact quiet h

include hT in
theorem vcOp_sound {σ : Slots} {st : St} {kn : Bool} {o : Oper} {k : Slots → St → Prop} (h : vcOp T P n mu ops kn o k σ st) : AO T P E0 n ops o k σ st := by
  unfold vcOp at h
  obtain ⟨hd, h⟩ := h
  have hd : dstOk n o.dst := by
    unfold dstOk
    cases hdd : o.dst with
    | none => trivial
    | some d => simpa only [hdd] using hd
  split at h
  · rename_i hg
    exact vcN_sound hT hg hd h
  · rename_i g want hg
    split at h
    · rename_i c hc
      exact AO.gated hg hc hd fun E a h1 h2 h3 => vcQ_sound hT h E a h1 h2 h3
    · exact h.elim

theorem AO.mono {o : Oper} {k k' : Slots → St → Prop} {σ : Slots} {st : St} (h : AO T P E0 n ops o k σ st) (hk : ∀ σ st, k σ st → k' σ st) : AO T P E0 n ops o k' σ st :=
  fun E a h1 h2 h3 h4 K Q hK => h E a h1 h2 h3 h4 K Q fun E' σ' a' k1 k2 k3 k4 => hK E' σ' a' k1 k2 k3 (hk _ _ k4)

theorem onceOf_spec {o o2 : Oper} {t : TypeId} {d : Nat} {y : Operand} (h : onceOf mu o o2 = some (t, d, y)) :
    o.op = .alloc t ∧ o.guard = none ∧ o.dst = some d ∧ o2.op = .store t (.tmp d) y ∧ o2.guard = none ∧ o2.dst = none := by
  unfold onceOf at h
  split at h
  · rename_i e1 e2 e3 e4 e5 e6
    split at h
    · rename_i hc
      obtain ⟨rfl, rfl, _⟩ := hc
      simp only [Option.some.injEq, Prod.mk.injEq] at h
      obtain ⟨rfl, rfl, rfl⟩ := h
      exact ⟨e1, e3, e2, e4, e6, e5⟩
    · cases h
  · cases h

include hT in
theorem vcOps_sound : ∀ (l : List Oper) {σ : Slots} {st : St} {k : Slots → St → Prop}, vcOps T P n mu ops l k σ st → AL T P E0 n ops l k σ st
  | [], _, _, _, h => AL.nil h
  | [o], _, _, _, h => AL.cons ((vcOp_sound hT h).mono fun _ _ hk => AL.nil hk)
  | o :: o2 :: os, σ, st, k, h => by
    simp only [vcOps] at h
    split at h
    · rename_i t d y hon
      obtain ⟨e1, e2, e3, e4, e5, e6⟩ := onceOf_spec hon
      obtain ⟨q1, q2, q3, q4, q5, q6⟩ := h
      cases hTt : T t with
      | none => simp [hTt] at q5
      | some i =>
        simp only [hTt] at q5
        exact AL.once hT e1 e2 e3 q1 hTt q5.1 e4 e5 e6 q2 q3 q4 q5.2 (vcOps_sound os q6)
    · exact AL.cons ((vcOp_sound hT h).mono fun _ _ hk => vcOps_sound (o2 :: os) hk)
end
end Go.Ab
end

section
namespace Go.Ab
open Go.RowKit

section
variable {T : Tab} {P : Program} (hT : TabOk T P) {E0 : Env} {n : Nat} {mu : List Nat} {ops : Array Oper}

/-- Operands alone count. -/
theorem vcQ0_congr {σ σ' : Slots} {st : St} {kn c : Bool} {o : Oper} {kv : AV → Prop} (h : vcQ0 T P kn σ st c o kv) (he : ∀ y ∈ o.op.operands.toList, ev σ' y = ev σ y) : vcQ0 T P kn σ' st c o kv := by
  have hs : ∀ y ∈ o.op.operands.toList, sv σ' y = sv σ y := fun y hy => congrArg str (he y hy)
  unfold vcQ0 at h ⊢
  split at h
  · rename_i x ho
    rw [ho] at he hs
    simp only [Op.operands, List.mem_singleton, forall_eq] at he hs
    rw [he, hs]; exact h
  · rename_i x ho
    rw [ho] at he hs
    simp only [Op.operands, List.mem_singleton, forall_eq] at he hs
    rw [he, hs]; exact h
  · rename_i t x ho
    rw [ho] at he hs
    simp only [Op.operands, List.mem_singleton, forall_eq] at he hs
    rw [he, hs]; exact h
  · rename_i op t x y ty ho
    rw [ho] at he hs
    simp only [Op.operands, List.mem_cons, List.not_mem_nil, or_false, forall_eq_or_imp, forall_eq] at he hs
    rw [he.1, he.2, hs.1, hs.2]; exact h
  · rename_i op t x ho
    rw [ho] at he hs
    simp only [Op.operands, List.mem_singleton, forall_eq] at he hs
    rw [he, hs]; exact h
  · rename_i s x f ho
    rw [ho] at he hs
    simp only [Op.operands, List.mem_singleton, forall_eq] at he hs
    rw [he, hs]; exact h
  · rename_i x i ho
    rw [ho] at he hs
    simp only [Op.operands, List.mem_singleton, forall_eq] at he hs
    rw [he, hs]; exact h
  · rename_i x ho
    rw [ho] at he hs
    simp only [Op.operands, List.mem_singleton, forall_eq] at he hs
    rw [he, hs]; exact h
  · rename_i f fs cs ho
    rw [ho] at he hs
    simp only [Op.operands, Array.toList_append, List.mem_append] at he hs
    have e1 : fs.toList.map (ev σ') = fs.toList.map (ev σ) := List.map_congr_left fun y hy => he y (.inl hy)
    have e2 : cs.toList.map (ev σ') = cs.toList.map (ev σ) := List.map_congr_left fun y hy => he y (.inr hy)
    have e3 : fs.toList.map (sv σ') = fs.toList.map (sv σ) := List.map_congr_left fun y hy => hs y (.inl hy)
    have e4 : cs.toList.map (sv σ') = cs.toList.map (sv σ) := List.map_congr_left fun y hy => hs y (.inr hy)
    rw [e1, e2, e3, e4]; exact h
  · rename_i t x ho
    rw [ho] at he hs
    simp only [Op.operands, List.mem_singleton, forall_eq] at he hs
    rw [he, hs]; exact h
  · rename_i b x y ho
    rw [ho] at he hs
    simp only [Op.operands, List.mem_cons, List.not_mem_nil, or_false, forall_eq_or_imp, forall_eq] at he hs
    rw [he.1, he.2.1, he.2.2, hs.1]; exact h
  · rename_i t ps ho
    rw [ho] at he hs
    simp only [Op.operands, List.mem_map] at he hs
    have e1 : (ps.toList.map fun p => ev σ' p.2) = ps.toList.map fun p => ev σ p.2 := List.map_congr_left fun p hp => he _ ⟨p, hp, rfl⟩
    have e2 : (ps.toList.map fun p => (p.1, sv σ' p.2)) = ps.toList.map fun p => (p.1, sv σ p.2) := List.map_congr_left fun p hp => by rw [hs _ ⟨p, hp, rfl⟩]
    rw [e1, e2]; exact h
  · rename_i t len ps ho
    rw [ho] at he hs
    simp only [Op.operands, List.mem_map] at he hs
    have e1 : (ps.toList.map fun p => ev σ' p.2) = ps.toList.map fun p => ev σ p.2 := List.map_congr_left fun p hp => he _ ⟨p, hp, rfl⟩
    have e2 : (ps.toList.map fun p => sv σ' p.2) = ps.toList.map fun p => sv σ p.2 := List.map_congr_left fun p hp => hs _ ⟨p, hp, rfl⟩
    rw [e1, e2]; exact h
  · rename_i t x ix ho
    rw [ho] at he hs
    simp only [Op.operands, List.mem_cons, List.not_mem_nil, or_false, forall_eq_or_imp, forall_eq] at he hs
    rw [he.1, he.2, hs.1, hs.2]; exact h
  · rename_i s d x ho
    rw [ho] at he hs
    simp only [Op.operands, List.mem_singleton, forall_eq] at he hs
    rw [he, hs]; exact h
  · rename_i s x f ho
    rw [ho] at he hs
    simp only [Op.operands, List.mem_singleton, forall_eq] at he hs
    rw [he, hs]; exact h
  · rename_i t x lo hi mx ho
    rw [ho] at he hs
    have ex := he x (by simp [Op.operands])
    have sx := hs x (by simp [Op.operands])
    have m1 : ∀ y, lo = some y → y ∈ (Op.slice t x lo hi mx).operands.toList := fun y hy => by subst hy; simp [Op.operands]
    have m2 : ∀ y, hi = some y → y ∈ (Op.slice t x lo hi mx).operands.toList := fun y hy => by subst hy; simp [Op.operands]
    have m3 : ∀ y, mx = some y → y ∈ (Op.slice t x lo hi mx).operands.toList := fun y hy => by subst hy; simp [Op.operands]
    have e1 : (lo.toList ++ (hi.toList ++ mx.toList)).map (ev σ') = (lo.toList ++ (hi.toList ++ mx.toList)).map (ev σ) := List.map_congr_left fun y hy => he y (by
      simp only [List.mem_append, Option.mem_toList] at hy
      rcases hy with hy | hy | hy
      · exact m1 y hy
      · exact m2 y hy
      · exact m3 y hy)
    have l1 : lo.map (sv σ') = lo.map (sv σ) := by cases lo with | none => rfl | some y => simp only [Option.map_some, hs y (m1 y rfl)]
    have l2 : hi.map (sv σ') = hi.map (sv σ) := by cases hi with | none => rfl | some y => simp only [Option.map_some, hs y (m2 y rfl)]
    have l3 : mx.map (sv σ') = mx.map (sv σ) := by cases mx with | none => rfl | some y => simp only [Option.map_some, hs y (m3 y rfl)]
    rw [ex, sx, e1, l1, l2, l3]; exact h
  · rename_i t x ix ok ho
    rw [ho] at he hs
    simp only [Op.operands, List.mem_cons, List.not_mem_nil, or_false, forall_eq_or_imp, forall_eq] at he hs
    rw [he.1, he.2, hs.1, hs.2]; exact h
  · rename_i cl ho
    rw [ho] at he hs
    simp only [Op.operands, Call.operands, Array.toList_append, List.mem_append] at he hs
    have e1 : cl.args.toList.map (ev σ') = cl.args.toList.map (ev σ) := List.map_congr_left fun y hy => he y (.inr hy)
    have e3 : cl.args.toList.map (sv σ') = cl.args.toList.map (sv σ) := List.map_congr_left fun y hy => hs y (.inr hy)
    split at h
    · rename_i hcal
      try simp only [hcal]
      split at h
      · rename_i x y hx
        have a1 := he x (.inr (by rw [hx]; simp))
        have a2 := hs x (.inr (by rw [hx]; simp))
        have a3 := he y (.inr (by rw [hx]; simp))
        have a4 := hs y (.inr (by rw [hx]; simp))
        (try simp only [hx]); rw [a1, a2, a3, a4]; exact h
      · exact h.elim
    · rename_i hcal
      try simp only [hcal]
      split at h
      · rename_i x y hx
        have a1 := he x (.inr (by rw [hx]; simp))
        have a2 := hs x (.inr (by rw [hx]; simp))
        have a3 := he y (.inr (by rw [hx]; simp))
        have a4 := hs y (.inr (by rw [hx]; simp))
        (try simp only [hx]); rw [a1, a2, a3, a4]; exact h
      · exact h.elim
    · rename_i hcal
      try simp only [hcal]
      split at h
      · rename_i x hx
        have a1 := he x (.inr (by rw [hx]; simp))
        have a2 := hs x (.inr (by rw [hx]; simp))
        (try simp only [hx]); rw [a1, a2]; exact h
      · exact h.elim
    · rename_i hcal
      try simp only [hcal]
      split at h
      · rename_i x hx
        have a1 := he x (.inr (by rw [hx]; simp))
        have a2 := hs x (.inr (by rw [hx]; simp))
        (try simp only [hx]); rw [a1, a2]; exact h
      · exact h.elim
    · rename_i f hcal
      have a1 := he f (.inl (by rw [hcal]; simp))
      have a2 := hs f (.inl (by rw [hcal]; simp))
      (try simp only [hcal]); rw [e1, e3, a1, a2]; exact h
    · exact h.elim
  · exact h.elim

/-- Only what it looks at counts. -/
def relOps (T : Tab) (E : Env) (n : Nat) (σ : Slots) (a : Act) (o : Oper) : Prop :=
  a.defers = [] ∧ n ≤ a.tmps.size ∧ ∀ t, Operand.tmp t ∈ o.op.operands.toList → Rel T E (σ t) (a.tmps.getD t undef)

def isTmpOf (o : Oper) (i : Nat) : Bool := o.op.operands.toList.any fun | .tmp t => t == i | _ => false

theorem isTmpOf_spec {o : Oper} {i : Nat} : isTmpOf o i = true ↔ Operand.tmp i ∈ o.op.operands.toList := by
  unfold isTmpOf
  rw [List.any_eq_true]
  constructor
  · rintro ⟨x, hx, h⟩
    cases x with
    | tmp t => simp at h; subst h; exact hx
    | _ => simp at h
  · intro h; exact ⟨_, h, by simp⟩

include hT in
theorem vcQ_sound2 {σ : Slots} {st : St} {c : Bool} {o : Oper} {kv : AV → Prop} (h : vcQ T P false σ st c o kv) :
    ∃ v, (c = true → ∀ E a, E.st = st → Inv T E → relOps T E n σ a o → QR T P E o a v) ∧ kv v := by
  have h : vcQ0 T P false σ st c o kv := by
    unfold vcQ at h
    split at h
    · cases h.1
    · exact h
  have key : ∃ v, vcQ0 T P false σ st c o (· = v) ∧ kv v := by
    unfold vcQ0 at h ⊢
    split at h
    all_goals rename_i ho
    all_goals try exact ⟨_, ⟨h.1, rfl⟩, h.2⟩
    · split at h
      · rename_i hx
        try simp only
        split at h
        · rename_i hk
          try simp only [hk]
          obtain ⟨cc, h1, h2⟩ := h
          exact ⟨_, ⟨cc, h1, rfl⟩, h2⟩
        · exact h.elim
      · rename_i hx
        try simp only
        split at h
        · rename_i hk
          try simp only [hk]
          split at h
          · rename_i hb
            try simp only [hb]
            exact ⟨_, ⟨h.1, rfl⟩, h.2⟩
          · exact h.elim
        · exact h.elim
      · rename_i hx
        try simp only
        split at h
        · rename_i hk
          try simp only [hk]
          split at h
          · rename_i hb
            try simp only [hb]
            exact ⟨_, ⟨h.1, rfl⟩, h.2⟩
          · exact h.elim
        · exact h.elim
      · exact h.elim
    · split at h
      · rename_i hf
        try simp only
        exact ⟨_, ⟨h.1, rfl⟩, h.2⟩
      · exact h.elim
    · split at h
      · rename_i hcal
        try simp only
        split at h
        · rename_i hx
          try simp only [hx]
          exact ⟨_, ⟨h.1, rfl⟩, h.2⟩
        · exact h.elim
      · rename_i hcal
        try simp only
        split at h
        · rename_i hx
          try simp only [hx]
          exact ⟨_, ⟨h.1, rfl⟩, h.2⟩
        · exact h.elim
      · rename_i hcal
        try simp only
        split at h
        · rename_i hx
          try simp only [hx]
          split at h
          · rename_i ht
            try simp only [ht]
            exact ⟨_, ⟨h.1, rfl⟩, h.2⟩
          · exact h.elim
        · exact h.elim
      · rename_i hcal
        try simp only
        split at h
        · rename_i hx
          try simp only [hx]
          split at h
          · rename_i ht
            try simp only [ht]
            exact ⟨_, ⟨h.1, fun _ => rfl⟩, h.2 fun hh => (by cases hh)⟩
          · exact h.elim
        · exact h.elim
      · rename_i hcal
        try simp only
        split at h
        · rename_i hca
          try simp only [hca]
          obtain ⟨h0, xs', r, h1, h2⟩ := h
          exact ⟨r, ⟨h0, xs', r, h1, rfl⟩, h2⟩
        · exact h.elim
      · exact h.elim
    · exact h.elim
  obtain ⟨v, hv, hk⟩ := key
  refine ⟨v, fun hc E a h1 h2 h3 => ?_, hk⟩
  obtain ⟨q1, q2, q3⟩ := h3
  let σr : Slots := fun i => if isTmpOf o i then σ i else .any
  have hs : RelS T E n σr a := by
    refine ⟨q1, q2, fun i => ?_⟩
    show Rel T E (if isTmpOf o i then σ i else .any) _
    split
    · rename_i hi; exact q3 i (isTmpOf_spec.1 hi)
    · simp only [Rel]
  have hv' := vcQ0_congr (σ' := σr) hv (fun y hy => by
    cases y with
    | tmp t => simp only [ev, σr]; rw [if_pos (isTmpOf_spec.2 hy)]
    | _ => rfl)
  obtain ⟨v', k1, k2⟩ := vcQ0_sound hT hv' E a h1 h2 hs
  subst k2
  exact k1 hc
end
end Go.Ab
end

section
namespace Go.Ab
open Go.RowKit

mutual
/-- What is left of a value once the numbers from N on are forgotten. -/
def AV.cut (N : Nat) (S : St) : AV → AV
  | .own id g => if id < N then .own id g else (match S[id]? with | some (.row e g' _ l) => if g' = g ∧ AV.pureM l = true then .lst e l else .any | _ => .any)
  | .ptr id off => if id < N then .ptr id off else .any
  | .rptr id g i f => if id < N then .rptr id g i f else .any
  | .sub id g lo n => if id < N then .sub id g lo n else .any
  | .mp id => if id < N then .mp id else .any
  | .agg cs => .agg (AV.cutL N S cs)
  | .tup cs => .tup (AV.cutL N S cs)
  | .lst e l => .lst e (AV.cutM N S l)
  | .eptr cs => .eptr (AV.cutL N S cs)
  | .fn f fs cs => .fn f (AV.cutL N S fs) (AV.cutL N S cs)
  | .gate c x => .gate c (bif c then AV.cut N S x else x)
  | .sc v => .sc v
  | .nils => .nils
  | .any => .any
def AV.cutL (N : Nat) (S : St) : List AV → List AV
  | [] => []
  | x :: xs => AV.cut N S x :: AV.cutL N S xs
def AV.cutM (N : Nat) (S : St) : List (List AV) → List (List AV)
  | [] => []
  | x :: xs => AV.cutL N S x :: AV.cutM N S xs
end
def Blk.cut (N : Nat) (S : St) : Blk → Blk
  | .cells cs => .cells (AV.cutL N S cs)
  | .row e g al l => .row e g al (AV.cutM N S l)
  | .map es => .map (es.map fun p => (p.1, p.2.cut N S))
  | .dead => .dead
def cutSt (N : Nat) (S : St) : St := (S.take N).map (Blk.cut N S)
/-- No number beyond. -/
def Fix (st : St) : Prop := ∀ N S, st.length ≤ N → st.map (Blk.cut N S) = st

theorem Blk.cut_live (N : Nat) (S : St) (b : Blk) : (b.cut N S).live = b.live := by cases b <;> rfl
theorem AV.cutM_len (N : Nat) (S : St) : ∀ l : List (List AV), (AV.cutM N S l).length = l.length
  | [] => rfl
  | x :: xs => by simp only [AV.cutM, List.length_cons, AV.cutM_len N S xs]
theorem AV.cutL_len (N : Nat) (S : St) : ∀ l : List AV, (AV.cutL N S l).length = l.length
  | [] => rfl
  | x :: xs => by simp only [AV.cutL, List.length_cons, AV.cutL_len N S xs]
theorem AV.cutL_map (N : Nat) (S : St) : ∀ l : List AV, AV.cutL N S l = l.map (AV.cut N S)
  | [] => rfl
  | x :: xs => by simp only [AV.cutL, List.map_cons, AV.cutL_map N S xs]

section
variable {T : Tab} {E : Env}

mutual
theorem cut_id {N : Nat} (S : St) (hN : E.st.length ≤ N) : ∀ (x : AV) (u : Value), Rel T E x u → x.cut N S = x
  | .own id g, u, h => by simp only [Rel] at h; simp only [AV.cut]; rw [if_pos (by omega)]
  | .ptr id g, u, h => by simp only [Rel] at h; simp only [AV.cut]; rw [if_pos (by omega)]
  | .rptr id g i f, u, h => by simp only [Rel] at h; simp only [AV.cut]; rw [if_pos (by omega)]
  | .sub id g i f, u, h => by simp only [Rel] at h; simp only [AV.cut]; rw [if_pos (by omega)]
  | .mp id, u, h => by simp only [Rel] at h; simp only [AV.cut]; rw [if_pos (by omega)]
  | .agg cs, u, h => by simp only [Rel] at h; obtain ⟨vs, _, h⟩ := h; simp only [AV.cut, cutC_id S hN cs vs h]
  | .tup cs, u, h => by simp only [Rel] at h; obtain ⟨vs, _, h⟩ := h; simp only [AV.cut, cutL_id S hN cs vs h]
  | .lst e l, u, h => by
    simp only [Rel] at h
    obtain ⟨_, _, a, cap, _, _, h⟩ := h
    rcases h with rfl | ⟨b, o, _, _, h⟩
    · simp only [AV.cut, AV.cutM]
    · simp only [AV.cut, cutM_id S hN b _ l o h]
  | .eptr cs, u, h => by simp only [Rel] at h; obtain ⟨b, o, _, _, h⟩ := h; simp only [AV.cut, cutX_id S hN b cs o h]
  | .fn f fs cs, u, h => by simp only [Rel] at h; obtain ⟨vs, ws, _, h1, h2⟩ := h; simp only [AV.cut, cutL_id S hN fs vs h1, cutL_id S hN cs ws h2]
  | .gate c x, u, h => by
    simp only [Rel] at h
    simp only [AV.cut]
    cases c with
    | false => rfl
    | true => simp only [cond_true, cut_id S hN x u (h.1 rfl)]
  | .sc v, _, _ => rfl
  | .nils, _, _ => rfl
  | .any, _, _ => rfl
theorem cutL_id {N : Nat} (S : St) (hN : E.st.length ≤ N) : ∀ (xs : List AV) (vs : List Value), RelL T E xs vs → AV.cutL N S xs = xs
  | [], _, _ => rfl
  | x :: xs, vs, h => by
    simp only [RelL] at h
    obtain ⟨v, r, _, h1, h2⟩ := h
    simp only [AV.cutL, cut_id S hN x v h1, cutL_id S hN xs r h2]
theorem cutC_id {N : Nat} (S : St) (hN : E.st.length ≤ N) : ∀ (xs : List AV) (vs : List Value), RelC T E xs vs → AV.cutL N S xs = xs
  | [], _, _ => rfl
  | x :: xs, vs, h => by
    simp only [RelC] at h
    obtain ⟨v, r, _, h1, _, h2⟩ := h
    simp only [AV.cutL, cut_id S hN x v h1, cutC_id S hN xs r h2]
theorem cutX_id {N : Nat} (S : St) (hN : E.st.length ≤ N) (b : Nat) : ∀ (xs : List AV) (o : Nat), RelX T E b o xs → AV.cutL N S xs = xs
  | [], _, _ => rfl
  | x :: xs, o, h => by
    simp only [RelX] at h
    obtain ⟨⟨v, _, h1, _⟩, h2⟩ := h
    simp only [AV.cutL, cut_id S hN x v h1, cutX_id S hN b xs _ h2]
theorem cutM_id {N : Nat} (S : St) (hN : E.st.length ≤ N) (b k : Nat) : ∀ (xs : List (List AV)) (o : Nat), RelM T E b k o xs → AV.cutM N S xs = xs
  | [], _, _ => rfl
  | x :: xs, o, h => by
    simp only [RelM] at h
    simp only [AV.cutM, cutX_id S hN b x _ h.2.1, cutM_id S hN b k xs _ h.2.2]
end

theorem fix_of_inv (hi : Inv T E) : Fix E.st := by
  intro N S hN
  have key : ∀ b ∈ E.st, b.cut N S = b := by
    intro b hb
    obtain ⟨i, hlt, hget⟩ := List.getElem_of_mem hb
    have := hi.blk i b (by rw [List.getElem?_eq_getElem hlt, hget])
    cases b with
    | cells cs => obtain ⟨c, t, _, h⟩ := this; simp only [Blk.cut, cutC_id S hN _ _ h]
    | row e g al l =>
      obtain ⟨_, h1, h2⟩ := this
      cases al with
      | false => rw [h1 rfl]; rfl
      | true => obtain ⟨c, cap, _, _, _, _, h⟩ := h2 rfl; simp only [Blk.cut, cutM_id S hN _ _ _ _ h]
    | map es =>
      obtain ⟨mes, clock, _, _, h⟩ := this
      have := cutL_id S hN _ _ h
      rw [AV.cutL_map, List.map_map] at this
      simp only [Blk.cut]
      congr 1
      have hh : ∀ p ∈ es, (p.1, p.2.cut N S) = p := by
        intro p hp
        have := (List.map_inj_left.1 this) p hp
        exact Prod.ext rfl this
      have := List.map_congr_left (g := id) hh
      simpa using this
    | dead => rfl
  have := List.map_congr_left (g := id) key
  simpa using this

/-- The environment cut down. -/
def Env.cut (E : Env) (N : Nat) : Env := ⟨E.w, cutSt N E.st, E.φ, E.M⟩

theorem cutSt_get {N : Nat} {S : St} {id : Nat} {b : Blk} (h : (cutSt N S)[id]? = some b) : id < N ∧ ∃ b0, S[id]? = some b0 ∧ b = b0.cut N S := by
  unfold cutSt at h
  rw [List.getElem?_map] at h
  by_cases hlt : id < N
  · rw [List.getElem?_take_of_lt hlt] at h
    cases hs : S[id]? with
    | none => simp [hs] at h
    | some b0 => simp [hs] at h; exact ⟨hlt, b0, rfl, h.symm⟩
  · rw [List.getElem?_eq_none (by simp; omega)] at h
    cases h

theorem Env.mut_cut {N b : Nat} (h : (E.cut N).mut b) : E.mut b := by
  rcases h with h | ⟨id, blk, h1, h2, h3⟩
  · exact .inl h
  · obtain ⟨_, b0, k1, rfl⟩ := cutSt_get h1
    exact .inr ⟨id, b0, k1, by rw [← Blk.cut_live N E.st]; exact h2, h3⟩
theorem Env.stable_cut {N b : Nat} (h : E.stable b) : (E.cut N).stable b := ⟨h.1, fun hm => h.2 (Env.mut_cut hm)⟩

theorem cutSt_len {N : Nat} {id : Nat} (h1 : id < E.st.length) (h2 : id < N) : id < (E.cut N).st.length := by
  simp only [Env.cut, cutSt, List.length_map, List.length_take]; omega

mutual
theorem cut_rel {N : Nat} (hi : Inv T E) : ∀ (x : AV) (u : Value), Rel T E x u → Rel T (E.cut N) (x.cut N E.st) u
  | .own id g, u, h => by
    simp only [Rel] at h
    simp only [AV.cut]
    by_cases hlt : id < N
    · rw [if_pos hlt]
      simp only [Rel]
      refine ⟨cutSt_len h.1 hlt, fun e g' al l hb => ?_⟩
      obtain ⟨_, b0, k1, k2⟩ := cutSt_get hb
      cases b0 <;> simp only [Blk.cut, Blk.row.injEq, reduceCtorEq] at k2
      rename_i e0 g0 al0 l0
      obtain ⟨rfl, rfl, rfl, rfl⟩ := k2
      obtain ⟨m1, m2⟩ := h.2 _ _ _ _ k1
      refine ⟨m1, fun hg => ⟨fun ha => ?_, fun ha => (m2 hg).2 ha⟩⟩
      rw [AV.cutM_len]
      exact (m2 hg).1 ha
    · rw [if_neg hlt]
      cases hb : E.st[id]? with
      | none => simp only [Rel]
      | some blk =>
        cases blk <;> simp only [Rel]
        rename_i e g' al l
        split
        · rename_i hg
          obtain ⟨rfl, hp⟩ := hg
          obtain ⟨k1, k2⟩ := (h.2 _ _ _ _ hb).2 rfl
          obtain ⟨m1, m2, m3⟩ := hi.blk id _ hb
          simp only [Rel]
          cases al with
          | true =>
            obtain ⟨cap, c, e1, e2, e3, e6⟩ := k1 rfl
            obtain ⟨c', cap', q1, q2, q3, q4, q5⟩ := m3 rfl
            have hlt2 := hi.lt id _ hb rfl
            refine ⟨m1, Nat.le_trans q3 q4, _, cap, e1, e6, .inr ⟨_, _, rfl, ⟨hlt2.1, fun hm => ?_⟩, ?_⟩⟩
            · rcases hm with hm | ⟨i2, b2, h2, h3, h4⟩
              · exact hlt2.2 hm
              · obtain ⟨n1, b0, n2, rfl⟩ := cutSt_get h2
                have := hi.inj i2 id _ _ n2 hb (by rw [← Blk.cut_live N E.st]; exact h3) rfl h4
                omega
            · exact RelM.pureTo (E := E) (F := E.cut N) rfl (fun b hb => Env.stable_cut hb) _ _ l 0 hp q5
          | false =>
            obtain ⟨b, e1⟩ := k2 rfl
            have := m2 rfl
            subst this
            exact ⟨by simp, by simp, b, 0, e1, by simp, .inl rfl⟩
        · simp only [Rel]
  | .ptr id off, u, h => by
    simp only [Rel] at h
    simp only [AV.cut]
    by_cases hlt : id < N
    · rw [if_pos hlt]
      simp only [Rel]
      refine ⟨cutSt_len h.1 hlt, fun cs hb => ?_⟩
      obtain ⟨_, b0, k1, k2⟩ := cutSt_get hb
      cases b0 <;> simp only [Blk.cut, reduceCtorEq] at k2
      exact h.2 _ k1
    · rw [if_neg hlt]; simp only [Rel]
  | .rptr id g i f, u, h => by
    simp only [Rel] at h
    simp only [AV.cut]
    by_cases hlt : id < N
    · rw [if_pos hlt]
      simp only [Rel]
      refine ⟨cutSt_len h.1 hlt, fun e g' al l hb => ?_⟩
      obtain ⟨_, b0, k1, k2⟩ := cutSt_get hb
      cases b0 <;> simp only [Blk.cut, Blk.row.injEq, reduceCtorEq] at k2
      obtain ⟨rfl, rfl, rfl, rfl⟩ := k2
      exact h.2 _ _ _ _ k1
    · rw [if_neg hlt]; simp only [Rel]
  | .sub id g i f, u, h => by
    simp only [Rel] at h
    simp only [AV.cut]
    by_cases hlt : id < N
    · rw [if_pos hlt]
      simp only [Rel]
      refine ⟨cutSt_len h.1 hlt, fun e g' al l hb => ?_⟩
      obtain ⟨_, b0, k1, k2⟩ := cutSt_get hb
      cases b0 <;> simp only [Blk.cut, Blk.row.injEq, reduceCtorEq] at k2
      obtain ⟨rfl, rfl, rfl, rfl⟩ := k2
      exact h.2 _ _ _ _ k1
    · rw [if_neg hlt]; simp only [Rel]
  | .mp id, u, h => by
    simp only [Rel] at h
    simp only [AV.cut]
    by_cases hlt : id < N
    · rw [if_pos hlt]
      simp only [Rel]
      refine ⟨cutSt_len h.1 hlt, fun cs hb => ?_⟩
      obtain ⟨_, b0, k1, k2⟩ := cutSt_get hb
      cases b0 <;> simp only [Blk.cut, reduceCtorEq] at k2
      exact h.2 _ k1
    · rw [if_neg hlt]; simp only [Rel]
  | .agg cs, u, h => by
    simp only [Rel] at h
    simp only [AV.cut, Rel]
    obtain ⟨vs, h1, h2⟩ := h
    exact ⟨vs, h1, cutC_rel hi cs vs h2⟩
  | .tup cs, u, h => by
    simp only [Rel] at h
    simp only [AV.cut, Rel]
    obtain ⟨vs, h1, h2⟩ := h
    exact ⟨vs, h1, cutL_rel hi cs vs h2⟩
  | .lst e l, u, h => by
    simp only [Rel] at h
    simp only [AV.cut, Rel]
    obtain ⟨h1, h2, a, cap, h3, hcp, h4⟩ := h
    rw [AV.cutM_len]
    refine ⟨h1, h2, a, cap, h3, hcp, ?_⟩
    rcases h4 with rfl | ⟨b, o, h4, h5, h6⟩
    · exact .inl rfl
    · exact .inr ⟨b, o, h4, Env.stable_cut h5, cutM_rel hi b _ l o h6⟩
  | .eptr cs, u, h => by
    simp only [Rel] at h
    simp only [AV.cut, Rel]
    obtain ⟨b, o, h1, h2, h3⟩ := h
    exact ⟨b, o, h1, Env.stable_cut h2, cutX_rel hi b cs o h3⟩
  | .fn f fs cs, u, h => by
    simp only [Rel] at h
    simp only [AV.cut, Rel]
    obtain ⟨vs, ws, h1, h2, h3⟩ := h
    exact ⟨vs, ws, h1, cutL_rel hi fs vs h2, cutL_rel hi cs ws h3⟩
  | .gate c x, u, h => by
    simp only [Rel] at h
    simp only [AV.cut, Rel]
    cases c with
    | false => exact ⟨fun hc => (by cases hc), h.2⟩
    | true => exact ⟨fun _ => cut_rel hi x u (h.1 rfl), fun hc => (by cases hc)⟩
  | .sc v, u, h => by simp only [Rel] at h; simp only [AV.cut, Rel]; exact h
  | .nils, u, h => by simp only [Rel] at h; simp only [AV.cut, Rel]; exact h
  | .any, u, h => by simp only [AV.cut, Rel]
theorem cutL_rel {N : Nat} (hi : Inv T E) : ∀ (xs : List AV) (vs : List Value), RelL T E xs vs → RelL T (E.cut N) (AV.cutL N E.st xs) vs
  | [], vs, h => by simpa only [AV.cutL, RelL] using h
  | x :: xs, vs, h => by
    simp only [RelL] at h
    simp only [AV.cutL, RelL]
    obtain ⟨v, r, h1, h2, h3⟩ := h
    exact ⟨v, r, h1, cut_rel hi x v h2, cutL_rel hi xs r h3⟩
theorem cutC_rel {N : Nat} (hi : Inv T E) : ∀ (xs : List AV) (vs : List Value), RelC T E xs vs → RelC T (E.cut N) (AV.cutL N E.st xs) vs
  | [], vs, h => by simpa only [AV.cutL, RelC] using h
  | x :: xs, vs, h => by
    simp only [RelC] at h
    simp only [AV.cutL, RelC]
    obtain ⟨v, r, h1, h2, h4, h3⟩ := h
    exact ⟨v, r, h1, cut_rel hi x v h2, h4, cutC_rel hi xs r h3⟩
theorem cutX_rel {N : Nat} (hi : Inv T E) (b : Nat) : ∀ (xs : List AV) (o : Nat), RelX T E b o xs → RelX T (E.cut N) b o (AV.cutL N E.st xs)
  | [], o, h => by simp only [AV.cutL, RelX]
  | x :: xs, o, h => by
    simp only [RelX] at h
    simp only [AV.cutL, RelX]
    obtain ⟨⟨v, h1, h2, h4⟩, h3⟩ := h
    exact ⟨⟨v, h1, cut_rel hi x v h2, h4⟩, cutX_rel hi b xs _ h3⟩
theorem cutM_rel {N : Nat} (hi : Inv T E) (b k : Nat) : ∀ (xs : List (List AV)) (o : Nat), RelM T E b k o xs → RelM T (E.cut N) b k o (AV.cutM N E.st xs)
  | [], o, h => by simp only [AV.cutM, RelM]
  | x :: xs, o, h => by
    simp only [RelM] at h
    simp only [AV.cutM, RelM]
    exact ⟨by rw [AV.cutL_len]; exact h.1, cutX_rel hi b x o h.2.1, cutM_rel hi b k xs _ h.2.2⟩
end

theorem Env.cut_inv {N : Nat} (hi : Inv T E) : Inv T (E.cut N) where
  inj := fun i j bi bj h1 h2 l1 l2 he => by
    obtain ⟨_, b1, k1, rfl⟩ := cutSt_get h1
    obtain ⟨_, b2, k2, rfl⟩ := cutSt_get h2
    exact hi.inj i j _ _ k1 k2 (by rw [← Blk.cut_live N E.st]; exact l1) (by rw [← Blk.cut_live N E.st]; exact l2) he
  lt := fun i bi h1 l1 => by
    obtain ⟨_, b1, k1, rfl⟩ := cutSt_get h1
    exact hi.lt i _ k1 (by rw [← Blk.cut_live N E.st]; exact l1)
  Mlt := hi.Mlt
  blk := fun i bi h1 => by
    obtain ⟨_, b1, k1, rfl⟩ := cutSt_get h1
    have := hi.blk i _ k1
    cases b1 with
    | cells cs => obtain ⟨c, t, q1, q2⟩ := this; exact ⟨c, t, q1, cutC_rel hi _ _ q2⟩
    | row e g al l =>
      obtain ⟨q0, q1, q2⟩ := this
      refine ⟨by rw [AV.cutM_len]; exact q0, fun ha => by rw [q1 ha]; rfl, fun ha => ?_⟩
      obtain ⟨c, cap, p1, p2, p3, p4, p5⟩ := q2 ha
      exact ⟨c, cap, p1, p2, by rw [AV.cutM_len]; exact p3, p4, cutM_rel hi _ _ _ _ p5⟩
    | map es =>
      obtain ⟨mes, clock, q1, q2, q3⟩ := this
      refine ⟨mes, clock, q1, by rw [q2, List.map_map]; rfl, ?_⟩
      have := cutL_rel (N := N) hi _ _ q3
      rw [AV.cutL_map, List.map_map] at this
      rw [List.map_map]; exact this
    | dead => trivial

theorem Env.cut_step {E0 : Env} (hs : Step E0 E) : Step E0 (E.cut E0.st.length) where
  os := hs.os
  tape := hs.tape
  output := hs.output
  size := hs.size
  len := by have := hs.len; simp only [Env.cut, cutSt, List.length_map, List.length_take]; omega
  M := hs.M
  blk := hs.blk
  stab := fun b hb => Env.stable_cut (hs.stab b hb)
  compat := fun id hid => by
    have hc := hs.compat id hid
    have hget : (E.cut E0.st.length).st[id]? = (E.st[id]?).map (Blk.cut E0.st.length E.st) := by
      simp only [Env.cut, cutSt]
      rw [List.getElem?_map, List.getElem?_take_of_lt hid]
    unfold Compat at hc ⊢
    rw [hget]
    cases hb : E.st[id]? with
    | none => trivial
    | some b =>
      rw [hb] at hc
      cases b with
      | cells cs => exact hc
      | map es => exact hc
      | dead => trivial
      | row e g al l =>
        obtain ⟨g0, al0, l0, h1, h2, h3⟩ := hc
        refine ⟨g0, al0, l0, h1, h2, fun hg => ?_⟩
        obtain ⟨h4, h5⟩ := h3 hg
        refine ⟨h4, fun ha => ?_⟩
        obtain ⟨h6, h7, h8⟩ := h5 ha
        exact ⟨h6, by rw [AV.cutM_len]; exact h7, h8⟩
end

end Go.Ab
end

section
namespace Go.Ab
open Go.RowKit

def isQuiet (o : Oper) : Bool :=
  match o.op with
  | .move _ => true
  | .assign _ => true
  | .load _ _ => true
  | .binOp _ _ _ _ _ => true
  | .unOp _ _ _ => true
  | .fieldAddr _ _ _ => true
  | .extract _ _ => true
  | .nilCheck _ => true
  | .makeFunc _ _ _ => true
  | .box _ _ => true
  | .pick _ _ _ => true
  | .build _ _ => true
  | .buildSlice _ _ _ => true
  | .indexAddr _ _ _ => true
  | .field _ _ _ => true
  | .lookup _ _ _ _ => true
  | .slice _ _ _ _ _ => true
  | .convert _ _ _ => true
  | .call c => (match c.callee with | .builtin .len => true | .builtin .cap => true | .builtin .max => true | .builtin .min => true | .value _ => true | _ => false)
  | _ => false

theorem Slots.put_comm (σ : Slots) {x y : Option Tmp} (v u : AV) (h : ∀ d, x = some d → y ≠ some d) : (σ.put x v).put y u = (σ.put y u).put x v := by
  cases x with
  | none => rfl
  | some d =>
    cases y with
    | none => rfl
    | some e =>
      have hne : d ≠ e := fun he => h d rfl (he ▸ rfl)
      funext i
      simp only [Slots.put]
      by_cases h1 : i = e
      · by_cases h2 : i = d
        · exact absurd (h2.symm.trans h1) hne
        · simp [h1, Ne.symm hne]
      · simp [h1]

section
variable {T : Tab} {P : Program} (hT : TabOk T P) {E0 : Env} {n : Nat} {mu : List Nat} {ops : Array Oper}

/-- A quiet operation leaves x in its slot, wherever it is carried out. -/
def YA (T : Tab) (P : Program) (n : Nat) (ops : Array Oper) (o : Oper) (x : AV) (σ : Slots) (st : St) : Prop :=
  dstOk n o.dst ∧
  match o.guard with
  | none => ∀ E a, E.st = st → Inv T E → relOps T E n σ a o → QR T P E o a x
  | some (g, want) => ∃ c v, gcond ops σ g want = some c ∧ x = .gate c v ∧ (c = true → ∀ E a, E.st = st → Inv T E → relOps T E n σ a o → QR T P E o a v)

theorem relOps_of {E : Env} {σ : Slots} {a : Act} (h : RelS T E n σ a) (o : Oper) : relOps T E n σ a o := ⟨h.defers, h.size, fun t _ => h.val t⟩

theorem YA.put {o : Oper} {x : AV} {σ : Slots} {st : St} {d : Option Tmp} {v : AV} (h : ∀ e, d = some e → e ∉ o.looksAt ops) : YA T P n ops o x (σ.put d v) st ↔ YA T P n ops o x σ st := by
  cases d with
  | none => exact Iff.rfl
  | some e =>
    have hne := h e rfl
    have hops : ∀ t, Operand.tmp t ∈ o.op.operands.toList → (σ.put (some e) v) t = σ t := by
      intro t ht
      simp only [Slots.put]
      rw [if_neg]
      rintro rfl
      exact hne (List.mem_append.2 (.inl (List.mem_filterMap.2 ⟨_, ht, rfl⟩)))
    have hrel : ∀ E a, relOps T E n (σ.put (some e) v) a o ↔ relOps T E n σ a o := by
      intro E a
      unfold relOps
      constructor
      · rintro ⟨h1, h2, h3⟩; exact ⟨h1, h2, fun t ht => by have := h3 t ht; rwa [hops t ht] at this⟩
      · rintro ⟨h1, h2, h3⟩; exact ⟨h1, h2, fun t ht => by rw [hops t ht]; exact h3 t ht⟩
    unfold YA
    simp only [hrel]
    cases hg : o.guard with
    | none => exact Iff.rfl
    | some q =>
      obtain ⟨g, want⟩ := q
      have hgc : gcond ops (σ.put (some e) v) g want = gcond ops σ g want := by
        unfold gcond
        cases hd : (ops[g]?).bind (·.dst) with
        | none => rfl
        | some d' =>
          have : (σ.put (some e) v) d' = σ d' := by
            simp only [Slots.put]
            rw [if_neg]
            rintro rfl
            exact hne (List.mem_append.2 (.inr (by simp [hg, hd])))
          simp only [this]
      simp only [hgc]

include hT in
theorem YA_of_vcOp {o : Oper} {k : Slots → St → Prop} {σ : Slots} {st : St} (hq : isQuiet o = true) (h : vcOp T P n [] ops false o k σ st) : ∃ x, YA T P n ops o x σ st ∧ k (σ.put o.dst x) st := by
  unfold vcOp at h
  obtain ⟨hd, h⟩ := h
  have hd : dstOk n o.dst := by
    unfold dstOk
    cases hdd : o.dst with
    | none => trivial
    | some d => simpa only [hdd] using hd
  cases hg : o.guard with
  | none =>
    simp only [hg] at h
    have h' : vcQ T P false σ st true o (putK k o.dst σ st) := by
      unfold vcN at h
      unfold isQuiet at hq
      split at h
      · rename_i ho; simp [ho] at hq
      · rename_i ho
        simp only [List.contains_nil, Bool.false_eq_true, if_false] at h
        have hn : nilCmp o.op = none := by rw [ho]; rfl
        unfold vcQ
        rw [hn]
        unfold vcQ0
        simp only [ho]
        exact ⟨fun _ => ⟨h.1, h.2.1⟩, h.2.2⟩
      · rename_i ho; simp [ho] at hq
      · rename_i ho; simp [ho] at hq
      · rename_i ho; simp [ho] at hq
      · rename_i cl ho
        split at h
        · rename_i hc; simp [ho, hc] at hq
        · rename_i hc; simp [ho, hc] at hq
        · rename_i hc; simp [ho, hc] at hq
        · exact h
      · exact h
    obtain ⟨v, h1, h2⟩ := vcQ_sound2 hT h'
    exact ⟨v, ⟨hd, by simp only [hg]; exact h1 rfl⟩, h2⟩
  | some q =>
    obtain ⟨g, want⟩ := q
    simp only [hg] at h
    split at h
    · rename_i c hc
      obtain ⟨v, h1, h2⟩ := vcQ_sound2 hT h
      exact ⟨_, ⟨hd, by simp only [hg]; exact ⟨c, v, hc, rfl, h1⟩⟩, h2⟩
    · exact h.elim

theorem AO_of_YA {o : Oper} {x : AV} {k : Slots → St → Prop} {σ : Slots} {st : St} (h : YA T P n ops o x σ st) (hk : k (σ.put o.dst x) st) : AO T P E0 n ops o k σ st := by
  obtain ⟨hd, h⟩ := h
  cases hg : o.guard with
  | none =>
    simp only [hg] at h
    exact AO.quiet hg hd fun E a h1 h2 h3 => ⟨x, h E a h1 h2 (relOps_of h3 o), hk⟩
  | some q =>
    obtain ⟨g, want⟩ := q
    simp only [hg] at h
    obtain ⟨c, v, h1, rfl, h2⟩ := h
    exact AO.gated hg h1 hd fun E a k1 k2 k3 => ⟨v, fun hc => h2 hc E a k1 k2 (relOps_of k3 o), hk⟩

/-- A call that may write: what it is given, what it leaves. -/
def ICall (T : Tab) (P : Program) (f : FuncId) (args : List AV) (st : St) (Q : AV → St → Prop) : Prop :=
  (∀ (as : Array Value) (w : World), (callFunc f as).run P w = .ok (.enter f as) w) ∧ ACalls T P f args st Q

/-- An operation that may write, by what it looks at alone. -/
def IA (T : Tab) (P : Program) (n : Nat) (o : Oper) (R : AV → St → Prop) (σ : Slots) (st : St) : Prop :=
  dstOk n o.dst ∧ ∀ (E : Env) (a : Act), E.st = st → Inv T E → relOps T E n σ a o → ∀ (K : Act → World → Prop) (Q : Exit → Act → World → Prop),
    (∀ u r E', Inv T E' → Step E E' → Rel T E' r u → R r E'.st → K (a.put o.dst u) E'.w) → o.wp P a E.w K Q

theorem relOps_put {o : Oper} {σ : Slots} {d : Option Tmp} {v : AV} (h : ∀ e, d = some e → e ∉ o.looksAt ops) (E : Env) (a : Act) : relOps T E n (σ.put d v) a o ↔ relOps T E n σ a o := by
  cases d with
  | none => exact Iff.rfl
  | some e =>
    have hne := h e rfl
    have hops : ∀ t, Operand.tmp t ∈ o.op.operands.toList → (σ.put (some e) v) t = σ t := by
      intro t ht
      simp only [Slots.put]
      rw [if_neg]
      rintro rfl
      exact hne (List.mem_append.2 (.inl (List.mem_filterMap.2 ⟨_, ht, rfl⟩)))
    unfold relOps
    constructor
    · rintro ⟨h1, h2, h3⟩; exact ⟨h1, h2, fun t ht => by have := h3 t ht; rwa [hops t ht] at this⟩
    · rintro ⟨h1, h2, h3⟩; exact ⟨h1, h2, fun t ht => by rw [hops t ht]; exact h3 t ht⟩

theorem IA.put {o : Oper} {R : AV → St → Prop} {σ : Slots} {st : St} {d : Option Tmp} {v : AV} (h : ∀ e, d = some e → e ∉ o.looksAt ops) : IA T P n o R (σ.put d v) st ↔ IA T P n o R σ st := by
  unfold IA
  simp only [relOps_put h]

theorem AO_of_IA {o : Oper} {R : AV → St → Prop} {k : Slots → St → Prop} {σ : Slots} {st : St} (hg : o.guard = none) (h : IA T P n o R σ st) (hk : ∀ r st', R r st' → Fix st' → k (σ.put o.dst r) st') : AO T P E0 n ops o k σ st := by
  intro E a h1 h2 h3 h4 K Q hK
  rw [if_pos (by simp [Region.wanted, hg])]
  exact h.2 E a h1 h2 (relOps_of h4 o) K Q fun u r E' k1 k2 k3 k4 => hK E' _ _ k1 (h3.trans k2) ((h4.step k2).put h.1 k3) (hk _ _ k4 (fix_of_inv k1))

theorem AO_of_IAg {o : Oper} {R : AV → St → Prop} {k : Slots → St → Prop} {σ : Slots} {st : St} {g : Nat} {want c : Bool} (hg : o.guard = some (g, want)) (hc : gcond ops σ g want = some c) (hd : dstOk n o.dst)
    (h : c = true → IA T P n o R σ st) (hk : c = true → ∀ r st', R r st' → Fix st' → k (σ.put o.dst (.gate true r)) st') (hk0 : c = false → Fix st → k (σ.put o.dst (.gate false .any)) st) : AO T P E0 n ops o k σ st := by
  intro E a h1 h2 h3 h4 K Q hK
  rw [wanted_of_gcond h4 hg hc]
  cases hcb : c with
  | true =>
    rw [if_pos rfl]
    refine (h hcb).2 E a h1 h2 (relOps_of h4 o) K Q fun u r E' k1 k2 k3 k4 => hK E' _ _ k1 (h3.trans k2) ((h4.step k2).put hd (x := .gate true r) ?_) (hk hcb _ _ k4 (fix_of_inv k1))
    simp only [Rel]
    exact ⟨fun _ => k3, fun h => by cases h⟩
  | false =>
    rw [if_neg (by simp)]
    refine hK E _ _ h2 h3 (h4.put hd (x := .gate false .any) ?_) (by rw [h1]; exact hk0 hcb (by rw [← h1]; exact fix_of_inv h2))
    simp only [Rel]
    exact ⟨fun h => by (cases h), fun _ => trivial⟩

/-- What an operation that may write is owed, and leaves. -/
def vcI (T : Tab) (P : Program) (σ : Slots) (st : St) (o : Oper) (R : AV → St → Prop) : Prop :=
  match o.op with
  | .call cl =>
    (match cl.callee with
    | .value f =>
      (match callArgs (sv σ f) (cl.args.toList.map (sv σ)) with
      | some (g, xs) => gok (ev σ f) ∧ goksL (cl.args.toList.map (ev σ)) ∧ ICall T P g xs st R
      | none => False)
    | .builtin .append =>
      (match cl.args.toList with
      | [x, y] =>
        (match cl.argTypes.toList with
        | [t, tn] =>
          (match sv σ y with
          | .sc (.int .i64 m) =>
            (match sliceElem T t with
            | some e =>
              (match T e with
              | some i => gok (ev σ x) ∧ gok (ev σ y) ∧ sv σ x = .nils ∧ descIs T tn isI64 ∧ zeroOk i ∧ (zeroA i).length = i.cells ∧ 0 < i.cells ∧ 0 < i.bytes ∧ 0 < m ∧ m.toNat * i.bytes ≤ 140737488355328 ∧ R (.own st.length 0) (st ++ [.row e 0 true (List.replicate m.toNat (zeroA i))])
              | none => False)
            | none => False)
          | _ => tn = t ∧ gok (ev σ x) ∧ gok (ev σ y) ∧
            (match srcOf st (sv σ y) with
            | some l' =>
              (match sv σ x with
              | .own id g =>
                (match st[id]? with
                | some (.row e g' al l) => g' = g ∧ srcElem st e (sv σ y) ∧ sliceElem T t = some e ∧ elemOk T e ∧ (l.length + l'.length) * T.bytes e ≤ 140737488355328 ∧ R (.own id (g + 1)) (st.set id (.row e (g + 1) (al || !l'.isEmpty) (l ++ l')))
                | _ => False)
              | .nils =>
                (match sliceElem T t with
                | some e => (∃ e' l, sv σ y = .lst e' l) ∧ srcElem st e (sv σ y) ∧ elemOk T e ∧ l'.length * T.bytes e ≤ 140737488355328 ∧ R (.own st.length 1) (st ++ [.row e 1 (!l'.isEmpty) l'])
                | none => False)
              | _ => False)
            | none => False))
        | _ => False)
      | _ => False)
    | _ => False)
  | .slice t x none (some y) none =>
    (match sv σ x with
    | .own id g =>
      (match st[id]? with
      | some (.row e g' al l) =>
        (match sv σ y with
        | .sc (.int .i64 m) => g' = g ∧ gok (ev σ x) ∧ gok (ev σ y) ∧ sliceElem T t = some e ∧ (T e).isSome = true ∧ 0 ≤ m ∧ m ≤ l.length ∧ R (.own id (g + 1)) (st.set id (.row e (g + 1) al (l.take m.toNat)))
        | _ => False)
      | _ => False)
    | _ => False)
  | .store t x y =>
    (match sv σ x with
    | .ptr id off =>
      (match st[id]? with
      | some (.cells cs) => gok (ev σ x) ∧ gok (ev σ y) ∧ liesOk st (sv σ y) ∧ (T t).isSome = true ∧ (cellsOf (sv σ y)).length = T.cells t ∧ off + T.cells t ≤ cs.length ∧ o.dst = none ∧ R .any (st.set id (.cells (splice cs off (cellsOf (sv σ y)))))
      | _ => False)
    | .rptr id g i f =>
      (match st[id]? with
      | some (.row e g' al l) => g' = g ∧ al = true ∧ gok (ev σ x) ∧ gok (ev σ y) ∧ liesOk st (sv σ y) ∧ (T t).isSome = true ∧ (cellsOf (sv σ y)).length = T.cells t ∧ f + T.cells t ≤ T.cells e ∧ o.dst = none ∧ ∃ c, l[i]? = some c ∧ R .any (st.set id (.row e g true (l.set i (splice c f (cellsOf (sv σ y))))))
      | _ => False)
    | _ => False)
  | .alloc t => (match T t with | some i => zeroOk i ∧ R (.ptr st.length 0) (st ++ [.cells (zeroA i)]) | none => False)
  | .buildSlice t len ps => (match sliceElem T t with
    | some e => goksL (ps.toList.map fun p => ev σ p.2) ∧ buildSliceOk T st t len (ps.toList.map (·.1)) (ps.toList.map fun p => sv σ p.2) ∧ R (.own st.length 0) (st ++ [.row e 0 true ((ps.toList.map fun p => sv σ p.2).map cellsOf)])
    | none => False)
  | _ => False

theorem relOps_slots {o : Oper} {E : Env} {σ : Slots} {a : Act} (h : relOps T E n σ a o) : RelS T E n (fun i => if isTmpOf o i then σ i else .any) a := by
  obtain ⟨q1, q2, q3⟩ := h
  refine ⟨q1, q2, fun i => ?_⟩
  show Rel T E (if isTmpOf o i then σ i else .any) _
  split
  · rename_i hi; exact q3 i (isTmpOf_spec.1 hi)
  · simp only [Rel]

theorem ev_slots {o : Oper} {σ : Slots} {y : Operand} (hy : y ∈ o.op.operands.toList) : ev (fun i => if isTmpOf o i then σ i else .any) y = ev σ y := by
  cases y with
  | tmp t => simp only [ev]; rw [if_pos (isTmpOf_spec.2 hy)]
  | _ => rfl

include hT in
theorem IA_of_vcI {o : Oper} {R : AV → St → Prop} {σ : Slots} {st : St} (hd : dstOk n o.dst) (h : vcI T P σ st o R) : IA T P n o R σ st := by
  refine ⟨hd, fun E a h1 h2 h3 K Q hK => ?_⟩
  have hs := relOps_slots h3
  have hev : ∀ y, y ∈ o.op.operands.toList → gok (ev σ y) → Rel T E (sv σ y) (a.eval y) := by
    intro y hy hg
    have he := ev_slots (σ := σ) hy
    have hsv : sv (fun i => if isTmpOf o i then σ i else .any) y = sv σ y := congrArg str he
    rw [← hsv]
    exact hs.sv (by rw [he]; exact hg)
  subst h1
  unfold vcI at h
  split at h
  · rename_i cl ho
    split at h
    · rename_i f hcal
      split at h
      · rename_i g xs hca
        obtain ⟨q1, q2, q3⟩ := h
        have hops : ∀ y, y ∈ cl.args.toList → y ∈ o.op.operands.toList := fun y hy => by rw [ho]; simp only [Op.operands, Call.operands, Array.toList_append, List.mem_append]; exact .inr hy
        have hf : f ∈ o.op.operands.toList := by rw [ho]; simp only [Op.operands, Call.operands, hcal, Array.toList_append, List.mem_append]; exact .inl (by simp)
        have hr := hev f hf q1
        have hargs : RelL T E (cl.args.toList.map (sv σ)) (cl.args.toList.map a.eval) := by
          have hall : ∀ y ∈ cl.args.toList, Rel T E (sv σ y) (a.eval y) := fun y hy => hev y (hops y hy) (goksL_spec q2 y hy)
          generalize cl.args.toList = l at hall
          induction l with
          | nil => simp [RelL]
          | cons y l ih =>
            simp only [List.map_cons, RelL]
            exact ⟨_, _, rfl, hall y (by simp), ih fun z hz => hall z (by simp [hz])⟩
        generalize sv σ f = y at hr hca
        obtain ⟨first, cap, rfl, rfl⟩ : ∃ first cap, y = .fn (.func g) first cap ∧ first ++ cl.args.toList.map (sv σ) ++ cap = xs := by
          cases y with
          | fn f first cap =>
            cases f <;> simp only [callArgs, Option.some.injEq, Prod.mk.injEq] at hca <;> first | exact ⟨first, cap, by rw [hca.1], hca.2⟩ | (cases hca)
          | _ => simp [callArgs] at hca
        simp only [Rel] at hr
        obtain ⟨vs, ws, e1, e2, e3⟩ := hr
        have hall : RelL T E (first ++ cl.args.toList.map (sv σ) ++ cap) (vs ++ cl.args.toList.map a.eval ++ ws) := RelL.append _ _ (RelL.append _ _ e2 hargs) e3
        have hrun : (execOp a.eval o).run P E.w = .ok (.enter g (vs ++ cl.args.toList.map a.eval ++ ws).toArray) E.w := by
          unfold execOp; rw [ho]; dsimp only
          simp only [resolve, hcal, e1, Deferred.ofValue, Sem.run_bind, Sem.run_pure, Result.andThen_ok, invoke]
          rw [← q3.1]
          congr 2
          simp [← Array.toList_map]
        unfold Oper.wp
        rw [hrun, Oper.upon_enter]
        refine (q3.2 E _ rfl h2 hall).mono ?_
        rintro e w' ⟨v, r, E', rfl, rfl, k1, k2, k3, k4⟩
        exact hK v r E' k1 k2 k3 k4
      · exact h.elim
    · rename_i hcal
      split at h
      · rename_i x y hxy
        split at h
        · rename_i t tn htt
          split at h
          · rename_i m hm
            split at h
            · rename_i e he
              split at h
              · rename_i i hTe
                obtain ⟨q1, q2, q3, q4, q5, q6, q7, q8, q9, q10, q11⟩ := h
                have hops : ∀ y, y ∈ cl.args.toList → y ∈ o.op.operands.toList := fun y hy => by rw [ho]; simp only [Op.operands, Call.operands, Array.toList_append, List.mem_append]; exact .inr hy
                have hp := hev x (hops x (by rw [hxy]; simp)) q1
                have hq := hev y (hops y (by rw [hxy]; simp)) q2
                rw [q3] at hp
                rw [hm] at hq
                simp only [Rel] at hp hq
                obtain ⟨v, E', k1, k2, k3, k4, k5⟩ := appendZeros_core (P := P) (n := m.toNat) hT h2 o.type hp he hTe q5 q6 q7 (i64_spec hT q4) (by omega) q10 q8
                unfold Oper.wp
                have hmm : ((m.toNat : Nat) : Int) = m := by omega
                have hrun : (execOp a.eval o).run P E.w = .ok (.value v) E'.w := by
                  unfold execOp; rw [ho]; dsimp only
                  simp only [resolve, hcal, Sem.run_bind, Sem.run_pure, Result.andThen_ok, invoke, builtin, toList_two hxy, toList_two htt]
                  rw [hmm] at k1
                  simp [hq.1, k1]
                rw [hrun, Oper.upon_value]
                exact hK v _ E' k2 k3 k5 (by rw [k4]; exact q11)
              · exact h.elim
            · exact h.elim
          · obtain ⟨rfl, q1, q2, h⟩ := h
            have hops : ∀ y, y ∈ cl.args.toList → y ∈ o.op.operands.toList := fun y hy => by rw [ho]; simp only [Op.operands, Call.operands, Array.toList_append, List.mem_append]; exact .inr hy
            have hp := hev x (hops x (by rw [hxy]; simp)) q1
            have hq := hev y (hops y (by rw [hxy]; simp)) q2
            have hrun : ∀ {w' : World} (v : Value), (Builtin.append_ #[tn, tn] o.type #[a.eval x, a.eval y]).run P E.w = .ok v w' → (execOp a.eval o).run P E.w = .ok (.value v) w' := by
              intro w' v hv
              unfold execOp; rw [ho]; dsimp only
              simp only [resolve, hcal, Sem.run_bind, Sem.run_pure, Result.andThen_ok, invoke, builtin, toList_two hxy, toList_two htt]
              simp [hv]
            unfold Oper.wp
            split at h
            · rename_i l' hsrc
              split at h
              · rename_i id g hx
                split at h
                · rename_i e g' al l hb
                  obtain ⟨rfl, p1, p2, p3, p4, p5⟩ := h
                  rw [hx] at hp
                  obtain ⟨v, E', k1, k2, k3, k4, k5⟩ := append_core hT h2 o.type hp hb hq hsrc p1 p2 p3 p4
                  rw [hrun v k1, Oper.upon_value]
                  exact hK v _ E' k2 k3 k5 (by rw [k4]; exact p5)
                · exact h.elim
              · rename_i hx
                split at h
                · rename_i e he
                  obtain ⟨⟨e', l, hpy⟩, p2, p3, p4, p5⟩ := h
                  rw [hx] at hp
                  simp only [Rel] at hp
                  obtain ⟨s1, s2, s3⟩ := Env.adopt h2 e
                  have hyr := Rel.step s1 _ _ hq
                  have hb' : (E.st ++ [Blk.row e 0 false []])[E.st.length]? = some (.row e 0 false []) := by simp
                  rw [hpy] at hsrc p2 hyr
                  obtain ⟨v, E', k1, k2, k3, k4, k5⟩ := append_core (E := { E with st := E.st ++ [.row e 0 false []] }) (l' := l') hT s2 o.type (s3 _ hp) hb' hyr hsrc p2 he p3 (by simpa using p4)
                  rw [hrun v k1, Oper.upon_value]
                  exact hK v _ E' k2 (s1.trans k3) k5 (by rw [k4]; simpa using p5)
                · exact h.elim
              · exact h.elim
            · exact h.elim
        · exact h.elim
      · exact h.elim
    · exact h.elim
  · rename_i t x y ho
    split at h
    · rename_i id g hx
      split at h
      · rename_i e g' al l hb
        split at h
        · rename_i m hm
          obtain ⟨rfl, q1, q2, q3, q4, q5, q6, q7⟩ := h
          have hp := hev x (by rw [ho]; simp [Op.operands]) q1
          have hq := hev y (by rw [ho]; simp [Op.operands]) q2
          rw [hx] at hp
          rw [hm] at hq
          simp only [Rel] at hq
          obtain ⟨E', b, cap, k1, k2, k3, k4, k5, k6, k7⟩ := Env.trunc h2 hp hb (show m.toNat ≤ l.length by omega)
          have hbnd : (Instr.sliceBounds true l.length cap none (some (a.eval y)) none).run P E.w = .ok (0, m.toNat, cap) E.w := by
            simp [Instr.sliceBounds, hq.1, Instr.sliceBound, asIntOf, q5, show m ≤ (cap : Int) by omega]
          have hsl := run_sliceAt (P := P) (b := b) hT q3 q4 hbnd
          unfold Oper.wp
          have hrun : (execOp a.eval o).run P E.w = .ok (.value (.slice (if cap = 0 then b else b.map (·.add (0 * T.cells e))) (m.toNat - 0) (cap - 0))) E'.w := by
            unfold execOp; rw [ho]; dsimp only
            rw [Sem.run_bind]
            have : (Instr.sliceAt t (a.eval x) (Option.map a.eval none) (Option.map a.eval (some y)) (Option.map a.eval none)).run P E.w = .ok (.slice (if cap = 0 then b else b.map (·.add (0 * T.cells e))) (m.toNat - 0) (cap - 0)) E.w := by
              rw [k1]; exact hsl
            rw [this, k3]; rfl
          rw [hrun, Oper.upon_value]
          exact hK _ _ E' k4 k5 k7 (by rw [k6]; exact q7)
        · exact h.elim
      · exact h.elim
    · exact h.elim
  · rename_i t x y ho
    split at h
    · rename_i id off hx
      split at h
      · rename_i cs hb
        obtain ⟨q1, q2, q3, q4, q5, q6, _, q8⟩ := h
        have hp := hev x (by rw [ho]; simp [Op.operands]) q1
        have hr := rel_cells' rfl q3 (hev y (by rw [ho]; simp [Op.operands]) q2)
        rw [hx] at hp
        simp only [Rel] at hp
        obtain ⟨E', k1, k2, k3, k4⟩ := Env.store (P := P) h2 hb hr (by rw [q5]; exact q6)
        unfold Oper.wp
        have hrun : (execOp a.eval o).run P E.w = .ok .skip E'.w := by
          unfold execOp; rw [ho]; dsimp only
          rw [hp.2 _ hb]
          have hs : (a.eval y).cells.size = T.cells t := by rw [cells_size hr, q5]
          simp [Instr.storeAt, Instr.sureAddr, storeVar, run_sizeOf' hT q4, hs, k1]
        rw [hrun, Oper.upon_skip]
        exact hK undef .any E' k4 k3 (by simp only [Rel]) (by rw [k2]; exact q8)
      · exact h.elim
    · rename_i id g i f hx
      split at h
      · rename_i e g' al l hb
        obtain ⟨rfl, rfl, q1, q2, q3, q4, q5, q6, _, c, q8, q9⟩ := h
        have hp := hev x (by rw [ho]; simp [Op.operands]) q1
        have hr := rel_cells' rfl q3 (hev y (by rw [ho]; simp [Op.operands]) q2)
        rw [hx] at hp
        simp only [Rel] at hp
        obtain ⟨E', k1, k2, k3, k4⟩ := Env.storeRow (P := P) h2 hb q8 hr (by rw [q5]; exact q6)
        unfold Oper.wp
        have hrun : (execOp a.eval o).run P E.w = .ok .skip E'.w := by
          unfold execOp; rw [ho]; dsimp only
          rw [(hp.2 _ _ _ _ hb).2 rfl rfl]
          have hs : (a.eval y).cells.size = T.cells t := by rw [cells_size hr, q5]
          simp [Instr.storeAt, Instr.sureAddr, storeVar, run_sizeOf' hT q4, hs, k1]
        rw [hrun, Oper.upon_skip]
        exact hK undef .any E' k4 k3 (by simp only [Rel]) (by rw [k2]; exact q9)
      · exact h.elim
    · exact h.elim
  · rename_i t ho
    split at h
    · rename_i i hTt
      obtain ⟨hz, hk⟩ := h
      unfold zeroOk at hz
      unfold zeroA at hk
      cases hzz : i.zero with
      | none => simp [hzz] at hz
      | some z =>
        simp only [hzz] at hz hk
        obtain ⟨E', k1, k2, k3, k4, k5⟩ := Env.new_cells (t := t) (c := z.cells) h2 (relC_consts T E _ hz)
        unfold Oper.wp
        have hrun : (execOp a.eval o).run P E.w = .ok (.value (.pointer (some ⟨E.w.heap.size, 0, none⟩))) (E.w.alloc (.cells z.cells t)) := by
          unfold execOp; rw [ho]; dsimp only
          simp [Instr.alloc, run_zero hT hTt hzz, newVar, newRow]
        rw [hrun, Oper.upon_value, ← k1]
        exact hK _ _ E' k4 k3 k5 (by rw [k2]; exact hk)
    · exact h.elim
  · rename_i t len ps ho
    split at h
    · rename_i e he
      obtain ⟨q1, q2, q4⟩ := h
      have hops : ∀ p ∈ ps.toList, p.2 ∈ o.op.operands.toList := fun p hp => by rw [ho]; simp only [Op.operands]; exact List.mem_map.2 ⟨p, hp, rfl⟩
      have hmap : (ps.toList.map fun p => sv (fun i => if isTmpOf o i then σ i else .any) p.2) = ps.toList.map fun p => sv σ p.2 := List.map_congr_left fun p hp => congrArg str (ev_slots (hops p hp))
      obtain ⟨e', i, c', r1, r2, r3, r4, r5, r6, r7, r8, r9⟩ := run_buildSlice hT hs rfl h2 ho (fun p hp => by rw [ev_slots (hops p hp)]; exact goksL_spec (l := ps.toList.map (·.2)) (by rw [List.map_map]; exact q1) _ (List.mem_map.2 ⟨p, hp, rfl⟩)) (by rw [hmap]; exact q2)
      rw [he] at r1; cases r1
      rw [hmap] at r8
      generalize (ps.toList.map fun p => sv σ p.2).map cellsOf = L at r8 q4
      have hLl : L.length * i.cells = c'.toList.length := by
        have : ∀ (L : List (List AV)) (vs : List Value), RelF T E i.cells L vs → L.length * i.cells = vs.length := by
          intro L
          induction L with
          | nil => intro vs hv; simp only [RelF] at hv; subst hv; simp
          | cons y ys ih =>
            intro vs hv
            simp only [RelF] at hv
            obtain ⟨us, r, rfl, g1, g2, g3⟩ := hv
            have g4 := RelC.len _ _ g2
            rw [List.length_cons, Nat.succ_mul, ih r g3, List.length_append]
            omega
        exact this L _ r8
      have hLen : L.length = len := by
        have h7 : c'.toList.length = len * i.cells := by simp [r9]
        exact Nat.eq_of_mul_eq_mul_right r3 (hLl.trans h7)
      have hce : T.cells e = i.cells := by simp [Tab.cells, r2]
      have hbe : T.bytes e = i.bytes := by simp [Tab.bytes, r2]
      have hmx : len ≤ maxLen := by unfold maxLen; have := Nat.le_trans (Nat.le_mul_of_pos_right len r3) r4; omega
      have hn := Env.new (T := T) h2 (.cells c' e) (.row e 0 true L)
      have hget : (E.w.alloc (.cells c' e)).heap[E.w.heap.size]? = some (.cells c' e (0, 0)) := heap_alloc_new E.w _
      unfold Oper.wp
      rw [r7, Oper.upon_value]
      refine hK _ (.own E.st.length 0) ⟨E.w.alloc (.cells c' e), E.st ++ [.row e 0 true L], fun i => if i = E.st.length then E.w.heap.size else E.φ i, E.M⟩ (hn.2 ?_) hn.1 ?_ q4
      · refine ⟨by rw [hLen, hbe]; exact r5, fun h => (by cases h), fun _ => ⟨c', len, ?_, by rw [hce]; exact r9, by omega, hmx, ?_⟩⟩
        · dsimp only; rw [if_pos rfl]; exact hget
        · dsimp only; rw [if_pos rfl, hce]
          refine RelM.of_flat (c := c'.toList) (fun jj v hjj => ?_) _ c'.toList 0 (RelF.step hn.1 _ _ r8) (fun jj _ => by simp)
          show (E.w.alloc (.cells c' e)).cell? ⟨E.w.heap.size, jj, none⟩ = some v
          rw [World.cell?_alloc_new]; simpa using hjj
      · simp only [Rel]
        refine ⟨by simp, fun e' g' al' l'' h4 => ?_⟩
        simp only [List.getElem?_append_right (Nat.le_refl _), Nat.sub_self, List.getElem?_cons_zero, Option.some.injEq, Blk.row.injEq] at h4
        obtain ⟨rfl, rfl, rfl, rfl⟩ := h4
        exact ⟨Nat.le_refl _, fun _ => ⟨fun _ => ⟨len, c', by rw [if_pos trivial, hLen], by rw [if_pos trivial]; exact hget, by rw [hce]; exact r9, by omega⟩, fun h => (by cases h)⟩⟩
    · exact h.elim
  · exact h.elim

/-- An operation that may write, guarded or not, by what it looks at alone. -/
def GA (T : Tab) (P : Program) (n : Nat) (ops : Array Oper) (o : Oper) (Q : AV → St → Prop) (σ : Slots) (st : St) : Prop :=
  dstOk n o.dst ∧
  match o.guard with
  | none => IA T P n o Q σ st
  | some (g, want) => ∃ c, gcond ops σ g want = some c ∧ (c = true → IA T P n o (fun r st' => Q (.gate true r) st') σ st) ∧ (c = false → Q (.gate false .any) st)
theorem GA.of_IA {o : Oper} {Q : AV → St → Prop} {σ : Slots} {st : St} (hg : o.guard = none) (h : IA T P n o Q σ st) : GA T P n ops o Q σ st := by
  refine ⟨h.1, ?_⟩
  rw [hg]; exact h
theorem AO_of_GA {o : Oper} {Q : AV → St → Prop} {k : Slots → St → Prop} {σ : Slots} {st : St} (h : GA T P n ops o Q σ st) (hk : ∀ r st', Q r st' → Fix st' → k (σ.put o.dst r) st') : AO T P E0 n ops o k σ st := by
  obtain ⟨hd, h⟩ := h
  cases hg : o.guard with
  | none => simp only [hg] at h; exact AO_of_IA hg h hk
  | some q =>
    obtain ⟨g, want⟩ := q
    simp only [hg] at h
    obtain ⟨c, h1, h2, h3⟩ := h
    exact AO_of_IAg hg h1 hd h2 (fun _ r st' hr hF => hk _ _ hr hF) (fun hc hF => hk _ _ (h3 hc) hF)
theorem GA.put {o : Oper} {Q : AV → St → Prop} {σ : Slots} {st : St} {d : Option Tmp} {v : AV} (h : ∀ e, d = some e → e ∉ o.looksAt ops) : GA T P n ops o Q (σ.put d v) st ↔ GA T P n ops o Q σ st := by
  unfold GA
  simp only [IA.put h]
  cases d with
  | none => exact Iff.rfl
  | some e =>
    have hne := h e rfl
    cases hg : o.guard with
    | none => exact Iff.rfl
    | some q =>
      obtain ⟨g, want⟩ := q
      have hc : gcond ops (σ.put (some e) v) g want = gcond ops σ g want := by
        unfold gcond
        cases hd : (ops[g]?).bind (·.dst) with
        | none => rfl
        | some dd =>
          have : (σ.put (some e) v) dd = σ dd := by
            simp only [Slots.put]
            rw [if_neg]
            rintro rfl
            exact hne (List.mem_append.2 (.inr (by rw [hg]; simp [hd])))
          simp only [this]
      simp only [hc]

/-- Operation number i comes up. -/
def tau (T : Tab) (P : Program) (E0 : Env) (n : Nat) (ops : Array Oper) (im : List Nat) (R : Nat → AV → St → Prop) (i : Nat) (K : Slots → St → Prop) (σ : Slots) (st : St) : Prop :=
  match ops[i]? with
  | none => K σ st
  | some o =>
    if i ∈ im then ∃ Q : AV → St → Prop, GA T P n ops o Q σ st ∧ (∀ r st', Q r st' → R i r st') ∧ ∀ r st', Q r st' → Fix st' → K (σ.put o.dst r) st'
    else if isQuiet o = true then ∃ x, YA T P n ops o x σ st ∧ K (σ.put o.dst x) st else AO T P E0 n ops o K σ st

/-- Whatever order is picked from here on. -/
def xAny (T : Tab) (P : Program) (E0 : Env) (n : Nat) (ops : Array Oper) (im : List Nat) (R : Nat → AV → St → Prop) (F : Slots → St → Prop) : Nat → Array Bool → Slots → St → Prop
  | 0, listed, σ, st => Region.ready .any ops listed = [] ∧ F σ st
  | fuel + 1, listed, σ, st => (Region.ready .any ops listed = [] → F σ st) ∧ ∀ i ∈ Region.ready .any ops listed, tau T P E0 n ops im R i (xAny T P E0 n ops im R F fuel (listed.setIfInBounds i true)) σ st

theorem xAny_wp {im : List Nat} {R : Nat → AV → St → Prop} {F : Slots → St → Prop} {Q : Exit → Act → World → Prop} (hF : ∀ E' σ' a', Inv T E' → Step E0 E' → RelS T E' n σ' a' → F σ' E'.st → Q .normal a' E'.w) :
    ∀ (fuel : Nat) (listed : Array Bool) (σ : Slots) (st : St), xAny T P E0 n ops im R F fuel listed σ st → ∀ (E : Env) (a : Act), E.st = st → Inv T E → Step E0 E → RelS T E n σ a → wpAny P .any ops Q fuel listed a E.w
  | 0, _, σ, _, h, E, a, h1, h2, h3, h4 => ⟨h.1, hF E σ a h2 h3 h4 (h1 ▸ h.2)⟩
  | fuel + 1, listed, σ, st, h, E, a, h1, h2, h3, h4 => by
    refine ⟨fun h0 => hF E σ a h2 h3 h4 (h1 ▸ h.1 h0), fun i hi => ?_⟩
    have ht := h.2 i hi
    unfold tau at ht
    unfold wpOp
    cases ho : ops[i]? with
    | none =>
      simp only [ho] at ht ⊢
      exact xAny_wp hF fuel _ σ st ht E a h1 h2 h3 h4
    | some o =>
      simp only [ho] at ht ⊢
      have hAO : AO T P E0 n ops o (xAny T P E0 n ops im R F fuel (listed.setIfInBounds i true)) σ st := by
        split at ht
        · obtain ⟨Q0, g2, _, g3⟩ := ht; exact AO_of_GA g2 g3
        · split at ht
          · obtain ⟨x, k1, k2⟩ := ht; exact AO_of_YA k1 k2
          · exact ht
      have := hAO E a h1 h2 h3 h4 (wpAny P .any ops Q fuel (listed.setIfInBounds i true)) Q fun E' σ' a' k1 k2 k3 k4 => xAny_wp hF fuel _ σ' E'.st k4 E' a' rfl k1 k2 k3
      split
      · rename_i hw; rw [if_pos hw] at this; exact .inl this
      · rename_i hw; rw [if_neg hw] at this; exact this

/-- Does operation k wait for operation j? -/
def reachB (ops : Array Oper) : Nat → Nat → Nat → Bool
  | 0, _, _ => false
  | f + 1, k, j => match ops[k]? with
    | some o => o.after.toList.any fun e => Region.binds .any e && (e.on == j || reachB ops f e.on j)
    | none => false

def Closed (ops : Array Oper) (listed : Array Bool) : Prop :=
  ∀ k o, ops[k]? = some o → listed.getD k false = true → ∀ e ∈ o.after.toList, Region.binds .any e = true → listed.getD e.on false = true

theorem reach_after {listed : Array Bool} (hc : Closed ops listed) : ∀ (f k j : Nat), reachB ops f k j = true →
    (∀ o, ops[k]? = some o → ∀ e ∈ o.after.toList, Region.binds .any e = true → listed.getD e.on false = true) → listed.getD j false = true
  | 0, _, _, h, _ => by simp [reachB] at h
  | f + 1, k, j, h, hk => by
    unfold reachB at h
    cases ho : ops[k]? with
    | none => simp [ho] at h
    | some o =>
      simp only [ho, List.any_eq_true, Bool.and_eq_true, Bool.or_eq_true, beq_iff_eq] at h
      obtain ⟨e, he, hb, h⟩ := h
      have hl := hk o ho e he hb
      rcases h with rfl | h
      · exact hl
      · exact reach_after hc f e.on j h fun o' ho' e' he' hb' => hc e.on o' ho' hl e' he' hb'

theorem closed_set {listed : Array Bool} (hc : Closed ops listed) {i : Nat} (hi : i ∈ Region.ready .any ops listed) : Closed ops (listed.setIfInBounds i true) := by
  obtain ⟨h1, oi, h2, h3⟩ := mem_ready.1 hi
  have mono : ∀ m, listed.getD m false = true → (listed.setIfInBounds i true).getD m false = true := by
    intro m hm
    by_cases him : i = m
    · subst him
      by_cases hlt : i < listed.size
      · simp [Array.getD, hlt]
      · simp [Array.getD, hlt] at hm
    · rw [getD_set_ne false him]; exact hm
  intro k o ho hk e he hb
  by_cases hik : i = k
  · subst hik
    rw [h2] at ho; cases ho
    exact mono _ (h3 e (by simpa using he) hb)
  · rw [getD_set_ne false hik] at hk
    exact mono _ (hc k o ho hk e he hb)

/-- Every operation that may come up beside j is quiet, and apart from it; or it is the one that may write. -/
def Free2 (ops : Array Oper) (im : List Nat) (f : Nat) (oj : Oper) (j : Nat) (listed : Array Bool) : Prop :=
  ∀ k ok, ops[k]? = some ok → k ≠ j → listed.getD k true = false → reachB ops f k j = false → oj.apart ops ok = true ∧ (isQuiet ok = true ∨ k ∈ im)

theorem xAny_first {im : List Nat} {R : Nat → AV → St → Prop} {F : Slots → St → Prop} {f j : Nat} {oj : Oper} {x : AV} (hj : ops[j]? = some oj) (hqj : isQuiet oj = true) (hji : j ∉ im) :
    ∀ (fuel : Nat) (listed : Array Bool) (σ : Slots) (st : St), Closed ops listed → Free2 ops im f oj j listed → j ∈ Region.ready .any ops listed → YA T P n ops oj x σ st →
      (∀ k, k ∈ im → listed.getD k true = false → reachB ops f k j = false → ∀ r st', R k r st' → YA T P n ops oj x σ st') →
      xAny T P E0 n ops im R F fuel (listed.setIfInBounds j true) (σ.put oj.dst x) st → xAny T P E0 n ops im R F (fuel + 1) listed σ st := by
  intro fuel
  induction fuel with
  | zero =>
    intro listed σ st hc hf hr hy hst H
    refine ⟨fun h => (by rw [h] at hr; cases hr), fun k hk => ?_⟩
    by_cases hkj : k = j
    · subst hkj; unfold tau; simp only [hj, hqj, if_true, if_neg hji]; exact ⟨x, hy, H⟩
    · have := ready_mono hk hkj
      rw [H.1] at this; cases this
  | succ fuel ih =>
    intro listed σ st hc hf hr hy hst H
    refine ⟨fun h => (by rw [h] at hr; cases hr), fun k hk => ?_⟩
    by_cases hkj : k = j
    · subst hkj; unfold tau; simp only [hj, hqj, if_true, if_neg hji]; exact ⟨x, hy, H⟩
    · have h1 := H.2 k (ready_mono hk hkj)
      obtain ⟨hkun, ok, hok, hall⟩ := mem_ready.1 hk
      have hjun := (mem_ready.1 hr).1
      have hno : reachB ops f k j = false := by
        cases hrb : reachB ops f k j with
        | false => rfl
        | true =>
          have := reach_after hc f k j hrb fun o ho e he hb => by rw [hok] at ho; cases ho; exact hall e (by simpa using he) hb
          rcases Nat.lt_or_ge j listed.size with h' | h'
          · simp [h'] at hjun this; rw [hjun] at this; cases this
          · simp [Array.getElem?_eq_none h'] at this
      obtain ⟨hap, hqk⟩ := hf k ok hok hkj hkun hno
      obtain ⟨a1, a2, a3⟩ := Oper.apart_spec hap
      have hfree : Free2 ops im f oj j (listed.setIfInBounds k true) := by
        intro m om hm hmj hun hrm
        refine hf m om hm hmj ?_ hrm
        by_cases hkm : k = m
        · subst hkm; exact hkun
        · rw [getD_set_ne true hkm] at hun; exact hun
      have hstn : ∀ m, m ∈ im → (listed.setIfInBounds k true).getD m true = false → reachB ops f m j = false → ∀ r st', R m r st' → YA T P n ops oj x σ st' := by
        intro m hm hun hrm
        refine hst m hm ?_ hrm
        by_cases hkm : k = m
        · subst hkm; exact hkun
        · rw [getD_set_ne true hkm] at hun; exact hun
      unfold tau at h1 ⊢
      by_cases hik : k ∈ im
      · simp only [hok, if_pos hik] at h1 ⊢
        obtain ⟨Q0, g2, gQ, g3⟩ := h1
        refine ⟨Q0, (GA.put a1).1 g2, gQ, fun r st' hR hF => ?_⟩
        refine ih _ _ _ (closed_set hc hk) hfree (ready_mono hr (Ne.symm hkj)) ((YA.put a3).2 (hst k hik hkun hno r st' (gQ r st' hR))) ?_ ?_
        · intro m hm hun hrm r' st2 hR'
          exact (YA.put a3).2 (hstn m hm hun hrm r' st2 hR')
        · rw [Array.setIfInBounds_comm _ _ hkj, ← Slots.put_comm σ x r a2]
          exact g3 r st' hR hF
      · have hqk : isQuiet ok = true := hqk.resolve_right hik
        simp only [hok, hqk, if_true, if_neg hik] at h1 ⊢
        obtain ⟨x', k1, k2⟩ := h1
        refine ⟨x', (YA.put a1).1 k1, ih _ _ _ (closed_set hc hk) hfree (ready_mono hr (Ne.symm hkj)) ((YA.put a3).2 hy) ?_ ?_⟩
        · intro m hm hun hrm r st' hR
          exact (YA.put a3).2 (hstn m hm hun hrm r st' hR)
        · rw [Array.setIfInBounds_comm _ _ hkj, ← Slots.put_comm σ x x' a2]
          exact k2
end
end Go.Ab
end

section
namespace Go.Ab
open Go.RowKit

def free2B (ops : Array Oper) (im : List Nat) (f : Nat) (j : Nat) (listed : Array Bool) : Bool :=
  match ops[j]? with
  | some oj => (List.range ops.size).all fun k => k == j || listed.getD k true || reachB ops f k j || (match ops[k]? with | some ok => oj.apart ops ok && (isQuiet ok || im.contains k) | none => true)
  | none => false
/-- May it come up behind the one that may write? -/
def looseB (ops : Array Oper) (im : Option Nat) (j : Nat) : Bool :=
  match im with
  | some k => decide (j < k) && !reachB ops ops.size k j
  | none => false
/-- Behind one of those that may write? -/
def looseL (ops : Array Oper) (im : List Nat) (j : Nat) : Bool := im.any fun k => looseB ops (some k) j
def lexFrom2 (ops : Array Oper) (im : List Nat) : Nat → Nat → Array Bool → Bool
  | 0, _, listed => (Region.ready .any ops listed).isEmpty
  | fuel + 1, k, listed =>
    (match ops[k]? with
    | some o => if isQuiet o && !im.contains k then (Region.ready .any ops listed).contains k && free2B ops im ops.size k listed && (!looseL ops im k || o.dst.isSome) else Region.ready .any ops listed == [k]
    | none => false) && lexFrom2 ops im fuel (k + 1) (listed.setIfInBounds k true)
def lexB2 (ops : Array Oper) (im : List Nat) : Bool := lexFrom2 ops im ops.size 0 (Array.replicate ops.size false)

/-- An order; 1000 * (a + 1) + c: c; and a, which stands behind, may come up ahead of it. -/
def ordX : List Nat → List Nat
  | [] => []
  | k :: ks => (if 1000 ≤ k then k % 1000 else k) :: ordX ks
/-- dn: the one that has come up ahead. -/
def lexFromO (ops : Array Oper) (im : List Nat) : Option Nat → List Nat → Array Bool → Bool
  | dn, [], listed => dn.isNone && (Region.ready .any ops listed).isEmpty
  | dn, k :: ks, listed => if 1000 ≤ k then
      im.contains (k / 1000 - 1) && im.contains (k % 1000) &&
      (if k / 1000 - 1 = k % 1000 then dn.isNone && Region.ready .any ops listed == [k % 1000] && lexFromO ops im dn ks (listed.setIfInBounds (k % 1000) true)
      else if dn = some (k / 1000 - 1) then Region.ready .any ops listed == [k % 1000] && lexFromO ops im dn ks (listed.setIfInBounds (k % 1000) true)
      else dn.isNone && (Region.ready .any ops listed == [k / 1000 - 1, k % 1000] || Region.ready .any ops listed == [k % 1000, k / 1000 - 1]) &&
        Region.ready .any ops (listed.setIfInBounds (k / 1000 - 1) true) == [k % 1000] && ks.contains (k / 1000 - 1) &&
        lexFromO ops im (some (k / 1000 - 1)) ks ((listed.setIfInBounds (k / 1000 - 1) true).setIfInBounds (k % 1000) true) && lexFromO ops im dn ks (listed.setIfInBounds (k % 1000) true))
    else if dn = some k then lexFromO ops im none ks listed
    else (match ops[k]? with
    | some o => if isQuiet o && !im.contains k then (Region.ready .any ops listed).contains k && free2B ops im ops.size k listed && (o.dst.isSome || ((ordX ks).filter fun m => im.contains m).all fun m => reachB ops ops.size m k) else Region.ready .any ops listed == [k]
    | none => false) && lexFromO ops im dn ks (listed.setIfInBounds k true)
def lexBO (ops : Array Oper) (im ord : List Nat) : Bool := (ordX ord).length == ops.size && (List.range ops.size).all ((ordX ord).contains ·) && lexFromO ops im none ord (Array.replicate ops.size false)
def dstB (n : Nat) (o : Oper) : Prop := match o.dst with | some d => d < n | none => True

def vcLex (T : Tab) (P : Program) (n : Nat) (ops : Array Oper) (im : Option Nat) (R : AV → St → Prop) : Nat → List Oper → (Slots → St → Prop) → Slots → St → Prop
  | _, [], k, σ, st => k σ st
  | i, o :: os, k, σ, st =>
    if im = some i then dstB n o ∧ o.guard = none ∧ vcI T P σ st o R ∧ ∀ r st', R r st' → Fix st' → vcLex T P n ops im R (i + 1) os k (σ.put o.dst r) st'
    else if looseB ops im i = true then vcOp T P n [] ops false o (fun σ1 st1 => (∀ r st', R r st' → vcOp T P n [] ops false o (fun σ2 _ => σ2 = σ1) σ st') ∧ vcLex T P n ops im R (i + 1) os k σ1 st1) σ st
    else vcOp T P n [] ops false o (vcLex T P n ops im R (i + 1) os k) σ st

/-- It does the same behind each of them that it may come up behind. -/
def vcStays (T : Tab) (P : Program) (n : Nat) (ops : Array Oper) (R : Nat → AV → St → Prop) (j : Nat) (o : Oper) (σ σ1 : Slots) : List Nat → Prop
  | [] => True
  | m :: ms => (if looseB ops (some m) j = true then ∀ r st', R m r st' → vcOp T P n [] ops false o (fun σ2 _ => σ2 = σ1) σ st' else True) ∧ vcStays T P n ops R j o σ σ1 ms
def vcStaysO (T : Tab) (P : Program) (n : Nat) (ops : Array Oper) (R : Nat → AV → St → Prop) (j : Nat) (o : Oper) (σ σ1 : Slots) : List Nat → Prop
  | [] => True
  | m :: ms => (if reachB ops ops.size m j = false then ∀ r st', R m r st' → vcOp T P n [] ops false o (fun σ2 _ => σ2 = σ1) σ st' else True) ∧ vcStaysO T P n ops R j o σ σ1 ms
def vcLexM (T : Tab) (P : Program) (n : Nat) (ops : Array Oper) (im : List Nat) (R : Nat → AV → St → Prop) : Nat → List Oper → (Slots → St → Prop) → Slots → St → Prop
  | _, [], k, σ, st => k σ st
  | i, o :: os, k, σ, st =>
    if i ∈ im then dstB n o ∧ o.guard = none ∧ vcI T P σ st o (R i) ∧ ∀ r st', R i r st' → Fix st' → vcLexM T P n ops im R (i + 1) os k (σ.put o.dst r) st'
    else vcOp T P n [] ops false o (fun σ1 st1 => vcStays T P n ops R i o σ σ1 im ∧ vcLexM T P n ops im R (i + 1) os k σ1 st1) σ st
/-- An operation that may write, by what it leaves there. -/
def vcThenQ (T : Tab) (P : Program) (n : Nat) (ops : Array Oper) (R : Nat → AV → St → Prop) (i : Nat) (k : Slots → St → Prop) (σ : Slots) (st : St) : Prop :=
  match ops[i]? with
  | some o => dstB n o ∧
    match o.guard with
    | none => ∃ Q : AV → St → Prop, vcI T P σ st o Q ∧ (∀ r st', Q r st' → R i r st') ∧ ∀ r st', Q r st' → Fix st' → k (σ.put o.dst r) st'
    | some (g, want) =>
      match gcond ops σ g want with
      | some true => ∃ Q : AV → St → Prop, vcI T P σ st o Q ∧ (∀ r st', Q r st' → R i (.gate true r) st') ∧ ∀ r st', Q r st' → Fix st' → k (σ.put o.dst (.gate true r)) st'
      | some false => R i (.gate false .any) st ∧ (Fix st → k (σ.put o.dst (.gate false .any)) st)
      | none => False
  | none => False
/-- In an order of one's own. -/
def vcLexO (T : Tab) (P : Program) (n : Nat) (ops : Array Oper) (im : List Nat) (R : Nat → AV → St → Prop) : Option Nat → List Nat → (Slots → St → Prop) → Slots → St → Prop
  | _, [], k, σ, st => k σ st
  | dn, i :: is, k, σ, st => if 1000 ≤ i then
      (if i / 1000 - 1 = i % 1000 then vcThenQ T P n ops R (i % 1000) (fun σ1 st1 => ∃ R' : Nat → AV → St → Prop, (∀ m r s, R' m r s → R m r s) ∧ vcLexO T P n ops im R' dn is k σ1 st1) σ st
      else if dn = some (i / 1000 - 1) then vcThenQ T P n ops R (i % 1000) (vcLexO T P n ops im R dn is k) σ st
      else vcThenQ T P n ops R (i / 1000 - 1) (vcThenQ T P n ops R (i % 1000) (vcLexO T P n ops im R (some (i / 1000 - 1)) is k)) σ st ∧ vcThenQ T P n ops R (i % 1000) (vcLexO T P n ops im R dn is k) σ st)
    else if dn = some i then vcLexO T P n ops im R none is k σ st
    else
    match ops[i]? with
    | some o =>
      if i ∈ im then vcThenQ T P n ops R i (vcLexO T P n ops im R dn is k) σ st
      else vcOp T P n [] ops false o (fun σ1 st1 => vcStaysO T P n ops R i o σ σ1 ((ordX is).filter fun m => im.contains m) ∧ vcLexO T P n ops im R dn is k σ1 st1) σ st
    | none => False
theorem vcLex_M {T : Tab} {P : Program} {n : Nat} {ops : Array Oper} {im : Option Nat} {R : AV → St → Prop} : ∀ (l : List Oper) (i : Nat) (k : Slots → St → Prop), vcLex T P n ops im R i l k = vcLexM T P n ops im.toList (fun _ => R) i l k
  | [], _, _ => rfl
  | o :: os, i, k => by
    funext σ st
    unfold vcLex vcLexM
    rw [vcLex_M os (i + 1) k]
    cases im with
    | none => simp [looseB, vcStays]
    | some m =>
      by_cases h : m = i
      · subst h; simp
      · have hi : ¬ i = m := fun q => h q.symm
        by_cases hl : looseB ops (some m) i = true
        · simp [h, hi, hl, vcStays]
        · simp [h, hi, hl, vcStays]

def putI (k : Slots → St → Prop) (d : Option Tmp) (σ : Slots) (r : AV) (st : St) : Prop := k (σ.put d r) st
def putIg (k : Slots → St → Prop) (d : Option Tmp) (σ : Slots) (r : AV) (st : St) : Prop := k (σ.put d (.gate true r)) st
/-- A call that may write, by a contract. -/
def vcICall (T : Tab) (P : Program) (g : FuncId) (xs : List AV) (st : St) (k : AV → St → Prop) : Prop := ∃ Q, ICall T P g xs st Q ∧ ∀ r st', Q r st' → Fix st' → k r st'
/-- One operation that may write, in its place. -/
def vcW (T : Tab) (P : Program) (σ : Slots) (st : St) (o : Oper) (k : AV → St → Prop) : Prop :=
  match o.op with
  | .call cl =>
    (match cl.callee with
    | .value f =>
      (match callArgs (sv σ f) (cl.args.toList.map (sv σ)) with
      | some (g, xs) => gok (ev σ f) ∧ goksL (cl.args.toList.map (ev σ)) ∧ vcICall T P g xs st k
      | none => False)
    | .builtin .append =>
      (match cl.args.toList with
      | [x, y] =>
        (match cl.argTypes.toList with
        | [t, tn] =>
          (match sv σ y with
          | .sc (.int .i64 m) =>
            (match sliceElem T t with
            | some e =>
              (match T e with
              | some i => gok (ev σ x) ∧ gok (ev σ y) ∧ sv σ x = .nils ∧ descIs T tn isI64 ∧ zeroOk i ∧ (zeroA i).length = i.cells ∧ 0 < i.cells ∧ 0 < i.bytes ∧ 0 < m ∧ m.toNat * i.bytes ≤ 140737488355328 ∧ k (.own st.length 0) (st ++ [.row e 0 true (List.replicate m.toNat (zeroA i))])
              | none => False)
            | none => False)
          | _ => tn = t ∧ gok (ev σ x) ∧ gok (ev σ y) ∧
            (match srcOf st (sv σ y) with
            | some l' =>
              (match sv σ x with
              | .own id g =>
                (match st[id]? with
                | some (.row e g' al l) => g' = g ∧ srcElem st e (sv σ y) ∧ sliceElem T t = some e ∧ elemOk T e ∧ (l.length + l'.length) * T.bytes e ≤ 140737488355328 ∧ k (.own id (g + 1)) (st.set id (.row e (g + 1) (al || !l'.isEmpty) (l ++ l')))
                | _ => False)
              | .nils =>
                (match sliceElem T t with
                | some e => (∃ e' l, sv σ y = .lst e' l) ∧ srcElem st e (sv σ y) ∧ elemOk T e ∧ l'.length * T.bytes e ≤ 140737488355328 ∧ k (.own st.length 1) (st ++ [.row e 1 (!l'.isEmpty) l'])
                | none => False)
              | _ => False)
            | none => False))
        | _ => False)
      | _ => False)
    | _ => False)
  | .slice t x none (some y) none =>
    (match sv σ x with
    | .own id g =>
      (match st[id]? with
      | some (.row e g' al l) =>
        (match sv σ y with
        | .sc (.int .i64 m) => g' = g ∧ gok (ev σ x) ∧ gok (ev σ y) ∧ sliceElem T t = some e ∧ (T e).isSome = true ∧ 0 ≤ m ∧ m ≤ l.length ∧ k (.own id (g + 1)) (st.set id (.row e (g + 1) al (l.take m.toNat)))
        | _ => False)
      | _ => False)
    | _ => False)
  | .buildSlice t len ps => (match sliceElem T t with
    | some e => goksL (ps.toList.map fun p => ev σ p.2) ∧ buildSliceOk T st t len (ps.toList.map (·.1)) (ps.toList.map fun p => sv σ p.2) ∧ k (.own st.length 0) (st ++ [.row e 0 true ((ps.toList.map fun p => sv σ p.2).map cellsOf)])
    | none => False)
  | _ => False
/-- One operation that may write, in its place, guarded or not. -/
def vcOpI (T : Tab) (P : Program) (n : Nat) (ops : Array Oper) (o : Oper) (k : Slots → St → Prop) (σ : Slots) (st : St) : Prop :=
  dstB n o ∧
  match o.guard with
  | none => vcW T P σ st o (putI k o.dst σ)
  | some (g, want) =>
    match gcond ops σ g want with
    | some c => (c = true → vcW T P σ st o (putIg k o.dst σ)) ∧ (c = false → k (σ.put o.dst (.gate false .any)) st)
    | none => False

def vcOne (T : Tab) (P : Program) (n : Nat) (mu : List Nat) (ops : Array Oper) (im : List Nat) (i : Nat) (o : Oper) (k : Slots → St → Prop) (σ : Slots) (st : St) : Prop :=
  if im.contains i = true then vcOpI T P n ops o k σ st else vcOp T P n mu ops true o k σ st

def vcOps2 (T : Tab) (P : Program) (n : Nat) (mu : List Nat) (ops : Array Oper) (im : List Nat) : Nat → List Oper → (Slots → St → Prop) → Slots → St → Prop
  | _, [], k, σ, st => k σ st
  | i, [o], k, σ, st => vcOne T P n mu ops im i o k σ st
  | i, o :: o2 :: os, k, σ, st =>
    match onceOf mu o o2 with
    | some (t, d, y) => d < n ∧ notTmp d y ∧ gok (ev σ y) ∧ liesOk st (sv σ y) ∧
        (match T t with | some i => (match i.zero with | some z => z.cells.size = i.cells | none => False) ∧ (cellsOf (sv σ y)).length = i.cells | none => False) ∧
        vcOps2 T P n mu ops im (i + 2) os k (σ.put (some d) (.eptr (cellsOf (sv σ y)))) st
    | none => vcOne T P n mu ops im i o (vcOps2 T P n mu ops im (i + 1) (o2 :: os) k) σ st

section
variable {T : Tab} {P : Program} (hT : TabOk T P) {E0 : Env} {n : Nat} {mu : List Nat} {ops : Array Oper}

theorem dstOk_of {o : Oper} (h : dstB n o) : dstOk n o.dst := by
  unfold dstB at h
  unfold dstOk
  cases hdd : o.dst with
  | none => trivial
  | some d => simpa only [hdd] using h

theorem vcI_of_vcW {o : Oper} {k : AV → St → Prop} {σ : Slots} {st : St} (h : vcW T P σ st o k) : ∃ R, vcI T P σ st o R ∧ ∀ r st', R r st' → Fix st' → k r st' := by
  unfold vcW at h
  split at h
  · rename_i cl ho
    split at h
    · rename_i f hcal
      split at h
      · rename_i g xs hca
        obtain ⟨h1, h2, Q, h3, h4⟩ := h
        refine ⟨Q, ?_, h4⟩
        unfold vcI
        simp only [ho, hcal, hca]
        exact ⟨h1, h2, h3⟩
      · exact h.elim
    · rename_i hcal
      split at h
      · rename_i x y hxy
        split at h
        · rename_i t tn htt
          split at h
          · rename_i m hm
            split at h
            · rename_i e he
              split at h
              · rename_i i hTe
                obtain ⟨q1, q2, q3, q4, q5, q6, q7, q8, q9, q10, q11⟩ := h
                refine ⟨fun r st' => r = .own st.length 0 ∧ st' = st ++ [.row e 0 true (List.replicate m.toNat (zeroA i))], ?_, ?_⟩
                · unfold vcI
                  simp only [ho, hcal, hxy, htt, hm, he, hTe]
                  exact ⟨q1, q2, q3, q4, q5, q6, q7, q8, q9, q10, trivial, trivial⟩
                · rintro r st' ⟨rfl, rfl⟩ _; exact q11
              · exact h.elim
            · exact h.elim
          · rename_i hny
            obtain ⟨rfl, q1, q2, h⟩ := h
            have hmain : ∀ R : AV → St → Prop, (match srcOf st (sv σ y) with
                | some l' =>
                  (match sv σ x with
                  | .own id g =>
                    (match st[id]? with
                    | some (.row e g' al l) => g' = g ∧ srcElem st e (sv σ y) ∧ sliceElem T tn = some e ∧ elemOk T e ∧ (l.length + l'.length) * T.bytes e ≤ 140737488355328 ∧ R (.own id (g + 1)) (st.set id (.row e (g + 1) (al || !l'.isEmpty) (l ++ l')))
                    | _ => False)
                  | .nils =>
                    (match sliceElem T tn with
                    | some e => (∃ e' l, sv σ y = .lst e' l) ∧ srcElem st e (sv σ y) ∧ elemOk T e ∧ l'.length * T.bytes e ≤ 140737488355328 ∧ R (.own st.length 1) (st ++ [.row e 1 (!l'.isEmpty) l'])
                    | none => False)
                  | _ => False)
                | none => False) → vcI T P σ st o R := by
              intro R hR
              unfold vcI
              simp only [ho, hcal, hxy, htt]
              generalize sv σ y = yy at hny hR ⊢
              cases yy with
              | sc v =>
                cases v with
                | int kd m =>
                  cases kd with
                  | i64 => exact absurd rfl (hny m)
                  | _ => exact ⟨trivial, q1, q2, hR⟩
                | _ => exact ⟨trivial, q1, q2, hR⟩
              | _ => exact ⟨trivial, q1, q2, hR⟩
            split at h
            · rename_i l' hsrc
              split at h
              · rename_i id g hx
                split at h
                · rename_i e g' al l hb
                  obtain ⟨rfl, p1, p2, p3, p4, p5⟩ := h
                  refine ⟨fun r st' => r = .own id (g' + 1) ∧ st' = st.set id (.row e (g' + 1) (al || !l'.isEmpty) (l ++ l')), hmain _ ?_, ?_⟩
                  · simp only [hsrc, hx, hb]; exact ⟨trivial, p1, p2, p3, p4, trivial, trivial⟩
                  · rintro r st' ⟨rfl, rfl⟩ _; exact p5
                · exact h.elim
              · rename_i hx
                split at h
                · rename_i e he
                  obtain ⟨p1, p2, p3, p4, p5⟩ := h
                  refine ⟨fun r st' => r = .own st.length 1 ∧ st' = st ++ [.row e 1 (!l'.isEmpty) l'], hmain _ ?_, ?_⟩
                  · simp only [hsrc, hx, he]; exact ⟨p1, p2, p3, p4, trivial, trivial⟩
                  · rintro r st' ⟨rfl, rfl⟩ _; exact p5
                · exact h.elim
              · exact h.elim
            · exact h.elim
        · exact h.elim
      · exact h.elim
    · exact h.elim
  · rename_i t x y ho
    split at h
    · rename_i id g hx
      split at h
      · rename_i e g' al l hb
        split at h
        · rename_i m hm
          obtain ⟨q0, q1, q2, q3, q4, q5, q6, q7⟩ := h
          refine ⟨fun r st' => r = .own id (g + 1) ∧ st' = st.set id (.row e (g + 1) al (l.take m.toNat)), ?_, ?_⟩
          · unfold vcI
            simp only [ho, hx, hb, hm]
            exact ⟨q0, q1, q2, q3, q4, q5, q6, trivial, trivial⟩
          · rintro r st' ⟨rfl, rfl⟩ _; exact q7
        · exact h.elim
      · exact h.elim
    · exact h.elim
  · rename_i t len ps ho
    split at h
    · rename_i e he
      obtain ⟨h1, h2, h3⟩ := h
      refine ⟨fun r st' => r = .own st.length 0 ∧ st' = st ++ [.row e 0 true ((ps.toList.map fun p => sv σ p.2).map cellsOf)], ?_, ?_⟩
      · unfold vcI
        simp only [ho, he]
        exact ⟨h1, h2, by simp⟩
      · rintro r st' ⟨rfl, rfl⟩ _; exact h3
    · exact h.elim
  · exact h.elim

include hT in
theorem vcOpI_sound {o : Oper} {k : Slots → St → Prop} {σ : Slots} {st : St} (h : vcOpI T P n ops o k σ st) : AO T P E0 n ops o k σ st := by
  obtain ⟨hd, h⟩ := h
  have hd := dstOk_of hd
  split at h
  · rename_i hg
    obtain ⟨R, h1, h2⟩ := vcI_of_vcW h
    exact AO_of_IA hg (IA_of_vcI hT hd h1) h2
  · rename_i g want hg
    split at h
    · rename_i c hc
      cases hcb : c with
      | true =>
        obtain ⟨R, h1, h2⟩ := vcI_of_vcW (h.1 hcb)
        exact AO_of_IAg hg hc hd (fun _ => IA_of_vcI hT hd h1) (fun _ => h2) (fun hf _ => by rw [hcb] at hf; cases hf)
      | false =>
        exact AO_of_IAg (R := fun _ _ => False) hg hc hd (fun hf => by rw [hcb] at hf; cases hf) (fun hf => by rw [hcb] at hf; cases hf) (fun hf _ => h.2 hf)
    · exact h.elim

include hT in
theorem vcOne_sound {im : List Nat} {i : Nat} {o : Oper} {k : Slots → St → Prop} {σ : Slots} {st : St} (h : vcOne T P n mu ops im i o k σ st) : AO T P E0 n ops o k σ st := by
  unfold vcOne at h
  split at h
  · exact vcOpI_sound hT h
  · exact vcOp_sound hT h

include hT in
theorem vcOps2_sound {im : List Nat} : ∀ (i : Nat) (l : List Oper) {σ : Slots} {st : St} {k : Slots → St → Prop}, vcOps2 T P n mu ops im i l k σ st → AL T P E0 n ops l k σ st
  | _, [], _, _, _, h => AL.nil h
  | _, [o], _, _, _, h => AL.cons ((vcOne_sound hT h).mono fun _ _ hk => AL.nil hk)
  | i, o :: o2 :: os, σ, st, k, h => by
    simp only [vcOps2] at h
    split at h
    · rename_i t d y hon
      obtain ⟨e1, e2, e3, e4, e5, e6⟩ := onceOf_spec hon
      obtain ⟨q1, q2, q3, q4, q5, q6⟩ := h
      cases hTt : T t with
      | none => simp [hTt] at q5
      | some ii =>
        simp only [hTt] at q5
        exact AL.once hT e1 e2 e3 q1 hTt q5.1 e4 e5 e6 q2 q3 q4 q5.2 (vcOps2_sound (i + 2) os q6)
    · exact AL.cons ((vcOne_sound hT h).mono fun _ _ hk => vcOps2_sound (i + 1) (o2 :: os) hk)

theorem free2_spec {im : List Nat} {f j : Nat} {oj : Oper} {listed : Array Bool} (hj : ops[j]? = some oj) (h : free2B ops im f j listed = true) : Free2 ops im f oj j listed := by
  unfold free2B at h
  simp only [hj, List.all_eq_true, List.mem_range, Bool.or_eq_true, beq_iff_eq] at h
  intro k ok hok hne hun hr
  have hlt : k < ops.size := (Array.getElem?_eq_some_iff.1 hok).1
  have := h k hlt
  simp only [hok, Bool.and_eq_true, Bool.or_eq_true, List.contains_iff_mem] at this
  rcases this with ((h1 | h1) | h1) | h1
  · exact absurd h1 hne
  · rw [hun] at h1; cases h1
  · rw [hr] at h1; cases h1
  · exact h1

theorem Slots.put_inj {σ : Slots} {d : Option Tmp} {x y : AV} (h : σ.put d x = σ.put d y) (hd : d.isSome = true) : x = y := by
  cases d with
  | none => cases hd
  | some d =>
    have := congrFun h d
    simpa [Slots.put] using this

/-- One that may write is listed once its turn was. -/
def Past (im : List Nat) (k : Nat) (listed : Array Bool) : Prop := ∀ m, m ∈ im → m < k → listed.getD m true = true

theorem vcStays_mem {R : Nat → AV → St → Prop} {j m : Nat} {o : Oper} {σ σ1 : Slots} : ∀ {im : List Nat}, vcStays T P n ops R j o σ σ1 im → m ∈ im → looseB ops (some m) j = true → ∀ r st', R m r st' → vcOp T P n [] ops false o (fun σ2 _ => σ2 = σ1) σ st'
  | [], _, h, _ => by cases h
  | m' :: ms, h, hm, hl => by
    unfold vcStays at h
    rcases List.mem_cons.1 hm with e | e
    · subst e; have := h.1; rw [if_pos hl] at this; exact this
    · exact vcStays_mem h.2 e hl

include hT in
theorem xAny_lex {im : List Nat} {R : Nat → AV → St → Prop} {F : Slots → St → Prop} : ∀ (l : List Oper) (k : Nat) (listed : Array Bool) (σ : Slots) (st : St), (∀ j, l[j]? = ops[k + j]?) → Closed ops listed → Past im k listed →
    lexFrom2 ops im l.length k listed = true → vcLexM T P n ops im R k l F σ st → xAny T P E0 n ops im R F l.length listed σ st
  | [], _, _, _, _, _, _, _, hB, h => ⟨by simpa [lexFrom2] using hB, h⟩
  | o :: l, k, listed, σ, st, hl, hc, hp, hB, h => by
    have h0 : ops[k]? = some o := by simpa using (hl 0).symm
    simp only [List.length_cons, lexFrom2, h0, Bool.and_eq_true] at hB
    obtain ⟨hB1, hB2⟩ := hB
    have hl' : ∀ j, l[j]? = ops[k + 1 + j]? := fun j => by have := hl (j + 1); simpa [Nat.add_assoc, Nat.add_comm 1 j] using this
    have hp' : Past im (k + 1) (listed.setIfInBounds k true) := by
      intro m hm hlt
      by_cases hkm : k = m
      · subst hkm
        by_cases hs : k < listed.size
        · simp [Array.getD, hs]
        · simp [Array.getD, hs]
      · rw [getD_set_ne true hkm]
        exact hp m hm (by omega)
    simp only [vcLexM] at h
    by_cases him : k ∈ im
    · rw [if_neg (by simp [him])] at hB1
      rw [beq_iff_eq] at hB1
      have hr : k ∈ Region.ready .any ops listed := by rw [hB1]; simp
      rw [if_pos him] at h
      obtain ⟨h1, h2, h3, h4⟩ := h
      refine ⟨fun h => (by rw [hB1] at h; cases h), fun i hi => ?_⟩
      rw [hB1] at hi
      simp at hi
      subst hi
      unfold tau
      simp only [h0, if_pos him]
      exact ⟨R i, GA.of_IA h2 (IA_of_vcI hT (dstOk_of h1) h3), fun _ _ h => h, fun r st' hR hF => xAny_lex l (i + 1) _ _ st' hl' (closed_set hc hr) hp' hB2 (h4 r st' hR hF)⟩
    · rw [if_neg him] at h
      have hne : (!im.contains k) = true := by simpa using him
      by_cases hq : isQuiet o = true
      · rw [if_pos ⟨hq, hne⟩] at hB1
        simp only [Bool.and_eq_true] at hB1
        obtain ⟨⟨hr, hf⟩, hls⟩ := hB1
        have hr : k ∈ Region.ready .any ops listed := by simpa using hr
        obtain ⟨x, h1, h2, h3⟩ := YA_of_vcOp hT hq h
        refine xAny_first h0 hq him l.length listed σ st hc (free2_spec h0 hf) hr h1 ?_ (xAny_lex l (k + 1) _ _ _ hl' (closed_set hc hr) hp' hB2 h3)
        intro m hm hun hre r st' hR
        have hlo : looseB ops (some m) k = true := by
          unfold looseB
          dsimp only
          rw [hre]
          rcases Nat.lt_trichotomy m k with hlt | heq | hgt
          · rw [hp m hm hlt] at hun; cases hun
          · exact absurd (heq ▸ hm) him
          · simp [hgt]
        obtain ⟨x', k1, k2⟩ := YA_of_vcOp hT hq (vcStays_mem h2 hm hlo r st' hR)
        have hds : o.dst.isSome = true := by
          have : looseL ops im k = true := List.any_eq_true.2 ⟨m, hm, hlo⟩
          rw [this] at hls; simpa using hls
        rw [← Slots.put_inj k2 hds]; exact k1
      · have hq' : isQuiet o = false := by simpa using hq
        rw [if_neg (by rw [hq']; simp)] at hB1
        rw [beq_iff_eq] at hB1
        have hr : k ∈ Region.ready .any ops listed := by rw [hB1]; simp
        refine ⟨fun h => (by rw [hB1] at h; cases h), fun i hi => ?_⟩
        rw [hB1] at hi
        simp at hi
        subst hi
        unfold tau
        simp only [h0, if_neg him, hq', Bool.false_eq_true, if_false]
        have hAO : AO T P E0 n ops o (vcLexM T P n ops im R (i + 1) l F) σ st := (vcOp_sound hT h).mono fun _ _ hk => hk.2
        exact hAO.mono fun σ' st' hk => xAny_lex l (i + 1) _ σ' st' hl' (closed_set hc hr) hp' hB2 hk

include hT in
theorem AW.drawM {im : List Nat} {R : Nat → AV → St → Prop} {id : Nat} {l : List Oper} {K : Exit → Slots → St → Prop} {σ : Slots} {st : St} (hm : P.follows .mixedOrders = true) (hB : lexB2 l.toArray im = true) (h : vcLexM T P n l.toArray im R 0 l (K .normal) σ st) :
    AW T P E0 n (.region id l.toArray true) K σ st := by
  intro E a h1 h2 h3 h4
  refine wp_region_any hm ?_
  obtain ⟨s1, s2⟩ := Env.ext (w' := E.w.drew) h2 rfl rfl rfl (Nat.le_refl _) (fun _ _ => rfl)
  have hx : xAny T P E0 n l.toArray im R (K .normal) l.length (Array.replicate l.toArray.size false) σ st := by
    refine xAny_lex hT l 0 _ σ st (fun j => by simp) ?_ (fun m _ hlt => absurd hlt (Nat.not_lt_zero m)) ?_ h
    · intro k o ho hk
      exfalso
      have : k < l.toArray.size := (Array.getElem?_eq_some_iff.1 ho).1
      simp [Array.getD] at hk
    · simpa [lexB2] using hB
  have := xAny_wp (Q := fun e a' w' => ∃ E' σ', E'.w = w' ∧ Inv T E' ∧ Step E0 E' ∧ RelS T E' n σ' a' ∧ K e σ' E'.st) (fun E' σ' a' k1 k2 k3 k4 => ⟨E', σ', rfl, k1, k2, k3, k4⟩) _ _ σ st hx { E with w := E.w.drew } a h1 s2 (h3.trans s1) (h4.step s1)
  simpa using this
include hT in
theorem AW.draw {im : Option Nat} {R : AV → St → Prop} {id : Nat} {l : List Oper} {K : Exit → Slots → St → Prop} {σ : Slots} {st : St} (hm : P.follows .mixedOrders = true) (hB : lexB2 l.toArray im.toList = true) (h : vcLex T P n l.toArray im R 0 l (K .normal) σ st) :
    AW T P E0 n (.region id l.toArray true) K σ st := by
  rw [vcLex_M] at h
  exact AW.drawM hT hm hB h

theorem vcStaysO_mem {R : Nat → AV → St → Prop} {j m : Nat} {o : Oper} {σ σ1 : Slots} : ∀ {im : List Nat}, vcStaysO T P n ops R j o σ σ1 im → m ∈ im → reachB ops ops.size m j = false → ∀ r st', R m r st' → vcOp T P n [] ops false o (fun σ2 _ => σ2 = σ1) σ st'
  | [], _, h, _ => by cases h
  | m' :: ms, h, hm, hl => by
    unfold vcStaysO at h
    rcases List.mem_cons.1 hm with e | e
    · subst e; have := h.1; rw [if_pos hl] at this; exact this
    · exact vcStaysO_mem h.2 e hl
/-- What is not listed is still to come. -/
def Rest (l : List Nat) (listed : Array Bool) : Prop := ∀ m, listed.getD m true = false → m ∈ l
theorem Rest.next {k : Nat} {l : List Nat} {listed : Array Bool} (h : Rest (k :: l) listed) : Rest l (listed.setIfInBounds k true) := by
  intro m hm
  by_cases hkm : k = m
  · subst hkm
    exfalso
    by_cases hs : k < listed.size
    · simp [Array.getD, hs] at hm
    · simp [Array.getD, hs] at hm
  · rw [getD_set_ne true hkm] at hm
    rcases List.mem_cons.1 (h m hm) with e | e
    · exact absurd e.symm hkm
    · exact e
theorem xAny_R {im : List Nat} {R R' : Nat → AV → St → Prop} {F : Slots → St → Prop} (hR : ∀ m r s, R' m r s → R m r s) : ∀ (fuel : Nat) (listed : Array Bool) (σ : Slots) (st : St),
    xAny T P E0 n ops im R' F fuel listed σ st → xAny T P E0 n ops im R F fuel listed σ st
  | 0, _, _, _, h => h
  | fuel + 1, listed, σ, st, h => by
    refine ⟨h.1, fun i hi => ?_⟩
    have h1 := h.2 i hi
    unfold tau at h1 ⊢
    cases h0 : ops[i]? with
    | none => simp only [h0] at h1 ⊢; exact xAny_R hR fuel _ _ _ h1
    | some o =>
      simp only [h0] at h1 ⊢
      by_cases him : i ∈ im
      · rw [if_pos him] at h1 ⊢
        obtain ⟨Q, k1, k2, k3⟩ := h1
        exact ⟨Q, k1, fun r st' hq => hR _ _ _ (k2 r st' hq), fun r st' hq hF => xAny_R hR fuel _ _ _ (k3 r st' hq hF)⟩
      · rw [if_neg him] at h1 ⊢
        by_cases hq : isQuiet o = true
        · rw [if_pos hq] at h1 ⊢
          obtain ⟨x, k1, k2⟩ := h1
          exact ⟨x, k1, xAny_R hR fuel _ _ _ k2⟩
        · rw [if_neg hq] at h1 ⊢
          exact h1.mono fun σ' st' hk => xAny_R hR fuel _ _ _ hk
include hT in
/-- The one operation that is ready, and may write. -/
theorem xAny_then {im : List Nat} {R : Nat → AV → St → Prop} {F k : Slots → St → Prop} {i fuel : Nat} {listed : Array Bool} {σ : Slots} {st : St} (him : i ∈ im) (h : vcThenQ T P n ops R i k σ st)
    (hk : ∀ σ' st', k σ' st' → xAny T P E0 n ops im R F fuel (listed.setIfInBounds i true) σ' st') : tau T P E0 n ops im R i (xAny T P E0 n ops im R F fuel (listed.setIfInBounds i true)) σ st := by
  unfold vcThenQ at h
  unfold tau
  cases h0 : ops[i]? with
  | none => rw [h0] at h; exact h.elim
  | some o =>
    rw [h0] at h
    obtain ⟨h1, h⟩ := h
    simp only [if_pos him]
    split at h
    · rename_i hg
      obtain ⟨Q, h3, h4, h5⟩ := h
      exact ⟨Q, GA.of_IA hg (IA_of_vcI hT (dstOk_of h1) h3), h4, fun r st' hQ hF => hk _ _ (h5 r st' hQ hF)⟩
    · rename_i g want hg
      split at h
      · rename_i hc
        obtain ⟨Q, h3, h4, h5⟩ := h
        refine ⟨fun r st' => ∃ r0, r = .gate true r0 ∧ Q r0 st', ⟨dstOk_of h1, ?_⟩, ?_, ?_⟩
        · rw [hg]
          refine ⟨true, hc, fun _ => ?_, fun h => by cases h⟩
          have := IA_of_vcI hT (dstOk_of h1) h3
          refine ⟨this.1, fun E a k1 k2 k3 K Q' hK => this.2 E a k1 k2 k3 K Q' fun u r E' m1 m2 m3 m4 => hK u r E' m1 m2 m3 ⟨r, rfl, m4⟩⟩
        · rintro r st' ⟨r0, rfl, hQ⟩; exact h4 _ _ hQ
        · rintro r st' ⟨r0, rfl, hQ⟩ hF; exact hk _ _ (h5 _ _ hQ hF)
      · rename_i hc
        refine ⟨fun r st' => r = .gate false .any ∧ st' = st, ⟨dstOk_of h1, ?_⟩, ?_, ?_⟩
        · rw [hg]
          exact ⟨false, hc, fun h => (by cases h), fun _ => ⟨rfl, rfl⟩⟩
        · rintro r st' ⟨rfl, rfl⟩; exact h.1
        · rintro r st' ⟨rfl, rfl⟩ hF; exact hk _ _ (h.2 hF)
      · exact h.elim
theorem vcThenQ.mono {R : Nat → AV → St → Prop} {k k' : Slots → St → Prop} {i : Nat} {σ : Slots} {st : St} (h : vcThenQ T P n ops R i k σ st) (hk : ∀ σ' st', k σ' st' → k' σ' st') : vcThenQ T P n ops R i k' σ st := by
  unfold vcThenQ at h ⊢
  split at h
  · obtain ⟨h1, h⟩ := h
    refine ⟨h1, ?_⟩
    split at h
    · obtain ⟨Q, h3, h4, h5⟩ := h
      exact ⟨Q, h3, h4, fun r st' hQ hF => hk _ _ (h5 r st' hQ hF)⟩
    · split at h
      · obtain ⟨Q, h3, h4, h5⟩ := h
        exact ⟨Q, h3, h4, fun r st' hQ hF => hk _ _ (h5 r st' hQ hF)⟩
      · exact ⟨h.1, fun hF => hk _ _ (h.2 hF)⟩
      · exact h.elim
  · exact h
theorem ready_one {listed : Array Bool} {i j : Nat} (h : Region.ready .any ops listed = [j]) (hi : i ∈ Region.ready .any ops listed) : i = j := by
  rw [h] at hi; simpa using hi
def fuelO (dn : Option Nat) (l : List Nat) : Nat := if dn.isSome then l.length - 1 else l.length
theorem Rest.skip {k : Nat} {l : List Nat} {listed : Array Bool} (h : Rest (k :: l) listed) (hk : listed.getD k true = true) : Rest l listed := by
  intro m hm
  rcases List.mem_cons.1 (h m hm) with e | e
  · subst e; rw [hk] at hm; cases hm
  · exact e
theorem getD_set_self {listed : Array Bool} (k : Nat) : (listed.setIfInBounds k true).getD k true = true := by
  by_cases hs : k < listed.size
  · simp [Array.getD, hs]
  · simp [Array.getD, hs]
theorem getD_set_keep {listed : Array Bool} {a : Nat} (k : Nat) (h : listed.getD a true = true) : (listed.setIfInBounds k true).getD a true = true := by
  by_cases hka : k = a
  · subst hka; exact getD_set_self k
  · rw [getD_set_ne true hka]; exact h
theorem Rest.keep {l : List Nat} {listed : Array Bool} (k : Nat) (h : Rest l listed) : Rest l (listed.setIfInBounds k true) := by
  intro m hm
  refine h m ?_
  cases hg : listed.getD m true with
  | false => rfl
  | true => rw [getD_set_keep k hg] at hm; cases hm
include hT in
theorem xAny_ord {im : List Nat} {R : Nat → AV → St → Prop} {F : Slots → St → Prop} : ∀ (l : List Nat) (dn : Option Nat) (listed : Array Bool) (σ : Slots) (st : St), Closed ops listed → Rest (ordX l) listed → (∀ a, dn = some a → listed.getD a true = true ∧ a ∈ l) →
    lexFromO ops im dn l listed = true → vcLexO T P n ops im R dn l F σ st → xAny T P E0 n ops im R F (fuelO dn l) listed σ st
  | [], dn, _, _, _, _, _, hdn, hB, h => by
    simp only [lexFromO, Bool.and_eq_true] at hB
    have : dn = none := by simpa using hB.1
    subst this
    exact ⟨by simpa using hB.2, h⟩
  | k :: l, dn, listed, σ, st, hc, hp, hdn, hB, h => by
    by_cases hk : 1000 ≤ k
    · simp only [lexFromO, if_pos hk, Bool.and_eq_true, List.contains_iff_mem] at hB
      simp only [vcLexO, if_pos hk] at h
      simp only [ordX, if_pos hk] at hp
      generalize hka : k / 1000 - 1 = a at hB h hp
      generalize k % 1000 = b at hB h hp
      obtain ⟨⟨ha, hb⟩, hB⟩ := hB
      by_cases hab0 : a = b
      · rw [if_pos hab0] at hB h
        simp only [Bool.and_eq_true, beq_iff_eq] at hB
        obtain ⟨⟨hnone, r0⟩, hB⟩ := hB
        have hdn0 : dn = none := by simpa using hnone
        subst hdn0
        have hrb : b ∈ Region.ready .any ops listed := by rw [r0]; simp
        have hf2 : fuelO none (k :: l) = fuelO none l + 1 := by simp [fuelO]
        rw [hf2]
        refine ⟨fun h => (by rw [r0] at h; cases h), fun i hi => ?_⟩
        obtain rfl := ready_one r0 hi
        exact xAny_then hT hb h fun σ' st' ⟨R', hR, h'⟩ => xAny_R hR _ _ _ _ (xAny_ord l none _ σ' st' (closed_set hc hrb) hp.next (fun a' ha' => by cases ha') hB h')
      rw [if_neg hab0] at hB h
      by_cases hd : dn = some a
      · rw [if_pos hd] at hB h
        simp only [Bool.and_eq_true, beq_iff_eq] at hB
        obtain ⟨r0, hB⟩ := hB
        have hrb : b ∈ Region.ready .any ops listed := by rw [r0]; simp
        obtain ⟨hla, hal⟩ := hdn a hd
        have hal' : a ∈ l := by
          rcases List.mem_cons.1 hal with e | e
          · exfalso; omega
          · exact e
        have hlen : 1 ≤ l.length := List.length_pos_of_mem hal'
        have hf : fuelO dn (k :: l) = fuelO dn l + 1 := by subst hd; simp [fuelO]; omega
        rw [hf]
        refine ⟨fun h => (by rw [r0] at h; cases h), fun i hi => ?_⟩
        obtain rfl := ready_one r0 hi
        exact xAny_then hT hb h fun σ' st' h' => xAny_ord l dn _ σ' st' (closed_set hc hrb) hp.next (fun a' ha' => by rw [hd] at ha'; cases ha'; exact ⟨getD_set_keep _ hla, hal'⟩) hB h'
      · rw [if_neg hd] at hB h
        simp only [Bool.and_eq_true, Bool.or_eq_true, beq_iff_eq, List.contains_iff_mem] at hB
        obtain ⟨⟨⟨⟨⟨hnone, r0⟩, r1⟩, hal⟩, hB1⟩, hB2⟩ := hB
        have hdn0 : dn = none := by simpa using hnone
        subst hdn0
        have hra : a ∈ Region.ready .any ops listed := by rcases r0 with r0 | r0 <;> (rw [r0]; simp)
        have hrb : b ∈ Region.ready .any ops listed := by rcases r0 with r0 | r0 <;> (rw [r0]; simp)
        have hrb' : b ∈ Region.ready .any ops (listed.setIfInBounds a true) := by rw [r1]; simp
        have hlen : 1 ≤ l.length := List.length_pos_of_mem hal
        have hab : a ≠ b := fun e => by
          subst e
          have := (mem_ready.1 hrb').1
          simp at this
        have hf : fuelO none (k :: l) = l.length - 1 + 1 + 1 := by simp [fuelO]; omega
        have hf2 : fuelO none (k :: l) = fuelO none l + 1 := by simp [fuelO]
        have two : ∀ i, i ∈ Region.ready .any ops listed → i = a ∨ i = b := by
          intro i hi
          rcases r0 with r0 | r0 <;> (rw [r0] at hi; simp only [List.mem_cons, List.not_mem_nil, or_false] at hi)
          · exact hi
          · exact hi.symm
        have hne : Region.ready .any ops listed ≠ [] := by rcases r0 with r0 | r0 <;> (rw [r0]; simp)
        have pa : tau T P E0 n ops im R a (xAny T P E0 n ops im R F (l.length - 1 + 1) (listed.setIfInBounds a true)) σ st := by
          refine xAny_then hT ha h.1 fun σ' st' h' => ⟨fun h => (by rw [r1] at h; cases h), fun j hj => ?_⟩
          obtain rfl := ready_one r1 hj
          refine xAny_then hT hb h' fun σ2 st2 h2 => ?_
          have hrec := xAny_ord l (some a) _ σ2 st2 (closed_set (closed_set hc hra) hrb') (by
            have := (Rest.keep a hp).next
            exact this) (fun a' ha' => by cases ha'; exact ⟨getD_set_keep _ (getD_set_self a), hal⟩) hB1 h2
          simpa [fuelO] using hrec
        have pb : tau T P E0 n ops im R b (xAny T P E0 n ops im R F (fuelO none l) (listed.setIfInBounds b true)) σ st :=
          xAny_then hT hb h.2 fun σ' st' h' => xAny_ord l none _ σ' st' (closed_set hc hrb) hp.next (fun a' ha' => by cases ha') hB2 h'
        rw [hf2]
        refine ⟨fun h => absurd h hne, fun i hi => ?_⟩
        rcases two i hi with rfl | rfl
        · rw [show fuelO none l = l.length - 1 + 1 by simp [fuelO]; omega]; exact pa
        · exact pb
    by_cases hd : dn = some k
    · subst hd
      simp only [lexFromO, if_neg hk, if_true] at hB
      simp only [vcLexO, if_neg hk, if_true] at h
      simp only [ordX, if_neg hk] at hp
      have := xAny_ord l none _ σ st hc (hp.skip (hdn k rfl).1) (fun a ha => by cases ha) hB h
      simpa [fuelO] using this
    simp only [lexFromO, if_neg hk, if_neg hd, Bool.and_eq_true] at hB
    obtain ⟨hB1, hB2⟩ := hB
    cases h0 : ops[k]? with
    | none => rw [h0] at hB1; cases hB1
    | some o =>
    simp only [h0] at hB1
    simp only [ordX, if_neg hk] at hp
    have hp' : Rest (ordX l) (listed.setIfInBounds k true) := hp.next
    simp only [vcLexO, if_neg hk, if_neg hd, h0] at h
    have hdn' : ∀ a, dn = some a → (listed.setIfInBounds k true).getD a true = true ∧ a ∈ l := fun a ha => by
      obtain ⟨q1, q2⟩ := hdn a ha
      refine ⟨getD_set_keep k q1, ?_⟩
      rcases List.mem_cons.1 q2 with e | e
      · exact absurd (e ▸ ha) hd
      · exact e
    have hf : fuelO dn (k :: l) = fuelO dn l + 1 := by
      unfold fuelO
      cases dn with
      | none => simp
      | some a => have := List.length_pos_of_mem (hdn' a rfl).2; simp; omega
    rw [hf]
    by_cases him : k ∈ im
    · rw [if_neg (by simp [him])] at hB1
      rw [beq_iff_eq] at hB1
      have hr : k ∈ Region.ready .any ops listed := by rw [hB1]; simp
      rw [if_pos him] at h
      refine ⟨fun h => (by rw [hB1] at h; cases h), fun i hi => ?_⟩
      rw [hB1] at hi
      simp at hi
      subst hi
      exact xAny_then hT him h fun σ' st' h' => xAny_ord l dn _ _ st' (closed_set hc hr) hp' hdn' hB2 h'
    · rw [if_neg him] at h
      have hne : (!im.contains k) = true := by simpa using him
      by_cases hq : isQuiet o = true
      · rw [if_pos (by simp [hq, him])] at hB1
        simp only [Bool.and_eq_true] at hB1
        obtain ⟨⟨hr, hf⟩, hls⟩ := hB1
        have hr : k ∈ Region.ready .any ops listed := by simpa using hr
        obtain ⟨x, h1, h2, h3⟩ := YA_of_vcOp hT hq h
        refine xAny_first h0 hq him (fuelO dn l) listed σ st hc (free2_spec h0 hf) hr h1 ?_ (xAny_ord l dn _ _ _ (closed_set hc hr) hp' hdn' hB2 h3)
        intro m hm hun hre r st' hR
        have hml : m ∈ (ordX l).filter fun m => im.contains m := by
          refine List.mem_filter.2 ⟨?_, by simpa using hm⟩
          rcases List.mem_cons.1 (hp m hun) with e | e
          · exact absurd (e ▸ hm) him
          · exact e
        obtain ⟨x', k1, k2⟩ := YA_of_vcOp hT hq (vcStaysO_mem h2 hml hre r st' hR)
        have hds : o.dst.isSome = true := by
          rw [Bool.or_eq_true] at hls
          rcases hls with hls | hls
          · exact hls
          · have := List.all_eq_true.1 hls m hml
            rw [hre] at this; cases this
        rw [← Slots.put_inj k2 hds]; exact k1
      · have hq' : isQuiet o = false := by simpa using hq
        rw [if_neg (by rw [hq']; simp)] at hB1
        rw [beq_iff_eq] at hB1
        have hr : k ∈ Region.ready .any ops listed := by rw [hB1]; simp
        refine ⟨fun h => (by rw [hB1] at h; cases h), fun i hi => ?_⟩
        rw [hB1] at hi
        simp at hi
        subst hi
        unfold tau
        simp only [h0, if_neg him, hq', Bool.false_eq_true, if_false]
        have hAO : AO T P E0 n ops o (vcLexO T P n ops im R dn l F) σ st := (vcOp_sound hT h).mono fun _ _ hk => hk.2
        exact hAO.mono fun σ' st' hk => xAny_ord l dn _ σ' st' (closed_set hc hr) hp' hdn' hB2 hk
theorem ordX_len : ∀ l : List Nat, (ordX l).length = l.length
  | [] => rfl
  | k :: l => by simp [ordX, ordX_len l]
include hT in
theorem AW.drawO {im ord : List Nat} {R : Nat → AV → St → Prop} {id : Nat} {l : List Oper} {K : Exit → Slots → St → Prop} {σ : Slots} {st : St} (hm : P.follows .mixedOrders = true) (hB : lexBO l.toArray im ord = true) (h : vcLexO T P n l.toArray im R none ord (K .normal) σ st) :
    AW T P E0 n (.region id l.toArray true) K σ st := by
  intro E a h1 h2 h3 h4
  refine wp_region_any hm ?_
  obtain ⟨s1, s2⟩ := Env.ext (w' := E.w.drew) h2 rfl rfl rfl (Nat.le_refl _) (fun _ _ => rfl)
  simp only [lexBO, Bool.and_eq_true, beq_iff_eq] at hB
  obtain ⟨⟨hB1, hB2⟩, hB3⟩ := hB
  have hx : xAny T P E0 n l.toArray im R (K .normal) (fuelO none ord) (Array.replicate l.toArray.size false) σ st := by
    refine xAny_ord hT ord none _ σ st ?_ ?_ (fun a ha => by cases ha) hB3 h
    · intro k o ho hk
      exfalso
      have : k < l.toArray.size := (Array.getElem?_eq_some_iff.1 ho).1
      simp [Array.getD] at hk
    · intro m hm
      rcases Nat.lt_or_ge m l.toArray.size with hlt | hge
      · have := List.all_eq_true.1 hB2 m (List.mem_range.2 hlt)
        simpa using this
      · exfalso
        have hge' : ¬ m < (Array.replicate l.toArray.size false).size := by simpa using hge
        rw [Array.getD, dif_neg hge'] at hm
        cases hm
  rw [show fuelO none ord = l.toArray.size by rw [← hB1, ordX_len]; rfl] at hx
  have := xAny_wp (Q := fun e a' w' => ∃ E' σ', E'.w = w' ∧ Inv T E' ∧ Step E0 E' ∧ RelS T E' n σ' a' ∧ K e σ' E'.st) (fun E' σ' a' k1 k2 k3 k4 => ⟨E', σ', rfl, k1, k2, k3, k4⟩) _ _ σ st hx { E with w := E.w.drew } a h1 s2 (h3.trans s1) (h4.step s1)
  simpa using this

/-- Where an unallocated row is named anew. -/
inductive Loc where
  | slot (d : Nat)
  | cell (id off : Nat)

def adopt1 (e : TypeId) (p : Loc) (σ : Slots) (st : St) (k : Slots → St → Prop) : Prop :=
  match p with
  | .slot d => σ d = .nils ∧ k (σ.put (some d) (.own st.length 0)) (st ++ [.row e 0 false []])
  | .cell id off =>
    match st[id]? with
    | some (.cells cs) => cs[off]? = some .nils ∧ k σ (st.set id (.cells (cs.set off (.own st.length 0))) ++ [.row e 0 false []])
    | _ => False
def adopts : List (TypeId × Loc) → Slots → St → (Slots → St → Prop) → Prop
  | [], σ, st, k => k σ st
  | (e, p) :: r, σ, st, k => adopt1 e p σ st fun σ' st' => adopts r σ' st' k

def vcLexE (T : Tab) (P : Program) (n : Nat) (ops : Array Oper) (i : Nat) (l : List Oper) (k : Slots → St → Prop) (σ : Slots) (st : St) : Prop := ∃ R, vcLex T P n ops (some i) R 0 l k σ st
def vcLexA (T : Tab) (P : Program) (n : Nat) (ops : Array Oper) (im : List Nat) (l : List Oper) (k : Slots → St → Prop) (σ : Slots) (st : St) : Prop := ∃ R, vcLexM T P n ops im R 0 l k σ st
/-- Which operations of the region may write. -/
def imAll : List (Nat × Nat) → Nat → List Nat
  | [], _ => []
  | p :: r, id => if p.1 = id then p.2 :: imAll r id else imAll r id

def vcLexP (T : Tab) (P : Program) (n : Nat) (ops : Array Oper) (im ord : List Nat) (k : Slots → St → Prop) (σ : Slots) (st : St) : Prop := ∃ R, vcLexO T P n ops im R none ord k σ st
/-- The order in which a region's operations are looked at. -/
def ordAll : List (Nat × Nat) → Nat → List Nat
  | [], _ => []
  | p :: r, id => if p.1 = id + 200000 then p.2 :: ordAll r id else ordAll r id
/-- Slots whose rows are written no more, from the region on. -/
def fzAll : List (Nat × Nat) → Nat → List Nat
  | [], _ => []
  | p :: r, id => if p.1 = id + 100000 then p.2 :: fzAll r id else fzAll r id
/-- Rows that are written no more: they read as lists from here on. -/
def frzS : List Nat → Slots → St → (Slots → St → Prop) → Prop
  | [], σ, st, k => k σ st
  | d :: ds, σ, st, k =>
    match σ d with
    | .own id g =>
      (match st[id]? with
      | some (.row e g' _ l) => g' = g ∧ frzS ds (σ.put (some d) (.lst e l)) (st.set id .dead) k
      | _ => False)
    | _ => False

/-- The verification condition of a piece of code. -/
def vcC (T : Tab) (P : Program) (n : Nat) (mu : List Nat) (im : List (Nat × Nat)) : Code → (Slots → St → Prop) → (Nat → Slots → St → Prop) → (Slots → St → Prop) → Slots → St → Prop
  | .skip, K, _, _, σ, st => K σ st
  | .region id ops false, K, _, _, σ, st => frzS (fzAll im id) σ st fun σ st => vcOps2 T P n mu ops (imAll im id) 0 ops.toList K σ st
  | .region id ops true, K, _, _, σ, st => frzS (fzAll im id) σ st fun σ st =>
    if ordAll im id = [] then (match imAll im id with
    | [] => vcLex T P n ops none (fun _ _ => False) 0 ops.toList K σ st
    | [i] => vcLexE T P n ops i ops.toList K σ st
    | l => vcLexA T P n ops l ops.toList K σ st)
    else vcLexP T P n ops (imAll im id) (ordAll im id) K σ st
  | .seq a b, K, X, R, σ, st => vcC T P n mu im a (vcC T P n mu im b K X R) X R σ st
  | .cond c x y, K, X, R, σ, st =>
    (match ev σ c with
    | .sc (.bool b) => (b = true → vcC T P n mu im x K X R σ st) ∧ (b = false → vcC T P n mu im y K X R σ st)
    | _ => False)
  | .block id c, K, X, R, σ, st => vcC T P n mu im c K (fun id' => if id' = id then K else X id') R σ st
  | .exit id, _, X, _, σ, st => X id σ st
  | .ret, _, _, R, σ, st => R σ st
  | .loop c, _, X, R, σ, st => ∃ (ads : List (TypeId × Loc)) (I : Nat → Slots → St → Prop) (m0 : Nat), adopts ads σ st (I m0) ∧
      ∀ m σ st, I m σ st → vcC T P n mu im c (fun σ' st' => ∃ m', m' < m ∧ I m' σ' st') X R σ st
  | _, _, _, _, _, _ => False

def drawsOk (im : List (Nat × Nat)) : Code → Bool
  | .region id ops draw => !draw || (if ordAll im id = [] then lexB2 ops (imAll im id) else lexBO ops (imAll im id) (ordAll im id))
  | .seq a b => drawsOk im a && drawsOk im b
  | .cond _ x y => drawsOk im x && drawsOk im y
  | .block _ c => drawsOk im c
  | .loop c => drawsOk im c
  | _ => true

def vcK (K : Slots → St → Prop) (X : Nat → Slots → St → Prop) (R : Slots → St → Prop) : Exit → Slots → St → Prop
  | .normal, σ, st => K σ st
  | .exit id, σ, st => X id σ st
  | .ret, σ, st => R σ st
  | _, _, _ => False

theorem RelC.set {E : Env} {x y : AV} (hxy : ∀ u, Rel T E x u → Rel T E y u) : ∀ (cs : List AV) (vs : List Value) (off : Nat), RelC T E cs vs → cs[off]? = some x → RelC T E (cs.set off y) vs
  | [], vs, off, h, hx => by simp at hx
  | c :: cs, vs, 0, h, hx => by
    simp at hx; subst hx
    simp only [RelC] at h
    obtain ⟨v, r, h1, h2, h3, h4⟩ := h
    simp only [List.set_cons_zero, RelC]
    exact ⟨v, r, h1, hxy v h2, h3, h4⟩
  | c :: cs, vs, off + 1, h, hx => by
    simp only [RelC] at h
    obtain ⟨v, r, h1, h2, h3, h4⟩ := h
    simp only [List.set_cons_succ, RelC]
    exact ⟨v, r, h1, h2, h3, RelC.set hxy cs r off h4 (by simpa using hx)⟩

theorem AW.adopt1 {c : Code} {K : Exit → Slots → St → Prop} {e : TypeId} {p : Loc} {σ : Slots} {st : St} (h : Ab.adopt1 e p σ st (AW T P E0 n c K)) : AW T P E0 n c K σ st := by
  intro E a h1 h2 h3 h4
  obtain ⟨s1, s2, s3⟩ := Env.adopt h2 e
  cases p with
  | slot d =>
    obtain ⟨hd, h⟩ := h
    refine h { E with st := E.st ++ [.row e 0 false []] } a (by dsimp only; rw [h1]) s2 (h3.trans s1) ⟨h4.defers, h4.size, fun i => ?_⟩
    simp only [Slots.put]
    by_cases hi : i = d
    · rw [if_pos hi]
      have := h4.val i
      rw [hi, hd] at this
      simp only [Rel] at this
      rw [hi, ← h1]
      exact s3 _ this
    · rw [if_neg hi]
      exact Rel.step s1 _ _ (h4.val i)
  | cell id off =>
    simp only [Ab.adopt1] at h
    subst h1
    cases hb : E.st[id]? with
    | none => simp [hb] at h
    | some blk =>
      cases blk <;> simp only [hb] at h
      rename_i cs
      obtain ⟨hn, h⟩ := h
      have hidlt : id < E.st.length := (List.getElem?_eq_some_iff.1 hb).1
      have hb' : (E.st ++ [Blk.row e 0 false []])[id]? = some (.cells cs) := by rw [List.getElem?_append_left hidlt]; exact hb
      have hset : (E.st ++ [Blk.row e 0 false []]).set id (.cells (cs.set off (.own E.st.length 0))) = E.st.set id (.cells (cs.set off (.own E.st.length 0))) ++ [.row e 0 false []] := by
        rw [List.set_append_left _ _ hidlt]
      have hup := Env.upd (T := T) (E := { E with st := E.st ++ [.row e 0 false []] }) (b' := E.φ id) (blk' := .cells (cs.set off (.own E.st.length 0))) (w' := E.w) s2 hb' rfl rfl rfl (Nat.le_refl _)
        (fun _ _ _ => rfl) (.inl ⟨rfl, rfl⟩) (by
          unfold Compat
          dsimp only
          rw [List.getElem?_set_self (by simp; omega)]
          exact ⟨⟨cs, hb'⟩, if_pos rfl⟩)
      obtain ⟨cc, t, q1, q2⟩ := h2.blk id _ hb
      refine h ⟨E.w, (E.st ++ [Blk.row e 0 false []]).set id (.cells (cs.set off (.own E.st.length 0))), fun i => if i = id then E.φ id else E.φ i, E.M⟩ a ?_ (hup.2 ⟨cc, t, ?_, ?_⟩) ((h3.trans s1).trans hup.1) ((h4.step s1).step hup.1)
      · exact hset
      · dsimp only; rw [if_pos rfl]; exact q1
      · refine RelC.set (x := .nils) (fun u hu => Rel.step hup.1 _ _ (s3 u (by simpa only [Rel] using hu))) cs _ off ?_ hn
        exact RelC.step hup.1 _ _ (RelC.step s1 _ _ q2)

theorem AW.adopts {c : Code} {K : Exit → Slots → St → Prop} : ∀ (ads : List (TypeId × Loc)) {σ : Slots} {st : St}, Ab.adopts ads σ st (AW T P E0 n c K) → AW T P E0 n c K σ st
  | [], _, _, h => h
  | (e, p) :: r, σ, st, h => by
    refine AW.adopt1 (e := e) (p := p) ?_
    unfold Ab.adopts at h
    unfold Ab.adopt1 at h ⊢
    cases p with
    | slot d => exact ⟨h.1, AW.adopts r h.2⟩
    | cell id off =>
      simp only at h ⊢
      split at h
      · exact ⟨h.1, AW.adopts r h.2⟩
      · exact h.elim

theorem adopts_mono {k k' : Slots → St → Prop} (hk : ∀ σ st, k σ st → k' σ st) : ∀ (ads : List (TypeId × Loc)) {σ : Slots} {st : St}, Ab.adopts ads σ st k → Ab.adopts ads σ st k'
  | [], _, _, h => hk _ _ h
  | (e, p) :: r, σ, st, h => by
    unfold Ab.adopts at h ⊢
    unfold Ab.adopt1 at h ⊢
    cases p with
    | slot d => exact ⟨h.1, adopts_mono hk r h.2⟩
    | cell id off =>
      simp only at h ⊢
      split at h
      · exact ⟨h.1, adopts_mono hk r h.2⟩
      · exact h.elim

theorem frzS.monoF {ds : List Nat} : ∀ {σ : Slots} {st : St} {k k' : Slots → St → Prop}, frzS ds σ st k → (∀ σ st, k σ st → k' σ st) → frzS ds σ st k' := by
  induction ds with
  | nil => intro σ st k k' h hk; exact hk _ _ h
  | cons d ds ih =>
    intro σ st k k' h hk
    unfold frzS at h ⊢
    split at h
    · split at h
      · exact ⟨h.1, ih h.2 hk⟩
      · exact h
    · exact h

/-- A row that is written no more becomes a list. -/
theorem AW.freeze {c : Code} {K : Exit → Slots → St → Prop} {σ : Slots} {st : St} {d id g : Nat} {e : TypeId} {al : Bool} {l : List (List AV)} (hσ : σ d = .own id g) (hst : st[id]? = some (.row e g al l))
    (h : AW T P E0 n c K (σ.put (some d) (.lst e l)) (st.set id .dead)) : AW T P E0 n c K σ st := by
  intro E a h1 h2 h3 h4
  subst h1
  have hidlt : id < E.st.length := (List.getElem?_eq_some_iff.1 hst).1
  have hup := Env.upd (T := T) (E := E) (b' := E.φ id) (blk' := .dead) (w' := E.w) h2 hst rfl rfl rfl (Nat.le_refl _) (fun _ _ _ => rfl) (.inr (.inr rfl)) (by
    unfold Compat
    dsimp only
    rw [List.getElem?_set_self hidlt]
    trivial)
  have hinv := hup.2 trivial
  refine h ⟨E.w, E.st.set id .dead, fun i => if i = id then E.φ id else E.φ i, E.M⟩ a rfl hinv (h3.trans hup.1) ⟨h4.defers, h4.size, fun i => ?_⟩
  by_cases hi : i = d
  · subst hi
    have hv := h4.val i
    rw [hσ] at hv
    simp only [Slots.put, if_true]
    simp only [Rel] at hv ⊢
    obtain ⟨_, hv⟩ := hv
    obtain ⟨_, hv⟩ := hv e g al l hst
    obtain ⟨hv1, hv2⟩ := hv rfl
    obtain ⟨hb0, hb1, hb2⟩ := h2.blk id _ hst
    cases al with
    | false =>
      obtain ⟨x, hx⟩ := hv2 rfl
      have hl := hb1 rfl
      subst hl
      exact ⟨by simp, by simp, x, 0, by simpa using hx, by simp, .inl rfl⟩
    | true =>
      obtain ⟨cap, c', e1, e2, e3, e6⟩ := hv1 rfl
      obtain ⟨c2, cap2, f1, f2, f3, f4, f5⟩ := hb2 rfl
      refine ⟨hb0, Nat.le_trans f3 f4, _, cap, e1, e6, .inr ⟨E.φ id, 0, rfl, ⟨(h2.lt id _ hst rfl).1, ?_⟩, RelM.step hup.1 _ _ (fun _ => rfl) _ _ f5⟩⟩
      rintro (hm | ⟨j, bj, k1, k2, k3⟩)
      · exact (h2.lt id _ hst rfl).2 hm
      · dsimp only at k1 k3
        by_cases hj : j = id
        · subst hj
          rw [List.getElem?_set_self hidlt] at k1
          cases k1; cases k2
        · rw [if_neg hj] at k3
          rw [List.getElem?_set_ne (Ne.symm hj)] at k1
          exact hj (h2.inj j id _ _ k1 hst k2 rfl k3)
  · have : (σ.put (some d) (.lst e l)) i = σ i := by simp only [Slots.put, if_neg hi]
    rw [this]
    exact Rel.step hup.1 _ _ (h4.val i)
theorem AW.frzS {c : Code} {K : Exit → Slots → St → Prop} : ∀ (ds : List Nat) {σ : Slots} {st : St}, Go.Ab.frzS ds σ st (AW T P E0 n c K) → AW T P E0 n c K σ st
  | [], _, _, h => h
  | d :: ds, σ, st, h => by
    unfold Go.Ab.frzS at h
    split at h
    · rename_i id g hσ
      split at h
      · rename_i e g' al l hst
        obtain ⟨rfl, h⟩ := h
        exact AW.freeze hσ hst (AW.frzS ds h)
      · exact h.elim
    · exact h.elim

include hT in
theorem vcC_sound (hm : P.follows .mixedOrders = true) {im : List (Nat × Nat)} : ∀ (c : Code) {K : Slots → St → Prop} {X : Nat → Slots → St → Prop} {R : Slots → St → Prop} {σ : Slots} {st : St}, drawsOk im c = true →
    vcC T P n mu im c K X R σ st → AW T P E0 n c (vcK K X R) σ st
  | .skip, _, _, _, _, _, _, h => AW.skip h
  | .region _ ops false, _, _, _, _, _, _, h => by
    obtain ⟨l⟩ := ops
    exact AW.frzS _ (h.monoF fun σ st h => AW.region (vcOps2_sound hT 0 _ h))
  | .region _ ops true, _, _, _, _, _, hd, h => by
    obtain ⟨l⟩ := ops
    simp only [drawsOk, Bool.not_true, Bool.false_or] at hd
    simp only [vcC] at h
    refine AW.frzS _ (h.monoF fun σ st h => ?_)
    split at h
    case isFalse ho =>
      rw [if_neg ho] at hd
      obtain ⟨R, h⟩ := h
      exact AW.drawO hT hm hd h
    rename_i ho
    rw [if_pos ho] at hd
    split at h
    · rename_i hn
      rw [hn] at hd
      exact AW.draw (im := none) hT hm hd h
    · rename_i i hn
      rw [hn] at hd
      obtain ⟨R, h⟩ := h
      exact AW.draw (im := some i) hT hm hd h
    · obtain ⟨R, h⟩ := h
      exact AW.drawM hT hm hd h
  | .seq a b, K, X, R, σ, st, hd, h => by
    simp only [drawsOk, Bool.and_eq_true] at hd
    refine AW.seq ((vcC_sound hm a hd.1 h).mono fun e σ st he => ?_)
    cases e with
    | normal => exact vcC_sound hm b hd.2 he
    | exit id => exact he
    | ret => exact he
    | _ => exact he
  | .cond c x y, K, X, R, σ, st, hd, h => by
    simp only [drawsOk, Bool.and_eq_true] at hd
    simp only [vcC] at h
    split at h
    · rename_i b hb
      exact AW.cond hb (fun hbt => vcC_sound hm x hd.1 (h.1 hbt)) (fun hbf => vcC_sound hm y hd.2 (h.2 hbf))
    · exact h.elim
  | .block id c, K, X, R, σ, st, hd, h => by
    simp only [drawsOk] at hd
    refine AW.block ((vcC_sound hm c hd h).mono fun e σ st he => ?_)
    cases e with
    | normal => exact he
    | exit id' =>
      simp only [vcK] at he
      simp only [blockK, vcK]
      split
      · rename_i hid; rw [if_pos hid] at he; exact he
      · rename_i hid; rw [if_neg hid] at he; exact he
    | ret => exact he
    | _ => exact he
  | .exit _, _, _, _, _, _, _, h => AW.exit h
  | .ret, _, _, _, _, _, _, h => AW.ret h
  | .loop c, K, X, R, σ, st, hd, h => by
    simp only [drawsOk] at hd
    obtain ⟨ads, I, m0, h0, hr⟩ := h
    refine AW.adopts ads (adopts_mono (fun σ st hI => ?_) ads h0)
    refine AW.loop I m0 hI fun m σ st hI => ((vcC_sound hm c hd (hr m σ st hI)).mono fun e σ st he => ?_)
    cases e with
    | normal => exact he
    | exit id => exact he
    | ret => exact he
    | _ => exact he
  | .rangeFunc _ _ _ _, _, _, _, _, _, _, h => h.elim
  | .scope _, _, _, _, _, _, _, h => h.elim
  | .label _, _, _, _, _, _, _, h => h.elim
  | .goto _, _, _, _, _, _, _, h => h.elim
  | .refuse _, _, _, _, _, _, _, h => h.elim
end
end Go.Ab
end

section
namespace Go.Ab
open Go.RowKit

def resV (T : Tab) (σ : Slots) (st : St) : ResultVar → AV
  | .tmp t => σ t
  | .cell a t => loadV T st t (σ a)
def resOk (T : Tab) (σ : Slots) (st : St) : ResultVar → Prop
  | .tmp _ => True
  | .cell a t => loadOk T st t (σ a)
def retV (T : Tab) (rs : List ResultVar) (σ : Slots) (st : St) : AV :=
  match rs with
  | [r] => resV T σ st r
  | rs => .tup (rs.map (resV T σ st))
/-- What is owed at a return of a function that may write. -/
def endP (T : Tab) (rs : List ResultVar) (N : Nat) (Q : AV → St → Prop) (σ : Slots) (st : St) : Prop :=
  allP (resOk T σ st) rs ∧ ∃ r, leV ((retV T rs σ st).cut N st) r ∧ Q r (cutSt N st)
/-- What is owed at a return. -/
def retP (T : Tab) (rs : List ResultVar) (r : AV) (σ : Slots) (st : St) : Prop :=
  allP (resOk T σ st) rs ∧ leV ((retV T rs σ st).frz st) r

def resF (tmps : Array Value) : ResultVar → Sem Value
  | .tmp t => pure (tmps.getD t undef)
  | .cell a t => do loadVar t (← asAddr (tmps.getD a undef))
theorem results_eq (fn : Func) (tmps : Array Value) : results fn tmps = (do
    let vs ← fn.results.mapM (resF tmps)
    pure (if h : vs.size = 1 then vs[0] else .tuple vs)) := rfl

section
variable {T : Tab} {P : Program} (hT : TabOk T P)

include hT in
theorem run_res {E : Env} {n : Nat} {σ : Slots} {a : Act} (hi : Inv T E) (hs : RelS T E n σ a) (r : ResultVar) (hok : resOk T σ E.st r) :
    ∃ u, (resF a.tmps r).run P E.w = .ok u E.w ∧ Rel T E (resV T σ E.st r) u := by
  cases r with
  | tmp t => exact ⟨_, rfl, hs.val t⟩
  | cell x t =>
    obtain ⟨b, off, v, h1, h2, h3⟩ := load_core (P := P) hT rfl hi (hs.val x) hok
    refine ⟨v, ?_, h3⟩
    simp only [resF]
    rw [h1] at h2 ⊢
    simpa [Instr.loadAt, Instr.sureAddr, asAddr] using h2

include hT in
theorem run_results {E : Env} {n : Nat} {σ : Slots} {a : Act} (hi : Inv T E) (hs : RelS T E n σ a) (fn : Func) (hok : allP (resOk T σ E.st) fn.results.toList) :
    ∃ u, (results fn a.tmps).run P E.w = .ok u E.w ∧ Rel T E (retV T fn.results.toList σ E.st) u := by
  have key : ∀ rs : List ResultVar, allP (resOk T σ E.st) rs → ∃ us : List Value, (rs.mapM (resF a.tmps)).run P E.w = .ok us E.w ∧ RelL T E (rs.map (resV T σ E.st)) us := by
    intro rs
    induction rs with
    | nil => intro _; exact ⟨[], by simp, by simp [RelL]⟩
    | cons r rs ih =>
      intro h
      obtain ⟨u, h1, h2⟩ := run_res (P := P) hT hi hs r h.1
      obtain ⟨us, h3, h4⟩ := ih h.2
      refine ⟨u :: us, ?_, ?_⟩
      · rw [List.mapM_cons, Sem.run_bind]
        rw [h1]
        simp only [Result.andThen_ok, Sem.run_bind, h3, Sem.run_pure]
      · simp only [List.map_cons, RelL]; exact ⟨u, us, rfl, h2, h4⟩
  obtain ⟨us, h1, h2⟩ := key _ hok
  have hlen := RelL.len _ _ h2
  simp only [List.length_map] at hlen
  have hrun : (fn.results.mapM (resF a.tmps)).run P E.w = .ok us.toArray E.w := by
    rw [Array.mapM_eq_mapM_toList, Sem.run_map, h1]; rfl
  rw [results_eq, Sem.run_bind, hrun]
  simp only [Result.andThen_ok, Sem.run_pure]
  cases hrs : fn.results.toList with
  | nil =>
    rw [hrs] at h2 hlen
    cases us with
    | nil => exact ⟨_, rfl, by simp only [retV, List.map_nil, Rel, RelL]; exact ⟨[], by simp, rfl⟩⟩
    | cons u us => simp at hlen
  | cons r rs =>
    rw [hrs] at h2 hlen
    cases us with
    | nil => simp at hlen
    | cons u us =>
      cases rs with
      | nil =>
        cases us with
        | nil =>
          simp only [List.map_cons, List.map_nil, RelL] at h2
          obtain ⟨v, r', h3, h4, _⟩ := h2
          cases h3
          exact ⟨u, by simp, by simpa only [retV] using h4⟩
        | cons _ _ => simp at hlen
      | cons r2 rs =>
        cases us with
        | nil => simp at hlen
        | cons u2 us =>
          refine ⟨_, rfl, ?_⟩
          simp only [retV]
          rw [dif_neg (by simp)]
          simp only [Rel]
          exact ⟨_, rfl, h2⟩

theorem relL_get : ∀ (xs : List AV) (vs : List Value) {E : Env}, RelL T E xs vs → ∀ i, Rel T E (xs.getD i .any) ((vs ++ List.replicate 0 undef).getD i undef) ∨ xs.length ≤ i
  | [], _, _, _, i => .inr (Nat.zero_le _)
  | x :: xs, vs, E, h, i => by
    simp only [RelL] at h
    obtain ⟨v, r, rfl, h1, h2⟩ := h
    cases i with
    | zero => exact .inl (by simpa using h1)
    | succ i =>
      rcases relL_get xs r h2 i with h3 | h3
      · exact .inl (by simpa using h3)
      · exact .inr (by simp; omega)

/-- The slots at a function's start. -/
def slots0 (args : List AV) : Slots := fun i => args.getD i .any

include hT in
/-- A FUNCTION's CONTRACT, OUT OF ITS BODY's CONDITION. -/
theorem PureCall.of_vc {f : FuncId} {fn : Func} {c : Code} {args : List AV} {r : AV} (mu : List Nat) (im : List (Nat × Nat)) (hm : P.follows .mixedOrders = true) (henter : ∀ (as : Array Value) (w : World), (callFunc f as).run P w = .ok (.enter f as) w)
    (hf : P.funcs[f]? = some fn) (hb : fn.body = some c) (hdr : drawsOk im c = true) (hpa : AV.pureL args = true) (hpr : r.pure = true)
    (h : vcC T P fn.ntmps mu im c (retP T fn.results.toList r) (fun _ _ _ => False) (retP T fn.results.toList r) (slots0 args) []) : PureCall T P f args r := by
  refine ⟨henter, hpa, hpr, fun w M vs hM hr => ?_⟩
  let E0 : Env := ⟨w, [], fun _ => 0, M⟩
  have hi0 : Inv T E0 := ⟨fun i j bi bj h => by simp [E0] at h, fun i bi h => by simp [E0] at h, hM, fun i bi h => by simp [E0] at h⟩
  refine calls_of_wp hf hb ?_
  have hs0 : RelS T E0 fn.ntmps (slots0 args) { tmps := vs.toArray ++ Array.replicate (fn.ntmps - vs.toArray.size) undef, defers := [] } := by
    refine ⟨rfl, by simp; omega, fun i => ?_⟩
    rcases relL_get args vs hr i with h1 | h1
    · by_cases hlt : i < vs.length
      · have : (vs.toArray ++ Array.replicate (fn.ntmps - vs.toArray.size) undef).getD i undef = (vs ++ List.replicate 0 undef).getD i undef := by
          simp [Array.getD, List.getD, hlt]
          omega
        rw [this]; exact h1
      · have hl := RelL.len _ _ hr
        have : slots0 args i = .any := by simp only [slots0, List.getD]; rw [List.getElem?_eq_none (by omega)]; rfl
        rw [this]; simp only [Rel]
    · have : slots0 args i = .any := by simp only [slots0, List.getD]; rw [List.getElem?_eq_none h1]; rfl
      rw [this]; simp only [Rel]
  refine wp_mono (vcC_sound (E0 := E0) hT hm c hdr h E0 _ rfl hi0 (Step.refl _) hs0) ?_
  have fin : ∀ (E' : Env) (σ' : Slots) (a' : Act), Inv T E' → Step E0 E' → RelS T E' fn.ntmps σ' a' → retP T fn.results.toList r σ' E'.st →
      a'.defers = [] ∧ ∃ v, (results fn a'.tmps).run P E'.w = .ok v E'.w ∧ ∃ u, Ending.returned v = .returned u ∧ Below w.heap.size w E'.w ∧ Rel T ⟨E'.w, [], fun _ => 0, M⟩ r u := by
    intro E' σ' a' k1 k2 k3 k4
    obtain ⟨u, h1, h2⟩ := run_results (P := P) hT k1 k3 fn k4.1
    refine ⟨k3.defers, u, h1, u, rfl, ⟨k2.os, k2.tape, k2.output, k2.size, fun k hk => k2.blk k hk ?_⟩, ?_⟩
    · by_cases hMk : M k
      · exact .inl hMk
      · refine .inr ?_
        rintro (h | ⟨id, blk, h, _⟩)
        · exact hMk h
        · simp [E0] at h
    · have := rel_frz k1 _ u (leV_pure _ _ k4.2 hpr) h2
      have := leV_rel _ _ _ k4.2 this
      have hM' : E'.M = M := k2.M
      unfold Env.bare at this
      rw [hM'] at this
      exact this
  rintro e a' w' ⟨E', σ', rfl, k2, k3, k4, k5⟩
  cases e with
  | normal => exact fin E' σ' a' k2 k3 k4 k5
  | ret => exact fin E' σ' a' k2 k3 k4 k5
  | exit id => exact k5.elim
  | goto l => exact k5.elim
  | panic ch => exact k5.elim
  | outgrown => exact k5.elim

theorem slots0_rel {E0 : Env} {args : List AV} {vs : List Value} (hr : RelL T E0 args vs) (m : Nat) : RelS T E0 m (slots0 args) { tmps := vs.toArray ++ Array.replicate (m - vs.toArray.size) undef, defers := [] } := by
  refine ⟨rfl, by simp; omega, fun i => ?_⟩
  rcases relL_get args vs hr i with h1 | h1
  · by_cases hlt : i < vs.length
    · have : (vs.toArray ++ Array.replicate (m - vs.toArray.size) undef).getD i undef = (vs ++ List.replicate 0 undef).getD i undef := by
        simp [Array.getD, List.getD, hlt]
        omega
      rw [this]; exact h1
    · have hl := RelL.len _ _ hr
      have : slots0 args i = .any := by simp only [slots0, List.getD]; rw [List.getElem?_eq_none (by omega)]; rfl
      rw [this]; simp only [Rel]
  · have : slots0 args i = .any := by simp only [slots0, List.getD]; rw [List.getElem?_eq_none h1]; rfl
    rw [this]; simp only [Rel]

include hT in
/-- THE CONTRACT OF A FUNCTION THAT MAY WRITE, OUT OF ITS BODY's CONDITION. -/
theorem ICall.of_vc {f : FuncId} {fn : Func} {c : Code} {args : List AV} {st : St} {Q : AV → St → Prop} (mu : List Nat) (im : List (Nat × Nat)) (hm : P.follows .mixedOrders = true) (henter : ∀ (as : Array Value) (w : World), (callFunc f as).run P w = .ok (.enter f as) w)
    (hf : P.funcs[f]? = some fn) (hb : fn.body = some c) (hdr : drawsOk im c = true)
    (h : Fix st → vcC T P fn.ntmps mu im c (endP T fn.results.toList st.length Q) (fun _ _ _ => False) (endP T fn.results.toList st.length Q) (slots0 args) st) : ICall T P f args st Q := by
  refine ⟨henter, fun E0 vs hst hi0 hr => ?_⟩
  subst hst
  refine calls_of_wp hf hb ?_
  refine wp_mono (vcC_sound (E0 := E0) hT hm c hdr (h (fix_of_inv hi0)) E0 _ rfl hi0 (Step.refl _) (slots0_rel hr _)) ?_
  have fin : ∀ (E' : Env) (σ' : Slots) (a' : Act), Inv T E' → Step E0 E' → RelS T E' fn.ntmps σ' a' → endP T fn.results.toList E0.st.length Q σ' E'.st →
      a'.defers = [] ∧ ∃ v, (results fn a'.tmps).run P E'.w = .ok v E'.w ∧ ∃ v' r E'', Ending.returned v = .returned v' ∧ E''.w = E'.w ∧ Inv T E'' ∧ Step E0 E'' ∧ Rel T E'' r v' ∧ Q r E''.st := by
    intro E' σ' a' k1 k2 k3 k4
    obtain ⟨u, h1, h2⟩ := run_results (P := P) hT k1 k3 fn k4.1
    obtain ⟨r, h3, h4⟩ := k4.2
    exact ⟨k3.defers, u, h1, u, r, E'.cut E0.st.length, rfl, rfl, Env.cut_inv k1, Env.cut_step k2, leV_rel _ _ _ h3 (cut_rel k1 _ _ h2), h4⟩
  rintro e a' w' ⟨E', σ', rfl, k2, k3, k4, k5⟩
  cases e with
  | normal => exact fin E' σ' a' k2 k3 k4 k5
  | ret => exact fin E' σ' a' k2 k3 k4 k5
  | exit id => exact k5.elim
  | goto l => exact k5.elim
  | panic ch => exact k5.elim
  | outgrown => exact k5.elim
end
end Go.Ab
end

section
namespace Go.Ab
open Go.RowKit

@[simp] theorem put_app (σ : Slots) (d : Nat) (v : AV) (i : Nat) : (σ.put (some d) v) i = if i = d then v else σ i := rfl
@[simp] theorem put_none (σ : Slots) (v : AV) : σ.put none v = σ := rfl
@[simp] theorem slots0_app (args : List AV) (i : Nat) : slots0 args i = args.getD i .any := rfl
@[simp] theorem ofConst_int (k : IntKind) (z : Int) : AV.ofConst (.int k z) = .sc (.int k z) := rfl
@[simp] theorem ofConst_bool (b : Bool) : AV.ofConst (.bool b) = .sc (.bool b) := rfl
@[simp] theorem ofConst_str (b : ByteArray) : AV.ofConst (.string b) = .sc (.string b) := rfl
@[simp] theorem ofConst_ptr (p : Option Addr) : AV.ofConst (.pointer p) = .sc (.pointer p) := rfl
@[simp] theorem ofConst_map (p : Option Nat) : AV.ofConst (.map p) = .sc (.map p) := rfl
@[simp] theorem ofConst_agg (vs : Array Value) : AV.ofConst (.agg vs) = if vs.toList.all (·.oneCell') = true then .agg (vs.toList.map AV.ofConst1) else .any := rfl
@[simp] theorem ofConst1_int (k : IntKind) (z : Int) : AV.ofConst1 (.int k z) = .sc (.int k z) := rfl
@[simp] theorem ofConst1_bool (b : Bool) : AV.ofConst1 (.bool b) = .sc (.bool b) := rfl
@[simp] theorem ofConst1_str (b : ByteArray) : AV.ofConst1 (.string b) = .sc (.string b) := rfl
@[simp] theorem ofConst1_nil : AV.ofConst1 (.slice none 0 0) = .nils := rfl
@[simp] theorem ofConst_nil : AV.ofConst (.slice none 0 0) = .nils := rfl
@[simp] theorem cells_agg (a : Array Value) : (Value.agg a).cells = a := rfl
@[simp] theorem one_int (k : IntKind) (z : Int) : (Value.int k z).oneCell' = true := rfl
@[simp] theorem one_str (z : ByteArray) : (Value.string z).oneCell' = true := rfl
@[simp] theorem one_bool (z : Bool) : (Value.bool z).oneCell' = true := rfl
@[simp] theorem one_slice (a : Option Addr) (n c : Nat) : (Value.slice a n c).oneCell' = true := rfl
@[simp] theorem one_ptr (a : Option Addr) : (Value.pointer a).oneCell' = true := rfl
@[simp] theorem one_map (a : Option Nat) : (Value.map a).oneCell' = true := rfl
@[simp] theorem cells_int (k : IntKind) (z : Int) : (Value.int k z).cells = #[.int k z] := rfl
@[simp] theorem cells_str (z : ByteArray) : (Value.string z).cells = #[.string z] := rfl
@[simp] theorem cells_bool (z : Bool) : (Value.bool z).cells = #[.bool z] := rfl
@[simp] theorem cells_slice (a : Option Addr) (n c : Nat) : (Value.slice a n c).cells = #[.slice a n c] := rfl
@[simp] theorem cells_ptr (a : Option Addr) : (Value.pointer a).cells = #[.pointer a] := rfl
@[simp] theorem looseB_none (ops : Array Oper) (j : Nat) : looseB ops none j = false := rfl
section
variable {T : Tab} {P : Program} {n : Nat} {mu : List Nat} {im : List (Nat × Nat)} {K : Slots → St → Prop} {X : Nat → Slots → St → Prop} {R : Slots → St → Prop} {σ : Slots} {st : St}
@[simp] theorem vcC_skip : vcC T P n mu im .skip K X R σ st ↔ K σ st := Iff.rfl
/-- A region ahead of which rows are written for the last time. -/
def vcFz (T : Tab) (P : Program) (n : Nat) (mu : List Nat) (im : List (Nat × Nat)) (c : Code) (K : Slots → St → Prop) (X : Nat → Slots → St → Prop) (R : Slots → St → Prop) (σ : Slots) (st : St) : Prop := vcC T P n mu im c K X R σ st
@[simp] theorem vcC_regionF (id : Nat) (ops : Array Oper) : vcC T P n mu im (.region id ops false) K X R σ st ↔ if fzAll im id = [] then vcOps2 T P n mu ops (imAll im id) 0 ops.toList K σ st else vcFz T P n mu im (.region id ops false) K X R σ st := by
  by_cases h : fzAll im id = []
  · rw [if_pos h]
    show frzS (fzAll im id) σ st _ ↔ _
    rw [h]; exact Iff.rfl
  · rw [if_neg h]; exact Iff.rfl
@[simp] theorem vcC_regionT (id : Nat) (ops : Array Oper) : vcC T P n mu im (.region id ops true) K X R σ st ↔ if fzAll im id = [] then
    (if ordAll im id = [] then (match imAll im id with
    | [] => vcLex T P n ops none (fun _ _ => False) 0 ops.toList K σ st
    | [i] => vcLexE T P n ops i ops.toList K σ st
    | l => vcLexA T P n ops l ops.toList K σ st) else vcLexP T P n ops (imAll im id) (ordAll im id) K σ st) else vcFz T P n mu im (.region id ops true) K X R σ st := by
  by_cases h : fzAll im id = []
  · rw [if_pos h]
    show frzS (fzAll im id) σ st _ ↔ _
    rw [h]; exact Iff.rfl
  · rw [if_neg h]; exact Iff.rfl
/-- A region ahead of which a row is written for the last time. -/
theorem vcC_fzF {id : Nat} {ops : Array Oper} {d i' g : Nat} {e : TypeId} {al : Bool} {l : List (List AV)} (hfz : fzAll im id = [d]) (hσ : σ d = .own i' g) (hst : st[i']? = some (.row e g al l))
    (h : vcOps2 T P n mu ops (imAll im id) 0 ops.toList K (σ.put (some d) (.lst e l)) (st.set i' .dead)) : vcFz T P n mu im (.region id ops false) K X R σ st := by
  show frzS (fzAll im id) σ st _
  rw [hfz]
  unfold frzS
  rw [hσ]
  dsimp only
  rw [hst]
  exact ⟨rfl, h⟩
theorem vcC_fzT {id : Nat} {ops : Array Oper} {d i' g : Nat} {e : TypeId} {al : Bool} {l : List (List AV)} (hfz : fzAll im id = [d]) (hio : imAll im id = []) (hor : ordAll im id = [] := by rfl) (hσ : σ d = .own i' g) (hst : st[i']? = some (.row e g al l))
    (h : vcLex T P n ops none (fun _ _ => False) 0 ops.toList K (σ.put (some d) (.lst e l)) (st.set i' .dead)) : vcFz T P n mu im (.region id ops true) K X R σ st := by
  show frzS (fzAll im id) σ st _
  rw [hfz]
  unfold frzS
  rw [hσ]
  dsimp only
  rw [hst]
  refine ⟨rfl, ?_⟩
  unfold frzS
  dsimp only
  rw [if_pos hor, hio]
  exact h
@[simp] theorem vcC_seq (a b : Code) : vcC T P n mu im (.seq a b) K X R σ st ↔ vcC T P n mu im a (vcC T P n mu im b K X R) X R σ st := Iff.rfl
@[simp] theorem vcC_cond (c : Operand) (x y : Code) : vcC T P n mu im (.cond c x y) K X R σ st ↔
    (match ev σ c with
    | .sc (.bool b) => (b = true → vcC T P n mu im x K X R σ st) ∧ (b = false → vcC T P n mu im y K X R σ st)
    | _ => False) := Iff.rfl
@[simp] theorem vcC_block (id : Nat) (c : Code) : vcC T P n mu im (.block id c) K X R σ st ↔ vcC T P n mu im c K (fun id' => if id' = id then K else X id') R σ st := Iff.rfl
@[simp] theorem vcC_exit (id : Nat) : vcC T P n mu im (.exit id) K X R σ st ↔ X id σ st := Iff.rfl
@[simp] theorem vcC_ret : vcC T P n mu im .ret K X R σ st ↔ R σ st := Iff.rfl
/-- A loop, by what holds whenever it comes round. -/
theorem vcC_loop {c : Code} (ads : List (TypeId × Loc)) (I : Nat → Slots → St → Prop) (m0 : Nat) (h0 : adopts ads σ st (I m0))
    (h : ∀ m σ st, I m σ st → vcC T P n mu im c (fun σ' st' => ∃ m', m' < m ∧ I m' σ' st') X R σ st) : vcC T P n mu im (.loop c) K X R σ st := ⟨ads, I, m0, h0, h⟩
end
mutual
theorem leV_refl : ∀ x : AV, leV x x
  | .agg cs => by simp only [leV]; exact leL_refl cs
  | .tup cs => by simp only [leV]; exact leL_refl cs
  | .nils => by simp only [leV]
  | .sc _ => by simp only [leV]
  | .lst _ _ => by simp only [leV]
  | .own _ _ => by simp only [leV]
  | .ptr _ _ => by simp only [leV]
  | .rptr _ _ _ _ => by simp only [leV]
  | .sub _ _ _ _ => by simp only [leV]
  | .eptr _ => by simp only [leV]
  | .fn _ _ _ => by simp only [leV]
  | .mp _ => by simp only [leV]
  | .gate _ _ => by simp only [leV]
  | .any => by simp only [leV]
theorem leL_refl : ∀ x : List AV, leV.leL x x
  | [] => by simp only [leV.leL]
  | x :: xs => by simp only [leV.leL]; exact ⟨leV_refl x, leL_refl xs⟩
end
attribute [simp] leV_refl leL_refl
@[simp] theorem leV_sc (v : Value) (y : AV) : leV (.sc v) y ↔ .sc v = y := by cases y <;> simp [leV]
@[simp] theorem leV_lst (e : TypeId) (l : List (List AV)) (y : AV) : leV (.lst e l) y ↔ .lst e l = y := by cases y <;> simp [leV]
@[simp] theorem leV_own (i g : Nat) (y : AV) : leV (.own i g) y ↔ .own i g = y := by cases y <;> simp [leV]
@[simp] theorem leV_ptr (i g : Nat) (y : AV) : leV (.ptr i g) y ↔ .ptr i g = y := by cases y <;> simp [leV]
@[simp] theorem leV_mp (i : Nat) (y : AV) : leV (.mp i) y ↔ .mp i = y := by cases y <;> simp [leV]
@[simp] theorem leV_eptr (cs : List AV) (y : AV) : leV (.eptr cs) y ↔ .eptr cs = y := by cases y <;> simp [leV]
@[simp] theorem leV_fn (f : Fn) (fs cs : List AV) (y : AV) : leV (.fn f fs cs) y ↔ .fn f fs cs = y := by cases y <;> simp [leV]
@[simp] theorem leV_agg (cs ds : List AV) : leV (.agg cs) (.agg ds) ↔ leV.leL cs ds := by simp [leV]
@[simp] theorem leV_tup (cs ds : List AV) : leV (.tup cs) (.tup ds) ↔ leV.leL cs ds := by simp [leV]
@[simp] theorem leV_nils (e : TypeId) (l : List (List AV)) : leV .nils (.lst e l) ↔ l = [] := by simp [leV]
@[simp] theorem leL_nil : leV.leL [] [] := by simp [leV.leL]
@[simp] theorem leL_cons (x y : AV) (xs ys : List AV) : leV.leL (x :: xs) (y :: ys) ↔ leV x y ∧ leV.leL xs ys := by simp [leV.leL]
theorem endP_mk {T : Tab} {rs : List ResultVar} {N : Nat} {Q : AV → St → Prop} {σ : Slots} {st : St} (r : AV) (h1 : allP (resOk T σ st) rs) (h2 : leV ((retV T rs σ st).cut N st) r) (h3 : Q r (cutSt N st)) : endP T rs N Q σ st := ⟨h1, r, h2, h3⟩
theorem cutSt_keep {st : St} (h : Fix st) (L : St) : cutSt st.length (st ++ L) = st := by
  unfold cutSt; rw [List.take_left']; exact h _ _ (Nat.le_refl _); rfl
theorem cutSt_same {st : St} (h : Fix st) : cutSt st.length st = st := by
  have := cutSt_keep h []; simpa using this
theorem cutSt_set {st : St} (h : Fix st) (id : Nat) (b : Blk) (L : St) : cutSt st.length (st.set id b ++ L) = st.set id (b.cut st.length (st.set id b ++ L)) := by
  unfold cutSt; rw [List.take_left' (by simp), List.map_set, h _ _ (Nat.le_refl _)]
theorem cutSt_set0 {st : St} (h : Fix st) (id : Nat) (b : Blk) : cutSt st.length (st.set id b) = st.set id (b.cut st.length (st.set id b)) := by
  have := cutSt_set h id b []; simpa using this
theorem vcCall_of {T : Tab} {P : Program} {g : FuncId} {xs xs' : List AV} {c : Bool} {kv : AV → Prop} {r : AV} (h : PureCall T P g xs' r) (hl : leV.leL xs xs') (hk : kv r) : vcCall T P g xs c kv := ⟨xs', r, fun _ => ⟨hl, h⟩, hk⟩
/-- A guarded call. -/
theorem vcCall_if {T : Tab} {P : Program} {g : FuncId} {xs xs' : List AV} {c : Bool} {kv : AV → Prop} {r : AV} (h : c = true → PureCall T P g xs' r ∧ leV.leL xs xs') (hk : kv r) : vcCall T P g xs c kv := ⟨xs', r, fun hc => ⟨(h hc).2, (h hc).1⟩, hk⟩
theorem vcCall_at {T : Tab} {P : Program} {g : FuncId} {xs : List AV} {c : Bool} {kv : AV → Prop} {r : AV} (h : PureCall T P g xs r) (hk : kv r) : vcCall T P g xs c kv := ⟨xs, r, fun _ => ⟨leL_refl xs, h⟩, hk⟩
theorem vcICall_of {T : Tab} {P : Program} {g : FuncId} {xs : List AV} {st : St} {k Q : AV → St → Prop} (h : ICall T P g xs st Q) (hk : ∀ r st', Q r st' → Fix st' → k r st') : vcICall T P g xs st k := ⟨Q, h, hk⟩
section
variable {T : Tab} {P : Program} {n : Nat} {mu : List Nat} {ops : Array Oper} {im : List Nat} {io : Option Nat} {R : AV → St → Prop} {k : Slots → St → Prop} {σ : Slots} {st : St}
@[simp] theorem vcOps2_nil (i : Nat) : vcOps2 T P n mu ops im i [] k σ st = k σ st := rfl
@[simp] theorem vcOps2_one (i : Nat) (o : Oper) : vcOps2 T P n mu ops im i [o] k σ st = vcOne T P n mu ops im i o k σ st := rfl
@[simp] theorem vcOps2_cons (i : Nat) (o o2 : Oper) (os : List Oper) : vcOps2 T P n mu ops im i (o :: o2 :: os) k σ st =
    match onceOf mu o o2 with
    | some (t, d, y) => d < n ∧ notTmp d y ∧ gok (ev σ y) ∧ liesOk st (sv σ y) ∧
        (match T t with | some i => (match i.zero with | some z => z.cells.size = i.cells | none => False) ∧ (cellsOf (sv σ y)).length = i.cells | none => False) ∧
        vcOps2 T P n mu ops im (i + 2) os k (σ.put (some d) (.eptr (cellsOf (sv σ y)))) st
    | none => vcOne T P n mu ops im i o (vcOps2 T P n mu ops im (i + 1) (o2 :: os) k) σ st := rfl
@[simp] theorem vcLex_nil (i : Nat) : vcLex T P n ops io R i [] k σ st = k σ st := rfl
@[simp] theorem vcLex_cons (i : Nat) (o : Oper) (os : List Oper) : vcLex T P n ops none R i (o :: os) k σ st = vcOp T P n [] ops false o (vcLex T P n ops none R (i + 1) os k) σ st := rfl
/-- The quiet operation before the one that may write. -/
def vcStay (T : Tab) (P : Program) (n : Nat) (ops : Array Oper) (o : Oper) (R : AV → St → Prop) (σ : Slots) (k : Slots → St → Prop) (σ1 : Slots) (st1 : St) : Prop :=
  (∀ (r : AV) (st' : St), R r st' → vcOp T P n [] ops false o (fun σ2 _ => σ2 = σ1) σ st') ∧ k σ1 st1
def vcThen (im : Nat) (T : Tab) (P : Program) (n : Nat) (ops : Array Oper) (o : Oper) (R : AV → St → Prop) (i : Nat) (os : List Oper) (k : Slots → St → Prop) (σ : Slots) (st : St) : Prop :=
  dstB n o ∧ o.guard = none ∧ vcI T P σ st o R ∧ ∀ r st', R r st' → Fix st' → vcLex T P n ops (some im) R (i + 1) os k (σ.put o.dst r) st'
@[simp] theorem vcLex_consI (im i : Nat) (o : Oper) (os : List Oper) : vcLex T P n ops (some im) R i (o :: os) k σ st =
    if im = i then vcThen im T P n ops o R i os k σ st
    else if looseB ops (some im) i = true then vcOp T P n [] ops false o (vcStay T P n ops o R σ (vcLex T P n ops (some im) R (i + 1) os k)) σ st
    else vcOp T P n [] ops false o (vcLex T P n ops (some im) R (i + 1) os k) σ st := by
  unfold vcLex
  by_cases h : im = i
  · rw [if_pos h, if_pos (by rw [h])]; rfl
  · rw [if_neg h, if_neg (fun e => h (Option.some.inj e))]; rfl
@[simp] theorem vcLexM_nil {im : List Nat} {R : Nat → AV → St → Prop} (i : Nat) : vcLexM T P n ops im R i [] k σ st = k σ st := rfl
def vcStayM (T : Tab) (P : Program) (n : Nat) (ops : Array Oper) (im : List Nat) (R : Nat → AV → St → Prop) (i : Nat) (o : Oper) (σ : Slots) (k : Slots → St → Prop) (σ1 : Slots) (st1 : St) : Prop :=
  vcStays T P n ops R i o σ σ1 im ∧ k σ1 st1
def vcThenM (T : Tab) (P : Program) (n : Nat) (ops : Array Oper) (im : List Nat) (R : Nat → AV → St → Prop) (o : Oper) (i : Nat) (os : List Oper) (k : Slots → St → Prop) (σ : Slots) (st : St) : Prop :=
  dstB n o ∧ o.guard = none ∧ vcI T P σ st o (R i) ∧ ∀ r st', R i r st' → Fix st' → vcLexM T P n ops im R (i + 1) os k (σ.put o.dst r) st'
@[simp] theorem vcLexM_cons {im : List Nat} {R : Nat → AV → St → Prop} (i : Nat) (o : Oper) (os : List Oper) : vcLexM T P n ops im R i (o :: os) k σ st =
    if i ∈ im then vcThenM T P n ops im R o i os k σ st
    else vcOp T P n [] ops false o (vcStayM T P n ops im R i o σ (vcLexM T P n ops im R (i + 1) os k)) σ st := rfl
@[simp] theorem vcLexO_nil {im : List Nat} {R : Nat → AV → St → Prop} (dn : Option Nat) : vcLexO T P n ops im R dn [] k σ st = k σ st := rfl
def vcStayO (T : Tab) (P : Program) (n : Nat) (ops : Array Oper) (im : List Nat) (R : Nat → AV → St → Prop) (i : Nat) (o : Oper) (is : List Nat) (σ : Slots) (k : Slots → St → Prop) (σ1 : Slots) (st1 : St) : Prop :=
  vcStaysO T P n ops R i o σ σ1 ((ordX is).filter fun m => im.contains m) ∧ k σ1 st1
/-- From here on less is counted on. -/
def vcReR (T : Tab) (P : Program) (n : Nat) (ops : Array Oper) (im : List Nat) (R : Nat → AV → St → Prop) (dn : Option Nat) (is : List Nat) (k : Slots → St → Prop) (σ1 : Slots) (st1 : St) : Prop :=
  ∃ R' : Nat → AV → St → Prop, (∀ m r s, R' m r s → R m r s) ∧ vcLexO T P n ops im R' dn is k σ1 st1
@[simp] theorem vcLexO_cons {im : List Nat} {R : Nat → AV → St → Prop} (dn : Option Nat) (i : Nat) (is : List Nat) : vcLexO T P n ops im R dn (i :: is) k σ st = (if 1000 ≤ i then
      (if i / 1000 - 1 = i % 1000 then vcThenQ T P n ops R (i % 1000) (vcReR T P n ops im R dn is k) σ st
      else if dn = some (i / 1000 - 1) then vcThenQ T P n ops R (i % 1000) (vcLexO T P n ops im R dn is k) σ st
      else vcThenQ T P n ops R (i / 1000 - 1) (vcThenQ T P n ops R (i % 1000) (vcLexO T P n ops im R (some (i / 1000 - 1)) is k)) σ st ∧ vcThenQ T P n ops R (i % 1000) (vcLexO T P n ops im R dn is k) σ st)
    else if dn = some i then vcLexO T P n ops im R none is k σ st
    else
    match ops[i]? with
    | some o => if i ∈ im then vcThenQ T P n ops R i (vcLexO T P n ops im R dn is k) σ st
      else vcOp T P n [] ops false o (vcStayO T P n ops im R i o is σ (vcLexO T P n ops im R dn is k)) σ st
    | none => False) := rfl
/-- One that may write, in its place. -/
theorem vcThenQ_of {R : Nat → AV → St → Prop} {i : Nat} {o : Oper} (Q : AV → St → Prop) (ho : ops[i]? = some o) (h1 : dstB n o) (h2 : o.guard = none) (h3 : vcI T P σ st o Q) (h4 : ∀ r st', Q r st' → R i r st') (h5 : ∀ r st', Q r st' → Fix st' → k (σ.put o.dst r) st') : vcThenQ T P n ops R i k σ st := by
  unfold vcThenQ; rw [ho]; refine ⟨h1, ?_⟩; rw [h2]; exact ⟨Q, h3, h4, h5⟩
/-- .. guarded, and carried out. -/
theorem vcThenQ_yes {R : Nat → AV → St → Prop} {i g : Nat} {want : Bool} {o : Oper} (Q : AV → St → Prop) (ho : ops[i]? = some o) (h1 : dstB n o) (h2 : o.guard = some (g, want)) (hc : gcond ops σ g want = some true) (h3 : vcI T P σ st o Q) (h4 : ∀ r st', Q r st' → R i (.gate true r) st') (h5 : ∀ r st', Q r st' → Fix st' → k (σ.put o.dst (.gate true r)) st') : vcThenQ T P n ops R i k σ st := by
  unfold vcThenQ; rw [ho]; refine ⟨h1, ?_⟩; rw [h2]; simp only [hc]; exact ⟨Q, h3, h4, h5⟩
/-- .. not carried out. -/
theorem vcThenQ_no {R : Nat → AV → St → Prop} {i g : Nat} {want : Bool} {o : Oper} (ho : ops[i]? = some o) (h1 : dstB n o) (h2 : o.guard = some (g, want)) (hc : gcond ops σ g want = some false) (h4 : R i (.gate false .any) st) (h5 : Fix st → k (σ.put o.dst (.gate false .any)) st) : vcThenQ T P n ops R i k σ st := by
  unfold vcThenQ; rw [ho]; refine ⟨h1, ?_⟩; rw [h2]; simp only [hc]; exact ⟨h4, h5⟩
end
attribute [simp] shrV isShr inKind convV convOk ordX ixV sliceV boundsOk sliceOk capV capOk putK putKg putI putIg vcW vcOne vcOpI vcI dstB imAll ordAll vcStays vcStaysO fzAll Blk.cut AV.cut AV.cutL AV.cutM vcOp vcN vcQ vcQ0 nilCmp nilCan nilSl cellV cellOk maxV minV intsOk lookupV lookupOk mapElem isI64 zeroV zeroV.zeroA' onceOf gcond ev sv str gok goksL zeroOk zeroA buildOk buildV partOk putPart placeT isBuilt pairT splice allP isStruct liesOk cellsOf retP retV resV resOk
  loadV AV.frz AV.frzL loadOk mk aggD cellsOk Tab.cells Tab.bytes binV binOk binI binIok binS binSok boolV anyB eqOp descIs isBoolD isPtrD isMapD nilV isNilP isNilM unV unOk offV isAddr faV faOk
  fieldV extractV extractOk nilOk lenV lenOk lenKnow isSliceK isStrK sliceElem buildSliceV buildSliceOk callArgs pickV pickOk notTmp srcOf srcElem elemOk adopts adopt1
end Go.Ab
end

section
namespace Go.Ab
open Go.RowKit
section
variable {T : Tab} {P : Program}

/-- A function that may write, given nothing to write into. -/
theorem PureCall.of_ICall {f : FuncId} {args : List AV} {Q : AV → St → Prop} {r : AV} (h : ICall T P f args [] Q) (hpa : AV.pureL args = true) (hpr : r.pure = true) (hq : ∀ r' st', Q r' st' → leV r' r) : PureCall T P f args r := by
  refine ⟨h.1, hpa, hpr, fun w M vs hM hr => ?_⟩
  have hi0 : Inv T ⟨w, [], fun _ => 0, M⟩ := ⟨fun i j bi bj h => by simp at h, fun i bi h => by simp at h, hM, fun i bi h => by simp at h⟩
  refine (h.2 ⟨w, [], fun _ => 0, M⟩ vs rfl hi0 hr).mono ?_
  rintro e w' ⟨v, r', E', rfl, rfl, k1, k2, k3, k4⟩
  refine ⟨v, rfl, ⟨k2.os, k2.tape, k2.output, k2.size, fun k hk => k2.blk k hk ?_⟩, ?_⟩
  · by_cases hMk : M k
    · exact .inl hMk
    · refine .inr ?_
      rintro (h | ⟨id, blk, h, _⟩)
      · exact hMk h
      · simp at h
  · have := leV_rel _ _ _ (hq _ _ k4) k3
    have hM' : E'.M = M := k2.M
    refine Rel.pureTo (E := E') (F := ⟨E'.w, [], fun _ => 0, M⟩) rfl (fun b hb => ⟨hb.1, fun hm => hb.2 ?_⟩) r v hpr this
    rcases hm with hm | ⟨id, blk, h1, _⟩
    · exact .inl (by rw [hM']; exact hm)
    · simp at h1

/-- An empty slice, handed in as a row of one's own. -/
theorem ICall.nils {f : FuncId} {pre post : List AV} {st : St} {Q : AV → St → Prop} (e : TypeId) (h : ICall T P f (pre ++ .own st.length 0 :: post) (st ++ [.row e 0 false []]) Q) :
    ICall T P f (pre ++ .nils :: post) st (fun r st' => ∃ r0 st0, Q r0 st0 ∧ r = r0.cut st.length st0 ∧ st' = cutSt st.length st0) := by
  refine ⟨h.1, fun E vs hst hi hr => ?_⟩
  subst hst
  obtain ⟨s1, s2, s3⟩ := Env.adopt hi e
  have key : ∀ (pre : List AV) (vs : List Value), RelL T E (pre ++ .nils :: post) vs → RelL T { E with st := E.st ++ [.row e 0 false []] } (pre ++ .own E.st.length 0 :: post) vs := by
    intro pre
    induction pre with
    | nil =>
      intro vs h
      simp only [List.nil_append, RelL] at h ⊢
      obtain ⟨v, r, h1, h2, h3⟩ := h
      exact ⟨v, r, h1, s3 _ (by simpa only [Rel] using h2), RelL.step s1 _ _ h3⟩
    | cons x xs ih =>
      intro vs h
      simp only [List.cons_append, RelL] at h ⊢
      obtain ⟨v, r, h1, h2, h3⟩ := h
      exact ⟨v, r, h1, Rel.step s1 _ _ h2, ih r h3⟩
  refine (h.2 { E with st := E.st ++ [.row e 0 false []] } vs rfl s2 (key pre vs hr)).mono ?_
  rintro en w' ⟨v, r, E', rfl, rfl, k1, k2, k3, k4⟩
  exact ⟨v, _, E'.cut E.st.length, rfl, rfl, Env.cut_inv k1, Env.cut_step (s1.trans k2), cut_rel k1 _ _ k3, r, E'.st, k4, rfl, rfl⟩

/-- An empty slice in a cell, named as a row before a call. -/
theorem ICall.adoptC {f : FuncId} {args : List AV} {st : St} {Q : AV → St → Prop} (e : TypeId) (id off : Nat) (cs : List AV) (hb0 : st[id]? = some (.cells cs)) (hn : cs[off]? = some .nils)
    (h : ICall T P f args (st.set id (.cells (cs.set off (.own st.length 0))) ++ [.row e 0 false []]) Q) : ICall T P f args st Q := by
  refine ⟨h.1, fun E vs hst hi hr => ?_⟩
  subst hst
  obtain ⟨s1, s2, s3⟩ := Env.adopt hi e
  have hidlt : id < E.st.length := (List.getElem?_eq_some_iff.1 hb0).1
  have hb' : (E.st ++ [Blk.row e 0 false []])[id]? = some (.cells cs) := by rw [List.getElem?_append_left hidlt]; exact hb0
  have hset : (E.st ++ [Blk.row e 0 false []]).set id (.cells (cs.set off (.own E.st.length 0))) = E.st.set id (.cells (cs.set off (.own E.st.length 0))) ++ [.row e 0 false []] := by
    rw [List.set_append_left _ _ hidlt]
  have hup := Env.upd (T := T) (E := { E with st := E.st ++ [.row e 0 false []] }) (b' := E.φ id) (blk' := .cells (cs.set off (.own E.st.length 0))) (w' := E.w) s2 hb' rfl rfl rfl (Nat.le_refl _)
    (fun _ _ _ => rfl) (.inl ⟨rfl, rfl⟩) (by
      unfold Compat
      dsimp only
      rw [List.getElem?_set_self (by simp; omega)]
      exact ⟨⟨cs, hb'⟩, if_pos rfl⟩)
  obtain ⟨cc, t, q1, q2⟩ := hi.blk id _ hb0
  have hinv := hup.2 ⟨cc, t, by dsimp only; rw [if_pos rfl]; exact q1, RelC.set (x := .nils) (fun u hu => Rel.step hup.1 _ _ (s3 u (by simpa only [Rel] using hu))) cs _ off (RelC.step hup.1 _ _ (RelC.step s1 _ _ q2)) hn⟩
  refine (h.2 _ vs (by exact hset) hinv (RelL.step (s1.trans hup.1) _ _ hr)).mono ?_
  rintro en w' ⟨v, r, E', rfl, rfl, k1, k2, k3, k4⟩
  exact ⟨v, r, E', rfl, rfl, k1, (s1.trans hup.1).trans k2, k3, k4⟩
end
end Go.Ab
end

section
namespace Go.Ab
section
variable {X : St} {N : Nat}
theorem ap0 (h : X.length = N) (a : Blk) (l : St) : (X ++ a :: l)[N]? = some a := by subst h; simp
theorem ap1 (h : X.length = N) (a b : Blk) (l : St) : (X ++ a :: b :: l)[N + 1]? = some b := by subst h; simp
theorem ap2 (h : X.length = N) (a b c : Blk) (l : St) : (X ++ a :: b :: c :: l)[N + 2]? = some c := by subst h; simp
theorem ap3 (h : X.length = N) (a b c d : Blk) (l : St) : (X ++ a :: b :: c :: d :: l)[N + 3]? = some d := by subst h; simp
theorem as0 (h : X.length = N) (a x : Blk) (l : St) : (X ++ a :: l).set N x = X ++ x :: l := by subst h; simp
theorem as1 (h : X.length = N) (a b x : Blk) (l : St) : (X ++ a :: b :: l).set (N + 1) x = X ++ a :: x :: l := by subst h; simp
theorem as2 (h : X.length = N) (a b c x : Blk) (l : St) : (X ++ a :: b :: c :: l).set (N + 2) x = X ++ a :: b :: x :: l := by subst h; simp
theorem as3 (h : X.length = N) (a b c d x : Blk) (l : St) : (X ++ a :: b :: c :: d :: l).set (N + 3) x = X ++ a :: b :: c :: x :: l := by subst h; simp
theorem ICall.mono {T : Tab} {P : Program} {f : FuncId} {args : List AV} {st : St} {Q Q' : AV → St → Prop} (h : ICall T P f args st Q) (hq : ∀ r st', Q r st' → Q' r st') : ICall T P f args st Q' := by
  refine ⟨h.1, fun E vs hst hi hr => (h.2 E vs hst hi hr).mono ?_⟩
  rintro e w' ⟨v, r, E', rfl, rfl, k1, k2, k3, k4⟩
  exact ⟨v, r, E', rfl, rfl, k1, k2, k3, hq _ _ k4⟩
end
end Go.Ab
end

section
namespace Go.Ab
open Go.RowKit
variable {P : Program}

/-- The wide fence, in a round or not. -/
def fenceR (r : Option Nat) : Fence := { Fence.wide with round := r }
def behindA (a : Act) (ds : List Deferred) : Act := { a with defers := a.defers ++ ds }
theorem behind_put (a : Act) (ds : List Deferred) (d : Option Tmp) (v : Value) : (behindA a ds).put d v = behindA (a.put d v) ds := by cases d <;> rfl
def noDefer (o : Oper) : Bool := match o.op with | .defer _ => false | _ => true

theorem wpIn_of_wp {r : Option Nat} {n : Nat} {o : Oper} (hd : noDefer o = true) {a : Act} {ds : List Deferred} {w : World} {K K' : Act → World → Prop} {Q Q' : Exit → Act → World → Prop} (h : o.wp P a w K Q) (hL : ¬ LetsOut Q)
    (hK : ∀ a' w', K a' w' → K' (behindA a' ds) w') (hQ : ∀ c a' w', Q (.panic c) a' w' → Q' (.panic c) (behindA a' ds) w') : o.wpIn (fenceR r) n P (behindA a ds) w K' Q' := by
  refine ⟨fun _ _ => trivial, ?_⟩
  rw [Oper.semAt_eq _ _ _ (fun c e => by rw [noDefer, e] at hd; cases hd)]
  unfold Oper.wp at h
  have he : (behindA a ds).eval = a.eval := rfl
  rw [he]
  generalize (execOp a.eval o).run P w = res at h ⊢
  cases res with
  | ok nx w' =>
    cases nx with
    | value v => simp only [Oper.upon_value, Oper.uponIn_value, behind_put] at h ⊢; exact hK _ _ h
    | skip => simp only [Oper.upon_skip, Oper.uponIn_skip, behind_put] at h ⊢; exact hK _ _ h
    | defer d =>
      simp only [Oper.upon_defer, Oper.uponIn_defer] at h ⊢
      have := hK _ _ h
      rwa [← behind_put] at this
    | enter f args =>
      simp only [Oper.upon_enter, Oper.uponIn_enter] at h ⊢
      refine ⟨fun hh => by simp [fenceR, Fence.wide] at hh, ?_⟩
      refine ((callsIn_wide (n := n - 1)).2 h).mono ?_
      intro e w'' he
      cases e with
      | returned v => simp only [behind_put] at he ⊢; exact hK _ _ he
      | panicked c => exact hQ _ _ _ he
      | outgrown => exact absurd he hL
    | row rw_ args =>
      simp only [Oper.upon_row, Oper.uponIn_row] at h ⊢
      refine ⟨fun hh => by simp [fenceR, Fence.wide] at hh, fun c cs _ => ?_⟩
      obtain ⟨v, w'', h1, h2⟩ := h c cs
      exact ⟨v, w'', by simp only [behind_put]; exact hK _ _ h1, stepsIn_wide.2 h2⟩
    | _ => exact h.elim
  | halt x w' =>
    cases x with
    | panic v => simp only [Oper.upon_panic, Oper.uponIn_panic] at h ⊢; exact hQ _ _ _ h
    | _ => exact h.elim

theorem wpListIn_of_wpList {r : Option Nat} {n : Nat} {ops : Array Oper} {ds : List Deferred} {Q Q' : Exit → Act → World → Prop} (hL : ¬ LetsOut Q)
    (hQ : ∀ e a' w', Q e a' w' → Q' e (behindA a' ds) w') : ∀ (l : List Oper) (a : Act) (w : World), l.all noDefer = true → wpList P ops Q l a w → wpListIn (fenceR r) n P ops Q' l (behindA a ds) w
  | [], a, w, _, h => hQ _ _ _ h
  | o :: os, a, w, hd, h => by
    simp only [List.all_cons, Bool.and_eq_true] at hd
    unfold wpList at h
    unfold wpListIn
    have he : (behindA a ds).tmps = a.tmps := rfl
    rw [he]
    split
    · rename_i hw
      rw [if_pos hw] at h
      rcases h with h | h
      · exact wpIn_of_wp hd.1 h hL (fun a' w' hk => wpListIn_of_wpList hL hQ os a' w' hd.2 hk) (fun c a' w' hq => hQ _ _ _ hq)
      · exact absurd h.2 hL
    · rename_i hw
      rw [if_neg hw] at h
      refine ⟨fun _ _ => trivial, ?_⟩
      rw [behind_put]
      exact wpListIn_of_wpList hL hQ os _ w hd.2 h

theorem wpAnyIn_of_wpAny {r : Option Nat} {n : Nat} {ops : Array Oper} {ds : List Deferred} {Q Q' : Exit → Act → World → Prop} (hL : ¬ LetsOut Q) (hd : ∀ (i : Nat) (o : Oper), ops[i]? = some o → noDefer o = true)
    (hQ : ∀ e a' w', Q e a' w' → Q' e (behindA a' ds) w') : ∀ (fuel : Nat) (listed : Array Bool) (a : Act) (w : World), wpAny P .any ops Q fuel listed a w → wpAnyIn (fenceR r) n P .any ops Q' fuel listed (behindA a ds) w
  | 0, _, a, w, h => ⟨h.1, hQ _ _ _ h.2⟩
  | fuel + 1, listed, a, w, h => by
    refine ⟨fun h0 => hQ _ _ _ (h.1 h0), fun i hi => ?_⟩
    have h := h.2 i hi
    unfold wpOp at h
    unfold wpOpIn
    cases ho : ops[i]? with
    | none => rw [ho] at h; exact wpAnyIn_of_wpAny hL hd hQ fuel _ a w h
    | some o =>
      simp only [ho] at h ⊢
      have he : (behindA a ds).tmps = a.tmps := rfl
      rw [he]
      split
      · rename_i hw
        rw [if_pos hw] at h
        rcases h with h | h
        · exact wpIn_of_wp (hd i o ho) h hL (fun a' w' hk => wpAnyIn_of_wpAny hL hd hQ fuel _ a' w' hk) (fun c a' w' hq => hQ _ _ _ hq)
        · exact absurd h.2 hL
      · rename_i hw
        rw [if_neg hw] at h
        refine ⟨fun _ _ => trivial, ?_⟩
        rw [behind_put]
        exact wpAnyIn_of_wpAny hL hd hQ fuel _ _ w h

section
variable {T : Tab} (hT : TabOk T P) {E0 : Env} {n : Nat} {mu : List Nat}

/-- Straight code: regions in a row. -/
def regOnly : Code → Bool
  | .skip => true
  | .region _ ops false => ops.toList.all noDefer
  | .region _ ops true => ops.toList.all noDefer && lexB2 ops []
  | .seq a b => regOnly a && regOnly b
  | .block _ c => regOnly c
  | _ => false

include hT in
/-- STRAIGHT CODE, _, IN A ROUND OR WITH CALLS PUT OFF. -/
theorem vcR_sound (hm : P.follows .mixedOrders = true := by kernel_rfl) {r : Option Nat} {n' : Nat} {ds : List Deferred} {R : Slots → St → Prop} : ∀ (c : Code) {X : Nat → Slots → St → Prop} {K : Slots → St → Prop} {Q : Exit → Act → World → Prop} {σ : Slots} {st : St} (E : Env) (a : Act), regOnly c = true →
    vcC T P n mu [] c K X R σ st → E.st = st → Inv T E → Step E0 E → RelS T E n σ a →
    (∀ E' σ' a', Inv T E' → Step E0 E' → RelS T E' n σ' a' → K σ' E'.st → Q .normal (behindA a' ds) E'.w) →
    c.wpIn (fenceR r) n' P Q (behindA a ds) E.w
  | .skip, _, K, Q, σ, st, E, a, _, h, h1, h2, h3, h4, hq => wpIn_skip (hq E σ a h2 h3 h4 (h1 ▸ h))
  | .region _ ops false, _, K, Q, σ, st, E, a, hd, h, h1, h2, h3, h4, hq => by
    have hA := vcOps2_sound (E0 := E0) hT 0 _ h E a h1 h2 h3 h4 (fun e a' w' => e = .normal ∧ Q .normal (behindA a' ds) w') (fun E' σ' a' k1 k2 k3 k4 => ⟨rfl, hq E' σ' a' k1 k2 k3 k4⟩)
    refine wpIn_region_list (wpListIn_of_wpList (Q := fun e a' w' => e = .normal ∧ Q .normal (behindA a' ds) w') ?_ ?_ _ _ _ hd hA)
    · rintro ⟨_, _, h, _⟩; cases h
    · rintro e a' w' ⟨rfl, hh⟩; exact hh
  | .seq x y, _, K, Q, σ, st, E, a, hd, h, h1, h2, h3, h4, hq => by
    simp only [regOnly, Bool.and_eq_true] at hd
    refine wpIn_seq (vcR_sound hm x E a hd.1 h h1 h2 h3 h4 ?_)
    intro E' σ' a' k1 k2 k3 k4
    exact vcR_sound hm y E' a' hd.2 k4 rfl k1 k2 k3 hq
  | .region id ops true, X, K, Q, σ, st, E, a, hd, h, h1, h2, h3, h4, hq => by
    obtain ⟨l⟩ := ops
    simp only [regOnly, Bool.and_eq_true] at hd
    have h : vcLex T P n l.toArray none (fun _ _ => False) 0 l K σ st := h
    rw [vcLex_M] at h
    refine wpIn_region_any hm ?_
    obtain ⟨s1, s2⟩ := Env.ext (w' := E.w.drew) h2 rfl rfl rfl (Nat.le_refl _) (fun _ _ => rfl)
    have hx : xAny T P E0 n l.toArray [] (fun _ _ _ => False) K l.length (Array.replicate l.toArray.size false) σ st := by
      refine xAny_lex hT l 0 _ σ st (fun j => by simp) ?_ (fun m _ hlt => absurd hlt (Nat.not_lt_zero m)) ?_ h
      · intro k o ho hk
        exfalso
        have : k < l.toArray.size := (Array.getElem?_eq_some_iff.1 ho).1
        simp [Array.getD] at hk
      · simpa [lexB2] using hd.2
    have := xAny_wp (Q := fun e a' w' => e = .normal ∧ Q .normal (behindA a' ds) w') (fun E' σ' a' k1 k2 k3 k4 => ⟨rfl, hq E' σ' a' k1 k2 k3 k4⟩) _ _ σ st hx { E with w := E.w.drew } a h1 s2 (h3.trans s1) (h4.step s1)
    refine wpAnyIn_of_wpAny (Q := fun e a' w' => e = .normal ∧ Q .normal (behindA a' ds) w') ?_ ?_ ?_ _ _ _ _ this
    · rintro ⟨_, _, h, _⟩; cases h
    · intro i o ho
      have := List.all_eq_true.1 hd.1 o (by
        have := Array.mem_of_getElem? ho
        simpa using this)
      exact this
    · rintro e a' w' ⟨rfl, hh⟩; exact hh
  | .cond _ _ _, _, _, _, _, _, _, _, hd, _, _, _, _, _, _ => by simp [regOnly] at hd
  | .block _ c, _, K, Q, σ, st, E, a, hd, h, h1, h2, h3, h4, hq => by
    simp only [regOnly] at hd
    exact wpIn_block (vcR_sound hm c E a hd h h1 h2 h3 h4 hq)
  | .loop _, _, _, _, _, _, _, _, hd, _, _, _, _, _, _ => by simp [regOnly] at hd
  | .exit _, _, _, _, _, _, _, _, hd, _, _, _, _, _, _ => by simp [regOnly] at hd
  | .ret, _, _, _, _, _, _, _, hd, _, _, _, _, _, _ => by simp [regOnly] at hd
  | .label _, _, _, _, _, _, _, _, hd, _, _, _, _, _, _ => by simp [regOnly] at hd
  | .goto _, _, _, _, _, _, _, _, hd, _, _, _, _, _, _ => by simp [regOnly] at hd
end
end Go.Ab
end

section
namespace Go.Ab
open Go.RowKit

mutual
/-- Each place that it names holds something. -/
def AV.solid : AV → Prop
  | .agg cs => AV.solidL cs
  | .tup cs => AV.solidL cs
  | .lst _ l => AV.solidM l
  | .eptr cs => cs ≠ [] ∧ AV.solidL cs
  | .fn _ a b => AV.solidL a ∧ AV.solidL b
  | .gate _ x => AV.solid x
  | _ => True
def AV.solidL : List AV → Prop
  | [] => True
  | x :: xs => AV.solid x ∧ AV.solidL xs
def AV.solidM : List (List AV) → Prop
  | [] => True
  | x :: xs => x ≠ [] ∧ AV.solidL x ∧ AV.solidM xs
end

/-- What is named moves along; what is read stays as it was. -/
structure Move (E E' : Env) : Prop where
  len : E.st.length ≤ E'.st.length
  compat : ∀ id, id < E.st.length → Compat E E' id
  cell : ∀ b o v, E.stable b → E.w.cell? ⟨b, o, none⟩ = some v → E'.stable b ∧ ∀ o', E'.w.cell? ⟨b, o', none⟩ = E.w.cell? ⟨b, o', none⟩

mutual
theorem Rel.move {T : Tab} {E E' : Env} (h : Move E E') : ∀ (x : AV) (u : Value), x.solid → Rel T E x u → Rel T E' x u
  | .sc v, u, _, hr => by simpa only [Rel] using hr
  | .agg cs, u, hs, hr => by
    simp only [Rel] at hr ⊢
    obtain ⟨vs, h1, h2⟩ := hr
    exact ⟨vs, h1, RelC.move h cs vs hs h2⟩
  | .tup cs, u, hs, hr => by
    simp only [Rel] at hr ⊢
    obtain ⟨vs, h1, h2⟩ := hr
    exact ⟨vs, h1, RelL.move h cs vs hs h2⟩
  | .lst e [], u, hs, hr => by
    simp only [Rel] at hr ⊢
    obtain ⟨h1, h2, a, cap, h3, hcp, h4⟩ := hr
    exact ⟨h1, h2, a, cap, h3, hcp, .inl trivial⟩
  | .lst e ([] :: l), u, hs, hr => by simp only [AV.solid, AV.solidM] at hs; exact absurd rfl hs.1
  | .lst e ((y :: ys) :: l), u, hs, hr => by
    simp only [Rel] at hr ⊢
    obtain ⟨h1, h2, a, cap, h3, hcp, h4⟩ := hr
    refine ⟨h1, h2, a, cap, h3, hcp, ?_⟩
    rcases h4 with h4 | ⟨b, o, h4, h5, h6⟩
    · exact .inl h4
    · have h7 := h6
      simp only [RelM, RelX] at h7
      obtain ⟨_, ⟨⟨v, hv, _⟩, _⟩, _⟩ := h7
      obtain ⟨k1, k2⟩ := h.cell b o v h5 hv
      exact .inr ⟨b, o, h4, k1, RelM.move h b (T.cells e) k2 _ o hs h6⟩
  | .nils, u, _, hr => by simpa only [Rel] using hr
  | .own id g, u, _, hr => by
    simp only [Rel] at hr ⊢
    obtain ⟨h1, h2⟩ := hr
    refine ⟨Nat.lt_of_lt_of_le h1 h.len, fun e g' al' l' hl' => ?_⟩
    have hc := h.compat id h1
    simp only [Compat, hl'] at hc
    obtain ⟨g0, al, l, hl, hg, hk⟩ := hc
    obtain ⟨i1, i2⟩ := h2 e g0 al l hl
    refine ⟨Nat.le_trans i1 hg, fun hgg => ?_⟩
    obtain ⟨rfl, hk⟩ := hk (by omega)
    obtain ⟨i2, i3⟩ := i2 (by omega)
    refine ⟨fun ha => ?_, i3⟩
    obtain ⟨k1, k2, k3⟩ := hk ha
    obtain ⟨cap, c, e1, e2, e3⟩ := i2 ha
    obtain ⟨c', e4, e5⟩ := k3 c e e2
    exact ⟨cap, c', by rw [k1, k2]; exact e1, by rw [k1]; exact e4, by rw [e5]; exact e3.1, by rw [k2]; exact e3.2⟩
  | .ptr id off, u, _, hr => by
    simp only [Rel] at hr ⊢
    obtain ⟨h1, h2⟩ := hr
    refine ⟨Nat.lt_of_lt_of_le h1 h.len, fun cs hcs => ?_⟩
    have hc := h.compat id h1
    simp only [Compat, hcs] at hc
    obtain ⟨⟨cs0, k0⟩, k1⟩ := hc
    rw [k1]; exact h2 _ k0
  | .sub id g lo n, u, _, hr => by
    simp only [Rel] at hr ⊢
    obtain ⟨h1, h2⟩ := hr
    refine ⟨Nat.lt_of_lt_of_le h1 h.len, fun e g' al' l' hl' => ?_⟩
    have hc := h.compat id h1
    simp only [Compat, hl'] at hc
    obtain ⟨g0, al, l, hl, hg, hk⟩ := hc
    obtain ⟨i1, i2⟩ := h2 e g0 al l hl
    refine ⟨Nat.le_trans i1 hg, fun hgg => ?_⟩
    obtain ⟨rfl, hk⟩ := hk (by omega)
    obtain ⟨a, cap, e1, e2, e3⟩ := i2 (by omega)
    refine ⟨a, cap, e1, e2, e3.imp (fun q => q) fun ⟨ha, e4⟩ => ⟨ha, ?_⟩⟩
    rw [(hk ha).1]; exact e4
  | .rptr id g i f, u, _, hr => by
    simp only [Rel] at hr ⊢
    obtain ⟨h1, h2⟩ := hr
    refine ⟨Nat.lt_of_lt_of_le h1 h.len, fun e g' al' l' hl' => ?_⟩
    have hc := h.compat id h1
    simp only [Compat, hl'] at hc
    obtain ⟨g0, al, l, hl, hg, hk⟩ := hc
    obtain ⟨i1, i2⟩ := h2 e g0 al l hl
    refine ⟨Nat.le_trans i1 hg, fun hgg ha => ?_⟩
    obtain ⟨rfl, hk⟩ := hk (by omega)
    obtain ⟨k1, k2, k3⟩ := hk ha
    rw [k1]; exact i2 (by omega) ha
  | .eptr [], u, hs, hr => by simp only [AV.solid] at hs; exact absurd rfl hs.1
  | .eptr (y :: ys), u, hs, hr => by
    simp only [Rel] at hr ⊢
    obtain ⟨b, o, h1, h2, h3⟩ := hr
    have h7 := h3
    simp only [RelX] at h7
    obtain ⟨⟨v, hv, _⟩, _⟩ := h7
    obtain ⟨k1, k2⟩ := h.cell b o v h2 hv
    exact ⟨b, o, h1, k1, RelX.move h b k2 _ o hs.2 h3⟩
  | .fn f fs cs, u, hs, hr => by
    simp only [Rel] at hr ⊢
    obtain ⟨vs, ws, h1, h2, h3⟩ := hr
    exact ⟨vs, ws, h1, RelL.move h fs vs hs.1 h2, RelL.move h cs ws hs.2 h3⟩
  | .mp id, u, _, hr => by
    simp only [Rel] at hr ⊢
    obtain ⟨h1, h2⟩ := hr
    refine ⟨Nat.lt_of_lt_of_le h1 h.len, fun cs hcs => ?_⟩
    have hc := h.compat id h1
    simp only [Compat, hcs] at hc
    obtain ⟨⟨cs0, k0⟩, k1⟩ := hc
    rw [k1]; exact h2 _ k0
  | .gate c x, u, hs, hr => by
    simp only [Rel] at hr ⊢
    exact ⟨fun hc => Rel.move h x u hs (hr.1 hc), hr.2⟩
  | .any, u, _, hr => by simp only [Rel]
theorem RelL.move {T : Tab} {E E' : Env} (h : Move E E') : ∀ (xs : List AV) (vs : List Value), AV.solidL xs → RelL T E xs vs → RelL T E' xs vs
  | [], vs, _, hr => by simpa only [RelL] using hr
  | x :: xs, vs, hs, hr => by
    simp only [RelL] at hr ⊢
    obtain ⟨v, r, h1, h2, h3⟩ := hr
    exact ⟨v, r, h1, Rel.move h x v hs.1 h2, RelL.move h xs r hs.2 h3⟩
theorem RelC.move {T : Tab} {E E' : Env} (h : Move E E') : ∀ (xs : List AV) (vs : List Value), AV.solidL xs → RelC T E xs vs → RelC T E' xs vs
  | [], vs, _, hr => by simpa only [RelC] using hr
  | x :: xs, vs, hs, hr => by
    simp only [RelC] at hr ⊢
    obtain ⟨v, r, h1, h2, h4, h3⟩ := hr
    exact ⟨v, r, h1, Rel.move h x v hs.1 h2, h4, RelC.move h xs r hs.2 h3⟩
theorem RelX.move {T : Tab} {E E' : Env} (h : Move E E') (b : Nat) (hb : ∀ o, E'.w.cell? ⟨b, o, none⟩ = E.w.cell? ⟨b, o, none⟩) : ∀ (xs : List AV) (o : Nat), AV.solidL xs → RelX T E b o xs → RelX T E' b o xs
  | [], o, _, hr => by simp only [RelX]
  | x :: xs, o, hs, hr => by
    simp only [RelX] at hr ⊢
    obtain ⟨⟨v, h1, h2, h4⟩, h3⟩ := hr
    exact ⟨⟨v, by rw [hb]; exact h1, Rel.move h x v hs.1 h2, h4⟩, RelX.move h b hb xs _ hs.2 h3⟩
theorem RelM.move {T : Tab} {E E' : Env} (h : Move E E') (b k : Nat) (hb : ∀ o, E'.w.cell? ⟨b, o, none⟩ = E.w.cell? ⟨b, o, none⟩) : ∀ (l : List (List AV)) (o : Nat), AV.solidM l → RelM T E b k o l → RelM T E' b k o l
  | [], o, _, hr => by simp only [RelM]
  | e :: l, o, hs, hr => by
    simp only [RelM] at hr ⊢
    obtain ⟨h1, h2, h3⟩ := hr
    exact ⟨h1, RelX.move h b hb e o hs.2.1 h2, RelM.move h b k hb l _ hs.2.2 h3⟩
end

/-- Nothing but cells. -/
def allCells (st : St) : Prop := ∀ (i : Nat) (b : Blk), st[i]? = some b → ∃ cs, b = Blk.cells cs ∧ AV.solidL cs

/-- A later state of a loop over a function, seen from its start. -/
structure Good (E1 E : Env) : Prop where
  os : E.w.os = E1.w.os
  tape : E.w.tape = E1.w.tape
  output : E.w.output = E1.w.output
  size : E1.w.heap.size ≤ E.w.heap.size
  len : E.st.length = E1.st.length
  phi : ∀ i, i < E1.st.length → E.φ i = E1.φ i
  M : ∀ b, E.M b ↔ (E1.M b ∨ (E1.w.heap.size ≤ b ∧ ∃ o : Obj, E.w.heap[b]? = some o ∧ o.isCells = false))
  blk : ∀ b, b < E1.w.heap.size → (E1.M b ∨ ¬ E1.mut b) → E.w.heap[b]? = E1.w.heap[b]?
  cs1 : allCells E1.st
  cs : allCells E.st

theorem Good.M1 {E1 E : Env} (h : Good E1 E) : ∀ b, E1.M b → E.M b := fun b hb => (h.M b).2 (.inl hb)
theorem Good.M2 {E1 E : Env} (h : Good E1 E) : ∀ b, E.M b → E1.M b ∨ E1.w.heap.size ≤ b := fun b hb => ((h.M b).1 hb).imp id (·.1)
theorem Good.M3 {E1 E : Env} (h : Good E1 E) : ∀ b o, E1.w.heap.size ≤ b → E.w.heap[b]? = some o → o.isCells = false → E.M b := fun b o h1 h2 h3 => (h.M b).2 (.inr ⟨h1, o, h2, h3⟩)
theorem cells_of_get {st : St} (h1 : allCells st) {i : Nat} (hlt : i < st.length) : ∃ cs, st[i]? = some (.cells cs) := by
  obtain ⟨cs, h, _⟩ := h1 i _ (List.getElem?_eq_getElem hlt)
  exact ⟨cs, by rw [List.getElem?_eq_getElem hlt, h]⟩

section
variable {T : Tab} {E1 E E' : Env}

theorem compat_cells (h1 : allCells E.st) (h2 : allCells E'.st) (hl : E'.st.length = E.st.length) (hp : ∀ i, i < E.st.length → E'.φ i = E.φ i) (id : Nat) (hid : id < E.st.length) : Compat E E' id := by
  obtain ⟨cs, e⟩ := cells_of_get h1 hid
  obtain ⟨cs', e'⟩ := cells_of_get h2 (i := id) (by omega)
  unfold Compat
  rw [e']
  exact ⟨⟨cs, e⟩, hp id hid⟩

theorem Good.stable (h : Good E1 E) {b : Nat} (hb : E1.stable b) : E.stable b := by
  refine ⟨Nat.lt_of_lt_of_le hb.1 h.size, ?_⟩
  rintro (hm | ⟨id, blk, k1, k2, k3⟩)
  · rcases h.M2 b hm with hm | hm
    · exact hb.2 (.inl hm)
    · have := hb.1; omega
  · have hid : id < E1.st.length := by rw [← h.len]; exact (List.getElem?_eq_some_iff.1 k1).1
    obtain ⟨cs, e⟩ := cells_of_get h.cs1 hid
    exact hb.2 (.inr ⟨id, _, e, rfl, by rw [← h.phi id hid]; exact k3⟩)

theorem Good.move (h : Good E1 E) : Move E1 E where
  len := by rw [h.len]; exact Nat.le_refl _
  compat := compat_cells h.cs1 h.cs h.len h.phi
  cell := fun b o v hb hv => ⟨h.stable hb, fun o' => World.cell?_of_block (w := E1.w) (a := ⟨b, o', none⟩) (h.blk b hb.1 (.inr hb.2))⟩

theorem isCells_of_cell {w : World} {b o : Nat} {v : Value} (h : w.cell? ⟨b, o, none⟩ = some v) : ∃ ob : Obj, w.heap[b]? = some ob ∧ ob.isCells = true := cells_of_cell h

/-- A turn of a block that is no cells. -/
theorem Good.turn (h : Good E1 E) (hi : Inv T E) {W' : World} {row : Option Nat} (hg : E.w.grownBy W' row) (hr : ∀ r, row = some r → E1.w.heap.size ≤ r ∧ ∃ o : Obj, E.w.heap[r]? = some o ∧ o.isCells = false) :
    ∃ E', E'.w = W' ∧ E'.st = E.st ∧ Good E1 E' ∧ Inv T E' ∧ Move E E' := by
  have hcell : ∀ b (ob : Obj), E.w.heap[b]? = some ob → ob.isCells = true → W'.heap[b]? = E.w.heap[b]? := fun b ob h1 h2 =>
    hg.block b (Array.getElem?_eq_some_iff.1 h1).1 (fun e => by
      obtain ⟨_, o, k1, k2⟩ := hr b e.symm
      rw [h1] at k1; cases k1; rw [h2] at k2; cases k2)
  let E' : Env := ⟨W', E.st, E.φ, fun b => E1.M b ∨ (E1.w.heap.size ≤ b ∧ ∃ o : Obj, W'.heap[b]? = some o ∧ o.isCells = false)⟩
  have hmv : Move E E' := by
    refine ⟨Nat.le_refl _, compat_cells h.cs h.cs rfl (fun _ _ => rfl), fun b o v hb hv => ?_⟩
    obtain ⟨ob, k1, k2⟩ := isCells_of_cell hv
    refine ⟨⟨Nat.lt_of_lt_of_le hb.1 hg.size, ?_⟩, fun o' => World.cell?_of_block (w := E.w) (a := ⟨b, o', none⟩) (hcell b ob k1 k2)⟩
    rintro ((hm | ⟨_, o', hm, hn⟩) | hm)
    · exact hb.2 (.inl (h.M1 b hm))
    · rw [hcell b ob k1 k2, k1] at hm; cases hm; rw [k2] at hn; cases hn
    · exact hb.2 (.inr hm)
  refine ⟨E', rfl, rfl, ⟨hg.os.trans h.os, hg.tape.trans h.tape, hg.output.trans h.output, Nat.le_trans h.size hg.size, h.len, h.phi, fun _ => Iff.rfl, ?_, h.cs1, h.cs⟩, ⟨hi.inj, ?_, ?_, ?_⟩, hmv⟩
  · intro b hb hm
    refine (hg.block b (Nat.lt_of_lt_of_le hb h.size) (fun e => ?_)).trans (h.blk b hb hm)
    have := (hr b e.symm).1; omega
  · intro i bi k1 k2
    have := hi.lt i bi k1 k2
    refine ⟨Nat.lt_of_lt_of_le this.1 hg.size, ?_⟩
    rintro (hm | ⟨_, o, hm, hn⟩)
    · exact this.2 (h.M1 _ hm)
    · obtain ⟨cs, rfl, _⟩ := h.cs i bi k1
      obtain ⟨c, t, k5, _⟩ := hi.blk i _ k1
      rw [hcell _ _ k5 rfl, k5] at hm; cases hm; cases hn
  · rintro b (hb | ⟨_, o, hm, _⟩)
    · exact Nat.lt_of_lt_of_le (hi.Mlt b (h.M1 b hb)) hg.size
    · exact (Array.getElem?_eq_some_iff.1 hm).1
  · intro i bi k1
    obtain ⟨cs, rfl, hsol⟩ := h.cs i bi k1
    obtain ⟨c, t, k2, k3⟩ := hi.blk i _ k1
    exact ⟨c, t, by rw [hcell (E.φ i) _ k2 rfl]; exact k2, RelC.move hmv _ _ hsol k3⟩

/-- Behind a round. -/
theorem Good.round (h : Good E1 E) {E3 : Env} (hs : Step E E3) (hi : Inv T E3) (hl : E3.st.length = E.st.length) (hc : allCells E3.st) :
    (∃ E', E'.w = E3.w ∧ E'.st = E3.st ∧ Good E1 E' ∧ Inv T E' ∧ Move E3 E') ∧ KeepsFrom E1.w.heap.size E.w E3.w ∧ ∀ k, E1.stable k → E3.w.heap[k]? = E.w.heap[k]? := by
  refine ⟨?_, ⟨hs.size, fun k o hk ho hn => ?_⟩, fun k hk => ?_⟩
  · let E' : Env := ⟨E3.w, E3.st, E3.φ, fun b => E1.M b ∨ (E1.w.heap.size ≤ b ∧ ∃ o : Obj, E3.w.heap[b]? = some o ∧ o.isCells = false)⟩
    have hM3 : ∀ b, E1.M b → E3.M b := fun b hb => by rw [hs.M]; exact h.M1 b hb
    have hp : ∀ i, i < E.st.length → E3.φ i = E.φ i := by
      intro i hlt
      have hc3 := hs.compat i hlt
      obtain ⟨cs, e⟩ := cells_of_get hc (i := i) (by omega)
      unfold Compat at hc3
      rw [e] at hc3
      exact hc3.2
    have hmv : Move E3 E' := by
      refine ⟨Nat.le_refl _, compat_cells hc hc rfl (fun _ _ => rfl), fun b o v hb hv => ⟨⟨hb.1, ?_⟩, fun _ => rfl⟩⟩
      obtain ⟨ob, k1, k2⟩ := isCells_of_cell hv
      rintro ((hm | ⟨_, o', k3, k4⟩) | hm)
      · exact hb.2 (.inl (hM3 b hm))
      · rw [k1] at k3; cases k3; rw [k2] at k4; cases k4
      · exact hb.2 (.inr hm)
    refine ⟨E', rfl, rfl, ⟨hs.os.trans h.os, hs.tape.trans h.tape, hs.output.trans h.output, Nat.le_trans h.size hs.size, hl.trans h.len, fun i hlt => (hp i (by rw [h.len]; exact hlt)).trans (h.phi i hlt), fun _ => Iff.rfl, ?_, h.cs1, hc⟩, ⟨hi.inj, ?_, ?_, ?_⟩, hmv⟩
    · intro b hb hm
      refine (hs.blk b (Nat.lt_of_lt_of_le hb h.size) ?_).trans (h.blk b hb hm)
      rcases hm with hm | hm
      · exact .inl (h.M1 b hm)
      · exact .inr (h.stable ⟨hb, hm⟩).2
    · intro i bi k1 k2
      have := hi.lt i bi k1 k2
      refine ⟨this.1, ?_⟩
      rintro (hm | ⟨_, o, k3, k4⟩)
      · exact this.2 (hM3 _ hm)
      · obtain ⟨cs, rfl, _⟩ := hc i bi k1
        obtain ⟨c, t, k5, _⟩ := hi.blk i _ k1
        rw [k5] at k3; cases k3; cases k4
    · rintro b (hb | ⟨_, o, k3, _⟩)
      · exact hi.Mlt b (hM3 b hb)
      · exact (Array.getElem?_eq_some_iff.1 k3).1
    · intro i bi k1
      obtain ⟨cs, rfl, hsol⟩ := hc i bi k1
      obtain ⟨c, t, k2, k3⟩ := hi.blk i _ k1
      exact ⟨c, t, k2, RelC.move hmv _ _ hsol k3⟩
  · have hlt := (Array.getElem?_eq_some_iff.1 ho).1
    exact (hs.blk k hlt (.inl (h.M3 k o hk ho hn))).trans ho
  · have := h.stable hk
    exact hs.blk k this.1 (.inr this.2)

/-- Two views of one world. -/
theorem Good.same {EA E : Env} (hA : Good E1 EA) (h : Good E1 E) (hw : E.w = EA.w) : Move EA E where
  len := by rw [h.len, hA.len]; exact Nat.le_refl _
  compat := compat_cells hA.cs h.cs (by rw [h.len, hA.len]) (fun i hi => by rw [hA.len] at hi; rw [h.phi i hi, hA.phi i hi])
  cell := fun b o v hb hv => ⟨⟨by rw [hw]; exact hb.1, by
    rintro (hm | ⟨i, bi, k1, k2, k3⟩)
    · have := (h.M b).1 hm
      rw [hw] at this
      exact hb.2 (.inl ((hA.M b).2 this))
    · have hlt : i < E1.st.length := by rw [← h.len]; exact (List.getElem?_eq_some_iff.1 k1).1
      obtain ⟨cs, e⟩ := cells_of_get hA.cs (i := i) (by rw [hA.len]; exact hlt)
      exact hb.2 (.inr ⟨i, _, e, rfl, by rw [hA.phi i hlt, ← h.phi i hlt]; exact k3⟩)⟩, fun _ => by rw [hw]⟩
end
end Go.Ab
end

section
namespace Go.Ab
open Go.RowKit
variable {T : Tab} {P : Program} (hT : TabOk T P)

theorem Good.start {E1 : Env} (hc : allCells E1.st) : Good E1 E1 where
  os := rfl
  tape := rfl
  output := rfl
  size := Nat.le_refl _
  len := rfl
  phi := fun _ _ => rfl
  M := fun b => ⟨.inl, fun h => h.elim id (fun ⟨hb, o, ho, _⟩ => by have := (Array.getElem?_eq_some_iff.1 ho).1; omega)⟩
  blk := fun _ _ _ => rfl
  cs1 := hc
  cs := hc

/-- Slots that are solid move along. -/
theorem RelS.move {E E' : Env} {n : Nat} {σ : Slots} {a : Act} (h : Move E E') (hs : RelS T E n σ a) (hsol : ∀ i, (σ i).solid) : RelS T E' n σ a :=
  ⟨hs.defers, hs.size, fun i => Rel.move h _ _ (hsol i) (hs.val i)⟩
theorem RelS.forget {E : Env} {n : Nat} {σ σ' : Slots} {a : Act} (hs : RelS T E n σ a) (h : ∀ i, σ' i = .any ∨ σ i = σ' i) : RelS T E n σ' a :=
  ⟨hs.defers, hs.size, fun i => by
    rcases h i with h | h
    · rw [h]; simp only [Rel]
    · rw [← h]; exact hs.val i⟩

theorem behindA_nil (a : Act) : behindA a [] = a := by cases a; simp [behindA]
/-- Two loop variables. -/
def put2 (p q : Tmp) (σ : Slots) (x y : AV) : Slots := (σ.put (some p) x).put (some q) y

include hT in
/-- A RANGE OVER A FUNCTION, TWO LOOP VARIABLES, A BODY WITHOUT JUMPS. -/
theorem rangeRule (hm : P.follows .mixedOrders = true := by kernel_rfl) {α : Type} {g : Operand} {p q : Tmp} {assign body : Code} {Q : Exit → Act → World → Prop} {a : Act} {nt n : Nat} {mu : List Nat} (E1 : Env) (σ0 : Slots)
    (h1 : 1 ≤ n) (hi : Inv T E1) (hc1 : allCells E1.st) (hσ0 : RelS T E1 nt σ0 a) (hsol0 : ∀ i, (σ0 i).solid)
    {gf : Nat} {lb : Array Value} (hg : a.eval g = .func (.func gf) #[] lb) (eg : ∀ args w, (callFunc gf args).run P w = .ok (.enter gf args) w)
    {encs : α → Array Value} (xv yv : α → AV) (hx : ∀ x, ∃ u v, encs x = #[u, v] ∧ Rel T E1 (xv x) u ∧ Rel T E1 (yv x) v ∧ (xv x).solid ∧ (yv x).solid)
    {S Sp : List α → Prop} {N : Nat} (hseq : SeqStopsK (fenceR none) (n - 1) P gf lb encs (fun W W' => ∀ k, E1.stable k → W'.heap[k]? = W.heap[k]?) S Sp N E1.w)
    (hp : p < nt) (hq : q < nt)
    (I : List α → St → Prop) (hI : ∀ pre st, I pre st → allCells st ∧ st.length = E1.st.length) (h0 : I [] E1.st)
    (σA : α → Slots) (hσA : ∀ x i, (σA x i).solid)
    (hra : regOnly assign = true) (hrb : regOnly body = true)
    (hassign : ∀ pre x st, I pre st → vcC T P nt mu [] assign (fun σ' st' => st' = st ∧ ∀ i, σA x i = .any ∨ σ' i = σA x i) (fun _ _ _ => False) (fun _ _ => False) (put2 p q σ0 (xv x) (yv x)) st)
    (hbody : ∀ pre x st, I pre st → pre.length < N → vcC T P nt mu [] body (fun _ st' => I (pre ++ [x]) (cutSt E1.st.length st')) (fun _ _ _ => False) (fun _ _ => False) (σA x) st)
    (hdone : ∀ (D : Nat) (xs : List α) (E : Env), E1.w.heap.size ≤ D → S xs → I xs E.st → Inv T E → Good E1 E → E.w.heap[D]? = some (.deferred (some [])) → Q .normal (behindA a [{ target := .collected D, args := #[] }]) E.w) :
    (Code.rangeFunc g #[p, q] assign body).wpIn (fenceR none) n P Q a E1.w := by
  let I' : List α → World → Prop := fun pre W => ∃ E, E.w = W ∧ I pre E.st ∧ Inv T E ∧ Good E1 E
  let Ax : α → Act → World → Prop := fun x a' W => ∃ E, E.w = W ∧ Inv T E ∧ Good E1 E ∧ RelS T E nt (σA x) a'
  have hown : OwnFrom E1.w.heap.size I' := by
    rintro pre W W' row ⟨E, rfl, k1, k2, k3⟩ hg' hr
    obtain ⟨E', e1, e2, e3, e4, _⟩ := k3.turn k2 hg' hr
    exact ⟨E', e1, by rw [e2]; exact k1, e4, e3⟩
  have hownA : ∀ x a', OwnFrom E1.w.heap.size (fun (_ : Unit) W => Ax x a' W) := by
    rintro x a' _ W W' row ⟨E, rfl, k2, k3, k4⟩ hg' hr
    obtain ⟨E', e1, e2, e3, e4, e5⟩ := k3.turn k2 hg' hr
    exact ⟨E', e1, e4, e3, k4.move e5 (hσA x)⟩
  refine wpIn_rangeFunc_ownH (F := fenceR none) rfl h1 hg trivial eg hseq (fun h k i hi' => (k i hi').trans (h i hi')) ?_ (Below.refl _ _) ?_ I' (fun _ _ _ => False) hown (fun _ _ _ _ _ h _ _ => h) ⟨E1, rfl, h0, hi, Good.start hc1⟩ Ax hownA ?_ ?_ ?_ (fun _ _ _ _ _ _ h _ => h.elim)
  · intro W l o o' hl _ _ _ k hk
    exact World.putObj_heap_other (fun e => by have := hk.1; omega)
  · intro x
    obtain ⟨u, v, e, _⟩ := hx x
    rw [e]; rfl
  · rintro l pre x W K ⟨E, rfl, i1, i2, i3⟩ hK
    obtain ⟨u, v, e, r1, r2, s1, s2⟩ := hx x
    rw [e]
    have hr0 := hσ0.move i3.move hsol0
    have hp' : dstOk nt (some p) := hp
    have hq' : dstOk nt (some q) := hq
    have hr1 := (hr0.put hp' (Rel.move i3.move _ _ s1 r1)).put hq' (Rel.move i3.move _ _ s2 r2)
    have ea : (⟨(a.tmps.setIfInBounds p u).setIfInBounds q v, []⟩ : Act) = behindA ((a.put (some p) u).put (some q) v) [] := by
      rw [behindA_nil]
      have := hσ0.defers
      cases a; simp only [Act.put] at this ⊢; rw [this]
    suffices hh : assign.wpIn (fenceR (some l)) (n - 1 - 1) P (Exit.then K fun _ _ _ => False) (⟨(a.tmps.setIfInBounds p u).setIfInBounds q v, []⟩ : Act) E.w by rw [show (fenceR none).inRound l = fenceR (some l) from rfl]; simpa using hh
    rw [ea]
    refine vcR_sound (r := some l) (ds := []) hT hm assign E _ hra (hassign pre x E.st i1) rfl i2 (Step.refl E) hr1 ?_
    intro E' σ' a' k1 k2 k3 k4
    obtain ⟨k4, k5⟩ := k4
    obtain ⟨hc, hln⟩ := hI _ _ i1
    obtain ⟨⟨E'', e1, e2, e3, e4, e7⟩, e5, e6⟩ := i3.round k2 k1 (by rw [k4]) (by rw [k4]; exact hc)
    show K _ _
    rw [behindA_nil]
    exact hK a' E'.w e5 e6 ⟨E'', e1, by rw [e2, k4]; exact i1, e4, e3⟩ ⟨E'', e1, e4, e3, (k3.forget k5).move e7 (hσA x)⟩
  · rintro l pre x a' W hl _ ⟨E, rfl, i1, i2, i3⟩ ⟨EA, hw, j2, j3, j4⟩ hlen
    obtain ⟨hc, hln⟩ := hI _ _ i1
    have hrel := j4.move (j3.same i3 hw.symm) (hσA x)
    rw [← behindA_nil a']
    refine vcR_sound (r := some l) (ds := []) hT hm body E a' hrb (hbody pre x E.st i1 hlen) rfl i2 (Step.refl E) hrel ?_
    intro E' σ' a'' k1 k2 k3 k4
    have h3 : (E'.cut E.st.length).st.length = E.st.length := by rw [hln]; exact (hI _ _ k4).2
    obtain ⟨⟨E'', e1, e2, e3, e4, _⟩, e5, e6⟩ := i3.round (Env.cut_step k2) (Env.cut_inv (N := E.st.length) k1) h3 (by rw [hln]; exact (hI _ _ k4).1)
    refine ⟨e5, e6, E'', e1, ?_, e4, e3⟩
    rw [e2]
    show I _ (cutSt E.st.length E'.st)
    rw [hln]; exact k4
  · rintro D xs W hD hS ⟨E, rfl, i1, i2, i3⟩ hK
    have := hdone D xs E hD hS i1 i2 i3 hK
    unfold behindA at this
    rwa [hσ0.defers] at this ⊢

theorem mark_kept {E1 E E' : Env} (hg : Good E1 E) (hs : Step E E') {D : Nat} (hD : E1.w.heap.size ≤ D) (hK : E.w.heap[D]? = some (.deferred (some []))) : E'.w.heap[D]? = some (.deferred (some [])) :=
  (hs.blk D (Array.getElem?_eq_some_iff.1 hK).1 (.inl (hg.M3 D _ hD hK rfl))).trans hK

include hT in
/-- The end of a function that has ranged over a function. -/
theorem leaves_range {F : Fence} {n nt : Nat} {fn : Func} {r : AV} {E0 E1 E E' : Env} {D : Nat} {σ' : Slots} {a' : Act} (h01 : Step E0 E1) (h0 : E0.st = []) (hg : Good E1 E) (hs : Step E E') (hi' : Inv T E') (hl : E'.st.length = E.st.length) (hc : allCells E'.st)
    (hD : E1.w.heap.size ≤ D) (hK : E.w.heap[D]? = some (.deferred (some []))) (hr : RelS T E' nt σ' a') (hsol : ∀ i, (σ' i).solid) (hret : retP T fn.results.toList r σ' E'.st) (hpr : r.pure = true) :
    LeavesInM F n P fn (behindA a' [{ target := .collected D, args := #[] }]).tmps (fun e w' => ∃ u, e = .returned u ∧ Below E0.w.heap.size E0.w w' ∧ Rel T ⟨w', [], fun _ => 0, E0.M⟩ r u) (behindA a' [{ target := .collected D, args := #[] }]).defers .returning E'.w := by
  have hK' := mark_kept hg hs hD hK
  have hdef : (behindA a' [{ target := .collected D, args := #[] }]).defers = [{ target := .collected D, args := #[] }] := by simp [behindA, hr.defers]
  rw [hdef]
  obtain ⟨⟨E3, e1, e2, e3, e4, e5⟩, _, _⟩ := hg.round hs hi' hl hc
  obtain ⟨E4, f1, f2, f3, f4, f5⟩ := e3.turn (W' := E'.w.putObj D (.deferred none)) e4 (by rw [e1]; exact grownBy_putObj' E'.w D _) (row := some D) (fun r' e => by cases e; exact ⟨hD, _, by rw [e1]; exact hK', rfl⟩)
  have hr4 : RelS T E4 nt σ' a' := (hr.move e5 hsol).move f5 hsol
  refine ⟨by simp, .inl ⟨D, _, rfl, run_takeDeferred hK', ?_⟩⟩
  have hst : E4.st = E'.st := by rw [f2, e2]
  obtain ⟨u, h1, h2⟩ := run_results (P := P) hT f4 hr4 fn (by rw [hst]; exact hret.1)
  rw [f1] at h1
  refine ⟨u, h1, u, rfl, ?_, ?_⟩
  · rw [← f1]
    refine ⟨f3.os.trans h01.os, f3.tape.trans h01.tape, f3.output.trans h01.output, Nat.le_trans h01.size f3.size, fun k hk => ?_⟩
    have hm0 : E0.M k ∨ ¬ E0.mut k := by
      by_cases hMk : E0.M k
      · exact .inl hMk
      · refine .inr ?_
        rintro (h | ⟨id, blk, h, _⟩)
        · exact hMk h
        · rw [h0] at h; simp at h
    refine (f3.blk k (Nat.lt_of_lt_of_le hk h01.size) ?_).trans (h01.blk k hk hm0)
    rcases hm0 with hm | hm
    · exact .inl (by rw [h01.M]; exact hm)
    · exact .inr (h01.stab k ⟨hk, hm⟩).2
  · rw [hst] at h2
    have h3 := rel_frz f4 _ u (by rw [hst]; exact leV_pure _ _ hret.2 hpr) h2
    rw [hst] at h3
    have h4 := leV_rel _ _ _ hret.2 h3
    refine Rel.pureTo (E := E4.bare) (F := ⟨E'.w.putObj D (.deferred none), [], fun _ => 0, E0.M⟩) (by rw [← f1]; rfl) (fun b hb => ⟨by rw [← f1]; exact hb.1, fun hm => hb.2 ?_⟩) r u hpr h4
    rcases hm with hm | ⟨id, blk, k1, _⟩
    · exact .inl (f3.M1 b (by rw [h01.M]; exact hm))
    · simp at k1
end Go.Ab
end

section
namespace Go.Ab
open Go.RowKit
/-- Right behind. -/
def directB (o : Oper) (j : Nat) : Bool := o.after.toList.any fun e => e.on == j && Region.binds .any e
theorem reach_of_direct {ops : Array Oper} {f k j : Nat} {o : Oper} (ho : ops[k]? = some o) (h : directB o j = true) : reachB ops (f + 1) k j = true := by
  unfold reachB
  rw [ho]
  unfold directB at h
  simp only [List.any_eq_true, Bool.and_eq_true] at h ⊢
  obtain ⟨e, he, h1, h2⟩ := h
  exact ⟨e, he, h2, by rw [h1]; rfl⟩

/-- All that it waits for comes before k. -/
def depsB (o : Oper) (k : Nat) : Bool := o.after.all fun e => !Region.binds .any e || decide (e.on < k)
def ready3 (ops : Array Oper) (k : Nat) : List Nat := (List.range ops.size).filter fun i => !decide (i < k) && ((ops[i]?).map (depsB · k)).getD false
def free3B (ops : Array Oper) (im : List Nat) (f : Nat) (j : Nat) : Bool :=
  match ops[j]? with
  | some oj => (List.range ops.size).all fun k => decide (k ≤ j) || ((match ops[k]? with | some ok => directB ok j || (oj.apart ops ok && (isQuiet ok || im.contains k)) | none => true) || reachB ops f k j)
  | none => false
/-- The first k are listed. -/
def FirstK (ops : Array Oper) (k : Nat) (listed : Array Bool) : Prop := listed.size = ops.size ∧ k ≤ ops.size ∧ ∀ i, i < ops.size → listed[i]? = some (decide (i < k))
theorem FirstK.getD {ops : Array Oper} {k : Nat} {listed : Array Bool} (h : FirstK ops k listed) {i : Nat} (hi : i < ops.size) (d : Bool) : listed.getD i d = decide (i < k) := by
  have := h.2.2 i hi
  rw [Array.getD_eq_getD_getElem?, this]; rfl
theorem FirstK.dep {ops : Array Oper} {k : Nat} {listed : Array Bool} (h : FirstK ops k listed) (i : Nat) : listed.getD i false = decide (i < k) := by
  rcases Nat.lt_or_ge i ops.size with hi | hi
  · exact h.getD hi _
  · rw [Array.getD_eq_getD_getElem?, Array.getElem?_eq_none (by rw [h.1]; exact hi)]
    have := h.2.1
    simp; omega
theorem FirstK.next {ops : Array Oper} {k : Nat} {listed : Array Bool} (h : FirstK ops k listed) (hk : k < ops.size) : FirstK ops (k + 1) (listed.setIfInBounds k true) := by
  refine ⟨by simp [h.1], hk, fun i hi => ?_⟩
  by_cases e : k = i
  · subst e; rw [Array.getElem?_setIfInBounds_self_of_lt (by rw [h.1]; exact hi)]; simp
  · rw [Array.getElem?_setIfInBounds_ne e, h.2.2 i hi]
    congr 1
    apply decide_eq_decide.2
    omega
theorem ready_of3 {ops : Array Oper} {k : Nat} {listed : Array Bool} (h : FirstK ops k listed) : Region.ready .any ops listed = ready3 ops k := by
  unfold Region.ready ready3
  refine List.filter_congr fun i hi => ?_
  rw [h.getD (List.mem_range.1 hi)]
  congr 2
  cases ops[i]? with
  | none => rfl
  | some o => simp only [Option.map_some, depsB, h.dep]
theorem free2_of3 {ops : Array Oper} {im : List Nat} {f j : Nat} {listed : Array Bool} (hl : FirstK ops j listed) (h : free3B ops im (f + 1) j = true) : free2B ops im (f + 1) j listed = true := by
  unfold free3B at h
  unfold free2B
  split at h
  · rename_i oj hj
    try rw [hj]
    try dsimp only
    rw [List.all_eq_true] at h ⊢
    intro k hk
    have := h k hk
    simp only [Bool.or_eq_true, decide_eq_true_eq] at this ⊢
    rcases this with h1 | h1 | h1
    · rcases Nat.lt_or_ge k j with h2 | h2
      · refine .inl (.inl (.inr ?_))
        rw [hl.getD (List.mem_range.1 hk)]; simpa using h2
      · exact .inl (.inl (.inl (by simp; omega)))
    · cases ho : ops[k]? with
      | none => exact .inr rfl
      | some ok =>
        simp only [ho, Bool.or_eq_true] at h1
        rcases h1 with h1 | h1
        · exact .inl (.inr (reach_of_direct ho h1))
        · exact .inr h1
    · exact .inl (.inr h1)
  · cases h
def lexFrom3 (ops : Array Oper) (im : List Nat) : Nat → Nat → Bool
  | 0, k => (ready3 ops k).isEmpty
  | fuel + 1, k =>
    (match ops[k]? with
    | some o => if isQuiet o && !im.contains k then depsB o k && free3B ops im ops.size k && (!looseL ops im k || o.dst.isSome) else ready3 ops k == [k]
    | none => false) && lexFrom3 ops im fuel (k + 1)
theorem lexFrom2_of3 {ops : Array Oper} {im : List Nat} : ∀ (fuel k : Nat) (listed : Array Bool), FirstK ops k listed → lexFrom3 ops im fuel k = true → lexFrom2 ops im fuel k listed = true
  | 0, k, listed, hl, h => by
    unfold lexFrom3 at h
    unfold lexFrom2
    rw [ready_of3 hl]; exact h
  | fuel + 1, k, listed, hl, h => by
    unfold lexFrom3 at h
    unfold lexFrom2
    rw [Bool.and_eq_true] at h ⊢
    have h1 := h.1
    split at h1
    · rename_i o ho
      have hlt := (Array.getElem?_eq_some_iff.1 ho).1
      refine ⟨?_, lexFrom2_of3 fuel _ _ (hl.next hlt) h.2⟩
      try rw [ho]
      try dsimp only
      obtain ⟨f, hf⟩ : ∃ f, ops.size = f + 1 := ⟨ops.size - 1, by omega⟩
      split at h1
      · rename_i hq
        rw [if_pos hq]
        simp only [Bool.and_eq_true] at h1 ⊢
        refine ⟨⟨?_, ?_⟩, h1.2⟩
        · rw [ready_of3 hl]
          unfold ready3
          rw [List.contains_iff_mem, List.mem_filter]
          refine ⟨List.mem_range.2 hlt, ?_⟩
          rw [ho]
          simp [h1.1.1]
        · have := h1.1.2
          rw [hf] at this ⊢
          exact free2_of3 hl this
      · rename_i hq
        rw [if_neg hq, ready_of3 hl]
        exact h1
    · cases h1
def lexB3 (ops : Array Oper) (im : List Nat) : Bool := lexFrom3 ops im ops.size 0
def drawsOk3 (im : List (Nat × Nat)) : Code → Bool
  | .region id ops draw => !draw || (if ordAll im id = [] then lexB3 ops (imAll im id) else lexBO ops (imAll im id) (ordAll im id))
  | .seq a b => drawsOk3 im a && drawsOk3 im b
  | .cond _ x y => drawsOk3 im x && drawsOk3 im y
  | .block _ c => drawsOk3 im c
  | .loop c => drawsOk3 im c
  | _ => true
theorem drawsOk_of3 {im : List (Nat × Nat)} : ∀ {c : Code}, drawsOk3 im c = true → drawsOk im c = true
  | .region _ ops draw, h => by
    simp only [drawsOk3, Bool.or_eq_true] at h
    simp only [drawsOk, Bool.or_eq_true]
    refine h.imp id fun h => ?_
    split
    · rename_i ho
      rw [if_pos ho] at h
      exact lexFrom2_of3 _ _ _ ⟨by simp, Nat.zero_le _, fun i hi => by simp [hi]⟩ h
    · rename_i ho
      rw [if_neg ho] at h
      exact h
  | .seq a b, h => by
    simp only [drawsOk3, Bool.and_eq_true] at h
    simp only [drawsOk, Bool.and_eq_true]
    exact ⟨drawsOk_of3 h.1, drawsOk_of3 h.2⟩
  | .cond _ a b, h => by
    simp only [drawsOk3, Bool.and_eq_true] at h
    simp only [drawsOk, Bool.and_eq_true]
    exact ⟨drawsOk_of3 h.1, drawsOk_of3 h.2⟩
  | .block _ c, h => by
    simp only [drawsOk3] at h
    simp only [drawsOk]
    exact drawsOk_of3 h
  | .loop c, h => by
    simp only [drawsOk3] at h
    simp only [drawsOk]
    exact drawsOk_of3 h
  | .skip, _ => rfl
  | .exit _, _ => rfl
  | .ret, _ => rfl
  | .label _, _ => rfl
  | .goto _, _ => rfl
  | .rangeFunc _ _ _ _, _ => rfl
  | .scope _, _ => rfl
  | .refuse _, _ => rfl
end Go.Ab
namespace Go.Ab
section
variable {T : Tab} {P : Program} {n : Nat} {ops : Array Oper} {R : AV → St → Prop} {k : Slots → St → Prop} {σ : Slots} {st : St}
/-- One operation of a long region, what comes behind it kept out of sight. -/
theorem vcLex_step {i : Nat} {o : Oper} {os : List Oper} (h : ∀ K : Slots → St → Prop, (∀ σ' st', vcLex T P n ops none R (i + 1) os k σ' st' → K σ' st') → vcOp T P n [] ops false o K σ st) : vcLex T P n ops none R i (o :: os) k σ st := by
  rw [vcLex_cons]; exact h _ fun _ _ h => h
end
end Go.Ab
namespace Go.Ab
section
variable {T : Tab} {P : Program} {n : Nat} {mu : List Nat} {ops : Array Oper} {im : List Nat} {k : Slots → St → Prop} {σ : Slots} {st : St}
/-- One operation of a long region that is carried out in its order. -/
theorem vcOps2_step {i : Nat} {o o2 : Oper} {os : List Oper} (ho : onceOf mu o o2 = none) (h : ∀ K : Slots → St → Prop, (∀ σ' st', vcOps2 T P n mu ops im (i + 1) (o2 :: os) k σ' st' → K σ' st') → vcOne T P n mu ops im i o K σ st) : vcOps2 T P n mu ops im i (o :: o2 :: os) k σ st := by
  rw [vcOps2_cons]; simp only [ho]; exact h _ fun _ _ h => h
end
end Go.Ab
end

section
namespace Go.Ab
open Go.RowKit
section
variable {T : Tab} {P : Program}
/-- What is handed back, with all that was made left in place. -/
def endU (T : Tab) (rs : List ResultVar) (Q : AV → St → Prop) (σ : Slots) (st : St) : Prop := allP (resOk T σ st) rs ∧ ∃ r, leV (retV T rs σ st) r ∧ Q r st
theorem endU_mk {rs : List ResultVar} {Q : AV → St → Prop} {σ : Slots} {st : St} (r : AV) (h1 : allP (resOk T σ st) rs) (h2 : leV (retV T rs σ st) r) (h3 : Q r st) : endU T rs Q σ st := ⟨h1, r, h2, h3⟩
/-- The contract of a function that may write; what it makes stays its caller's to write into. -/
theorem ICall.of_vcU (hT : TabOk T P) {f : FuncId} {fn : Func} {c : Code} {args : List AV} {st : St} {Q : AV → St → Prop} (mu : List Nat) (im : List (Nat × Nat)) (hm : P.follows .mixedOrders = true) (henter : ∀ (as : Array Value) (w : World), (callFunc f as).run P w = .ok (.enter f as) w)
    (hf : P.funcs[f]? = some fn) (hb : fn.body = some c) (hdr : drawsOk im c = true)
    (h : Fix st → vcC T P fn.ntmps mu im c (endU T fn.results.toList Q) (fun _ _ _ => False) (endU T fn.results.toList Q) (slots0 args) st) : ICall T P f args st Q := by
  refine ⟨henter, fun E0 vs hst hi0 hr => ?_⟩
  subst hst
  refine calls_of_wp hf hb ?_
  refine wp_mono (vcC_sound (E0 := E0) hT hm c hdr (h (fix_of_inv hi0)) E0 _ rfl hi0 (Step.refl _) (slots0_rel hr _)) ?_
  have fin : ∀ (E' : Env) (σ' : Slots) (a' : Act), Inv T E' → Step E0 E' → RelS T E' fn.ntmps σ' a' → endU T fn.results.toList Q σ' E'.st →
      a'.defers = [] ∧ ∃ v, (results fn a'.tmps).run P E'.w = .ok v E'.w ∧ ∃ v' r E'', Ending.returned v = .returned v' ∧ E''.w = E'.w ∧ Inv T E'' ∧ Step E0 E'' ∧ Rel T E'' r v' ∧ Q r E''.st := by
    intro E' σ' a' k1 k2 k3 k4
    obtain ⟨u, h1, h2⟩ := run_results (P := P) hT k1 k3 fn k4.1
    obtain ⟨r, h3, h4⟩ := k4.2
    exact ⟨k3.defers, u, h1, u, r, E', rfl, rfl, k1, k2, leV_rel _ _ _ h3 h2, h4⟩
  rintro e a' w' ⟨E', σ', rfl, k2, k3, k4, k5⟩
  cases e with
  | normal => exact fin E' σ' a' k2 k3 k4 k5
  | ret => exact fin E' σ' a' k2 k3 k4 k5
  | exit id => exact k5.elim
  | goto l => exact k5.elim
  | panic ch => exact k5.elim
  | outgrown => exact k5.elim
/-- Nothing handed back is an empty row of one's own. -/
theorem ICall.ownR {f : FuncId} {args : List AV} {st : St} {Q Q' : AV → St → Prop} (e : TypeId) (h : ICall T P f args st Q)
    (hq : ∀ r st', Q r st' → Q' r st' ∨ (r = .nils ∧ Q' (.own st'.length 0) (st' ++ [.row e 0 false []]))) : ICall T P f args st Q' := by
  refine ⟨h.1, fun E vs hst hi hr => (h.2 E vs hst hi hr).mono ?_⟩
  rintro en w' ⟨v, r, E', rfl, rfl, k1, k2, k3, k4⟩
  rcases hq r _ k4 with h1 | ⟨rfl, h1⟩
  · exact ⟨v, r, E', rfl, rfl, k1, k2, k3, h1⟩
  · obtain ⟨s1, s2, s3⟩ := Env.adopt k1 e
    exact ⟨v, _, { E' with st := E'.st ++ [.row e 0 false []] }, rfl, rfl, s2, k2.trans s1, s3 v (by simpa only [Rel] using k3), h1⟩
/-- What was made is kept no more: it reads as lists. -/
theorem ICall.cutR {f : FuncId} {args : List AV} {st : St} {Q : AV → St → Prop} (h : ICall T P f args st Q) :
    ICall T P f args st (fun r st' => ∃ r0 st0, Q r0 st0 ∧ r = r0.cut st.length st0 ∧ st' = cutSt st.length st0) := by
  refine ⟨h.1, fun E vs hst hi hr => ?_⟩
  subst hst
  refine (h.2 E vs rfl hi hr).mono ?_
  rintro en w' ⟨v, r, E', rfl, rfl, k1, k2, k3, k4⟩
  exact ⟨v, _, E'.cut E.st.length, rfl, rfl, Env.cut_inv k1, Env.cut_step k2, cut_rel k1 _ _ k3, r, E'.st, k4, rfl, rfl⟩
end
attribute [simp] endU
end Go.Ab
end

section
namespace Go.Ab
open Go.RowKit
/-- The first blocks are as they were. -/
structure Keeps (N : Nat) (E F : Env) : Prop where
  w : F.w = E.w
  M : F.M = E.M
  stab : ∀ b, E.stable b → F.stable b
  get : ∀ i, i < N → F.st[i]? = E.st[i]?
  phi : ∀ i, i < N → F.φ i = E.φ i
  len : N ≤ F.st.length
section
variable {T : Tab} {E F : Env} {N : Nat}
mutual
theorem keep_rel (k : Keeps N E F) : ∀ (x : AV) (u : Value), x.cut N E.st = x → Rel T E x u → Rel T F x u
  | .own id g, u, hc, h => by
    simp only [AV.cut] at hc
    have hlt : id < N := by
      by_cases h1 : id < N
      · exact h1
      · rw [if_neg h1] at hc
        split at hc
        · split at hc <;> cases hc
        · cases hc
    simp only [Rel] at h ⊢
    refine ⟨Nat.lt_of_lt_of_le hlt k.len, fun e g' al l hb => ?_⟩
    rw [k.get id hlt] at hb
    rw [k.phi id hlt, k.w]
    exact h.2 e g' al l hb
  | .ptr id off, u, hc, h => by
    simp only [AV.cut] at hc
    have hlt : id < N := by
      by_cases h1 : id < N
      · exact h1
      · rw [if_neg h1] at hc; cases hc
    simp only [Rel] at h ⊢
    refine ⟨Nat.lt_of_lt_of_le hlt k.len, fun cs hb => ?_⟩
    rw [k.get id hlt] at hb
    rw [k.phi id hlt]
    exact h.2 cs hb
  | .rptr id g i f, u, hc, h => by
    simp only [AV.cut] at hc
    have hlt : id < N := by
      by_cases h1 : id < N
      · exact h1
      · rw [if_neg h1] at hc; cases hc
    simp only [Rel] at h ⊢
    refine ⟨Nat.lt_of_lt_of_le hlt k.len, fun e g' al l hb => ?_⟩
    rw [k.get id hlt] at hb
    rw [k.phi id hlt]
    exact h.2 e g' al l hb
  | .sub id g i f, u, hc, h => by
    simp only [AV.cut] at hc
    have hlt : id < N := by
      by_cases h1 : id < N
      · exact h1
      · rw [if_neg h1] at hc; cases hc
    simp only [Rel] at h ⊢
    refine ⟨Nat.lt_of_lt_of_le hlt k.len, fun e g' al l hb => ?_⟩
    rw [k.get id hlt] at hb
    rw [k.phi id hlt]
    exact h.2 e g' al l hb
  | .mp id, u, hc, h => by
    simp only [AV.cut] at hc
    have hlt : id < N := by
      by_cases h1 : id < N
      · exact h1
      · rw [if_neg h1] at hc; cases hc
    simp only [Rel] at h ⊢
    refine ⟨Nat.lt_of_lt_of_le hlt k.len, fun cs hb => ?_⟩
    rw [k.get id hlt] at hb
    rw [k.phi id hlt]
    exact h.2 cs hb
  | .agg cs, u, hc, h => by
    simp only [AV.cut, AV.agg.injEq] at hc
    simp only [Rel] at h ⊢
    obtain ⟨vs, h1, h2⟩ := h
    exact ⟨vs, h1, keepC_rel k cs vs hc h2⟩
  | .tup cs, u, hc, h => by
    simp only [AV.cut, AV.tup.injEq] at hc
    simp only [Rel] at h ⊢
    obtain ⟨vs, h1, h2⟩ := h
    exact ⟨vs, h1, keepL_rel k cs vs hc h2⟩
  | .lst e l, u, hc, h => by
    simp only [AV.cut, AV.lst.injEq, true_and] at hc
    simp only [Rel] at h ⊢
    obtain ⟨h1, h2, a, cap, h3, hcp, h4⟩ := h
    refine ⟨h1, h2, a, cap, h3, hcp, ?_⟩
    rcases h4 with h4 | ⟨b, o, h4, h5, h6⟩
    · exact .inl h4
    · exact .inr ⟨b, o, h4, k.stab b h5, keepM_rel k b _ l o hc h6⟩
  | .eptr cs, u, hc, h => by
    simp only [AV.cut, AV.eptr.injEq] at hc
    simp only [Rel] at h ⊢
    obtain ⟨b, o, h1, h2, h3⟩ := h
    exact ⟨b, o, h1, k.stab b h2, keepX_rel k b cs o hc h3⟩
  | .fn f fs cs, u, hc, h => by
    simp only [AV.cut, AV.fn.injEq, true_and] at hc
    simp only [Rel] at h ⊢
    obtain ⟨vs, ws, h1, h2, h3⟩ := h
    exact ⟨vs, ws, h1, keepL_rel k fs vs hc.1 h2, keepL_rel k cs ws hc.2 h3⟩
  | .gate c x, u, hc, h => by
    simp only [Rel] at h ⊢
    cases c with
    | false => exact ⟨fun hc => (by cases hc), h.2⟩
    | true =>
      simp only [AV.cut, AV.gate.injEq, true_and] at hc
      exact ⟨fun _ => keep_rel k x u hc (h.1 rfl), fun hc => (by cases hc)⟩
  | .sc v, u, _, h => by simpa only [Rel] using h
  | .nils, u, _, h => by simpa only [Rel] using h
  | .any, u, _, h => by simp only [Rel]
theorem keepL_rel (k : Keeps N E F) : ∀ (xs : List AV) (vs : List Value), AV.cutL N E.st xs = xs → RelL T E xs vs → RelL T F xs vs
  | [], vs, _, h => by simpa only [RelL] using h
  | x :: xs, vs, hc, h => by
    simp only [AV.cutL, List.cons.injEq] at hc
    simp only [RelL] at h ⊢
    obtain ⟨v, r, h1, h2, h3⟩ := h
    exact ⟨v, r, h1, keep_rel k x v hc.1 h2, keepL_rel k xs r hc.2 h3⟩
theorem keepC_rel (k : Keeps N E F) : ∀ (xs : List AV) (vs : List Value), AV.cutL N E.st xs = xs → RelC T E xs vs → RelC T F xs vs
  | [], vs, _, h => by simpa only [RelC] using h
  | x :: xs, vs, hc, h => by
    simp only [AV.cutL, List.cons.injEq] at hc
    simp only [RelC] at h ⊢
    obtain ⟨v, r, h1, h2, h4, h3⟩ := h
    exact ⟨v, r, h1, keep_rel k x v hc.1 h2, h4, keepC_rel k xs r hc.2 h3⟩
theorem keepX_rel (k : Keeps N E F) (b : Nat) : ∀ (xs : List AV) (o : Nat), AV.cutL N E.st xs = xs → RelX T E b o xs → RelX T F b o xs
  | [], o, _, h => by simp only [RelX]
  | x :: xs, o, hc, h => by
    simp only [AV.cutL, List.cons.injEq] at hc
    simp only [RelX] at h ⊢
    obtain ⟨⟨v, h1, h2, h4⟩, h3⟩ := h
    exact ⟨⟨v, by rw [k.w]; exact h1, keep_rel k x v hc.1 h2, h4⟩, keepX_rel k b xs _ hc.2 h3⟩
theorem keepM_rel (k : Keeps N E F) (b q : Nat) : ∀ (xs : List (List AV)) (o : Nat), AV.cutM N E.st xs = xs → RelM T E b q o xs → RelM T F b q o xs
  | [], o, _, h => by simp only [RelM]
  | x :: xs, o, hc, h => by
    simp only [AV.cutM, List.cons.injEq] at hc
    simp only [RelM] at h ⊢
    exact ⟨h.1, keepX_rel k b x o hc.1 h.2.1, keepM_rel k b q xs _ hc.2 h.2.2⟩
end
theorem keepB_rel (k : Keeps N E F) {i : Nat} (hi : i < N) (b : Blk) (hc : b.cut N E.st = b) (h : RelB T E i b) : RelB T F i b := by
  cases b with
  | cells cs =>
    simp only [Blk.cut, Blk.cells.injEq] at hc
    obtain ⟨c, t, q1, q2⟩ := h
    exact ⟨c, t, by rw [k.phi i hi, k.w]; exact q1, keepC_rel k _ _ hc q2⟩
  | row e g al l =>
    simp only [Blk.cut, Blk.row.injEq, true_and] at hc
    obtain ⟨q0, q1, q2⟩ := h
    refine ⟨q0, q1, fun ha => ?_⟩
    obtain ⟨c, cap, p1, p2, p3, p4, p5⟩ := q2 ha
    refine ⟨c, cap, by rw [k.phi i hi, k.w]; exact p1, p2, p3, p4, ?_⟩
    rw [k.phi i hi]
    exact keepM_rel k _ _ _ _ hc p5
  | map es =>
    simp only [Blk.cut, Blk.map.injEq] at hc
    obtain ⟨mes, clock, q1, q2, q3⟩ := h
    refine ⟨mes, clock, by rw [k.phi i hi, k.w]; exact q1, q2, keepL_rel k _ _ ?_ q3⟩
    have := congrArg (List.map (·.2)) hc
    rw [List.map_map] at this
    rw [AV.cutL_map, List.map_map]
    exact this
  | dead => trivial
/-- What is left: the first blocks, and one row of one's own. -/
theorem Env.renum {E0 E : Env} (hs : Step E0 E) (hi : Inv T E) {id g : Nat} {e : TypeId} {al : Bool} {l : List (List AV)} (hN : E0.st.length ≤ id) (hb : E.st[id]? = some (.row e g al l)) (hp : AV.pureM l = true) (hcut : cutSt E0.st.length E.st = E0.st)
    (hpre : E.st.take E0.st.length = E0.st) {u : Value} (hu : Rel T E (.own id g) u) :
    ∃ E', E'.w = E.w ∧ Inv T E' ∧ Step E0 E' ∧ E'.st = E0.st ++ [.row e 0 al l] ∧ Rel T E' (.own E0.st.length 0) u := by
  have hidl : id < E.st.length := (List.getElem?_eq_some_iff.1 hb).1
  have hget : ∀ i, i < E0.st.length → (E0.st ++ [Blk.row e 0 al l])[i]? = E.st[i]? := fun i hi => by
    rw [List.getElem?_append_left hi]
    conv => lhs; rw [← hpre]
    rw [List.getElem?_take_of_lt hi]
  have hmut : ∀ b, (⟨E.w, E0.st ++ [.row e 0 al l], fun i => if i = E0.st.length then E.φ id else E.φ i, E.M⟩ : Env).mut b → E.mut b := by
    rintro b (h | ⟨i, bi, h1, h2, h3⟩)
    · exact .inl h
    · dsimp only at h1 h3
      by_cases hi' : i < E0.st.length
      · rw [hget i hi'] at h1
        rw [if_neg (by omega)] at h3
        exact .inr ⟨i, bi, h1, h2, h3⟩
      · have hlt : i < (E0.st ++ [Blk.row e 0 al l]).length := (List.getElem?_eq_some_iff.1 h1).1
        simp at hlt
        obtain rfl : i = E0.st.length := by omega
        rw [if_pos rfl] at h3
        simp at h1
        subst h1
        exact .inr ⟨id, _, hb, h2, h3⟩
  have hk : Keeps E0.st.length E ⟨E.w, E0.st ++ [.row e 0 al l], fun i => if i = E0.st.length then E.φ id else E.φ i, E.M⟩ :=
    ⟨rfl, rfl, fun b hb => ⟨hb.1, fun hm => hb.2 (hmut b hm)⟩, hget, fun i hi => if_neg (by omega), by simp⟩
  have hlast : ∀ i bi, (E0.st ++ [Blk.row e 0 al l])[i]? = some bi → i < E0.st.length ∨ (i = E0.st.length ∧ bi = .row e 0 al l) := by
    intro i bi h
    rcases Nat.lt_or_ge i E0.st.length with h1 | h1
    · exact .inl h1
    · have h2 : i < (E0.st ++ [Blk.row e 0 al l]).length := (List.getElem?_eq_some_iff.1 h).1
      simp at h2
      obtain rfl : i = E0.st.length := by omega
      simp at h
      exact .inr ⟨rfl, h.symm⟩
  have hblk := hi.blk id _ hb
  refine ⟨⟨E.w, E0.st ++ [.row e 0 al l], fun i => if i = E0.st.length then E.φ id else E.φ i, E.M⟩, rfl, ⟨?_, ?_, hi.Mlt, ?_⟩, ⟨hs.os, hs.tape, hs.output, hs.size, by simp, hs.M, hs.blk, fun b hb => hk.stab b (hs.stab b hb), ?_⟩, rfl, ?_⟩
  · intro i j bi bj h1 h2 l1 l2 h3
    dsimp only at h1 h2 h3
    rcases hlast i bi h1 with a | ⟨a, a'⟩
    · rw [hget i a] at h1
      rw [if_neg (by omega)] at h3
      rcases hlast j bj h2 with b | ⟨b, b'⟩
      · rw [hget j b] at h2
        rw [if_neg (by omega)] at h3
        exact hi.inj i j _ _ h1 h2 l1 l2 h3
      · rw [if_pos b] at h3
        subst b'
        have := hi.inj i id _ _ h1 hb l1 l2 h3
        omega
    · rw [if_pos a] at h3
      subst a'
      rcases hlast j bj h2 with b | ⟨b, b'⟩
      · rw [hget j b] at h2
        rw [if_neg (by omega)] at h3
        have := hi.inj id j _ _ hb h2 l1 l2 h3
        omega
      · omega
  · intro i bi h1 l1
    dsimp only at h1 ⊢
    rcases hlast i bi h1 with a | ⟨a, a'⟩
    · rw [hget i a] at h1
      rw [if_neg (by omega)]
      exact hi.lt i bi h1 l1
    · rw [if_pos a]
      subst a'
      exact hi.lt id _ hb l1
  · intro i bi h1
    dsimp only at h1
    rcases hlast i bi h1 with a | ⟨a, a'⟩
    · have h1' := h1
      rw [hget i a] at h1
      refine keepB_rel hk a bi ?_ (hi.blk i bi h1)
      have : (cutSt E0.st.length E.st)[i]? = some (bi.cut E0.st.length E.st) := by
        unfold cutSt
        rw [List.getElem?_map, List.getElem?_take_of_lt a, h1]; rfl
      rw [hcut] at this
      rw [List.getElem?_append_left a] at h1'
      rw [this] at h1'
      exact Option.some.inj h1'
    · subst a' a
      obtain ⟨q0, q1, q2⟩ := hblk
      refine ⟨q0, q1, fun ha => ?_⟩
      obtain ⟨c, cap, p1, p2, p3, p4, p5⟩ := q2 ha
      refine ⟨c, cap, by dsimp only; rw [if_pos rfl]; exact p1, p2, p3, p4, ?_⟩
      dsimp only; rw [if_pos rfl]
      exact RelM.pureTo (E := E) (F := ⟨E.w, E0.st ++ [.row e 0 al l], fun i => if i = E0.st.length then E.φ id else E.φ i, E.M⟩) rfl hk.stab _ _ _ _ hp p5
  · intro i hi0
    have hc := hs.compat i hi0
    unfold Compat at hc ⊢
    dsimp only
    rw [hget i hi0]
    rw [if_neg (by omega)]
    exact hc
  · simp only [Rel] at hu ⊢
    refine ⟨by simp, fun e' g' al' l' h4 => ?_⟩
    simp at h4
    obtain ⟨rfl, rfl, rfl, rfl⟩ := h4
    obtain ⟨m1, m2⟩ := (hu.2 _ _ _ _ hb).2 rfl
    refine ⟨Nat.le_refl _, fun _ => ⟨fun ha => ?_, m2⟩⟩
    obtain ⟨cap, c, e1, e2, e3⟩ := m1 ha
    exact ⟨cap, c, by rw [if_pos trivial]; exact e1, by rw [if_pos trivial]; exact e2, e3⟩
end
section
variable {T : Tab} {P : Program} {f : FuncId} {args : List AV} {st : St} {Q : AV → St → Prop}
/-- A row of one's own is handed back; all else that was made is forgotten. -/
theorem ICall.renum {e : TypeId} {al : Bool} {l : List (List AV)} (hp : AV.pureM l = true) (h : ICall T P f args st Q)
    (hq : ∀ r st', Q r st' → ∃ id g, st.length ≤ id ∧ r = .own id g ∧ st'[id]? = some (.row e g al l) ∧ st'.take st.length = st) :
    ICall T P f args st (fun r st' => r = .own st.length 0 ∧ st' = st ++ [.row e 0 al l]) := by
  refine ⟨h.1, fun E vs hst hi hr => (h.2 E vs hst hi hr).mono ?_⟩
  subst hst
  rintro en w' ⟨v, r, E', rfl, rfl, k1, k2, k3, k4⟩
  obtain ⟨id, g, q1, rfl, q3, q4⟩ := hq _ _ k4
  have hfix := fix_of_inv hi
  obtain ⟨E2, e1, e2, e3, e4, e5⟩ := Env.renum k2 k1 q1 q3 hp (by unfold cutSt; rw [q4]; exact hfix _ _ (Nat.le_refl _)) q4 k3
  exact ⟨v, _, E2, rfl, e1, e2, e3, e5, rfl, e4⟩
end
end Go.Ab
namespace Go.Ab
section
variable {T : Tab} {P : Program} {f : FuncId} {args : List AV} {st : St}
/-- A call that only makes new memory, in its place. -/
theorem ICall.of_pure {r : AV} (h : PureCall T P f args r) (st : St) : ICall T P f args st (fun r' st' => r' = r ∧ st' = st) := by
  refine ⟨h.enter, fun E vs hst hi hr => ?_⟩
  refine (h.call E.w E.mut _ (fun b hb => ?_) (RelL.pureTo (E := E) (F := ⟨E.w, [], fun _ => 0, E.mut⟩) rfl (fun b hb => (Env.stable_of_mut E E.w b).2 hb) _ _ h.pa hr)).mono ?_
  · rcases hb with hb | ⟨id, blk, k1, k2, k3⟩
    · exact hi.Mlt b hb
    · rw [← k3]; exact (hi.lt id blk k1 k2).1
  · rintro e w' ⟨u, k1, k2, k3⟩
    obtain ⟨s1, s2⟩ := Env.ext_below hi k2
    refine ⟨u, r, { E with w := w' }, k1, rfl, s2, s1, ?_, rfl, hst⟩
    exact Rel.pureTo (E := ⟨w', [], fun _ => 0, E.mut⟩) (F := { E with w := w' }) rfl (fun b hb => ⟨hb.1, fun hm => hb.2 (.inl hm)⟩) _ _ h.pr k3
/-- A row of one's own, handed over for good: it is written no more. -/
theorem ICall.freeze {pre post : List AV} {id g : Nat} {e : TypeId} {al : Bool} {l : List (List AV)} {Q : AV → St → Prop} (hst : st[id]? = some (.row e g al l)) (h : ICall T P f (pre ++ .lst e l :: post) (st.set id .dead) Q) :
    ICall T P f (pre ++ .own id g :: post) st Q := by
  refine ⟨h.1, fun E vs hs hi hr => ?_⟩
  subst hs
  have hidlt : id < E.st.length := (List.getElem?_eq_some_iff.1 hst).1
  have hup := Env.upd (T := T) (E := E) (b' := E.φ id) (blk' := .dead) (w' := E.w) hi hst rfl rfl rfl (Nat.le_refl _) (fun _ _ _ => rfl) (.inr (.inr rfl)) (by
    unfold Compat
    dsimp only
    rw [List.getElem?_set_self hidlt]
    trivial)
  have hinv := hup.2 trivial
  have hval : ∀ v, Rel T E (.own id g) v → Rel T ⟨E.w, E.st.set id .dead, fun i => if i = id then E.φ id else E.φ i, E.M⟩ (.lst e l) v := by
    intro v hv
    simp only [Rel] at hv ⊢
    obtain ⟨_, hv⟩ := hv
    obtain ⟨_, hv⟩ := hv e g al l hst
    obtain ⟨hv1, hv2⟩ := hv rfl
    obtain ⟨hb0, hb1, hb2⟩ := hi.blk id _ hst
    cases al with
    | false =>
      obtain ⟨x, hx⟩ := hv2 rfl
      have hl := hb1 rfl
      subst hl
      exact ⟨by simp, by simp, x, 0, by simpa using hx, by simp, .inl rfl⟩
    | true =>
      obtain ⟨cap, c', e1, e2, e3, e6⟩ := hv1 rfl
      obtain ⟨c2, cap2, f1, f2, f3, f4, f5⟩ := hb2 rfl
      refine ⟨hb0, Nat.le_trans f3 f4, _, cap, e1, e6, .inr ⟨E.φ id, 0, rfl, ⟨(hi.lt id _ hst rfl).1, ?_⟩, RelM.step hup.1 _ _ (fun _ => rfl) _ _ f5⟩⟩
      rintro (hm | ⟨j, bj, k1, k2, k3⟩)
      · exact (hi.lt id _ hst rfl).2 hm
      · dsimp only at k1 k3
        by_cases hj : j = id
        · subst hj
          rw [List.getElem?_set_self hidlt] at k1
          cases k1; cases k2
        · rw [if_neg hj] at k3
          rw [List.getElem?_set_ne (Ne.symm hj)] at k1
          exact hj (hi.inj j id _ _ k1 hst k2 rfl k3)
  have key : ∀ (pre : List AV) (vs : List Value), RelL T E (pre ++ .own id g :: post) vs → RelL T ⟨E.w, E.st.set id .dead, fun i => if i = id then E.φ id else E.φ i, E.M⟩ (pre ++ .lst e l :: post) vs := by
    intro pre
    induction pre with
    | nil =>
      intro vs hr
      simp only [List.nil_append, RelL] at hr ⊢
      obtain ⟨v, r, h1, h2, h3⟩ := hr
      exact ⟨v, r, h1, hval v h2, RelL.step hup.1 _ _ h3⟩
    | cons x xs ih =>
      intro vs hr
      simp only [List.cons_append, RelL] at hr ⊢
      obtain ⟨v, r, h1, h2, h3⟩ := hr
      exact ⟨v, r, h1, Rel.step hup.1 _ _ h2, ih r h3⟩
  refine (h.2 ⟨E.w, E.st.set id .dead, fun i => if i = id then E.φ id else E.φ i, E.M⟩ vs rfl hinv (key pre vs hr)).mono ?_
  rintro en w' ⟨v, r, E', rfl, rfl, k1, k2, k3, k4⟩
  exact ⟨v, r, E', rfl, rfl, k1, hup.1.trans k2, k3, k4⟩
end
end Go.Ab
end

section
namespace Go.Ab
/-- What lies first. -/
def Pre (X Y : St) : Prop := Y.take X.length = X
theorem Pre.refl (X : St) : Pre X X := by simp [Pre]
theorem Pre.len {X Y : St} (h : Pre X Y) : X.length ≤ Y.length := by
  have := congrArg List.length h; simp at this; omega
theorem Pre.app {X Y : St} (h : Pre X Y) (l : St) : Pre X (Y ++ l) := by
  have := h.len
  unfold Pre at *; rw [List.take_append_of_le_length this]; exact h
theorem Pre.set {X Y : St} (h : Pre X Y) {i : Nat} (hi : X.length ≤ i) (b : Blk) : Pre X (Y.set i b) := by
  unfold Pre at *; rw [List.take_set, h, List.set_eq_of_length_le hi]
theorem Pre.set2 {X Y : St} (h : Pre X Y) (i : Nat) (b : Blk) : Pre (X.set i b) (Y.set i b) := by
  unfold Pre at *; rw [List.length_set, List.take_set, h]
theorem Pre.get {X Y : St} (h : Pre X Y) {i : Nat} {b : Blk} (hi : X[i]? = some b) : Y[i]? = some b := by
  have hl : i < X.length := (List.getElem?_eq_some_iff.1 hi).1
  unfold Pre at h
  rw [← h, List.getElem?_take_of_lt hl] at hi; exact hi
theorem Pre.cut {X Y : St} (h : Pre X Y) (hf : Fix X) {N : Nat} (hN : N = X.length) : cutSt N Y = X := by
  subst hN; unfold cutSt; rw [h]; exact hf _ _ (Nat.le_refl _)
theorem Pre.trans {X Y Z : St} (h : Pre X Y) (k : Pre Y Z) : Pre X Z := by
  have h1 := h.len
  unfold Pre at *
  conv => rhs; rw [← h, ← k]
  rw [List.take_take, Nat.min_eq_left h1]
theorem fix_set {X : St} (h : Fix X) (i : Nat) {b : Blk} (hb : ∀ N S, X.length ≤ N → b.cut N S = b) : Fix (X.set i b) := by
  intro N S hN
  rw [List.length_set] at hN
  rw [List.map_set, h N S hN, hb N S hN]
theorem set_same {X : St} {i : Nat} {b : Blk} (h : X[i]? = some b) : X.set i b = X := by
  apply List.ext_getElem?
  intro j
  by_cases hj : i = j
  · subst hj
    have := (List.getElem?_eq_some_iff.1 h).1
    rw [List.getElem?_set_self this, h]
  · rw [List.getElem?_set_ne hj]
theorem get_set {X : St} {i : Nat} {b c : Blk} (h : X[i]? = some c) : (X.set i b)[i]? = some b := List.getElem?_set_self (List.getElem?_eq_some_iff.1 h).1
theorem get_ne {X : St} {i j : Nat} {b c : Blk} (h : X[j]? = some c) (hn : i ≠ j) : (X.set i b)[j]? = some c := by rw [List.getElem?_set_ne hn]; exact h
theorem get_last (Y : St) (b : Blk) : (Y ++ [b])[Y.length]? = some b := by simp
theorem set_last (Y : St) (b c : Blk) : (Y ++ [b]).set Y.length c = Y ++ [c] := by simp
theorem lt_of_get {X : St} {i : Nat} {b : Blk} (h : X[i]? = some b) : i < X.length := (List.getElem?_eq_some_iff.1 h).1
theorem get_app {X : St} {i : Nat} {b : Blk} (h : X[i]? = some b) (l : St) : (X ++ l)[i]? = some b := by rw [List.getElem?_append_left (lt_of_get h)]; exact h
theorem set_app {X : St} {i : Nat} {b c : Blk} (h : X[i]? = some c) (l : St) : (X ++ l).set i b = X.set i b ++ l := by rw [List.set_append_left _ _ (lt_of_get h)]
section
variable {T : Tab} {P : Program}
/-- An empty slice in a cell of what was made, named as a row behind a call. -/
theorem ICall.adoptR {f : FuncId} {args : List AV} {st : St} {Q Q' : AV → St → Prop} (e : TypeId) (h : ICall T P f args st Q)
    (hq : ∀ r st', Q r st' → ∃ id off cs, st'[id]? = some (.cells cs) ∧ cs[off]? = some .nils ∧ Q' r (st'.set id (.cells (cs.set off (.own st'.length 0))) ++ [.row e 0 false []])) : ICall T P f args st Q' := by
  refine ⟨h.1, fun E0 vs hst hi hr => (h.2 E0 vs hst hi hr).mono ?_⟩
  rintro en w' ⟨v, r, E, rfl, rfl, k1, k2, k3, k4⟩
  obtain ⟨id, off, cs, hb0, hn, hQ⟩ := hq r _ k4
  obtain ⟨s1, s2, s3⟩ := Env.adopt k1 e
  have hidlt : id < E.st.length := (List.getElem?_eq_some_iff.1 hb0).1
  have hb' : (E.st ++ [Blk.row e 0 false []])[id]? = some (.cells cs) := by rw [List.getElem?_append_left hidlt]; exact hb0
  have hset : (E.st ++ [Blk.row e 0 false []]).set id (.cells (cs.set off (.own E.st.length 0))) = E.st.set id (.cells (cs.set off (.own E.st.length 0))) ++ [.row e 0 false []] := by
    rw [List.set_append_left _ _ hidlt]
  have hup := Env.upd (T := T) (E := { E with st := E.st ++ [.row e 0 false []] }) (b' := E.φ id) (blk' := .cells (cs.set off (.own E.st.length 0))) (w' := E.w) s2 hb' rfl rfl rfl (Nat.le_refl _)
    (fun _ _ _ => rfl) (.inl ⟨rfl, rfl⟩) (by
      unfold Compat
      dsimp only
      rw [List.getElem?_set_self (by simp; omega)]
      exact ⟨⟨cs, hb'⟩, if_pos rfl⟩)
  obtain ⟨cc, t, q1, q2⟩ := k1.blk id _ hb0
  have hinv := hup.2 ⟨cc, t, by dsimp only; rw [if_pos rfl]; exact q1, RelC.set (x := .nils) (fun u hu => Rel.step hup.1 _ _ (s3 u (by simpa only [Rel] using hu))) cs _ off (RelC.step hup.1 _ _ (RelC.step s1 _ _ q2)) hn⟩
  refine ⟨v, r, ⟨E.w, (E.st ++ [Blk.row e 0 false []]).set id (.cells (cs.set off (.own E.st.length 0))), fun i => if i = id then E.φ id else E.φ i, E.M⟩, rfl, rfl, hinv, k2.trans (s1.trans hup.1), Rel.step (s1.trans hup.1) _ _ k3, ?_⟩
  dsimp only
  rw [hset]; exact hQ
end
end Go.Ab
namespace Go.Ab
/-- A condition in the middle of a sequence. -/
theorem vcC_cut {T : Tab} {P : Program} {n : Nat} {mu : List Nat} {im : List (Nat × Nat)} {c1 c2 : Code} {K : Slots → St → Prop} {X : Nat → Slots → St → Prop} {R : Slots → St → Prop} {σ : Slots} {st : St} (I : Slots → St → Prop)
    (h1 : ∀ Kc : Slots → St → Prop, (∀ σ st, I σ st → Kc σ st) → vcC T P n mu im c1 Kc X R σ st) (h2 : ∀ σ st, I σ st → vcC T P n mu im c2 K X R σ st) : vcC T P n mu im (.seq c1 c2) K X R σ st := h1 _ h2
end Go.Ab
end

section
namespace Go.Ab
/-- j stands in m's own list. -/
def dirB (ops : Array Oper) (m j : Nat) : Bool := match ops[m]? with | some o => o.after.toList.any fun e => Region.binds .any e && e.on == j | none => false
theorem reach_dir {ops : Array Oper} {m j : Nat} (h : dirB ops m j = true) : reachB ops ops.size m j = true := by
  unfold dirB at h
  rcases ho : ops[m]? with _ | o
  · rw [ho] at h; cases h
  · rw [ho] at h
    have hs : 0 < ops.size := by
      rcases Nat.eq_zero_or_pos ops.size with h0 | h0
      · rw [Array.getElem?_eq_none (by omega)] at ho; cases ho
      · exact h0
    obtain ⟨f, hf⟩ : ∃ f, ops.size = f + 1 := ⟨ops.size - 1, by omega⟩
    rw [hf]
    unfold reachB
    rw [ho]
    simp only [List.any_eq_true, Bool.and_eq_true] at h ⊢
    obtain ⟨e, he, h1, h2⟩ := h
    exact ⟨e, he, h1, by simp [h2]⟩
section
variable {T : Tab} {P : Program} {n : Nat} {ops : Array Oper} {R : Nat → AV → St → Prop} {i : Nat} {o : Oper} {σ : Slots} {k : Slots → St → Prop} {σ1 : Slots} {st1 : St}
theorem vcStays_dir : ∀ {im : List Nat}, im.all (fun m => decide (m ≤ i) || dirB ops m i) = true → vcStays T P n ops R i o σ σ1 im
  | [], _ => trivial
  | m :: ms, h => by
    simp only [List.all_cons, Bool.and_eq_true] at h
    unfold vcStays
    refine ⟨?_, vcStays_dir h.2⟩
    rw [if_neg]
    · trivial
    · unfold looseB
      rcases Bool.or_eq_true_iff.1 h.1 with h1 | h1
      · have : ¬ i < m := by simpa using h1
        simp [this]
      · simp [reach_dir h1]
theorem vcStayM_dir {im : List Nat} (h : im.all (fun m => decide (m ≤ i) || dirB ops m i) = true) (hk : k σ1 st1) : vcStayM T P n ops im R i o σ k σ1 st1 := ⟨vcStays_dir h, hk⟩
/-- A block, its ways out kept out of sight. -/
theorem vcC_blk {mu : List Nat} {im : List (Nat × Nat)} {c1 : Code} {K : Slots → St → Prop} {X : Nat → Slots → St → Prop} {R : Slots → St → Prop} {st : St} {id : Nat} (I : Slots → St → Prop) (h1 : ∀ (Kc : Slots → St → Prop) (Xc : Nat → Slots → St → Prop), (∀ σ st, I σ st → Kc σ st) → Xc id = Kc → (∀ j, j ≠ id → Xc j = X j) → vcC T P n mu im c1 Kc Xc R σ st) (h2 : ∀ σ st, I σ st → K σ st) :
    vcC T P n mu im (.block id c1) K X R σ st := by
  simp only [vcC]
  exact h1 _ _ h2 (by simp) fun j hj => by simp [hj]
theorem vcC_condT {mu : List Nat} {im : List (Nat × Nat)} {c1 c2 : Code} {K : Slots → St → Prop} {X : Nat → Slots → St → Prop} {R : Slots → St → Prop} {st : St} {x : Operand} (h : ev σ x = .sc (.bool true)) (h1 : vcC T P n mu im c1 K X R σ st) : vcC T P n mu im (.cond x c1 c2) K X R σ st := by
  simp only [vcC, h]; exact ⟨fun _ => h1, fun h => (by simp at h)⟩
theorem vcC_condF {mu : List Nat} {im : List (Nat × Nat)} {c1 c2 : Code} {K : Slots → St → Prop} {X : Nat → Slots → St → Prop} {R : Slots → St → Prop} {st : St} {x : Operand} (h : ev σ x = .sc (.bool false)) (h1 : vcC T P n mu im c2 K X R σ st) : vcC T P n mu im (.cond x c1 c2) K X R σ st := by
  simp only [vcC, h]; exact ⟨fun h => (by simp at h), fun _ => h1⟩
theorem vcC_cut2 {mu : List Nat} {im : List (Nat × Nat)} {c1 c2 c3 : Code} {K : Slots → St → Prop} {X : Nat → Slots → St → Prop} {R' : Slots → St → Prop} {st : St} (I : Slots → St → Prop) (h1 : ∀ Kc : Slots → St → Prop, (∀ σ st, I σ st → Kc σ st) → vcC T P n mu im (.seq c1 c2) Kc X R' σ st) (h2 : ∀ σ st, I σ st → vcC T P n mu im c3 K X R' σ st) :
    vcC T P n mu im (.seq c1 (.seq c2 c3)) K X R' σ st := h1 _ h2
theorem vcC_cut3 {mu : List Nat} {im : List (Nat × Nat)} {c1 c2 c3 c4 : Code} {K : Slots → St → Prop} {X : Nat → Slots → St → Prop} {R' : Slots → St → Prop} {st : St} (I : Slots → St → Prop) (h1 : ∀ Kc : Slots → St → Prop, (∀ σ st, I σ st → Kc σ st) → vcC T P n mu im (.seq c1 (.seq c2 c3)) Kc X R' σ st) (h2 : ∀ σ st, I σ st → vcC T P n mu im c4 K X R' σ st) :
    vcC T P n mu im (.seq c1 (.seq c2 (.seq c3 c4))) K X R' σ st := h1 _ h2
end
end Go.Ab
end

section
namespace Go.Ab
open Go.RowKit
mutual
/-- Each place that it names holds something, and no row of one's own is named. -/
def AV.sol2 : AV → Prop
  | .agg cs => AV.sol2L cs
  | .tup cs => AV.sol2L cs
  | .lst _ l => AV.sol2M l
  | .eptr cs => cs ≠ [] ∧ AV.sol2L cs
  | .fn _ a b => AV.sol2L a ∧ AV.sol2L b
  | .gate _ x => AV.sol2 x
  | .own _ _ => False
  | .sub _ _ _ _ => False
  | .rptr _ _ _ _ => False
  | .mp _ => False
  | _ => True
def AV.sol2L : List AV → Prop
  | [] => True
  | x :: xs => AV.sol2 x ∧ AV.sol2L xs
def AV.sol2M : List (List AV) → Prop
  | [] => True
  | x :: xs => x ≠ [] ∧ AV.sol2L x ∧ AV.sol2M xs
end
/-- What is named in cells moves along. -/
structure MoveC (E E' : Env) : Prop where
  len : E.st.length ≤ E'.st.length
  ptr : ∀ id cs, E'.st[id]? = some (.cells cs) → (∃ cs0, E.st[id]? = some (.cells cs0)) ∧ E'.φ id = E.φ id
  cell : ∀ b o v, E.stable b → E.w.cell? ⟨b, o, none⟩ = some v → E'.stable b ∧ ∀ o', E'.w.cell? ⟨b, o', none⟩ = E.w.cell? ⟨b, o', none⟩
mutual
theorem Rel.moveC {T : Tab} {E E' : Env} (h : MoveC E E') : ∀ (x : AV) (u : Value), x.sol2 → Rel T E x u → Rel T E' x u
  | .sc v, u, _, hr => by simpa only [Rel] using hr
  | .agg cs, u, hs, hr => by
    simp only [Rel] at hr ⊢
    obtain ⟨vs, h1, h2⟩ := hr
    exact ⟨vs, h1, RelC.moveC h cs vs hs h2⟩
  | .tup cs, u, hs, hr => by
    simp only [Rel] at hr ⊢
    obtain ⟨vs, h1, h2⟩ := hr
    exact ⟨vs, h1, RelL.moveC h cs vs hs h2⟩
  | .lst e [], u, hs, hr => by
    simp only [Rel] at hr ⊢
    obtain ⟨h1, h2, a, cap, h3, hcp, h4⟩ := hr
    exact ⟨h1, h2, a, cap, h3, hcp, .inl trivial⟩
  | .lst e ([] :: l), u, hs, hr => by simp only [AV.sol2, AV.sol2M] at hs; exact absurd rfl hs.1
  | .lst e ((y :: ys) :: l), u, hs, hr => by
    simp only [Rel] at hr ⊢
    obtain ⟨h1, h2, a, cap, h3, hcp, h4⟩ := hr
    refine ⟨h1, h2, a, cap, h3, hcp, ?_⟩
    rcases h4 with h4 | ⟨b, o, h4, h5, h6⟩
    · exact .inl h4
    · have h7 := h6
      simp only [RelM, RelX] at h7
      obtain ⟨_, ⟨⟨v, hv, _⟩, _⟩, _⟩ := h7
      obtain ⟨k1, k2⟩ := h.cell b o v h5 hv
      exact .inr ⟨b, o, h4, k1, RelM.moveC h b (T.cells e) k2 _ o hs h6⟩
  | .nils, u, _, hr => by simpa only [Rel] using hr
  | .own id g, u, hs, _ => by simp only [AV.sol2] at hs
  | .ptr id off, u, _, hr => by
    simp only [Rel] at hr ⊢
    obtain ⟨h1, h2⟩ := hr
    refine ⟨Nat.lt_of_lt_of_le h1 h.len, fun cs hcs => ?_⟩
    obtain ⟨⟨cs0, k0⟩, k1⟩ := h.ptr id cs hcs
    rw [k1]; exact h2 _ k0
  | .sub id g lo n, u, hs, _ => by simp only [AV.sol2] at hs
  | .rptr id g i f, u, hs, _ => by simp only [AV.sol2] at hs
  | .eptr [], u, hs, hr => by simp only [AV.sol2] at hs; exact absurd rfl hs.1
  | .eptr (y :: ys), u, hs, hr => by
    simp only [Rel] at hr ⊢
    obtain ⟨b, o, h1, h2, h3⟩ := hr
    have h7 := h3
    simp only [RelX] at h7
    obtain ⟨⟨v, hv, _⟩, _⟩ := h7
    obtain ⟨k1, k2⟩ := h.cell b o v h2 hv
    exact ⟨b, o, h1, k1, RelX.moveC h b k2 _ o hs.2 h3⟩
  | .fn f fs cs, u, hs, hr => by
    simp only [Rel] at hr ⊢
    obtain ⟨vs, ws, h1, h2, h3⟩ := hr
    exact ⟨vs, ws, h1, RelL.moveC h fs vs hs.1 h2, RelL.moveC h cs ws hs.2 h3⟩
  | .mp id, u, hs, _ => by simp only [AV.sol2] at hs
  | .gate c x, u, hs, hr => by
    simp only [Rel] at hr ⊢
    exact ⟨fun hc => Rel.moveC h x u hs (hr.1 hc), hr.2⟩
  | .any, u, _, hr => by simp only [Rel]
theorem RelL.moveC {T : Tab} {E E' : Env} (h : MoveC E E') : ∀ (xs : List AV) (vs : List Value), AV.sol2L xs → RelL T E xs vs → RelL T E' xs vs
  | [], vs, _, hr => by simpa only [RelL] using hr
  | x :: xs, vs, hs, hr => by
    simp only [RelL] at hr ⊢
    obtain ⟨v, r, h1, h2, h3⟩ := hr
    exact ⟨v, r, h1, Rel.moveC h x v hs.1 h2, RelL.moveC h xs r hs.2 h3⟩
theorem RelC.moveC {T : Tab} {E E' : Env} (h : MoveC E E') : ∀ (xs : List AV) (vs : List Value), AV.sol2L xs → RelC T E xs vs → RelC T E' xs vs
  | [], vs, _, hr => by simpa only [RelC] using hr
  | x :: xs, vs, hs, hr => by
    simp only [RelC] at hr ⊢
    obtain ⟨v, r, h1, h2, h4, h3⟩ := hr
    exact ⟨v, r, h1, Rel.moveC h x v hs.1 h2, h4, RelC.moveC h xs r hs.2 h3⟩
theorem RelX.moveC {T : Tab} {E E' : Env} (h : MoveC E E') (b : Nat) (hb : ∀ o, E'.w.cell? ⟨b, o, none⟩ = E.w.cell? ⟨b, o, none⟩) : ∀ (xs : List AV) (o : Nat), AV.sol2L xs → RelX T E b o xs → RelX T E' b o xs
  | [], o, _, hr => by simp only [RelX]
  | x :: xs, o, hs, hr => by
    simp only [RelX] at hr ⊢
    obtain ⟨⟨v, h1, h2, h4⟩, h3⟩ := hr
    exact ⟨⟨v, by rw [hb]; exact h1, Rel.moveC h x v hs.1 h2, h4⟩, RelX.moveC h b hb xs _ hs.2 h3⟩
theorem RelM.moveC {T : Tab} {E E' : Env} (h : MoveC E E') (b k : Nat) (hb : ∀ o, E'.w.cell? ⟨b, o, none⟩ = E.w.cell? ⟨b, o, none⟩) : ∀ (l : List (List AV)) (o : Nat), AV.sol2M l → RelM T E b k o l → RelM T E' b k o l
  | [], o, _, hr => by simp only [RelM]
  | e :: l, o, hs, hr => by
    simp only [RelM] at hr ⊢
    obtain ⟨h1, h2, h3⟩ := hr
    exact ⟨h1, RelX.moveC h b hb e o hs.2.1 h2, RelM.moveC h b k hb l _ hs.2.2 h3⟩
end


/-- Cells and rows. -/
def okB : Blk → Prop
  | .cells cs => AV.solidL cs
  | .row _ _ _ l => AV.solidM l
  | _ => False
def okSt (st : St) : Prop := ∀ (i : Nat) (b : Blk), st[i]? = some b → okB b
/-- A later state of a loop over a function, seen from its start; with rows. -/
structure Good2 (E1 E : Env) : Prop where
  os : E.w.os = E1.w.os
  tape : E.w.tape = E1.w.tape
  output : E.w.output = E1.w.output
  size : E1.w.heap.size ≤ E.w.heap.size
  len : E.st.length = E1.st.length
  phi : ∀ i cs, E.st[i]? = some (.cells cs) → (∃ cs1, E1.st[i]? = some (.cells cs1)) ∧ E.φ i = E1.φ i
  mutN : ∀ i b, E.st[i]? = some b → b.live = true → E1.mut (E.φ i) ∨ E1.w.heap.size ≤ E.φ i
  M : ∀ b, E.M b ↔ (E1.M b ∨ (E1.w.heap.size ≤ b ∧ ∃ o : Obj, E.w.heap[b]? = some o ∧ o.isCells = false))
  blk : ∀ b, b < E1.w.heap.size → (E1.M b ∨ ¬ E1.mut b) → E.w.heap[b]? = E1.w.heap[b]?
  ok : okSt E.st
theorem Good2.M1 {E1 E : Env} (h : Good2 E1 E) : ∀ b, E1.M b → E.M b := fun b hb => (h.M b).2 (.inl hb)
theorem Good2.M2 {E1 E : Env} (h : Good2 E1 E) : ∀ b, E.M b → E1.M b ∨ E1.w.heap.size ≤ b := fun b hb => ((h.M b).1 hb).imp id (·.1)
theorem Good2.M3 {E1 E : Env} (h : Good2 E1 E) : ∀ b o, E1.w.heap.size ≤ b → E.w.heap[b]? = some o → o.isCells = false → E.M b := fun b o h1 h2 h3 => (h.M b).2 (.inr ⟨h1, o, h2, h3⟩)
theorem Good2.start {E1 : Env} (hc : okSt E1.st) : Good2 E1 E1 where
  os := rfl
  tape := rfl
  output := rfl
  size := Nat.le_refl _
  len := rfl
  phi := fun _ cs h => ⟨⟨cs, h⟩, rfl⟩
  mutN := fun i b h hl => .inl (.inr ⟨i, b, h, hl, rfl⟩)
  M := fun b => ⟨.inl, fun h => h.elim id (fun ⟨hb, o, ho, _⟩ => by have := (Array.getElem?_eq_some_iff.1 ho).1; omega)⟩
  blk := fun _ _ _ => rfl
  ok := hc
section
variable {T : Tab} {E1 E E' : Env}
theorem Good2.stable (h : Good2 E1 E) {b : Nat} (hb : E1.stable b) : E.stable b := by
  refine ⟨Nat.lt_of_lt_of_le hb.1 h.size, ?_⟩
  rintro (hm | ⟨id, blk, k1, k2, k3⟩)
  · rcases h.M2 b hm with hm | hm
    · exact hb.2 (.inl hm)
    · have := hb.1; omega
  · rcases h.mutN id blk k1 k2 with k | k
    · rw [k3] at k; exact hb.2 k
    · have := hb.1; omega
theorem Good2.move (h : Good2 E1 E) : MoveC E1 E where
  len := by rw [h.len]; exact Nat.le_refl _
  ptr := h.phi
  cell := fun b o v hb hv => ⟨h.stable hb, fun o' => World.cell?_of_block (w := E1.w) (a := ⟨b, o', none⟩) (h.blk b hb.1 (.inr hb.2))⟩
theorem compat_same {E E' : Env} (hst : E'.st = E.st) (hphi : E'.φ = E.φ) (hh : ∀ (b : Nat) (ob : Obj), E.w.heap[b]? = some ob → ob.isCells = true → E'.w.heap[b]? = E.w.heap[b]?) (id : Nat) : Compat E E' id := by
  unfold Compat
  rw [hst]
  rcases hc : E.st[id]? with _ | b
  · trivial
  · cases b with
    | cells cs => exact ⟨⟨cs, rfl⟩, by rw [hphi]⟩
    | row e g al l => exact ⟨g, al, l, rfl, Nat.le_refl _, fun _ => ⟨rfl, fun _ => ⟨by rw [hphi], rfl, fun c t h => ⟨c, by rw [hh _ _ h rfl]; exact h, rfl⟩⟩⟩⟩
    | map es => exact ⟨⟨es, rfl⟩, by rw [hphi]⟩
    | dead => trivial
/-- What a block holds, moved along. -/
theorem RelB.move {E E' : Env} (hmv : Move E E') {i : Nat} (hphi : E'.φ i = E.φ i) (hh : ∀ (b : Nat) (ob : Obj), E.w.heap[b]? = some ob → ob.isCells = true → E'.w.heap[b]? = E.w.heap[b]?) : ∀ bi, okB bi → RelB T E i bi → RelB T E' i bi
  | .cells cs, ho, hr => by
    obtain ⟨c, t, h1, h2⟩ := hr
    exact ⟨c, t, by rw [hphi, hh _ _ h1 rfl]; exact h1, RelC.move hmv _ _ ho h2⟩
  | .row e g al l, ho, hr => by
    obtain ⟨h0, h1, h2⟩ := hr
    refine ⟨h0, h1, fun hal => ?_⟩
    obtain ⟨c, cap, k1, k2, k3, k4, k5⟩ := h2 hal
    refine ⟨c, cap, by rw [hphi, hh _ _ k1 rfl]; exact k1, k2, k3, k4, ?_⟩
    rw [hphi]
    exact RelM.move hmv _ _ (fun o => World.cell?_of_block (w := E.w) (a := ⟨E.φ i, o, none⟩) (hh _ _ k1 rfl)) l 0 ho k5
  | .map es, ho, _ => ho.elim
  | .dead, ho, _ => ho.elim
theorem live_cells {E : Env} (hi : Inv T E) {i : Nat} {b : Blk} (hb : E.st[i]? = some b) (hok : okB b) (hl : b.live = true) : ∃ ob : Obj, E.w.heap[E.φ i]? = some ob ∧ ob.isCells = true := by
  have hr := hi.blk i b hb
  cases b with
  | cells cs => obtain ⟨c, t, h1, _⟩ := hr; exact ⟨_, h1, rfl⟩
  | row e g al l => obtain ⟨_, _, h2⟩ := hr; obtain ⟨c, cap, h1, _⟩ := h2 hl; exact ⟨_, h1, rfl⟩
  | map es => exact hok.elim
  | dead => exact hok.elim
theorem Good2.turn (h : Good2 E1 E) (hi : Inv T E) {W' : World} {row : Option Nat} (hg : E.w.grownBy W' row) (hr : ∀ r, row = some r → E1.w.heap.size ≤ r ∧ ∃ o : Obj, E.w.heap[r]? = some o ∧ o.isCells = false) :
    ∃ E', E'.w = W' ∧ E'.st = E.st ∧ Good2 E1 E' ∧ Inv T E' ∧ Move E E' := by
  have hcell : ∀ b (ob : Obj), E.w.heap[b]? = some ob → ob.isCells = true → W'.heap[b]? = E.w.heap[b]? := fun b ob h1 h2 =>
    hg.block b (Array.getElem?_eq_some_iff.1 h1).1 (fun e => by
      obtain ⟨_, o, k1, k2⟩ := hr b e.symm
      rw [h1] at k1; cases k1; rw [h2] at k2; cases k2)
  let E' : Env := ⟨W', E.st, E.φ, fun b => E1.M b ∨ (E1.w.heap.size ≤ b ∧ ∃ o : Obj, W'.heap[b]? = some o ∧ o.isCells = false)⟩
  have hmv : Move E E' := by
    refine ⟨Nat.le_refl _, fun id _ => compat_same (E := E) (E' := E') rfl rfl hcell id, fun b o v hb hv => ?_⟩
    obtain ⟨ob, k1, k2⟩ := isCells_of_cell hv
    refine ⟨⟨Nat.lt_of_lt_of_le hb.1 hg.size, ?_⟩, fun o' => World.cell?_of_block (w := E.w) (a := ⟨b, o', none⟩) (hcell b ob k1 k2)⟩
    rintro ((hm | ⟨_, o', hm, hn⟩) | hm)
    · exact hb.2 (.inl (h.M1 b hm))
    · rw [hcell b ob k1 k2, k1] at hm; cases hm; rw [k2] at hn; cases hn
    · exact hb.2 (.inr hm)
  refine ⟨E', rfl, rfl, ⟨hg.os.trans h.os, hg.tape.trans h.tape, hg.output.trans h.output, Nat.le_trans h.size hg.size, h.len, h.phi, h.mutN, fun _ => Iff.rfl, ?_, h.ok⟩, ⟨hi.inj, ?_, ?_, ?_⟩, hmv⟩
  · intro b hb hm
    refine (hg.block b (Nat.lt_of_lt_of_le hb h.size) (fun e => ?_)).trans (h.blk b hb hm)
    have := (hr b e.symm).1; omega
  · intro i bi k1 k2
    have := hi.lt i bi k1 k2
    refine ⟨Nat.lt_of_lt_of_le this.1 hg.size, ?_⟩
    rintro (hm | ⟨_, o, hm, hn⟩)
    · exact this.2 (h.M1 _ hm)
    · obtain ⟨ob, k5, k6⟩ := live_cells hi k1 (h.ok i bi k1) k2
      rw [hcell _ _ k5 k6, k5] at hm; cases hm; rw [k6] at hn; cases hn
  · rintro b (hb | ⟨_, o, hm, _⟩)
    · exact Nat.lt_of_lt_of_le (hi.Mlt b (h.M1 b hb)) hg.size
    · exact (Array.getElem?_eq_some_iff.1 hm).1
  · intro i bi k1
    exact RelB.move hmv rfl hcell bi (h.ok i bi k1) (hi.blk i bi k1)
/-- Behind a round. -/
theorem Good2.round (h : Good2 E1 E) {E3 : Env} (hs : Step E E3) (hi : Inv T E3) (hl : E3.st.length = E.st.length) (hc : okSt E3.st) :
    (∃ E', E'.w = E3.w ∧ E'.st = E3.st ∧ Good2 E1 E' ∧ Inv T E' ∧ Move E3 E') ∧ KeepsFrom E1.w.heap.size E.w E3.w ∧ ∀ k, E1.stable k → E3.w.heap[k]? = E.w.heap[k]? := by
  refine ⟨?_, ⟨hs.size, fun k o hk ho hn => ?_⟩, fun k hk => ?_⟩
  · let E' : Env := ⟨E3.w, E3.st, E3.φ, fun b => E1.M b ∨ (E1.w.heap.size ≤ b ∧ ∃ o : Obj, E3.w.heap[b]? = some o ∧ o.isCells = false)⟩
    have hM3 : ∀ b, E1.M b → E3.M b := fun b hb => by rw [hs.M]; exact h.M1 b hb
    have hmv : Move E3 E' := by
      refine ⟨Nat.le_refl _, fun id _ => compat_same (E := E3) (E' := E') rfl rfl (fun _ _ _ _ => rfl) id, fun b o v hb hv => ⟨⟨hb.1, ?_⟩, fun _ => rfl⟩⟩
      obtain ⟨ob, k1, k2⟩ := isCells_of_cell hv
      rintro ((hm | ⟨_, o', k3, k4⟩) | hm)
      · exact hb.2 (.inl (hM3 b hm))
      · rw [k1] at k3; cases k3; rw [k2] at k4; cases k4
      · exact hb.2 (.inr hm)
    refine ⟨E', rfl, rfl, ⟨hs.os.trans h.os, hs.tape.trans h.tape, hs.output.trans h.output, Nat.le_trans h.size hs.size, hl.trans h.len, ?_, ?_, fun _ => Iff.rfl, ?_, hc⟩, ⟨hi.inj, ?_, ?_, ?_⟩, hmv⟩
    · intro i cs hi'
      have hi' : E3.st[i]? = some (.cells cs) := hi'
      have hlt : i < E.st.length := by have := (List.getElem?_eq_some_iff.1 hi').1; omega
      have hcm := hs.compat i hlt
      unfold Compat at hcm
      rw [hi'] at hcm
      obtain ⟨⟨cs0, k0⟩, k1⟩ := hcm
      obtain ⟨k2, k3⟩ := h.phi i cs0 k0
      exact ⟨k2, k1.trans k3⟩
    · intro i b hb hlv
      have hb : E3.st[i]? = some b := hb
      have hmut : E3.mut (E3.φ i) := .inr ⟨i, b, hb, hlv, rfl⟩
      rcases Nat.lt_or_ge (E3.φ i) E.w.heap.size with hlt | hge
      · have hns : ¬ E.stable (E3.φ i) := fun hst => (hs.stab _ hst).2 hmut
        have hm : E.mut (E3.φ i) := Classical.byContradiction fun hm => hns ⟨hlt, hm⟩
        rcases hm with hm | ⟨id, blk, k1, k2, k3⟩
        · exact absurd (by rw [hs.M]; exact hm) (hi.lt i b hb hlv).2
        · rw [← k3]; exact h.mutN id blk k1 k2
      · exact .inr (Nat.le_trans h.size hge)
    · intro b hb hm
      refine (hs.blk b (Nat.lt_of_lt_of_le hb h.size) ?_).trans (h.blk b hb hm)
      rcases hm with hm | hm
      · exact .inl (h.M1 b hm)
      · exact .inr (h.stable ⟨hb, hm⟩).2
    · intro i bi k1 k2
      have := hi.lt i bi k1 k2
      refine ⟨this.1, ?_⟩
      rintro (hm | ⟨_, o, k3, k4⟩)
      · exact this.2 (hM3 _ hm)
      · obtain ⟨ob, k5, k6⟩ := live_cells hi k1 (hc i bi k1) k2
        rw [k5] at k3; cases k3; rw [k6] at k4; cases k4
    · rintro b (hb | ⟨_, o, k3, _⟩)
      · exact hi.Mlt b (hM3 b hb)
      · exact (Array.getElem?_eq_some_iff.1 k3).1
    · intro i bi k1
      exact RelB.move hmv rfl (fun _ _ _ _ => rfl) bi (hc i bi k1) (hi.blk i bi k1)
  · have hlt := (Array.getElem?_eq_some_iff.1 ho).1
    exact (hs.blk k hlt (.inl (h.M3 k o hk ho hn))).trans ho
  · have := h.stable hk
    exact hs.blk k this.1 (.inr this.2)
theorem RelS.moveC {E E' : Env} {n : Nat} {σ : Slots} {a : Act} (h : MoveC E E') (hs : RelS T E n σ a) (hsol : ∀ i, (σ i).sol2) : RelS T E' n σ a :=
  ⟨hs.defers, hs.size, fun i => Rel.moveC h _ _ (hsol i) (hs.val i)⟩
end
end Go.Ab
end

section
namespace Go.Ab
open Go.RowKit
variable {T : Tab} {P : Program} (hT : TabOk T P)
/-- Straight code, with operations that may write. -/
def regOnly2 (im : List (Nat × Nat)) : Code → Bool
  | .skip => true
  | .region id ops false => ops.toList.all noDefer && (fzAll im id).isEmpty
  | .region id ops true => ops.toList.all noDefer && (fzAll im id).isEmpty && !(ordAll im id).isEmpty && lexBO ops (imAll im id) (ordAll im id)
  | .seq a b => regOnly2 im a && regOnly2 im b
  | .block _ c => regOnly2 im c
  | _ => false

include hT in
/-- STRAIGHT CODE, _, IN A ROUND OR WITH CALLS PUT OFF, with operations that may write. -/
theorem vcR2_sound {E0 : Env} {n : Nat} {mu : List Nat} {im : List (Nat × Nat)} (hm : P.follows .mixedOrders = true := by kernel_rfl) {r : Option Nat} {n' : Nat} {ds : List Deferred} {R : Slots → St → Prop} : ∀ (c : Code) {X : Nat → Slots → St → Prop} {K : Slots → St → Prop} {Q : Exit → Act → World → Prop} {σ : Slots} {st : St} (E : Env) (a : Act), regOnly2 im c = true →
    vcC T P n mu im c K X R σ st → E.st = st → Inv T E → Step E0 E → RelS T E n σ a →
    (∀ E' σ' a', Inv T E' → Step E0 E' → RelS T E' n σ' a' → K σ' E'.st → Q .normal (behindA a' ds) E'.w) →
    c.wpIn (fenceR r) n' P Q (behindA a ds) E.w
  | .skip, _, K, Q, σ, st, E, a, _, h, h1, h2, h3, h4, hq => wpIn_skip (hq E σ a h2 h3 h4 (h1 ▸ h))
  | .region id ops false, _, K, Q, σ, st, E, a, hd, h, h1, h2, h3, h4, hq => by
    simp only [regOnly2, Bool.and_eq_true, List.isEmpty_iff] at hd
    have h : frzS (fzAll im id) σ st fun σ st => vcOps2 T P n mu ops (imAll im id) 0 ops.toList K σ st := h
    rw [hd.2] at h
    have hA := vcOps2_sound (E0 := E0) hT 0 _ h E a h1 h2 h3 h4 (fun e a' w' => e = .normal ∧ Q .normal (behindA a' ds) w') (fun E' σ' a' k1 k2 k3 k4 => ⟨rfl, hq E' σ' a' k1 k2 k3 k4⟩)
    refine wpIn_region_list (wpListIn_of_wpList (Q := fun e a' w' => e = .normal ∧ Q .normal (behindA a' ds) w') ?_ ?_ _ _ _ hd.1 hA)
    · rintro ⟨_, _, h, _⟩; cases h
    · rintro e a' w' ⟨rfl, hh⟩; exact hh
  | .seq x y, _, K, Q, σ, st, E, a, hd, h, h1, h2, h3, h4, hq => by
    simp only [regOnly2, Bool.and_eq_true] at hd
    refine wpIn_seq (vcR2_sound hm x E a hd.1 h h1 h2 h3 h4 ?_)
    intro E' σ' a' k1 k2 k3 k4
    exact vcR2_sound hm y E' a' hd.2 k4 rfl k1 k2 k3 hq
  | .region id ops true, X, K, Q, σ, st, E, a, hd, h, h1, h2, h3, h4, hq => by
    obtain ⟨l⟩ := ops
    simp only [regOnly2, Bool.and_eq_true, List.isEmpty_iff, Bool.not_eq_true'] at hd
    obtain ⟨⟨⟨hd1, hd2⟩, hd3⟩, hB⟩ := hd
    have hne : ordAll im id ≠ [] := fun e => by rw [e] at hd3; cases hd3
    simp only [vcC] at h
    rw [hd2, frzS, if_neg hne] at h
    obtain ⟨R', h⟩ := h
    refine wpIn_region_any hm ?_
    obtain ⟨s1, s2⟩ := Env.ext (w' := E.w.drew) h2 rfl rfl rfl (Nat.le_refl _) (fun _ _ => rfl)
    simp only [lexBO, Bool.and_eq_true, beq_iff_eq] at hB
    obtain ⟨⟨hB1, hB2⟩, hB3⟩ := hB
    have hx : xAny T P E0 n l.toArray (imAll im id) R' K (fuelO none (ordAll im id)) (Array.replicate l.toArray.size false) σ st := by
      refine xAny_ord hT (ordAll im id) none _ σ st ?_ ?_ (fun a ha => by cases ha) hB3 h
      · intro k o ho hk
        exfalso
        have : k < l.toArray.size := (Array.getElem?_eq_some_iff.1 ho).1
        simp [Array.getD] at hk
      · intro m hm
        rcases Nat.lt_or_ge m l.toArray.size with hlt | hge
        · have := List.all_eq_true.1 hB2 m (List.mem_range.2 hlt)
          simpa using this
        · exfalso
          have hge' : ¬ m < (Array.replicate l.toArray.size false).size := by simpa using hge
          rw [Array.getD, dif_neg hge'] at hm
          cases hm
    rw [show fuelO none (ordAll im id) = l.toArray.size by rw [← hB1, ordX_len]; rfl] at hx
    have := xAny_wp (Q := fun e a' w' => e = .normal ∧ Q .normal (behindA a' ds) w') (fun E' σ' a' k1 k2 k3 k4 => ⟨rfl, hq E' σ' a' k1 k2 k3 k4⟩) _ _ σ st hx { E with w := E.w.drew } a h1 s2 (h3.trans s1) (h4.step s1)
    refine wpAnyIn_of_wpAny (Q := fun e a' w' => e = .normal ∧ Q .normal (behindA a' ds) w') ?_ ?_ ?_ _ _ _ _ this
    · rintro ⟨_, _, h, _⟩; cases h
    · intro i o ho
      exact List.all_eq_true.1 hd1 o (by
        have := Array.mem_of_getElem? ho
        simpa using this)
    · rintro e a' w' ⟨rfl, hh⟩; exact hh
  | .cond _ _ _, _, _, _, _, _, _, _, hd, _, _, _, _, _, _ => by simp [regOnly2] at hd
  | .block _ c, _, K, Q, σ, st, E, a, hd, h, h1, h2, h3, h4, hq => by
    simp only [regOnly2] at hd
    exact wpIn_block (vcR2_sound hm c E a hd h h1 h2 h3 h4 hq)
  | .loop _, _, _, _, _, _, _, _, hd, _, _, _, _, _, _ => by simp [regOnly2] at hd
  | .exit _, _, _, _, _, _, _, _, hd, _, _, _, _, _, _ => by simp [regOnly2] at hd
  | .ret, _, _, _, _, _, _, _, hd, _, _, _, _, _, _ => by simp [regOnly2] at hd
  | .label _, _, _, _, _, _, _, _, hd, _, _, _, _, _, _ => by simp [regOnly2] at hd
  | .goto _, _, _, _, _, _, _, _, hd, _, _, _, _, _, _ => by simp [regOnly2] at hd

include hT in
/-- A RANGE OVER A FUNCTION, ONE LOOP VARIABLE, A BODY WITHOUT JUMPS; rows of one's own may be written from round to round. -/
theorem rangeRule1 (hm : P.follows .mixedOrders = true := by kernel_rfl) {α : Type} {g : Operand} {p : Tmp} {assign body : Code} {Q : Exit → Act → World → Prop} {a : Act} {nt n : Nat} {mu : List Nat} {im : List (Nat × Nat)} (E1 : Env) (σ0 : Slots)
    (h1 : 1 ≤ n) (hi : Inv T E1) (hc1 : okSt E1.st) (hσ0 : RelS T E1 nt σ0 a) (hsol0 : ∀ i, (σ0 i).sol2)
    {gf : Nat} {lb : Array Value} (hg : a.eval g = .func (.func gf) #[] lb) (eg : ∀ args w, (callFunc gf args).run P w = .ok (.enter gf args) w)
    {encs : α → Array Value} (xv : α → AV) (hx : ∀ x, ∃ u, encs x = #[u] ∧ Rel T E1 (xv x) u ∧ (xv x).sol2)
    {S Sp : List α → Prop} {N : Nat} (hseq : SeqStopsK (fenceR none) (n - 1) P gf lb encs (fun W W' => ∀ k, E1.stable k → W'.heap[k]? = W.heap[k]?) S Sp N E1.w)
    (hp : p < nt) (q : Tmp) (hq : q < nt)
    (I : List α → St → Prop) (hI : ∀ pre st, I pre st → okSt st ∧ st.length = E1.st.length) (h0 : I [] E1.st)
    (hrb : regOnly2 im body = true)
    (hassign : ∀ (l n' : Nat) (tm : Array Value) (u : Value) (W : World) (K : Act → World → Prop), tm[p]? = some u → K ⟨tm.setIfInBounds q u, []⟩ W → assign.wpIn (fenceR (some l)) n' P (Exit.then K fun _ _ _ => False) ⟨tm, []⟩ W)
    (hbody : ∀ pre x st, I pre st → pre.length < N → vcC T P nt mu im body (fun _ st' => I (pre ++ [x]) (cutSt E1.st.length st')) (fun _ _ _ => False) (fun _ _ => False) (put2 p q σ0 (xv x) (xv x)) st)
    (hdone : ∀ (D : Nat) (xs : List α) (E : Env), E1.w.heap.size ≤ D → S xs → I xs E.st → Inv T E → Good2 E1 E → E.w.heap[D]? = some (.deferred (some [])) → Q .normal (behindA a [{ target := .collected D, args := #[] }]) E.w) :
    (Code.rangeFunc g #[p] assign body).wpIn (fenceR none) n P Q a E1.w := by
  let I' : List α → World → Prop := fun pre W => ∃ E, E.w = W ∧ I pre E.st ∧ Inv T E ∧ Good2 E1 E
  let Ax : α → Act → World → Prop := fun x a' _ => ∃ u, encs x = #[u] ∧ a' = ⟨(a.tmps.setIfInBounds p u).setIfInBounds q u, []⟩
  have hown : OwnFrom E1.w.heap.size I' := by
    rintro pre W W' row ⟨E, rfl, k1, k2, k3⟩ hg' hr
    obtain ⟨E', e1, e2, e3, e4, _⟩ := k3.turn k2 hg' hr
    exact ⟨E', e1, by rw [e2]; exact k1, e4, e3⟩
  have hownA : ∀ x a', OwnFrom E1.w.heap.size (fun (_ : Unit) W => Ax x a' W) := fun x a' _ W W' row h _ _ => h
  refine wpIn_rangeFunc_ownH (F := fenceR none) rfl h1 hg trivial eg hseq (fun h k i hi' => (k i hi').trans (h i hi')) ?_ (Below.refl _ _) ?_ I' (fun _ _ _ => False) hown (fun _ _ _ _ _ h _ _ => h) ⟨E1, rfl, h0, hi, Good2.start hc1⟩ Ax hownA ?_ ?_ ?_ (fun _ _ _ _ _ _ h _ => h.elim)
  · intro W l o o' hl _ _ _ k hk
    exact World.putObj_heap_other (fun e => by have := hk.1; omega)
  · intro x
    obtain ⟨u, e, _⟩ := hx x
    rw [e]; rfl
  · rintro l pre x W K hIW hK
    obtain ⟨u, e, r1, s1⟩ := hx x
    rw [e]
    have hsz : nt ≤ a.tmps.size := hσ0.size
    suffices hh : assign.wpIn (fenceR (some l)) (n - 1 - 1) P (Exit.then K fun _ _ _ => False) ⟨a.tmps.setIfInBounds p u, []⟩ W by rw [show (fenceR none).inRound l = fenceR (some l) from rfl]; simpa using hh
    refine hassign l _ _ u W K (by rw [Array.getElem?_setIfInBounds_self, if_pos (Nat.lt_of_lt_of_le hp hsz)]) ?_
    exact hK _ W ⟨Nat.le_refl _, fun _ _ _ h _ => h⟩ (fun _ _ => rfl) hIW ⟨u, e, rfl⟩
  · rintro l pre x a' W hl _ ⟨E, rfl, i1, i2, i3⟩ ⟨u, e, rfl⟩ hlen
    obtain ⟨u', e', r1, s1⟩ := hx x
    rw [e] at e'
    obtain rfl : u = u' := by simpa using e'
    obtain ⟨hc, hln⟩ := hI _ _ i1
    have hp' : dstOk nt (some p) := hp
    have hq' : dstOk nt (some q) := hq
    have hr0 := hσ0.moveC i3.move hsol0
    have rx := Rel.moveC i3.move _ _ s1 r1
    have hrel := (hr0.put hp' rx).put hq' rx
    have ea : (⟨(a.tmps.setIfInBounds p u).setIfInBounds q u, []⟩ : Act) = behindA ((a.put (some p) u).put (some q) u) [] := by
      rw [behindA_nil]
      have := hσ0.defers
      cases a; simp only [Act.put] at this ⊢; rw [this]
    rw [ea]
    refine vcR2_sound (r := some l) (ds := []) (im := im) hT hm body E _ hrb (hbody pre x E.st i1 hlen) rfl i2 (Step.refl E) hrel ?_
    intro E' σ' a'' k1 k2 k3 k4
    have h3 : (E'.cut E.st.length).st.length = E.st.length := by rw [hln]; exact (hI _ _ k4).2
    obtain ⟨⟨E'', e1, e2, e3, e4, _⟩, e5, e6⟩ := i3.round (Env.cut_step k2) (Env.cut_inv (N := E.st.length) k1) h3 (by rw [hln]; exact (hI _ _ k4).1)
    refine ⟨e5, e6, E'', e1, ?_, e4, e3⟩
    rw [e2]
    show I _ (cutSt E.st.length E'.st)
    rw [hln]; exact k4
  · rintro D xs W hD hS ⟨E, rfl, i1, i2, i3⟩ hK
    have := hdone D xs E hD hS i1 i2 i3 hK
    unfold behindA at this
    rwa [hσ0.defers] at this ⊢
end Go.Ab
end

section
namespace Go.Ab
open Go.RowKit
variable {T : Tab} {P : Program} (hT : TabOk T P)
/-- A nil slice in a cell, named as a row of one's own. -/
theorem Env.adoptCell {E : Env} (hi : Inv T E) (e : TypeId) {id off : Nat} {cs : List AV} (hb : E.st[id]? = some (.cells cs)) (hn : cs[off]? = some .nils) :
    ∃ E', E'.w = E.w ∧ E'.st = E.st.set id (.cells (cs.set off (.own E.st.length 0))) ++ [.row e 0 false []] ∧ Inv T E' ∧ Step E E' := by
  obtain ⟨s1, s2, s3⟩ := Env.adopt hi e
  have hidlt : id < E.st.length := (List.getElem?_eq_some_iff.1 hb).1
  have hb' : (E.st ++ [Blk.row e 0 false []])[id]? = some (.cells cs) := by rw [List.getElem?_append_left hidlt]; exact hb
  have hset : (E.st ++ [Blk.row e 0 false []]).set id (.cells (cs.set off (.own E.st.length 0))) = E.st.set id (.cells (cs.set off (.own E.st.length 0))) ++ [.row e 0 false []] := by
    rw [List.set_append_left _ _ hidlt]
  have hup := Env.upd (T := T) (E := { E with st := E.st ++ [.row e 0 false []] }) (b' := E.φ id) (blk' := .cells (cs.set off (.own E.st.length 0))) (w' := E.w) s2 hb' rfl rfl rfl (Nat.le_refl _)
    (fun _ _ _ => rfl) (.inl ⟨rfl, rfl⟩) (by
      unfold Compat
      dsimp only
      rw [List.getElem?_set_self (by simp; omega)]
      exact ⟨⟨cs, hb'⟩, if_pos rfl⟩)
  obtain ⟨cc, t, q1, q2⟩ := hi.blk id _ hb
  have hinv := hup.2 ⟨cc, t, by dsimp only; rw [if_pos rfl]; exact q1, RelC.set (x := .nils) (fun u hu => Rel.step hup.1 _ _ (s3 u (by simpa only [Rel] using hu))) cs _ off (RelC.step hup.1 _ _ (RelC.step s1 _ _ q2)) hn⟩
  exact ⟨⟨E.w, (E.st ++ [Blk.row e 0 false []]).set id (.cells (cs.set off (.own E.st.length 0))), fun i => if i = id then E.φ id else E.φ i, E.M⟩, rfl, hset, hinv, s1.trans hup.1⟩
theorem mark_kept2 {E1 E E' : Env} (hg : Good2 E1 E) (hs : Step E E') {D : Nat} (hD : E1.w.heap.size ≤ D) (hK : E.w.heap[D]? = some (.deferred (some []))) : E'.w.heap[D]? = some (.deferred (some [])) :=
  (hs.blk D (Array.getElem?_eq_some_iff.1 hK).1 (.inl (hg.M3 D _ hD hK rfl))).trans hK

include hT in
/-- The end of a function that has ranged over a function. -/
theorem leaves_range2 {F : Fence} {n nt : Nat} {fn : Func} {r : AV} {E0 E1 E E' : Env} {D : Nat} {σ' : Slots} {a' : Act} (h01 : Step E0 E1) (h0 : E0.st = []) (hg : Good2 E1 E) (hs : Step E E') (hi' : Inv T E') (hl : E'.st.length = E.st.length) (hc : okSt E'.st)
    (hD : E1.w.heap.size ≤ D) (hK : E.w.heap[D]? = some (.deferred (some []))) (hr : RelS T E' nt σ' a') (hsol : ∀ i, (σ' i).solid) (hret : retP T fn.results.toList r σ' E'.st) (hpr : r.pure = true) :
    LeavesInM F n P fn (behindA a' [{ target := .collected D, args := #[] }]).tmps (fun e w' => ∃ u, e = .returned u ∧ Below E0.w.heap.size E0.w w' ∧ Rel T ⟨w', [], fun _ => 0, E0.M⟩ r u) (behindA a' [{ target := .collected D, args := #[] }]).defers .returning E'.w := by
  have hK' := mark_kept2 hg hs hD hK
  have hdef : (behindA a' [{ target := .collected D, args := #[] }]).defers = [{ target := .collected D, args := #[] }] := by simp [behindA, hr.defers]
  rw [hdef]
  obtain ⟨⟨E3, e1, e2, e3, e4, e5⟩, _, _⟩ := hg.round hs hi' hl hc
  obtain ⟨E4, f1, f2, f3, f4, f5⟩ := e3.turn (W' := E'.w.putObj D (.deferred none)) e4 (by rw [e1]; exact grownBy_putObj' E'.w D _) (row := some D) (fun r' e => by cases e; exact ⟨hD, _, by rw [e1]; exact hK', rfl⟩)
  have hr4 : RelS T E4 nt σ' a' := (hr.move e5 hsol).move f5 hsol
  refine ⟨by simp, .inl ⟨D, _, rfl, run_takeDeferred hK', ?_⟩⟩
  have hst : E4.st = E'.st := by rw [f2, e2]
  obtain ⟨u, h1, h2⟩ := run_results (P := P) hT f4 hr4 fn (by rw [hst]; exact hret.1)
  rw [f1] at h1
  refine ⟨u, h1, u, rfl, ?_, ?_⟩
  · rw [← f1]
    refine ⟨f3.os.trans h01.os, f3.tape.trans h01.tape, f3.output.trans h01.output, Nat.le_trans h01.size f3.size, fun k hk => ?_⟩
    have hm0 : E0.M k ∨ ¬ E0.mut k := by
      by_cases hMk : E0.M k
      · exact .inl hMk
      · refine .inr ?_
        rintro (h | ⟨id, blk, h, _⟩)
        · exact hMk h
        · rw [h0] at h; simp at h
    refine (f3.blk k (Nat.lt_of_lt_of_le hk h01.size) ?_).trans (h01.blk k hk hm0)
    rcases hm0 with hm | hm
    · exact .inl (by rw [h01.M]; exact hm)
    · exact .inr (h01.stab k ⟨hk, hm⟩).2
  · rw [hst] at h2
    have h3 := rel_frz f4 _ u (by rw [hst]; exact leV_pure _ _ hret.2 hpr) h2
    rw [hst] at h3
    have h4 := leV_rel _ _ _ hret.2 h3
    refine Rel.pureTo (E := E4.bare) (F := ⟨E'.w.putObj D (.deferred none), [], fun _ => 0, E0.M⟩) (by rw [← f1]; rfl) (fun b hb => ⟨by rw [← f1]; exact hb.1, fun hm => hb.2 ?_⟩) r u hpr h4
    rcases hm with hm | ⟨id, blk, k1, _⟩
    · exact .inl (f3.M1 b (by rw [h01.M]; exact hm))
    · simp at k1
end Go.Ab
end
