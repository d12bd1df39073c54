/- Terms as trees: their size, depth, variables, what they are with others in the places of variables, what they come to: plain laws, no condition. -/
import Derived.Test.YtfccfdjmnkjjjaaW2
set_option linter.unusedSimpArgs false
set_option linter.unusedVariables false
set_option linter.unusedSectionVars false
set_option linter.unnecessarySimpa false
section
namespace Go.Ab

/-- Terms, as trees. -/
inductive Tm where
  | mk (k n : Int) (s : ByteArray) (l : List Tm)

mutual
theorem Tm.ind {p : Tm → Prop} (h : ∀ k n s l, (∀ t ∈ l, p t) → p (.mk k n s l)) : ∀ t, p t
  | .mk k n s l => h k n s l (Tm.indL h l)
theorem Tm.indL {p : Tm → Prop} (h : ∀ k n s l, (∀ t ∈ l, p t) → p (.mk k n s l)) : ∀ l : List Tm, ∀ t ∈ l, p t
  | [] => fun _ ht => by cases ht
  | x :: xs => fun t ht => (List.mem_cons.1 ht).elim (fun e => e ▸ Tm.ind h x) (Tm.indL h xs t)
end

mutual
def Tm.ex : Tm → Tm → Bool
  | .mk k n s l, .mk k' n' s' l' => decide (k = k') && decide (n = n') && decide (s = s') && Tm.exL l l'
def Tm.exL : List Tm → List Tm → Bool
  | [], [] => true
  | x :: xs, y :: ys => Tm.ex x y && Tm.exL xs ys
  | _, _ => false
end
mutual
theorem Tm.ex_iff : ∀ a b : Tm, a.ex b = true ↔ a = b
  | .mk k n s l, .mk k' n' s' l' => by
    simp only [Tm.ex, Bool.and_eq_true, decide_eq_true_eq, Tm.mk.injEq, Tm.exL_iff l l', and_assoc]
theorem Tm.exL_iff : ∀ a b : List Tm, Tm.exL a b = true ↔ a = b
  | [], [] => by simp [Tm.exL]
  | x :: xs, y :: ys => by simp only [Tm.exL, Bool.and_eq_true, Tm.ex_iff x y, Tm.exL_iff xs ys, List.cons.injEq]
  | [], _ :: _ => by simp [Tm.exL]
  | _ :: _, [] => by simp [Tm.exL]
end
instance : DecidableEq Tm := fun a b => decidable_of_iff _ (Tm.ex_iff a b)

mutual
/-- A term's four cells; e: the type's number. -/
def Tm.cells (e : Nat) : Tm → List AV
  | .mk k n s l => [.sc (.int .i64 k), .sc (.int .i64 n), .sc (.string s), .lst e (Tm.cellsL e l)]
def Tm.cellsL (e : Nat) : List Tm → List (List AV)
  | [] => []
  | t :: ts => Tm.cells e t :: Tm.cellsL e ts
end
theorem Tm.cellsL_map (e : Nat) : ∀ l : List Tm, Tm.cellsL e l = l.map (Tm.cells e)
  | [] => rfl
  | t :: ts => by simp only [Tm.cellsL, List.map_cons, Tm.cellsL_map e ts]
@[simp] theorem Tm.cellsL_len (e : Nat) (l : List Tm) : (Tm.cellsL e l).length = l.length := by simp [Tm.cellsL_map]
@[simp] theorem Tm.cellsL_nil (e : Nat) (l : List Tm) : Tm.cellsL e l = [] ↔ l = [] := by simp [Tm.cellsL_map]
@[simp] theorem Tm.cells_len (e : Nat) : ∀ t : Tm, (t.cells e).length = 4
  | .mk _ _ _ _ => rfl
@[simp] theorem Tm.cellsL_get (e : Nat) (l : List Tm) (i : Nat) : (Tm.cellsL e l)[i]? = (l[i]?).map (Tm.cells e) := by simp [Tm.cellsL_map]
@[simp] theorem Tm.cellsL_getElem (e : Nat) (l : List Tm) (i : Nat) (h : i < (Tm.cellsL e l).length) : (Tm.cellsL e l)[i] = (l[i]'(by simpa using h)).cells e := by simp [Tm.cellsL_map]
mutual
@[simp] theorem Tm.cells_pure (e : Nat) : ∀ t : Tm, AV.pureL (t.cells e) = true
  | .mk k n s l => by simp only [Tm.cells, AV.pureL, AV.pure, Tm.cellsL_pure e l]; rfl
@[simp] theorem Tm.cellsL_pure (e : Nat) : ∀ l : List Tm, AV.pureM (Tm.cellsL e l) = true
  | [] => rfl
  | t :: ts => by simp only [Tm.cellsL, AV.pureM, Tm.cells_pure e t, Tm.cellsL_pure e ts]; rfl
end
mutual
theorem frz_pure (st : St) : ∀ x : AV, x.pure = true → x.frz st = x
  | .own _ _, h => by cases h
  | .agg cs, h => by simp only [AV.pure] at h; simp only [AV.frz, frz_pureL st cs h]
  | .tup cs, h => by simp only [AV.pure] at h; simp only [AV.frz, frz_pureL st cs h]
  | .sc _, _ => rfl
  | .lst _ _, _ => rfl
  | .nils, _ => rfl
  | .ptr _ _, _ => rfl
  | .rptr _ _ _ _, _ => rfl
  | .sub _ _ _ _, _ => rfl
  | .eptr _, _ => rfl
  | .fn _ _ _, _ => rfl
  | .mp _, _ => rfl
  | .gate _ _, _ => rfl
  | .any, _ => rfl
theorem frz_pureL (st : St) : ∀ xs : List AV, AV.pureL xs = true → AV.frzL st xs = xs
  | [], _ => rfl
  | x :: xs, h => by
    simp only [AV.pureL, Bool.and_eq_true] at h
    simp only [AV.frzL, frz_pure st x h.1, frz_pureL st xs h.2]
end
mutual
theorem cut_pure (N : Nat) (S : St) : ∀ x : AV, x.pure = true → x.cut N S = x
  | .own _ _, h => by cases h
  | .ptr _ _, h => by cases h
  | .rptr _ _ _ _, h => by cases h
  | .sub _ _ _ _, h => by cases h
  | .mp _, h => by cases h
  | .agg cs, h => by simp only [AV.pure] at h; simp only [AV.cut, cut_pureL N S cs h]
  | .tup cs, h => by simp only [AV.pure] at h; simp only [AV.cut, cut_pureL N S cs h]
  | .lst e l, h => by simp only [AV.pure] at h; simp only [AV.cut, cut_pureM N S l h]
  | .eptr cs, h => by simp only [AV.pure] at h; simp only [AV.cut, cut_pureL N S cs h]
  | .fn f fs cs, h => by simp only [AV.pure, Bool.and_eq_true] at h; simp only [AV.cut, cut_pureL N S fs h.1, cut_pureL N S cs h.2]
  | .gate c x, h => by simp only [AV.pure] at h; simp only [AV.cut, cut_pure N S x h]; cases c <;> rfl
  | .sc _, _ => rfl
  | .nils, _ => rfl
  | .any, _ => rfl
theorem cut_pureL (N : Nat) (S : St) : ∀ xs : List AV, AV.pureL xs = true → AV.cutL N S xs = xs
  | [], _ => rfl
  | x :: xs, h => by
    simp only [AV.pureL, Bool.and_eq_true] at h
    simp only [AV.cutL, cut_pure N S x h.1, cut_pureL N S xs h.2]
theorem cut_pureM (N : Nat) (S : St) : ∀ xs : List (List AV), AV.pureM xs = true → AV.cutM N S xs = xs
  | [], _ => rfl
  | x :: xs, h => by
    simp only [AV.pureM, Bool.and_eq_true] at h
    simp only [AV.cutM, cut_pureL N S x h.1, cut_pureM N S xs h.2]
end
@[simp] theorem Tm.frz_cells (e : Nat) (t : Tm) (st : St) : AV.frzL st (t.cells e) = t.cells e := frz_pureL st _ (by simp)
@[simp] theorem Tm.cut_cells (e : Nat) (t : Tm) (N : Nat) (st : St) : AV.cutL N st (t.cells e) = t.cells e := cut_pureL N st _ (by simp)
@[simp] theorem Tm.cut_cellsL (e : Nat) (l : List Tm) (N : Nat) (st : St) : AV.cutM N st (Tm.cellsL e l) = Tm.cellsL e l := cut_pureM N st _ (by simp)
/-- A term's value. -/
abbrev Tm.av (e : Nat) (t : Tm) : AV := .agg (t.cells e)

@[simp] theorem Tm.cells_take (e : Nat) (t : Tm) : (t.cells e).take 4 = t.cells e := by rw [List.take_of_length_le (by simp)]

end Go.Ab
end

section
namespace Go.Ab

/-- May a part be, its arguments not asked? -/
def partB (k n : Int) (s : ByteArray) (len : Nat) : Bool :=
  if k = 1 then decide (0 ≤ n) && decide (n < 1073741824) && decide (s = ⟨#[]⟩) && decide (len = 0)
  else if k = 2 then decide (-9007199254740991 ≤ n) && decide (n ≤ 9007199254740991) && decide (s = ⟨#[]⟩) && decide (len = 0)
  else if k = 3 then decide (n = 0) && decide ((s.size : Int) ≤ 64) && decide (len = 0)
  else if k = 4 then decide (n = 0) && decide ((s.size : Int) ≤ 64) && decide (1 ≤ (len : Int)) && decide ((len : Int) ≤ 16)
  else false

mutual
def Tm.size : Tm → Nat
  | .mk _ _ _ l => 1 + Tm.sizeL l
def Tm.sizeL : List Tm → Nat
  | [] => 0
  | t :: ts => Tm.size t + Tm.sizeL ts
end
mutual
def Tm.depth : Tm → Nat
  | .mk _ _ _ l => Tm.depthL l + 1
def Tm.depthL : List Tm → Nat
  | [] => 0
  | t :: ts => max (Tm.depth t) (Tm.depthL ts)
end
mutual
def Tm.right : Tm → Bool
  | .mk k n s l => partB k n s l.length && Tm.rightL l
def Tm.rightL : List Tm → Bool
  | [] => true
  | t :: ts => Tm.right t && Tm.rightL ts
end
theorem Tm.sizeL_append (a b : List Tm) : Tm.sizeL (a ++ b) = Tm.sizeL a + Tm.sizeL b := by
  induction a with
  | nil => simp [Tm.sizeL]
  | cons x xs ih => simp only [List.cons_append, Tm.sizeL, ih]; omega
theorem Tm.depthL_append (a b : List Tm) : Tm.depthL (a ++ b) = max (Tm.depthL a) (Tm.depthL b) := by
  induction a with
  | nil => simp [Tm.depthL]
  | cons x xs ih => simp only [List.cons_append, Tm.depthL, ih]; omega
theorem Tm.rightL_append (a b : List Tm) : Tm.rightL (a ++ b) = (Tm.rightL a && Tm.rightL b) := by
  induction a with
  | nil => simp [Tm.rightL]
  | cons x xs ih => simp only [List.cons_append, Tm.rightL, ih, Bool.and_assoc]
theorem Tm.take_succ {l : List Tm} {i : Nat} (h : i < l.length) : l.take (i + 1) = l.take i ++ [l[i]] := by
  rw [List.take_add_one]; simp [h]
theorem Tm.sizeL_take {l : List Tm} {i : Nat} (h : i < l.length) : Tm.sizeL (l.take (i + 1)) = Tm.sizeL (l.take i) + l[i].size := by
  rw [Tm.take_succ h, Tm.sizeL_append]; simp [Tm.sizeL]
theorem Tm.depthL_take {l : List Tm} {i : Nat} (h : i < l.length) : Tm.depthL (l.take (i + 1)) = max (Tm.depthL (l.take i)) l[i].depth := by
  rw [Tm.take_succ h, Tm.depthL_append]; simp [Tm.depthL]
theorem Tm.rightL_take {l : List Tm} {i : Nat} (h : i < l.length) : Tm.rightL (l.take (i + 1)) = (Tm.rightL (l.take i) && l[i].right) := by
  rw [Tm.take_succ h, Tm.rightL_append]; simp [Tm.rightL]
theorem Tm.sizeL_take_le (l : List Tm) (i : Nat) : Tm.sizeL (l.take i) ≤ Tm.sizeL l := by
  conv => rhs; rw [← List.take_append_drop i l, Tm.sizeL_append]
  omega
theorem Tm.depthL_take_le (l : List Tm) (i : Nat) : Tm.depthL (l.take i) ≤ Tm.depthL l := by
  conv => rhs; rw [← List.take_append_drop i l, Tm.depthL_append]
  omega
mutual
theorem Tm.depth_le_size : ∀ t : Tm, t.depth ≤ t.size
  | .mk _ _ _ l => by simp only [Tm.depth, Tm.size]; have := Tm.depthL_le_sizeL l; omega
theorem Tm.depthL_le_sizeL : ∀ l : List Tm, Tm.depthL l ≤ Tm.sizeL l
  | [] => by simp [Tm.depthL]
  | t :: ts => by simp only [Tm.depthL, Tm.sizeL]; have := Tm.depth_le_size t; have := Tm.depthL_le_sizeL ts; omega
end
theorem Tm.depth_pos : ∀ t : Tm, 1 ≤ t.depth
  | .mk _ _ _ l => by simp only [Tm.depth]; omega
theorem Tm.size_pos : ∀ t : Tm, 1 ≤ t.size
  | .mk _ _ _ l => by simp only [Tm.size]; omega
theorem Tm.size_get {l : List Tm} {i : Nat} (h : i < l.length) : Tm.sizeL (l.take i) + l[i].size ≤ Tm.sizeL l := by
  rw [← Tm.sizeL_take h]; exact Tm.sizeL_take_le l (i + 1)

/-- A term whose parts can be counted. -/
def Tm.small (t : Tm) : Prop := t.size ≤ 900000000
/-- What Check hands back. -/
def Tm.check (t : Tm) : Int := if t.right = false then 60 else if 200 < t.depth then 61 else if 4096 < t.size then 62 else 0
end Go.Ab
end

section
namespace Go.Ab
mutual
/-- Variables by others. -/
def Tm.sub (f : Int → Tm) : Tm → Tm
  | .mk k n s l => if k = 1 then f n else .mk k n s (Tm.subL f l)
def Tm.subL (f : Int → Tm) : List Tm → List Tm
  | [] => []
  | t :: ts => Tm.sub f t :: Tm.subL f ts
end
theorem Tm.subL_map (f : Int → Tm) : ∀ l : List Tm, Tm.subL f l = l.map (Tm.sub f)
  | [] => rfl
  | t :: ts => by simp only [Tm.subL, List.map_cons, Tm.subL_map f ts]
@[simp] theorem Tm.subL_len (f : Int → Tm) (l : List Tm) : (Tm.subL f l).length = l.length := by simp [Tm.subL_map]
theorem Tm.subL_take {l : List Tm} {i : Nat} (h : i < l.length) (f : Int → Tm) : Tm.subL f (l.take (i + 1)) = Tm.subL f (l.take i) ++ [l[i].sub f] := by rw [Tm.take_succ h, Tm.subL_map, Tm.subL_map, List.map_append]; rfl
@[simp] theorem Tm.cellsL_append (e : Nat) (a b : List Tm) : Tm.cellsL e (a ++ b) = Tm.cellsL e a ++ Tm.cellsL e b := by simp [Tm.cellsL_map]
mutual
/-- The variables' numbers, one for each place. -/
def Tm.occ : Tm → List Int
  | .mk k n _ l => if k = 1 then [n] else Tm.occL l
def Tm.occL : List Tm → List Int
  | [] => []
  | t :: ts => Tm.occ t ++ Tm.occL ts
end
theorem Tm.occ_mem {l : List Tm} {t : Tm} (h : t ∈ l) {n : Int} (hn : n ∈ t.occ) : n ∈ Tm.occL l := by
  induction l with
  | nil => cases h
  | cons x xs ih =>
    simp only [Tm.occL, List.mem_append]
    rcases List.mem_cons.1 h with rfl | h
    · exact .inl hn
    · exact .inr (ih h)
/-- Where the first one is. -/
def Tm.fi (p : Tm → Bool) : List Tm → Nat → Int
  | [], _ => -1
  | x :: xs, i => if p x = true then i else Tm.fi p xs (i + 1)
theorem Tm.fi_iff (p : Tm → Bool) : ∀ (l : List Tm) (i : Nat), 0 ≤ Tm.fi p l i ↔ l.any p = true
  | [], i => by simp [Tm.fi]
  | x :: xs, i => by
    simp only [Tm.fi, List.any_cons, Bool.or_eq_true]
    split
    · rename_i h; simp [h]
    · rename_i h; rw [Tm.fi_iff p xs (i + 1)]; simp [h]
/-- A variable. -/
def Tm.var (n : Int) : Tm := .mk 1 n ⟨#[]⟩ []
def Tm.zero : Tm := .mk 0 0 ⟨#[]⟩ []
theorem partB_one {n : Int} {s : ByteArray} {m : Nat} (h : partB 1 n s m = true) : 0 ≤ n ∧ n < 1073741824 ∧ s = ⟨#[]⟩ ∧ m = 0 := by
  simp [partB] at h; exact ⟨h.1.1.1, h.1.1.2, h.1.2, h.2⟩
mutual
theorem Tm.sub_var : ∀ t : Tm, t.right = true → t.sub Tm.var = t
  | .mk k n s l => by
    intro h
    simp only [Tm.right, Bool.and_eq_true] at h
    simp only [Tm.sub]
    split
    · rename_i hk
      subst hk
      obtain ⟨_, _, h3, h4⟩ := partB_one h.1
      rw [h3, List.eq_nil_of_length_eq_zero h4]; rfl
    · rw [Tm.subL_var l h.2]
theorem Tm.subL_var : ∀ l : List Tm, Tm.rightL l = true → Tm.subL Tm.var l = l
  | [] => fun _ => rfl
  | t :: ts => by
    intro h
    simp only [Tm.rightL, Bool.and_eq_true] at h
    simp only [Tm.subL, Tm.sub_var t h.1, Tm.subL_var ts h.2]
end
theorem Tm.right_of_check {t : Tm} (h : t.check = 0) : t.right = true := by
  unfold Tm.check at h
  by_cases hr : t.right = false
  · rw [if_pos hr] at h; cases h
  · simpa using hr
mutual
theorem Tm.occ_pos : ∀ t : Tm, t.right = true → ∀ n ∈ t.occ, 0 ≤ n ∧ n < 1073741824
  | .mk k n s l => by
    intro h m hm
    simp only [Tm.right, Bool.and_eq_true] at h
    simp only [Tm.occ] at hm
    split at hm
    · rename_i hk
      subst hk
      obtain ⟨h1, h2, _⟩ := partB_one h.1
      simp at hm; subst hm; exact ⟨h1, h2⟩
    · exact Tm.occL_pos l h.2 m hm
theorem Tm.occL_pos : ∀ l : List Tm, Tm.rightL l = true → ∀ n ∈ Tm.occL l, 0 ≤ n ∧ n < 1073741824
  | [] => fun _ n hn => by cases hn
  | t :: ts => by
    intro h n hn
    simp only [Tm.rightL, Bool.and_eq_true] at h
    simp only [Tm.occL, List.mem_append] at hn
    rcases hn with hn | hn
    · exact Tm.occ_pos t h.1 n hn
    · exact Tm.occL_pos ts h.2 n hn
end
/-- Put behind, once. -/
def addV (out : List Int) (n : Int) : List Int := if n ∈ out then out else out ++ [n]
mutual
def Tm.vars : Tm → List Int → List Int
  | .mk k n _ l, out => if k = 1 then addV out n else Tm.varsL l out
def Tm.varsL : List Tm → List Int → List Int
  | [], out => out
  | t :: ts, out => Tm.varsL ts (Tm.vars t out)
end
theorem Tm.varsL_append (a b : List Tm) (out : List Int) : Tm.varsL (a ++ b) out = Tm.varsL b (Tm.varsL a out) := by
  induction a generalizing out with
  | nil => rfl
  | cons x xs ih => simp only [List.cons_append, Tm.varsL, ih]
theorem Tm.varsL_take {l : List Tm} {i : Nat} (h : i < l.length) (out : List Int) : Tm.varsL (l.take (i + 1)) out = l[i].vars (Tm.varsL (l.take i) out) := by
  rw [Tm.take_succ h, Tm.varsL_append]; rfl
theorem addV_len (out : List Int) (n : Int) : (addV out n).length ≤ out.length + 1 := by unfold addV; split <;> simp
mutual
theorem Tm.vars_len : ∀ (t : Tm) (out : List Int), (t.vars out).length ≤ out.length + t.size
  | .mk k n s l, out => by
    simp only [Tm.vars, Tm.size]
    split
    · have := addV_len out n; omega
    · have := Tm.varsL_len l out; omega
theorem Tm.varsL_len : ∀ (l : List Tm) (out : List Int), (Tm.varsL l out).length ≤ out.length + Tm.sizeL l
  | [], out => by simp [Tm.varsL, Tm.sizeL]
  | t :: ts, out => by
    simp only [Tm.varsL, Tm.sizeL]
    have h1 := Tm.vars_len t out
    have h2 := Tm.varsL_len ts (t.vars out)
    omega
end
/-- Numbers, as a row's cells. -/
def intsL (l : List Int) : List (List AV) := l.map fun n => [.sc (.int .i64 n)]
@[simp] theorem intsL_len (l : List Int) : (intsL l).length = l.length := by simp [intsL]
@[simp] theorem intsL_nil (l : List Int) : intsL l = [] ↔ l = [] := by simp [intsL]
@[simp] theorem intsL_getElem (l : List Int) (i : Nat) (h : i < (intsL l).length) : (intsL l)[i] = [.sc (.int .i64 (l[i]'(by simpa using h)))] := by simp [intsL]
@[simp] theorem intsL_append (a b : List Int) : intsL (a ++ b) = intsL a ++ intsL b := by simp [intsL]
@[simp] theorem intsL_pure : ∀ l : List Int, AV.pureM (intsL l) = true
  | [] => rfl
  | x :: xs => by have := intsL_pure xs; unfold intsL at *; simp [AV.pureM, AV.pureL, AV.pure, this]
@[simp] theorem intsL_cut (l : List Int) (N : Nat) (st : St) : AV.cutM N st (intsL l) = intsL l := cut_pureM N st _ (by simp)
/-- Where a number is. -/
def placeI : List Int → Int → Nat → Int
  | [], _, _ => -1
  | x :: xs, n, i => if x = n then i else placeI xs n (i + 1)
/-- What a map from numbers to their places holds. -/
def mapOf : List Int → Nat → List (Value × AV)
  | [], _ => []
  | x :: xs, i => (.int .i64 x, .sc (.int .i64 i)) :: mapOf xs (i + 1)
@[simp] theorem mapOf_keys : ∀ (l : List Int) (i : Nat), intKeys (mapOf l i) = true
  | [], _ => rfl
  | x :: xs, i => by have := mapOf_keys xs (i + 1); simp only [intKeys, mapOf, List.all_cons, Bool.true_and] at this ⊢; exact this
theorem mapOf_get : ∀ (l : List Int) (n : Int) (i : Nat), mget (mapOf l i) n = if n ∈ l then some (.sc (.int .i64 (placeI l n i))) else none
  | [], n, i => by simp [mapOf, mget]
  | x :: xs, n, i => by
    have ih := mapOf_get xs n (i + 1)
    by_cases h : x = n
    · subst h; simp [mapOf, mget, isK, placeI]
    · have h' : ¬ n = x := fun e => h e.symm
      simp [mapOf, mget, isK, placeI, h, h', ih]
theorem mapOf_put : ∀ (l : List Int) (n : Int) (i : Nat), n ∉ l → mput (mapOf l i) n (.sc (.int .i64 (i + l.length : Nat))) = mapOf (l ++ [n]) i
  | [], n, i, _ => by simp [mapOf, mput]
  | x :: xs, n, i, h => by
    simp only [List.mem_cons, not_or] at h
    have h' : ¬ x = n := fun e => h.1 e.symm
    have ih := mapOf_put xs n (i + 1) h.2
    have e : i + (x :: xs).length = i + 1 + xs.length := by simp; omega
    rw [e]
    simp only [mapOf, mput, List.cons_append]
    rw [if_neg (by simp [isK, h']), ih]
theorem placeI_last : ∀ (l : List Int) (n : Int) (i : Nat), n ∉ l → placeI (l ++ [n]) n i = (i + l.length : Nat)
  | [], n, i, _ => by simp [placeI]
  | x :: xs, n, i, h => by
    simp only [List.mem_cons, not_or] at h
    have h' : ¬ x = n := fun e => h.1 e.symm
    simp only [List.cons_append, placeI, if_neg h']
    rw [placeI_last xs n (i + 1) h.2]
    simp; omega
end Go.Ab
end

section
namespace Go.Ab
mutual
theorem Tm.sub_congr (f g : Int → Tm) : ∀ t : Tm, (∀ n ∈ t.occ, f n = g n) → t.sub f = t.sub g
  | .mk k n s l => by
    intro h
    simp only [Tm.occ] at h
    simp only [Tm.sub]
    split
    · rename_i hk; rw [if_pos hk] at h; exact h n (by simp)
    · rename_i hk; rw [if_neg hk] at h; rw [Tm.subL_congr f g l h]
theorem Tm.subL_congr (f g : Int → Tm) : ∀ l : List Tm, (∀ n ∈ Tm.occL l, f n = g n) → Tm.subL f l = Tm.subL g l
  | [] => fun _ => rfl
  | t :: ts => by
    intro h
    simp only [Tm.occL, List.mem_append] at h
    simp only [Tm.subL, Tm.sub_congr f g t (fun n hn => h n (.inl hn)), Tm.subL_congr f g ts (fun n hn => h n (.inr hn))]
end
theorem addV_pre (L : List Int) (n : Int) : ∃ B, addV L n = L ++ B := by
  unfold addV; split
  · exact ⟨[], by simp⟩
  · exact ⟨[n], rfl⟩
theorem mem_addV (L : List Int) (n m : Int) : m ∈ addV L n ↔ m ∈ L ∨ m = n := by
  unfold addV; split
  · rename_i h; constructor
    · exact .inl
    · rintro (h' | rfl)
      · exact h'
      · exact h
  · simp
mutual
theorem Tm.vars_pre : ∀ (t : Tm) (L : List Int), ∃ B, t.vars L = L ++ B
  | .mk k n s l, L => by
    simp only [Tm.vars]
    split
    · exact addV_pre L n
    · exact Tm.varsL_pre l L
theorem Tm.varsL_pre : ∀ (l : List Tm) (L : List Int), ∃ B, Tm.varsL l L = L ++ B
  | [], L => ⟨[], by simp [Tm.varsL]⟩
  | t :: ts, L => by
    obtain ⟨B, hB⟩ := Tm.vars_pre t L
    obtain ⟨C, hC⟩ := Tm.varsL_pre ts (L ++ B)
    exact ⟨B ++ C, by rw [Tm.varsL, hB, hC, List.append_assoc]⟩
end
mutual
theorem Tm.mem_vars : ∀ (t : Tm) (L : List Int) (m : Int), m ∈ t.vars L ↔ m ∈ L ∨ m ∈ t.occ
  | .mk k n s l, L, m => by
    simp only [Tm.vars, Tm.occ]
    split
    · rw [mem_addV]; simp
    · exact Tm.mem_varsL l L m
theorem Tm.mem_varsL : ∀ (l : List Tm) (L : List Int) (m : Int), m ∈ Tm.varsL l L ↔ m ∈ L ∨ m ∈ Tm.occL l
  | [], L, m => by simp [Tm.varsL, Tm.occL]
  | t :: ts, L, m => by
    rw [Tm.varsL, Tm.mem_varsL ts, Tm.mem_vars t, Tm.occL, List.mem_append, or_assoc]
end
theorem placeI_pre : ∀ (A B : List Int) (n : Int) (i : Nat), n ∈ A → placeI (A ++ B) n i = placeI A n i
  | [], _, _, _, h => by cases h
  | x :: xs, B, n, i, h => by
    simp only [List.cons_append, placeI]
    split
    · rfl
    · rename_i hx
      rcases List.mem_cons.1 h with rfl | h
      · exact absurd rfl hx
      · exact placeI_pre xs B n (i + 1) h
/-- A term whose variables are numbered by their places. -/
def numT (W : List Int) (t : Tm) : Tm := t.sub fun n => Tm.var (placeI W n 0)
theorem numT_vars {W B : List Int} (t : Tm) (h : ∀ n ∈ t.occ, n ∈ W) : numT (W ++ B) t = numT W t :=
  Tm.sub_congr _ _ t fun n hn => by rw [placeI_pre W B n 0 (h n hn)]
theorem numL_take {l : List Tm} {i : Nat} (h : i < l.length) (L : List Int) :
    Tm.subL (fun n => Tm.var (placeI (Tm.varsL (l.take (i + 1)) L) n 0)) (l.take (i + 1)) =
      Tm.subL (fun n => Tm.var (placeI (Tm.varsL (l.take i) L) n 0)) (l.take i) ++ [numT (l[i].vars (Tm.varsL (l.take i) L)) l[i]] := by
  rw [Tm.subL_take h, Tm.varsL_take h]
  congr 1
  refine Tm.subL_congr _ _ _ fun n hn => ?_
  obtain ⟨B, hB⟩ := Tm.vars_pre l[i] (Tm.varsL (l.take i) L)
  rw [hB, placeI_pre _ B n 0 ((Tm.mem_varsL _ L n).2 (.inr hn))]
theorem renT_eq (t : Tm) : t.sub (fun n => Tm.var (placeI (t.vars []) n 0)) = numT (t.vars []) t := rfl
end Go.Ab
end

section
namespace Go.Ab
mutual
/-- Too large to be looked at: with what was counted. -/
def Tm.lg : Tm → Int → Int → Bool × Int
  | .mk _ _ s l, d, n => if 6000 < n + 1 + (s.size : Int) / 16 ∨ 300 < d ∨ 100 < l.length then (true, n + 1 + (s.size : Int) / 16) else Tm.lgL l (d + 1) (n + 1 + (s.size : Int) / 16)
def Tm.lgL : List Tm → Int → Int → Bool × Int
  | [], _, n => (false, n)
  | t :: ts, d, n => if (Tm.lg t d n).1 = true then (true, (Tm.lg t d n).2) else Tm.lgL ts d (Tm.lg t d n).2
end
theorem Tm.lgL_append : ∀ (a b : List Tm) (d n : Int), Tm.lgL (a ++ b) d n = if (Tm.lgL a d n).1 = true then (true, (Tm.lgL a d n).2) else Tm.lgL b d (Tm.lgL a d n).2
  | [], b, d, n => by simp [Tm.lgL]
  | t :: ts, b, d, n => by
    simp only [List.cons_append, Tm.lgL]
    by_cases h : (Tm.lg t d n).1 = true
    · simp only [if_pos h, if_true]
    · simp only [if_neg h]; exact Tm.lgL_append ts b d _
theorem Tm.lgL_take {l : List Tm} {i : Nat} (h : i < l.length) (d n : Int) (hf : (Tm.lgL (l.take i) d n).1 = false) :
    Tm.lgL (l.take (i + 1)) d n = Tm.lg l[i] d (Tm.lgL (l.take i) d n).2 := by
  rw [Tm.take_succ h, Tm.lgL_append, hf]
  simp only [Bool.false_eq_true, if_false, Tm.lgL]
  split
  · rename_i h1; rw [← h1]
  · rename_i h1; simp at h1; rw [← h1]
theorem Tm.lgL_true {l : List Tm} {i : Nat} (d n : Int) (h : (Tm.lgL (l.take i) d n).1 = true) : Tm.lgL l d n = (true, (Tm.lgL (l.take i) d n).2) := by
  conv => lhs; rw [← List.take_append_drop i l]
  rw [Tm.lgL_append, if_pos h]
mutual
theorem Tm.lg_size : ∀ (t : Tm) (d n : Int), 0 ≤ n → (Tm.lg t d n).1 = false → n + t.size ≤ (Tm.lg t d n).2 ∧ (Tm.lg t d n).2 ≤ 6000
  | .mk k m s l, d, n => by
    intro hn h
    have h0 : (0 : Int) ≤ (s.size : Int) / 16 := Int.ediv_nonneg (Int.natCast_nonneg _) (by decide)
    simp only [Tm.lg] at h ⊢
    split at h
    · cases h
    · rename_i hc
      rw [if_neg hc]
      simp only [not_or] at hc
      simp only [Tm.size]
      have := Tm.lgL_size l (d + 1) _ (by omega) (by omega) h
      omega
theorem Tm.lgL_size : ∀ (l : List Tm) (d n : Int), 0 ≤ n → n ≤ 6000 → (Tm.lgL l d n).1 = false → n + Tm.sizeL l ≤ (Tm.lgL l d n).2 ∧ (Tm.lgL l d n).2 ≤ 6000
  | [], d, n => by intro h1 h2 h3; simp [Tm.lgL, Tm.sizeL, h2]
  | t :: ts, d, n => by
    intro h1 h2 h3
    simp only [Tm.lgL, Tm.sizeL] at h3 ⊢
    split at h3
    · cases h3
    · rename_i hc
      rw [if_neg hc]
      have e1 := Tm.lg_size t d n h1 (by simpa using hc)
      have e2 := Tm.lgL_size ts d _ (by omega) (by omega) h3
      omega
end
mutual
/-- No name is longer than a machine holds. -/
def Tm.nice : Tm → Prop
  | .mk _ _ s l => s.size ≤ 140737488355328 ∧ Tm.niceL l
def Tm.niceL : List Tm → Prop
  | [] => True
  | t :: ts => Tm.nice t ∧ Tm.niceL ts
end
theorem Tm.niceL_mem : ∀ {l : List Tm}, Tm.niceL l → ∀ t ∈ l, t.nice
  | [], _, t, h => by cases h
  | x :: xs, h, t, ht => by
    rcases List.mem_cons.1 ht with rfl | ht
    · exact h.1
    · exact Tm.niceL_mem h.2 t ht
/-- Large. -/
def Tm.large (t : Tm) : Bool := (Tm.lg t 0 0).1
theorem Tm.large_size {t : Tm} (h : t.large = false) : t.size ≤ 6000 := by
  have := Tm.lg_size t 0 0 (by omega) h; omega
theorem Tm.large_small {t : Tm} (h : t.large = false) : t.small := by
  have := Tm.large_size h; unfold Tm.small; omega
end Go.Ab
end

section
namespace Go.Ab
/-- A list's items, and its tail. -/
def Tm.items (t : Tm) : List Tm × Tm :=
  match t with
  | .mk k n s [x, y] => if k = 4 ∧ s = ⟨#[46]⟩ then (x :: (Tm.items y).1, (Tm.items y).2) else ([], .mk k n s [x, y])
  | .mk k n s l => ([], .mk k n s l)
termination_by t.size
decreasing_by all_goals (simp only [Tm.size, Tm.sizeL]; omega)
theorem Tm.items_two (n : Int) (x y : Tm) : Tm.items (.mk 4 n ⟨#[46]⟩ [x, y]) = (x :: (Tm.items y).1, (Tm.items y).2) := by
  rw [Tm.items]; simp
theorem Tm.items_end {k n : Int} {s : ByteArray} {l : List Tm} (h : ¬ (k = 4 ∧ s = ⟨#[46]⟩ ∧ l.length = 2)) : Tm.items (.mk k n s l) = ([], .mk k n s l) := by
  unfold Tm.items
  split
  · rename_i k' n' s' x y e
    injection e with e1 e2 e3 e4
    subst e1; subst e3; subst e4
    rw [if_neg]
    · rw [e2]
    · intro h'; exact h ⟨h'.1, h'.2, rfl⟩
  · rename_i k' n' s' l' h0 e
    rw [e]
theorem Tm.len2 {l : List Tm} (h : l.length = 2) : ∃ x y, l = [x, y] := by
  match l, h with
  | [x, y], _ => exact ⟨x, y, rfl⟩
end Go.Ab
end

section
namespace Go.Ab
/-- A list of items, and a tail. -/
def Tm.list (tail : Tm) : List Tm → Tm
  | [] => tail
  | x :: xs => .mk 4 0 ⟨#[46]⟩ [x, Tm.list tail xs]
theorem Tm.list_drop {l : List Tm} {i : Nat} (tail : Tm) (h : i < l.length) : Tm.list tail (l.drop i) = .mk 4 0 ⟨#[46]⟩ [l[i], Tm.list tail (l.drop (i + 1))] := by
  rw [List.drop_eq_getElem_cons h]; rfl
end Go.Ab
end

section
namespace Go.Ab
theorem Tm.niceL_take {l : List Tm} {i : Nat} (h : i < l.length) (hn : Tm.niceL l) : l[i].nice := Tm.niceL_mem hn _ (List.getElem_mem h)
/-- Whether terms are too large. -/
def manyT (l : List Tm) : Bool := l.any Tm.large || decide (10000 < Tm.sizeL l)
/-- None so far. -/
def noneL (l : List Tm) : Prop := l.any Tm.large = false
theorem noneL_take {l : List Tm} {i : Nat} (h : i < l.length) (hn : noneL (l.take i)) (hx : l[i].large = false) : noneL (l.take (i + 1)) := by
  unfold noneL at *
  rw [Tm.take_succ h, List.any_append, hn]
  simp [hx]
theorem noneL_size {l : List Tm} (hn : noneL l) : Tm.sizeL l ≤ 6000 * l.length := by
  induction l with
  | nil => simp [Tm.sizeL]
  | cons x xs ih =>
    unfold noneL at hn ih
    simp only [List.any_cons, Bool.or_eq_false_iff] at hn
    have := Tm.large_size hn.1
    have := ih hn.2
    simp only [Tm.sizeL, List.length_cons]
    omega
theorem many_of_get {l : List Tm} {i : Nat} (h : i < l.length) (hx : l[i].large = true) : manyT l = true := by
  unfold manyT
  have : l.any Tm.large = true := List.any_eq_true.2 ⟨_, List.getElem_mem h, hx⟩
  rw [this]; rfl
end Go.Ab
end

section
namespace Go.Ab
/-- 0, 1, .. -/
def iota (k : Nat) : List Int := (List.range k).map fun (i : Nat) => (i : Int)
@[simp] theorem iota_len (k : Nat) : (iota k).length = k := by simp [iota]
theorem mem_iota {k : Nat} {m : Int} : m ∈ iota k ↔ 0 ≤ m ∧ m < k := by
  simp only [iota, List.mem_map, List.mem_range]
  constructor
  · rintro ⟨i, hi, rfl⟩; omega
  · rintro ⟨h1, h2⟩; exact ⟨m.toNat, by omega, by omega⟩
theorem iota_succ (k : Nat) : iota (k + 1) = iota k ++ [(k : Int)] := by simp [iota, List.range_succ]
theorem placeI_range : ∀ (L : List Int) (n : Int) (i : Nat), n ∈ L → (i : Int) ≤ placeI L n i ∧ placeI L n i < i + L.length
  | [], _, _, h => by cases h
  | x :: xs, n, i, h => by
    simp only [placeI]
    split
    · simp; omega
    · rename_i hx
      rcases List.mem_cons.1 h with rfl | h
      · exact absurd rfl hx
      · have := placeI_range xs n (i + 1) h
        simp only [List.length_cons]; omega
theorem placeI_iota_aux : ∀ (k s : Nat) (m : Int) (i : Nat), (s : Int) ≤ m → m < s + k → placeI ((List.range' s k).map fun (i : Nat) => (i : Int)) m i = i + (m - s)
  | 0, s, m, i, h1, h2 => by omega
  | k + 1, s, m, i, h1, h2 => by
    simp only [List.range'_succ, List.map_cons, placeI]
    split
    · rename_i h; omega
    · rename_i h
      rw [placeI_iota_aux k (s + 1) m (i + 1) (by omega) (by omega)]
      omega
theorem placeI_iota {k : Nat} {m : Int} (h : m ∈ iota k) : placeI (iota k) m 0 = m := by
  have h' := mem_iota.1 h
  have := placeI_iota_aux k 0 m 0 (by omega) (by omega)
  unfold iota
  rw [List.range_eq_range', this]; omega
theorem Tm.vars_var (m : Int) (L : List Int) : (Tm.var m).vars L = addV L m := by simp [Tm.var, Tm.vars]
mutual
theorem Tm.num_vars (W : List Int) : ∀ (t : Tm) (L : List Int), (∃ B, W = t.vars L ++ B) → (t.sub fun n => Tm.var (placeI W n 0)).vars (iota L.length) = iota (t.vars L).length
  | .mk k n s l, L => by
    rintro ⟨B, hB⟩
    simp only [Tm.sub]
    by_cases hk : k = 1
    · simp only [if_pos hk, Tm.vars] at hB ⊢
      rw [Tm.vars_var]
      by_cases hn : n ∈ L
      · have e : addV L n = L := by unfold addV; rw [if_pos hn]
        rw [e] at hB ⊢
        have h1 := placeI_range L n 0 hn
        unfold addV
        rw [if_pos]
        rw [mem_iota, hB, placeI_pre L B n 0 hn]; omega
      · have e : addV L n = L ++ [n] := by unfold addV; rw [if_neg hn]
        rw [e] at hB ⊢
        have h1 : placeI W n 0 = L.length := by rw [hB, placeI_pre _ B n 0 (by simp), placeI_last L n 0 hn]; omega
        rw [h1]
        unfold addV
        rw [if_neg]
        · simp [iota_succ]
        · rw [mem_iota]; omega
    · simp only [if_neg hk, Tm.vars] at hB ⊢
      exact Tm.num_varsL W l L ⟨B, hB⟩
theorem Tm.num_varsL (W : List Int) : ∀ (l : List Tm) (L : List Int), (∃ B, W = Tm.varsL l L ++ B) → Tm.varsL (Tm.subL (fun n => Tm.var (placeI W n 0)) l) (iota L.length) = iota (Tm.varsL l L).length
  | [], L => fun _ => by simp only [Tm.subL, Tm.varsL]
  | t :: ts, L => by
    rintro ⟨B, hB⟩
    simp only [Tm.varsL] at hB
    obtain ⟨C, hC⟩ := Tm.varsL_pre ts (t.vars L)
    simp only [Tm.subL, Tm.varsL]
    rw [Tm.num_vars W t L ⟨C ++ B, by rw [hB, hC, List.append_assoc]⟩]
    exact Tm.num_varsL W ts (t.vars L) ⟨B, hB⟩
end
mutual
theorem Tm.sub_like (f : Int → Tm) : ∀ t : Tm, t.right = true → (∀ n ∈ t.occ, ∃ m, f n = Tm.var m ∧ 0 ≤ m ∧ m < 1073741824) → (t.sub f).right = true ∧ (t.sub f).size = t.size ∧ (t.sub f).depth = t.depth
  | .mk k n s l => by
    intro h hf
    simp only [Tm.right, Bool.and_eq_true] at h
    simp only [Tm.occ] at hf
    simp only [Tm.sub]
    by_cases hk : k = 1
    · subst hk
      simp only [if_true] at hf ⊢
      obtain ⟨m, h1, h2, h3⟩ := hf n (by simp)
      obtain ⟨_, _, _, h4⟩ := partB_one h.1
      rw [h1, List.eq_nil_of_length_eq_zero h4]
      simp [Tm.var, Tm.right, Tm.rightL, Tm.size, Tm.sizeL, Tm.depth, Tm.depthL, partB, h2, h3]
    · simp only [if_neg hk] at hf ⊢
      obtain ⟨h1, h2, h3⟩ := Tm.subL_like f l h.2 hf
      simp only [Tm.right, Tm.size, Tm.depth, Tm.subL_len, h1, h2, h3, h.1, Bool.and_true, and_self]
theorem Tm.subL_like (f : Int → Tm) : ∀ l : List Tm, Tm.rightL l = true → (∀ n ∈ Tm.occL l, ∃ m, f n = Tm.var m ∧ 0 ≤ m ∧ m < 1073741824) → Tm.rightL (Tm.subL f l) = true ∧ Tm.sizeL (Tm.subL f l) = Tm.sizeL l ∧ Tm.depthL (Tm.subL f l) = Tm.depthL l
  | [] => fun _ _ => ⟨rfl, rfl, rfl⟩
  | t :: ts => by
    intro h hf
    simp only [Tm.rightL, Bool.and_eq_true] at h
    simp only [Tm.occL, List.mem_append] at hf
    obtain ⟨a1, a2, a3⟩ := Tm.sub_like f t h.1 fun n hn => hf n (.inl hn)
    obtain ⟨b1, b2, b3⟩ := Tm.subL_like f ts h.2 fun n hn => hf n (.inr hn)
    simp only [Tm.subL, Tm.rightL, Tm.sizeL, Tm.depthL, a1, a2, a3, b1, b2, b3, Bool.and_true, and_self]
end
/-- What is renamed stays as large; it may be, if the term may. -/
theorem Tm.num_like {t : Tm} (hr : t.right = true) (hs : t.small) : (numT (t.vars []) t).right = true ∧ (numT (t.vars []) t).size = t.size ∧ (numT (t.vars []) t).depth = t.depth := by
  refine Tm.sub_like _ t hr fun n hn => ⟨_, rfl, ?_⟩
  have h1 := placeI_range (t.vars []) n 0 ((Tm.mem_vars t [] n).2 (.inr hn))
  have h2 := Tm.vars_len t []
  unfold Tm.small at hs
  simp only [List.length_nil] at h2
  omega
theorem Tm.num_check {t : Tm} (hs : t.small) (hc : t.check = 0) : (numT (t.vars []) t).check = 0 := by
  obtain ⟨h1, h2, h3⟩ := Tm.num_like (Tm.right_of_check hc) hs
  have := hc
  unfold Tm.check at this ⊢
  rw [h1, h2, h3]
  rw [Tm.right_of_check hc] at this
  exact this
theorem Tm.num_small {t : Tm} (hs : t.small) (hc : t.check = 0) : (numT (t.vars []) t).small := by
  obtain ⟨_, h2, _⟩ := Tm.num_like (Tm.right_of_check hc) hs
  unfold Tm.small at *; omega
theorem Tm.num_vars0 (t : Tm) : (numT (t.vars []) t).vars [] = iota (t.vars []).length := by
  have := Tm.num_vars (t.vars []) t [] ⟨[], by simp⟩
  simpa [iota, numT] using this
/-- What is renamed stays when it is renamed again. -/
theorem Tm.num_again {t : Tm} (hs : t.small) (hc : t.check = 0) : numT ((numT (t.vars []) t).vars []) (numT (t.vars []) t) = numT (t.vars []) t := by
  conv => lhs; rw [show (numT ((numT (t.vars []) t).vars []) (numT (t.vars []) t)) = (numT (t.vars []) t).sub (fun n => Tm.var (placeI ((numT (t.vars []) t).vars []) n 0)) from rfl]
  rw [Tm.num_vars0]
  rw [Tm.sub_congr _ Tm.var _ fun n hn => ?_]
  · exact Tm.sub_var _ (Tm.num_like (Tm.right_of_check hc) hs).1
  · rw [placeI_iota]
    rw [← Tm.num_vars0]
    exact (Tm.mem_vars _ [] n).2 (.inr hn)
end Go.Ab
end

section
namespace Go.Ab
mutual
theorem Tm.sub_size (f : Int → Tm) (S : Nat) (hS : 1 ≤ S) (hf : ∀ n, (f n).size ≤ S) : ∀ t : Tm, (t.sub f).size ≤ t.size * S
  | .mk k n s l => by
    have ih := Tm.subL_size f S hS hf l
    simp only [Tm.sub]
    split
    · have := hf n
      simp only [Tm.size]
      calc (f n).size ≤ 1 * S := by omega
        _ ≤ (1 + Tm.sizeL l) * S := Nat.mul_le_mul_right _ (by omega)
    · simp only [Tm.size]
      rw [Nat.add_mul]; omega
theorem Tm.subL_size (f : Int → Tm) (S : Nat) (hS : 1 ≤ S) (hf : ∀ n, (f n).size ≤ S) : ∀ l : List Tm, Tm.sizeL (Tm.subL f l) ≤ Tm.sizeL l * S
  | [] => by simp [Tm.subL, Tm.sizeL]
  | t :: ts => by
    have h1 := Tm.sub_size f S hS hf t
    have h2 := Tm.subL_size f S hS hf ts
    simp only [Tm.subL, Tm.sizeL]
    rw [Nat.add_mul]; omega
end
theorem Tm.size_mem {l : List Tm} {i : Nat} (h : i < l.length) : l[i].size ≤ Tm.sizeL l := by
  have := Tm.size_get h; omega
/-- All may be. -/
def allC (l : List Tm) : Bool := l.all fun x => decide (x.check = 0)
theorem allC_take {l : List Tm} {i : Nat} (h : i < l.length) : allC (l.take (i + 1)) = (allC (l.take i) && decide (l[i].check = 0)) := by
  unfold allC
  rw [Tm.take_succ h, List.all_append]; simp
theorem allC_iff {l : List Tm} : allC l = true ↔ ∀ x ∈ l, x.check = 0 := by simp [allC]
end Go.Ab
end

section
namespace Go.Ab
/-! Bindings of variables: plain laws. -/
/-- Bindings, in the order in which they came. -/
abbrev Bs := List (Int × Tm)
def lookB : Bs → Int → Option Tm
  | [], _ => none
  | (n, t) :: B, m => if n = m then some t else lookB B m
def keys (B : Bs) : List Int := B.map (·.1)
@[simp] theorem keys_nil : keys [] = [] := rfl
@[simp] theorem keys_cons (x : Int × Tm) (B : Bs) : keys (x :: B) = x.1 :: keys B := rfl
@[simp] theorem keys_append (A B : Bs) : keys (A ++ B) = keys A ++ keys B := by simp [keys]
@[simp] theorem keys_len (B : Bs) : (keys B).length = B.length := by simp [keys]
@[simp] theorem keys_reverse (B : Bs) : keys B.reverse = (keys B).reverse := by simp [keys]
theorem look_none {B : Bs} {n : Int} : lookB B n = none ↔ n ∉ keys B := by
  induction B with
  | nil => simp [lookB]
  | cons x B ih =>
    simp only [lookB, keys_cons, List.mem_cons, not_or]
    split
    · rename_i h; simp [h]
    · rename_i h; rw [ih]; constructor
      · exact fun k => ⟨fun e => h e.symm, k⟩
      · exact fun k => k.2
theorem look_split {B : Bs} {n : Int} {u : Tm} (h : lookB B n = some u) : ∃ A C, B = A ++ (n, u) :: C ∧ n ∉ keys A := by
  induction B with
  | nil => simp [lookB] at h
  | cons x B ih =>
    obtain ⟨m, t⟩ := x
    simp only [lookB] at h
    split at h
    · rename_i e; subst e; cases h; exact ⟨[], B, rfl, by simp⟩
    · rename_i e
      obtain ⟨A, C, rfl, k⟩ := ih h
      exact ⟨(m, t) :: A, C, rfl, by simp [k]; exact fun e' => e e'.symm⟩
theorem look_mem {B : Bs} {n : Int} {u : Tm} (h : lookB B n = some u) : (n, u) ∈ B := by
  obtain ⟨A, C, rfl, _⟩ := look_split h; simp

/-- The number of a variable. -/
def Tm.vn : Tm → Option Int
  | .mk k n _ _ => if k = 1 then some n else none
/-- Up to what is no bound variable, in one pass. -/
def wk : Bs → Tm → Tm
  | [], t => t
  | (n, u) :: B, t => if t.vn = some n then wk B u else wk B t
def wkn : Bs → Tm → Nat
  | [], _ => 0
  | (n, u) :: B, t => if t.vn = some n then wkn B u + 1 else wkn B t
theorem wkn_le : ∀ (B : Bs) (t : Tm), wkn B t ≤ B.length
  | [], _ => Nat.le_refl _
  | (n, u) :: B, t => by
    simp only [wkn]
    split
    · have := wkn_le B u; simp; omega
    · have := wkn_le B t; simp; omega

mutual
theorem Tm.sub_sub (f g : Int → Tm) : ∀ t : Tm, (t.sub f).sub g = t.sub fun n => (f n).sub g
  | .mk k n s l => by
    simp only [Tm.sub]
    split
    · rfl
    · rename_i h; simp only [Tm.sub, if_neg h, Tm.subL_sub f g l]
theorem Tm.subL_sub (f g : Int → Tm) : ∀ l : List Tm, Tm.subL g (Tm.subL f l) = Tm.subL (fun n => (f n).sub g) l
  | [] => rfl
  | t :: ts => by simp only [Tm.subL, Tm.sub_sub f g t, Tm.subL_sub f g ts]
end
mutual
theorem Tm.occ_sub (f : Int → Tm) (x : Int) : ∀ t : Tm, x ∈ (t.sub f).occ ↔ ∃ y ∈ t.occ, x ∈ (f y).occ
  | .mk k n s l => by
    simp only [Tm.sub, Tm.occ]
    split
    · simp
    · rename_i h; simp only [Tm.occ, if_neg h]; exact Tm.occ_subL f x l
theorem Tm.occ_subL (f : Int → Tm) (x : Int) : ∀ l : List Tm, x ∈ Tm.occL (Tm.subL f l) ↔ ∃ y ∈ Tm.occL l, x ∈ (f y).occ
  | [] => by simp [Tm.subL, Tm.occL]
  | t :: ts => by
    simp only [Tm.subL, Tm.occL, List.mem_append, Tm.occ_sub f x t, Tm.occ_subL f x ts]
    constructor
    · rintro (⟨y, h1, h2⟩ | ⟨y, h1, h2⟩)
      · exact ⟨y, .inl h1, h2⟩
      · exact ⟨y, .inr h1, h2⟩
    · rintro ⟨y, h1 | h1, h2⟩
      · exact .inl ⟨y, h1, h2⟩
      · exact .inr ⟨y, h1, h2⟩
end
mutual
theorem Tm.right_sub (f : Int → Tm) : ∀ t : Tm, t.right = true → (∀ n ∈ t.occ, (f n).right = true) → (t.sub f).right = true
  | .mk k n s l => by
    intro h hf
    simp only [Tm.sub]
    simp only [Tm.occ] at hf
    split
    · rename_i hk; rw [if_pos hk] at hf; exact hf n (by simp)
    · rename_i hk
      rw [if_neg hk] at hf
      simp only [Tm.right, Bool.and_eq_true, Tm.subL_len] at h ⊢
      exact ⟨h.1, Tm.rightL_sub f l h.2 hf⟩
theorem Tm.rightL_sub (f : Int → Tm) : ∀ l : List Tm, Tm.rightL l = true → (∀ n ∈ Tm.occL l, (f n).right = true) → Tm.rightL (Tm.subL f l) = true
  | [] => fun _ _ => rfl
  | t :: ts => by
    intro h hf
    simp only [Tm.rightL, Bool.and_eq_true] at h
    simp only [Tm.occL, List.mem_append] at hf
    simp only [Tm.subL, Tm.rightL, Bool.and_eq_true]
    exact ⟨Tm.right_sub f t h.1 fun n hn => hf n (.inl hn), Tm.rightL_sub f ts h.2 fun n hn => hf n (.inr hn)⟩
end
@[simp] theorem Tm.var_sub (n : Int) (f : Int → Tm) : (Tm.var n).sub f = f n := by simp [Tm.var, Tm.sub]
@[simp] theorem Tm.var_occ (n : Int) : (Tm.var n).occ = [n] := by simp [Tm.var, Tm.occ]
theorem Tm.var_right {n : Int} (h : 0 ≤ n ∧ n < 1073741824) : (Tm.var n).right = true := by simp [Tm.var, Tm.right, Tm.rightL, partB, h]
theorem Tm.vn_some {t : Tm} {n : Int} (h : t.vn = some n) (hr : t.right = true) : t = Tm.var n ∧ 0 ≤ n ∧ n < 1073741824 := by
  obtain ⟨k, m, s, l⟩ := t
  simp only [Tm.vn] at h
  split at h
  · rename_i hk
    subst hk
    cases h
    simp only [Tm.right, Bool.and_eq_true] at hr
    obtain ⟨h1, h2, h3, h4⟩ := partB_one hr.1
    rw [h3, List.eq_nil_of_length_eq_zero h4]
    exact ⟨rfl, h1, h2⟩
  · cases h
@[simp] theorem Tm.vn_var (n : Int) : (Tm.var n).vn = some n := by simp [Tm.var, Tm.vn]
theorem Tm.var_inj {n m : Int} (h : Tm.var n = Tm.var m) : n = m := by
  have := congrArg Tm.vn h; simpa using this

/-- One variable by a term. -/
def one (n : Int) (u : Tm) : Int → Tm := fun m => if m = n then u else Tm.var m
/-- What variables come to; bindings backwards. -/
def sgR : Bs → Int → Tm
  | [] => Tm.var
  | (n, t) :: R => fun m => (sgR R m).sub (one n (t.sub (sgR R)))
def sg (B : Bs) : Int → Tm := sgR B.reverse
@[simp] theorem sg_nil : sg [] = Tm.var := rfl
theorem sg_snoc (B : Bs) (n : Int) (t : Tm) (m : Int) : sg (B ++ [(n, t)]) m = (sg B m).sub (one n (t.sub (sg B))) := by simp [sg, sgR]
/-- Bindings as they come: to walked terms, in which the variable is not. -/
def OkR : Bs → Prop
  | [] => True
  | (n, t) :: R => OkR R ∧ n ∉ keys R ∧ t.right = true ∧ (∀ m, t.vn = some m → m ∉ keys R) ∧ n ∉ (t.sub (sgR R)).occ ∧ 0 ≤ n ∧ n < 1073741824
def OkB (B : Bs) : Prop := OkR B.reverse
@[simp] theorem OkB_nil : OkB [] := trivial
theorem OkB_snoc {B : Bs} {n : Int} {t : Tm} : OkB (B ++ [(n, t)]) ↔ OkB B ∧ n ∉ keys B ∧ t.right = true ∧ (∀ m, t.vn = some m → m ∉ keys B) ∧ n ∉ (t.sub (sg B)).occ ∧ 0 ≤ n ∧ n < 1073741824 := by
  simp [OkB, OkR, sg]
theorem OkR_drop : ∀ {A R : Bs}, OkR (A ++ R) → OkR R
  | [], _, h => h
  | (n, t) :: A, R, h => OkR_drop (A := A) h.1
theorem OkB_pre {B C : Bs} (h : OkB (B ++ C)) : OkB B := by
  unfold OkB at *; rw [List.reverse_append] at h; exact OkR_drop h
theorem OkB_take {B : Bs} (h : OkB B) (i : Nat) : OkB (B.take i) := OkB_pre (C := B.drop i) (by rw [List.take_append_drop]; exact h)
theorem OkR_nodup : ∀ {R : Bs}, OkR R → (keys R).Nodup
  | [], _ => List.nodup_nil
  | (n, t) :: R, h => List.nodup_cons.2 ⟨h.2.1, OkR_nodup h.1⟩
theorem OkB_nodup {B : Bs} (h : OkB B) : (keys B).Nodup := by
  have := OkR_nodup h
  rw [keys_reverse] at this
  unfold List.Nodup at *
  rw [List.pairwise_reverse] at this
  exact this.imp fun h => fun e => h e.symm
theorem OkR_mem : ∀ {R : Bs}, OkR R → ∀ {n : Int} {t : Tm}, (n, t) ∈ R → t.right = true ∧ 0 ≤ n ∧ n < 1073741824
  | (m, u) :: R, h, n, t, hm => by
    rcases List.mem_cons.1 hm with e | hm
    · cases e; exact ⟨h.2.2.1, h.2.2.2.2.2⟩
    · exact OkR_mem h.1 hm
theorem OkB_mem {B : Bs} (h : OkB B) {n : Int} {t : Tm} (hm : (n, t) ∈ B) : t.right = true ∧ 0 ≤ n ∧ n < 1073741824 := OkR_mem h (List.mem_reverse.2 hm)
theorem OkB_look {B : Bs} (h : OkB B) {n : Int} {t : Tm} (hm : lookB B n = some t) : t.right = true := (OkB_mem h (look_mem hm)).1
theorem keys_range {B : Bs} (h : OkB B) {n : Int} (hn : n ∈ keys B) : 0 ≤ n ∧ n < 1073741824 := by
  obtain ⟨⟨m, t⟩, h1, rfl⟩ := List.mem_map.1 hn
  exact (OkB_mem h h1).2

theorem sgR_unb : ∀ {R : Bs} {n : Int}, n ∉ keys R → sgR R n = Tm.var n
  | [], _, _ => rfl
  | (m, t) :: R, n, h => by
    simp only [keys_cons, List.mem_cons, not_or] at h
    simp [sgR, sgR_unb h.2, one, h.1]
theorem sg_unb {B : Bs} {n : Int} (h : n ∉ keys B) : sg B n = Tm.var n := sgR_unb (by simpa using h)
theorem sgR_right : ∀ {R : Bs}, OkR R → ∀ n, 0 ≤ n → n < 1073741824 → (sgR R n).right = true
  | [], _, n, h1, h2 => Tm.var_right ⟨h1, h2⟩
  | (m, t) :: R, h, n, h1, h2 => by
    simp only [sgR]
    refine Tm.right_sub _ _ (sgR_right h.1 n h1 h2) fun x hx => ?_
    unfold one
    split
    · exact Tm.right_sub _ _ h.2.2.1 fun y hy => sgR_right h.1 y (Tm.occ_pos t h.2.2.1 y hy).1 (Tm.occ_pos t h.2.2.1 y hy).2
    · exact Tm.var_right (Tm.occ_pos _ (sgR_right h.1 n h1 h2) x hx)
theorem sgR_subR {R : Bs} (h : OkR R) {t : Tm} (hr : t.right = true) : (t.sub (sgR R)).right = true :=
  Tm.right_sub _ t hr fun n hn => sgR_right h n (Tm.occ_pos t hr n hn).1 (Tm.occ_pos t hr n hn).2
theorem sg_right {B : Bs} (h : OkB B) {t : Tm} (hr : t.right = true) : (t.sub (sg B)).right = true := sgR_subR h hr
theorem sgR_idem : ∀ {R : Bs}, OkR R → ∀ n x, x ∈ (sgR R n).occ → x ∉ keys R
  | [], _, n, x, hx => by simp
  | (m, u) :: R, h, n, x, hx => by
    simp only [sgR, Tm.occ_sub] at hx
    obtain ⟨y, h1, h2⟩ := hx
    simp only [keys_cons, List.mem_cons, not_or]
    unfold one at h2
    split at h2
    · refine ⟨fun e => h.2.2.2.2.1 (e ▸ h2), ?_⟩
      obtain ⟨z, h3, h4⟩ := (Tm.occ_sub _ _ _).1 h2
      exact sgR_idem h.1 z x h4
    · rename_i hy
      simp at h2
      subst h2
      exact ⟨hy, sgR_idem h.1 n _ h1⟩
/-- What a term comes to has no bound variables. -/
theorem sg_free {B : Bs} (h : OkB B) {t : Tm} {x : Int} (hx : x ∈ (t.sub (sg B)).occ) : x ∉ keys B := by
  obtain ⟨y, _, h2⟩ := (Tm.occ_sub _ _ _).1 hx
  have := sgR_idem h y x h2
  simpa using this
theorem sub_id {t : Tm} (hr : t.right = true) {f : Int → Tm} (hf : ∀ n ∈ t.occ, f n = Tm.var n) : t.sub f = t := by
  rw [Tm.sub_congr f Tm.var t hf, Tm.sub_var t hr]
/-- What a term comes to comes to itself. -/
theorem sg_sg {B : Bs} (h : OkB B) {t : Tm} (hr : t.right = true) : (t.sub (sg B)).sub (sg B) = t.sub (sg B) :=
  sub_id (sg_right h hr) fun n hn => sg_unb (sg_free h hn)
theorem sgR_bound : ∀ {R : Bs}, OkR R → ∀ {n : Int} {t : Tm}, (n, t) ∈ R → sgR R n = t.sub (sgR R)
  | (m, u) :: R, h, n, t, hm => by
    have e : ∀ t : Tm, t.sub (sgR ((m, u) :: R)) = (t.sub (sgR R)).sub (one m (u.sub (sgR R))) := fun t => by
      rw [Tm.sub_sub]; rfl
    rw [e]
    rcases List.mem_cons.1 hm with hm | hm
    · cases hm
      simp only [sgR, sgR_unb h.2.1, Tm.var_sub]
      rw [sub_id (sgR_subR h.1 h.2.2.1)]
      · simp [one]
      · intro x hx
        have : x ≠ m := fun e => h.2.2.2.2.1 (e ▸ hx)
        simp [one, this]
    · simp only [sgR, sgR_bound h.1 hm]
theorem sg_bound {B : Bs} (h : OkB B) {n : Int} {t : Tm} (hm : lookB B n = some t) : sg B n = t.sub (sg B) :=
  sgR_bound h (List.mem_reverse.2 (look_mem hm))

theorem wk_pre : ∀ {A B : Bs} {t : Tm}, (∀ n, t.vn = some n → n ∉ keys A) → wk (A ++ B) t = wk B t ∧ wkn (A ++ B) t = wkn B t
  | [], _, _, _ => ⟨rfl, rfl⟩
  | (m, u) :: A, B, t, h => by
    have : ¬ t.vn = some m := fun e => h m e (by simp)
    simp only [List.cons_append, wk, wkn, if_neg this]
    exact wk_pre fun n hn => fun hm => h n hn (by simp [hm])
theorem wk_none {B : Bs} {t : Tm} (h : ∀ n, t.vn = some n → lookB B n = none) : wk B t = t ∧ wkn B t = 0 := by
  have := wk_pre (A := B) (B := []) (t := t) fun n hn => look_none.1 (h n hn)
  simpa [wk, wkn] using this
theorem wk_step {B : Bs} (h : OkB B) {t u : Tm} {n : Int} (ht : t.vn = some n) (hl : lookB B n = some u) : wk B t = wk B u ∧ wkn B t = wkn B u + 1 := by
  obtain ⟨A, C, rfl, hA⟩ := look_split hl
  have h1 : OkB (A ++ [(n, u)]) := OkB_pre (C := C) (by simpa using h)
  obtain ⟨_, _, h2, h3, h4, _⟩ := OkB_snoc.1 h1
  have e1 := wk_pre (A := A) (B := (n, u) :: C) (t := t) fun m hm => by rw [ht] at hm; cases hm; exact hA
  have e2 := wk_pre (A := A) (B := (n, u) :: C) (t := u) h3
  have : ¬ u.vn = some n := fun e => by
    obtain ⟨e', _⟩ := Tm.vn_some e h2
    rw [e', Tm.var_sub, sg_unb hA] at h4
    simp at h4
  rw [e1.1, e1.2, e2.1, e2.2]
  simp only [wk, wkn, if_pos ht, if_neg this, and_self]
/-- Walks are finite. -/
theorem wk_ind {B : Bs} (h : OkB B) {p : Tm → Prop} (h1 : ∀ t, (∀ n, t.vn = some n → lookB B n = none) → p t) (h2 : ∀ t n u, t.vn = some n → lookB B n = some u → p u → p t) : ∀ t, p t := by
  have : ∀ (m : Nat) (t : Tm), wkn B t = m → p t := by
    intro m
    induction m using Nat.strongRecOn with
    | _ m ih =>
      intro t hm
      by_cases hb : ∀ n, t.vn = some n → lookB B n = none
      · exact h1 t hb
      · obtain ⟨n, hn⟩ := Classical.not_forall.1 hb
        obtain ⟨hn, hl⟩ := Classical.not_imp.1 hn
        cases hu : lookB B n with
        | none => exact absurd hu hl
        | some u => exact h2 t n u hn hu (ih _ (by have := (wk_step h hn hu).2; omega) u rfl)
  exact fun t => this _ t rfl
theorem wk_end {B : Bs} (h : OkB B) : ∀ t n, (wk B t).vn = some n → lookB B n = none :=
  wk_ind h (fun t ht n hn => by rw [(wk_none ht).1] at hn; exact ht n hn) (fun t n u h1 h2 ih m hm => by rw [(wk_step h h1 h2).1] at hm; exact ih m hm)
theorem wk_right {B : Bs} (h : OkB B) : ∀ t, t.right = true → (wk B t).right = true :=
  wk_ind h (fun t ht hr => by rw [(wk_none ht).1]; exact hr) (fun t n u h1 h2 ih hr => by rw [(wk_step h h1 h2).1]; exact ih (OkB_look h h2))
theorem wk_sg {B : Bs} (h : OkB B) : ∀ t, t.right = true → (wk B t).sub (sg B) = t.sub (sg B) :=
  wk_ind h (fun t ht _ => by rw [(wk_none ht).1]) (fun t n u h1 h2 ih hr => by
    rw [(wk_step h h1 h2).1, ih (OkB_look h h2)]
    obtain ⟨e, _⟩ := Tm.vn_some h1 hr
    rw [e, Tm.var_sub, sg_bound h h2])
theorem wk_var {B : Bs} (h : OkB B) {t : Tm} (hr : t.right = true) {n : Int} (hn : (wk B t).vn = some n) : wk B t = Tm.var n ∧ n ∉ keys B ∧ t.sub (sg B) = Tm.var n ∧ 0 ≤ n ∧ n < 1073741824 := by
  obtain ⟨e, h1⟩ := Tm.vn_some hn (wk_right h t hr)
  have h2 := look_none.1 (wk_end h t n hn)
  refine ⟨e, h2, ?_, h1⟩
  rw [← wk_sg h t hr, e, Tm.var_sub, sg_unb h2]
end Go.Ab
end

section
namespace Go.Ab
/-- Terms for variables that make each bound variable what it is bound to. -/
def Solves (B : Bs) (θ : Int → Tm) : Prop := ∀ n t, (n, t) ∈ B → θ n = t.sub θ
theorem mguR {θ : Int → Tm} : ∀ {R : Bs}, OkR R → (∀ n t, (n, t) ∈ R → θ n = t.sub θ) → ∀ n, (sgR R n).sub θ = θ n
  | [], _, _, n => by simp [sgR]
  | (m, u) :: R, h, hs, n => by
    have ih := mguR h.1 fun n t hm => hs n t (List.mem_cons_of_mem _ hm)
    simp only [sgR, Tm.sub_sub]
    rw [← ih n]
    refine Tm.sub_congr _ _ _ fun x _ => ?_
    unfold one
    split
    · rename_i e
      subst e
      rw [Tm.sub_sub, hs x u (by simp)]
      exact Tm.sub_congr _ _ _ fun z _ => ih z
    · simp
theorem mgu {B : Bs} (h : OkB B) {θ : Int → Tm} (hs : Solves B θ) (t : Tm) : (t.sub (sg B)).sub θ = t.sub θ := by
  rw [Tm.sub_sub]
  exact Tm.sub_congr _ _ _ fun n _ => mguR h (fun n t hm => hs n t (List.mem_reverse.1 hm)) n
theorem look_of_mem {B : Bs} (h : (keys B).Nodup) {n : Int} {t : Tm} (hm : (n, t) ∈ B) : lookB B n = some t := by
  induction B with
  | nil => cases hm
  | cons x B ih =>
    obtain ⟨m, u⟩ := x
    simp only [keys_cons, List.nodup_cons] at h
    simp only [lookB]
    rcases List.mem_cons.1 hm with e | hm
    · cases e; simp
    · rw [if_neg]
      · exact ih h.2 hm
      · rintro rfl; exact h.1 (List.mem_map.2 ⟨_, hm, rfl⟩)
theorem solves_self {B : Bs} (h : OkB B) : Solves B (sg B) := fun _ _ hm => sg_bound h (look_of_mem (OkB_nodup h) hm)
theorem solves_pre {B D : Bs} (h : OkB (B ++ D)) : Solves B (sg (B ++ D)) := fun n t hm => solves_self h n t (by simp [hm])
/-- More bindings. -/
theorem sg_ext {B D : Bs} (h : OkB (B ++ D)) (t : Tm) : (t.sub (sg B)).sub (sg (B ++ D)) = t.sub (sg (B ++ D)) := mgu (OkB_pre h) (solves_pre h) t
theorem ext_eq {B D : Bs} (h : OkB (B ++ D)) {a b : Tm} (he : a.sub (sg B) = b.sub (sg B)) : a.sub (sg (B ++ D)) = b.sub (sg (B ++ D)) := by
  rw [← sg_ext h a, ← sg_ext h b, he]

/-- A variable is bound, if it is not in what the term comes to. -/
def bindS (B : Bs) (n : Int) (t : Tm) : Option (Bs × List (Tm × Tm)) := if n ∈ (t.sub (sg B)).occ then none else some (B ++ [(n, t)], [])
/-- The pairs of arguments. -/
def argsS (B : Bs) : Tm → Tm → Option (Bs × List (Tm × Tm))
  | .mk k n s l, .mk k' n' s' l' => if k = k' ∧ n = n' ∧ s = s' ∧ l.length = l'.length then some (B, l.zip l') else none
/-- What comes of two terms. -/
def stepU (B : Bs) (a b : Tm) : Option (Bs × List (Tm × Tm)) :=
  match (wk B a).vn, (wk B b).vn with
  | some n, some m => if n = m then some (B, []) else bindS B n (wk B b)
  | some n, none => bindS B n (wk B b)
  | none, some m => bindS B m (wk B a)
  | none, none => argsS B (wk B a) (wk B b)
/-- Pairs of terms are unified, one behind the other. -/
inductive Un : Bs → List (Tm × Tm) → Option Bs → Prop
  | nil (B : Bs) : Un B [] (some B)
  | fail {B : Bs} {a b : Tm} {ps : List (Tm × Tm)} : stepU B a b = none → Un B ((a, b) :: ps) none
  | go {B : Bs} {a b : Tm} {ps : List (Tm × Tm)} {B' : Bs} {qs : List (Tm × Tm)} {r : Option Bs} : stepU B a b = some (B', qs) → Un B' (qs ++ ps) r → Un B ((a, b) :: ps) r
theorem Un.det {B : Bs} {ps : List (Tm × Tm)} {r : Option Bs} (h : Un B ps r) : ∀ r', Un B ps r' → r = r' := by
  induction h with
  | nil B => intro r' h; cases h; rfl
  | fail hs => intro r' h; cases h with
    | fail _ => rfl
    | go hs' _ => rw [hs] at hs'; cases hs'
  | go hs _ ih => intro r' h; cases h with
    | fail hs' => rw [hs] at hs'; cases hs'
    | go hs' h' => rw [hs] at hs'; cases hs'; exact ih _ h'
theorem bindS_some {B B' : Bs} {n : Int} {t : Tm} {qs : List (Tm × Tm)} (h : bindS B n t = some (B', qs)) : n ∉ (t.sub (sg B)).occ ∧ B' = B ++ [(n, t)] ∧ qs = [] := by
  unfold bindS at h
  split at h
  · cases h
  · rename_i hn; cases h; exact ⟨hn, rfl, rfl⟩
theorem wk_walked {B : Bs} (h : OkB B) (t : Tm) : ∀ m, (wk B t).vn = some m → m ∉ keys B := fun m hm => look_none.1 (wk_end h t m hm)
theorem bind_ok {B : Bs} (h : OkB B) {a b : Tm} (ra : a.right = true) (rb : b.right = true) {n : Int} (hn : (wk B a).vn = some n) (ho : n ∉ ((wk B b).sub (sg B)).occ) :
    OkB (B ++ [(n, wk B b)]) ∧ ∀ C, OkB (B ++ [(n, wk B b)] ++ C) → a.sub (sg (B ++ [(n, wk B b)] ++ C)) = b.sub (sg (B ++ [(n, wk B b)] ++ C)) := by
  obtain ⟨h1, h2, h3, h4⟩ := wk_var h ra hn
  refine ⟨OkB_snoc.2 ⟨h, h2, wk_right h b rb, wk_walked h b, ho, h4⟩, fun C hC => ?_⟩
  have e1 := solves_self hC n (wk B b) (by simp)
  have hC' : OkB (B ++ ([(n, wk B b)] ++ C)) := by rw [← List.append_assoc]; exact hC
  have e2 := sg_ext hC' a
  have e3 := sg_ext hC' b
  have e4 := sg_ext hC' (wk B b)
  rw [← List.append_assoc] at e2 e3 e4
  rw [← e2, h3, Tm.var_sub, e1, ← e3, ← e4, wk_sg h b rb]
theorem subL_zip {f : Int → Tm} : ∀ {l l' : List Tm}, l.length = l'.length → (∀ p ∈ l.zip l', p.1.sub f = p.2.sub f) → Tm.subL f l = Tm.subL f l'
  | [], [], _, _ => rfl
  | [], _ :: _, h, _ => by simp at h
  | _ :: _, [], h, _ => by simp at h
  | x :: xs, y :: ys, h, hp => by
    simp only [Tm.subL]
    rw [hp (x, y) (by simp), subL_zip (by simpa using h) fun p hm => hp p (by simp [hm])]
theorem zip_subL {f : Int → Tm} : ∀ {l l' : List Tm}, Tm.subL f l = Tm.subL f l' → ∀ p ∈ l.zip l', p.1.sub f = p.2.sub f
  | [], _, _, p, hp => by simp at hp
  | _ :: _, [], _, p, hp => by simp at hp
  | x :: xs, y :: ys, h, p, hp => by
    simp only [Tm.subL, List.cons.injEq] at h
    simp only [List.zip_cons_cons, List.mem_cons] at hp
    rcases hp with rfl | hp
    · exact h.1
    · exact zip_subL h.2 p hp
theorem rightL_mem : ∀ {l : List Tm}, Tm.rightL l = true → ∀ t ∈ l, t.right = true
  | [], _, t, h => by cases h
  | x :: xs, h, t, ht => by
    simp only [Tm.rightL, Bool.and_eq_true] at h
    rcases List.mem_cons.1 ht with rfl | ht
    · exact h.1
    · exact rightL_mem h.2 t ht
theorem argsS_some {B B' : Bs} {a b : Tm} {qs : List (Tm × Tm)} (h : argsS B a b = some (B', qs)) : ∃ k n s l l', a = .mk k n s l ∧ b = .mk k n s l' ∧ l.length = l'.length ∧ B' = B ∧ qs = l.zip l' := by
  obtain ⟨k, n, s, l⟩ := a
  obtain ⟨k', n', s', l'⟩ := b
  simp only [argsS] at h
  split at h
  · rename_i hc; obtain ⟨rfl, rfl, rfl, hl⟩ := hc; cases h; exact ⟨_, _, _, _, _, rfl, rfl, hl, rfl, rfl⟩
  · cases h
theorem vn_none {k n : Int} {s : ByteArray} {l : List Tm} (h : (Tm.mk k n s l).vn = none) : k ≠ 1 := by
  intro e; simp [Tm.vn, e] at h
/-- Two terms are held against each other. -/
theorem stepU_ok {B B' : Bs} {a b : Tm} {qs : List (Tm × Tm)} (h : OkB B) (ra : a.right = true) (rb : b.right = true) (hs : stepU B a b = some (B', qs)) :
    (∃ D, B' = B ++ D) ∧ OkB B' ∧ (∀ p ∈ qs, p.1.right = true ∧ p.2.right = true) ∧
    ∀ C, OkB (B' ++ C) → (∀ p ∈ qs, p.1.sub (sg (B' ++ C)) = p.2.sub (sg (B' ++ C))) → a.sub (sg (B' ++ C)) = b.sub (sg (B' ++ C)) := by
  unfold stepU at hs
  split at hs
  · rename_i n m hn hm
    split at hs
    · rename_i e
      subst e
      cases hs
      refine ⟨⟨[], by simp⟩, h, by simp, fun C hC _ => ext_eq hC ?_⟩
      rw [(wk_var h ra hn).2.2.1, (wk_var h rb hm).2.2.1]
    · obtain ⟨h1, rfl, rfl⟩ := bindS_some hs
      obtain ⟨k1, k2⟩ := bind_ok h ra rb hn h1
      exact ⟨⟨_, rfl⟩, k1, by simp, fun C hC _ => k2 C hC⟩
  · rename_i n hn hm
    obtain ⟨h1, rfl, rfl⟩ := bindS_some hs
    obtain ⟨k1, k2⟩ := bind_ok h ra rb hn h1
    exact ⟨⟨_, rfl⟩, k1, by simp, fun C hC _ => k2 C hC⟩
  · rename_i n hn hm
    obtain ⟨h1, rfl, rfl⟩ := bindS_some hs
    obtain ⟨k1, k2⟩ := bind_ok h rb ra hm h1
    exact ⟨⟨_, rfl⟩, k1, by simp, fun C hC _ => (k2 C hC).symm⟩
  · rename_i hn hm
    obtain ⟨k, n, s, l, l', e1, e2, e3, rfl, rfl⟩ := argsS_some hs
    have r1 := wk_right h a ra
    have r2 := wk_right h b rb
    rw [e1] at hn r1
    rw [e2] at r2
    simp only [Tm.right, Bool.and_eq_true] at r1 r2
    refine ⟨⟨[], by simp⟩, h, fun p hp => ⟨rightL_mem r1.2 _ (List.of_mem_zip hp).1, rightL_mem r2.2 _ (List.of_mem_zip hp).2⟩, fun C hC he => ?_⟩
    have f1 := sg_ext hC a
    have f2 := sg_ext hC b
    rw [← f1, ← f2, ← wk_sg h a ra, ← wk_sg h b rb, sg_ext hC, sg_ext hC, e1, e2]
    simp only [Tm.sub, if_neg (vn_none hn), subL_zip e3 he]
theorem Un.sound {B : Bs} {ps : List (Tm × Tm)} {r : Option Bs} (h : Un B ps r) : OkB B → (∀ p ∈ ps, p.1.right = true ∧ p.2.right = true) → ∀ B', r = some B' →
    (∃ D, B' = B ++ D) ∧ OkB B' ∧ ∀ p ∈ ps, p.1.sub (sg B') = p.2.sub (sg B') := by
  induction h with
  | nil B => intro h _ B' e; cases e; exact ⟨⟨[], by simp⟩, h, by simp⟩
  | fail _ => intro _ _ B' e; cases e
  | @go B a b ps B1 qs r hs _ ih =>
    intro h hp B' e
    obtain ⟨ra, rb⟩ := hp (a, b) (by simp)
    obtain ⟨⟨D, rfl⟩, k2, k3, k4⟩ := stepU_ok h ra rb hs
    obtain ⟨⟨C, rfl⟩, j2, j3⟩ := ih k2 (fun p hm => by
      rcases List.mem_append.1 hm with hm | hm
      · exact k3 p hm
      · exact hp p (by simp [hm])) B' e
    refine ⟨⟨D ++ C, by simp⟩, j2, fun p hm => ?_⟩
    rcases List.mem_cons.1 hm with rfl | hm
    · exact k4 C j2 fun q hq => j3 q (by simp [hq])
    · exact j3 p (by simp [hm])

mutual
theorem Tm.size_occ (θ : Int → Tm) (n : Int) : ∀ t : Tm, n ∈ t.occ → (θ n).size ≤ (t.sub θ).size ∧ (t.vn = none → (θ n).size < (t.sub θ).size)
  | .mk k m s l => by
    intro h
    simp only [Tm.occ] at h
    simp only [Tm.sub, Tm.vn]
    split at h
    · rename_i hk
      simp at h
      simp [hk, h]
    · rename_i hk
      have := Tm.size_occL θ n l h
      simp only [if_neg hk, Tm.size, true_implies]
      omega
theorem Tm.size_occL (θ : Int → Tm) (n : Int) : ∀ l : List Tm, n ∈ Tm.occL l → (θ n).size ≤ Tm.sizeL (Tm.subL θ l)
  | [] => fun h => by cases h
  | t :: ts => by
    intro h
    simp only [Tm.occL, List.mem_append] at h
    simp only [Tm.subL, Tm.sizeL]
    rcases h with h | h
    · have := (Tm.size_occ θ n t h).1; omega
    · have := Tm.size_occL θ n ts h; omega
end
theorem bindS_complete {B : Bs} (h : OkB B) {a b : Tm} (ra : a.right = true) (rb : b.right = true) {n : Int} (hn : (wk B a).vn = some n) (hm : (wk B b).vn ≠ some n)
    {θ : Int → Tm} (hs : Solves B θ) (he : a.sub θ = b.sub θ) : bindS B n (wk B b) = some (B ++ [(n, wk B b)], []) ∧ Solves (B ++ [(n, wk B b)]) θ := by
  obtain ⟨_, _, h3, _⟩ := wk_var h ra hn
  have e1 : θ n = b.sub θ := by rw [← he, ← mgu h hs a, h3, Tm.var_sub]
  have e2 : (wk B b).sub θ = b.sub θ := by rw [← mgu h hs (wk B b), wk_sg h b rb, mgu h hs b]
  have ho : n ∉ ((wk B b).sub (sg B)).occ := by
    intro ho
    have hv : ((wk B b).sub (sg B)).vn = none := by
      cases hv : (wk B b).vn with
      | some m =>
        rw [(wk_var h rb hv).1, Tm.var_sub, sg_unb (wk_walked h b m hv)] at ho
        simp at ho
        rw [hv, ho] at hm; exact absurd rfl hm
      | none =>
        rcases hw : wk B b with ⟨k, q, s, l⟩
        rw [hw] at hv
        simp only [Tm.sub, if_neg (vn_none hv), Tm.vn]
    have := (Tm.size_occ θ n _ ho).2 hv
    rw [mgu h hs, e2, e1] at this
    omega
  refine ⟨by simp [bindS, ho], fun m t hmt => ?_⟩
  rcases List.mem_append.1 hmt with hmt | hmt
  · exact hs m t hmt
  · simp only [List.mem_singleton, Prod.mk.injEq] at hmt
    obtain ⟨rfl, rfl⟩ := hmt
    rw [e1, e2]
theorem stepU_complete {B : Bs} (h : OkB B) {a b : Tm} (ra : a.right = true) (rb : b.right = true) {θ : Int → Tm} (hs : Solves B θ) (he : a.sub θ = b.sub θ) :
    ∃ B' qs, stepU B a b = some (B', qs) ∧ Solves B' θ ∧ ∀ p ∈ qs, p.1.sub θ = p.2.sub θ := by
  unfold stepU
  split
  · rename_i n m hn hm
    by_cases e : n = m
    · rw [if_pos e]; exact ⟨_, _, rfl, hs, by simp⟩
    · rw [if_neg e]
      obtain ⟨k1, k2⟩ := bindS_complete h ra rb hn (by rw [hm]; simpa using fun e' => e e'.symm) hs he
      exact ⟨_, _, k1, k2, by simp⟩
  · rename_i n hn hm
    obtain ⟨k1, k2⟩ := bindS_complete h ra rb hn (by rw [hm]; simp) hs he
    exact ⟨_, _, k1, k2, by simp⟩
  · rename_i n hn hm
    obtain ⟨k1, k2⟩ := bindS_complete h rb ra hm (by rw [hn]; simp) hs he.symm
    exact ⟨_, _, k1, k2, by simp⟩
  · rename_i hn hm
    have e1 : (wk B a).sub θ = (wk B b).sub θ := by
      rw [← mgu h hs (wk B a), wk_sg h a ra, mgu h hs a, he, ← mgu h hs (wk B b), wk_sg h b rb, mgu h hs b]
    rcases ha : wk B a with ⟨k, n, s, l⟩
    rcases hb : wk B b with ⟨k', n', s', l'⟩
    rw [ha, hb] at e1
    rw [ha] at hn
    rw [hb] at hm
    simp only [Tm.sub, if_neg (vn_none hn), if_neg (vn_none hm), Tm.mk.injEq] at e1
    obtain ⟨rfl, rfl, rfl, e1⟩ := e1
    have hl : l.length = l'.length := by have := congrArg List.length e1; simpa using this
    exact ⟨B, l.zip l', by simp [argsS, hl], hs, zip_subL e1⟩
theorem Un.complete {B : Bs} {ps : List (Tm × Tm)} {r : Option Bs} (h : Un B ps r) {θ : Int → Tm} : OkB B → (∀ p ∈ ps, p.1.right = true ∧ p.2.right = true) → Solves B θ → (∀ p ∈ ps, p.1.sub θ = p.2.sub θ) →
    ∃ B', r = some B' ∧ Solves B' θ := by
  induction h with
  | nil B => intro _ _ h _; exact ⟨B, rfl, h⟩
  | @fail B a b ps hs =>
    intro h hp hθ he
    obtain ⟨_, _, k, _⟩ := stepU_complete h (hp (a, b) (by simp)).1 (hp (a, b) (by simp)).2 hθ (he (a, b) (by simp))
    rw [hs] at k; cases k
  | @go B a b ps B1 qs r hs _ ih =>
    intro h hp hθ he
    obtain ⟨ra, rb⟩ := hp (a, b) (by simp)
    obtain ⟨_, _, k, k1, k2⟩ := stepU_complete h ra rb hθ (he (a, b) (by simp))
    rw [hs] at k
    cases k
    obtain ⟨_, j1, j2, _⟩ := stepU_ok h ra rb hs
    refine ih j1 (fun p hm => ?_) k1 (fun p hm => ?_)
    · rcases List.mem_append.1 hm with hm | hm
      · exact j2 p hm
      · exact hp p (by simp [hm])
    · rcases List.mem_append.1 hm with hm | hm
      · exact k2 p hm
      · exact he p (by simp [hm])

theorem sizeL_zip {f : Int → Tm} : ∀ {l l' : List Tm}, ∀ p ∈ l.zip l', (p.1.sub f).size ≤ Tm.sizeL (Tm.subL f l)
  | [], _, p, hp => by simp at hp
  | _ :: _, [], p, hp => by simp at hp
  | x :: xs, y :: ys, p, hp => by
    simp only [List.zip_cons_cons, List.mem_cons] at hp
    simp only [Tm.subL, Tm.sizeL]
    rcases hp with rfl | hp
    · simp
    · have := sizeL_zip (f := f) p hp; omega
/-- What comes to the same already is held against each other without a change. -/
theorem Un.skip {B : Bs} (h : OkB B) : ∀ (m : Nat) {a b : Tm}, (a.sub (sg B)).size = m → a.right = true → b.right = true → a.sub (sg B) = b.sub (sg B) → ∀ ps r, Un B ps r → Un B ((a, b) :: ps) r := by
  intro m
  induction m using Nat.strongRecOn with
  | _ m ih =>
    intro a b hm ra rb he ps r hu
    have e1 : (wk B a).sub (sg B) = (wk B b).sub (sg B) := by rw [wk_sg h a ra, wk_sg h b rb, he]
    cases hn : (wk B a).vn with
    | some n =>
      cases hk : (wk B b).vn with
      | some k =>
        have : n = k := by
          have := (wk_var h ra hn).2.2.1
          have h2 := (wk_var h rb hk).2.2.1
          exact Tm.var_inj (by rw [← this, he, h2])
        refine .go (B' := B) (qs := []) ?_ hu
        simp [stepU, hn, hk, this]
      | none =>
        rcases hw : wk B b with ⟨k, q, s, l⟩
        rw [hw] at e1 hk
        rw [(wk_var h ra hn).1, Tm.var_sub, sg_unb (wk_walked h a n hn)] at e1
        have := congrArg Tm.vn e1
        rw [Tm.vn_var] at this
        simp [Tm.sub, vn_none hk, Tm.vn] at this
    | none =>
      cases hk : (wk B b).vn with
      | some k =>
        rcases hw : wk B a with ⟨k', q, s, l⟩
        rw [hw] at e1 hn
        rw [(wk_var h rb hk).1, Tm.var_sub, sg_unb (wk_walked h b k hk)] at e1
        have := congrArg Tm.vn e1
        rw [Tm.vn_var] at this
        simp [Tm.sub, vn_none hn, Tm.vn] at this
      | none =>
        have r1 := wk_right h a ra
        have r2 := wk_right h b rb
        have hsz := wk_sg h a ra
        have hst : stepU B a b = argsS B (wk B a) (wk B b) := by simp [stepU, hn, hk]
        rcases ha : wk B a with ⟨k, n, s, l⟩
        rcases hb : wk B b with ⟨k', n', s', l'⟩
        rw [ha, hb] at e1 hst
        rw [ha] at hn r1 hsz
        rw [hb] at hk r2
        simp only [Tm.sub, if_neg (vn_none hn), if_neg (vn_none hk), Tm.mk.injEq] at e1
        obtain ⟨rfl, rfl, rfl, e1⟩ := e1
        have hl : l.length = l'.length := by have := congrArg List.length e1; simpa using this
        have hst' : stepU B a b = some (B, l.zip l') := by rw [hst]; simp [argsS, hl]
        refine .go hst' ?_
        simp only [Tm.right, Bool.and_eq_true] at r1 r2
        simp only [Tm.sub, if_neg (vn_none hn)] at hsz
        have hz : ∀ p ∈ l.zip l', (p.1.sub (sg B)).size < m := fun p hp => by
          have := sizeL_zip (f := sg B) p hp
          rw [← hm, ← hsz]
          simp only [Tm.size]; omega
        have hq := zip_subL e1
        have hr : ∀ p ∈ l.zip l', p.1.right = true ∧ p.2.right = true := fun p hp => ⟨rightL_mem r1.2 _ (List.of_mem_zip hp).1, rightL_mem r2.2 _ (List.of_mem_zip hp).2⟩
        generalize l.zip l' = qs at hz hq hr
        induction qs with
        | nil => exact hu
        | cons p qs ihq =>
          obtain ⟨x, y⟩ := p
          exact ih _ (hz (x, y) (by simp)) rfl (hr (x, y) (by simp)).1 (hr (x, y) (by simp)).2 (hq (x, y) (by simp)) _ _
            (ihq (fun p hp => hz p (by simp [hp])) (fun p hp => hq p (by simp [hp])) (fun p hp => hr p (by simp [hp])))
end Go.Ab
end

section
namespace Go.Ab
/-! How far a search goes; what is left to bind. -/
def inV (V : List Int) (t : Tm) : Prop := ∀ n ∈ t.occ, n ∈ V
def BsV (V : List Int) (B : Bs) : Prop := ∀ n t, (n, t) ∈ B → n ∈ V ∧ inV V t
/-- How many variables are not bound. -/
def free (V : List Int) (B : Bs) : Nat := (V.filter fun v => decide (v ∉ keys B)).length
theorem filter_le {p q : Int → Bool} (h : ∀ x, q x = true → p x = true) : ∀ V : List Int, (V.filter q).length ≤ (V.filter p).length
  | [] => Nat.le_refl _
  | x :: V => by
    have ih := filter_le h V
    simp only [List.filter_cons]
    split
    · rename_i hx; rw [if_pos (h x hx)]; simp; exact ih
    · split
      · simp; omega
      · exact ih
theorem filter_lt {p q : Int → Bool} (h : ∀ x, q x = true → p x = true) {y : Int} (h1 : p y = true) (h2 : q y = false) : ∀ V : List Int, y ∈ V → (V.filter q).length < (V.filter p).length
  | x :: V, hy => by
    have hle := filter_le h V
    simp only [List.filter_cons]
    rcases List.mem_cons.1 hy with rfl | hy
    · rw [h1, h2]; simp; omega
    · have ih := filter_lt h h1 h2 V hy
      split
      · rename_i hx; rw [if_pos (h x hx)]; simp; exact ih
      · split
        · simp; omega
        · exact ih
theorem free_ext (V : List Int) (B D : Bs) : free V (B ++ D) ≤ free V B :=
  filter_le (fun x h => by simp at h ⊢; exact h.1) V
theorem free_lt {V : List Int} {B D : Bs} {n : Int} {t : Tm} (hV : n ∈ V) (h : n ∉ keys B) (hm : (n, t) ∈ D) : free V (B ++ D) < free V B :=
  filter_lt (y := n) (fun x h => by simp at h ⊢; exact h.1) (by simpa using h) (by simp; exact fun _ => List.mem_map.2 ⟨_, hm, rfl⟩) V hV
theorem ext_cases {V : List Int} {B D : Bs} (h : OkB (B ++ D)) (hV : BsV V (B ++ D)) : D = [] ∨ free V (B ++ D) < free V B := by
  cases D with
  | nil => exact .inl rfl
  | cons x D =>
    obtain ⟨n, t⟩ := x
    refine .inr (free_lt (n := n) (t := t) (hV n t (by simp)).1 ?_ (by simp))
    have := OkB_pre (B := B ++ [(n, t)]) (C := D) (by simpa using h)
    exact (OkB_snoc.1 this).2.1
theorem wk_inV {V : List Int} : ∀ {B : Bs} {t : Tm}, BsV V B → inV V t → inV V (wk B t)
  | [], _, _, h => h
  | (n, u) :: B, t, hB, h => by
    simp only [wk]
    split
    · exact wk_inV (fun m t hm => hB m t (by simp [hm])) (hB n u (by simp)).2
    · exact wk_inV (fun m t hm => hB m t (by simp [hm])) h
theorem inV_arg {V : List Int} {k n : Int} {s : ByteArray} {l : List Tm} (h : inV V (.mk k n s l)) (hk : k ≠ 1) : ∀ t ∈ l, inV V t := fun t ht m hm =>
  h m (by simp only [Tm.occ, if_neg hk]; exact Tm.occ_mem ht hm)
theorem BsV_snoc {V : List Int} {B : Bs} {n : Int} {t : Tm} (h : BsV V B) (hn : n ∈ V) (ht : inV V t) : BsV V (B ++ [(n, t)]) := fun m u hm => by
  rcases List.mem_append.1 hm with hm | hm
  · exact h m u hm
  · simp only [List.mem_singleton, Prod.mk.injEq] at hm; obtain ⟨rfl, rfl⟩ := hm; exact ⟨hn, ht⟩
theorem wk_vn_V {V : List Int} {B : Bs} {t : Tm} (hB : BsV V B) (h : inV V t) {n : Int} (hn : (wk B t).vn = some n) : n ∈ V := by
  refine wk_inV hB h n ?_
  rcases hw : wk B t with ⟨k, m, s, l⟩
  rw [hw] at hn
  by_cases hk : k = 1
  · simp [Tm.vn, hk] at hn; simp [Tm.occ, hk, hn]
  · simp [Tm.vn, hk] at hn

/-- How far it is to go through a term. -/
def far (B : Bs) (t : Tm) : Nat := (t.sub (sg B)).size * (B.length + 1) + wkn B t
theorem far_arg {B : Bs} {k n : Int} {s : ByteArray} {l : List Tm} (hk : k ≠ 1) {x : Tm} (hx : x ∈ l) : far B x < far B (.mk k n s l) := by
  have h1 := wkn_le B x
  have h2 : ((x.sub (sg B)).size + 1) ≤ ((Tm.mk k n s l).sub (sg B)).size := by
    simp only [Tm.sub, if_neg hk, Tm.size, Tm.subL_map]
    have : ∀ l : List Tm, x ∈ l → (x.sub (sg B)).size ≤ Tm.sizeL (l.map (Tm.sub (sg B))) := by
      intro l
      induction l with
      | nil => intro h; cases h
      | cons y ys ih =>
        intro h
        simp only [List.map_cons, Tm.sizeL]
        rcases List.mem_cons.1 h with rfl | h
        · omega
        · have := ih h; omega
    have := this l hx; omega
  unfold far
  have h3 := Nat.mul_le_mul_right (B.length + 1) h2
  rw [Nat.add_mul, Nat.one_mul] at h3
  omega
theorem far_step {B : Bs} (h : OkB B) {t u : Tm} {n : Int} (ht : t.vn = some n) (hl : lookB B n = some u) (hr : t.right = true) : far B u < far B t := by
  obtain ⟨h1, h2⟩ := wk_step h ht hl
  have h3 : t.sub (sg B) = u.sub (sg B) := by rw [← wk_sg h t hr, ← wk_sg h u (OkB_look h hl), h1]
  unfold far
  rw [h3, h2]; omega
/-- Is a variable in what a term comes to? -/
def lies (B : Bs) (n : Int) (t : Tm) : Bool := decide (n ∈ (t.sub (sg B)).occ)
def liesL (B : Bs) (n : Int) (l : List Tm) : Bool := l.any (lies B n)
theorem lies_args {B : Bs} {n k m : Int} {s : ByteArray} {l : List Tm} (hk : k ≠ 1) : lies B n (.mk k m s l) = l.any (lies B n) := by
  have : ∀ l : List Tm, decide (n ∈ Tm.occL (Tm.subL (sg B) l)) = l.any (lies B n) := by
    intro l
    induction l with
    | nil => simp [Tm.subL, Tm.occL]
    | cons x xs ih => simp only [Tm.subL, Tm.occL, List.mem_append, List.any_cons, ← ih, lies, Bool.decide_or]
  simp only [lies, Tm.sub, if_neg hk, Tm.occ, this]
theorem lies_step {B : Bs} (h : OkB B) {t u : Tm} {m n : Int} (ht : t.vn = some m) (hl : lookB B m = some u) (hr : t.right = true) : lies B n t = lies B n u := by
  have h3 : t.sub (sg B) = u.sub (sg B) := by rw [← wk_sg h t hr, ← wk_sg h u (OkB_look h hl), (wk_step h ht hl).1]
  unfold lies; rw [h3]
theorem lies_unb {B : Bs} {t : Tm} {m n : Int} (ht : t.vn = some m) (hl : lookB B m = none) : lies B n t = decide (n = m) := by
  obtain ⟨k, q, s, l⟩ := t
  simp only [Tm.vn] at ht
  split at ht
  · rename_i hk
    cases ht
    simp only [lies, Tm.sub, if_pos hk, sg_unb (look_none.1 hl), Tm.var_occ, List.mem_singleton]
  · cases ht
/-- What was gone through: nothing was found in it, or one is within it. -/
def Seen (B : Bs) (n : Int) (t : Tm) (S : List Int) : Prop := ∀ v ∈ S, v ∈ keys B ∧ (lies B n (Tm.var v) = false ∨ far B t < far B (Tm.var v))
def Seen2 (B : Bs) (n : Int) (S S' : List Int) : Prop := ∀ v ∈ S', v ∈ S ∨ (v ∈ keys B ∧ lies B n (Tm.var v) = false)

/-! Two terms that are each other with terms in the places of variables. -/
mutual
theorem sub_cancel (h : Int → Tm) : ∀ t : Tm, t.right = true → t.sub h = t → ∀ n ∈ t.occ, h n = Tm.var n
  | .mk k m s l => by
    intro hr he n hn
    simp only [Tm.sub] at he
    simp only [Tm.occ] at hn
    simp only [Tm.right, Bool.and_eq_true] at hr
    split at hn
    · rename_i hk
      simp at hn
      subst hn
      subst hk
      rw [if_pos rfl] at he
      obtain ⟨_, _, h3, h4⟩ := partB_one hr.1
      rw [he, h3, List.eq_nil_of_length_eq_zero h4]; rfl
    · rename_i hk
      rw [if_neg hk] at he
      simp only [Tm.mk.injEq, true_and] at he
      exact subL_cancel h l hr.2 he n hn
theorem subL_cancel (h : Int → Tm) : ∀ l : List Tm, Tm.rightL l = true → Tm.subL h l = l → ∀ n ∈ Tm.occL l, h n = Tm.var n
  | [] => fun _ _ n hn => by cases hn
  | t :: ts => by
    intro hr he n hn
    simp only [Tm.rightL, Bool.and_eq_true] at hr
    simp only [Tm.subL, List.cons.injEq] at he
    simp only [Tm.occL, List.mem_append] at hn
    rcases hn with hn | hn
    · exact sub_cancel h t hr.1 he.1 n hn
    · exact subL_cancel h ts hr.2 he.2 n hn
end
mutual
theorem right_part (g : Int → Tm) : ∀ t : Tm, (t.sub g).right = true → ∀ n ∈ t.occ, (g n).right = true
  | .mk k m s l => by
    intro hr n hn
    simp only [Tm.sub] at hr
    simp only [Tm.occ] at hn
    split at hn
    · rename_i hk; rw [if_pos hk] at hr; simp at hn; subst hn; exact hr
    · rename_i hk
      rw [if_neg hk] at hr
      simp only [Tm.right, Bool.and_eq_true] at hr
      exact rightL_part g l hr.2 n hn
theorem rightL_part (g : Int → Tm) : ∀ l : List Tm, Tm.rightL (Tm.subL g l) = true → ∀ n ∈ Tm.occL l, (g n).right = true
  | [] => fun _ n hn => by cases hn
  | t :: ts => by
    intro hr n hn
    simp only [Tm.subL, Tm.rightL, Bool.and_eq_true] at hr
    simp only [Tm.occL, List.mem_append] at hn
    rcases hn with hn | hn
    · exact right_part g t hr.1 n hn
    · exact rightL_part g ts hr.2 n hn
end
mutual
theorem vars_ren (ρ : Int → Int) : ∀ (t : Tm) (L : List Int), (∀ a b, a ∈ L ∨ a ∈ t.occ → b ∈ L ∨ b ∈ t.occ → ρ a = ρ b → a = b) → (t.sub fun n => Tm.var (ρ n)).vars (L.map ρ) = (t.vars L).map ρ
  | .mk k m s l, L => by
    intro hi
    simp only [Tm.sub, Tm.vars]
    simp only [Tm.occ] at hi
    split
    · rename_i hk
      rw [if_pos hk] at hi
      simp only [Tm.var, Tm.vars, if_true]
      unfold addV
      by_cases hm : m ∈ L
      · rw [if_pos hm, if_pos (List.mem_map.2 ⟨m, hm, rfl⟩)]
      · rw [if_neg hm, if_neg, List.map_append]
        · rfl
        · intro h
          obtain ⟨a, h1, h2⟩ := List.mem_map.1 h
          exact hm (hi a m (.inl h1) (.inr (by simp)) h2 ▸ h1)
    · rename_i hk
      rw [if_neg hk] at hi
      simp only [Tm.vars, if_neg hk]
      exact varsL_ren ρ l L hi
theorem varsL_ren (ρ : Int → Int) : ∀ (l : List Tm) (L : List Int), (∀ a b, a ∈ L ∨ a ∈ Tm.occL l → b ∈ L ∨ b ∈ Tm.occL l → ρ a = ρ b → a = b) → Tm.varsL (Tm.subL (fun n => Tm.var (ρ n)) l) (L.map ρ) = (Tm.varsL l L).map ρ
  | [], L => fun _ => rfl
  | t :: ts, L => by
    intro hi
    simp only [Tm.subL, Tm.varsL]
    simp only [Tm.occL, List.mem_append] at hi
    rw [vars_ren ρ t L fun a b ha hb => hi a b (ha.imp id .inl) (hb.imp id .inl)]
    refine varsL_ren ρ ts (t.vars L) fun a b ha hb => hi a b ?_ ?_
    · rcases ha with ha | ha
      · exact ((Tm.mem_vars t L a).1 ha).imp id .inl
      · exact .inr (.inr ha)
    · rcases hb with hb | hb
      · exact ((Tm.mem_vars t L b).1 hb).imp id .inl
      · exact .inr (.inr hb)
end
theorem placeI_map (ρ : Int → Int) : ∀ (L : List Int) (n : Int) (i : Nat), (∀ a ∈ L, ρ a = ρ n → a = n) → placeI (L.map ρ) (ρ n) i = placeI L n i
  | [], _, _, _ => rfl
  | x :: xs, n, i, h => by
    simp only [List.map_cons, placeI]
    by_cases hx : x = n
    · rw [if_pos hx, if_pos (by rw [hx])]
    · rw [if_neg hx, if_neg fun e => hx (h x (by simp) e)]
      exact placeI_map ρ xs n (i + 1) fun a ha => h a (by simp [ha])
/-- Terms that come to each other are variants. -/
theorem variants {x y : Tm} {f g : Int → Tm} (hx : x.right = true) (hy : y.right = true) (h1 : x = y.sub f) (h2 : y = x.sub g) :
    numT (x.vars []) x = numT (y.vars []) y ∧ x.size = y.size ∧ x.depth = y.depth := by
  have e : x.sub (fun n => (g n).sub f) = x := by rw [← Tm.sub_sub, ← h2, ← h1]
  have hc := sub_cancel _ x hx e
  have hg : ∀ n ∈ x.occ, ∃ m, g n = Tm.var m ∧ (0 ≤ m ∧ m < 1073741824) := fun n hn => by
    have hr : (g n).right = true := right_part g x (by rw [← h2]; exact hy) n hn
    have := hc n hn
    rcases hw : g n with ⟨k, m, s, l⟩
    rw [hw] at this
    by_cases hk : k = 1
    · exact ⟨m, Tm.vn_some (t := .mk k m s l) (by simp [Tm.vn, hk]) (hw ▸ hr)⟩
    · have := congrArg Tm.vn this
      rw [Tm.vn_var] at this
      simp [Tm.sub, hk, Tm.vn] at this
  let ρ : Int → Int := fun n => ((g n).vn).getD 0
  have hρ : ∀ n ∈ x.occ, g n = Tm.var (ρ n) := fun n hn => by
    obtain ⟨m, e, _⟩ := hg n hn
    simp [ρ, e]
  have hinj : ∀ a b, a ∈ x.occ → b ∈ x.occ → ρ a = ρ b → a = b := fun a b ha hb e => by
    have k1 := hc a ha
    have k2 := hc b hb
    simp only [hρ a ha, hρ b hb, Tm.var_sub] at k1 k2
    rw [e, k2] at k1
    exact (Tm.var_inj k1).symm
  have hy2 : y = x.sub fun n => Tm.var (ρ n) := by rw [h2]; exact Tm.sub_congr _ _ x hρ
  have hv : y.vars [] = (x.vars []).map ρ := by
    rw [hy2]
    have := vars_ren ρ x [] fun a b ha hb => hinj a b (by simpa using ha) (by simpa using hb)
    simpa using this
  have hlike := Tm.sub_like g x hx hg
  rw [← h2] at hlike
  refine ⟨?_, hlike.2.1.symm, hlike.2.2.symm⟩
  rw [hv]
  conv => rhs; rw [hy2]
  unfold numT
  rw [Tm.sub_sub]
  refine Tm.sub_congr _ _ x fun n hn => ?_
  rw [Tm.var_sub, placeI_map]
  intro a ha
  exact hinj a n (by have := (Tm.mem_vars x [] a).1 ha; simpa using this) hn

/-! A variable in the place of a part. -/
mutual
def cutT (v : Int) : Tm → Int → Tm × Int
  | .mk k n s l, c => if c - 1 = -1 then (Tm.var v, c - 1) else (.mk k n s (cutL v l (c - 1)).1, (cutL v l (c - 1)).2)
def cutL (v : Int) : List Tm → Int → List Tm × Int
  | [], c => ([], c)
  | t :: ts, c => ((cutT v t c).1 :: (cutL v ts (cutT v t c).2).1, (cutL v ts (cutT v t c).2).2)
end
mutual
theorem cutT_neg (v : Int) : ∀ (t : Tm) (c : Int), c < 0 → (cutT v t c).1 = t ∧ (cutT v t c).2 < 0
  | .mk k n s l, c, h => by
    have := cutL_neg v l (c - 1) (by omega)
    simp only [cutT]
    rw [if_neg (by omega)]
    exact ⟨by rw [this.1], this.2⟩
theorem cutL_neg (v : Int) : ∀ (l : List Tm) (c : Int), c < 0 → (cutL v l c).1 = l ∧ (cutL v l c).2 < 0
  | [], c, h => ⟨rfl, h⟩
  | t :: ts, c, h => by
    obtain ⟨h1, h2⟩ := cutT_neg v t c h
    obtain ⟨h3, h4⟩ := cutL_neg v ts _ h2
    simp only [cutL]
    exact ⟨by rw [h1, h3], h4⟩
end
/-- A part was cut out, or not. -/
def CutOf (v : Int) (t t' : Tm) (c' : Int) : Prop := (c' < 0 ∧ ∃ P, ∀ θ : Int → Tm, θ v = P → (∀ n ∈ t.occ, θ n = Tm.var n) → t'.sub θ = t) ∨ (0 ≤ c' ∧ t' = t)
mutual
theorem cutT_of (v : Int) : ∀ (t : Tm) (c : Int), t.right = true → 0 ≤ c → ((cutT v t c).2 < 0 ∧ ∃ P, ∀ θ : Int → Tm, θ v = P → (∀ n ∈ t.occ, θ n = Tm.var n) → (cutT v t c).1.sub θ = t) ∨ (0 ≤ (cutT v t c).2 ∧ (cutT v t c).1 = t)
  | .mk k n s l, c, hr, h => by
    simp only [cutT]
    split
    · rename_i hc
      refine .inl ⟨by omega, .mk k n s l, fun θ h1 _ => by rw [Tm.var_sub, h1]⟩
    · rename_i hc
      simp only [Tm.right, Bool.and_eq_true] at hr
      by_cases hk : k = 1
      · subst hk
        obtain ⟨_, _, h3, h4⟩ := partB_one hr.1
        have := List.eq_nil_of_length_eq_zero h4
        subst this
        exact .inr ⟨by simp only [cutL]; omega, by simp only [cutL]⟩
      · rcases cutL_of v l (c - 1) hr.2 (by omega) with ⟨h1, P, h2⟩ | ⟨h1, h2⟩
        · refine .inl ⟨h1, P, fun θ k1 k2 => ?_⟩
          simp only [Tm.occ, if_neg hk] at k2
          simp only [Tm.sub, if_neg hk, h2 θ k1 k2]
        · exact .inr ⟨h1, by rw [h2]⟩
theorem cutL_of (v : Int) : ∀ (l : List Tm) (c : Int), Tm.rightL l = true → 0 ≤ c → ((cutL v l c).2 < 0 ∧ ∃ P, ∀ θ : Int → Tm, θ v = P → (∀ n ∈ Tm.occL l, θ n = Tm.var n) → Tm.subL θ (cutL v l c).1 = l) ∨ (0 ≤ (cutL v l c).2 ∧ (cutL v l c).1 = l)
  | [], c, _, h => .inr ⟨h, rfl⟩
  | t :: ts, c, hr, h => by
    simp only [Tm.rightL, Bool.and_eq_true] at hr
    simp only [cutL]
    rcases cutT_of v t c hr.1 h with ⟨h1, P, h2⟩ | ⟨h1, h2⟩
    · obtain ⟨k1, k2⟩ := cutL_neg v ts _ h1
      refine .inl ⟨k2, P, fun θ q1 q2 => ?_⟩
      simp only [Tm.occL, List.mem_append] at q2
      simp only [Tm.subL, h2 θ q1 fun n hn => q2 n (.inl hn), k1, sub_id, Tm.subL_map]
      congr 1
      conv => rhs; rw [← List.map_id ts]
      exact List.map_congr_left fun x hx => sub_id (rightL_mem hr.2 x hx) fun n hn => q2 n (.inr (Tm.occ_mem hx hn))
    · rcases cutL_of v ts _ hr.2 h1 with ⟨k1, P, k2⟩ | ⟨k1, k2⟩
      · refine .inl ⟨k1, P, fun θ q1 q2 => ?_⟩
        simp only [Tm.occL, List.mem_append] at q2
        simp only [Tm.subL, h2, k2 θ q1 fun n hn => q2 n (.inr hn), sub_id hr.1 fun n hn => q2 n (.inl hn)]
      · exact .inr ⟨k1, by rw [h2, k2]⟩
end
mutual
theorem cutT_like {v : Int} (hv : 0 ≤ v ∧ v < 1073741824) : ∀ (t : Tm) (c : Int), t.right = true → (cutT v t c).1.right = true ∧ (cutT v t c).1.size ≤ t.size ∧ (cutT v t c).1.depth ≤ t.depth
  | .mk k n s l, c, hr => by
    simp only [cutT]
    split
    · refine ⟨Tm.var_right hv, ?_, ?_⟩
      · have := Tm.size_pos (.mk k n s l); simpa [Tm.var, Tm.size, Tm.sizeL] using this
      · have := Tm.depth_pos (.mk k n s l); simpa [Tm.var, Tm.depth, Tm.depthL] using this
    · simp only [Tm.right, Bool.and_eq_true] at hr
      obtain ⟨h1, h2, h3, h4⟩ := cutL_like hv l (c - 1) hr.2
      simp only [Tm.right, Tm.size, Tm.depth, h4, hr.1, h1, Bool.and_true, true_and]
      omega
theorem cutL_like {v : Int} (hv : 0 ≤ v ∧ v < 1073741824) : ∀ (l : List Tm) (c : Int), Tm.rightL l = true → Tm.rightL (cutL v l c).1 = true ∧ Tm.sizeL (cutL v l c).1 ≤ Tm.sizeL l ∧ Tm.depthL (cutL v l c).1 ≤ Tm.depthL l ∧ (cutL v l c).1.length = l.length
  | [], c, _ => by simp [cutL, Tm.rightL]
  | t :: ts, c, hr => by
    simp only [Tm.rightL, Bool.and_eq_true] at hr
    obtain ⟨a1, a2, a3⟩ := cutT_like hv t c hr.1
    obtain ⟨b1, b2, b3, b4⟩ := cutL_like hv ts (cutT v t c).2 hr.2
    simp only [cutL, Tm.rightL, Tm.sizeL, Tm.depthL, List.length_cons, a1, b1, b4, Bool.and_self, true_and, and_true]
    exact ⟨by omega, by omega⟩
end
end Go.Ab
end

section
namespace Go.Ab
/-- A part within a term. -/
inductive Part : Tm → Tm → Prop
  | arg {x : Tm} {k n : Int} {s : ByteArray} {l : List Tm} : k ≠ 1 → x ∈ l → Part x (.mk k n s l)
  | deep {y x : Tm} {k n : Int} {s : ByteArray} {l : List Tm} : Part y x → k ≠ 1 → x ∈ l → Part y (.mk k n s l)
theorem size_le_mem {x : Tm} : ∀ {l : List Tm}, x ∈ l → x.size ≤ Tm.sizeL l
  | y :: l, h => by
    simp only [Tm.sizeL]
    rcases List.mem_cons.1 h with rfl | h
    · omega
    · have := size_le_mem h; omega
theorem Part.size {x y : Tm} (h : Part x y) : x.size < y.size := by
  induction h with
  | arg _ hx => have := size_le_mem hx; simp only [Tm.size]; omega
  | deep _ _ hx ih => have := size_le_mem hx; simp only [Tm.size]; omega
theorem Part.trans {x y z : Tm} (h : Part x y) (k : Part y z) : Part x z := by
  induction k with
  | arg hk hx => exact .deep h hk hx
  | deep _ hk hx ih => exact .deep ih hk hx
theorem mem_subL {x : Tm} (f : Int → Tm) {l : List Tm} (h : x ∈ l) : x.sub f ∈ Tm.subL f l := by rw [Tm.subL_map]; exact List.mem_map.2 ⟨x, h, rfl⟩
theorem Part.sub (f : Int → Tm) {x y : Tm} (h : Part x y) : Part (x.sub f) (y.sub f) := by
  induction h with
  | arg hk hx => simp only [Tm.sub, if_neg hk]; exact .arg hk (mem_subL f hx)
  | deep _ hk hx ih =>
    have e : ∀ (k n : Int) (s : ByteArray) (l : List Tm), k ≠ 1 → (Tm.mk k n s l).sub f = .mk k n s (Tm.subL f l) := fun k n s l hk => by simp only [Tm.sub, if_neg hk]
    rw [e _ _ _ _ hk]; exact .deep ih hk (mem_subL f hx)
/-- What comes of two terms that are unified. -/
structure Does (V : List Int) (B : Bs) (a b : Tm) (r : Bool) (B' : Bs) : Prop where
  ok : OkB B'
  ext : ∃ D, B' = B ++ D
  inV : BsV V B'
  yes : r = true → ∀ ps R, Un B' ps R → Un B ((a, b) :: ps) R
  no : r = false → ∀ ps, Un B ((a, b) :: ps) none
/-- The same for pairs. -/
structure DoesL (V : List Int) (B : Bs) (qs : List (Tm × Tm)) (r : Bool) (B' : Bs) : Prop where
  ok : OkB B'
  ext : ∃ D, B' = B ++ D
  inV : BsV V B'
  yes : r = true → ∀ ps R, Un B' ps R → Un B (qs ++ ps) R
  no : r = false → ∀ ps, Un B (qs ++ ps) none
theorem Does.same {V : List Int} {B B' : Bs} {a b : Tm} (h : Does V B a b true B') (hB : OkB B) (ra : a.right = true) (rb : b.right = true) : a.sub (sg B') = b.sub (sg B') :=
  (Un.sound (h.yes rfl [] _ (.nil B')) hB (by simp [ra, rb]) B' rfl).2.2 (a, b) (by simp)
/-- Pairs of variables that were held against each other: they come to the same, or one is within them. -/
def PInv (B : Bs) (a : Tm) (P : List (Int × Int)) : Prop := ∀ p ∈ P, sg B p.1 = sg B p.2 ∨ Part (a.sub (sg B)) (sg B p.1)
/-- New pairs come to the same. -/
def PNew (B' : Bs) (P P' : List (Int × Int)) : Prop := ∀ p ∈ P', p ∈ P ∨ sg B' p.1 = sg B' p.2
theorem sg_ext_var {B D : Bs} (h : OkB (B ++ D)) (n : Int) : (sg B n).sub (sg (B ++ D)) = sg (B ++ D) n := by
  have := sg_ext h (Tm.var n); simpa using this
theorem pair_ext {B D : Bs} (h : OkB (B ++ D)) {x y : Int} (he : sg B x = sg B y) : sg (B ++ D) x = sg (B ++ D) y := by
  rw [← sg_ext_var h x, ← sg_ext_var h y, he]
theorem PNew.refl (B : Bs) (P : List (Int × Int)) : PNew B P P := fun _ h => .inl h
theorem PNew.trans {B B' D : Bs} {P P' P'' : List (Int × Int)} (e : B' = B ++ D) (hB : OkB B') (h : PNew B P P') (k : PNew B' P' P'') : PNew B' P P'' := fun p hp => by
  subst e
  rcases k p hp with h1 | h1
  · rcases h p h1 with h2 | h2
    · exact .inl h2
    · exact .inr (pair_ext hB h2)
  · exact .inr h1
/-- What is known when one comes to the arguments. -/
theorem PInv.arg {B D : Bs} {a x : Tm} {P P' : List (Int × Int)} (h : PInv B a P) (hD : OkB (B ++ D)) (hx : Part (x.sub (sg B)) (a.sub (sg B))) (hP : PNew (B ++ D) P P') : PInv (B ++ D) x P' := fun p hp => by
  rcases hP p hp with h1 | h1
  · rcases h p h1 with h2 | h2
    · exact .inl (pair_ext hD h2)
    · refine .inr ?_
      have := (hx.trans h2).sub (sg (B ++ D))
      rwa [sg_ext hD, sg_ext_var hD] at this
  · exact .inl h1
theorem Part.of_wk {B : Bs} (hB : OkB B) {a : Tm} (ra : a.right = true) {k n : Int} {s : ByteArray} {l : List Tm} (hw : wk B a = .mk k n s l) (hk : k ≠ 1) {x : Tm} (hx : x ∈ l) : Part (x.sub (sg B)) (a.sub (sg B)) := by
  rw [← wk_sg hB a ra, hw]
  simp only [Tm.sub, if_neg hk]
  exact .arg hk (mem_subL _ hx)
theorem nodup_le : ∀ {L V : List Int}, L.Nodup → (∀ x ∈ L, x ∈ V) → L.length ≤ V.length
  | [], _, _, _ => Nat.zero_le _
  | x :: L, V, h, hs => by
    obtain ⟨h1, h2⟩ := List.nodup_cons.1 h
    have hx : x ∈ V := hs x (by simp)
    have := nodup_le (L := L) (V := V.erase x) h2 fun y hy => (List.mem_erase_of_ne (a := y) (b := x) fun e => h1 (by rw [← e]; exact hy)).2 (hs y (by simp [hy]))
    rw [List.length_erase_of_mem hx] at this
    have := List.length_pos_of_mem hx
    simp; omega
theorem BsV.len {V : List Int} {B : Bs} (h : BsV V B) (hB : OkB B) : B.length ≤ V.length := by
  have := nodup_le (OkB_nodup hB) (V := V) fun x hx => by
    obtain ⟨⟨n, t⟩, h1, rfl⟩ := List.mem_map.1 hx
    exact (h n t h1).1
  simpa using this
theorem size_arg {B : Bs} {k n : Int} {s : ByteArray} {l : List Tm} (hk : k ≠ 1) {x : Tm} (hx : x ∈ l) : (x.sub (sg B)).size < ((Tm.mk k n s l).sub (sg B)).size := by
  have : Part (x.sub (sg B)) ((Tm.mk k n s l).sub (sg B)) := by simp only [Tm.sub, if_neg hk]; exact .arg hk (mem_subL _ hx)
  exact this.size
end Go.Ab
end

section
namespace Go.Ab
/-- All that variables are bound to is so. -/
def BsP (p : Tm → Prop) (B : Bs) : Prop := ∀ n t, (n, t) ∈ B → p t
theorem BsP_look {p : Tm → Prop} {B : Bs} (h : BsP p B) {n : Int} {t : Tm} (hl : lookB B n = some t) : p t := h n t (look_mem hl)
theorem wk_all {p : Tm → Prop} : ∀ {B : Bs} {t : Tm}, BsP p B → p t → p (wk B t)
  | [], _, _, h => h
  | (n, u) :: B, t, hB, h => by
    unfold wk
    have hB' : BsP p B := fun m v hm => hB m v (List.mem_cons_of_mem _ hm)
    split
    · exact wk_all hB' (hB n u (List.mem_cons_self ..))
    · exact wk_all hB' h
theorem BsP_take {p : Tm → Prop} {B : Bs} (h : BsP p B) (i : Nat) : BsP p (B.take i) := fun n t hm => h n t (List.mem_of_mem_take hm)
theorem BsP_snoc {p : Tm → Prop} {B : Bs} (h : BsP p B) {n : Int} {t : Tm} (ht : p t) : BsP p (B ++ [(n, t)]) := fun m u hm => by
  rcases List.mem_append.1 hm with hm | hm
  · exact h m u hm
  · simp at hm; rw [hm.2]; exact ht
theorem stepU_all {p : Tm → Prop} (hp : ∀ k n s l, p (.mk k n s l) → ∀ x ∈ l, p x) {B B' : Bs} {a b : Tm} {qs : List (Tm × Tm)} (hB : BsP p B) (ha : p a) (hb : p b) (hs : stepU B a b = some (B', qs)) :
    BsP p B' ∧ ∀ q ∈ qs, p q.1 ∧ p q.2 := by
  have wa := wk_all hB ha
  have wb := wk_all hB hb
  have hbind : ∀ n t, p t → bindS B n t = some (B', qs) → BsP p B' ∧ ∀ q ∈ qs, p q.1 ∧ p q.2 := fun n t ht h => by
    obtain ⟨_, rfl, rfl⟩ := bindS_some h
    exact ⟨BsP_snoc hB ht, by simp⟩
  unfold stepU at hs
  split at hs
  · split at hs
    · cases hs; exact ⟨hB, by simp⟩
    · exact hbind _ _ wb hs
  · exact hbind _ _ wb hs
  · exact hbind _ _ wa hs
  · obtain ⟨k, n, s, l, l', e1, e2, _, rfl, rfl⟩ := argsS_some hs
    rw [e1] at wa; rw [e2] at wb
    refine ⟨hB, fun q hq => ?_⟩
    have := List.of_mem_zip hq
    exact ⟨hp _ _ _ _ wa _ this.1, hp _ _ _ _ wb _ this.2⟩
theorem Un.all {p : Tm → Prop} (hp : ∀ k n s l, p (.mk k n s l) → ∀ x ∈ l, p x) {B : Bs} {ps : List (Tm × Tm)} {r : Option Bs} (h : Un B ps r) : BsP p B → (∀ q ∈ ps, p q.1 ∧ p q.2) → ∀ B', r = some B' → BsP p B' := by
  induction h with
  | nil B => intro hB _ B' e; cases e; exact hB
  | fail _ => intro _ _ B' e; cases e
  | @go B a b ps B1 qs r hs _ ih =>
    intro hB hq B' e
    have h0 := hq (a, b) (List.mem_cons_self ..)
    obtain ⟨h1, h2⟩ := stepU_all hp hB h0.1 h0.2 hs
    refine ih h1 (fun q hm => ?_) B' e
    rcases List.mem_append.1 hm with hm | hm
    · exact h2 q hm
    · exact hq q (List.mem_cons_of_mem _ hm)
theorem check_arg (k n : Int) (s : ByteArray) (l : List Tm) (h : (Tm.mk k n s l).check = 0) : ∀ x ∈ l, x.check = 0 := fun x hx => by
  have hd : ∀ {l : List Tm}, x ∈ l → x.depth ≤ Tm.depthL l := by
    intro l
    induction l with
    | nil => intro h; cases h
    | cons y l ih =>
      intro h
      rcases List.mem_cons.1 h with rfl | h
      · simp only [Tm.depthL]; omega
      · have := ih h; simp only [Tm.depthL]; omega
  have hdx := hd hx
  have hsx := size_le_mem hx
  unfold Tm.check at h ⊢
  split at h
  · simp at h
  rename_i h1
  split at h
  · simp at h
  rename_i h2
  split at h
  · simp at h
  rename_i h3
  simp only [Bool.not_eq_false] at h1
  have hr := h1
  simp only [Tm.right, Bool.and_eq_true] at hr
  have hrx := rightL_mem hr.2 x hx
  simp only [Tm.size] at h3
  simp only [Tm.depth] at h2
  rw [if_neg (by simp [hrx]), if_neg (by omega), if_neg (by omega)]
theorem check_zero {t : Tm} (h : t.check = 0) : t.right = true ∧ t.depth ≤ 200 ∧ t.size ≤ 4096 := by
  unfold Tm.check at h
  split at h
  · simp at h
  rename_i h1
  split at h
  · simp at h
  rename_i h2
  split at h
  · simp at h
  rename_i h3
  exact ⟨by simpa using h1, by omega, by omega⟩
theorem check_small {t : Tm} (h : t.check = 0) : t.small := by have := (check_zero h).2.2; unfold Tm.small; omega
abbrev BsC (B : Bs) : Prop := BsP (fun t => t.check = 0) B
theorem Un.check {B : Bs} {a b : Tm} {B' : Bs} (h : Un B [(a, b)] (some B')) (hB : BsC B) (ha : a.check = 0) (hb : b.check = 0) : BsC B' :=
  h.all check_arg hB (fun q hq => by simp at hq; subst hq; exact ⟨ha, hb⟩) B' rfl
end Go.Ab
end
