/- Terms as trees: their size, depth, variables, what they are with others in the places of variables, what they come to: plain laws, no condition. -/
import Derived.Test.YtbkflaajlkopaaaGreatW2
set_option linter.unusedSimpArgs false
set_option linter.unusedVariables false
set_option linter.unusedSectionVars false
set_option linter.unnecessarySimpa false
section
namespace Go.Ab

/-- Terms, as trees. -/
inductive Tm where
  | mk (k n : Int) (s : ByteArray) (l : List Tm)

mutual
theorem Tm.ind {p : Tm → Prop} (h : ∀ k n s l, (∀ t ∈ l, p t) → p (.mk k n s l)) : ∀ t, p t
  | .mk k n s l => h k n s l (Tm.indL h l)
theorem Tm.indL {p : Tm → Prop} (h : ∀ k n s l, (∀ t ∈ l, p t) → p (.mk k n s l)) : ∀ l : List Tm, ∀ t ∈ l, p t
  | [] => fun _ ht => by cases ht
  | x :: xs => fun t ht => (List.mem_cons.1 ht).elim (fun e => e ▸ Tm.ind h x) (Tm.indL h xs t)
end

mutual
def Tm.ex : Tm → Tm → Bool
  | .mk k n s l, .mk k' n' s' l' => decide (k = k') && decide (n = n') && decide (s = s') && Tm.exL l l'
def Tm.exL : List Tm → List Tm → Bool
  | [], [] => true
  | x :: xs, y :: ys => Tm.ex x y && Tm.exL xs ys
  | _, _ => false
end
mutual
theorem Tm.ex_iff : ∀ a b : Tm, a.ex b = true ↔ a = b
  | .mk k n s l, .mk k' n' s' l' => by
    simp only [Tm.ex, Bool.and_eq_true, decide_eq_true_eq, Tm.mk.injEq, Tm.exL_iff l l', and_assoc]
theorem Tm.exL_iff : ∀ a b : List Tm, Tm.exL a b = true ↔ a = b
  | [], [] => by simp [Tm.exL]
  | x :: xs, y :: ys => by simp only [Tm.exL, Bool.and_eq_true, Tm.ex_iff x y, Tm.exL_iff xs ys, List.cons.injEq]
  | [], _ :: _ => by simp [Tm.exL]
  | _ :: _, [] => by simp [Tm.exL]
end
instance : DecidableEq Tm := fun a b => decidable_of_iff _ (Tm.ex_iff a b)

mutual
/-- A term's four cells; e: the type's number. -/
def Tm.cells (e : Nat) : Tm → List AV
  | .mk k n s l => [.sc (.int .i64 k), .sc (.int .i64 n), .sc (.string s), .lst e (Tm.cellsL e l)]
def Tm.cellsL (e : Nat) : List Tm → List (List AV)
  | [] => []
  | t :: ts => Tm.cells e t :: Tm.cellsL e ts
end
theorem Tm.cellsL_map (e : Nat) : ∀ l : List Tm, Tm.cellsL e l = l.map (Tm.cells e)
  | [] => rfl
  | t :: ts => by simp only [Tm.cellsL, List.map_cons, Tm.cellsL_map e ts]
@[simp] theorem Tm.cellsL_len (e : Nat) (l : List Tm) : (Tm.cellsL e l).length = l.length := by simp [Tm.cellsL_map]
@[simp] theorem Tm.cellsL_nil (e : Nat) (l : List Tm) : Tm.cellsL e l = [] ↔ l = [] := by simp [Tm.cellsL_map]
@[simp] theorem Tm.cells_len (e : Nat) : ∀ t : Tm, (t.cells e).length = 4
  | .mk _ _ _ _ => rfl
@[simp] theorem Tm.cellsL_get (e : Nat) (l : List Tm) (i : Nat) : (Tm.cellsL e l)[i]? = (l[i]?).map (Tm.cells e) := by simp [Tm.cellsL_map]
@[simp] theorem Tm.cellsL_getElem (e : Nat) (l : List Tm) (i : Nat) (h : i < (Tm.cellsL e l).length) : (Tm.cellsL e l)[i] = (l[i]'(by simpa using h)).cells e := by simp [Tm.cellsL_map]
mutual
@[simp] theorem Tm.cells_pure (e : Nat) : ∀ t : Tm, AV.pureL (t.cells e) = true
  | .mk k n s l => by simp only [Tm.cells, AV.pureL, AV.pure, Tm.cellsL_pure e l]; rfl
@[simp] theorem Tm.cellsL_pure (e : Nat) : ∀ l : List Tm, AV.pureM (Tm.cellsL e l) = true
  | [] => rfl
  | t :: ts => by simp only [Tm.cellsL, AV.pureM, Tm.cells_pure e t, Tm.cellsL_pure e ts]; rfl
end
mutual
theorem frz_pure (st : St) : ∀ x : AV, x.pure = true → x.frz st = x
  | .own _ _, h => by cases h
  | .agg cs, h => by simp only [AV.pure] at h; simp only [AV.frz, frz_pureL st cs h]
  | .tup cs, h => by simp only [AV.pure] at h; simp only [AV.frz, frz_pureL st cs h]
  | .sc _, _ => rfl
  | .lst _ _, _ => rfl
  | .nils, _ => rfl
  | .ptr _ _, _ => rfl
  | .rptr _ _ _ _, _ => rfl
  | .sub _ _ _ _, _ => rfl
  | .eptr _, _ => rfl
  | .fn _ _ _, _ => rfl
  | .mp _, _ => rfl
  | .gate _ _, _ => rfl
  | .any, _ => rfl
theorem frz_pureL (st : St) : ∀ xs : List AV, AV.pureL xs = true → AV.frzL st xs = xs
  | [], _ => rfl
  | x :: xs, h => by
    simp only [AV.pureL, Bool.and_eq_true] at h
    simp only [AV.frzL, frz_pure st x h.1, frz_pureL st xs h.2]
end
mutual
theorem cut_pure (N : Nat) (S : St) : ∀ x : AV, x.pure = true → x.cut N S = x
  | .own _ _, h => by cases h
  | .ptr _ _, h => by cases h
  | .rptr _ _ _ _, h => by cases h
  | .sub _ _ _ _, h => by cases h
  | .mp _, h => by cases h
  | .agg cs, h => by simp only [AV.pure] at h; simp only [AV.cut, cut_pureL N S cs h]
  | .tup cs, h => by simp only [AV.pure] at h; simp only [AV.cut, cut_pureL N S cs h]
  | .lst e l, h => by simp only [AV.pure] at h; simp only [AV.cut, cut_pureM N S l h]
  | .eptr cs, h => by simp only [AV.pure] at h; simp only [AV.cut, cut_pureL N S cs h]
  | .fn f fs cs, h => by simp only [AV.pure, Bool.and_eq_true] at h; simp only [AV.cut, cut_pureL N S fs h.1, cut_pureL N S cs h.2]
  | .gate c x, h => by simp only [AV.pure] at h; simp only [AV.cut, cut_pure N S x h]; cases c <;> rfl
  | .sc _, _ => rfl
  | .nils, _ => rfl
  | .any, _ => rfl
theorem cut_pureL (N : Nat) (S : St) : ∀ xs : List AV, AV.pureL xs = true → AV.cutL N S xs = xs
  | [], _ => rfl
  | x :: xs, h => by
    simp only [AV.pureL, Bool.and_eq_true] at h
    simp only [AV.cutL, cut_pure N S x h.1, cut_pureL N S xs h.2]
theorem cut_pureM (N : Nat) (S : St) : ∀ xs : List (List AV), AV.pureM xs = true → AV.cutM N S xs = xs
  | [], _ => rfl
  | x :: xs, h => by
    simp only [AV.pureM, Bool.and_eq_true] at h
    simp only [AV.cutM, cut_pureL N S x h.1, cut_pureM N S xs h.2]
end
@[simp] theorem Tm.frz_cells (e : Nat) (t : Tm) (st : St) : AV.frzL st (t.cells e) = t.cells e := frz_pureL st _ (by simp)
@[simp] theorem Tm.cut_cells (e : Nat) (t : Tm) (N : Nat) (st : St) : AV.cutL N st (t.cells e) = t.cells e := cut_pureL N st _ (by simp)
@[simp] theorem Tm.cut_cellsL (e : Nat) (l : List Tm) (N : Nat) (st : St) : AV.cutM N st (Tm.cellsL e l) = Tm.cellsL e l := cut_pureM N st _ (by simp)
/-- A term's value. -/
abbrev Tm.av (e : Nat) (t : Tm) : AV := .agg (t.cells e)

@[simp] theorem Tm.cells_take (e : Nat) (t : Tm) : (t.cells e).take 4 = t.cells e := by rw [List.take_of_length_le (by simp)]

end Go.Ab
end

section
namespace Go.Ab

/-- May a part be, its arguments not asked? -/
def partB (k n : Int) (s : ByteArray) (len : Nat) : Bool :=
  if k = 1 then decide (0 ≤ n) && decide (n < 1073741824) && decide (s = ⟨#[]⟩) && decide (len = 0)
  else if k = 2 then decide (-9007199254740991 ≤ n) && decide (n ≤ 9007199254740991) && decide (s = ⟨#[]⟩) && decide (len = 0)
  else if k = 3 then decide (n = 0) && decide ((s.size : Int) ≤ 64) && decide (len = 0)
  else if k = 4 then decide (n = 0) && decide ((s.size : Int) ≤ 64) && decide (1 ≤ (len : Int)) && decide ((len : Int) ≤ 16)
  else false

mutual
def Tm.size : Tm → Nat
  | .mk _ _ _ l => 1 + Tm.sizeL l
def Tm.sizeL : List Tm → Nat
  | [] => 0
  | t :: ts => Tm.size t + Tm.sizeL ts
end
mutual
def Tm.depth : Tm → Nat
  | .mk _ _ _ l => Tm.depthL l + 1
def Tm.depthL : List Tm → Nat
  | [] => 0
  | t :: ts => max (Tm.depth t) (Tm.depthL ts)
end
mutual
def Tm.right : Tm → Bool
  | .mk k n s l => partB k n s l.length && Tm.rightL l
def Tm.rightL : List Tm → Bool
  | [] => true
  | t :: ts => Tm.right t && Tm.rightL ts
end
theorem Tm.sizeL_append (a b : List Tm) : Tm.sizeL (a ++ b) = Tm.sizeL a + Tm.sizeL b := by
  induction a with
  | nil => simp [Tm.sizeL]
  | cons x xs ih => simp only [List.cons_append, Tm.sizeL, ih]; omega
theorem Tm.depthL_append (a b : List Tm) : Tm.depthL (a ++ b) = max (Tm.depthL a) (Tm.depthL b) := by
  induction a with
  | nil => simp [Tm.depthL]
  | cons x xs ih => simp only [List.cons_append, Tm.depthL, ih]; omega
theorem Tm.rightL_append (a b : List Tm) : Tm.rightL (a ++ b) = (Tm.rightL a && Tm.rightL b) := by
  induction a with
  | nil => simp [Tm.rightL]
  | cons x xs ih => simp only [List.cons_append, Tm.rightL, ih, Bool.and_assoc]
theorem Tm.take_succ {l : List Tm} {i : Nat} (h : i < l.length) : l.take (i + 1) = l.take i ++ [l[i]] := by
  rw [List.take_add_one]; simp [h]
theorem Tm.sizeL_take {l : List Tm} {i : Nat} (h : i < l.length) : Tm.sizeL (l.take (i + 1)) = Tm.sizeL (l.take i) + l[i].size := by
  rw [Tm.take_succ h, Tm.sizeL_append]; simp [Tm.sizeL]
theorem Tm.depthL_take {l : List Tm} {i : Nat} (h : i < l.length) : Tm.depthL (l.take (i + 1)) = max (Tm.depthL (l.take i)) l[i].depth := by
  rw [Tm.take_succ h, Tm.depthL_append]; simp [Tm.depthL]
theorem Tm.rightL_take {l : List Tm} {i : Nat} (h : i < l.length) : Tm.rightL (l.take (i + 1)) = (Tm.rightL (l.take i) && l[i].right) := by
  rw [Tm.take_succ h, Tm.rightL_append]; simp [Tm.rightL]
theorem Tm.sizeL_take_le (l : List Tm) (i : Nat) : Tm.sizeL (l.take i) ≤ Tm.sizeL l := by
  conv => rhs; rw [← List.take_append_drop i l, Tm.sizeL_append]
  omega
theorem Tm.depthL_take_le (l : List Tm) (i : Nat) : Tm.depthL (l.take i) ≤ Tm.depthL l := by
  conv => rhs; rw [← List.take_append_drop i l, Tm.depthL_append]
  omega
mutual
theorem Tm.depth_le_size : ∀ t : Tm, t.depth ≤ t.size
  | .mk _ _ _ l => by simp only [Tm.depth, Tm.size]; have := Tm.depthL_le_sizeL l; omega
theorem Tm.depthL_le_sizeL : ∀ l : List Tm, Tm.depthL l ≤ Tm.sizeL l
  | [] => by simp [Tm.depthL]
  | t :: ts => by simp only [Tm.depthL, Tm.sizeL]; have := Tm.depth_le_size t; have := Tm.depthL_le_sizeL ts; omega
end
theorem Tm.depth_pos : ∀ t : Tm, 1 ≤ t.depth
  | .mk _ _ _ l => by simp only [Tm.depth]; omega
theorem Tm.size_pos : ∀ t : Tm, 1 ≤ t.size
  | .mk _ _ _ l => by simp only [Tm.size]; omega
theorem Tm.size_get {l : List Tm} {i : Nat} (h : i < l.length) : Tm.sizeL (l.take i) + l[i].size ≤ Tm.sizeL l := by
  rw [← Tm.sizeL_take h]; exact Tm.sizeL_take_le l (i + 1)

/-- A term whose parts can be counted. -/
def Tm.small (t : Tm) : Prop := t.size ≤ 900000000
/-- What Check hands back. -/
def Tm.check (t : Tm) : Int := if t.right = false then 60 else if 200 < t.depth then 61 else if 4096 < t.size then 62 else 0
end Go.Ab
end

section
namespace Go.Ab
mutual
/-- Variables by others. -/
def Tm.sub (f : Int → Tm) : Tm → Tm
  | .mk k n s l => if k = 1 then f n else .mk k n s (Tm.subL f l)
def Tm.subL (f : Int → Tm) : List Tm → List Tm
  | [] => []
  | t :: ts => Tm.sub f t :: Tm.subL f ts
end
theorem Tm.subL_map (f : Int → Tm) : ∀ l : List Tm, Tm.subL f l = l.map (Tm.sub f)
  | [] => rfl
  | t :: ts => by simp only [Tm.subL, List.map_cons, Tm.subL_map f ts]
@[simp] theorem Tm.subL_len (f : Int → Tm) (l : List Tm) : (Tm.subL f l).length = l.length := by simp [Tm.subL_map]
theorem Tm.subL_take {l : List Tm} {i : Nat} (h : i < l.length) (f : Int → Tm) : Tm.subL f (l.take (i + 1)) = Tm.subL f (l.take i) ++ [l[i].sub f] := by rw [Tm.take_succ h, Tm.subL_map, Tm.subL_map, List.map_append]; rfl
@[simp] theorem Tm.cellsL_append (e : Nat) (a b : List Tm) : Tm.cellsL e (a ++ b) = Tm.cellsL e a ++ Tm.cellsL e b := by simp [Tm.cellsL_map]
mutual
/-- The variables' numbers, one for each place. -/
def Tm.occ : Tm → List Int
  | .mk k n _ l => if k = 1 then [n] else Tm.occL l
def Tm.occL : List Tm → List Int
  | [] => []
  | t :: ts => Tm.occ t ++ Tm.occL ts
end
theorem Tm.occ_mem {l : List Tm} {t : Tm} (h : t ∈ l) {n : Int} (hn : n ∈ t.occ) : n ∈ Tm.occL l := by
  induction l with
  | nil => cases h
  | cons x xs ih =>
    simp only [Tm.occL, List.mem_append]
    rcases List.mem_cons.1 h with rfl | h
    · exact .inl hn
    · exact .inr (ih h)
/-- Where the first one is. -/
def Tm.fi (p : Tm → Bool) : List Tm → Nat → Int
  | [], _ => -1
  | x :: xs, i => if p x = true then i else Tm.fi p xs (i + 1)
theorem Tm.fi_iff (p : Tm → Bool) : ∀ (l : List Tm) (i : Nat), 0 ≤ Tm.fi p l i ↔ l.any p = true
  | [], i => by simp [Tm.fi]
  | x :: xs, i => by
    simp only [Tm.fi, List.any_cons, Bool.or_eq_true]
    split
    · rename_i h; simp [h]
    · rename_i h; rw [Tm.fi_iff p xs (i + 1)]; simp [h]
/-- A variable. -/
def Tm.var (n : Int) : Tm := .mk 1 n ⟨#[]⟩ []
def Tm.zero : Tm := .mk 0 0 ⟨#[]⟩ []
theorem partB_one {n : Int} {s : ByteArray} {m : Nat} (h : partB 1 n s m = true) : 0 ≤ n ∧ n < 1073741824 ∧ s = ⟨#[]⟩ ∧ m = 0 := by
  simp [partB] at h; exact ⟨h.1.1.1, h.1.1.2, h.1.2, h.2⟩
mutual
theorem Tm.sub_var : ∀ t : Tm, t.right = true → t.sub Tm.var = t
  | .mk k n s l => by
    intro h
    simp only [Tm.right, Bool.and_eq_true] at h
    simp only [Tm.sub]
    split
    · rename_i hk
      subst hk
      obtain ⟨_, _, h3, h4⟩ := partB_one h.1
      rw [h3, List.eq_nil_of_length_eq_zero h4]; rfl
    · rw [Tm.subL_var l h.2]
theorem Tm.subL_var : ∀ l : List Tm, Tm.rightL l = true → Tm.subL Tm.var l = l
  | [] => fun _ => rfl
  | t :: ts => by
    intro h
    simp only [Tm.rightL, Bool.and_eq_true] at h
    simp only [Tm.subL, Tm.sub_var t h.1, Tm.subL_var ts h.2]
end
theorem Tm.right_of_check {t : Tm} (h : t.check = 0) : t.right = true := by
  unfold Tm.check at h
  by_cases hr : t.right = false
  · rw [if_pos hr] at h; cases h
  · simpa using hr
mutual
theorem Tm.occ_pos : ∀ t : Tm, t.right = true → ∀ n ∈ t.occ, 0 ≤ n ∧ n < 1073741824
  | .mk k n s l => by
    intro h m hm
    simp only [Tm.right, Bool.and_eq_true] at h
    simp only [Tm.occ] at hm
    split at hm
    · rename_i hk
      subst hk
      obtain ⟨h1, h2, _⟩ := partB_one h.1
      simp at hm; subst hm; exact ⟨h1, h2⟩
    · exact Tm.occL_pos l h.2 m hm
theorem Tm.occL_pos : ∀ l : List Tm, Tm.rightL l = true → ∀ n ∈ Tm.occL l, 0 ≤ n ∧ n < 1073741824
  | [] => fun _ n hn => by cases hn
  | t :: ts => by
    intro h n hn
    simp only [Tm.rightL, Bool.and_eq_true] at h
    simp only [Tm.occL, List.mem_append] at hn
    rcases hn with hn | hn
    · exact Tm.occ_pos t h.1 n hn
    · exact Tm.occL_pos ts h.2 n hn
end
/-- Put behind, once. -/
def addV (out : List Int) (n : Int) : List Int := if n ∈ out then out else out ++ [n]
mutual
def Tm.vars : Tm → List Int → List Int
  | .mk k n _ l, out => if k = 1 then addV out n else Tm.varsL l out
def Tm.varsL : List Tm → List Int → List Int
  | [], out => out
  | t :: ts, out => Tm.varsL ts (Tm.vars t out)
end
theorem Tm.varsL_append (a b : List Tm) (out : List Int) : Tm.varsL (a ++ b) out = Tm.varsL b (Tm.varsL a out) := by
  induction a generalizing out with
  | nil => rfl
  | cons x xs ih => simp only [List.cons_append, Tm.varsL, ih]
theorem Tm.varsL_take {l : List Tm} {i : Nat} (h : i < l.length) (out : List Int) : Tm.varsL (l.take (i + 1)) out = l[i].vars (Tm.varsL (l.take i) out) := by
  rw [Tm.take_succ h, Tm.varsL_append]; rfl
theorem addV_len (out : List Int) (n : Int) : (addV out n).length ≤ out.length + 1 := by unfold addV; split <;> simp
mutual
theorem Tm.vars_len : ∀ (t : Tm) (out : List Int), (t.vars out).length ≤ out.length + t.size
  | .mk k n s l, out => by
    simp only [Tm.vars, Tm.size]
    split
    · have := addV_len out n; omega
    · have := Tm.varsL_len l out; omega
theorem Tm.varsL_len : ∀ (l : List Tm) (out : List Int), (Tm.varsL l out).length ≤ out.length + Tm.sizeL l
  | [], out => by simp [Tm.varsL, Tm.sizeL]
  | t :: ts, out => by
    simp only [Tm.varsL, Tm.sizeL]
    have h1 := Tm.vars_len t out
    have h2 := Tm.varsL_len ts (t.vars out)
    omega
end
/-- Numbers, as a row's cells. -/
def intsL (l : List Int) : List (List AV) := l.map fun n => [.sc (.int .i64 n)]
@[simp] theorem intsL_len (l : List Int) : (intsL l).length = l.length := by simp [intsL]
@[simp] theorem intsL_nil (l : List Int) : intsL l = [] ↔ l = [] := by simp [intsL]
@[simp] theorem intsL_getElem (l : List Int) (i : Nat) (h : i < (intsL l).length) : (intsL l)[i] = [.sc (.int .i64 (l[i]'(by simpa using h)))] := by simp [intsL]
@[simp] theorem intsL_append (a b : List Int) : intsL (a ++ b) = intsL a ++ intsL b := by simp [intsL]
@[simp] theorem intsL_pure : ∀ l : List Int, AV.pureM (intsL l) = true
  | [] => rfl
  | x :: xs => by have := intsL_pure xs; unfold intsL at *; simp [AV.pureM, AV.pureL, AV.pure, this]
@[simp] theorem intsL_cut (l : List Int) (N : Nat) (st : St) : AV.cutM N st (intsL l) = intsL l := cut_pureM N st _ (by simp)
/-- Where a number is. -/
def placeI : List Int → Int → Nat → Int
  | [], _, _ => -1
  | x :: xs, n, i => if x = n then i else placeI xs n (i + 1)
/-- What a map from numbers to their places holds. -/
def mapOf : List Int → Nat → List (Value × AV)
  | [], _ => []
  | x :: xs, i => (.int .i64 x, .sc (.int .i64 i)) :: mapOf xs (i + 1)
@[simp] theorem mapOf_keys : ∀ (l : List Int) (i : Nat), intKeys (mapOf l i) = true
  | [], _ => rfl
  | x :: xs, i => by have := mapOf_keys xs (i + 1); simp only [intKeys, mapOf, List.all_cons, Bool.true_and] at this ⊢; exact this
theorem mapOf_get : ∀ (l : List Int) (n : Int) (i : Nat), mget (mapOf l i) n = if n ∈ l then some (.sc (.int .i64 (placeI l n i))) else none
  | [], n, i => by simp [mapOf, mget]
  | x :: xs, n, i => by
    have ih := mapOf_get xs n (i + 1)
    by_cases h : x = n
    · subst h; simp [mapOf, mget, isK, placeI]
    · have h' : ¬ n = x := fun e => h e.symm
      simp [mapOf, mget, isK, placeI, h, h', ih]
theorem mapOf_put : ∀ (l : List Int) (n : Int) (i : Nat), n ∉ l → mput (mapOf l i) n (.sc (.int .i64 (i + l.length : Nat))) = mapOf (l ++ [n]) i
  | [], n, i, _ => by simp [mapOf, mput]
  | x :: xs, n, i, h => by
    simp only [List.mem_cons, not_or] at h
    have h' : ¬ x = n := fun e => h.1 e.symm
    have ih := mapOf_put xs n (i + 1) h.2
    have e : i + (x :: xs).length = i + 1 + xs.length := by simp; omega
    rw [e]
    simp only [mapOf, mput, List.cons_append]
    rw [if_neg (by simp [isK, h']), ih]
theorem placeI_last : ∀ (l : List Int) (n : Int) (i : Nat), n ∉ l → placeI (l ++ [n]) n i = (i + l.length : Nat)
  | [], n, i, _ => by simp [placeI]
  | x :: xs, n, i, h => by
    simp only [List.mem_cons, not_or] at h
    have h' : ¬ x = n := fun e => h.1 e.symm
    simp only [List.cons_append, placeI, if_neg h']
    rw [placeI_last xs n (i + 1) h.2]
    simp; omega
end Go.Ab
end

section
namespace Go.Ab
mutual
theorem Tm.sub_congr (f g : Int → Tm) : ∀ t : Tm, (∀ n ∈ t.occ, f n = g n) → t.sub f = t.sub g
  | .mk k n s l => by
    intro h
    simp only [Tm.occ] at h
    simp only [Tm.sub]
    split
    · rename_i hk; rw [if_pos hk] at h; exact h n (by simp)
    · rename_i hk; rw [if_neg hk] at h; rw [Tm.subL_congr f g l h]
theorem Tm.subL_congr (f g : Int → Tm) : ∀ l : List Tm, (∀ n ∈ Tm.occL l, f n = g n) → Tm.subL f l = Tm.subL g l
  | [] => fun _ => rfl
  | t :: ts => by
    intro h
    simp only [Tm.occL, List.mem_append] at h
    simp only [Tm.subL, Tm.sub_congr f g t (fun n hn => h n (.inl hn)), Tm.subL_congr f g ts (fun n hn => h n (.inr hn))]
end
theorem addV_pre (L : List Int) (n : Int) : ∃ B, addV L n = L ++ B := by
  unfold addV; split
  · exact ⟨[], by simp⟩
  · exact ⟨[n], rfl⟩
theorem mem_addV (L : List Int) (n m : Int) : m ∈ addV L n ↔ m ∈ L ∨ m = n := by
  unfold addV; split
  · rename_i h; constructor
    · exact .inl
    · rintro (h' | rfl)
      · exact h'
      · exact h
  · simp
mutual
theorem Tm.vars_pre : ∀ (t : Tm) (L : List Int), ∃ B, t.vars L = L ++ B
  | .mk k n s l, L => by
    simp only [Tm.vars]
    split
    · exact addV_pre L n
    · exact Tm.varsL_pre l L
theorem Tm.varsL_pre : ∀ (l : List Tm) (L : List Int), ∃ B, Tm.varsL l L = L ++ B
  | [], L => ⟨[], by simp [Tm.varsL]⟩
  | t :: ts, L => by
    obtain ⟨B, hB⟩ := Tm.vars_pre t L
    obtain ⟨C, hC⟩ := Tm.varsL_pre ts (L ++ B)
    exact ⟨B ++ C, by rw [Tm.varsL, hB, hC, List.append_assoc]⟩
end
mutual
theorem Tm.mem_vars : ∀ (t : Tm) (L : List Int) (m : Int), m ∈ t.vars L ↔ m ∈ L ∨ m ∈ t.occ
  | .mk k n s l, L, m => by
    simp only [Tm.vars, Tm.occ]
    split
    · rw [mem_addV]; simp
    · exact Tm.mem_varsL l L m
theorem Tm.mem_varsL : ∀ (l : List Tm) (L : List Int) (m : Int), m ∈ Tm.varsL l L ↔ m ∈ L ∨ m ∈ Tm.occL l
  | [], L, m => by simp [Tm.varsL, Tm.occL]
  | t :: ts, L, m => by
    rw [Tm.varsL, Tm.mem_varsL ts, Tm.mem_vars t, Tm.occL, List.mem_append, or_assoc]
end
theorem placeI_pre : ∀ (A B : List Int) (n : Int) (i : Nat), n ∈ A → placeI (A ++ B) n i = placeI A n i
  | [], _, _, _, h => by cases h
  | x :: xs, B, n, i, h => by
    simp only [List.cons_append, placeI]
    split
    · rfl
    · rename_i hx
      rcases List.mem_cons.1 h with rfl | h
      · exact absurd rfl hx
      · exact placeI_pre xs B n (i + 1) h
/-- A term whose variables are numbered by their places. -/
def numT (W : List Int) (t : Tm) : Tm := t.sub fun n => Tm.var (placeI W n 0)
theorem numT_vars {W B : List Int} (t : Tm) (h : ∀ n ∈ t.occ, n ∈ W) : numT (W ++ B) t = numT W t :=
  Tm.sub_congr _ _ t fun n hn => by rw [placeI_pre W B n 0 (h n hn)]
theorem numL_take {l : List Tm} {i : Nat} (h : i < l.length) (L : List Int) :
    Tm.subL (fun n => Tm.var (placeI (Tm.varsL (l.take (i + 1)) L) n 0)) (l.take (i + 1)) =
      Tm.subL (fun n => Tm.var (placeI (Tm.varsL (l.take i) L) n 0)) (l.take i) ++ [numT (l[i].vars (Tm.varsL (l.take i) L)) l[i]] := by
  rw [Tm.subL_take h, Tm.varsL_take h]
  congr 1
  refine Tm.subL_congr _ _ _ fun n hn => ?_
  obtain ⟨B, hB⟩ := Tm.vars_pre l[i] (Tm.varsL (l.take i) L)
  rw [hB, placeI_pre _ B n 0 ((Tm.mem_varsL _ L n).2 (.inr hn))]
theorem renT_eq (t : Tm) : t.sub (fun n => Tm.var (placeI (t.vars []) n 0)) = numT (t.vars []) t := rfl
end Go.Ab
end

section
namespace Go.Ab
mutual
/-- Too large to be looked at: with what was counted. -/
def Tm.lg : Tm → Int → Int → Bool × Int
  | .mk _ _ s l, d, n => if 6000 < n + 1 + (s.size : Int) / 16 ∨ 300 < d ∨ 100 < l.length then (true, n + 1 + (s.size : Int) / 16) else Tm.lgL l (d + 1) (n + 1 + (s.size : Int) / 16)
def Tm.lgL : List Tm → Int → Int → Bool × Int
  | [], _, n => (false, n)
  | t :: ts, d, n => if (Tm.lg t d n).1 = true then (true, (Tm.lg t d n).2) else Tm.lgL ts d (Tm.lg t d n).2
end
theorem Tm.lgL_append : ∀ (a b : List Tm) (d n : Int), Tm.lgL (a ++ b) d n = if (Tm.lgL a d n).1 = true then (true, (Tm.lgL a d n).2) else Tm.lgL b d (Tm.lgL a d n).2
  | [], b, d, n => by simp [Tm.lgL]
  | t :: ts, b, d, n => by
    simp only [List.cons_append, Tm.lgL]
    by_cases h : (Tm.lg t d n).1 = true
    · simp only [if_pos h, if_true]
    · simp only [if_neg h]; exact Tm.lgL_append ts b d _
theorem Tm.lgL_take {l : List Tm} {i : Nat} (h : i < l.length) (d n : Int) (hf : (Tm.lgL (l.take i) d n).1 = false) :
    Tm.lgL (l.take (i + 1)) d n = Tm.lg l[i] d (Tm.lgL (l.take i) d n).2 := by
  rw [Tm.take_succ h, Tm.lgL_append, hf]
  simp only [Bool.false_eq_true, if_false, Tm.lgL]
  split
  · rename_i h1; rw [← h1]
  · rename_i h1; simp at h1; rw [← h1]
theorem Tm.lgL_true {l : List Tm} {i : Nat} (d n : Int) (h : (Tm.lgL (l.take i) d n).1 = true) : Tm.lgL l d n = (true, (Tm.lgL (l.take i) d n).2) := by
  conv => lhs; rw [← List.take_append_drop i l]
  rw [Tm.lgL_append, if_pos h]
mutual
theorem Tm.lg_size : ∀ (t : Tm) (d n : Int), 0 ≤ n → (Tm.lg t d n).1 = false → n + t.size ≤ (Tm.lg t d n).2 ∧ (Tm.lg t d n).2 ≤ 6000
  | .mk k m s l, d, n => by
    intro hn h
    have h0 : (0 : Int) ≤ (s.size : Int) / 16 := Int.ediv_nonneg (Int.natCast_nonneg _) (by decide)
    simp only [Tm.lg] at h ⊢
    split at h
    · cases h
    · rename_i hc
      rw [if_neg hc]
      simp only [not_or] at hc
      simp only [Tm.size]
      have := Tm.lgL_size l (d + 1) _ (by omega) (by omega) h
      omega
theorem Tm.lgL_size : ∀ (l : List Tm) (d n : Int), 0 ≤ n → n ≤ 6000 → (Tm.lgL l d n).1 = false → n + Tm.sizeL l ≤ (Tm.lgL l d n).2 ∧ (Tm.lgL l d n).2 ≤ 6000
  | [], d, n => by intro h1 h2 h3; simp [Tm.lgL, Tm.sizeL, h2]
  | t :: ts, d, n => by
    intro h1 h2 h3
    simp only [Tm.lgL, Tm.sizeL] at h3 ⊢
    split at h3
    · cases h3
    · rename_i hc
      rw [if_neg hc]
      have e1 := Tm.lg_size t d n h1 (by simpa using hc)
      have e2 := Tm.lgL_size ts d _ (by omega) (by omega) h3
      omega
end
mutual
/-- No name is longer than a machine holds. -/
def Tm.nice : Tm → Prop
  | .mk _ _ s l => s.size ≤ 140737488355328 ∧ Tm.niceL l
def Tm.niceL : List Tm → Prop
  | [] => True
  | t :: ts => Tm.nice t ∧ Tm.niceL ts
end
theorem Tm.niceL_mem : ∀ {l : List Tm}, Tm.niceL l → ∀ t ∈ l, t.nice
  | [], _, t, h => by cases h
  | x :: xs, h, t, ht => by
    rcases List.mem_cons.1 ht with rfl | ht
    · exact h.1
    · exact Tm.niceL_mem h.2 t ht
/-- Large. -/
def Tm.large (t : Tm) : Bool := (Tm.lg t 0 0).1
theorem Tm.large_size {t : Tm} (h : t.large = false) : t.size ≤ 6000 := by
  have := Tm.lg_size t 0 0 (by omega) h; omega
theorem Tm.large_small {t : Tm} (h : t.large = false) : t.small := by
  have := Tm.large_size h; unfold Tm.small; omega
end Go.Ab
end

section
namespace Go.Ab
/-- A list's items, and its tail. -/
def Tm.items (t : Tm) : List Tm × Tm :=
  match t with
  | .mk k n s [x, y] => if k = 4 ∧ s = ⟨#[46]⟩ then (x :: (Tm.items y).1, (Tm.items y).2) else ([], .mk k n s [x, y])
  | .mk k n s l => ([], .mk k n s l)
termination_by t.size
decreasing_by all_goals (simp only [Tm.size, Tm.sizeL]; omega)
theorem Tm.items_two (n : Int) (x y : Tm) : Tm.items (.mk 4 n ⟨#[46]⟩ [x, y]) = (x :: (Tm.items y).1, (Tm.items y).2) := by
  rw [Tm.items]; simp
theorem Tm.items_end {k n : Int} {s : ByteArray} {l : List Tm} (h : ¬ (k = 4 ∧ s = ⟨#[46]⟩ ∧ l.length = 2)) : Tm.items (.mk k n s l) = ([], .mk k n s l) := by
  unfold Tm.items
  split
  · rename_i k' n' s' x y e
    injection e with e1 e2 e3 e4
    subst e1; subst e3; subst e4
    rw [if_neg]
    · rw [e2]
    · intro h'; exact h ⟨h'.1, h'.2, rfl⟩
  · rename_i k' n' s' l' h0 e
    rw [e]
theorem Tm.len2 {l : List Tm} (h : l.length = 2) : ∃ x y, l = [x, y] := by
  match l, h with
  | [x, y], _ => exact ⟨x, y, rfl⟩
end Go.Ab
end

section
namespace Go.Ab
/-- A list of items, and a tail. -/
def Tm.list (tail : Tm) : List Tm → Tm
  | [] => tail
  | x :: xs => .mk 4 0 ⟨#[46]⟩ [x, Tm.list tail xs]
theorem Tm.list_drop {l : List Tm} {i : Nat} (tail : Tm) (h : i < l.length) : Tm.list tail (l.drop i) = .mk 4 0 ⟨#[46]⟩ [l[i], Tm.list tail (l.drop (i + 1))] := by
  rw [List.drop_eq_getElem_cons h]; rfl
end Go.Ab
end

section
namespace Go.Ab
theorem Tm.niceL_take {l : List Tm} {i : Nat} (h : i < l.length) (hn : Tm.niceL l) : l[i].nice := Tm.niceL_mem hn _ (List.getElem_mem h)
/-- Whether terms are too large. -/
def manyT (l : List Tm) : Bool := l.any Tm.large || decide (10000 < Tm.sizeL l)
/-- None so far. -/
def noneL (l : List Tm) : Prop := l.any Tm.large = false
theorem noneL_take {l : List Tm} {i : Nat} (h : i < l.length) (hn : noneL (l.take i)) (hx : l[i].large = false) : noneL (l.take (i + 1)) := by
  unfold noneL at *
  rw [Tm.take_succ h, List.any_append, hn]
  simp [hx]
theorem noneL_size {l : List Tm} (hn : noneL l) : Tm.sizeL l ≤ 6000 * l.length := by
  induction l with
  | nil => simp [Tm.sizeL]
  | cons x xs ih =>
    unfold noneL at hn ih
    simp only [List.any_cons, Bool.or_eq_false_iff] at hn
    have := Tm.large_size hn.1
    have := ih hn.2
    simp only [Tm.sizeL, List.length_cons]
    omega
theorem many_of_get {l : List Tm} {i : Nat} (h : i < l.length) (hx : l[i].large = true) : manyT l = true := by
  unfold manyT
  have : l.any Tm.large = true := List.any_eq_true.2 ⟨_, List.getElem_mem h, hx⟩
  rw [this]; rfl
end Go.Ab
end

section
namespace Go.Ab
/-- 0, 1, .. -/
def iota (k : Nat) : List Int := (List.range k).map fun (i : Nat) => (i : Int)
@[simp] theorem iota_len (k : Nat) : (iota k).length = k := by simp [iota]
theorem mem_iota {k : Nat} {m : Int} : m ∈ iota k ↔ 0 ≤ m ∧ m < k := by
  simp only [iota, List.mem_map, List.mem_range]
  constructor
  · rintro ⟨i, hi, rfl⟩; omega
  · rintro ⟨h1, h2⟩; exact ⟨m.toNat, by omega, by omega⟩
theorem iota_succ (k : Nat) : iota (k + 1) = iota k ++ [(k : Int)] := by simp [iota, List.range_succ]
theorem placeI_range : ∀ (L : List Int) (n : Int) (i : Nat), n ∈ L → (i : Int) ≤ placeI L n i ∧ placeI L n i < i + L.length
  | [], _, _, h => by cases h
  | x :: xs, n, i, h => by
    simp only [placeI]
    split
    · simp; omega
    · rename_i hx
      rcases List.mem_cons.1 h with rfl | h
      · exact absurd rfl hx
      · have := placeI_range xs n (i + 1) h
        simp only [List.length_cons]; omega
theorem placeI_iota_aux : ∀ (k s : Nat) (m : Int) (i : Nat), (s : Int) ≤ m → m < s + k → placeI ((List.range' s k).map fun (i : Nat) => (i : Int)) m i = i + (m - s)
  | 0, s, m, i, h1, h2 => by omega
  | k + 1, s, m, i, h1, h2 => by
    simp only [List.range'_succ, List.map_cons, placeI]
    split
    · rename_i h; omega
    · rename_i h
      rw [placeI_iota_aux k (s + 1) m (i + 1) (by omega) (by omega)]
      omega
theorem placeI_iota {k : Nat} {m : Int} (h : m ∈ iota k) : placeI (iota k) m 0 = m := by
  have h' := mem_iota.1 h
  have := placeI_iota_aux k 0 m 0 (by omega) (by omega)
  unfold iota
  rw [List.range_eq_range', this]; omega
theorem Tm.vars_var (m : Int) (L : List Int) : (Tm.var m).vars L = addV L m := by simp [Tm.var, Tm.vars]
mutual
theorem Tm.num_vars (W : List Int) : ∀ (t : Tm) (L : List Int), (∃ B, W = t.vars L ++ B) → (t.sub fun n => Tm.var (placeI W n 0)).vars (iota L.length) = iota (t.vars L).length
  | .mk k n s l, L => by
    rintro ⟨B, hB⟩
    simp only [Tm.sub]
    by_cases hk : k = 1
    · simp only [if_pos hk, Tm.vars] at hB ⊢
      rw [Tm.vars_var]
      by_cases hn : n ∈ L
      · have e : addV L n = L := by unfold addV; rw [if_pos hn]
        rw [e] at hB ⊢
        have h1 := placeI_range L n 0 hn
        unfold addV
        rw [if_pos]
        rw [mem_iota, hB, placeI_pre L B n 0 hn]; omega
      · have e : addV L n = L ++ [n] := by unfold addV; rw [if_neg hn]
        rw [e] at hB ⊢
        have h1 : placeI W n 0 = L.length := by rw [hB, placeI_pre _ B n 0 (by simp), placeI_last L n 0 hn]; omega
        rw [h1]
        unfold addV
        rw [if_neg]
        · simp [iota_succ]
        · rw [mem_iota]; omega
    · simp only [if_neg hk, Tm.vars] at hB ⊢
      exact Tm.num_varsL W l L ⟨B, hB⟩
theorem Tm.num_varsL (W : List Int) : ∀ (l : List Tm) (L : List Int), (∃ B, W = Tm.varsL l L ++ B) → Tm.varsL (Tm.subL (fun n => Tm.var (placeI W n 0)) l) (iota L.length) = iota (Tm.varsL l L).length
  | [], L => fun _ => by simp only [Tm.subL, Tm.varsL]
  | t :: ts, L => by
    rintro ⟨B, hB⟩
    simp only [Tm.varsL] at hB
    obtain ⟨C, hC⟩ := Tm.varsL_pre ts (t.vars L)
    simp only [Tm.subL, Tm.varsL]
    rw [Tm.num_vars W t L ⟨C ++ B, by rw [hB, hC, List.append_assoc]⟩]
    exact Tm.num_varsL W ts (t.vars L) ⟨B, hB⟩
end
mutual
theorem Tm.sub_like (f : Int → Tm) : ∀ t : Tm, t.right = true → (∀ n ∈ t.occ, ∃ m, f n = Tm.var m ∧ 0 ≤ m ∧ m < 1073741824) → (t.sub f).right = true ∧ (t.sub f).size = t.size ∧ (t.sub f).depth = t.depth
  | .mk k n s l => by
    intro h hf
    simp only [Tm.right, Bool.and_eq_true] at h
    simp only [Tm.occ] at hf
    simp only [Tm.sub]
    by_cases hk : k = 1
    · subst hk
      simp only [if_true] at hf ⊢
      obtain ⟨m, h1, h2, h3⟩ := hf n (by simp)
      obtain ⟨_, _, _, h4⟩ := partB_one h.1
      rw [h1, List.eq_nil_of_length_eq_zero h4]
      simp [Tm.var, Tm.right, Tm.rightL, Tm.size, Tm.sizeL, Tm.depth, Tm.depthL, partB, h2, h3]
    · simp only [if_neg hk] at hf ⊢
      obtain ⟨h1, h2, h3⟩ := Tm.subL_like f l h.2 hf
      simp only [Tm.right, Tm.size, Tm.depth, Tm.subL_len, h1, h2, h3, h.1, Bool.and_true, and_self]
theorem Tm.subL_like (f : Int → Tm) : ∀ l : List Tm, Tm.rightL l = true → (∀ n ∈ Tm.occL l, ∃ m, f n = Tm.var m ∧ 0 ≤ m ∧ m < 1073741824) → Tm.rightL (Tm.subL f l) = true ∧ Tm.sizeL (Tm.subL f l) = Tm.sizeL l ∧ Tm.depthL (Tm.subL f l) = Tm.depthL l
  | [] => fun _ _ => ⟨rfl, rfl, rfl⟩
  | t :: ts => by
    intro h hf
    simp only [Tm.rightL, Bool.and_eq_true] at h
    simp only [Tm.occL, List.mem_append] at hf
    obtain ⟨a1, a2, a3⟩ := Tm.sub_like f t h.1 fun n hn => hf n (.inl hn)
    obtain ⟨b1, b2, b3⟩ := Tm.subL_like f ts h.2 fun n hn => hf n (.inr hn)
    simp only [Tm.subL, Tm.rightL, Tm.sizeL, Tm.depthL, a1, a2, a3, b1, b2, b3, Bool.and_true, and_self]
end
/-- What is renamed stays as large; it may be, if the term may. -/
theorem Tm.num_like {t : Tm} (hr : t.right = true) (hs : t.small) : (numT (t.vars []) t).right = true ∧ (numT (t.vars []) t).size = t.size ∧ (numT (t.vars []) t).depth = t.depth := by
  refine Tm.sub_like _ t hr fun n hn => ⟨_, rfl, ?_⟩
  have h1 := placeI_range (t.vars []) n 0 ((Tm.mem_vars t [] n).2 (.inr hn))
  have h2 := Tm.vars_len t []
  unfold Tm.small at hs
  simp only [List.length_nil] at h2
  omega
theorem Tm.num_check {t : Tm} (hs : t.small) (hc : t.check = 0) : (numT (t.vars []) t).check = 0 := by
  obtain ⟨h1, h2, h3⟩ := Tm.num_like (Tm.right_of_check hc) hs
  have := hc
  unfold Tm.check at this ⊢
  rw [h1, h2, h3]
  rw [Tm.right_of_check hc] at this
  exact this
theorem Tm.num_small {t : Tm} (hs : t.small) (hc : t.check = 0) : (numT (t.vars []) t).small := by
  obtain ⟨_, h2, _⟩ := Tm.num_like (Tm.right_of_check hc) hs
  unfold Tm.small at *; omega
theorem Tm.num_vars0 (t : Tm) : (numT (t.vars []) t).vars [] = iota (t.vars []).length := by
  have := Tm.num_vars (t.vars []) t [] ⟨[], by simp⟩
  simpa [iota, numT] using this
/-- What is renamed stays when it is renamed again. -/
theorem Tm.num_again {t : Tm} (hs : t.small) (hc : t.check = 0) : numT ((numT (t.vars []) t).vars []) (numT (t.vars []) t) = numT (t.vars []) t := by
  conv => lhs; rw [show (numT ((numT (t.vars []) t).vars []) (numT (t.vars []) t)) = (numT (t.vars []) t).sub (fun n => Tm.var (placeI ((numT (t.vars []) t).vars []) n 0)) from rfl]
  rw [Tm.num_vars0]
  rw [Tm.sub_congr _ Tm.var _ fun n hn => ?_]
  · exact Tm.sub_var _ (Tm.num_like (Tm.right_of_check hc) hs).1
  · rw [placeI_iota]
    rw [← Tm.num_vars0]
    exact (Tm.mem_vars _ [] n).2 (.inr hn)
end Go.Ab
end

section
namespace Go.Ab
mutual
theorem Tm.sub_size (f : Int → Tm) (S : Nat) (hS : 1 ≤ S) (hf : ∀ n, (f n).size ≤ S) : ∀ t : Tm, (t.sub f).size ≤ t.size * S
  | .mk k n s l => by
    have ih := Tm.subL_size f S hS hf l
    simp only [Tm.sub]
    split
    · have := hf n
      simp only [Tm.size]
      calc (f n).size ≤ 1 * S := by omega
        _ ≤ (1 + Tm.sizeL l) * S := Nat.mul_le_mul_right _ (by omega)
    · simp only [Tm.size]
      rw [Nat.add_mul]; omega
theorem Tm.subL_size (f : Int → Tm) (S : Nat) (hS : 1 ≤ S) (hf : ∀ n, (f n).size ≤ S) : ∀ l : List Tm, Tm.sizeL (Tm.subL f l) ≤ Tm.sizeL l * S
  | [] => by simp [Tm.subL, Tm.sizeL]
  | t :: ts => by
    have h1 := Tm.sub_size f S hS hf t
    have h2 := Tm.subL_size f S hS hf ts
    simp only [Tm.subL, Tm.sizeL]
    rw [Nat.add_mul]; omega
end
theorem Tm.size_mem {l : List Tm} {i : Nat} (h : i < l.length) : l[i].size ≤ Tm.sizeL l := by
  have := Tm.size_get h; omega
/-- All may be. -/
def allC (l : List Tm) : Bool := l.all fun x => decide (x.check = 0)
theorem allC_take {l : List Tm} {i : Nat} (h : i < l.length) : allC (l.take (i + 1)) = (allC (l.take i) && decide (l[i].check = 0)) := by
  unfold allC
  rw [Tm.take_succ h, List.all_append]; simp
theorem allC_iff {l : List Tm} : allC l = true ↔ ∀ x ∈ l, x.check = 0 := by simp [allC]
end Go.Ab
end

section
namespace Go.Ab
/-! Numbers of terms. -/
def atomT (s : ByteArray) : Tm := .mk 3 0 s []
def intT (n : Int) : Tm := .mk 2 n ⟨#[]⟩ []
/-- A ball. -/
def errT (t : Tm) : Tm := .mk 4 0 ⟨#[101, 114, 114, 111, 114]⟩ [t]
def instT : Tm := errT (atomT ⟨#[105, 110, 115, 116]⟩)
def sizeT : Tm := errT (atomT ⟨#[115, 105, 122, 101]⟩)
def evalT (s : ByteArray) : Tm := errT (.mk 4 0 ⟨#[101, 118, 97, 108]⟩ [atomT s])
def overT : Tm := evalT ⟨#[111, 118, 101, 114]⟩
def noughtT : Tm := evalT ⟨#[122, 101, 114, 111]⟩
def typeT (name : ByteArray) (t : Tm) : Tm := errT (.mk 4 0 ⟨#[116, 121, 112, 101]⟩ [atomT name, t])
/-- Name and arity. -/
def indT : Tm → Tm
  | .mk k n s l => if (Tm.mk k n s l).check = 0 ∧ 3 ≤ k then .mk 4 0 ⟨#[47]⟩ [atomT s, intT l.length] else Tm.zero
structure Res where
  n : Int
  ball : Tm
  bad : Bool
  deriving DecidableEq
def mM : Int := 9007199254740991
def failR (t : Tm) : Res := ⟨0, t, true⟩
def numR (n : Int) : Res := if n < -9007199254740991 ∨ 9007199254740991 < n then failR overT else ⟨n, Tm.zero, false⟩
def absI (n : Int) : Int := max n (-n)
def timesR (a b : Int) : Res := if a ≠ 0 ∧ Int.tdiv 9007199254740991 (absI a) < absI b then failR overT else numR (a * b)
def moduloI (a b : Int) : Int := if Int.tmod a b ≠ 0 ∧ ¬ (Int.tmod a b < 0 ↔ b < 0) then Int.tmod a b + b else Int.tmod a b
def divideR (op : ByteArray) (a b : Int) : Res :=
  if b = 0 then failR noughtT
  else if op = ⟨#[47, 47]⟩ then numR (Int.tdiv a b)
  else if op = ⟨#[114, 101, 109]⟩ then numR (Int.tmod a b)
  else numR (moduloI a b)
def twoR (op : ByteArray) (a b : Int) : Res :=
  if op = ⟨#[43]⟩ then numR (a + b)
  else if op = ⟨#[45]⟩ then numR (a - b)
  else if op = ⟨#[42]⟩ then timesR a b
  else if op = ⟨#[109, 105, 110]⟩ then numR (min a b)
  else if op = ⟨#[109, 97, 120]⟩ then numR (max a b)
  else divideR op a b
def signI (n : Int) : Int := if n < 0 then -1 else if 0 < n then 1 else 0
def oneR (op : ByteArray) (a : Int) : Res :=
  if op = ⟨#[45]⟩ then numR (-a) else if op = ⟨#[97, 98, 115]⟩ then numR (absI a) else numR (signI a)
def knownB (s : ByteArray) (n : Int) : Bool :=
  if s = ⟨#[43]⟩ ∨ s = ⟨#[42]⟩ ∨ s = ⟨#[47, 47]⟩ ∨ s = ⟨#[109, 111, 100]⟩ ∨ s = ⟨#[114, 101, 109]⟩ ∨ s = ⟨#[109, 105, 110]⟩ ∨ s = ⟨#[109, 97, 120]⟩ then decide (n = 2)
  else if s = ⟨#[45]⟩ then decide (n = 1) || decide (n = 2)
  else if s = ⟨#[97, 98, 115]⟩ ∨ s = ⟨#[115, 105, 103, 110]⟩ then decide (n = 1)
  else false
mutual
/-- What a term comes to. -/
def Tm.reck : Tm → Res
  | .mk k n s l =>
    if k = 2 then numR n
    else if k = 1 then failR instT
    else if knownB s l.length = false then failR (typeT ⟨#[101, 118, 97, 108, 117, 97, 98, 108, 101]⟩ (indT (.mk k n s l)))
    else match Tm.reckL l with
      | [] => failR Tm.zero
      | [r] => if r.bad = true then r else oneR s r.n
      | r :: q :: _ => if r.bad = true then r else if q.bad = true then q else twoR s r.n q.n
def Tm.reckL : List Tm → List Res
  | [] => []
  | t :: ts => Tm.reck t :: Tm.reckL ts
end
theorem knownB_len {s : ByteArray} {n : Int} (h : knownB s n = true) : n = 1 ∨ n = 2 := by
  unfold knownB at h
  split at h
  · exact .inr (of_decide_eq_true h)
  · split at h
    · simpa using h
    · split at h
      · exact .inl (of_decide_eq_true h)
      · cases h
/-- A result is in its range; nothing comes of a ball. -/
def Res.ok (r : Res) : Prop := (r.bad = true → r.n = 0) ∧ (r.bad = false → r.ball = Tm.zero ∧ -9007199254740991 ≤ r.n ∧ r.n ≤ 9007199254740991)
theorem failR_ok (t : Tm) : (failR t).ok := ⟨fun _ => rfl, fun h => (by cases h)⟩
theorem numR_ok (n : Int) : (numR n).ok := by
  unfold numR
  split
  · exact failR_ok _
  · rename_i h
    exact ⟨fun h => (by cases h), fun _ => ⟨rfl, (by omega : -9007199254740991 ≤ n), (by omega : n ≤ 9007199254740991)⟩⟩
theorem timesR_ok (a b : Int) : (timesR a b).ok := by unfold timesR; split; exact failR_ok _; exact numR_ok _
theorem divideR_ok (op : ByteArray) (a b : Int) : (divideR op a b).ok := by
  unfold divideR
  split; exact failR_ok _
  split; exact numR_ok _
  split; exact numR_ok _
  exact numR_ok _
theorem twoR_ok (op : ByteArray) (a b : Int) : (twoR op a b).ok := by
  unfold twoR
  split; exact numR_ok _
  split; exact numR_ok _
  split; exact timesR_ok _ _
  split; exact numR_ok _
  split; exact numR_ok _
  exact divideR_ok _ _ _
theorem oneR_ok (op : ByteArray) (a : Int) : (oneR op a).ok := by
  unfold oneR
  split; exact numR_ok _
  split; exact numR_ok _
  exact numR_ok _
mutual
theorem Tm.reck_ok : ∀ t : Tm, t.reck.ok
  | .mk k n s l => by
    have ih := Tm.reckL_ok l
    unfold Tm.reck
    split; exact numR_ok _
    split; exact failR_ok _
    split; exact failR_ok _
    split
    · exact failR_ok _
    · rename_i r h
      rw [h] at ih
      split
      · exact ih r (by simp)
      · exact oneR_ok _ _
    · rename_i r q _ h
      rw [h] at ih
      split
      · exact ih r (by simp)
      · split
        · exact ih q (by simp)
        · exact twoR_ok _ _ _
theorem Tm.reckL_ok : ∀ l : List Tm, ∀ r ∈ Tm.reckL l, r.ok
  | [], r, h => by cases h
  | t :: ts, r, h => by
    simp only [Tm.reckL, List.mem_cons] at h
    rcases h with rfl | h
    · exact Tm.reck_ok t
    · exact Tm.reckL_ok ts r h
end
/-- What Eval tells. -/
def evalR (t : Tm) : Res := if t.check = 0 then t.reck else failR sizeT
theorem evalR_ok (t : Tm) : (evalR t).ok := by unfold evalR; split; exact Tm.reck_ok t; exact failR_ok _
theorem check_iff (t : Tm) : t.check = 0 ↔ t.right = true ∧ t.depth ≤ 200 ∧ t.size ≤ 4096 := by
  unfold Tm.check
  by_cases h1 : t.right = false
  · simp [h1]
  · have h1' : t.right = true := by simpa using h1
    by_cases h2 : 200 < t.depth
    · simp [h1', h2]; omega
    · by_cases h3 : 4096 < t.size
      · simp [h1', h2, h3]
      · simp [h1', h2, h3]; omega
theorem check_child {k n : Int} {s : ByteArray} {l : List Tm} (h : (Tm.mk k n s l).check = 0) : ∀ x ∈ l, x.check = 0 := by
  intro x hx
  obtain ⟨i, hi, rfl⟩ := List.getElem_of_mem hx
  obtain ⟨h1, g2, g3⟩ := (check_iff _).1 h
  simp only [Tm.right, Bool.and_eq_true] at h1
  simp only [Tm.depth, Tm.size] at g2 g3
  have h2 := Tm.size_mem hi
  have h3 := Tm.depthL_take_le l (i + 1)
  rw [Tm.depthL_take hi] at h3
  have h4 : l[i].right = true := by
    have := Tm.rightL_take hi
    have h5 : Tm.rightL (l.take (i + 1) ++ l.drop (i + 1)) = true := by rw [List.take_append_drop]; exact h1.2
    rw [Tm.rightL_append, this] at h5
    simp at h5; exact h5.1.2
  exact (check_iff _).2 ⟨h4, by omega, by omega⟩
end Go.Ab
end

section
namespace Go.Ab
theorem absI_eq (a : Int) : absI a = (a.natAbs : Int) := by unfold absI; omega
theorem tdiv_abs (a b : Int) : (a.tdiv b).natAbs ≤ a.natAbs := by rw [Int.natAbs_tdiv]; exact Nat.div_le_self _ _
theorem tmod_abs (a b : Int) (hb : b ≠ 0) : (a.tmod b).natAbs < b.natAbs := by rw [Int.natAbs_tmod]; exact Nat.mod_lt _ (by omega)
theorem mul_fits {a b : Int} (ha : a ≠ 0) (h : absI b ≤ Int.tdiv 9007199254740991 (absI a)) : (a * b).natAbs ≤ 9007199254740991 := by
  rw [absI_eq, absI_eq] at h
  have e : Int.tdiv 9007199254740991 (a.natAbs : Int) = ((9007199254740991 / a.natAbs : Nat) : Int) := by rw [Int.ofNat_tdiv]; rfl
  rw [e] at h
  have h2 : b.natAbs ≤ 9007199254740991 / a.natAbs := by omega
  rw [Int.natAbs_mul]
  have h3 := (Nat.le_div_iff_mul_le (by omega : 0 < a.natAbs)).1 h2
  rw [Nat.mul_comm]; exact h3
end Go.Ab
end

section
namespace Go.Ab
/-! Terms as clauses. -/
def isT (s : ByteArray) (m : Int) : Tm → Bool
  | .mk k _ s' l => decide (k = 4) && (decide (s' = s) && decide ((l.length : Int) = m))
structure Gl where
  kind : Int
  term : Tm
  deriving DecidableEq
def Gl.cells (g : Gl) : List AV := .sc (.int .i64 g.kind) :: g.term.cells 24
def glsL (l : List Gl) : List (List AV) := l.map Gl.cells
@[simp] theorem glsL_len (l : List Gl) : (glsL l).length = l.length := by simp [glsL]
@[simp] theorem glsL_nil (l : List Gl) : glsL l = [] ↔ l = [] := by simp [glsL]
@[simp] theorem glsL_append (a b : List Gl) : glsL (a ++ b) = glsL a ++ glsL b := by simp [glsL]
@[simp] theorem Gl.cells_len (g : Gl) : g.cells.length = 5 := by simp [Gl.cells]
@[simp] theorem Gl.cells_pure (g : Gl) : AV.pureL g.cells = true := by simp [Gl.cells, AV.pureL, AV.pure]
@[simp] theorem glsL_pure : ∀ l : List Gl, AV.pureM (glsL l) = true
  | [] => rfl
  | g :: l => by
    have := glsL_pure l
    unfold glsL at this ⊢
    simp [AV.pureM, this]
@[simp] theorem glsL_getElem (l : List Gl) (i : Nat) (h : i < (glsL l).length) : (glsL l)[i] = (l[i]'(by simpa using h)).cells := by simp [glsL]
@[simp] theorem glsL_cut (l : List Gl) (N : Nat) (st : St) : AV.cutM N st (glsL l) = glsL l := cut_pureM N st _ (by simp)
@[simp] theorem Gl.frz_cells (g : Gl) (st : St) : AV.frzL st g.cells = g.cells := frz_pureL st _ (by simp)
def sCut : ByteArray := ⟨#[33]⟩
def kindG : Tm → Int
  | .mk k n s l => if k = 1 then 4 else if k = 3 ∧ s = ⟨#[33]⟩ then 2
    else if isT ⟨#[59]⟩ 2 (.mk k n s l) = true ∨ isT ⟨#[45, 62]⟩ 2 (.mk k n s l) = true ∨ isT ⟨#[92, 43]⟩ 1 (.mk k n s l) = true then 3 else 1
def goalG (t : Tm) : Gl := ⟨kindG t, t⟩
mutual
def Tm.flat : Tm → List Tm
  | .mk k n s l => if k = 4 ∧ s = ⟨#[44]⟩ ∧ l.length = 2 then Tm.flatL l else if k = 3 ∧ s = ⟨#[116, 114, 117, 101]⟩ then [] else [.mk k n s l]
def Tm.flatL : List Tm → List Tm
  | [] => []
  | t :: ts => Tm.flat t ++ Tm.flatL ts
end
def Tm.kind : Tm → Int | .mk k _ _ _ => k
def callableT : Tm → Tm := typeT ⟨#[99, 97, 108, 108, 97, 98, 108, 101]⟩
structure BR where
  goals : List Gl
  ball : Tm
  ok : Bool
def goalsR (l : List Tm) : BR :=
  match l.find? (fun x => decide (x.kind = 2)) with
  | some x => ⟨[], callableT x, false⟩
  | none => ⟨l.map goalG, Tm.zero, true⟩
def bodyR (t : Tm) : BR :=
  if t.check ≠ 0 then ⟨[], sizeT, false⟩ else if 64 < t.flat.length then ⟨[], sizeT, false⟩ else goalsR t.flat
/-- Is it one of them? -/
def inL (s : ByteArray) : List ByteArray → Bool
  | [] => false
  | x :: l => decide (x = s) || inL s l
/-- What is built in. -/
def b0 : List ByteArray := [⟨#[116, 114, 117, 101]⟩, ⟨#[102, 97, 105, 108]⟩, ⟨#[33]⟩, ⟨#[104, 97, 108, 116]⟩, ⟨#[110, 108]⟩]
def b1 : List ByteArray := [⟨#[92, 43]⟩, ⟨#[116, 104, 114, 111, 119]⟩, ⟨#[118, 97, 114]⟩, ⟨#[110, 111, 110, 118, 97, 114]⟩, ⟨#[97, 116, 111, 109]⟩, ⟨#[105, 110, 116, 101, 103, 101, 114]⟩, ⟨#[99, 111, 109, 112, 111, 117, 110, 100]⟩, ⟨#[97, 115, 115, 101, 114, 116, 122]⟩, ⟨#[97, 115, 115, 101, 114, 116, 97]⟩, ⟨#[114, 101, 116, 114, 97, 99, 116]⟩, ⟨#[119, 114, 105, 116, 101]⟩]
def b2 : List ByteArray := [⟨#[44]⟩, ⟨#[59]⟩, ⟨#[45, 62]⟩, ⟨#[61]⟩, ⟨#[92, 61]⟩, ⟨#[61, 61]⟩, ⟨#[92, 61, 61]⟩, ⟨#[64, 60]⟩, ⟨#[64, 62]⟩, ⟨#[64, 61, 60]⟩, ⟨#[64, 62, 61]⟩, ⟨#[61, 46, 46]⟩, ⟨#[99, 111, 112, 121, 95, 116, 101, 114, 109]⟩, ⟨#[105, 115]⟩, ⟨#[61, 58, 61]⟩, ⟨#[61, 92, 61]⟩, ⟨#[60]⟩, ⟨#[62]⟩, ⟨#[61, 60]⟩, ⟨#[62, 61]⟩, ⟨#[97, 116, 111, 109, 95, 108, 101, 110, 103, 116, 104]⟩]
def b3 : List ByteArray := [⟨#[99, 97, 116, 99, 104]⟩, ⟨#[102, 105, 110, 100, 97, 108, 108]⟩, ⟨#[99, 111, 109, 112, 97, 114, 101]⟩, ⟨#[102, 117, 110, 99, 116, 111, 114]⟩, ⟨#[97, 114, 103]⟩]
def builtB (s : ByteArray) (n : Int) : Bool :=
  if inL s b0 = true then decide (n = 0) else if inL s b1 = true then decide (n = 1) else if inL s b2 = true then decide (n = 2) else if inL s b3 = true then decide (n = 3)
  else if s = ⟨#[99, 97, 108, 108]⟩ then decide (1 ≤ n) && decide (n ≤ 4)
  else if s = ⟨#[58, 45]⟩ then decide (n = 1) || decide (n = 2) else false
def permT (t : Tm) : Tm := errT (.mk 4 0 ⟨#[112, 101, 114, 109]⟩ [indT t])
def headR : Tm → Tm × Bool
  | .mk k n s l => if k = 1 then (instT, true) else if k = 2 then (callableT (.mk k n s l), true) else if builtB s l.length = true then (permT (.mk k n s l), true) else (Tm.zero, false)
structure Cls where
  head : Tm
  goals : List Gl
  vars : Int
def noCls : Cls := ⟨Tm.zero, [], 0⟩
structure FR where
  c : Cls
  ball : Tm
  ok : Bool
def trueT : Tm := .mk 3 0 ⟨#[116, 114, 117, 101]⟩ []
/-- Head and body. -/
def partsT : Tm → Tm × Tm
  | .mk k n s l => if isT ⟨#[58, 45]⟩ 2 (.mk k n s l) = true then (match l with | [h, b] => (h, b) | _ => (.mk k n s l, trueT)) else (.mk k n s l, trueT)
def fromU (u : Tm) (n : Int) : FR :=
  if 64 < (partsT u).2.flat.length then ⟨noCls, sizeT, false⟩
  else if (headR (partsT u).1).2 = true then ⟨noCls, (headR (partsT u).1).1, false⟩
  else if (bodyR (partsT u).2).ok = false then ⟨noCls, (bodyR (partsT u).2).ball, false⟩
  else ⟨⟨(partsT u).1, (bodyR (partsT u).2).goals, n⟩, Tm.zero, true⟩
def fromR (t : Tm) : FR :=
  if t.check ≠ 0 then ⟨noCls, sizeT, false⟩ else fromU (numT (t.vars []) t) (t.vars []).length
def ofG (g : Gl) : Tm := if g.kind = 2 then .mk 3 0 ⟨#[33]⟩ [] else g.term
def conjT : List Gl → Tm
  | [] => trueT
  | [g] => ofG g
  | g :: h :: l => .mk 4 0 ⟨#[44]⟩ [ofG g, conjT (h :: l)]
def backT (c : Cls) : Tm := if c.goals = [] then c.head else .mk 4 0 ⟨#[58, 45]⟩ [c.head, conjT c.goals]
def backR (c : Cls) : Tm := if (backT c).check = 0 then backT c else Tm.zero
structure AR where
  t : Tm
  ball : Tm
  ok : Bool
def addR : Tm → List Tm → AR
  | .mk k n s L, l => if (Tm.mk k n s L).check ≠ 0 then ⟨Tm.zero, sizeT, false⟩ else if k = 1 then ⟨Tm.zero, instT, false⟩ else if k = 2 then ⟨Tm.zero, callableT (.mk k n s L), false⟩
    else if (if L ++ l = [] then Tm.mk 3 0 s [] else .mk 4 0 s (L ++ l)).check ≠ 0 then ⟨Tm.zero, sizeT, false⟩ else ⟨if L ++ l = [] then Tm.mk 3 0 s [] else .mk 4 0 s (L ++ l), Tm.zero, true⟩
end Go.Ab
end

section
namespace Go.Ab
/-! Bindings of variables: plain laws. -/
/-- Bindings, in the order in which they came. -/
abbrev Bs := List (Int × Tm)
def lookB : Bs → Int → Option Tm
  | [], _ => none
  | (n, t) :: B, m => if n = m then some t else lookB B m
def keys (B : Bs) : List Int := B.map (·.1)
@[simp] theorem keys_nil : keys [] = [] := rfl
@[simp] theorem keys_cons (x : Int × Tm) (B : Bs) : keys (x :: B) = x.1 :: keys B := rfl
@[simp] theorem keys_append (A B : Bs) : keys (A ++ B) = keys A ++ keys B := by simp [keys]
@[simp] theorem keys_len (B : Bs) : (keys B).length = B.length := by simp [keys]
@[simp] theorem keys_reverse (B : Bs) : keys B.reverse = (keys B).reverse := by simp [keys]
theorem look_none {B : Bs} {n : Int} : lookB B n = none ↔ n ∉ keys B := by
  induction B with
  | nil => simp [lookB]
  | cons x B ih =>
    simp only [lookB, keys_cons, List.mem_cons, not_or]
    split
    · rename_i h; simp [h]
    · rename_i h; rw [ih]; constructor
      · exact fun k => ⟨fun e => h e.symm, k⟩
      · exact fun k => k.2
theorem look_split {B : Bs} {n : Int} {u : Tm} (h : lookB B n = some u) : ∃ A C, B = A ++ (n, u) :: C ∧ n ∉ keys A := by
  induction B with
  | nil => simp [lookB] at h
  | cons x B ih =>
    obtain ⟨m, t⟩ := x
    simp only [lookB] at h
    split at h
    · rename_i e; subst e; cases h; exact ⟨[], B, rfl, by simp⟩
    · rename_i e
      obtain ⟨A, C, rfl, k⟩ := ih h
      exact ⟨(m, t) :: A, C, rfl, by simp [k]; exact fun e' => e e'.symm⟩
theorem look_mem {B : Bs} {n : Int} {u : Tm} (h : lookB B n = some u) : (n, u) ∈ B := by
  obtain ⟨A, C, rfl, _⟩ := look_split h; simp

/-- The number of a variable. -/
def Tm.vn : Tm → Option Int
  | .mk k n _ _ => if k = 1 then some n else none
/-- Up to what is no bound variable, in one pass. -/
def wk : Bs → Tm → Tm
  | [], t => t
  | (n, u) :: B, t => if t.vn = some n then wk B u else wk B t
def wkn : Bs → Tm → Nat
  | [], _ => 0
  | (n, u) :: B, t => if t.vn = some n then wkn B u + 1 else wkn B t
theorem wkn_le : ∀ (B : Bs) (t : Tm), wkn B t ≤ B.length
  | [], _ => Nat.le_refl _
  | (n, u) :: B, t => by
    simp only [wkn]
    split
    · have := wkn_le B u; simp; omega
    · have := wkn_le B t; simp; omega

mutual
theorem Tm.sub_sub (f g : Int → Tm) : ∀ t : Tm, (t.sub f).sub g = t.sub fun n => (f n).sub g
  | .mk k n s l => by
    simp only [Tm.sub]
    split
    · rfl
    · rename_i h; simp only [Tm.sub, if_neg h, Tm.subL_sub f g l]
theorem Tm.subL_sub (f g : Int → Tm) : ∀ l : List Tm, Tm.subL g (Tm.subL f l) = Tm.subL (fun n => (f n).sub g) l
  | [] => rfl
  | t :: ts => by simp only [Tm.subL, Tm.sub_sub f g t, Tm.subL_sub f g ts]
end
mutual
theorem Tm.occ_sub (f : Int → Tm) (x : Int) : ∀ t : Tm, x ∈ (t.sub f).occ ↔ ∃ y ∈ t.occ, x ∈ (f y).occ
  | .mk k n s l => by
    simp only [Tm.sub, Tm.occ]
    split
    · simp
    · rename_i h; simp only [Tm.occ, if_neg h]; exact Tm.occ_subL f x l
theorem Tm.occ_subL (f : Int → Tm) (x : Int) : ∀ l : List Tm, x ∈ Tm.occL (Tm.subL f l) ↔ ∃ y ∈ Tm.occL l, x ∈ (f y).occ
  | [] => by simp [Tm.subL, Tm.occL]
  | t :: ts => by
    simp only [Tm.subL, Tm.occL, List.mem_append, Tm.occ_sub f x t, Tm.occ_subL f x ts]
    constructor
    · rintro (⟨y, h1, h2⟩ | ⟨y, h1, h2⟩)
      · exact ⟨y, .inl h1, h2⟩
      · exact ⟨y, .inr h1, h2⟩
    · rintro ⟨y, h1 | h1, h2⟩
      · exact .inl ⟨y, h1, h2⟩
      · exact .inr ⟨y, h1, h2⟩
end
mutual
theorem Tm.right_sub (f : Int → Tm) : ∀ t : Tm, t.right = true → (∀ n ∈ t.occ, (f n).right = true) → (t.sub f).right = true
  | .mk k n s l => by
    intro h hf
    simp only [Tm.sub]
    simp only [Tm.occ] at hf
    split
    · rename_i hk; rw [if_pos hk] at hf; exact hf n (by simp)
    · rename_i hk
      rw [if_neg hk] at hf
      simp only [Tm.right, Bool.and_eq_true, Tm.subL_len] at h ⊢
      exact ⟨h.1, Tm.rightL_sub f l h.2 hf⟩
theorem Tm.rightL_sub (f : Int → Tm) : ∀ l : List Tm, Tm.rightL l = true → (∀ n ∈ Tm.occL l, (f n).right = true) → Tm.rightL (Tm.subL f l) = true
  | [] => fun _ _ => rfl
  | t :: ts => by
    intro h hf
    simp only [Tm.rightL, Bool.and_eq_true] at h
    simp only [Tm.occL, List.mem_append] at hf
    simp only [Tm.subL, Tm.rightL, Bool.and_eq_true]
    exact ⟨Tm.right_sub f t h.1 fun n hn => hf n (.inl hn), Tm.rightL_sub f ts h.2 fun n hn => hf n (.inr hn)⟩
end
@[simp] theorem Tm.var_sub (n : Int) (f : Int → Tm) : (Tm.var n).sub f = f n := by simp [Tm.var, Tm.sub]
@[simp] theorem Tm.var_occ (n : Int) : (Tm.var n).occ = [n] := by simp [Tm.var, Tm.occ]
theorem Tm.var_right {n : Int} (h : 0 ≤ n ∧ n < 1073741824) : (Tm.var n).right = true := by simp [Tm.var, Tm.right, Tm.rightL, partB, h]
theorem Tm.vn_some {t : Tm} {n : Int} (h : t.vn = some n) (hr : t.right = true) : t = Tm.var n ∧ 0 ≤ n ∧ n < 1073741824 := by
  obtain ⟨k, m, s, l⟩ := t
  simp only [Tm.vn] at h
  split at h
  · rename_i hk
    subst hk
    cases h
    simp only [Tm.right, Bool.and_eq_true] at hr
    obtain ⟨h1, h2, h3, h4⟩ := partB_one hr.1
    rw [h3, List.eq_nil_of_length_eq_zero h4]
    exact ⟨rfl, h1, h2⟩
  · cases h
@[simp] theorem Tm.vn_var (n : Int) : (Tm.var n).vn = some n := by simp [Tm.var, Tm.vn]
theorem Tm.var_inj {n m : Int} (h : Tm.var n = Tm.var m) : n = m := by
  have := congrArg Tm.vn h; simpa using this

/-- One variable by a term. -/
def one (n : Int) (u : Tm) : Int → Tm := fun m => if m = n then u else Tm.var m
/-- What variables come to; bindings backwards. -/
def sgR : Bs → Int → Tm
  | [] => Tm.var
  | (n, t) :: R => fun m => (sgR R m).sub (one n (t.sub (sgR R)))
def sg (B : Bs) : Int → Tm := sgR B.reverse
@[simp] theorem sg_nil : sg [] = Tm.var := rfl
theorem sg_snoc (B : Bs) (n : Int) (t : Tm) (m : Int) : sg (B ++ [(n, t)]) m = (sg B m).sub (one n (t.sub (sg B))) := by simp [sg, sgR]
/-- Bindings as they come: to walked terms, in which the variable is not. -/
def OkR : Bs → Prop
  | [] => True
  | (n, t) :: R => OkR R ∧ n ∉ keys R ∧ t.right = true ∧ (∀ m, t.vn = some m → m ∉ keys R) ∧ n ∉ (t.sub (sgR R)).occ ∧ 0 ≤ n ∧ n < 1073741824
def OkB (B : Bs) : Prop := OkR B.reverse
@[simp] theorem OkB_nil : OkB [] := trivial
theorem OkB_snoc {B : Bs} {n : Int} {t : Tm} : OkB (B ++ [(n, t)]) ↔ OkB B ∧ n ∉ keys B ∧ t.right = true ∧ (∀ m, t.vn = some m → m ∉ keys B) ∧ n ∉ (t.sub (sg B)).occ ∧ 0 ≤ n ∧ n < 1073741824 := by
  simp [OkB, OkR, sg]
theorem OkR_drop : ∀ {A R : Bs}, OkR (A ++ R) → OkR R
  | [], _, h => h
  | (n, t) :: A, R, h => OkR_drop (A := A) h.1
theorem OkB_pre {B C : Bs} (h : OkB (B ++ C)) : OkB B := by
  unfold OkB at *; rw [List.reverse_append] at h; exact OkR_drop h
theorem OkB_take {B : Bs} (h : OkB B) (i : Nat) : OkB (B.take i) := OkB_pre (C := B.drop i) (by rw [List.take_append_drop]; exact h)
theorem OkR_nodup : ∀ {R : Bs}, OkR R → (keys R).Nodup
  | [], _ => List.nodup_nil
  | (n, t) :: R, h => List.nodup_cons.2 ⟨h.2.1, OkR_nodup h.1⟩
theorem OkB_nodup {B : Bs} (h : OkB B) : (keys B).Nodup := by
  have := OkR_nodup h
  rw [keys_reverse] at this
  unfold List.Nodup at *
  rw [List.pairwise_reverse] at this
  exact this.imp fun h => fun e => h e.symm
theorem OkR_mem : ∀ {R : Bs}, OkR R → ∀ {n : Int} {t : Tm}, (n, t) ∈ R → t.right = true ∧ 0 ≤ n ∧ n < 1073741824
  | (m, u) :: R, h, n, t, hm => by
    rcases List.mem_cons.1 hm with e | hm
    · cases e; exact ⟨h.2.2.1, h.2.2.2.2.2⟩
    · exact OkR_mem h.1 hm
theorem OkB_mem {B : Bs} (h : OkB B) {n : Int} {t : Tm} (hm : (n, t) ∈ B) : t.right = true ∧ 0 ≤ n ∧ n < 1073741824 := OkR_mem h (List.mem_reverse.2 hm)
theorem OkB_look {B : Bs} (h : OkB B) {n : Int} {t : Tm} (hm : lookB B n = some t) : t.right = true := (OkB_mem h (look_mem hm)).1
theorem keys_range {B : Bs} (h : OkB B) {n : Int} (hn : n ∈ keys B) : 0 ≤ n ∧ n < 1073741824 := by
  obtain ⟨⟨m, t⟩, h1, rfl⟩ := List.mem_map.1 hn
  exact (OkB_mem h h1).2

theorem sgR_unb : ∀ {R : Bs} {n : Int}, n ∉ keys R → sgR R n = Tm.var n
  | [], _, _ => rfl
  | (m, t) :: R, n, h => by
    simp only [keys_cons, List.mem_cons, not_or] at h
    simp [sgR, sgR_unb h.2, one, h.1]
theorem sg_unb {B : Bs} {n : Int} (h : n ∉ keys B) : sg B n = Tm.var n := sgR_unb (by simpa using h)
theorem sgR_right : ∀ {R : Bs}, OkR R → ∀ n, 0 ≤ n → n < 1073741824 → (sgR R n).right = true
  | [], _, n, h1, h2 => Tm.var_right ⟨h1, h2⟩
  | (m, t) :: R, h, n, h1, h2 => by
    simp only [sgR]
    refine Tm.right_sub _ _ (sgR_right h.1 n h1 h2) fun x hx => ?_
    unfold one
    split
    · exact Tm.right_sub _ _ h.2.2.1 fun y hy => sgR_right h.1 y (Tm.occ_pos t h.2.2.1 y hy).1 (Tm.occ_pos t h.2.2.1 y hy).2
    · exact Tm.var_right (Tm.occ_pos _ (sgR_right h.1 n h1 h2) x hx)
theorem sgR_subR {R : Bs} (h : OkR R) {t : Tm} (hr : t.right = true) : (t.sub (sgR R)).right = true :=
  Tm.right_sub _ t hr fun n hn => sgR_right h n (Tm.occ_pos t hr n hn).1 (Tm.occ_pos t hr n hn).2
theorem sg_right {B : Bs} (h : OkB B) {t : Tm} (hr : t.right = true) : (t.sub (sg B)).right = true := sgR_subR h hr
theorem sgR_idem : ∀ {R : Bs}, OkR R → ∀ n x, x ∈ (sgR R n).occ → x ∉ keys R
  | [], _, n, x, hx => by simp
  | (m, u) :: R, h, n, x, hx => by
    simp only [sgR, Tm.occ_sub] at hx
    obtain ⟨y, h1, h2⟩ := hx
    simp only [keys_cons, List.mem_cons, not_or]
    unfold one at h2
    split at h2
    · refine ⟨fun e => h.2.2.2.2.1 (e ▸ h2), ?_⟩
      obtain ⟨z, h3, h4⟩ := (Tm.occ_sub _ _ _).1 h2
      exact sgR_idem h.1 z x h4
    · rename_i hy
      simp at h2
      subst h2
      exact ⟨hy, sgR_idem h.1 n _ h1⟩
/-- What a term comes to has no bound variables. -/
theorem sg_free {B : Bs} (h : OkB B) {t : Tm} {x : Int} (hx : x ∈ (t.sub (sg B)).occ) : x ∉ keys B := by
  obtain ⟨y, _, h2⟩ := (Tm.occ_sub _ _ _).1 hx
  have := sgR_idem h y x h2
  simpa using this
theorem sub_id {t : Tm} (hr : t.right = true) {f : Int → Tm} (hf : ∀ n ∈ t.occ, f n = Tm.var n) : t.sub f = t := by
  rw [Tm.sub_congr f Tm.var t hf, Tm.sub_var t hr]
/-- What a term comes to comes to itself. -/
theorem sg_sg {B : Bs} (h : OkB B) {t : Tm} (hr : t.right = true) : (t.sub (sg B)).sub (sg B) = t.sub (sg B) :=
  sub_id (sg_right h hr) fun n hn => sg_unb (sg_free h hn)
theorem sgR_bound : ∀ {R : Bs}, OkR R → ∀ {n : Int} {t : Tm}, (n, t) ∈ R → sgR R n = t.sub (sgR R)
  | (m, u) :: R, h, n, t, hm => by
    have e : ∀ t : Tm, t.sub (sgR ((m, u) :: R)) = (t.sub (sgR R)).sub (one m (u.sub (sgR R))) := fun t => by
      rw [Tm.sub_sub]; rfl
    rw [e]
    rcases List.mem_cons.1 hm with hm | hm
    · cases hm
      simp only [sgR, sgR_unb h.2.1, Tm.var_sub]
      rw [sub_id (sgR_subR h.1 h.2.2.1)]
      · simp [one]
      · intro x hx
        have : x ≠ m := fun e => h.2.2.2.2.1 (e ▸ hx)
        simp [one, this]
    · simp only [sgR, sgR_bound h.1 hm]
theorem sg_bound {B : Bs} (h : OkB B) {n : Int} {t : Tm} (hm : lookB B n = some t) : sg B n = t.sub (sg B) :=
  sgR_bound h (List.mem_reverse.2 (look_mem hm))

theorem wk_pre : ∀ {A B : Bs} {t : Tm}, (∀ n, t.vn = some n → n ∉ keys A) → wk (A ++ B) t = wk B t ∧ wkn (A ++ B) t = wkn B t
  | [], _, _, _ => ⟨rfl, rfl⟩
  | (m, u) :: A, B, t, h => by
    have : ¬ t.vn = some m := fun e => h m e (by simp)
    simp only [List.cons_append, wk, wkn, if_neg this]
    exact wk_pre fun n hn => fun hm => h n hn (by simp [hm])
theorem wk_none {B : Bs} {t : Tm} (h : ∀ n, t.vn = some n → lookB B n = none) : wk B t = t ∧ wkn B t = 0 := by
  have := wk_pre (A := B) (B := []) (t := t) fun n hn => look_none.1 (h n hn)
  simpa [wk, wkn] using this
theorem wk_step {B : Bs} (h : OkB B) {t u : Tm} {n : Int} (ht : t.vn = some n) (hl : lookB B n = some u) : wk B t = wk B u ∧ wkn B t = wkn B u + 1 := by
  obtain ⟨A, C, rfl, hA⟩ := look_split hl
  have h1 : OkB (A ++ [(n, u)]) := OkB_pre (C := C) (by simpa using h)
  obtain ⟨_, _, h2, h3, h4, _⟩ := OkB_snoc.1 h1
  have e1 := wk_pre (A := A) (B := (n, u) :: C) (t := t) fun m hm => by rw [ht] at hm; cases hm; exact hA
  have e2 := wk_pre (A := A) (B := (n, u) :: C) (t := u) h3
  have : ¬ u.vn = some n := fun e => by
    obtain ⟨e', _⟩ := Tm.vn_some e h2
    rw [e', Tm.var_sub, sg_unb hA] at h4
    simp at h4
  rw [e1.1, e1.2, e2.1, e2.2]
  simp only [wk, wkn, if_pos ht, if_neg this, and_self]
/-- Walks are finite. -/
theorem wk_ind {B : Bs} (h : OkB B) {p : Tm → Prop} (h1 : ∀ t, (∀ n, t.vn = some n → lookB B n = none) → p t) (h2 : ∀ t n u, t.vn = some n → lookB B n = some u → p u → p t) : ∀ t, p t := by
  have : ∀ (m : Nat) (t : Tm), wkn B t = m → p t := by
    intro m
    induction m using Nat.strongRecOn with
    | _ m ih =>
      intro t hm
      by_cases hb : ∀ n, t.vn = some n → lookB B n = none
      · exact h1 t hb
      · obtain ⟨n, hn⟩ := Classical.not_forall.1 hb
        obtain ⟨hn, hl⟩ := Classical.not_imp.1 hn
        cases hu : lookB B n with
        | none => exact absurd hu hl
        | some u => exact h2 t n u hn hu (ih _ (by have := (wk_step h hn hu).2; omega) u rfl)
  exact fun t => this _ t rfl
theorem wk_end {B : Bs} (h : OkB B) : ∀ t n, (wk B t).vn = some n → lookB B n = none :=
  wk_ind h (fun t ht n hn => by rw [(wk_none ht).1] at hn; exact ht n hn) (fun t n u h1 h2 ih m hm => by rw [(wk_step h h1 h2).1] at hm; exact ih m hm)
theorem wk_right {B : Bs} (h : OkB B) : ∀ t, t.right = true → (wk B t).right = true :=
  wk_ind h (fun t ht hr => by rw [(wk_none ht).1]; exact hr) (fun t n u h1 h2 ih hr => by rw [(wk_step h h1 h2).1]; exact ih (OkB_look h h2))
theorem wk_sg {B : Bs} (h : OkB B) : ∀ t, t.right = true → (wk B t).sub (sg B) = t.sub (sg B) :=
  wk_ind h (fun t ht _ => by rw [(wk_none ht).1]) (fun t n u h1 h2 ih hr => by
    rw [(wk_step h h1 h2).1, ih (OkB_look h h2)]
    obtain ⟨e, _⟩ := Tm.vn_some h1 hr
    rw [e, Tm.var_sub, sg_bound h h2])
theorem wk_var {B : Bs} (h : OkB B) {t : Tm} (hr : t.right = true) {n : Int} (hn : (wk B t).vn = some n) : wk B t = Tm.var n ∧ n ∉ keys B ∧ t.sub (sg B) = Tm.var n ∧ 0 ≤ n ∧ n < 1073741824 := by
  obtain ⟨e, h1⟩ := Tm.vn_some hn (wk_right h t hr)
  have h2 := look_none.1 (wk_end h t n hn)
  refine ⟨e, h2, ?_, h1⟩
  rw [← wk_sg h t hr, e, Tm.var_sub, sg_unb h2]
end Go.Ab
end

section
namespace Go.Ab
/-- Terms for variables that make each bound variable what it is bound to. -/
def Solves (B : Bs) (θ : Int → Tm) : Prop := ∀ n t, (n, t) ∈ B → θ n = t.sub θ
theorem mguR {θ : Int → Tm} : ∀ {R : Bs}, OkR R → (∀ n t, (n, t) ∈ R → θ n = t.sub θ) → ∀ n, (sgR R n).sub θ = θ n
  | [], _, _, n => by simp [sgR]
  | (m, u) :: R, h, hs, n => by
    have ih := mguR h.1 fun n t hm => hs n t (List.mem_cons_of_mem _ hm)
    simp only [sgR, Tm.sub_sub]
    rw [← ih n]
    refine Tm.sub_congr _ _ _ fun x _ => ?_
    unfold one
    split
    · rename_i e
      subst e
      rw [Tm.sub_sub, hs x u (by simp)]
      exact Tm.sub_congr _ _ _ fun z _ => ih z
    · simp
theorem mgu {B : Bs} (h : OkB B) {θ : Int → Tm} (hs : Solves B θ) (t : Tm) : (t.sub (sg B)).sub θ = t.sub θ := by
  rw [Tm.sub_sub]
  exact Tm.sub_congr _ _ _ fun n _ => mguR h (fun n t hm => hs n t (List.mem_reverse.1 hm)) n
theorem look_of_mem {B : Bs} (h : (keys B).Nodup) {n : Int} {t : Tm} (hm : (n, t) ∈ B) : lookB B n = some t := by
  induction B with
  | nil => cases hm
  | cons x B ih =>
    obtain ⟨m, u⟩ := x
    simp only [keys_cons, List.nodup_cons] at h
    simp only [lookB]
    rcases List.mem_cons.1 hm with e | hm
    · cases e; simp
    · rw [if_neg]
      · exact ih h.2 hm
      · rintro rfl; exact h.1 (List.mem_map.2 ⟨_, hm, rfl⟩)
theorem solves_self {B : Bs} (h : OkB B) : Solves B (sg B) := fun _ _ hm => sg_bound h (look_of_mem (OkB_nodup h) hm)
theorem solves_pre {B D : Bs} (h : OkB (B ++ D)) : Solves B (sg (B ++ D)) := fun n t hm => solves_self h n t (by simp [hm])
/-- More bindings. -/
theorem sg_ext {B D : Bs} (h : OkB (B ++ D)) (t : Tm) : (t.sub (sg B)).sub (sg (B ++ D)) = t.sub (sg (B ++ D)) := mgu (OkB_pre h) (solves_pre h) t
theorem ext_eq {B D : Bs} (h : OkB (B ++ D)) {a b : Tm} (he : a.sub (sg B) = b.sub (sg B)) : a.sub (sg (B ++ D)) = b.sub (sg (B ++ D)) := by
  rw [← sg_ext h a, ← sg_ext h b, he]

/-- A variable is bound, if it is not in what the term comes to. -/
def bindS (B : Bs) (n : Int) (t : Tm) : Option (Bs × List (Tm × Tm)) := if n ∈ (t.sub (sg B)).occ then none else some (B ++ [(n, t)], [])
/-- The pairs of arguments. -/
def argsS (B : Bs) : Tm → Tm → Option (Bs × List (Tm × Tm))
  | .mk k n s l, .mk k' n' s' l' => if k = k' ∧ n = n' ∧ s = s' ∧ l.length = l'.length then some (B, l.zip l') else none
/-- What comes of two terms. -/
def stepU (B : Bs) (a b : Tm) : Option (Bs × List (Tm × Tm)) :=
  match (wk B a).vn, (wk B b).vn with
  | some n, some m => if n = m then some (B, []) else bindS B n (wk B b)
  | some n, none => bindS B n (wk B b)
  | none, some m => bindS B m (wk B a)
  | none, none => argsS B (wk B a) (wk B b)
/-- Pairs of terms are unified, one behind the other. -/
inductive Un : Bs → List (Tm × Tm) → Option Bs → Prop
  | nil (B : Bs) : Un B [] (some B)
  | fail {B : Bs} {a b : Tm} {ps : List (Tm × Tm)} : stepU B a b = none → Un B ((a, b) :: ps) none
  | go {B : Bs} {a b : Tm} {ps : List (Tm × Tm)} {B' : Bs} {qs : List (Tm × Tm)} {r : Option Bs} : stepU B a b = some (B', qs) → Un B' (qs ++ ps) r → Un B ((a, b) :: ps) r
theorem Un.det {B : Bs} {ps : List (Tm × Tm)} {r : Option Bs} (h : Un B ps r) : ∀ r', Un B ps r' → r = r' := by
  induction h with
  | nil B => intro r' h; cases h; rfl
  | fail hs => intro r' h; cases h with
    | fail _ => rfl
    | go hs' _ => rw [hs] at hs'; cases hs'
  | go hs _ ih => intro r' h; cases h with
    | fail hs' => rw [hs] at hs'; cases hs'
    | go hs' h' => rw [hs] at hs'; cases hs'; exact ih _ h'
theorem bindS_some {B B' : Bs} {n : Int} {t : Tm} {qs : List (Tm × Tm)} (h : bindS B n t = some (B', qs)) : n ∉ (t.sub (sg B)).occ ∧ B' = B ++ [(n, t)] ∧ qs = [] := by
  unfold bindS at h
  split at h
  · cases h
  · rename_i hn; cases h; exact ⟨hn, rfl, rfl⟩
theorem wk_walked {B : Bs} (h : OkB B) (t : Tm) : ∀ m, (wk B t).vn = some m → m ∉ keys B := fun m hm => look_none.1 (wk_end h t m hm)
theorem bind_ok {B : Bs} (h : OkB B) {a b : Tm} (ra : a.right = true) (rb : b.right = true) {n : Int} (hn : (wk B a).vn = some n) (ho : n ∉ ((wk B b).sub (sg B)).occ) :
    OkB (B ++ [(n, wk B b)]) ∧ ∀ C, OkB (B ++ [(n, wk B b)] ++ C) → a.sub (sg (B ++ [(n, wk B b)] ++ C)) = b.sub (sg (B ++ [(n, wk B b)] ++ C)) := by
  obtain ⟨h1, h2, h3, h4⟩ := wk_var h ra hn
  refine ⟨OkB_snoc.2 ⟨h, h2, wk_right h b rb, wk_walked h b, ho, h4⟩, fun C hC => ?_⟩
  have e1 := solves_self hC n (wk B b) (by simp)
  have hC' : OkB (B ++ ([(n, wk B b)] ++ C)) := by rw [← List.append_assoc]; exact hC
  have e2 := sg_ext hC' a
  have e3 := sg_ext hC' b
  have e4 := sg_ext hC' (wk B b)
  rw [← List.append_assoc] at e2 e3 e4
  rw [← e2, h3, Tm.var_sub, e1, ← e3, ← e4, wk_sg h b rb]
theorem subL_zip {f : Int → Tm} : ∀ {l l' : List Tm}, l.length = l'.length → (∀ p ∈ l.zip l', p.1.sub f = p.2.sub f) → Tm.subL f l = Tm.subL f l'
  | [], [], _, _ => rfl
  | [], _ :: _, h, _ => by simp at h
  | _ :: _, [], h, _ => by simp at h
  | x :: xs, y :: ys, h, hp => by
    simp only [Tm.subL]
    rw [hp (x, y) (by simp), subL_zip (by simpa using h) fun p hm => hp p (by simp [hm])]
theorem zip_subL {f : Int → Tm} : ∀ {l l' : List Tm}, Tm.subL f l = Tm.subL f l' → ∀ p ∈ l.zip l', p.1.sub f = p.2.sub f
  | [], _, _, p, hp => by simp at hp
  | _ :: _, [], _, p, hp => by simp at hp
  | x :: xs, y :: ys, h, p, hp => by
    simp only [Tm.subL, List.cons.injEq] at h
    simp only [List.zip_cons_cons, List.mem_cons] at hp
    rcases hp with rfl | hp
    · exact h.1
    · exact zip_subL h.2 p hp
theorem rightL_mem : ∀ {l : List Tm}, Tm.rightL l = true → ∀ t ∈ l, t.right = true
  | [], _, t, h => by cases h
  | x :: xs, h, t, ht => by
    simp only [Tm.rightL, Bool.and_eq_true] at h
    rcases List.mem_cons.1 ht with rfl | ht
    · exact h.1
    · exact rightL_mem h.2 t ht
theorem argsS_some {B B' : Bs} {a b : Tm} {qs : List (Tm × Tm)} (h : argsS B a b = some (B', qs)) : ∃ k n s l l', a = .mk k n s l ∧ b = .mk k n s l' ∧ l.length = l'.length ∧ B' = B ∧ qs = l.zip l' := by
  obtain ⟨k, n, s, l⟩ := a
  obtain ⟨k', n', s', l'⟩ := b
  simp only [argsS] at h
  split at h
  · rename_i hc; obtain ⟨rfl, rfl, rfl, hl⟩ := hc; cases h; exact ⟨_, _, _, _, _, rfl, rfl, hl, rfl, rfl⟩
  · cases h
theorem vn_none {k n : Int} {s : ByteArray} {l : List Tm} (h : (Tm.mk k n s l).vn = none) : k ≠ 1 := by
  intro e; simp [Tm.vn, e] at h
/-- Two terms are held against each other. -/
theorem stepU_ok {B B' : Bs} {a b : Tm} {qs : List (Tm × Tm)} (h : OkB B) (ra : a.right = true) (rb : b.right = true) (hs : stepU B a b = some (B', qs)) :
    (∃ D, B' = B ++ D) ∧ OkB B' ∧ (∀ p ∈ qs, p.1.right = true ∧ p.2.right = true) ∧
    ∀ C, OkB (B' ++ C) → (∀ p ∈ qs, p.1.sub (sg (B' ++ C)) = p.2.sub (sg (B' ++ C))) → a.sub (sg (B' ++ C)) = b.sub (sg (B' ++ C)) := by
  unfold stepU at hs
  split at hs
  · rename_i n m hn hm
    split at hs
    · rename_i e
      subst e
      cases hs
      refine ⟨⟨[], by simp⟩, h, by simp, fun C hC _ => ext_eq hC ?_⟩
      rw [(wk_var h ra hn).2.2.1, (wk_var h rb hm).2.2.1]
    · obtain ⟨h1, rfl, rfl⟩ := bindS_some hs
      obtain ⟨k1, k2⟩ := bind_ok h ra rb hn h1
      exact ⟨⟨_, rfl⟩, k1, by simp, fun C hC _ => k2 C hC⟩
  · rename_i n hn hm
    obtain ⟨h1, rfl, rfl⟩ := bindS_some hs
    obtain ⟨k1, k2⟩ := bind_ok h ra rb hn h1
    exact ⟨⟨_, rfl⟩, k1, by simp, fun C hC _ => k2 C hC⟩
  · rename_i n hn hm
    obtain ⟨h1, rfl, rfl⟩ := bindS_some hs
    obtain ⟨k1, k2⟩ := bind_ok h rb ra hm h1
    exact ⟨⟨_, rfl⟩, k1, by simp, fun C hC _ => (k2 C hC).symm⟩
  · rename_i hn hm
    obtain ⟨k, n, s, l, l', e1, e2, e3, rfl, rfl⟩ := argsS_some hs
    have r1 := wk_right h a ra
    have r2 := wk_right h b rb
    rw [e1] at hn r1
    rw [e2] at r2
    simp only [Tm.right, Bool.and_eq_true] at r1 r2
    refine ⟨⟨[], by simp⟩, h, fun p hp => ⟨rightL_mem r1.2 _ (List.of_mem_zip hp).1, rightL_mem r2.2 _ (List.of_mem_zip hp).2⟩, fun C hC he => ?_⟩
    have f1 := sg_ext hC a
    have f2 := sg_ext hC b
    rw [← f1, ← f2, ← wk_sg h a ra, ← wk_sg h b rb, sg_ext hC, sg_ext hC, e1, e2]
    simp only [Tm.sub, if_neg (vn_none hn), subL_zip e3 he]
theorem Un.sound {B : Bs} {ps : List (Tm × Tm)} {r : Option Bs} (h : Un B ps r) : OkB B → (∀ p ∈ ps, p.1.right = true ∧ p.2.right = true) → ∀ B', r = some B' →
    (∃ D, B' = B ++ D) ∧ OkB B' ∧ ∀ p ∈ ps, p.1.sub (sg B') = p.2.sub (sg B') := by
  induction h with
  | nil B => intro h _ B' e; cases e; exact ⟨⟨[], by simp⟩, h, by simp⟩
  | fail _ => intro _ _ B' e; cases e
  | @go B a b ps B1 qs r hs _ ih =>
    intro h hp B' e
    obtain ⟨ra, rb⟩ := hp (a, b) (by simp)
    obtain ⟨⟨D, rfl⟩, k2, k3, k4⟩ := stepU_ok h ra rb hs
    obtain ⟨⟨C, rfl⟩, j2, j3⟩ := ih k2 (fun p hm => by
      rcases List.mem_append.1 hm with hm | hm
      · exact k3 p hm
      · exact hp p (by simp [hm])) B' e
    refine ⟨⟨D ++ C, by simp⟩, j2, fun p hm => ?_⟩
    rcases List.mem_cons.1 hm with rfl | hm
    · exact k4 C j2 fun q hq => j3 q (by simp [hq])
    · exact j3 p (by simp [hm])

mutual
theorem Tm.size_occ (θ : Int → Tm) (n : Int) : ∀ t : Tm, n ∈ t.occ → (θ n).size ≤ (t.sub θ).size ∧ (t.vn = none → (θ n).size < (t.sub θ).size)
  | .mk k m s l => by
    intro h
    simp only [Tm.occ] at h
    simp only [Tm.sub, Tm.vn]
    split at h
    · rename_i hk
      simp at h
      simp [hk, h]
    · rename_i hk
      have := Tm.size_occL θ n l h
      simp only [if_neg hk, Tm.size, true_implies]
      omega
theorem Tm.size_occL (θ : Int → Tm) (n : Int) : ∀ l : List Tm, n ∈ Tm.occL l → (θ n).size ≤ Tm.sizeL (Tm.subL θ l)
  | [] => fun h => by cases h
  | t :: ts => by
    intro h
    simp only [Tm.occL, List.mem_append] at h
    simp only [Tm.subL, Tm.sizeL]
    rcases h with h | h
    · have := (Tm.size_occ θ n t h).1; omega
    · have := Tm.size_occL θ n ts h; omega
end
theorem bindS_complete {B : Bs} (h : OkB B) {a b : Tm} (ra : a.right = true) (rb : b.right = true) {n : Int} (hn : (wk B a).vn = some n) (hm : (wk B b).vn ≠ some n)
    {θ : Int → Tm} (hs : Solves B θ) (he : a.sub θ = b.sub θ) : bindS B n (wk B b) = some (B ++ [(n, wk B b)], []) ∧ Solves (B ++ [(n, wk B b)]) θ := by
  obtain ⟨_, _, h3, _⟩ := wk_var h ra hn
  have e1 : θ n = b.sub θ := by rw [← he, ← mgu h hs a, h3, Tm.var_sub]
  have e2 : (wk B b).sub θ = b.sub θ := by rw [← mgu h hs (wk B b), wk_sg h b rb, mgu h hs b]
  have ho : n ∉ ((wk B b).sub (sg B)).occ := by
    intro ho
    have hv : ((wk B b).sub (sg B)).vn = none := by
      cases hv : (wk B b).vn with
      | some m =>
        rw [(wk_var h rb hv).1, Tm.var_sub, sg_unb (wk_walked h b m hv)] at ho
        simp at ho
        rw [hv, ho] at hm; exact absurd rfl hm
      | none =>
        rcases hw : wk B b with ⟨k, q, s, l⟩
        rw [hw] at hv
        simp only [Tm.sub, if_neg (vn_none hv), Tm.vn]
    have := (Tm.size_occ θ n _ ho).2 hv
    rw [mgu h hs, e2, e1] at this
    omega
  refine ⟨by simp [bindS, ho], fun m t hmt => ?_⟩
  rcases List.mem_append.1 hmt with hmt | hmt
  · exact hs m t hmt
  · simp only [List.mem_singleton, Prod.mk.injEq] at hmt
    obtain ⟨rfl, rfl⟩ := hmt
    rw [e1, e2]
theorem stepU_complete {B : Bs} (h : OkB B) {a b : Tm} (ra : a.right = true) (rb : b.right = true) {θ : Int → Tm} (hs : Solves B θ) (he : a.sub θ = b.sub θ) :
    ∃ B' qs, stepU B a b = some (B', qs) ∧ Solves B' θ ∧ ∀ p ∈ qs, p.1.sub θ = p.2.sub θ := by
  unfold stepU
  split
  · rename_i n m hn hm
    by_cases e : n = m
    · rw [if_pos e]; exact ⟨_, _, rfl, hs, by simp⟩
    · rw [if_neg e]
      obtain ⟨k1, k2⟩ := bindS_complete h ra rb hn (by rw [hm]; simpa using fun e' => e e'.symm) hs he
      exact ⟨_, _, k1, k2, by simp⟩
  · rename_i n hn hm
    obtain ⟨k1, k2⟩ := bindS_complete h ra rb hn (by rw [hm]; simp) hs he
    exact ⟨_, _, k1, k2, by simp⟩
  · rename_i n hn hm
    obtain ⟨k1, k2⟩ := bindS_complete h rb ra hm (by rw [hn]; simp) hs he.symm
    exact ⟨_, _, k1, k2, by simp⟩
  · rename_i hn hm
    have e1 : (wk B a).sub θ = (wk B b).sub θ := by
      rw [← mgu h hs (wk B a), wk_sg h a ra, mgu h hs a, he, ← mgu h hs (wk B b), wk_sg h b rb, mgu h hs b]
    rcases ha : wk B a with ⟨k, n, s, l⟩
    rcases hb : wk B b with ⟨k', n', s', l'⟩
    rw [ha, hb] at e1
    rw [ha] at hn
    rw [hb] at hm
    simp only [Tm.sub, if_neg (vn_none hn), if_neg (vn_none hm), Tm.mk.injEq] at e1
    obtain ⟨rfl, rfl, rfl, e1⟩ := e1
    have hl : l.length = l'.length := by have := congrArg List.length e1; simpa using this
    exact ⟨B, l.zip l', by simp [argsS, hl], hs, zip_subL e1⟩
theorem Un.complete {B : Bs} {ps : List (Tm × Tm)} {r : Option Bs} (h : Un B ps r) {θ : Int → Tm} : OkB B → (∀ p ∈ ps, p.1.right = true ∧ p.2.right = true) → Solves B θ → (∀ p ∈ ps, p.1.sub θ = p.2.sub θ) →
    ∃ B', r = some B' ∧ Solves B' θ := by
  induction h with
  | nil B => intro _ _ h _; exact ⟨B, rfl, h⟩
  | @fail B a b ps hs =>
    intro h hp hθ he
    obtain ⟨_, _, k, _⟩ := stepU_complete h (hp (a, b) (by simp)).1 (hp (a, b) (by simp)).2 hθ (he (a, b) (by simp))
    rw [hs] at k; cases k
  | @go B a b ps B1 qs r hs _ ih =>
    intro h hp hθ he
    obtain ⟨ra, rb⟩ := hp (a, b) (by simp)
    obtain ⟨_, _, k, k1, k2⟩ := stepU_complete h ra rb hθ (he (a, b) (by simp))
    rw [hs] at k
    cases k
    obtain ⟨_, j1, j2, _⟩ := stepU_ok h ra rb hs
    refine ih j1 (fun p hm => ?_) k1 (fun p hm => ?_)
    · rcases List.mem_append.1 hm with hm | hm
      · exact j2 p hm
      · exact hp p (by simp [hm])
    · rcases List.mem_append.1 hm with hm | hm
      · exact k2 p hm
      · exact he p (by simp [hm])

theorem sizeL_zip {f : Int → Tm} : ∀ {l l' : List Tm}, ∀ p ∈ l.zip l', (p.1.sub f).size ≤ Tm.sizeL (Tm.subL f l)
  | [], _, p, hp => by simp at hp
  | _ :: _, [], p, hp => by simp at hp
  | x :: xs, y :: ys, p, hp => by
    simp only [List.zip_cons_cons, List.mem_cons] at hp
    simp only [Tm.subL, Tm.sizeL]
    rcases hp with rfl | hp
    · simp
    · have := sizeL_zip (f := f) p hp; omega
/-- What comes to the same already is held against each other without a change. -/
theorem Un.skip {B : Bs} (h : OkB B) : ∀ (m : Nat) {a b : Tm}, (a.sub (sg B)).size = m → a.right = true → b.right = true → a.sub (sg B) = b.sub (sg B) → ∀ ps r, Un B ps r → Un B ((a, b) :: ps) r := by
  intro m
  induction m using Nat.strongRecOn with
  | _ m ih =>
    intro a b hm ra rb he ps r hu
    have e1 : (wk B a).sub (sg B) = (wk B b).sub (sg B) := by rw [wk_sg h a ra, wk_sg h b rb, he]
    cases hn : (wk B a).vn with
    | some n =>
      cases hk : (wk B b).vn with
      | some k =>
        have : n = k := by
          have := (wk_var h ra hn).2.2.1
          have h2 := (wk_var h rb hk).2.2.1
          exact Tm.var_inj (by rw [← this, he, h2])
        refine .go (B' := B) (qs := []) ?_ hu
        simp [stepU, hn, hk, this]
      | none =>
        rcases hw : wk B b with ⟨k, q, s, l⟩
        rw [hw] at e1 hk
        rw [(wk_var h ra hn).1, Tm.var_sub, sg_unb (wk_walked h a n hn)] at e1
        have := congrArg Tm.vn e1
        rw [Tm.vn_var] at this
        simp [Tm.sub, vn_none hk, Tm.vn] at this
    | none =>
      cases hk : (wk B b).vn with
      | some k =>
        rcases hw : wk B a with ⟨k', q, s, l⟩
        rw [hw] at e1 hn
        rw [(wk_var h rb hk).1, Tm.var_sub, sg_unb (wk_walked h b k hk)] at e1
        have := congrArg Tm.vn e1
        rw [Tm.vn_var] at this
        simp [Tm.sub, vn_none hn, Tm.vn] at this
      | none =>
        have r1 := wk_right h a ra
        have r2 := wk_right h b rb
        have hsz := wk_sg h a ra
        have hst : stepU B a b = argsS B (wk B a) (wk B b) := by simp [stepU, hn, hk]
        rcases ha : wk B a with ⟨k, n, s, l⟩
        rcases hb : wk B b with ⟨k', n', s', l'⟩
        rw [ha, hb] at e1 hst
        rw [ha] at hn r1 hsz
        rw [hb] at hk r2
        simp only [Tm.sub, if_neg (vn_none hn), if_neg (vn_none hk), Tm.mk.injEq] at e1
        obtain ⟨rfl, rfl, rfl, e1⟩ := e1
        have hl : l.length = l'.length := by have := congrArg List.length e1; simpa using this
        have hst' : stepU B a b = some (B, l.zip l') := by rw [hst]; simp [argsS, hl]
        refine .go hst' ?_
        simp only [Tm.right, Bool.and_eq_true] at r1 r2
        simp only [Tm.sub, if_neg (vn_none hn)] at hsz
        have hz : ∀ p ∈ l.zip l', (p.1.sub (sg B)).size < m := fun p hp => by
          have := sizeL_zip (f := sg B) p hp
          rw [← hm, ← hsz]
          simp only [Tm.size]; omega
        have hq := zip_subL e1
        have hr : ∀ p ∈ l.zip l', p.1.right = true ∧ p.2.right = true := fun p hp => ⟨rightL_mem r1.2 _ (List.of_mem_zip hp).1, rightL_mem r2.2 _ (List.of_mem_zip hp).2⟩
        generalize l.zip l' = qs at hz hq hr
        induction qs with
        | nil => exact hu
        | cons p qs ihq =>
          obtain ⟨x, y⟩ := p
          exact ih _ (hz (x, y) (by simp)) rfl (hr (x, y) (by simp)).1 (hr (x, y) (by simp)).2 (hq (x, y) (by simp)) _ _
            (ihq (fun p hp => hz p (by simp [hp])) (fun p hp => hq p (by simp [hp])) (fun p hp => hr p (by simp [hp])))
end Go.Ab
end

section
namespace Go.Ab
/-! How far a search goes; what is left to bind. -/
def inV (V : List Int) (t : Tm) : Prop := ∀ n ∈ t.occ, n ∈ V
def BsV (V : List Int) (B : Bs) : Prop := ∀ n t, (n, t) ∈ B → n ∈ V ∧ inV V t
/-- How many variables are not bound. -/
def free (V : List Int) (B : Bs) : Nat := (V.filter fun v => decide (v ∉ keys B)).length
theorem filter_le {p q : Int → Bool} (h : ∀ x, q x = true → p x = true) : ∀ V : List Int, (V.filter q).length ≤ (V.filter p).length
  | [] => Nat.le_refl _
  | x :: V => by
    have ih := filter_le h V
    simp only [List.filter_cons]
    split
    · rename_i hx; rw [if_pos (h x hx)]; simp; exact ih
    · split
      · simp; omega
      · exact ih
theorem filter_lt {p q : Int → Bool} (h : ∀ x, q x = true → p x = true) {y : Int} (h1 : p y = true) (h2 : q y = false) : ∀ V : List Int, y ∈ V → (V.filter q).length < (V.filter p).length
  | x :: V, hy => by
    have hle := filter_le h V
    simp only [List.filter_cons]
    rcases List.mem_cons.1 hy with rfl | hy
    · rw [h1, h2]; simp; omega
    · have ih := filter_lt h h1 h2 V hy
      split
      · rename_i hx; rw [if_pos (h x hx)]; simp; exact ih
      · split
        · simp; omega
        · exact ih
theorem free_ext (V : List Int) (B D : Bs) : free V (B ++ D) ≤ free V B :=
  filter_le (fun x h => by simp at h ⊢; exact h.1) V
theorem free_lt {V : List Int} {B D : Bs} {n : Int} {t : Tm} (hV : n ∈ V) (h : n ∉ keys B) (hm : (n, t) ∈ D) : free V (B ++ D) < free V B :=
  filter_lt (y := n) (fun x h => by simp at h ⊢; exact h.1) (by simpa using h) (by simp; exact fun _ => List.mem_map.2 ⟨_, hm, rfl⟩) V hV
theorem ext_cases {V : List Int} {B D : Bs} (h : OkB (B ++ D)) (hV : BsV V (B ++ D)) : D = [] ∨ free V (B ++ D) < free V B := by
  cases D with
  | nil => exact .inl rfl
  | cons x D =>
    obtain ⟨n, t⟩ := x
    refine .inr (free_lt (n := n) (t := t) (hV n t (by simp)).1 ?_ (by simp))
    have := OkB_pre (B := B ++ [(n, t)]) (C := D) (by simpa using h)
    exact (OkB_snoc.1 this).2.1
theorem wk_inV {V : List Int} : ∀ {B : Bs} {t : Tm}, BsV V B → inV V t → inV V (wk B t)
  | [], _, _, h => h
  | (n, u) :: B, t, hB, h => by
    simp only [wk]
    split
    · exact wk_inV (fun m t hm => hB m t (by simp [hm])) (hB n u (by simp)).2
    · exact wk_inV (fun m t hm => hB m t (by simp [hm])) h
theorem inV_arg {V : List Int} {k n : Int} {s : ByteArray} {l : List Tm} (h : inV V (.mk k n s l)) (hk : k ≠ 1) : ∀ t ∈ l, inV V t := fun t ht m hm =>
  h m (by simp only [Tm.occ, if_neg hk]; exact Tm.occ_mem ht hm)
theorem BsV_snoc {V : List Int} {B : Bs} {n : Int} {t : Tm} (h : BsV V B) (hn : n ∈ V) (ht : inV V t) : BsV V (B ++ [(n, t)]) := fun m u hm => by
  rcases List.mem_append.1 hm with hm | hm
  · exact h m u hm
  · simp only [List.mem_singleton, Prod.mk.injEq] at hm; obtain ⟨rfl, rfl⟩ := hm; exact ⟨hn, ht⟩
theorem wk_vn_V {V : List Int} {B : Bs} {t : Tm} (hB : BsV V B) (h : inV V t) {n : Int} (hn : (wk B t).vn = some n) : n ∈ V := by
  refine wk_inV hB h n ?_
  rcases hw : wk B t with ⟨k, m, s, l⟩
  rw [hw] at hn
  by_cases hk : k = 1
  · simp [Tm.vn, hk] at hn; simp [Tm.occ, hk, hn]
  · simp [Tm.vn, hk] at hn

/-- How far it is to go through a term. -/
def far (B : Bs) (t : Tm) : Nat := (t.sub (sg B)).size * (B.length + 1) + wkn B t
theorem far_arg {B : Bs} {k n : Int} {s : ByteArray} {l : List Tm} (hk : k ≠ 1) {x : Tm} (hx : x ∈ l) : far B x < far B (.mk k n s l) := by
  have h1 := wkn_le B x
  have h2 : ((x.sub (sg B)).size + 1) ≤ ((Tm.mk k n s l).sub (sg B)).size := by
    simp only [Tm.sub, if_neg hk, Tm.size, Tm.subL_map]
    have : ∀ l : List Tm, x ∈ l → (x.sub (sg B)).size ≤ Tm.sizeL (l.map (Tm.sub (sg B))) := by
      intro l
      induction l with
      | nil => intro h; cases h
      | cons y ys ih =>
        intro h
        simp only [List.map_cons, Tm.sizeL]
        rcases List.mem_cons.1 h with rfl | h
        · omega
        · have := ih h; omega
    have := this l hx; omega
  unfold far
  have h3 := Nat.mul_le_mul_right (B.length + 1) h2
  rw [Nat.add_mul, Nat.one_mul] at h3
  omega
theorem far_step {B : Bs} (h : OkB B) {t u : Tm} {n : Int} (ht : t.vn = some n) (hl : lookB B n = some u) (hr : t.right = true) : far B u < far B t := by
  obtain ⟨h1, h2⟩ := wk_step h ht hl
  have h3 : t.sub (sg B) = u.sub (sg B) := by rw [← wk_sg h t hr, ← wk_sg h u (OkB_look h hl), h1]
  unfold far
  rw [h3, h2]; omega
/-- Is a variable in what a term comes to? -/
def lies (B : Bs) (n : Int) (t : Tm) : Bool := decide (n ∈ (t.sub (sg B)).occ)
def liesL (B : Bs) (n : Int) (l : List Tm) : Bool := l.any (lies B n)
theorem lies_args {B : Bs} {n k m : Int} {s : ByteArray} {l : List Tm} (hk : k ≠ 1) : lies B n (.mk k m s l) = l.any (lies B n) := by
  have : ∀ l : List Tm, decide (n ∈ Tm.occL (Tm.subL (sg B) l)) = l.any (lies B n) := by
    intro l
    induction l with
    | nil => simp [Tm.subL, Tm.occL]
    | cons x xs ih => simp only [Tm.subL, Tm.occL, List.mem_append, List.any_cons, ← ih, lies, Bool.decide_or]
  simp only [lies, Tm.sub, if_neg hk, Tm.occ, this]
theorem lies_step {B : Bs} (h : OkB B) {t u : Tm} {m n : Int} (ht : t.vn = some m) (hl : lookB B m = some u) (hr : t.right = true) : lies B n t = lies B n u := by
  have h3 : t.sub (sg B) = u.sub (sg B) := by rw [← wk_sg h t hr, ← wk_sg h u (OkB_look h hl), (wk_step h ht hl).1]
  unfold lies; rw [h3]
theorem lies_unb {B : Bs} {t : Tm} {m n : Int} (ht : t.vn = some m) (hl : lookB B m = none) : lies B n t = decide (n = m) := by
  obtain ⟨k, q, s, l⟩ := t
  simp only [Tm.vn] at ht
  split at ht
  · rename_i hk
    cases ht
    simp only [lies, Tm.sub, if_pos hk, sg_unb (look_none.1 hl), Tm.var_occ, List.mem_singleton]
  · cases ht
/-- What was gone through: nothing was found in it, or one is within it. -/
def Seen (B : Bs) (n : Int) (t : Tm) (S : List Int) : Prop := ∀ v ∈ S, v ∈ keys B ∧ (lies B n (Tm.var v) = false ∨ far B t < far B (Tm.var v))
def Seen2 (B : Bs) (n : Int) (S S' : List Int) : Prop := ∀ v ∈ S', v ∈ S ∨ (v ∈ keys B ∧ lies B n (Tm.var v) = false)

/-! Two terms that are each other with terms in the places of variables. -/
mutual
theorem sub_cancel (h : Int → Tm) : ∀ t : Tm, t.right = true → t.sub h = t → ∀ n ∈ t.occ, h n = Tm.var n
  | .mk k m s l => by
    intro hr he n hn
    simp only [Tm.sub] at he
    simp only [Tm.occ] at hn
    simp only [Tm.right, Bool.and_eq_true] at hr
    split at hn
    · rename_i hk
      simp at hn
      subst hn
      subst hk
      rw [if_pos rfl] at he
      obtain ⟨_, _, h3, h4⟩ := partB_one hr.1
      rw [he, h3, List.eq_nil_of_length_eq_zero h4]; rfl
    · rename_i hk
      rw [if_neg hk] at he
      simp only [Tm.mk.injEq, true_and] at he
      exact subL_cancel h l hr.2 he n hn
theorem subL_cancel (h : Int → Tm) : ∀ l : List Tm, Tm.rightL l = true → Tm.subL h l = l → ∀ n ∈ Tm.occL l, h n = Tm.var n
  | [] => fun _ _ n hn => by cases hn
  | t :: ts => by
    intro hr he n hn
    simp only [Tm.rightL, Bool.and_eq_true] at hr
    simp only [Tm.subL, List.cons.injEq] at he
    simp only [Tm.occL, List.mem_append] at hn
    rcases hn with hn | hn
    · exact sub_cancel h t hr.1 he.1 n hn
    · exact subL_cancel h ts hr.2 he.2 n hn
end
mutual
theorem right_part (g : Int → Tm) : ∀ t : Tm, (t.sub g).right = true → ∀ n ∈ t.occ, (g n).right = true
  | .mk k m s l => by
    intro hr n hn
    simp only [Tm.sub] at hr
    simp only [Tm.occ] at hn
    split at hn
    · rename_i hk; rw [if_pos hk] at hr; simp at hn; subst hn; exact hr
    · rename_i hk
      rw [if_neg hk] at hr
      simp only [Tm.right, Bool.and_eq_true] at hr
      exact rightL_part g l hr.2 n hn
theorem rightL_part (g : Int → Tm) : ∀ l : List Tm, Tm.rightL (Tm.subL g l) = true → ∀ n ∈ Tm.occL l, (g n).right = true
  | [] => fun _ n hn => by cases hn
  | t :: ts => by
    intro hr n hn
    simp only [Tm.subL, Tm.rightL, Bool.and_eq_true] at hr
    simp only [Tm.occL, List.mem_append] at hn
    rcases hn with hn | hn
    · exact right_part g t hr.1 n hn
    · exact rightL_part g ts hr.2 n hn
end
mutual
theorem vars_ren (ρ : Int → Int) : ∀ (t : Tm) (L : List Int), (∀ a b, a ∈ L ∨ a ∈ t.occ → b ∈ L ∨ b ∈ t.occ → ρ a = ρ b → a = b) → (t.sub fun n => Tm.var (ρ n)).vars (L.map ρ) = (t.vars L).map ρ
  | .mk k m s l, L => by
    intro hi
    simp only [Tm.sub, Tm.vars]
    simp only [Tm.occ] at hi
    split
    · rename_i hk
      rw [if_pos hk] at hi
      simp only [Tm.var, Tm.vars, if_true]
      unfold addV
      by_cases hm : m ∈ L
      · rw [if_pos hm, if_pos (List.mem_map.2 ⟨m, hm, rfl⟩)]
      · rw [if_neg hm, if_neg, List.map_append]
        · rfl
        · intro h
          obtain ⟨a, h1, h2⟩ := List.mem_map.1 h
          exact hm (hi a m (.inl h1) (.inr (by simp)) h2 ▸ h1)
    · rename_i hk
      rw [if_neg hk] at hi
      simp only [Tm.vars, if_neg hk]
      exact varsL_ren ρ l L hi
theorem varsL_ren (ρ : Int → Int) : ∀ (l : List Tm) (L : List Int), (∀ a b, a ∈ L ∨ a ∈ Tm.occL l → b ∈ L ∨ b ∈ Tm.occL l → ρ a = ρ b → a = b) → Tm.varsL (Tm.subL (fun n => Tm.var (ρ n)) l) (L.map ρ) = (Tm.varsL l L).map ρ
  | [], L => fun _ => rfl
  | t :: ts, L => by
    intro hi
    simp only [Tm.subL, Tm.varsL]
    simp only [Tm.occL, List.mem_append] at hi
    rw [vars_ren ρ t L fun a b ha hb => hi a b (ha.imp id .inl) (hb.imp id .inl)]
    refine varsL_ren ρ ts (t.vars L) fun a b ha hb => hi a b ?_ ?_
    · rcases ha with ha | ha
      · exact ((Tm.mem_vars t L a).1 ha).imp id .inl
      · exact .inr (.inr ha)
    · rcases hb with hb | hb
      · exact ((Tm.mem_vars t L b).1 hb).imp id .inl
      · exact .inr (.inr hb)
end
theorem placeI_map (ρ : Int → Int) : ∀ (L : List Int) (n : Int) (i : Nat), (∀ a ∈ L, ρ a = ρ n → a = n) → placeI (L.map ρ) (ρ n) i = placeI L n i
  | [], _, _, _ => rfl
  | x :: xs, n, i, h => by
    simp only [List.map_cons, placeI]
    by_cases hx : x = n
    · rw [if_pos hx, if_pos (by rw [hx])]
    · rw [if_neg hx, if_neg fun e => hx (h x (by simp) e)]
      exact placeI_map ρ xs n (i + 1) fun a ha => h a (by simp [ha])
/-- Terms that come to each other are variants. -/
theorem variants {x y : Tm} {f g : Int → Tm} (hx : x.right = true) (hy : y.right = true) (h1 : x = y.sub f) (h2 : y = x.sub g) :
    numT (x.vars []) x = numT (y.vars []) y ∧ x.size = y.size ∧ x.depth = y.depth := by
  have e : x.sub (fun n => (g n).sub f) = x := by rw [← Tm.sub_sub, ← h2, ← h1]
  have hc := sub_cancel _ x hx e
  have hg : ∀ n ∈ x.occ, ∃ m, g n = Tm.var m ∧ (0 ≤ m ∧ m < 1073741824) := fun n hn => by
    have hr : (g n).right = true := right_part g x (by rw [← h2]; exact hy) n hn
    have := hc n hn
    rcases hw : g n with ⟨k, m, s, l⟩
    rw [hw] at this
    by_cases hk : k = 1
    · exact ⟨m, Tm.vn_some (t := .mk k m s l) (by simp [Tm.vn, hk]) (hw ▸ hr)⟩
    · have := congrArg Tm.vn this
      rw [Tm.vn_var] at this
      simp [Tm.sub, hk, Tm.vn] at this
  let ρ : Int → Int := fun n => ((g n).vn).getD 0
  have hρ : ∀ n ∈ x.occ, g n = Tm.var (ρ n) := fun n hn => by
    obtain ⟨m, e, _⟩ := hg n hn
    simp [ρ, e]
  have hinj : ∀ a b, a ∈ x.occ → b ∈ x.occ → ρ a = ρ b → a = b := fun a b ha hb e => by
    have k1 := hc a ha
    have k2 := hc b hb
    simp only [hρ a ha, hρ b hb, Tm.var_sub] at k1 k2
    rw [e, k2] at k1
    exact (Tm.var_inj k1).symm
  have hy2 : y = x.sub fun n => Tm.var (ρ n) := by rw [h2]; exact Tm.sub_congr _ _ x hρ
  have hv : y.vars [] = (x.vars []).map ρ := by
    rw [hy2]
    have := vars_ren ρ x [] fun a b ha hb => hinj a b (by simpa using ha) (by simpa using hb)
    simpa using this
  have hlike := Tm.sub_like g x hx hg
  rw [← h2] at hlike
  refine ⟨?_, hlike.2.1.symm, hlike.2.2.symm⟩
  rw [hv]
  conv => rhs; rw [hy2]
  unfold numT
  rw [Tm.sub_sub]
  refine Tm.sub_congr _ _ x fun n hn => ?_
  rw [Tm.var_sub, placeI_map]
  intro a ha
  exact hinj a n (by have := (Tm.mem_vars x [] a).1 ha; simpa using this) hn

/-! A variable in the place of a part. -/
mutual
def cutT (v : Int) : Tm → Int → Tm × Int
  | .mk k n s l, c => if c - 1 = -1 then (Tm.var v, c - 1) else (.mk k n s (cutL v l (c - 1)).1, (cutL v l (c - 1)).2)
def cutL (v : Int) : List Tm → Int → List Tm × Int
  | [], c => ([], c)
  | t :: ts, c => ((cutT v t c).1 :: (cutL v ts (cutT v t c).2).1, (cutL v ts (cutT v t c).2).2)
end
mutual
theorem cutT_neg (v : Int) : ∀ (t : Tm) (c : Int), c < 0 → (cutT v t c).1 = t ∧ (cutT v t c).2 < 0
  | .mk k n s l, c, h => by
    have := cutL_neg v l (c - 1) (by omega)
    simp only [cutT]
    rw [if_neg (by omega)]
    exact ⟨by rw [this.1], this.2⟩
theorem cutL_neg (v : Int) : ∀ (l : List Tm) (c : Int), c < 0 → (cutL v l c).1 = l ∧ (cutL v l c).2 < 0
  | [], c, h => ⟨rfl, h⟩
  | t :: ts, c, h => by
    obtain ⟨h1, h2⟩ := cutT_neg v t c h
    obtain ⟨h3, h4⟩ := cutL_neg v ts _ h2
    simp only [cutL]
    exact ⟨by rw [h1, h3], h4⟩
end
/-- A part was cut out, or not. -/
def CutOf (v : Int) (t t' : Tm) (c' : Int) : Prop := (c' < 0 ∧ ∃ P, ∀ θ : Int → Tm, θ v = P → (∀ n ∈ t.occ, θ n = Tm.var n) → t'.sub θ = t) ∨ (0 ≤ c' ∧ t' = t)
mutual
theorem cutT_of (v : Int) : ∀ (t : Tm) (c : Int), t.right = true → 0 ≤ c → ((cutT v t c).2 < 0 ∧ ∃ P, ∀ θ : Int → Tm, θ v = P → (∀ n ∈ t.occ, θ n = Tm.var n) → (cutT v t c).1.sub θ = t) ∨ (0 ≤ (cutT v t c).2 ∧ (cutT v t c).1 = t)
  | .mk k n s l, c, hr, h => by
    simp only [cutT]
    split
    · rename_i hc
      refine .inl ⟨by omega, .mk k n s l, fun θ h1 _ => by rw [Tm.var_sub, h1]⟩
    · rename_i hc
      simp only [Tm.right, Bool.and_eq_true] at hr
      by_cases hk : k = 1
      · subst hk
        obtain ⟨_, _, h3, h4⟩ := partB_one hr.1
        have := List.eq_nil_of_length_eq_zero h4
        subst this
        exact .inr ⟨by simp only [cutL]; omega, by simp only [cutL]⟩
      · rcases cutL_of v l (c - 1) hr.2 (by omega) with ⟨h1, P, h2⟩ | ⟨h1, h2⟩
        · refine .inl ⟨h1, P, fun θ k1 k2 => ?_⟩
          simp only [Tm.occ, if_neg hk] at k2
          simp only [Tm.sub, if_neg hk, h2 θ k1 k2]
        · exact .inr ⟨h1, by rw [h2]⟩
theorem cutL_of (v : Int) : ∀ (l : List Tm) (c : Int), Tm.rightL l = true → 0 ≤ c → ((cutL v l c).2 < 0 ∧ ∃ P, ∀ θ : Int → Tm, θ v = P → (∀ n ∈ Tm.occL l, θ n = Tm.var n) → Tm.subL θ (cutL v l c).1 = l) ∨ (0 ≤ (cutL v l c).2 ∧ (cutL v l c).1 = l)
  | [], c, _, h => .inr ⟨h, rfl⟩
  | t :: ts, c, hr, h => by
    simp only [Tm.rightL, Bool.and_eq_true] at hr
    simp only [cutL]
    rcases cutT_of v t c hr.1 h with ⟨h1, P, h2⟩ | ⟨h1, h2⟩
    · obtain ⟨k1, k2⟩ := cutL_neg v ts _ h1
      refine .inl ⟨k2, P, fun θ q1 q2 => ?_⟩
      simp only [Tm.occL, List.mem_append] at q2
      simp only [Tm.subL, h2 θ q1 fun n hn => q2 n (.inl hn), k1, sub_id, Tm.subL_map]
      congr 1
      conv => rhs; rw [← List.map_id ts]
      exact List.map_congr_left fun x hx => sub_id (rightL_mem hr.2 x hx) fun n hn => q2 n (.inr (Tm.occ_mem hx hn))
    · rcases cutL_of v ts _ hr.2 h1 with ⟨k1, P, k2⟩ | ⟨k1, k2⟩
      · refine .inl ⟨k1, P, fun θ q1 q2 => ?_⟩
        simp only [Tm.occL, List.mem_append] at q2
        simp only [Tm.subL, h2, k2 θ q1 fun n hn => q2 n (.inr hn), sub_id hr.1 fun n hn => q2 n (.inl hn)]
      · exact .inr ⟨k1, by rw [h2, k2]⟩
end
mutual
theorem cutT_like {v : Int} (hv : 0 ≤ v ∧ v < 1073741824) : ∀ (t : Tm) (c : Int), t.right = true → (cutT v t c).1.right = true ∧ (cutT v t c).1.size ≤ t.size ∧ (cutT v t c).1.depth ≤ t.depth
  | .mk k n s l, c, hr => by
    simp only [cutT]
    split
    · refine ⟨Tm.var_right hv, ?_, ?_⟩
      · have := Tm.size_pos (.mk k n s l); simpa [Tm.var, Tm.size, Tm.sizeL] using this
      · have := Tm.depth_pos (.mk k n s l); simpa [Tm.var, Tm.depth, Tm.depthL] using this
    · simp only [Tm.right, Bool.and_eq_true] at hr
      obtain ⟨h1, h2, h3, h4⟩ := cutL_like hv l (c - 1) hr.2
      simp only [Tm.right, Tm.size, Tm.depth, h4, hr.1, h1, Bool.and_true, true_and]
      omega
theorem cutL_like {v : Int} (hv : 0 ≤ v ∧ v < 1073741824) : ∀ (l : List Tm) (c : Int), Tm.rightL l = true → Tm.rightL (cutL v l c).1 = true ∧ Tm.sizeL (cutL v l c).1 ≤ Tm.sizeL l ∧ Tm.depthL (cutL v l c).1 ≤ Tm.depthL l ∧ (cutL v l c).1.length = l.length
  | [], c, _ => by simp [cutL, Tm.rightL]
  | t :: ts, c, hr => by
    simp only [Tm.rightL, Bool.and_eq_true] at hr
    obtain ⟨a1, a2, a3⟩ := cutT_like hv t c hr.1
    obtain ⟨b1, b2, b3, b4⟩ := cutL_like hv ts (cutT v t c).2 hr.2
    simp only [cutL, Tm.rightL, Tm.sizeL, Tm.depthL, List.length_cons, a1, b1, b4, Bool.and_self, true_and, and_true]
    exact ⟨by omega, by omega⟩
end
end Go.Ab
end

section
namespace Go.Ab
/-- A part within a term. -/
inductive Part : Tm → Tm → Prop
  | arg {x : Tm} {k n : Int} {s : ByteArray} {l : List Tm} : k ≠ 1 → x ∈ l → Part x (.mk k n s l)
  | deep {y x : Tm} {k n : Int} {s : ByteArray} {l : List Tm} : Part y x → k ≠ 1 → x ∈ l → Part y (.mk k n s l)
theorem size_le_mem {x : Tm} : ∀ {l : List Tm}, x ∈ l → x.size ≤ Tm.sizeL l
  | y :: l, h => by
    simp only [Tm.sizeL]
    rcases List.mem_cons.1 h with rfl | h
    · omega
    · have := size_le_mem h; omega
theorem Part.size {x y : Tm} (h : Part x y) : x.size < y.size := by
  induction h with
  | arg _ hx => have := size_le_mem hx; simp only [Tm.size]; omega
  | deep _ _ hx ih => have := size_le_mem hx; simp only [Tm.size]; omega
theorem Part.trans {x y z : Tm} (h : Part x y) (k : Part y z) : Part x z := by
  induction k with
  | arg hk hx => exact .deep h hk hx
  | deep _ hk hx ih => exact .deep ih hk hx
theorem mem_subL {x : Tm} (f : Int → Tm) {l : List Tm} (h : x ∈ l) : x.sub f ∈ Tm.subL f l := by rw [Tm.subL_map]; exact List.mem_map.2 ⟨x, h, rfl⟩
theorem Part.sub (f : Int → Tm) {x y : Tm} (h : Part x y) : Part (x.sub f) (y.sub f) := by
  induction h with
  | arg hk hx => simp only [Tm.sub, if_neg hk]; exact .arg hk (mem_subL f hx)
  | deep _ hk hx ih =>
    have e : ∀ (k n : Int) (s : ByteArray) (l : List Tm), k ≠ 1 → (Tm.mk k n s l).sub f = .mk k n s (Tm.subL f l) := fun k n s l hk => by simp only [Tm.sub, if_neg hk]
    rw [e _ _ _ _ hk]; exact .deep ih hk (mem_subL f hx)
/-- What comes of two terms that are unified. -/
structure Does (V : List Int) (B : Bs) (a b : Tm) (r : Bool) (B' : Bs) : Prop where
  ok : OkB B'
  ext : ∃ D, B' = B ++ D
  inV : BsV V B'
  yes : r = true → ∀ ps R, Un B' ps R → Un B ((a, b) :: ps) R
  no : r = false → ∀ ps, Un B ((a, b) :: ps) none
/-- The same for pairs. -/
structure DoesL (V : List Int) (B : Bs) (qs : List (Tm × Tm)) (r : Bool) (B' : Bs) : Prop where
  ok : OkB B'
  ext : ∃ D, B' = B ++ D
  inV : BsV V B'
  yes : r = true → ∀ ps R, Un B' ps R → Un B (qs ++ ps) R
  no : r = false → ∀ ps, Un B (qs ++ ps) none
theorem Does.same {V : List Int} {B B' : Bs} {a b : Tm} (h : Does V B a b true B') (hB : OkB B) (ra : a.right = true) (rb : b.right = true) : a.sub (sg B') = b.sub (sg B') :=
  (Un.sound (h.yes rfl [] _ (.nil B')) hB (by simp [ra, rb]) B' rfl).2.2 (a, b) (by simp)
/-- Pairs of variables that were held against each other: they come to the same, or one is within them. -/
def PInv (B : Bs) (a : Tm) (P : List (Int × Int)) : Prop := ∀ p ∈ P, sg B p.1 = sg B p.2 ∨ Part (a.sub (sg B)) (sg B p.1)
/-- New pairs come to the same. -/
def PNew (B' : Bs) (P P' : List (Int × Int)) : Prop := ∀ p ∈ P', p ∈ P ∨ sg B' p.1 = sg B' p.2
theorem sg_ext_var {B D : Bs} (h : OkB (B ++ D)) (n : Int) : (sg B n).sub (sg (B ++ D)) = sg (B ++ D) n := by
  have := sg_ext h (Tm.var n); simpa using this
theorem pair_ext {B D : Bs} (h : OkB (B ++ D)) {x y : Int} (he : sg B x = sg B y) : sg (B ++ D) x = sg (B ++ D) y := by
  rw [← sg_ext_var h x, ← sg_ext_var h y, he]
theorem PNew.refl (B : Bs) (P : List (Int × Int)) : PNew B P P := fun _ h => .inl h
theorem PNew.trans {B B' D : Bs} {P P' P'' : List (Int × Int)} (e : B' = B ++ D) (hB : OkB B') (h : PNew B P P') (k : PNew B' P' P'') : PNew B' P P'' := fun p hp => by
  subst e
  rcases k p hp with h1 | h1
  · rcases h p h1 with h2 | h2
    · exact .inl h2
    · exact .inr (pair_ext hB h2)
  · exact .inr h1
/-- What is known when one comes to the arguments. -/
theorem PInv.arg {B D : Bs} {a x : Tm} {P P' : List (Int × Int)} (h : PInv B a P) (hD : OkB (B ++ D)) (hx : Part (x.sub (sg B)) (a.sub (sg B))) (hP : PNew (B ++ D) P P') : PInv (B ++ D) x P' := fun p hp => by
  rcases hP p hp with h1 | h1
  · rcases h p h1 with h2 | h2
    · exact .inl (pair_ext hD h2)
    · refine .inr ?_
      have := (hx.trans h2).sub (sg (B ++ D))
      rwa [sg_ext hD, sg_ext_var hD] at this
  · exact .inl h1
theorem Part.of_wk {B : Bs} (hB : OkB B) {a : Tm} (ra : a.right = true) {k n : Int} {s : ByteArray} {l : List Tm} (hw : wk B a = .mk k n s l) (hk : k ≠ 1) {x : Tm} (hx : x ∈ l) : Part (x.sub (sg B)) (a.sub (sg B)) := by
  rw [← wk_sg hB a ra, hw]
  simp only [Tm.sub, if_neg hk]
  exact .arg hk (mem_subL _ hx)
theorem nodup_le : ∀ {L V : List Int}, L.Nodup → (∀ x ∈ L, x ∈ V) → L.length ≤ V.length
  | [], _, _, _ => Nat.zero_le _
  | x :: L, V, h, hs => by
    obtain ⟨h1, h2⟩ := List.nodup_cons.1 h
    have hx : x ∈ V := hs x (by simp)
    have := nodup_le (L := L) (V := V.erase x) h2 fun y hy => (List.mem_erase_of_ne (a := y) (b := x) fun e => h1 (by rw [← e]; exact hy)).2 (hs y (by simp [hy]))
    rw [List.length_erase_of_mem hx] at this
    have := List.length_pos_of_mem hx
    simp; omega
theorem BsV.len {V : List Int} {B : Bs} (h : BsV V B) (hB : OkB B) : B.length ≤ V.length := by
  have := nodup_le (OkB_nodup hB) (V := V) fun x hx => by
    obtain ⟨⟨n, t⟩, h1, rfl⟩ := List.mem_map.1 hx
    exact (h n t h1).1
  simpa using this
theorem size_arg {B : Bs} {k n : Int} {s : ByteArray} {l : List Tm} (hk : k ≠ 1) {x : Tm} (hx : x ∈ l) : (x.sub (sg B)).size < ((Tm.mk k n s l).sub (sg B)).size := by
  have : Part (x.sub (sg B)) ((Tm.mk k n s l).sub (sg B)) := by simp only [Tm.sub, if_neg hk]; exact .arg hk (mem_subL _ hx)
  exact this.size
end Go.Ab
end

section
namespace Go.Ab
/-- All that variables are bound to is so. -/
def BsP (p : Tm → Prop) (B : Bs) : Prop := ∀ n t, (n, t) ∈ B → p t
theorem BsP_look {p : Tm → Prop} {B : Bs} (h : BsP p B) {n : Int} {t : Tm} (hl : lookB B n = some t) : p t := h n t (look_mem hl)
theorem wk_all {p : Tm → Prop} : ∀ {B : Bs} {t : Tm}, BsP p B → p t → p (wk B t)
  | [], _, _, h => h
  | (n, u) :: B, t, hB, h => by
    unfold wk
    have hB' : BsP p B := fun m v hm => hB m v (List.mem_cons_of_mem _ hm)
    split
    · exact wk_all hB' (hB n u (List.mem_cons_self ..))
    · exact wk_all hB' h
theorem BsP_take {p : Tm → Prop} {B : Bs} (h : BsP p B) (i : Nat) : BsP p (B.take i) := fun n t hm => h n t (List.mem_of_mem_take hm)
theorem BsP_snoc {p : Tm → Prop} {B : Bs} (h : BsP p B) {n : Int} {t : Tm} (ht : p t) : BsP p (B ++ [(n, t)]) := fun m u hm => by
  rcases List.mem_append.1 hm with hm | hm
  · exact h m u hm
  · simp at hm; rw [hm.2]; exact ht
theorem stepU_all {p : Tm → Prop} (hp : ∀ k n s l, p (.mk k n s l) → ∀ x ∈ l, p x) {B B' : Bs} {a b : Tm} {qs : List (Tm × Tm)} (hB : BsP p B) (ha : p a) (hb : p b) (hs : stepU B a b = some (B', qs)) :
    BsP p B' ∧ ∀ q ∈ qs, p q.1 ∧ p q.2 := by
  have wa := wk_all hB ha
  have wb := wk_all hB hb
  have hbind : ∀ n t, p t → bindS B n t = some (B', qs) → BsP p B' ∧ ∀ q ∈ qs, p q.1 ∧ p q.2 := fun n t ht h => by
    obtain ⟨_, rfl, rfl⟩ := bindS_some h
    exact ⟨BsP_snoc hB ht, by simp⟩
  unfold stepU at hs
  split at hs
  · split at hs
    · cases hs; exact ⟨hB, by simp⟩
    · exact hbind _ _ wb hs
  · exact hbind _ _ wb hs
  · exact hbind _ _ wa hs
  · obtain ⟨k, n, s, l, l', e1, e2, _, rfl, rfl⟩ := argsS_some hs
    rw [e1] at wa; rw [e2] at wb
    refine ⟨hB, fun q hq => ?_⟩
    have := List.of_mem_zip hq
    exact ⟨hp _ _ _ _ wa _ this.1, hp _ _ _ _ wb _ this.2⟩
theorem Un.all {p : Tm → Prop} (hp : ∀ k n s l, p (.mk k n s l) → ∀ x ∈ l, p x) {B : Bs} {ps : List (Tm × Tm)} {r : Option Bs} (h : Un B ps r) : BsP p B → (∀ q ∈ ps, p q.1 ∧ p q.2) → ∀ B', r = some B' → BsP p B' := by
  induction h with
  | nil B => intro hB _ B' e; cases e; exact hB
  | fail _ => intro _ _ B' e; cases e
  | @go B a b ps B1 qs r hs _ ih =>
    intro hB hq B' e
    have h0 := hq (a, b) (List.mem_cons_self ..)
    obtain ⟨h1, h2⟩ := stepU_all hp hB h0.1 h0.2 hs
    refine ih h1 (fun q hm => ?_) B' e
    rcases List.mem_append.1 hm with hm | hm
    · exact h2 q hm
    · exact hq q (List.mem_cons_of_mem _ hm)
theorem check_arg (k n : Int) (s : ByteArray) (l : List Tm) (h : (Tm.mk k n s l).check = 0) : ∀ x ∈ l, x.check = 0 := fun x hx => by
  have hd : ∀ {l : List Tm}, x ∈ l → x.depth ≤ Tm.depthL l := by
    intro l
    induction l with
    | nil => intro h; cases h
    | cons y l ih =>
      intro h
      rcases List.mem_cons.1 h with rfl | h
      · simp only [Tm.depthL]; omega
      · have := ih h; simp only [Tm.depthL]; omega
  have hdx := hd hx
  have hsx := size_le_mem hx
  unfold Tm.check at h ⊢
  split at h
  · simp at h
  rename_i h1
  split at h
  · simp at h
  rename_i h2
  split at h
  · simp at h
  rename_i h3
  simp only [Bool.not_eq_false] at h1
  have hr := h1
  simp only [Tm.right, Bool.and_eq_true] at hr
  have hrx := rightL_mem hr.2 x hx
  simp only [Tm.size] at h3
  simp only [Tm.depth] at h2
  rw [if_neg (by simp [hrx]), if_neg (by omega), if_neg (by omega)]
theorem check_zero {t : Tm} (h : t.check = 0) : t.right = true ∧ t.depth ≤ 200 ∧ t.size ≤ 4096 := by
  unfold Tm.check at h
  split at h
  · simp at h
  rename_i h1
  split at h
  · simp at h
  rename_i h2
  split at h
  · simp at h
  rename_i h3
  exact ⟨by simpa using h1, by omega, by omega⟩
theorem check_small {t : Tm} (h : t.check = 0) : t.small := by have := (check_zero h).2.2; unfold Tm.small; omega
abbrev BsC (B : Bs) : Prop := BsP (fun t => t.check = 0) B
theorem Un.check {B : Bs} {a b : Tm} {B' : Bs} (h : Un B [(a, b)] (some B')) (hB : BsC B) (ha : a.check = 0) (hb : b.check = 0) : BsC B' :=
  h.all check_arg hB (fun q hq => by simp at hq; subst hq; exact ⟨ha, hb⟩) B' rfl
end Go.Ab
end

section
namespace Go.Ab
theorem bl_irr : ∀ x : List UInt8, Op.bytesLess x x = false
  | [] => rfl
  | a :: x => by simp [Op.bytesLess, bl_irr x]
theorem bl_tot : ∀ x y : List UInt8, x = y ∨ Op.bytesLess x y = true ∨ Op.bytesLess y x = true
  | [], [] => .inl rfl
  | [], _ :: _ => .inr (.inl rfl)
  | _ :: _, [] => .inr (.inr rfl)
  | a :: x, b :: y => by
    simp only [Op.bytesLess, Bool.or_eq_true, decide_eq_true_eq, Bool.and_eq_true, beq_iff_eq]
    rcases (show a < b ∨ a = b ∨ b < a by rw [UInt8.lt_iff_toNat_lt, UInt8.lt_iff_toNat_lt, ← UInt8.toNat_inj]; omega) with h | h | h
    · exact .inr (.inl (.inl h))
    · subst h
      rcases bl_tot x y with h | h | h
      · subst h; exact .inl rfl
      · exact .inr (.inl (.inr ⟨rfl, h⟩))
      · exact .inr (.inr (.inr ⟨rfl, h⟩))
    · exact .inr (.inr (.inl h))
theorem bl_trans : ∀ x y z : List UInt8, Op.bytesLess x y = true → Op.bytesLess y z = true → Op.bytesLess x z = true
  | _, _, [], _, h => by simp [Op.bytesLess] at h
  | _, [], _ :: _, h, _ => by simp [Op.bytesLess] at h
  | [], _ :: _, _ :: _, _, _ => rfl
  | a :: x, b :: y, c :: z, h1, h2 => by
    simp only [Op.bytesLess, Bool.or_eq_true, decide_eq_true_eq, Bool.and_eq_true, beq_iff_eq] at h1 h2 ⊢
    rcases h1 with h1 | ⟨rfl, h1⟩
    · rcases h2 with h2 | ⟨rfl, h2⟩
      · exact .inl (UInt8.lt_trans h1 h2)
      · exact .inl h1
    · rcases h2 with h2 | ⟨rfl, h2⟩
      · exact .inl h2
      · exact .inr ⟨rfl, bl_trans x y z h1 h2⟩
theorem strLt_irr (s : ByteArray) : strLt s s = false := bl_irr _
theorem strLt_tot (s t : ByteArray) : s = t ∨ strLt s t = true ∨ strLt t s = true := by
  rcases bl_tot s.data.toList t.data.toList with h | h | h
  · left
    cases s with | mk a => cases t with | mk b =>
    simp only [ByteArray.mk.injEq]
    exact Array.toList_inj.1 h
  · exact .inr (.inl h)
  · exact .inr (.inr h)
theorem strLt_trans {s t u : ByteArray} (h1 : strLt s t = true) (h2 : strLt t u = true) : strLt s u = true := bl_trans _ _ _ h1 h2
theorem strLt_asymm {s t : ByteArray} (h1 : strLt s t = true) : strLt t s = false := by
  cases h : strLt t s with
  | false => rfl
  | true => have := strLt_trans h1 h; rw [strLt_irr] at this; cases this
/-- Of two numbers. -/
def threeI (a b : Int) : Int := if a < b then -1 else if b < a then 1 else 0
/-- Of two names. -/
def nameC (s t : ByteArray) : Int := if strLt s t = true then -1 else if s = t then 0 else 1
theorem threeI_neg {a b : Int} : threeI a b < 0 ↔ a < b := by
  unfold threeI
  split
  · omega
  · split <;> omega
theorem threeI_zero {a b : Int} : threeI a b = 0 ↔ a = b := by
  unfold threeI
  split
  · omega
  · split <;> omega
theorem threeI_anti (a b : Int) : threeI b a = - threeI a b := by unfold threeI; split <;> split <;> (try split) <;> omega
theorem nameC_zero {s t : ByteArray} : nameC s t = 0 ↔ s = t := by
  unfold nameC
  by_cases h : s = t
  · subst h; simp [strLt_irr]
  · simp only [h, if_false]
    split <;> simp [h]
theorem nameC_neg {s t : ByteArray} : nameC s t < 0 ↔ strLt s t = true := by
  unfold nameC
  split
  · rename_i h; simp [h]
  · rename_i h
    split <;> simp [h]
theorem nameC_anti (s t : ByteArray) : nameC t s = - nameC s t := by
  unfold nameC
  rcases strLt_tot s t with h | h | h
  · subst h; simp [strLt_irr]
  · have h2 := strLt_asymm h
    have h3 : t ≠ s := by rintro rfl; rw [strLt_irr] at h; cases h
    simp [h, h2, h3]
  · have h2 := strLt_asymm h
    have h3 : s ≠ t := by rintro rfl; rw [strLt_irr] at h; cases h
    simp [h, h2, h3]
mutual
/-- The order of two terms; false: there is none. -/
def ordT : Tm → Tm → Int × Bool
  | .mk k n s l, .mk k' n' s' l' =>
    if k = 1 ∧ k' = 1 then (0, decide (n = n'))
    else if k ≠ k' then (threeI k k', true)
    else if k = 2 then (threeI n n', true)
    else if threeI l.length l'.length ≠ 0 then (threeI l.length l'.length, true)
    else if nameC s s' ≠ 0 then (nameC s s', true)
    else ordL l l'
def ordL : List Tm → List Tm → Int × Bool
  | x :: xs, y :: ys => if (ordT x y).2 = false ∨ (ordT x y).1 ≠ 0 then ordT x y else ordL xs ys
  | [], _ => (0, true)
  | _ :: _, [] => (0, true)
end
mutual
theorem ordT_anti : ∀ a b : Tm, ordT b a = (-(ordT a b).1, (ordT a b).2)
  | .mk k n s l, .mk k' n' s' l' => by
    have ih := ordL_anti l l'
    have e1 := threeI_anti k k'
    have e2 := threeI_anti n n'
    have e3 := threeI_anti l.length l'.length
    have e4 := nameC_anti s s'
    unfold ordT
    by_cases h1 : k = 1 ∧ k' = 1
    · simp [h1, eq_comm]
    · have h1' : ¬ (k' = 1 ∧ k = 1) := fun h => h1 ⟨h.2, h.1⟩
      rw [if_neg h1, if_neg h1']
      by_cases h2 : k = k'
      · subst h2
        simp only [ne_eq, not_true_eq_false, if_false]
        by_cases h3 : k = 2
        · simp [h3, e2]
        · simp only [h3, if_false]
          rw [e3, e4, ih]
          by_cases h4 : threeI l.length l'.length = 0
          · by_cases h5 : nameC s s' = 0
            · simp [h4, h5]
            · have : ¬ - nameC s s' = 0 := by omega
              simp [h4, h5]
          · simp [h4]
      · have h2' : ¬ k' = k := fun h => h2 h.symm
        simp [h2, h2', e1]
theorem ordL_anti : ∀ l l' : List Tm, ordL l' l = (-(ordL l l').1, (ordL l l').2)
  | [], [] => rfl
  | [], _ :: _ => rfl
  | _ :: _, [] => rfl
  | x :: xs, y :: ys => by
    have h1 := ordT_anti x y
    have h2 := ordL_anti xs ys
    simp only [ordL]
    rw [h1, h2]
    by_cases h : (ordT x y).2 = false ∨ (ordT x y).1 ≠ 0
    · have h' : (ordT x y).2 = false ∨ -(ordT x y).1 ≠ 0 := h.imp id fun h => by omega
      simp only [h, h', if_true]
    · have h' : ¬ ((ordT x y).2 = false ∨ -(ordT x y).1 ≠ 0) := fun q => h (q.imp id fun h => by omega)
      simp only [h, h', if_false]
end
mutual
theorem ordT_self : ∀ a : Tm, ordT a a = (0, true)
  | .mk k n s l => by
    have ih := ordL_self l
    unfold ordT
    have e1 : threeI n n = 0 := threeI_zero.2 rfl
    have e2 : threeI l.length l.length = 0 := threeI_zero.2 rfl
    have e3 : nameC s s = 0 := nameC_zero.2 rfl
    by_cases h1 : k = 1
    · simp [h1]
    · by_cases h2 : k = 2
      · simp [h2, e1]
      · simp [h1, h2, e2, e3, ih]
theorem ordL_self : ∀ l : List Tm, ordL l l = (0, true)
  | [] => rfl
  | x :: xs => by simp [ordL, ordT_self x, ordL_self xs]
end
mutual
theorem ordT_zero : ∀ a b : Tm, a.right = true → b.right = true → ordT a b = (0, true) → a = b
  | .mk k n s l, .mk k' n' s' l', ra, rb, h => by
    have ih := ordL_zero l l'
    simp only [Tm.right, Bool.and_eq_true] at ra rb
    unfold ordT at h
    by_cases h1 : k = 1 ∧ k' = 1
    · obtain ⟨rfl, rfl⟩ := h1
      simp at h
      simp [partB] at ra rb
      obtain ⟨⟨⟨_, a1⟩, a2⟩, a3⟩ := ra
      obtain ⟨⟨⟨_, b1⟩, b2⟩, b3⟩ := rb
      subst h; subst a1; subst b1; subst a2; subst b2
      rfl
    rw [if_neg h1] at h
    by_cases h2 : k = k'
    case neg =>
      simp only [ne_eq, h2, not_false_eq_true, if_true, Prod.mk.injEq] at h
      exact absurd (threeI_zero.1 h.1) h2
    subst h2
    have hk1 : k ≠ 1 := fun e => h1 ⟨e, e⟩
    simp only [ne_eq, not_true_eq_false, if_false] at h
    by_cases h3 : k = 2
    · subst h3
      simp only [if_true, Prod.mk.injEq, and_true] at h
      have := threeI_zero.1 h
      simp [partB] at ra rb
      obtain ⟨⟨⟨_, a1⟩, a2⟩, a3⟩ := ra
      obtain ⟨⟨⟨_, b1⟩, b2⟩, b3⟩ := rb
      subst this; subst a1; subst b1; subst a2; subst b2
      rfl
    simp only [h3, if_false] at h
    by_cases h4 : threeI l.length l'.length = 0
    case neg => simp [h4] at h
    simp only [h4, not_true_eq_false, if_false] at h
    by_cases h5 : nameC s s' = 0
    case neg => simp [h5] at h
    simp only [h5, not_true_eq_false, if_false] at h
    have e1 := threeI_zero.1 h4
    have e2 := nameC_zero.1 h5
    have e3 := ih (by omega) ra.2 rb.2 h
    have hn : ∀ {n : Int} {s : ByteArray} {len : Nat}, partB k n s len = true → n = 0 := by
      intro n s len h
      unfold partB at h
      rw [if_neg hk1, if_neg h3] at h
      split at h
      · simp at h; exact h.1.1
      · split at h
        · simp at h; exact h.1.1.1
        · cases h
    have n1 := hn ra.1
    have n2 := hn rb.1
    subst e2; subst e3; subst n1; subst n2
    rfl
theorem ordL_zero : ∀ l l' : List Tm, l.length = l'.length → Tm.rightL l = true → Tm.rightL l' = true → ordL l l' = (0, true) → l = l'
  | [], [], _, _, _, _ => rfl
  | [], _ :: _, h, _, _, _ => by simp at h
  | _ :: _, [], h, _, _, _ => by simp at h
  | x :: xs, y :: ys, hl, ra, rb, h => by
    simp only [Tm.rightL, Bool.and_eq_true] at ra rb
    simp only [ordL] at h
    split at h
    · rename_i hc
      rw [h] at hc
      simp at hc
    · rename_i hc
      have hxy : ordT x y = (0, true) := by
        simp only [not_or, Bool.not_eq_false, ne_eq, Decidable.not_not] at hc
        exact Prod.ext hc.2 hc.1
      rw [ordT_zero x y ra.1 rb.1 hxy, ordL_zero xs ys (by simpa using hl) ra.2 rb.2 h]
end
end Go.Ab
end

section
namespace Go.Ab
theorem threeI_trans {a b c : Int} (h1 : threeI a b < 0) (h2 : threeI b c < 0) : threeI a c < 0 := by
  rw [threeI_neg] at *; omega
theorem nameC_trans {a b c : ByteArray} (h1 : nameC a b < 0) (h2 : nameC b c < 0) : nameC a c < 0 := by
  rw [nameC_neg] at *; exact strLt_trans h1 h2
theorem ordT_same {k n : Int} {s : ByteArray} {l : List Tm} {n' : Int} {s' : ByteArray} {l' : List Tm} (h1 : k ≠ 1) :
    ordT (.mk k n s l) (.mk k n' s' l') = if k = 2 then (threeI n n', true) else if threeI l.length l'.length ≠ 0 then (threeI l.length l'.length, true) else if nameC s s' ≠ 0 then (nameC s s', true) else ordL l l' := by
  unfold ordT
  rw [if_neg (fun h => h1 h.1), if_neg (by simp)]
theorem ordT_diff {k n : Int} {s : ByteArray} {l : List Tm} {k' n' : Int} {s' : ByteArray} {l' : List Tm} (h : k ≠ k') : ordT (.mk k n s l) (.mk k' n' s' l') = (threeI k k', true) := by
  unfold ordT
  rw [if_neg (fun q => h (q.1.trans q.2.symm)), if_pos h]
theorem ordT_vars {n : Int} {s : ByteArray} {l : List Tm} {n' : Int} {s' : ByteArray} {l' : List Tm} : ordT (.mk 1 n s l) (.mk 1 n' s' l') = (0, decide (n = n')) := by
  unfold ordT
  rw [if_pos ⟨rfl, rfl⟩]
mutual
theorem ordT_trans : ∀ a b c : Tm, a.right = true → b.right = true → c.right = true → (ordT a b).2 = true → (ordT b c).2 = true → (ordT a c).2 = true → (ordT a b).1 < 0 → (ordT b c).1 < 0 → (ordT a c).1 < 0
  | .mk k n s l, .mk k' n' s' l', .mk k'' n'' s'' l'', ra, rb, rc, o1, o2, o3, h1, h2 => by
    have ih := ordL_trans l l' l''
    simp only [Tm.right, Bool.and_eq_true] at ra rb rc
    have ih := ih ra.2 rb.2 rc.2
    by_cases e1 : k = k'
    case neg =>
      rw [ordT_diff e1] at h1
      have h1 := threeI_neg.1 h1
      by_cases e2 : k' = k''
      · rw [ordT_diff (by omega)]; exact threeI_neg.2 (by omega)
      · rw [ordT_diff e2] at h2
        have h2 := threeI_neg.1 h2
        rw [ordT_diff (by omega)]; exact threeI_neg.2 (by omega)
    subst e1
    by_cases e2 : k = k''
    case neg =>
      rw [ordT_diff e2] at h2 ⊢
      exact h2
    subst e2
    by_cases e3 : k = 1
    · subst e3; rw [ordT_vars] at h1; simp at h1
    rw [ordT_same e3] at h1 h2 o1 o2 o3 ⊢
    by_cases e4 : k = 2
    · simp only [e4, if_true] at *; exact threeI_trans h1 h2
    simp only [e4, if_false] at *
    by_cases f1 : threeI l.length l'.length = 0
    · by_cases f2 : threeI l'.length l''.length = 0
      · have a1 := threeI_zero.1 f1
        have a2 := threeI_zero.1 f2
        have f3 : threeI l.length l''.length = 0 := threeI_zero.2 (by omega)
        simp only [f1, f2, f3, ne_eq, not_true_eq_false, if_false] at *
        by_cases g1 : nameC s s' = 0
        · have g1' := nameC_zero.1 g1
          subst g1'
          by_cases g2 : nameC s s'' = 0
          · simp only [g1, g2, not_true_eq_false, if_false] at *
            exact ih o1 o2 o3 h1 h2
          · simp only [g2, not_false_eq_true, if_true] at *
            exact h2
        · simp only [g1, not_false_eq_true, if_true] at h1
          by_cases g2 : nameC s' s'' = 0
          · have g2' := nameC_zero.1 g2
            subst g2'
            simp only [g1, not_false_eq_true, if_true]; exact h1
          · simp only [g2, not_false_eq_true, if_true] at h2
            have := nameC_trans h1 h2
            rw [if_pos (show ¬ nameC s s'' = 0 by omega)]; exact this
      · have a1 := threeI_zero.1 f1
        simp only [ne_eq, f2, not_false_eq_true, if_true] at h2
        rw [a1, if_pos f2]; exact h2
    · simp only [ne_eq, f1, not_false_eq_true, if_true] at h1
      by_cases f2 : threeI l'.length l''.length = 0
      · have a2 := threeI_zero.1 f2
        rw [← a2, if_pos f1]; exact h1
      · simp only [ne_eq, f2, not_false_eq_true, if_true] at h2
        have := threeI_trans h1 h2
        rw [if_pos (show threeI l.length l''.length ≠ 0 by omega)]; exact this
theorem ordL_trans : ∀ a b c : List Tm, Tm.rightL a = true → Tm.rightL b = true → Tm.rightL c = true → (ordL a b).2 = true → (ordL b c).2 = true → (ordL a c).2 = true → (ordL a b).1 < 0 → (ordL b c).1 < 0 → (ordL a c).1 < 0
  | [], _, _, _, _, _, _, _, _, h1, _ => by simp [ordL] at h1
  | _ :: _, [], _, _, _, _, _, _, _, h1, _ => by simp [ordL] at h1
  | _ :: _, _ :: _, [], _, _, _, _, _, _, _, h2 => by simp [ordL] at h2
  | x :: xs, y :: ys, z :: zs, ra, rb, rc, o1, o2, o3, h1, h2 => by
    have t1 := ordT_trans x y z
    have t2 := ordL_trans xs ys zs
    simp only [Tm.rightL, Bool.and_eq_true] at ra rb rc
    have key : ∀ {u v : Tm} {us vs : List Tm}, u.right = true → v.right = true → (ordL (u :: us) (v :: vs)).2 = true → (u = v ∧ ordL (u :: us) (v :: vs) = ordL us vs) ∨ ((ordT u v).2 = true ∧ (ordT u v).1 ≠ 0 ∧ ordL (u :: us) (v :: vs) = ordT u v) := by
      intro u v us vs ru rv h
      simp only [ordL] at h ⊢
      by_cases hc : (ordT u v).2 = false ∨ (ordT u v).1 ≠ 0
      · rw [if_pos hc] at h ⊢
        right
        refine ⟨h, ?_, rfl⟩
        rcases hc with hc | hc
        · rw [h] at hc; cases hc
        · exact hc
      · rw [if_neg hc] at h ⊢
        left
        refine ⟨ordT_zero u v ru rv ?_, rfl⟩
        simp only [not_or, Bool.not_eq_false, ne_eq, Decidable.not_not] at hc
        exact Prod.ext hc.2 hc.1
    rcases key ra.1 rb.1 o1 with ⟨e1, q1⟩ | ⟨p1, n1, q1⟩
    · subst e1
      rcases key rb.1 rc.1 o2 with ⟨e2, q2⟩ | ⟨p2, n2, q2⟩
      · subst e2
        rcases key ra.1 rc.1 o3 with ⟨_, q3⟩ | ⟨_, n3, _⟩
        · rw [q1] at h1 o1; rw [q2] at h2 o2; rw [q3] at o3 ⊢
          exact t2 ra.2 rb.2 rc.2 o1 o2 o3 h1 h2
        · rw [ordT_self] at n3; exact absurd rfl n3
      · rcases key ra.1 rc.1 o3 with ⟨e3, _⟩ | ⟨_, n3, q3⟩
        · subst e3; rw [ordT_self] at n2; exact absurd rfl n2
        · rw [q3]; rw [q2] at h2; exact h2
    · rcases key rb.1 rc.1 o2 with ⟨e2, q2⟩ | ⟨p2, n2, q2⟩
      · subst e2
        rcases key ra.1 rc.1 o3 with ⟨e3, _⟩ | ⟨_, n3, q3⟩
        · subst e3; rw [ordT_self] at n1; exact absurd rfl n1
        · rw [q3]; rw [q1] at h1; exact h1
      · rw [q1] at h1; rw [q2] at h2
        rcases key ra.1 rc.1 o3 with ⟨e3, _⟩ | ⟨p3, n3, q3⟩
        · subst e3
          have := ordT_anti x y
          rw [this] at h2; simp at h2; omega
        · rw [q3]; exact t1 ra.1 rb.1 rc.1 p1 p2 p3 h1 h2
end
/-- What may be sorted. -/
def Dom (l : List Tm) : Prop := (∀ a ∈ l, a.right = true) ∧ ∀ a ∈ l, ∀ b ∈ l, (ordT a b).2 = true
/-- Not behind. -/
def le (a b : Tm) : Prop := (ordT a b).1 ≤ 0
instance (a b : Tm) : Decidable (le a b) := inferInstanceAs (Decidable (_ ≤ _))
theorem le_refl (a : Tm) : le a a := by unfold le; rw [ordT_self]; exact Int.le_refl _
theorem le_total (a b : Tm) : le a b ∨ le b a := by unfold le; rw [ordT_anti a b]; simp only; omega
theorem le_anti {a b : Tm} (ra : a.right = true) (rb : b.right = true) (ho : (ordT a b).2 = true) (h1 : le a b) (h2 : le b a) : a = b := by
  unfold le at h1 h2
  rw [ordT_anti a b] at h2
  simp only at h2
  exact ordT_zero a b ra rb (Prod.ext (show (ordT a b).1 = 0 by omega) ho)
theorem le_trans' {a b c : Tm} (ra : a.right = true) (rb : b.right = true) (rc : c.right = true) (o1 : (ordT a b).2 = true) (o2 : (ordT b c).2 = true) (o3 : (ordT a c).2 = true) (h1 : le a b) (h2 : le b c) : le a c := by
  unfold le at *
  rcases Int.lt_or_eq_of_le h1 with h1 | h1
  · rcases Int.lt_or_eq_of_le h2 with h2 | h2
    · exact Int.le_of_lt (ordT_trans a b c ra rb rc o1 o2 o3 h1 h2)
    · have := ordT_zero b c rb rc (Prod.ext h2 o2); subst this; exact Int.le_of_lt h1
  · have := ordT_zero a b ra rb (Prod.ext h1 o1); subst this; exact h2
theorem Dom.le_trans {l : List Tm} (h : Dom l) {a b c : Tm} (ha : a ∈ l) (hb : b ∈ l) (hc : c ∈ l) (h1 : le a b) (h2 : le b c) : le a c :=
  le_trans' (h.1 a ha) (h.1 b hb) (h.1 c hc) (h.2 a ha b hb) (h.2 b hb c hc) (h.2 a ha c hc) h1 h2
theorem Dom.sub {l l' : List Tm} (h : Dom l) (hs : ∀ x ∈ l', x ∈ l) : Dom l' := ⟨fun a ha => h.1 a (hs a ha), fun a ha b hb => h.2 a (hs a ha) b (hs b hb)⟩
abbrev Sorted (l : List Tm) : Prop := l.Pairwise le
/-- Two orders of the same are one. -/
theorem sorted_unique : ∀ {l l' : List Tm}, Dom l → Sorted l → Sorted l' → l.Perm l' → l = l'
  | [], l', _, _, _, hp => (List.nil_perm.1 hp).symm ▸ rfl
  | x :: xs, [], _, _, _, hp => by simp at hp
  | x :: xs, y :: ys, hd, hs, hs', hp => by
    have hx : x ∈ y :: ys := hp.mem_iff.1 (List.mem_cons_self ..)
    have hy : y ∈ x :: xs := hp.mem_iff.2 (List.mem_cons_self ..)
    rw [Sorted, List.pairwise_cons] at hs hs'
    have hxy : x = y := by
      have h1 : le x y := by
        rcases List.mem_cons.1 hy with e | e
        · subst e; exact le_refl _
        · exact hs.1 y e
      have h2 : le y x := by
        rcases List.mem_cons.1 hx with e | e
        · subst e; exact le_refl _
        · exact hs'.1 x e
      have m := List.mem_cons_self (a := x) (l := xs)
      exact le_anti (hd.1 x m) (hd.1 y hy) (hd.2 x m y hy) h1 h2
    subst hxy
    rw [sorted_unique (hd.sub fun z hz => List.mem_cons_of_mem _ hz) hs.2 hs'.2 (List.perm_cons x |>.1 hp)]
/-- Put in its place. -/
def ins (x : Tm) : List Tm → List Tm
  | [] => [x]
  | y :: ys => if le x y then x :: y :: ys else y :: ins x ys
def sortT : List Tm → List Tm
  | [] => []
  | x :: xs => ins x (sortT xs)
theorem ins_perm (x : Tm) : ∀ l : List Tm, (ins x l).Perm (x :: l)
  | [] => .refl _
  | y :: ys => by
    unfold ins
    split
    · exact .refl _
    · exact ((ins_perm x ys).cons y).trans (List.Perm.swap ..)
theorem sort_perm : ∀ l : List Tm, (sortT l).Perm l
  | [] => .refl _
  | x :: xs => (ins_perm x _).trans ((sort_perm xs).cons x)
theorem ins_sorted {x : Tm} : ∀ {l : List Tm}, Dom (x :: l) → Sorted l → Sorted (ins x l)
  | [], _, _ => List.pairwise_singleton ..
  | y :: ys, hd, hs => by
    have hs0 := hs
    rw [Sorted, List.pairwise_cons] at hs
    unfold ins
    split
    · rename_i h
      refine List.pairwise_cons.2 ⟨fun z hz => ?_, hs0⟩
      rcases List.mem_cons.1 hz with rfl | hz'
      · exact h
      · exact hd.le_trans (List.mem_cons_self ..) (by simp) (by simp [hz']) h (hs.1 z hz')
    · rename_i h
      refine List.pairwise_cons.2 ⟨fun z hz => ?_, ins_sorted (hd.sub fun z hz => by rcases List.mem_cons.1 hz with rfl | h <;> simp [*]) hs.2⟩
      rcases List.mem_cons.1 ((ins_perm x ys).mem_iff.1 hz) with rfl | hz'
      · exact (le_total z y).resolve_left h
      · exact hs.1 z hz'
theorem sort_sorted : ∀ {l : List Tm}, Dom l → Sorted (sortT l)
  | [], _ => .nil
  | x :: xs, hd => by
    have h1 := sort_sorted (l := xs) (hd.sub fun z hz => List.mem_cons_of_mem _ hz)
    refine ins_sorted (hd.sub fun z hz => ?_) h1
    rcases List.mem_cons.1 hz with rfl | hz
    · simp
    · exact List.mem_cons_of_mem _ ((sort_perm xs).mem_iff.1 hz)
theorem sort_is {l l' : List Tm} (hd : Dom l) (hs : Sorted l') (hp : l'.Perm l) : l' = sortT l :=
  sorted_unique (hd.sub fun z hz => hp.mem_iff.1 hz) hs (sort_sorted hd) (hp.trans (sort_perm l).symm)
theorem sort_len (l : List Tm) : (sortT l).length = l.length := (sort_perm l).length_eq
theorem Dom.sort {l : List Tm} (h : Dom l) : Dom (sortT l) := h.sub fun z hz => (sort_perm l).mem_iff.1 hz
end Go.Ab
end

section
namespace Go.Ab
theorem sort_congr {l l' : List Tm} (hd : Dom l) (hp : l.Perm l') : sortT l = sortT l' :=
  (sort_is (hd.sub fun z hz => hp.mem_iff.2 hz) (sort_sorted hd) ((sort_perm l).trans hp))
theorem sort_of_sorted {l : List Tm} (hd : Dom l) (hs : Sorted l) : sortT l = l := (sort_is hd hs (.refl _)).symm
theorem sort_append {X Y : List Tm} (hd : Dom (X ++ Y)) (h : ∀ x ∈ X, ∀ y ∈ Y, le x y) : sortT (X ++ Y) = sortT X ++ sortT Y := by
  symm
  refine sort_is hd ?_ ((sort_perm X).append (sort_perm Y))
  have dx : Dom X := hd.sub fun z hz => List.mem_append.2 (.inl hz)
  have dy : Dom Y := hd.sub fun z hz => List.mem_append.2 (.inr hz)
  exact List.pairwise_append.2 ⟨sort_sorted dx, sort_sorted dy, fun x hx y hy => h x ((sort_perm X).mem_iff.1 hx) y ((sort_perm Y).mem_iff.1 hy)⟩
/-- Insertion, from behind. -/
theorem insert_step {A B : List Tm} {x : Tm} {M : List Tm} (hd : Dom (M ++ [x])) (hs : A ++ B = sortT M) (h1 : ∀ y ∈ B.head?, le x y) (h2 : ∀ y ∈ A.getLast?, le y x) : A ++ x :: B = sortT (M ++ [x]) := by
  have hM : Dom M := hd.sub fun z hz => List.mem_append.2 (.inl hz)
  have hsort : Sorted (A ++ B) := hs ▸ sort_sorted hM
  have hperm : (A ++ B).Perm M := hs ▸ sort_perm M
  have hmem : ∀ z ∈ A ++ B, z ∈ M ++ [x] := fun z hz => List.mem_append.2 (.inl (hperm.mem_iff.1 hz))
  have hx : x ∈ M ++ [x] := by simp
  obtain ⟨sa, sb, sab⟩ := List.pairwise_append.1 hsort
  refine sort_is hd ?_ ?_
  · refine List.pairwise_append.2 ⟨sa, List.pairwise_cons.2 ⟨?_, sb⟩, ?_⟩
    · intro z hz
      cases B with
      | nil => cases hz
      | cons y ys =>
        have hy := h1 y rfl
        rcases List.mem_cons.1 hz with rfl | hz'
        · exact hy
        · exact hd.le_trans hx (hmem y (by simp)) (hmem z (by simp [hz'])) hy ((List.pairwise_cons.1 sb).1 z hz')
    · intro a ha z hz
      have hax : le a x := by
        rcases List.eq_nil_or_concat A with rfl | ⟨A', y, rfl⟩
        · cases ha
        · simp only [List.concat_eq_append] at *
          have hy := h2 y (by simp)
          rcases List.mem_append.1 ha with ha' | ha'
          · exact hd.le_trans (hmem a (by simp [ha'])) (hmem y (by simp)) hx ((List.pairwise_append.1 sa).2.2 a ha' y (by simp)) hy
          · simp at ha'; subst ha'; exact hy
      rcases List.mem_cons.1 hz with rfl | hz'
      · exact hax
      · exact sab a ha z hz'
  · refine List.Perm.trans List.perm_middle ?_
    exact ((hperm.cons x)).trans (List.perm_append_comm (l₁ := [x]) (l₂ := M))
/-- Two sorted ones, each cut in two. -/
theorem merge_step {A1 A2 B1 B2 : List Tm} (hd : Dom (A1 ++ A2 ++ (B1 ++ B2))) (sa : Sorted (A1 ++ A2)) (sb : Sorted (B1 ++ B2))
    (h1 : ∀ x ∈ A1.getLast?, ∀ y ∈ B2.head?, le x y) (h2 : ∀ x ∈ B1.getLast?, ∀ y ∈ A2.head?, le x y) :
    sortT (A1 ++ A2 ++ (B1 ++ B2)) = sortT (A1 ++ B1) ++ sortT (A2 ++ B2) := by
  have hp : (A1 ++ A2 ++ (B1 ++ B2)).Perm (A1 ++ B1 ++ (A2 ++ B2)) := by
    have : (A2 ++ (B1 ++ B2)).Perm (B1 ++ (A2 ++ B2)) := by
      rw [← List.append_assoc, ← List.append_assoc]
      exact (List.perm_append_comm (l₁ := A2) (l₂ := B1)).append_right B2
    rw [List.append_assoc, List.append_assoc]
    exact this.append_left A1
  rw [sort_congr hd hp]
  have hd' : Dom (A1 ++ B1 ++ (A2 ++ B2)) := hd.sub fun z hz => hp.mem_iff.2 hz
  have m1 : ∀ z ∈ A1, z ∈ A1 ++ B1 ++ (A2 ++ B2) := fun z hz => by simp [hz]
  have m2 : ∀ z ∈ A2, z ∈ A1 ++ B1 ++ (A2 ++ B2) := fun z hz => by simp [hz]
  have m3 : ∀ z ∈ B1, z ∈ A1 ++ B1 ++ (A2 ++ B2) := fun z hz => by simp [hz]
  have m4 : ∀ z ∈ B2, z ∈ A1 ++ B1 ++ (A2 ++ B2) := fun z hz => by simp [hz]
  obtain ⟨a1, a2, a3⟩ := List.pairwise_append.1 sa
  obtain ⟨b1, b2, b3⟩ := List.pairwise_append.1 sb
  have cross : ∀ {X Y : List Tm}, Sorted X → Sorted Y → (∀ z ∈ X, z ∈ A1 ++ B1 ++ (A2 ++ B2)) → (∀ z ∈ Y, z ∈ A1 ++ B1 ++ (A2 ++ B2)) → (∀ x ∈ X.getLast?, ∀ y ∈ Y.head?, le x y) → ∀ x ∈ X, ∀ y ∈ Y, le x y := by
    intro X Y sx sy mx my h x hx y hy
    rcases List.eq_nil_or_concat X with rfl | ⟨X', u, rfl⟩
    · cases hx
    cases Y with
    | nil => cases hy
    | cons v Y' =>
    simp only [List.concat_eq_append] at *
    have huv := h u (by simp) v rfl
    have hxu : le x u := by
      rcases List.mem_append.1 hx with hx' | hx'
      · exact (List.pairwise_append.1 sx).2.2 x hx' u (by simp)
      · simp at hx'; subst hx'; exact le_refl _
    have hvy : le v y := by
      rcases List.mem_cons.1 hy with rfl | hy'
      · exact le_refl _
      · exact (List.pairwise_cons.1 sy).1 y hy'
    exact hd'.le_trans (mx x hx) (mx u (by simp)) (my y hy) hxu (hd'.le_trans (mx u (by simp)) (my v (by simp)) (my y hy) huv hvy)
  refine sort_append hd' fun x hx y hy => ?_
  rcases List.mem_append.1 hx with hx | hx <;> rcases List.mem_append.1 hy with hy | hy
  · exact a3 x hx y hy
  · exact cross a1 b2 m1 m4 h1 x hx y hy
  · exact cross b1 a2 m3 m2 h2 x hx y hy
  · exact b3 x hx y hy
/-- Each once. -/
def dd : List Tm → List Tm → List Tm
  | out, [] => out
  | out, x :: xs => match out.getLast? with
    | some y => if (ordT y x).1 = 0 then dd out xs else dd (out ++ [x]) xs
    | none => dd [x] xs
def mergeT (l : List Tm) : List Tm := dd [] (sortT l)
theorem dd_append (x y : List Tm) : ∀ out, dd out (x ++ y) = dd (dd out x) y := by
  induction x with
  | nil => intro out; rfl
  | cons z x ih =>
    intro out
    simp only [List.cons_append, dd]
    split
    · split <;> exact ih _
    · exact ih _
end Go.Ab
end

section
namespace Go.Ab
theorem Tm.cellsL_set (e : Nat) (L : List Tm) (i : Nat) (t : Tm) : (Tm.cellsL e L).set i (t.cells e) = Tm.cellsL e (L.set i t) := by simp [Tm.cellsL_map, List.map_set]
theorem Tm.cellsL_take (e : Nat) (L : List Tm) (i : Nat) : (Tm.cellsL e L).take i = Tm.cellsL e (L.take i) := by simp [Tm.cellsL_map, List.map_take]
theorem Tm.cellsL_drop (e : Nat) (L : List Tm) (i : Nat) : (Tm.cellsL e L).drop i = Tm.cellsL e (L.drop i) := by simp [Tm.cellsL_map, List.map_drop]
section
variable {α : Type}
theorem set_mid {A B : List α} {x y : α} {k : Nat} (h : k = A.length) : (A ++ x :: B).set k y = A ++ y :: B := by subst h; simp
theorem get_mid {A B : List α} {x : α} {k : Nat} (h : k = A.length) (hk : k < (A ++ x :: B).length) : (A ++ x :: B)[k] = x := by subst h; simp
/-- From a on, up to b. -/
def seg (L : List α) (a b : Nat) : List α := (L.take b).drop a
theorem seg_len {L : List α} {a b : Nat} (h : b ≤ L.length) : (seg L a b).length = b - a := by simp [seg]; omega
theorem seg_get {L : List α} {a b i : Nat} (h : i < (seg L a b).length) : (seg L a b)[i] = L[a + i]'(by simp [seg] at h; omega) := by simp [seg]
theorem seg_nil {L : List α} {a b : Nat} (h : b ≤ a) : seg L a b = [] := by simp [seg]; omega
theorem seg_app {L : List α} {a b c : Nat} (h1 : a ≤ b) (h2 : b ≤ c) (h3 : c ≤ L.length) : seg L a b ++ seg L b c = seg L a c := by
  refine List.ext_getElem (by simp [seg]; omega) fun i h4 h5 => ?_
  rw [List.getElem_append]
  split
  · rw [seg_get, seg_get]
  · rename_i h6
    rw [seg_get, seg_get]
    simp [seg] at h6
    congr 1
    simp [seg]; omega
theorem seg_all {L : List α} {a b : Nat} (h1 : a ≤ b) (h2 : b ≤ L.length) : L.take a ++ (seg L a b ++ L.drop b) = L := by
  have e0 : L.take a = seg L 0 a := by simp [seg]
  have e1 : L.drop b = seg L b L.length := by simp [seg]
  rw [e0, e1, seg_app h1 h2 (Nat.le_refl _), seg_app (Nat.zero_le _) (by omega) (Nat.le_refl _)]
  simp [seg]
theorem seg_head {L : List α} {a b : Nat} (h1 : a < b) (h2 : b ≤ L.length) : (seg L a b).head? = some (L[a]'(by omega)) := by
  rw [List.head?_eq_getElem?, List.getElem?_eq_getElem (by rw [seg_len h2]; omega), seg_get]; simp
theorem seg_last {L : List α} {a b : Nat} (h1 : a < b) (h2 : b ≤ L.length) : (seg L a b).getLast? = some (L[b - 1]'(by omega)) := by
  rw [List.getLast?_eq_getElem?, seg_len h2, List.getElem?_eq_getElem (by rw [seg_len h2]; omega), seg_get]
  congr 2; omega
/-- Of a list in three parts. -/
theorem seg_of {P M S : List α} {a b : Nat} (h1 : a = P.length) (h2 : b = a + M.length) : seg (P ++ (M ++ S)) a b = M ∧ (P ++ (M ++ S)).take a = P ∧ (P ++ (M ++ S)).drop b = S := by
  subst h1 h2
  refine ⟨?_, by simp, ?_⟩
  · unfold seg
    rw [← List.append_assoc, List.take_left' (by simp)]; simp
  · rw [← List.append_assoc, List.drop_left' (by simp)]
end
end Go.Ab
end

section
namespace Go.Ab
/-- Two sorted ones, cut where the search ended. -/
theorem sym_core {A B : List Tm} (hd : Dom (A ++ B)) (sa : Sorted A) (sb : Sorted B) {p q : Nat} (hp : p ≤ A.length) (hq : q ≤ B.length)
    (h1 : ∀ (_ : 0 < p) (h : q < B.length), le (A[p - 1]'(by omega)) B[q]) (h2 : ∀ (_ : 0 < q) (h : p < A.length), le (B[q - 1]'(by omega)) A[p]) :
    sortT (A ++ B) = sortT (A.take p ++ B.take q) ++ sortT (A.drop p ++ B.drop q) := by
  have ea : A.take p ++ A.drop p = A := List.take_append_drop ..
  have eb : B.take q ++ B.drop q = B := List.take_append_drop ..
  have := merge_step (A1 := A.take p) (A2 := A.drop p) (B1 := B.take q) (B2 := B.drop q) (by rw [ea, eb]; exact hd) (by rw [ea]; exact sa) (by rw [eb]; exact sb) ?_ ?_
  · rw [ea, eb] at this; exact this
  · intro x hx y hy
    have lx : (A.take p).length = p := by simp; omega
    rw [List.getLast?_eq_getElem?, lx] at hx
    rw [List.head?_eq_getElem?] at hy
    have hp0 : 0 < p := by
      rcases Nat.eq_zero_or_pos p with h0 | h0
      · subst h0; simp at hx
      · exact h0
    have hq0 : q < B.length := by
      rcases Nat.lt_or_ge q B.length with h0 | h0
      · exact h0
      · rw [List.drop_of_length_le h0] at hy; simp at hy
    rw [List.getElem?_take_of_lt (by omega), List.getElem?_eq_getElem (by omega)] at hx
    rw [List.getElem?_drop, Nat.add_zero, List.getElem?_eq_getElem hq0] at hy
    cases hx; cases hy
    exact h1 hp0 hq0
  · intro x hx y hy
    have lx : (B.take q).length = q := by simp; omega
    rw [List.getLast?_eq_getElem?, lx] at hx
    rw [List.head?_eq_getElem?] at hy
    have hp0 : 0 < q := by
      rcases Nat.eq_zero_or_pos q with h0 | h0
      · subst h0; simp at hx
      · exact h0
    have hq0 : p < A.length := by
      rcases Nat.lt_or_ge p A.length with h0 | h0
      · exact h0
      · rw [List.drop_of_length_le h0] at hy; simp at hy
    rw [List.getElem?_take_of_lt (by omega), List.getElem?_eq_getElem (by omega)] at hx
    rw [List.getElem?_drop, Nat.add_zero, List.getElem?_eq_getElem hq0] at hy
    cases hx; cases hy
    exact h2 hp0 hq0
/-- One put among sorted ones. -/
theorem one_core {B : List Tm} {x : Tm} (hd : Dom (B ++ [x])) (sb : Sorted B) {q : Nat} (hq : q ≤ B.length)
    (h1 : ∀ (h : q < B.length), le x B[q]) (h2 : ∀ (_ : 0 < q), le (B[q - 1]'(by omega)) x) : B.take q ++ x :: B.drop q = sortT (B ++ [x]) := by
  have hB : Dom B := hd.sub fun z hz => List.mem_append.2 (.inl hz)
  refine insert_step hd (by rw [List.take_append_drop]; exact (sort_of_sorted hB sb).symm) ?_ ?_
  · intro y hy
    rw [List.head?_eq_getElem?] at hy
    have hq0 : q < B.length := by
      rcases Nat.lt_or_ge q B.length with h0 | h0
      · exact h0
      · rw [List.drop_of_length_le h0] at hy; simp at hy
    rw [List.getElem?_drop, Nat.add_zero, List.getElem?_eq_getElem hq0] at hy
    cases hy
    exact h1 hq0
  · intro y hy
    have lx : (B.take q).length = q := by simp; omega
    rw [List.getLast?_eq_getElem?, lx] at hy
    have hp0 : 0 < q := by
      rcases Nat.eq_zero_or_pos q with h0 | h0
      · subst h0; simp at hy
      · exact h0
    rw [List.getElem?_take_of_lt (by omega), List.getElem?_eq_getElem (by omega)] at hy
    cases hy
    exact h2 hp0
/-- A block. -/
def blk (L : List Tm) (bs i : Nat) : List Tm := (L.drop (i * bs)).take bs
theorem Dom.perm {l l' : List Tm} (h : Dom l) (hp : l'.Perm l) : Dom l' := h.sub fun z hz => hp.mem_iff.1 hz
theorem sorted_one (x : Tm) : Sorted [x] := List.pairwise_singleton ..
theorem sorted_of_sort {l : List Tm} (hd : Dom l) (h : sortT l = l) : Sorted l := h ▸ sort_sorted hd
end Go.Ab
end

section
namespace Go.Ab
/-- Sorted blocks of one length. -/
inductive FB (bs : Nat) : List Tm → Prop where
  | nil : FB bs []
  | snoc (X h : List Tm) : FB bs X → h.length = bs → Sorted h → FB bs (X ++ h)
/-- .. and a shorter one behind them. -/
inductive SB (bs : Nat) : List Tm → Prop where
  | last (t : List Tm) : t.length ≤ bs → Sorted t → SB bs t
  | cons (h t : List Tm) : h.length = bs → Sorted h → SB bs t → SB bs (h ++ t)
theorem FB.app {bs : Nat} {X : List Tm} (h : FB bs X) : ∀ {t : List Tm}, SB bs t → SB bs (X ++ t) := by
  induction h with
  | nil => intro t ht; exact ht
  | snoc X h _ h1 h2 ih => intro t ht; rw [List.append_assoc]; exact ih (.cons _ _ h1 h2 ht)
theorem SB.front {bs : Nat} {R : List Tm} (h : SB bs R) (hl : bs ≤ R.length) : ∃ h R', R = h ++ R' ∧ h.length = bs ∧ Sorted h ∧ SB bs R' := by
  cases h with
  | last _ h1 h2 => exact ⟨R, [], by simp, by omega, h2, .last _ (by simp) List.Pairwise.nil⟩
  | cons h t h1 h2 h3 => exact ⟨h, t, rfl, h1, h2, h3⟩
theorem SB.short {bs : Nat} {R : List Tm} (h : SB bs R) (hl : R.length ≤ bs) : Sorted R := by
  cases h with
  | last _ h1 h2 => exact h2
  | cons h t h1 h2 h3 =>
    have : t = [] := List.length_eq_zero_iff.1 (by simp at hl; omega)
    rw [this, List.append_nil]; exact h2
theorem SB.nil (bs : Nat) : SB bs [] := .last _ (by simp) List.Pairwise.nil
end Go.Ab
end

section
namespace Go.Ab
theorem Dom.eqv {l : List Tm} (hd : Dom l) {a b : Tm} (ha : a ∈ l) (hb : b ∈ l) : (ordT a b).1 = 0 ↔ a = b :=
  ⟨fun h => ordT_zero a b (hd.1 _ ha) (hd.1 _ hb) (Prod.ext h (hd.2 _ ha _ hb)), fun h => by rw [h, ordT_self]⟩
theorem dd_one {D : List Tm} {x y : Tm} (h : D.getLast? = some x) : dd D [y] = if (ordT x y).1 = 0 then D else D ++ [y] := by
  simp [dd, h]
theorem dd_take {l : List Tm} {k : Nat} (hk : k < l.length) : dd [] (l.take (k + 1)) = dd (dd [] (l.take k)) [l[k]] := by
  rw [List.take_add_one, List.getElem?_eq_getElem hk, Option.toList, dd_append]
theorem last_take {l : List Tm} {k : Nat} (hk : k < l.length) : (l.take (k + 1)).getLast? = some l[k] := by
  rw [List.take_add_one, List.getElem?_eq_getElem hk]; simp [-List.take_append_getElem]
theorem ordT_zero_comm (a b : Tm) : (ordT b a).1 = 0 ↔ (ordT a b).1 = 0 := by
  rw [ordT_anti a b]; simp only; omega
theorem mergeT_sub (l : List Tm) : ∀ out, ∀ z ∈ dd out l, z ∈ out ∨ z ∈ l := by
  induction l with
  | nil => intro out z h; exact .inl h
  | cons x xs ih =>
    intro out z h
    simp only [dd] at h
    split at h
    · split at h
      · rcases ih _ z h with h | h
        · exact .inl h
        · exact .inr (List.mem_cons_of_mem _ h)
      · rcases ih _ z h with h | h
        · rcases List.mem_append.1 h with h | h
          · exact .inl h
          · simp at h; subst h; exact .inr (List.mem_cons_self ..)
        · exact .inr (List.mem_cons_of_mem _ h)
    · rcases ih _ z h with h | h
      · simp at h; subst h; exact .inr (List.mem_cons_self ..)
      · exact .inr (List.mem_cons_of_mem _ h)
theorem dd_len (l : List Tm) : ∀ out, (dd out l).length ≤ out.length + l.length := by
  induction l with
  | nil => intro out; simp [dd]
  | cons x xs ih =>
    intro out
    simp only [dd, List.length_cons]
    split
    · split
      · have := ih out; omega
      · have := ih (out ++ [x]); simp at this; omega
    · have := ih [x]; simp at this; omega
end Go.Ab
end

section
namespace Go.Ab
theorem threeI_range (a b : Int) : -1 ≤ threeI a b ∧ threeI a b ≤ 1 := by unfold threeI; split <;> (try split) <;> omega
theorem nameC_range (a b : ByteArray) : -1 ≤ nameC a b ∧ nameC a b ≤ 1 := by unfold nameC; split <;> (try split) <;> omega
mutual
theorem ordT_range : ∀ a b : Tm, -1 ≤ (ordT a b).1 ∧ (ordT a b).1 ≤ 1
  | .mk k n s l, .mk k' n' s' l' => by
    unfold ordT
    have h := ordL_range l l'
    have h1 := threeI_range k k'
    have h2 := threeI_range n n'
    have h3 := threeI_range l.length l'.length
    have h4 := nameC_range s s'
    (repeat' split) <;> first | assumption | (simp only; omega)
theorem ordL_range : ∀ a b : List Tm, -1 ≤ (ordL a b).1 ∧ (ordL a b).1 ≤ 1
  | x :: xs, y :: ys => by
    unfold ordL
    have h := ordT_range x y
    have h2 := ordL_range xs ys
    split <;> assumption
  | [], _ => by unfold ordL; simp
  | _ :: _, [] => by unfold ordL; simp
end
end Go.Ab
end

section
namespace Go.Ab
/-- What dd keeps of sorted ones: each once, in order. -/
theorem dd_props {U : List Tm} (hD : Dom U) : ∀ (s out : List Tm), (∀ z ∈ out ++ s, z ∈ U) → Sorted (out ++ s) → out.Nodup →
    Sorted (dd out s) ∧ (dd out s).Nodup ∧ ∀ z, z ∈ dd out s ↔ z ∈ out ∨ z ∈ s
  | [], out, _, hs, hn => by
    simp only [dd]
    exact ⟨by simpa using hs, hn, by simp⟩
  | x :: xs, out, hU, hs, hn => by
    rcases List.eq_nil_or_concat out with rfl | ⟨out', y, rfl⟩
    · simp only [dd, List.getLast?_nil]
      have ih := dd_props hD xs [x] (fun z hz => hU z (by simpa using hz)) (by simpa using hs) (by simp)
      refine ⟨ih.1, ih.2.1, fun z => ?_⟩
      rw [ih.2.2]; simp
    · rw [List.concat_eq_append] at *
      have hyU : y ∈ U := hU y (by simp)
      have hxU : x ∈ U := hU x (by simp)
      have hyx : le y x := (List.pairwise_append.1 hs).2.2 y (by simp) x (by simp)
      simp only [dd, List.getLast?_append, List.getLast?_singleton, Option.some_or]
      by_cases h : (ordT y x).1 = 0
      · rw [if_pos h]
        have e := (hD.eqv hyU hxU).1 h
        subst e
        have ih := dd_props hD xs (out' ++ [y]) (fun z hz => hU z (by
          rcases List.mem_append.1 hz with h | h
          · exact List.mem_append.2 (.inl h)
          · exact List.mem_append.2 (.inr (List.mem_cons_of_mem _ h)))) (hs.sublist (List.Sublist.append_left (List.sublist_cons_self ..) _)) hn
        refine ⟨ih.1, ih.2.1, fun z => ?_⟩
        rw [ih.2.2]
        simp only [List.mem_append, List.mem_cons]
        constructor
        · rintro (h | h)
          · exact .inl h
          · exact .inr (.inr h)
        · rintro (h | h | h)
          · exact .inl h
          · exact .inl (.inr (.inl h))
          · exact .inr h
      · rw [if_neg h]
        have hx : x ∉ out' ++ [y] := fun hx => by
          rcases List.mem_append.1 hx with h1 | h1
          · have hxy : le x y := (List.pairwise_append.1 (List.pairwise_append.1 hs).1).2.2 x h1 y (by simp)
            have := le_anti (hD.1 _ hxU) (hD.1 _ hyU) (hD.2 _ hxU _ hyU) hxy hyx
            exact h (by rw [this, ordT_self])
          · simp at h1
            exact h (by rw [h1, ordT_self])
        have ih := dd_props hD xs (out' ++ [y] ++ [x]) (fun z hz => hU z (by simpa using hz)) (by simpa using hs) (by
          rw [List.nodup_append]
          refine ⟨hn, by simp, fun a ha b hb => ?_⟩
          simp at hb; subst hb
          exact fun h9 => hx (h9 ▸ ha))
        refine ⟨ih.1, ih.2.1, fun z => ?_⟩
        rw [ih.2.2]
        simp only [List.mem_append, List.mem_cons, List.not_mem_nil, or_false, or_assoc]
theorem mergeT_props {l : List Tm} (hD : Dom l) : Sorted (mergeT l) ∧ (mergeT l).Nodup ∧ ∀ z, z ∈ mergeT l ↔ z ∈ l := by
  have h := dd_props (U := l) hD (sortT l) [] (fun z hz => by simpa using (sort_perm l).mem_iff.1 (by simpa using hz)) (by simpa using sort_sorted hD) (by simp)
  refine ⟨h.1, h.2.1, fun z => ?_⟩
  unfold mergeT
  rw [h.2.2, (sort_perm l).mem_iff]; simp
/-- Twice the same ones merge as once. -/
theorem mergeT_same {l l' : List Tm} (hD : Dom l) (hm : ∀ z, z ∈ l ↔ z ∈ l') : mergeT l = mergeT l' := by
  have hD' : Dom l' := hD.sub fun z hz => (hm z).2 hz
  obtain ⟨a1, a2, a3⟩ := mergeT_props hD
  obtain ⟨b1, b2, b3⟩ := mergeT_props hD'
  refine sorted_unique (hD.sub fun z hz => (a3 z).1 hz) a1 b1 ?_
  rw [List.perm_ext_iff_of_nodup a2 b2]
  intro z
  rw [a3, b3, hm]
end Go.Ab
end
