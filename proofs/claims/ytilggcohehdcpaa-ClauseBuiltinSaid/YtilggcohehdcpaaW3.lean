/- Terms as trees: their size, depth, variables, what they are with others in the places of variables, what they come to: plain laws, no condition. -/
import Derived.Test.YtilggcohehdcpaaW2
set_option linter.unusedSimpArgs false
set_option linter.unusedVariables false
set_option linter.unusedSectionVars false
set_option linter.unnecessarySimpa false
section
namespace Go.Ab

/-- Terms, as trees. -/
inductive Tm where
  | mk (k n : Int) (s : ByteArray) (l : List Tm)

mutual
theorem Tm.ind {p : Tm → Prop} (h : ∀ k n s l, (∀ t ∈ l, p t) → p (.mk k n s l)) : ∀ t, p t
  | .mk k n s l => h k n s l (Tm.indL h l)
theorem Tm.indL {p : Tm → Prop} (h : ∀ k n s l, (∀ t ∈ l, p t) → p (.mk k n s l)) : ∀ l : List Tm, ∀ t ∈ l, p t
  | [] => fun _ ht => by cases ht
  | x :: xs => fun t ht => (List.mem_cons.1 ht).elim (fun e => e ▸ Tm.ind h x) (Tm.indL h xs t)
end

mutual
def Tm.ex : Tm → Tm → Bool
  | .mk k n s l, .mk k' n' s' l' => decide (k = k') && decide (n = n') && decide (s = s') && Tm.exL l l'
def Tm.exL : List Tm → List Tm → Bool
  | [], [] => true
  | x :: xs, y :: ys => Tm.ex x y && Tm.exL xs ys
  | _, _ => false
end
mutual
theorem Tm.ex_iff : ∀ a b : Tm, a.ex b = true ↔ a = b
  | .mk k n s l, .mk k' n' s' l' => by
    simp only [Tm.ex, Bool.and_eq_true, decide_eq_true_eq, Tm.mk.injEq, Tm.exL_iff l l', and_assoc]
theorem Tm.exL_iff : ∀ a b : List Tm, Tm.exL a b = true ↔ a = b
  | [], [] => by simp [Tm.exL]
  | x :: xs, y :: ys => by simp only [Tm.exL, Bool.and_eq_true, Tm.ex_iff x y, Tm.exL_iff xs ys, List.cons.injEq]
  | [], _ :: _ => by simp [Tm.exL]
  | _ :: _, [] => by simp [Tm.exL]
end
instance : DecidableEq Tm := fun a b => decidable_of_iff _ (Tm.ex_iff a b)

mutual
/-- A term's four cells; e: the type's number. -/
def Tm.cells (e : Nat) : Tm → List AV
  | .mk k n s l => [.sc (.int .i64 k), .sc (.int .i64 n), .sc (.string s), .lst e (Tm.cellsL e l)]
def Tm.cellsL (e : Nat) : List Tm → List (List AV)
  | [] => []
  | t :: ts => Tm.cells e t :: Tm.cellsL e ts
end
theorem Tm.cellsL_map (e : Nat) : ∀ l : List Tm, Tm.cellsL e l = l.map (Tm.cells e)
  | [] => rfl
  | t :: ts => by simp only [Tm.cellsL, List.map_cons, Tm.cellsL_map e ts]
@[simp] theorem Tm.cellsL_len (e : Nat) (l : List Tm) : (Tm.cellsL e l).length = l.length := by simp [Tm.cellsL_map]
@[simp] theorem Tm.cellsL_nil (e : Nat) (l : List Tm) : Tm.cellsL e l = [] ↔ l = [] := by simp [Tm.cellsL_map]
@[simp] theorem Tm.cells_len (e : Nat) : ∀ t : Tm, (t.cells e).length = 4
  | .mk _ _ _ _ => rfl
@[simp] theorem Tm.cellsL_get (e : Nat) (l : List Tm) (i : Nat) : (Tm.cellsL e l)[i]? = (l[i]?).map (Tm.cells e) := by simp [Tm.cellsL_map]
@[simp] theorem Tm.cellsL_getElem (e : Nat) (l : List Tm) (i : Nat) (h : i < (Tm.cellsL e l).length) : (Tm.cellsL e l)[i] = (l[i]'(by simpa using h)).cells e := by simp [Tm.cellsL_map]
mutual
@[simp] theorem Tm.cells_pure (e : Nat) : ∀ t : Tm, AV.pureL (t.cells e) = true
  | .mk k n s l => by simp only [Tm.cells, AV.pureL, AV.pure, Tm.cellsL_pure e l]; rfl
@[simp] theorem Tm.cellsL_pure (e : Nat) : ∀ l : List Tm, AV.pureM (Tm.cellsL e l) = true
  | [] => rfl
  | t :: ts => by simp only [Tm.cellsL, AV.pureM, Tm.cells_pure e t, Tm.cellsL_pure e ts]; rfl
end
mutual
theorem frz_pure (st : St) : ∀ x : AV, x.pure = true → x.frz st = x
  | .own _ _, h => by cases h
  | .agg cs, h => by simp only [AV.pure] at h; simp only [AV.frz, frz_pureL st cs h]
  | .tup cs, h => by simp only [AV.pure] at h; simp only [AV.frz, frz_pureL st cs h]
  | .sc _, _ => rfl
  | .lst _ _, _ => rfl
  | .nils, _ => rfl
  | .ptr _ _, _ => rfl
  | .rptr _ _ _ _, _ => rfl
  | .sub _ _ _ _, _ => rfl
  | .eptr _, _ => rfl
  | .fn _ _ _, _ => rfl
  | .mp _, _ => rfl
  | .gate _ _, _ => rfl
  | .any, _ => rfl
theorem frz_pureL (st : St) : ∀ xs : List AV, AV.pureL xs = true → AV.frzL st xs = xs
  | [], _ => rfl
  | x :: xs, h => by
    simp only [AV.pureL, Bool.and_eq_true] at h
    simp only [AV.frzL, frz_pure st x h.1, frz_pureL st xs h.2]
end
mutual
theorem cut_pure (N : Nat) (S : St) : ∀ x : AV, x.pure = true → x.cut N S = x
  | .own _ _, h => by cases h
  | .ptr _ _, h => by cases h
  | .rptr _ _ _ _, h => by cases h
  | .sub _ _ _ _, h => by cases h
  | .mp _, h => by cases h
  | .agg cs, h => by simp only [AV.pure] at h; simp only [AV.cut, cut_pureL N S cs h]
  | .tup cs, h => by simp only [AV.pure] at h; simp only [AV.cut, cut_pureL N S cs h]
  | .lst e l, h => by simp only [AV.pure] at h; simp only [AV.cut, cut_pureM N S l h]
  | .eptr cs, h => by simp only [AV.pure] at h; simp only [AV.cut, cut_pureL N S cs h]
  | .fn f fs cs, h => by simp only [AV.pure, Bool.and_eq_true] at h; simp only [AV.cut, cut_pureL N S fs h.1, cut_pureL N S cs h.2]
  | .gate c x, h => by simp only [AV.pure] at h; simp only [AV.cut, cut_pure N S x h]; cases c <;> rfl
  | .sc _, _ => rfl
  | .nils, _ => rfl
  | .any, _ => rfl
theorem cut_pureL (N : Nat) (S : St) : ∀ xs : List AV, AV.pureL xs = true → AV.cutL N S xs = xs
  | [], _ => rfl
  | x :: xs, h => by
    simp only [AV.pureL, Bool.and_eq_true] at h
    simp only [AV.cutL, cut_pure N S x h.1, cut_pureL N S xs h.2]
theorem cut_pureM (N : Nat) (S : St) : ∀ xs : List (List AV), AV.pureM xs = true → AV.cutM N S xs = xs
  | [], _ => rfl
  | x :: xs, h => by
    simp only [AV.pureM, Bool.and_eq_true] at h
    simp only [AV.cutM, cut_pureL N S x h.1, cut_pureM N S xs h.2]
end
@[simp] theorem Tm.frz_cells (e : Nat) (t : Tm) (st : St) : AV.frzL st (t.cells e) = t.cells e := frz_pureL st _ (by simp)
@[simp] theorem Tm.cut_cells (e : Nat) (t : Tm) (N : Nat) (st : St) : AV.cutL N st (t.cells e) = t.cells e := cut_pureL N st _ (by simp)
@[simp] theorem Tm.cut_cellsL (e : Nat) (l : List Tm) (N : Nat) (st : St) : AV.cutM N st (Tm.cellsL e l) = Tm.cellsL e l := cut_pureM N st _ (by simp)
/-- A term's value. -/
abbrev Tm.av (e : Nat) (t : Tm) : AV := .agg (t.cells e)

@[simp] theorem Tm.cells_take (e : Nat) (t : Tm) : (t.cells e).take 4 = t.cells e := by rw [List.take_of_length_le (by simp)]

end Go.Ab
end

section
namespace Go.Ab

/-- May a part be, its arguments not asked? -/
def partB (k n : Int) (s : ByteArray) (len : Nat) : Bool :=
  if k = 1 then decide (0 ≤ n) && decide (n < 1073741824) && decide (s = ⟨#[]⟩) && decide (len = 0)
  else if k = 2 then decide (-9007199254740991 ≤ n) && decide (n ≤ 9007199254740991) && decide (s = ⟨#[]⟩) && decide (len = 0)
  else if k = 3 then decide (n = 0) && decide ((s.size : Int) ≤ 64) && decide (len = 0)
  else if k = 4 then decide (n = 0) && decide ((s.size : Int) ≤ 64) && decide (1 ≤ (len : Int)) && decide ((len : Int) ≤ 16)
  else false

mutual
def Tm.size : Tm → Nat
  | .mk _ _ _ l => 1 + Tm.sizeL l
def Tm.sizeL : List Tm → Nat
  | [] => 0
  | t :: ts => Tm.size t + Tm.sizeL ts
end
mutual
def Tm.depth : Tm → Nat
  | .mk _ _ _ l => Tm.depthL l + 1
def Tm.depthL : List Tm → Nat
  | [] => 0
  | t :: ts => max (Tm.depth t) (Tm.depthL ts)
end
mutual
def Tm.right : Tm → Bool
  | .mk k n s l => partB k n s l.length && Tm.rightL l
def Tm.rightL : List Tm → Bool
  | [] => true
  | t :: ts => Tm.right t && Tm.rightL ts
end
theorem Tm.sizeL_append (a b : List Tm) : Tm.sizeL (a ++ b) = Tm.sizeL a + Tm.sizeL b := by
  induction a with
  | nil => simp [Tm.sizeL]
  | cons x xs ih => simp only [List.cons_append, Tm.sizeL, ih]; omega
theorem Tm.depthL_append (a b : List Tm) : Tm.depthL (a ++ b) = max (Tm.depthL a) (Tm.depthL b) := by
  induction a with
  | nil => simp [Tm.depthL]
  | cons x xs ih => simp only [List.cons_append, Tm.depthL, ih]; omega
theorem Tm.rightL_append (a b : List Tm) : Tm.rightL (a ++ b) = (Tm.rightL a && Tm.rightL b) := by
  induction a with
  | nil => simp [Tm.rightL]
  | cons x xs ih => simp only [List.cons_append, Tm.rightL, ih, Bool.and_assoc]
theorem Tm.take_succ {l : List Tm} {i : Nat} (h : i < l.length) : l.take (i + 1) = l.take i ++ [l[i]] := by
  rw [List.take_add_one]; simp [h]
theorem Tm.sizeL_take {l : List Tm} {i : Nat} (h : i < l.length) : Tm.sizeL (l.take (i + 1)) = Tm.sizeL (l.take i) + l[i].size := by
  rw [Tm.take_succ h, Tm.sizeL_append]; simp [Tm.sizeL]
theorem Tm.depthL_take {l : List Tm} {i : Nat} (h : i < l.length) : Tm.depthL (l.take (i + 1)) = max (Tm.depthL (l.take i)) l[i].depth := by
  rw [Tm.take_succ h, Tm.depthL_append]; simp [Tm.depthL]
theorem Tm.rightL_take {l : List Tm} {i : Nat} (h : i < l.length) : Tm.rightL (l.take (i + 1)) = (Tm.rightL (l.take i) && l[i].right) := by
  rw [Tm.take_succ h, Tm.rightL_append]; simp [Tm.rightL]
theorem Tm.sizeL_take_le (l : List Tm) (i : Nat) : Tm.sizeL (l.take i) ≤ Tm.sizeL l := by
  conv => rhs; rw [← List.take_append_drop i l, Tm.sizeL_append]
  omega
theorem Tm.depthL_take_le (l : List Tm) (i : Nat) : Tm.depthL (l.take i) ≤ Tm.depthL l := by
  conv => rhs; rw [← List.take_append_drop i l, Tm.depthL_append]
  omega
mutual
theorem Tm.depth_le_size : ∀ t : Tm, t.depth ≤ t.size
  | .mk _ _ _ l => by simp only [Tm.depth, Tm.size]; have := Tm.depthL_le_sizeL l; omega
theorem Tm.depthL_le_sizeL : ∀ l : List Tm, Tm.depthL l ≤ Tm.sizeL l
  | [] => by simp [Tm.depthL]
  | t :: ts => by simp only [Tm.depthL, Tm.sizeL]; have := Tm.depth_le_size t; have := Tm.depthL_le_sizeL ts; omega
end
theorem Tm.depth_pos : ∀ t : Tm, 1 ≤ t.depth
  | .mk _ _ _ l => by simp only [Tm.depth]; omega
theorem Tm.size_pos : ∀ t : Tm, 1 ≤ t.size
  | .mk _ _ _ l => by simp only [Tm.size]; omega
theorem Tm.size_get {l : List Tm} {i : Nat} (h : i < l.length) : Tm.sizeL (l.take i) + l[i].size ≤ Tm.sizeL l := by
  rw [← Tm.sizeL_take h]; exact Tm.sizeL_take_le l (i + 1)

/-- A term whose parts can be counted. -/
def Tm.small (t : Tm) : Prop := t.size ≤ 900000000
/-- What Check hands back. -/
def Tm.check (t : Tm) : Int := if t.right = false then 60 else if 200 < t.depth then 61 else if 4096 < t.size then 62 else 0
end Go.Ab
end

section
namespace Go.Ab
mutual
/-- Variables by others. -/
def Tm.sub (f : Int → Tm) : Tm → Tm
  | .mk k n s l => if k = 1 then f n else .mk k n s (Tm.subL f l)
def Tm.subL (f : Int → Tm) : List Tm → List Tm
  | [] => []
  | t :: ts => Tm.sub f t :: Tm.subL f ts
end
theorem Tm.subL_map (f : Int → Tm) : ∀ l : List Tm, Tm.subL f l = l.map (Tm.sub f)
  | [] => rfl
  | t :: ts => by simp only [Tm.subL, List.map_cons, Tm.subL_map f ts]
@[simp] theorem Tm.subL_len (f : Int → Tm) (l : List Tm) : (Tm.subL f l).length = l.length := by simp [Tm.subL_map]
theorem Tm.subL_take {l : List Tm} {i : Nat} (h : i < l.length) (f : Int → Tm) : Tm.subL f (l.take (i + 1)) = Tm.subL f (l.take i) ++ [l[i].sub f] := by rw [Tm.take_succ h, Tm.subL_map, Tm.subL_map, List.map_append]; rfl
@[simp] theorem Tm.cellsL_append (e : Nat) (a b : List Tm) : Tm.cellsL e (a ++ b) = Tm.cellsL e a ++ Tm.cellsL e b := by simp [Tm.cellsL_map]
mutual
/-- The variables' numbers, one for each place. -/
def Tm.occ : Tm → List Int
  | .mk k n _ l => if k = 1 then [n] else Tm.occL l
def Tm.occL : List Tm → List Int
  | [] => []
  | t :: ts => Tm.occ t ++ Tm.occL ts
end
theorem Tm.occ_mem {l : List Tm} {t : Tm} (h : t ∈ l) {n : Int} (hn : n ∈ t.occ) : n ∈ Tm.occL l := by
  induction l with
  | nil => cases h
  | cons x xs ih =>
    simp only [Tm.occL, List.mem_append]
    rcases List.mem_cons.1 h with rfl | h
    · exact .inl hn
    · exact .inr (ih h)
/-- Where the first one is. -/
def Tm.fi (p : Tm → Bool) : List Tm → Nat → Int
  | [], _ => -1
  | x :: xs, i => if p x = true then i else Tm.fi p xs (i + 1)
theorem Tm.fi_iff (p : Tm → Bool) : ∀ (l : List Tm) (i : Nat), 0 ≤ Tm.fi p l i ↔ l.any p = true
  | [], i => by simp [Tm.fi]
  | x :: xs, i => by
    simp only [Tm.fi, List.any_cons, Bool.or_eq_true]
    split
    · rename_i h; simp [h]
    · rename_i h; rw [Tm.fi_iff p xs (i + 1)]; simp [h]
/-- A variable. -/
def Tm.var (n : Int) : Tm := .mk 1 n ⟨#[]⟩ []
def Tm.zero : Tm := .mk 0 0 ⟨#[]⟩ []
theorem partB_one {n : Int} {s : ByteArray} {m : Nat} (h : partB 1 n s m = true) : 0 ≤ n ∧ n < 1073741824 ∧ s = ⟨#[]⟩ ∧ m = 0 := by
  simp [partB] at h; exact ⟨h.1.1.1, h.1.1.2, h.1.2, h.2⟩
mutual
theorem Tm.sub_var : ∀ t : Tm, t.right = true → t.sub Tm.var = t
  | .mk k n s l => by
    intro h
    simp only [Tm.right, Bool.and_eq_true] at h
    simp only [Tm.sub]
    split
    · rename_i hk
      subst hk
      obtain ⟨_, _, h3, h4⟩ := partB_one h.1
      rw [h3, List.eq_nil_of_length_eq_zero h4]; rfl
    · rw [Tm.subL_var l h.2]
theorem Tm.subL_var : ∀ l : List Tm, Tm.rightL l = true → Tm.subL Tm.var l = l
  | [] => fun _ => rfl
  | t :: ts => by
    intro h
    simp only [Tm.rightL, Bool.and_eq_true] at h
    simp only [Tm.subL, Tm.sub_var t h.1, Tm.subL_var ts h.2]
end
theorem Tm.right_of_check {t : Tm} (h : t.check = 0) : t.right = true := by
  unfold Tm.check at h
  by_cases hr : t.right = false
  · rw [if_pos hr] at h; cases h
  · simpa using hr
mutual
theorem Tm.occ_pos : ∀ t : Tm, t.right = true → ∀ n ∈ t.occ, 0 ≤ n ∧ n < 1073741824
  | .mk k n s l => by
    intro h m hm
    simp only [Tm.right, Bool.and_eq_true] at h
    simp only [Tm.occ] at hm
    split at hm
    · rename_i hk
      subst hk
      obtain ⟨h1, h2, _⟩ := partB_one h.1
      simp at hm; subst hm; exact ⟨h1, h2⟩
    · exact Tm.occL_pos l h.2 m hm
theorem Tm.occL_pos : ∀ l : List Tm, Tm.rightL l = true → ∀ n ∈ Tm.occL l, 0 ≤ n ∧ n < 1073741824
  | [] => fun _ n hn => by cases hn
  | t :: ts => by
    intro h n hn
    simp only [Tm.rightL, Bool.and_eq_true] at h
    simp only [Tm.occL, List.mem_append] at hn
    rcases hn with hn | hn
    · exact Tm.occ_pos t h.1 n hn
    · exact Tm.occL_pos ts h.2 n hn
end
/-- Put behind, once. -/
def addV (out : List Int) (n : Int) : List Int := if n ∈ out then out else out ++ [n]
mutual
def Tm.vars : Tm → List Int → List Int
  | .mk k n _ l, out => if k = 1 then addV out n else Tm.varsL l out
def Tm.varsL : List Tm → List Int → List Int
  | [], out => out
  | t :: ts, out => Tm.varsL ts (Tm.vars t out)
end
theorem Tm.varsL_append (a b : List Tm) (out : List Int) : Tm.varsL (a ++ b) out = Tm.varsL b (Tm.varsL a out) := by
  induction a generalizing out with
  | nil => rfl
  | cons x xs ih => simp only [List.cons_append, Tm.varsL, ih]
theorem Tm.varsL_take {l : List Tm} {i : Nat} (h : i < l.length) (out : List Int) : Tm.varsL (l.take (i + 1)) out = l[i].vars (Tm.varsL (l.take i) out) := by
  rw [Tm.take_succ h, Tm.varsL_append]; rfl
theorem addV_len (out : List Int) (n : Int) : (addV out n).length ≤ out.length + 1 := by unfold addV; split <;> simp
mutual
theorem Tm.vars_len : ∀ (t : Tm) (out : List Int), (t.vars out).length ≤ out.length + t.size
  | .mk k n s l, out => by
    simp only [Tm.vars, Tm.size]
    split
    · have := addV_len out n; omega
    · have := Tm.varsL_len l out; omega
theorem Tm.varsL_len : ∀ (l : List Tm) (out : List Int), (Tm.varsL l out).length ≤ out.length + Tm.sizeL l
  | [], out => by simp [Tm.varsL, Tm.sizeL]
  | t :: ts, out => by
    simp only [Tm.varsL, Tm.sizeL]
    have h1 := Tm.vars_len t out
    have h2 := Tm.varsL_len ts (t.vars out)
    omega
end
/-- Numbers, as a row's cells. -/
def intsL (l : List Int) : List (List AV) := l.map fun n => [.sc (.int .i64 n)]
@[simp] theorem intsL_len (l : List Int) : (intsL l).length = l.length := by simp [intsL]
@[simp] theorem intsL_nil (l : List Int) : intsL l = [] ↔ l = [] := by simp [intsL]
@[simp] theorem intsL_getElem (l : List Int) (i : Nat) (h : i < (intsL l).length) : (intsL l)[i] = [.sc (.int .i64 (l[i]'(by simpa using h)))] := by simp [intsL]
@[simp] theorem intsL_append (a b : List Int) : intsL (a ++ b) = intsL a ++ intsL b := by simp [intsL]
@[simp] theorem intsL_pure : ∀ l : List Int, AV.pureM (intsL l) = true
  | [] => rfl
  | x :: xs => by have := intsL_pure xs; unfold intsL at *; simp [AV.pureM, AV.pureL, AV.pure, this]
@[simp] theorem intsL_cut (l : List Int) (N : Nat) (st : St) : AV.cutM N st (intsL l) = intsL l := cut_pureM N st _ (by simp)
/-- Where a number is. -/
def placeI : List Int → Int → Nat → Int
  | [], _, _ => -1
  | x :: xs, n, i => if x = n then i else placeI xs n (i + 1)
/-- What a map from numbers to their places holds. -/
def mapOf : List Int → Nat → List (Value × AV)
  | [], _ => []
  | x :: xs, i => (.int .i64 x, .sc (.int .i64 i)) :: mapOf xs (i + 1)
@[simp] theorem mapOf_keys : ∀ (l : List Int) (i : Nat), intKeys (mapOf l i) = true
  | [], _ => rfl
  | x :: xs, i => by have := mapOf_keys xs (i + 1); simp only [intKeys, mapOf, List.all_cons, Bool.true_and] at this ⊢; exact this
theorem mapOf_get : ∀ (l : List Int) (n : Int) (i : Nat), mget (mapOf l i) n = if n ∈ l then some (.sc (.int .i64 (placeI l n i))) else none
  | [], n, i => by simp [mapOf, mget]
  | x :: xs, n, i => by
    have ih := mapOf_get xs n (i + 1)
    by_cases h : x = n
    · subst h; simp [mapOf, mget, isK, placeI]
    · have h' : ¬ n = x := fun e => h e.symm
      simp [mapOf, mget, isK, placeI, h, h', ih]
theorem mapOf_put : ∀ (l : List Int) (n : Int) (i : Nat), n ∉ l → mput (mapOf l i) n (.sc (.int .i64 (i + l.length : Nat))) = mapOf (l ++ [n]) i
  | [], n, i, _ => by simp [mapOf, mput]
  | x :: xs, n, i, h => by
    simp only [List.mem_cons, not_or] at h
    have h' : ¬ x = n := fun e => h.1 e.symm
    have ih := mapOf_put xs n (i + 1) h.2
    have e : i + (x :: xs).length = i + 1 + xs.length := by simp; omega
    rw [e]
    simp only [mapOf, mput, List.cons_append]
    rw [if_neg (by simp [isK, h']), ih]
theorem placeI_last : ∀ (l : List Int) (n : Int) (i : Nat), n ∉ l → placeI (l ++ [n]) n i = (i + l.length : Nat)
  | [], n, i, _ => by simp [placeI]
  | x :: xs, n, i, h => by
    simp only [List.mem_cons, not_or] at h
    have h' : ¬ x = n := fun e => h.1 e.symm
    simp only [List.cons_append, placeI, if_neg h']
    rw [placeI_last xs n (i + 1) h.2]
    simp; omega
end Go.Ab
end

section
namespace Go.Ab
mutual
theorem Tm.sub_congr (f g : Int → Tm) : ∀ t : Tm, (∀ n ∈ t.occ, f n = g n) → t.sub f = t.sub g
  | .mk k n s l => by
    intro h
    simp only [Tm.occ] at h
    simp only [Tm.sub]
    split
    · rename_i hk; rw [if_pos hk] at h; exact h n (by simp)
    · rename_i hk; rw [if_neg hk] at h; rw [Tm.subL_congr f g l h]
theorem Tm.subL_congr (f g : Int → Tm) : ∀ l : List Tm, (∀ n ∈ Tm.occL l, f n = g n) → Tm.subL f l = Tm.subL g l
  | [] => fun _ => rfl
  | t :: ts => by
    intro h
    simp only [Tm.occL, List.mem_append] at h
    simp only [Tm.subL, Tm.sub_congr f g t (fun n hn => h n (.inl hn)), Tm.subL_congr f g ts (fun n hn => h n (.inr hn))]
end
theorem addV_pre (L : List Int) (n : Int) : ∃ B, addV L n = L ++ B := by
  unfold addV; split
  · exact ⟨[], by simp⟩
  · exact ⟨[n], rfl⟩
theorem mem_addV (L : List Int) (n m : Int) : m ∈ addV L n ↔ m ∈ L ∨ m = n := by
  unfold addV; split
  · rename_i h; constructor
    · exact .inl
    · rintro (h' | rfl)
      · exact h'
      · exact h
  · simp
mutual
theorem Tm.vars_pre : ∀ (t : Tm) (L : List Int), ∃ B, t.vars L = L ++ B
  | .mk k n s l, L => by
    simp only [Tm.vars]
    split
    · exact addV_pre L n
    · exact Tm.varsL_pre l L
theorem Tm.varsL_pre : ∀ (l : List Tm) (L : List Int), ∃ B, Tm.varsL l L = L ++ B
  | [], L => ⟨[], by simp [Tm.varsL]⟩
  | t :: ts, L => by
    obtain ⟨B, hB⟩ := Tm.vars_pre t L
    obtain ⟨C, hC⟩ := Tm.varsL_pre ts (L ++ B)
    exact ⟨B ++ C, by rw [Tm.varsL, hB, hC, List.append_assoc]⟩
end
mutual
theorem Tm.mem_vars : ∀ (t : Tm) (L : List Int) (m : Int), m ∈ t.vars L ↔ m ∈ L ∨ m ∈ t.occ
  | .mk k n s l, L, m => by
    simp only [Tm.vars, Tm.occ]
    split
    · rw [mem_addV]; simp
    · exact Tm.mem_varsL l L m
theorem Tm.mem_varsL : ∀ (l : List Tm) (L : List Int) (m : Int), m ∈ Tm.varsL l L ↔ m ∈ L ∨ m ∈ Tm.occL l
  | [], L, m => by simp [Tm.varsL, Tm.occL]
  | t :: ts, L, m => by
    rw [Tm.varsL, Tm.mem_varsL ts, Tm.mem_vars t, Tm.occL, List.mem_append, or_assoc]
end
theorem placeI_pre : ∀ (A B : List Int) (n : Int) (i : Nat), n ∈ A → placeI (A ++ B) n i = placeI A n i
  | [], _, _, _, h => by cases h
  | x :: xs, B, n, i, h => by
    simp only [List.cons_append, placeI]
    split
    · rfl
    · rename_i hx
      rcases List.mem_cons.1 h with rfl | h
      · exact absurd rfl hx
      · exact placeI_pre xs B n (i + 1) h
/-- A term whose variables are numbered by their places. -/
def numT (W : List Int) (t : Tm) : Tm := t.sub fun n => Tm.var (placeI W n 0)
theorem numT_vars {W B : List Int} (t : Tm) (h : ∀ n ∈ t.occ, n ∈ W) : numT (W ++ B) t = numT W t :=
  Tm.sub_congr _ _ t fun n hn => by rw [placeI_pre W B n 0 (h n hn)]
theorem numL_take {l : List Tm} {i : Nat} (h : i < l.length) (L : List Int) :
    Tm.subL (fun n => Tm.var (placeI (Tm.varsL (l.take (i + 1)) L) n 0)) (l.take (i + 1)) =
      Tm.subL (fun n => Tm.var (placeI (Tm.varsL (l.take i) L) n 0)) (l.take i) ++ [numT (l[i].vars (Tm.varsL (l.take i) L)) l[i]] := by
  rw [Tm.subL_take h, Tm.varsL_take h]
  congr 1
  refine Tm.subL_congr _ _ _ fun n hn => ?_
  obtain ⟨B, hB⟩ := Tm.vars_pre l[i] (Tm.varsL (l.take i) L)
  rw [hB, placeI_pre _ B n 0 ((Tm.mem_varsL _ L n).2 (.inr hn))]
theorem renT_eq (t : Tm) : t.sub (fun n => Tm.var (placeI (t.vars []) n 0)) = numT (t.vars []) t := rfl
end Go.Ab
end

section
namespace Go.Ab
mutual
/-- Too large to be looked at: with what was counted. -/
def Tm.lg : Tm → Int → Int → Bool × Int
  | .mk _ _ s l, d, n => if 6000 < n + 1 + (s.size : Int) / 16 ∨ 300 < d ∨ 100 < l.length then (true, n + 1 + (s.size : Int) / 16) else Tm.lgL l (d + 1) (n + 1 + (s.size : Int) / 16)
def Tm.lgL : List Tm → Int → Int → Bool × Int
  | [], _, n => (false, n)
  | t :: ts, d, n => if (Tm.lg t d n).1 = true then (true, (Tm.lg t d n).2) else Tm.lgL ts d (Tm.lg t d n).2
end
theorem Tm.lgL_append : ∀ (a b : List Tm) (d n : Int), Tm.lgL (a ++ b) d n = if (Tm.lgL a d n).1 = true then (true, (Tm.lgL a d n).2) else Tm.lgL b d (Tm.lgL a d n).2
  | [], b, d, n => by simp [Tm.lgL]
  | t :: ts, b, d, n => by
    simp only [List.cons_append, Tm.lgL]
    by_cases h : (Tm.lg t d n).1 = true
    · simp only [if_pos h, if_true]
    · simp only [if_neg h]; exact Tm.lgL_append ts b d _
theorem Tm.lgL_take {l : List Tm} {i : Nat} (h : i < l.length) (d n : Int) (hf : (Tm.lgL (l.take i) d n).1 = false) :
    Tm.lgL (l.take (i + 1)) d n = Tm.lg l[i] d (Tm.lgL (l.take i) d n).2 := by
  rw [Tm.take_succ h, Tm.lgL_append, hf]
  simp only [Bool.false_eq_true, if_false, Tm.lgL]
  split
  · rename_i h1; rw [← h1]
  · rename_i h1; simp at h1; rw [← h1]
theorem Tm.lgL_true {l : List Tm} {i : Nat} (d n : Int) (h : (Tm.lgL (l.take i) d n).1 = true) : Tm.lgL l d n = (true, (Tm.lgL (l.take i) d n).2) := by
  conv => lhs; rw [← List.take_append_drop i l]
  rw [Tm.lgL_append, if_pos h]
mutual
theorem Tm.lg_size : ∀ (t : Tm) (d n : Int), 0 ≤ n → (Tm.lg t d n).1 = false → n + t.size ≤ (Tm.lg t d n).2 ∧ (Tm.lg t d n).2 ≤ 6000
  | .mk k m s l, d, n => by
    intro hn h
    have h0 : (0 : Int) ≤ (s.size : Int) / 16 := Int.ediv_nonneg (Int.natCast_nonneg _) (by decide)
    simp only [Tm.lg] at h ⊢
    split at h
    · cases h
    · rename_i hc
      rw [if_neg hc]
      simp only [not_or] at hc
      simp only [Tm.size]
      have := Tm.lgL_size l (d + 1) _ (by omega) (by omega) h
      omega
theorem Tm.lgL_size : ∀ (l : List Tm) (d n : Int), 0 ≤ n → n ≤ 6000 → (Tm.lgL l d n).1 = false → n + Tm.sizeL l ≤ (Tm.lgL l d n).2 ∧ (Tm.lgL l d n).2 ≤ 6000
  | [], d, n => by intro h1 h2 h3; simp [Tm.lgL, Tm.sizeL, h2]
  | t :: ts, d, n => by
    intro h1 h2 h3
    simp only [Tm.lgL, Tm.sizeL] at h3 ⊢
    split at h3
    · cases h3
    · rename_i hc
      rw [if_neg hc]
      have e1 := Tm.lg_size t d n h1 (by simpa using hc)
      have e2 := Tm.lgL_size ts d _ (by omega) (by omega) h3
      omega
end
mutual
/-- No name is longer than a machine holds. -/
def Tm.nice : Tm → Prop
  | .mk _ _ s l => s.size ≤ 140737488355328 ∧ Tm.niceL l
def Tm.niceL : List Tm → Prop
  | [] => True
  | t :: ts => Tm.nice t ∧ Tm.niceL ts
end
theorem Tm.niceL_mem : ∀ {l : List Tm}, Tm.niceL l → ∀ t ∈ l, t.nice
  | [], _, t, h => by cases h
  | x :: xs, h, t, ht => by
    rcases List.mem_cons.1 ht with rfl | ht
    · exact h.1
    · exact Tm.niceL_mem h.2 t ht
/-- Large. -/
def Tm.large (t : Tm) : Bool := (Tm.lg t 0 0).1
theorem Tm.large_size {t : Tm} (h : t.large = false) : t.size ≤ 6000 := by
  have := Tm.lg_size t 0 0 (by omega) h; omega
theorem Tm.large_small {t : Tm} (h : t.large = false) : t.small := by
  have := Tm.large_size h; unfold Tm.small; omega
end Go.Ab
end

section
namespace Go.Ab
/-- A list's items, and its tail. -/
def Tm.items (t : Tm) : List Tm × Tm :=
  match t with
  | .mk k n s [x, y] => if k = 4 ∧ s = ⟨#[46]⟩ then (x :: (Tm.items y).1, (Tm.items y).2) else ([], .mk k n s [x, y])
  | .mk k n s l => ([], .mk k n s l)
termination_by t.size
decreasing_by all_goals (simp only [Tm.size, Tm.sizeL]; omega)
theorem Tm.items_two (n : Int) (x y : Tm) : Tm.items (.mk 4 n ⟨#[46]⟩ [x, y]) = (x :: (Tm.items y).1, (Tm.items y).2) := by
  rw [Tm.items]; simp
theorem Tm.items_end {k n : Int} {s : ByteArray} {l : List Tm} (h : ¬ (k = 4 ∧ s = ⟨#[46]⟩ ∧ l.length = 2)) : Tm.items (.mk k n s l) = ([], .mk k n s l) := by
  unfold Tm.items
  split
  · rename_i k' n' s' x y e
    injection e with e1 e2 e3 e4
    subst e1; subst e3; subst e4
    rw [if_neg]
    · rw [e2]
    · intro h'; exact h ⟨h'.1, h'.2, rfl⟩
  · rename_i k' n' s' l' h0 e
    rw [e]
theorem Tm.len2 {l : List Tm} (h : l.length = 2) : ∃ x y, l = [x, y] := by
  match l, h with
  | [x, y], _ => exact ⟨x, y, rfl⟩
end Go.Ab
end

section
namespace Go.Ab
/-- A list of items, and a tail. -/
def Tm.list (tail : Tm) : List Tm → Tm
  | [] => tail
  | x :: xs => .mk 4 0 ⟨#[46]⟩ [x, Tm.list tail xs]
theorem Tm.list_drop {l : List Tm} {i : Nat} (tail : Tm) (h : i < l.length) : Tm.list tail (l.drop i) = .mk 4 0 ⟨#[46]⟩ [l[i], Tm.list tail (l.drop (i + 1))] := by
  rw [List.drop_eq_getElem_cons h]; rfl
end Go.Ab
end

section
namespace Go.Ab
theorem Tm.niceL_take {l : List Tm} {i : Nat} (h : i < l.length) (hn : Tm.niceL l) : l[i].nice := Tm.niceL_mem hn _ (List.getElem_mem h)
/-- Whether terms are too large. -/
def manyT (l : List Tm) : Bool := l.any Tm.large || decide (10000 < Tm.sizeL l)
/-- None so far. -/
def noneL (l : List Tm) : Prop := l.any Tm.large = false
theorem noneL_take {l : List Tm} {i : Nat} (h : i < l.length) (hn : noneL (l.take i)) (hx : l[i].large = false) : noneL (l.take (i + 1)) := by
  unfold noneL at *
  rw [Tm.take_succ h, List.any_append, hn]
  simp [hx]
theorem noneL_size {l : List Tm} (hn : noneL l) : Tm.sizeL l ≤ 6000 * l.length := by
  induction l with
  | nil => simp [Tm.sizeL]
  | cons x xs ih =>
    unfold noneL at hn ih
    simp only [List.any_cons, Bool.or_eq_false_iff] at hn
    have := Tm.large_size hn.1
    have := ih hn.2
    simp only [Tm.sizeL, List.length_cons]
    omega
theorem many_of_get {l : List Tm} {i : Nat} (h : i < l.length) (hx : l[i].large = true) : manyT l = true := by
  unfold manyT
  have : l.any Tm.large = true := List.any_eq_true.2 ⟨_, List.getElem_mem h, hx⟩
  rw [this]; rfl
end Go.Ab
end

section
namespace Go.Ab
/-- 0, 1, .. -/
def iota (k : Nat) : List Int := (List.range k).map fun (i : Nat) => (i : Int)
@[simp] theorem iota_len (k : Nat) : (iota k).length = k := by simp [iota]
theorem mem_iota {k : Nat} {m : Int} : m ∈ iota k ↔ 0 ≤ m ∧ m < k := by
  simp only [iota, List.mem_map, List.mem_range]
  constructor
  · rintro ⟨i, hi, rfl⟩; omega
  · rintro ⟨h1, h2⟩; exact ⟨m.toNat, by omega, by omega⟩
theorem iota_succ (k : Nat) : iota (k + 1) = iota k ++ [(k : Int)] := by simp [iota, List.range_succ]
theorem placeI_range : ∀ (L : List Int) (n : Int) (i : Nat), n ∈ L → (i : Int) ≤ placeI L n i ∧ placeI L n i < i + L.length
  | [], _, _, h => by cases h
  | x :: xs, n, i, h => by
    simp only [placeI]
    split
    · simp; omega
    · rename_i hx
      rcases List.mem_cons.1 h with rfl | h
      · exact absurd rfl hx
      · have := placeI_range xs n (i + 1) h
        simp only [List.length_cons]; omega
theorem placeI_iota_aux : ∀ (k s : Nat) (m : Int) (i : Nat), (s : Int) ≤ m → m < s + k → placeI ((List.range' s k).map fun (i : Nat) => (i : Int)) m i = i + (m - s)
  | 0, s, m, i, h1, h2 => by omega
  | k + 1, s, m, i, h1, h2 => by
    simp only [List.range'_succ, List.map_cons, placeI]
    split
    · rename_i h; omega
    · rename_i h
      rw [placeI_iota_aux k (s + 1) m (i + 1) (by omega) (by omega)]
      omega
theorem placeI_iota {k : Nat} {m : Int} (h : m ∈ iota k) : placeI (iota k) m 0 = m := by
  have h' := mem_iota.1 h
  have := placeI_iota_aux k 0 m 0 (by omega) (by omega)
  unfold iota
  rw [List.range_eq_range', this]; omega
theorem Tm.vars_var (m : Int) (L : List Int) : (Tm.var m).vars L = addV L m := by simp [Tm.var, Tm.vars]
mutual
theorem Tm.num_vars (W : List Int) : ∀ (t : Tm) (L : List Int), (∃ B, W = t.vars L ++ B) → (t.sub fun n => Tm.var (placeI W n 0)).vars (iota L.length) = iota (t.vars L).length
  | .mk k n s l, L => by
    rintro ⟨B, hB⟩
    simp only [Tm.sub]
    by_cases hk : k = 1
    · simp only [if_pos hk, Tm.vars] at hB ⊢
      rw [Tm.vars_var]
      by_cases hn : n ∈ L
      · have e : addV L n = L := by unfold addV; rw [if_pos hn]
        rw [e] at hB ⊢
        have h1 := placeI_range L n 0 hn
        unfold addV
        rw [if_pos]
        rw [mem_iota, hB, placeI_pre L B n 0 hn]; omega
      · have e : addV L n = L ++ [n] := by unfold addV; rw [if_neg hn]
        rw [e] at hB ⊢
        have h1 : placeI W n 0 = L.length := by rw [hB, placeI_pre _ B n 0 (by simp), placeI_last L n 0 hn]; omega
        rw [h1]
        unfold addV
        rw [if_neg]
        · simp [iota_succ]
        · rw [mem_iota]; omega
    · simp only [if_neg hk, Tm.vars] at hB ⊢
      exact Tm.num_varsL W l L ⟨B, hB⟩
theorem Tm.num_varsL (W : List Int) : ∀ (l : List Tm) (L : List Int), (∃ B, W = Tm.varsL l L ++ B) → Tm.varsL (Tm.subL (fun n => Tm.var (placeI W n 0)) l) (iota L.length) = iota (Tm.varsL l L).length
  | [], L => fun _ => by simp only [Tm.subL, Tm.varsL]
  | t :: ts, L => by
    rintro ⟨B, hB⟩
    simp only [Tm.varsL] at hB
    obtain ⟨C, hC⟩ := Tm.varsL_pre ts (t.vars L)
    simp only [Tm.subL, Tm.varsL]
    rw [Tm.num_vars W t L ⟨C ++ B, by rw [hB, hC, List.append_assoc]⟩]
    exact Tm.num_varsL W ts (t.vars L) ⟨B, hB⟩
end
mutual
theorem Tm.sub_like (f : Int → Tm) : ∀ t : Tm, t.right = true → (∀ n ∈ t.occ, ∃ m, f n = Tm.var m ∧ 0 ≤ m ∧ m < 1073741824) → (t.sub f).right = true ∧ (t.sub f).size = t.size ∧ (t.sub f).depth = t.depth
  | .mk k n s l => by
    intro h hf
    simp only [Tm.right, Bool.and_eq_true] at h
    simp only [Tm.occ] at hf
    simp only [Tm.sub]
    by_cases hk : k = 1
    · subst hk
      simp only [if_true] at hf ⊢
      obtain ⟨m, h1, h2, h3⟩ := hf n (by simp)
      obtain ⟨_, _, _, h4⟩ := partB_one h.1
      rw [h1, List.eq_nil_of_length_eq_zero h4]
      simp [Tm.var, Tm.right, Tm.rightL, Tm.size, Tm.sizeL, Tm.depth, Tm.depthL, partB, h2, h3]
    · simp only [if_neg hk] at hf ⊢
      obtain ⟨h1, h2, h3⟩ := Tm.subL_like f l h.2 hf
      simp only [Tm.right, Tm.size, Tm.depth, Tm.subL_len, h1, h2, h3, h.1, Bool.and_true, and_self]
theorem Tm.subL_like (f : Int → Tm) : ∀ l : List Tm, Tm.rightL l = true → (∀ n ∈ Tm.occL l, ∃ m, f n = Tm.var m ∧ 0 ≤ m ∧ m < 1073741824) → Tm.rightL (Tm.subL f l) = true ∧ Tm.sizeL (Tm.subL f l) = Tm.sizeL l ∧ Tm.depthL (Tm.subL f l) = Tm.depthL l
  | [] => fun _ _ => ⟨rfl, rfl, rfl⟩
  | t :: ts => by
    intro h hf
    simp only [Tm.rightL, Bool.and_eq_true] at h
    simp only [Tm.occL, List.mem_append] at hf
    obtain ⟨a1, a2, a3⟩ := Tm.sub_like f t h.1 fun n hn => hf n (.inl hn)
    obtain ⟨b1, b2, b3⟩ := Tm.subL_like f ts h.2 fun n hn => hf n (.inr hn)
    simp only [Tm.subL, Tm.rightL, Tm.sizeL, Tm.depthL, a1, a2, a3, b1, b2, b3, Bool.and_true, and_self]
end
/-- What is renamed stays as large; it may be, if the term may. -/
theorem Tm.num_like {t : Tm} (hr : t.right = true) (hs : t.small) : (numT (t.vars []) t).right = true ∧ (numT (t.vars []) t).size = t.size ∧ (numT (t.vars []) t).depth = t.depth := by
  refine Tm.sub_like _ t hr fun n hn => ⟨_, rfl, ?_⟩
  have h1 := placeI_range (t.vars []) n 0 ((Tm.mem_vars t [] n).2 (.inr hn))
  have h2 := Tm.vars_len t []
  unfold Tm.small at hs
  simp only [List.length_nil] at h2
  omega
theorem Tm.num_check {t : Tm} (hs : t.small) (hc : t.check = 0) : (numT (t.vars []) t).check = 0 := by
  obtain ⟨h1, h2, h3⟩ := Tm.num_like (Tm.right_of_check hc) hs
  have := hc
  unfold Tm.check at this ⊢
  rw [h1, h2, h3]
  rw [Tm.right_of_check hc] at this
  exact this
theorem Tm.num_small {t : Tm} (hs : t.small) (hc : t.check = 0) : (numT (t.vars []) t).small := by
  obtain ⟨_, h2, _⟩ := Tm.num_like (Tm.right_of_check hc) hs
  unfold Tm.small at *; omega
theorem Tm.num_vars0 (t : Tm) : (numT (t.vars []) t).vars [] = iota (t.vars []).length := by
  have := Tm.num_vars (t.vars []) t [] ⟨[], by simp⟩
  simpa [iota, numT] using this
/-- What is renamed stays when it is renamed again. -/
theorem Tm.num_again {t : Tm} (hs : t.small) (hc : t.check = 0) : numT ((numT (t.vars []) t).vars []) (numT (t.vars []) t) = numT (t.vars []) t := by
  conv => lhs; rw [show (numT ((numT (t.vars []) t).vars []) (numT (t.vars []) t)) = (numT (t.vars []) t).sub (fun n => Tm.var (placeI ((numT (t.vars []) t).vars []) n 0)) from rfl]
  rw [Tm.num_vars0]
  rw [Tm.sub_congr _ Tm.var _ fun n hn => ?_]
  · exact Tm.sub_var _ (Tm.num_like (Tm.right_of_check hc) hs).1
  · rw [placeI_iota]
    rw [← Tm.num_vars0]
    exact (Tm.mem_vars _ [] n).2 (.inr hn)
end Go.Ab
end

section
namespace Go.Ab
mutual
theorem Tm.sub_size (f : Int → Tm) (S : Nat) (hS : 1 ≤ S) (hf : ∀ n, (f n).size ≤ S) : ∀ t : Tm, (t.sub f).size ≤ t.size * S
  | .mk k n s l => by
    have ih := Tm.subL_size f S hS hf l
    simp only [Tm.sub]
    split
    · have := hf n
      simp only [Tm.size]
      calc (f n).size ≤ 1 * S := by omega
        _ ≤ (1 + Tm.sizeL l) * S := Nat.mul_le_mul_right _ (by omega)
    · simp only [Tm.size]
      rw [Nat.add_mul]; omega
theorem Tm.subL_size (f : Int → Tm) (S : Nat) (hS : 1 ≤ S) (hf : ∀ n, (f n).size ≤ S) : ∀ l : List Tm, Tm.sizeL (Tm.subL f l) ≤ Tm.sizeL l * S
  | [] => by simp [Tm.subL, Tm.sizeL]
  | t :: ts => by
    have h1 := Tm.sub_size f S hS hf t
    have h2 := Tm.subL_size f S hS hf ts
    simp only [Tm.subL, Tm.sizeL]
    rw [Nat.add_mul]; omega
end
theorem Tm.size_mem {l : List Tm} {i : Nat} (h : i < l.length) : l[i].size ≤ Tm.sizeL l := by
  have := Tm.size_get h; omega
/-- All may be. -/
def allC (l : List Tm) : Bool := l.all fun x => decide (x.check = 0)
theorem allC_take {l : List Tm} {i : Nat} (h : i < l.length) : allC (l.take (i + 1)) = (allC (l.take i) && decide (l[i].check = 0)) := by
  unfold allC
  rw [Tm.take_succ h, List.all_append]; simp
theorem allC_iff {l : List Tm} : allC l = true ↔ ∀ x ∈ l, x.check = 0 := by simp [allC]
end Go.Ab
end

section
namespace Go.Ab
/-! Numbers of terms. -/
def atomT (s : ByteArray) : Tm := .mk 3 0 s []
def intT (n : Int) : Tm := .mk 2 n ⟨#[]⟩ []
/-- A ball. -/
def errT (t : Tm) : Tm := .mk 4 0 ⟨#[101, 114, 114, 111, 114]⟩ [t]
def instT : Tm := errT (atomT ⟨#[105, 110, 115, 116]⟩)
def sizeT : Tm := errT (atomT ⟨#[115, 105, 122, 101]⟩)
def evalT (s : ByteArray) : Tm := errT (.mk 4 0 ⟨#[101, 118, 97, 108]⟩ [atomT s])
def overT : Tm := evalT ⟨#[111, 118, 101, 114]⟩
def noughtT : Tm := evalT ⟨#[122, 101, 114, 111]⟩
def typeT (name : ByteArray) (t : Tm) : Tm := errT (.mk 4 0 ⟨#[116, 121, 112, 101]⟩ [atomT name, t])
/-- Name and arity. -/
def indT : Tm → Tm
  | .mk k n s l => if (Tm.mk k n s l).check = 0 ∧ 3 ≤ k then .mk 4 0 ⟨#[47]⟩ [atomT s, intT l.length] else Tm.zero
structure Res where
  n : Int
  ball : Tm
  bad : Bool
  deriving DecidableEq
def mM : Int := 9007199254740991
def failR (t : Tm) : Res := ⟨0, t, true⟩
def numR (n : Int) : Res := if n < -9007199254740991 ∨ 9007199254740991 < n then failR overT else ⟨n, Tm.zero, false⟩
def absI (n : Int) : Int := max n (-n)
def timesR (a b : Int) : Res := if a ≠ 0 ∧ Int.tdiv 9007199254740991 (absI a) < absI b then failR overT else numR (a * b)
def moduloI (a b : Int) : Int := if Int.tmod a b ≠ 0 ∧ ¬ (Int.tmod a b < 0 ↔ b < 0) then Int.tmod a b + b else Int.tmod a b
def divideR (op : ByteArray) (a b : Int) : Res :=
  if b = 0 then failR noughtT
  else if op = ⟨#[47, 47]⟩ then numR (Int.tdiv a b)
  else if op = ⟨#[114, 101, 109]⟩ then numR (Int.tmod a b)
  else numR (moduloI a b)
def twoR (op : ByteArray) (a b : Int) : Res :=
  if op = ⟨#[43]⟩ then numR (a + b)
  else if op = ⟨#[45]⟩ then numR (a - b)
  else if op = ⟨#[42]⟩ then timesR a b
  else if op = ⟨#[109, 105, 110]⟩ then numR (min a b)
  else if op = ⟨#[109, 97, 120]⟩ then numR (max a b)
  else divideR op a b
def signI (n : Int) : Int := if n < 0 then -1 else if 0 < n then 1 else 0
def oneR (op : ByteArray) (a : Int) : Res :=
  if op = ⟨#[45]⟩ then numR (-a) else if op = ⟨#[97, 98, 115]⟩ then numR (absI a) else numR (signI a)
def knownB (s : ByteArray) (n : Int) : Bool :=
  if s = ⟨#[43]⟩ ∨ s = ⟨#[42]⟩ ∨ s = ⟨#[47, 47]⟩ ∨ s = ⟨#[109, 111, 100]⟩ ∨ s = ⟨#[114, 101, 109]⟩ ∨ s = ⟨#[109, 105, 110]⟩ ∨ s = ⟨#[109, 97, 120]⟩ then decide (n = 2)
  else if s = ⟨#[45]⟩ then decide (n = 1) || decide (n = 2)
  else if s = ⟨#[97, 98, 115]⟩ ∨ s = ⟨#[115, 105, 103, 110]⟩ then decide (n = 1)
  else false
mutual
/-- What a term comes to. -/
def Tm.reck : Tm → Res
  | .mk k n s l =>
    if k = 2 then numR n
    else if k = 1 then failR instT
    else if knownB s l.length = false then failR (typeT ⟨#[101, 118, 97, 108, 117, 97, 98, 108, 101]⟩ (indT (.mk k n s l)))
    else match Tm.reckL l with
      | [] => failR Tm.zero
      | [r] => if r.bad = true then r else oneR s r.n
      | r :: q :: _ => if r.bad = true then r else if q.bad = true then q else twoR s r.n q.n
def Tm.reckL : List Tm → List Res
  | [] => []
  | t :: ts => Tm.reck t :: Tm.reckL ts
end
theorem knownB_len {s : ByteArray} {n : Int} (h : knownB s n = true) : n = 1 ∨ n = 2 := by
  unfold knownB at h
  split at h
  · exact .inr (of_decide_eq_true h)
  · split at h
    · simpa using h
    · split at h
      · exact .inl (of_decide_eq_true h)
      · cases h
/-- A result is in its range; nothing comes of a ball. -/
def Res.ok (r : Res) : Prop := (r.bad = true → r.n = 0) ∧ (r.bad = false → r.ball = Tm.zero ∧ -9007199254740991 ≤ r.n ∧ r.n ≤ 9007199254740991)
theorem failR_ok (t : Tm) : (failR t).ok := ⟨fun _ => rfl, fun h => (by cases h)⟩
theorem numR_ok (n : Int) : (numR n).ok := by
  unfold numR
  split
  · exact failR_ok _
  · rename_i h
    exact ⟨fun h => (by cases h), fun _ => ⟨rfl, (by omega : -9007199254740991 ≤ n), (by omega : n ≤ 9007199254740991)⟩⟩
theorem timesR_ok (a b : Int) : (timesR a b).ok := by unfold timesR; split; exact failR_ok _; exact numR_ok _
theorem divideR_ok (op : ByteArray) (a b : Int) : (divideR op a b).ok := by
  unfold divideR
  split; exact failR_ok _
  split; exact numR_ok _
  split; exact numR_ok _
  exact numR_ok _
theorem twoR_ok (op : ByteArray) (a b : Int) : (twoR op a b).ok := by
  unfold twoR
  split; exact numR_ok _
  split; exact numR_ok _
  split; exact timesR_ok _ _
  split; exact numR_ok _
  split; exact numR_ok _
  exact divideR_ok _ _ _
theorem oneR_ok (op : ByteArray) (a : Int) : (oneR op a).ok := by
  unfold oneR
  split; exact numR_ok _
  split; exact numR_ok _
  exact numR_ok _
mutual
theorem Tm.reck_ok : ∀ t : Tm, t.reck.ok
  | .mk k n s l => by
    have ih := Tm.reckL_ok l
    unfold Tm.reck
    split; exact numR_ok _
    split; exact failR_ok _
    split; exact failR_ok _
    split
    · exact failR_ok _
    · rename_i r h
      rw [h] at ih
      split
      · exact ih r (by simp)
      · exact oneR_ok _ _
    · rename_i r q _ h
      rw [h] at ih
      split
      · exact ih r (by simp)
      · split
        · exact ih q (by simp)
        · exact twoR_ok _ _ _
theorem Tm.reckL_ok : ∀ l : List Tm, ∀ r ∈ Tm.reckL l, r.ok
  | [], r, h => by cases h
  | t :: ts, r, h => by
    simp only [Tm.reckL, List.mem_cons] at h
    rcases h with rfl | h
    · exact Tm.reck_ok t
    · exact Tm.reckL_ok ts r h
end
/-- What Eval tells. -/
def evalR (t : Tm) : Res := if t.check = 0 then t.reck else failR sizeT
theorem evalR_ok (t : Tm) : (evalR t).ok := by unfold evalR; split; exact Tm.reck_ok t; exact failR_ok _
theorem check_iff (t : Tm) : t.check = 0 ↔ t.right = true ∧ t.depth ≤ 200 ∧ t.size ≤ 4096 := by
  unfold Tm.check
  by_cases h1 : t.right = false
  · simp [h1]
  · have h1' : t.right = true := by simpa using h1
    by_cases h2 : 200 < t.depth
    · simp [h1', h2]; omega
    · by_cases h3 : 4096 < t.size
      · simp [h1', h2, h3]
      · simp [h1', h2, h3]; omega
theorem check_child {k n : Int} {s : ByteArray} {l : List Tm} (h : (Tm.mk k n s l).check = 0) : ∀ x ∈ l, x.check = 0 := by
  intro x hx
  obtain ⟨i, hi, rfl⟩ := List.getElem_of_mem hx
  obtain ⟨h1, g2, g3⟩ := (check_iff _).1 h
  simp only [Tm.right, Bool.and_eq_true] at h1
  simp only [Tm.depth, Tm.size] at g2 g3
  have h2 := Tm.size_mem hi
  have h3 := Tm.depthL_take_le l (i + 1)
  rw [Tm.depthL_take hi] at h3
  have h4 : l[i].right = true := by
    have := Tm.rightL_take hi
    have h5 : Tm.rightL (l.take (i + 1) ++ l.drop (i + 1)) = true := by rw [List.take_append_drop]; exact h1.2
    rw [Tm.rightL_append, this] at h5
    simp at h5; exact h5.1.2
  exact (check_iff _).2 ⟨h4, by omega, by omega⟩
end Go.Ab
end

section
namespace Go.Ab
theorem absI_eq (a : Int) : absI a = (a.natAbs : Int) := by unfold absI; omega
theorem tdiv_abs (a b : Int) : (a.tdiv b).natAbs ≤ a.natAbs := by rw [Int.natAbs_tdiv]; exact Nat.div_le_self _ _
theorem tmod_abs (a b : Int) (hb : b ≠ 0) : (a.tmod b).natAbs < b.natAbs := by rw [Int.natAbs_tmod]; exact Nat.mod_lt _ (by omega)
theorem mul_fits {a b : Int} (ha : a ≠ 0) (h : absI b ≤ Int.tdiv 9007199254740991 (absI a)) : (a * b).natAbs ≤ 9007199254740991 := by
  rw [absI_eq, absI_eq] at h
  have e : Int.tdiv 9007199254740991 (a.natAbs : Int) = ((9007199254740991 / a.natAbs : Nat) : Int) := by rw [Int.ofNat_tdiv]; rfl
  rw [e] at h
  have h2 : b.natAbs ≤ 9007199254740991 / a.natAbs := by omega
  rw [Int.natAbs_mul]
  have h3 := (Nat.le_div_iff_mul_le (by omega : 0 < a.natAbs)).1 h2
  rw [Nat.mul_comm]; exact h3
end Go.Ab
end

section
namespace Go.Ab
/-! Terms as clauses. -/
def isT (s : ByteArray) (m : Int) : Tm → Bool
  | .mk k _ s' l => decide (k = 4) && (decide (s' = s) && decide ((l.length : Int) = m))
structure Gl where
  kind : Int
  term : Tm
  deriving DecidableEq
def Gl.cells (g : Gl) : List AV := .sc (.int .i64 g.kind) :: g.term.cells 24
def glsL (l : List Gl) : List (List AV) := l.map Gl.cells
@[simp] theorem glsL_len (l : List Gl) : (glsL l).length = l.length := by simp [glsL]
@[simp] theorem glsL_nil (l : List Gl) : glsL l = [] ↔ l = [] := by simp [glsL]
@[simp] theorem glsL_append (a b : List Gl) : glsL (a ++ b) = glsL a ++ glsL b := by simp [glsL]
@[simp] theorem Gl.cells_len (g : Gl) : g.cells.length = 5 := by simp [Gl.cells]
@[simp] theorem Gl.cells_pure (g : Gl) : AV.pureL g.cells = true := by simp [Gl.cells, AV.pureL, AV.pure]
@[simp] theorem glsL_pure : ∀ l : List Gl, AV.pureM (glsL l) = true
  | [] => rfl
  | g :: l => by
    have := glsL_pure l
    unfold glsL at this ⊢
    simp [AV.pureM, this]
@[simp] theorem glsL_getElem (l : List Gl) (i : Nat) (h : i < (glsL l).length) : (glsL l)[i] = (l[i]'(by simpa using h)).cells := by simp [glsL]
@[simp] theorem glsL_cut (l : List Gl) (N : Nat) (st : St) : AV.cutM N st (glsL l) = glsL l := cut_pureM N st _ (by simp)
@[simp] theorem Gl.frz_cells (g : Gl) (st : St) : AV.frzL st g.cells = g.cells := frz_pureL st _ (by simp)
def sCut : ByteArray := ⟨#[33]⟩
def kindG : Tm → Int
  | .mk k n s l => if k = 1 then 4 else if k = 3 ∧ s = ⟨#[33]⟩ then 2
    else if isT ⟨#[59]⟩ 2 (.mk k n s l) = true ∨ isT ⟨#[45, 62]⟩ 2 (.mk k n s l) = true ∨ isT ⟨#[92, 43]⟩ 1 (.mk k n s l) = true then 3 else 1
def goalG (t : Tm) : Gl := ⟨kindG t, t⟩
mutual
def Tm.flat : Tm → List Tm
  | .mk k n s l => if k = 4 ∧ s = ⟨#[44]⟩ ∧ l.length = 2 then Tm.flatL l else if k = 3 ∧ s = ⟨#[116, 114, 117, 101]⟩ then [] else [.mk k n s l]
def Tm.flatL : List Tm → List Tm
  | [] => []
  | t :: ts => Tm.flat t ++ Tm.flatL ts
end
def Tm.kind : Tm → Int | .mk k _ _ _ => k
def callableT : Tm → Tm := typeT ⟨#[99, 97, 108, 108, 97, 98, 108, 101]⟩
structure BR where
  goals : List Gl
  ball : Tm
  ok : Bool
def goalsR (l : List Tm) : BR :=
  match l.find? (fun x => decide (x.kind = 2)) with
  | some x => ⟨[], callableT x, false⟩
  | none => ⟨l.map goalG, Tm.zero, true⟩
def bodyR (t : Tm) : BR :=
  if t.check ≠ 0 then ⟨[], sizeT, false⟩ else if 64 < t.flat.length then ⟨[], sizeT, false⟩ else goalsR t.flat
/-- Is it one of them? -/
def inL (s : ByteArray) : List ByteArray → Bool
  | [] => false
  | x :: l => decide (x = s) || inL s l
/-- What is built in. -/
def b0 : List ByteArray := [⟨#[116, 114, 117, 101]⟩, ⟨#[102, 97, 105, 108]⟩, ⟨#[33]⟩, ⟨#[104, 97, 108, 116]⟩, ⟨#[110, 108]⟩]
def b1 : List ByteArray := [⟨#[92, 43]⟩, ⟨#[116, 104, 114, 111, 119]⟩, ⟨#[118, 97, 114]⟩, ⟨#[110, 111, 110, 118, 97, 114]⟩, ⟨#[97, 116, 111, 109]⟩, ⟨#[105, 110, 116, 101, 103, 101, 114]⟩, ⟨#[99, 111, 109, 112, 111, 117, 110, 100]⟩, ⟨#[97, 115, 115, 101, 114, 116, 122]⟩, ⟨#[97, 115, 115, 101, 114, 116, 97]⟩, ⟨#[114, 101, 116, 114, 97, 99, 116]⟩, ⟨#[119, 114, 105, 116, 101]⟩]
def b2 : List ByteArray := [⟨#[44]⟩, ⟨#[59]⟩, ⟨#[45, 62]⟩, ⟨#[61]⟩, ⟨#[92, 61]⟩, ⟨#[61, 61]⟩, ⟨#[92, 61, 61]⟩, ⟨#[64, 60]⟩, ⟨#[64, 62]⟩, ⟨#[64, 61, 60]⟩, ⟨#[64, 62, 61]⟩, ⟨#[61, 46, 46]⟩, ⟨#[99, 111, 112, 121, 95, 116, 101, 114, 109]⟩, ⟨#[105, 115]⟩, ⟨#[61, 58, 61]⟩, ⟨#[61, 92, 61]⟩, ⟨#[60]⟩, ⟨#[62]⟩, ⟨#[61, 60]⟩, ⟨#[62, 61]⟩, ⟨#[97, 116, 111, 109, 95, 108, 101, 110, 103, 116, 104]⟩]
def b3 : List ByteArray := [⟨#[99, 97, 116, 99, 104]⟩, ⟨#[102, 105, 110, 100, 97, 108, 108]⟩, ⟨#[99, 111, 109, 112, 97, 114, 101]⟩, ⟨#[102, 117, 110, 99, 116, 111, 114]⟩, ⟨#[97, 114, 103]⟩]
def builtB (s : ByteArray) (n : Int) : Bool :=
  if inL s b0 = true then decide (n = 0) else if inL s b1 = true then decide (n = 1) else if inL s b2 = true then decide (n = 2) else if inL s b3 = true then decide (n = 3)
  else if s = ⟨#[99, 97, 108, 108]⟩ then decide (1 ≤ n) && decide (n ≤ 4)
  else if s = ⟨#[58, 45]⟩ then decide (n = 1) || decide (n = 2) else false
def permT (t : Tm) : Tm := errT (.mk 4 0 ⟨#[112, 101, 114, 109]⟩ [indT t])
def headR : Tm → Tm × Bool
  | .mk k n s l => if k = 1 then (instT, true) else if k = 2 then (callableT (.mk k n s l), true) else if builtB s l.length = true then (permT (.mk k n s l), true) else (Tm.zero, false)
structure Cls where
  head : Tm
  goals : List Gl
  vars : Int
def noCls : Cls := ⟨Tm.zero, [], 0⟩
structure FR where
  c : Cls
  ball : Tm
  ok : Bool
def trueT : Tm := .mk 3 0 ⟨#[116, 114, 117, 101]⟩ []
/-- Head and body. -/
def partsT : Tm → Tm × Tm
  | .mk k n s l => if isT ⟨#[58, 45]⟩ 2 (.mk k n s l) = true then (match l with | [h, b] => (h, b) | _ => (.mk k n s l, trueT)) else (.mk k n s l, trueT)
def fromU (u : Tm) (n : Int) : FR :=
  if 64 < (partsT u).2.flat.length then ⟨noCls, sizeT, false⟩
  else if (headR (partsT u).1).2 = true then ⟨noCls, (headR (partsT u).1).1, false⟩
  else if (bodyR (partsT u).2).ok = false then ⟨noCls, (bodyR (partsT u).2).ball, false⟩
  else ⟨⟨(partsT u).1, (bodyR (partsT u).2).goals, n⟩, Tm.zero, true⟩
def fromR (t : Tm) : FR :=
  if t.check ≠ 0 then ⟨noCls, sizeT, false⟩ else fromU (numT (t.vars []) t) (t.vars []).length
def ofG (g : Gl) : Tm := if g.kind = 2 then .mk 3 0 ⟨#[33]⟩ [] else g.term
def conjT : List Gl → Tm
  | [] => trueT
  | [g] => ofG g
  | g :: h :: l => .mk 4 0 ⟨#[44]⟩ [ofG g, conjT (h :: l)]
def backT (c : Cls) : Tm := if c.goals = [] then c.head else .mk 4 0 ⟨#[58, 45]⟩ [c.head, conjT c.goals]
def backR (c : Cls) : Tm := if (backT c).check = 0 then backT c else Tm.zero
structure AR where
  t : Tm
  ball : Tm
  ok : Bool
def addR : Tm → List Tm → AR
  | .mk k n s L, l => if (Tm.mk k n s L).check ≠ 0 then ⟨Tm.zero, sizeT, false⟩ else if k = 1 then ⟨Tm.zero, instT, false⟩ else if k = 2 then ⟨Tm.zero, callableT (.mk k n s L), false⟩
    else if (if L ++ l = [] then Tm.mk 3 0 s [] else .mk 4 0 s (L ++ l)).check ≠ 0 then ⟨Tm.zero, sizeT, false⟩ else ⟨if L ++ l = [] then Tm.mk 3 0 s [] else .mk 4 0 s (L ++ l), Tm.zero, true⟩
end Go.Ab
end

section
namespace Go.Ab
mutual
/-- What is flat stays flat. -/
theorem Tm.flat_flat : ∀ (t : Tm), ∀ x ∈ t.flat, x.flat = [x]
  | .mk k n s l, x, hx => by
    unfold Tm.flat at hx
    split at hx
    · exact Tm.flatL_flat l x hx
    · rename_i h1
      split at hx
      · cases hx
      · rename_i h2
        simp only [List.mem_singleton] at hx
        subst hx
        unfold Tm.flat
        rw [if_neg h1, if_neg h2]
theorem Tm.flatL_flat : ∀ (l : List Tm), ∀ x ∈ Tm.flatL l, x.flat = [x]
  | [], x, hx => by cases hx
  | t :: ts, x, hx => by
    unfold Tm.flatL at hx
    rcases List.mem_append.1 hx with h | h
    · exact Tm.flat_flat t x h
    · exact Tm.flatL_flat ts x h
end
theorem right_three {n : Int} {s : ByteArray} {l : List Tm} (h : (Tm.mk 3 n s l).right = true) : n = 0 ∧ l = [] := by
  simp [Tm.right, partB] at h
  exact ⟨h.1.1.1, h.1.2⟩
mutual
theorem Tm.flat_vars : ∀ (t : Tm) (L : List Int), t.right = true → Tm.varsL t.flat L = t.vars L
  | .mk k n s l, L, hr => by
    unfold Tm.flat
    split
    · rename_i h
      rw [Tm.flatL_vars l L (by simp only [Tm.right, Bool.and_eq_true] at hr; exact hr.2)]
      simp [Tm.vars, h.1]
    · split
      · rename_i h
        obtain ⟨rfl, _⟩ := h
        obtain ⟨_, rfl⟩ := right_three hr
        simp [Tm.vars, Tm.varsL]
      · simp [Tm.varsL]
theorem Tm.flatL_vars : ∀ (l : List Tm) (L : List Int), Tm.rightL l = true → Tm.varsL (Tm.flatL l) L = Tm.varsL l L
  | [], L, _ => rfl
  | t :: ts, L, hr => by
    simp only [Tm.rightL, Bool.and_eq_true] at hr
    unfold Tm.flatL
    rw [Tm.varsL_append, Tm.flat_vars t L hr.1, Tm.flatL_vars ts _ hr.2]
    simp [Tm.varsL]
theorem Tm.flat_right : ∀ (t : Tm), t.right = true → Tm.rightL t.flat = true
  | .mk k n s l, hr => by
    unfold Tm.flat
    split
    · exact Tm.flatL_right l (by simp only [Tm.right, Bool.and_eq_true] at hr; exact hr.2)
    · split
      · rfl
      · simp [Tm.rightL, hr]
theorem Tm.flatL_right : ∀ (l : List Tm), Tm.rightL l = true → Tm.rightL (Tm.flatL l) = true
  | [], _ => rfl
  | t :: ts, hr => by
    simp only [Tm.rightL, Bool.and_eq_true] at hr
    unfold Tm.flatL
    rw [Tm.rightL_append, Tm.flat_right t hr.1, Tm.flatL_right ts hr.2]; rfl
theorem Tm.flat_size : ∀ (t : Tm), Tm.sizeL t.flat ≤ t.size
  | .mk k n s l => by
    unfold Tm.flat
    split
    · have := Tm.flatL_size l; simp only [Tm.size]; omega
    · split
      · simp [Tm.sizeL]
      · simp [Tm.sizeL]
theorem Tm.flatL_size : ∀ (l : List Tm), Tm.sizeL (Tm.flatL l) ≤ Tm.sizeL l
  | [] => Nat.le_refl _
  | t :: ts => by
    have h1 := Tm.flat_size t
    have h2 := Tm.flatL_size ts
    unfold Tm.flatL
    rw [Tm.sizeL_append]
    simp only [Tm.sizeL]; omega
theorem Tm.flat_depth : ∀ (t : Tm), Tm.depthL t.flat ≤ t.depth
  | .mk k n s l => by
    unfold Tm.flat
    split
    · have := Tm.flatL_depth l; simp only [Tm.depth]; omega
    · split
      · simp [Tm.depthL]
      · simp [Tm.depthL]
theorem Tm.flatL_depth : ∀ (l : List Tm), Tm.depthL (Tm.flatL l) ≤ Tm.depthL l
  | [] => Nat.le_refl _
  | t :: ts => by
    have h1 := Tm.flat_depth t
    have h2 := Tm.flatL_depth ts
    unfold Tm.flatL
    rw [Tm.depthL_append]
    simp only [Tm.depthL]; omega
end
theorem length_le_sizeL : ∀ l : List Tm, l.length ≤ Tm.sizeL l
  | [] => Nat.le_refl _
  | t :: ts => by have := length_le_sizeL ts; have := Tm.size_pos t; simp only [Tm.sizeL, List.length_cons]; omega
theorem mem_right {l : List Tm} (h : Tm.rightL l = true) : ∀ x ∈ l, x.right = true := by
  induction l with
  | nil => intro x hx; cases hx
  | cons t ts ih =>
    simp only [Tm.rightL, Bool.and_eq_true] at h
    intro x hx
    rcases List.mem_cons.1 hx with rfl | hx
    · exact h.1
    · exact ih h.2 x hx
theorem mem_sizeL {l : List Tm} {x : Tm} (h : x ∈ l) : x.size ≤ Tm.sizeL l := by
  obtain ⟨i, hi, rfl⟩ := List.getElem_of_mem h
  exact Tm.size_mem hi
theorem kind_two {k n : Int} {s : ByteArray} {l : List Tm} (h : kindG (.mk k n s l) = 2) : k = 3 ∧ s = ⟨#[33]⟩ := by
  simp only [kindG] at h
  by_cases h1 : k = 1
  · rw [if_pos h1] at h; omega
  · rw [if_neg h1] at h
    by_cases h2 : k = 3 ∧ s = ⟨#[33]⟩
    · exact h2
    · rw [if_neg h2] at h
      split at h <;> omega
theorem ofG_goal {t : Tm} (hr : t.right = true) : ofG (goalG t) = t := by
  obtain ⟨k, n, s, l⟩ := t
  unfold ofG
  split
  · rename_i h
    obtain ⟨rfl, rfl⟩ := kind_two h
    obtain ⟨rfl, rfl⟩ := right_three hr
    rfl
  · rfl
/-- A conjunction of terms. -/
def conjL : List Tm → Tm
  | [] => trueT
  | [t] => t
  | t :: u :: l => .mk 4 0 ⟨#[44]⟩ [t, conjL (u :: l)]
theorem conjT_goals : ∀ {l : List Tm}, Tm.rightL l = true → conjT (l.map goalG) = conjL l
  | [], _ => rfl
  | [t], h => by simp only [Tm.rightL, Bool.and_eq_true] at h; simp [conjT, conjL, ofG_goal h.1]
  | t :: u :: l, h => by
    simp only [Tm.rightL, Bool.and_eq_true] at h
    have := conjT_goals (l := u :: l) (by simp [Tm.rightL, h.2])
    simp only [List.map_cons] at this
    simp [conjT, conjL, ofG_goal h.1, this]
theorem conjL_flat : ∀ {l : List Tm}, (∀ x ∈ l, x.flat = [x]) → (conjL l).flat = l
  | [], _ => by simp [conjL, trueT, Tm.flat]
  | [t], h => by simp [conjL, h t]
  | t :: u :: l, h => by
    have := conjL_flat (l := u :: l) (fun x hx => h x (by simp [hx]))
    simp [conjL, Tm.flat, Tm.flatL, this, h t]
theorem conjL_vars : ∀ {l : List Tm} (L : List Int), (conjL l).vars L = Tm.varsL l L
  | [], L => by simp [conjL, trueT, Tm.vars, Tm.varsL]
  | [t], L => by simp [conjL, Tm.varsL]
  | t :: u :: l, L => by
    have := conjL_vars (l := u :: l) (t.vars L)
    simp [conjL, Tm.vars, Tm.varsL, this]
theorem trueT_check : trueT.check = 0 := by decide +kernel
theorem trueT_vars (L : List Int) : trueT.vars L = L := by simp [trueT, Tm.vars, Tm.varsL]
theorem trueT_flat : trueT.flat = [] := by decide +kernel
/-- Numbered already. -/
theorem num_iota {t : Tm} {N : Nat} (hr : t.right = true) (hv : t.vars [] = iota N) : numT (t.vars []) t = t := by
  unfold numT
  rw [hv]
  refine (Tm.sub_congr _ Tm.var t fun n hn => ?_).trans (Tm.sub_var t hr)
  have : n ∈ t.vars [] := (Tm.mem_vars t [] n).2 (.inr hn)
  rw [hv] at this
  rw [placeI_iota this]
theorem goals_nil {l : List Tm} (h : l.map goalG = []) : l = [] := by simpa using h
theorem goalsR_ok {l : List Tm} (h : (goalsR l).ok = true) : goalsR l = ⟨l.map goalG, Tm.zero, true⟩ := by
  unfold goalsR at h ⊢
  split at h
  · cases h
  · rfl
theorem bodyR_ok {t : Tm} (h : (bodyR t).ok = true) : t.check = 0 ∧ t.flat.length ≤ 64 ∧ (goalsR t.flat).ok = true ∧ bodyR t = ⟨t.flat.map goalG, Tm.zero, true⟩ := by
  have e : bodyR t = bodyR t := rfl
  unfold bodyR at h
  split at h
  · cases h
  · rename_i h1
    split at h
    · cases h
    · rename_i h2
      refine ⟨by simpa using h1, by omega, h, ?_⟩
      unfold bodyR
      rw [if_neg h1, if_neg h2, goalsR_ok h]
theorem bodyR_of {t : Tm} {l : List Tm} (hc : t.check = 0) (hf : t.flat = l) (hl : l.length ≤ 64) (h : (goalsR l).ok = true) : bodyR t = ⟨l.map goalG, Tm.zero, true⟩ := by
  unfold bodyR
  rw [if_neg (by simp [hc]), hf, if_neg (by omega), goalsR_ok h]
theorem goals_append {a b : List Tm} (ha : (goalsR a).ok = true) (hb : (goalsR b).ok = true) : (goalsR (a ++ b)).ok = true := by
  unfold goalsR at *
  rw [List.find?_append]
  split at ha
  · cases ha
  · rename_i h1
    split at hb
    · cases hb
    · rename_i h2
      simp [h1, h2]
/-- Two bodies with a comma between. -/
theorem joins {a b : Tm} (ha : (bodyR a).ok = true) (hb : (bodyR b).ok = true) (hl : (bodyR a).goals.length + (bodyR b).goals.length ≤ 64) (hc : (Tm.mk 4 0 ⟨#[44]⟩ [a, b]).check = 0) :
    bodyR (.mk 4 0 ⟨#[44]⟩ [a, b]) = ⟨(bodyR a).goals ++ (bodyR b).goals, Tm.zero, true⟩ := by
  obtain ⟨_, _, h1, e1⟩ := bodyR_ok ha
  obtain ⟨_, _, h2, e2⟩ := bodyR_ok hb
  rw [e1, e2] at hl ⊢
  simp only [List.length_map] at hl
  rw [bodyR_of (l := a.flat ++ b.flat) hc (by simp [Tm.flat, Tm.flatL]) (by simpa using hl) (goals_append h1 h2)]
  simp
theorem headR_no {u : Tm} (h : (headR u).2 = false) : partsT u = (u, trueT) := by
  obtain ⟨k, n, s, l⟩ := u
  simp only [partsT]
  by_cases hi : isT ⟨#[58, 45]⟩ 2 (.mk k n s l) = true
  · simp only [isT, Bool.and_eq_true, decide_eq_true_eq] at hi
    obtain ⟨rfl, rfl, hl⟩ := hi
    simp only [headR] at h
    rw [if_neg (by decide), if_neg (by decide), hl] at h
    rw [if_pos (by decide +kernel)] at h
    cases h
  · rw [if_neg hi]
/-- A clause's term is that clause again. -/
theorem back_from {t : Tm} (hs : t.small) (h : (fromR t).ok = true) (hk : (backR (fromR t).c).kind ≠ 0) : fromR (backR (fromR t).c) = fromR t := by
  unfold fromR at h
  split at h
  · cases h
  rename_i hc
  have hc : t.check = 0 := by simpa using hc
  have e0 : fromR t = fromU (numT (t.vars []) t) (t.vars []).length := by unfold fromR; rw [if_neg (by simp [hc])]
  rw [e0] at hk ⊢
  have hUr := (Tm.num_like (Tm.right_of_check hc) hs).1
  have hUv := Tm.num_vars0 t
  have hUc := Tm.num_check hs hc
  generalize numT (t.vars []) t = U at *
  generalize (t.vars []).length = N at *
  unfold fromU at h
  split at h
  · cases h
  rename_i h1
  split at h
  · cases h
  rename_i h2
  split at h
  · cases h
  rename_i h3
  have h2 : (headR (partsT U).1).2 = false := by simpa using h2
  have h3 : (bodyR (partsT U).2).ok = true := by simpa using h3
  have e1 : fromU U N = ⟨⟨(partsT U).1, (bodyR (partsT U).2).goals, N⟩, Tm.zero, true⟩ := by unfold fromU; rw [if_neg h1, if_neg (by simp [h2]), if_neg (by simp [h3])]
  rw [e1] at hk ⊢
  obtain ⟨g1, g2, g3, g4⟩ := bodyR_ok h3
  dsimp only at hk ⊢
  rw [g4] at hk ⊢
  dsimp only at hk ⊢
  have hbr := Tm.right_of_check g1
  have hfr := Tm.flat_right _ hbr
  -- the parts of U
  have hU : (partsT U).1.right = true ∧ (partsT U).2.vars ((partsT U).1.vars []) = iota N := by
    obtain ⟨k, n, s, l⟩ := U
    simp only [partsT]
    by_cases hi : isT ⟨#[58, 45]⟩ 2 (.mk k n s l) = true
    · rw [if_pos hi]
      simp only [isT, Bool.and_eq_true, decide_eq_true_eq] at hi
      obtain ⟨rfl, rfl, hl⟩ := hi
      obtain ⟨a, b, rfl⟩ := Tm.len2 (by omega : l.length = 2)
      simp only [Tm.right, Tm.rightL, Bool.and_eq_true] at hUr
      refine ⟨hUr.2.1, ?_⟩
      simpa [Tm.vars, Tm.varsL] using hUv
    · rw [if_neg hi]
      refine ⟨hUr, ?_⟩
      show trueT.vars ((Tm.mk k n s l).vars []) = iota N
      rw [trueT_vars]
      exact hUv
  obtain ⟨hhr, hv⟩ := hU
  generalize (partsT U).1 = H at *
  generalize (partsT U).2 = B at *
  have hbc : (backT ⟨H, B.flat.map goalG, N⟩).check = 0 := by
    unfold backR at hk
    split at hk
    · assumption
    · exact absurd rfl hk
  have eb : backR ⟨H, B.flat.map goalG, N⟩ = backT ⟨H, B.flat.map goalG, N⟩ := by unfold backR; rw [if_pos hbc]
  rw [eb]
  unfold backT at hbc ⊢
  dsimp only at hbc ⊢
  by_cases hg : B.flat.map goalG = []
  · rw [if_pos hg] at hbc ⊢
    have hfl := goals_nil hg
    have hHv : H.vars [] = iota N := by
      have := Tm.flat_vars B (H.vars []) hbr
      rw [hfl, hv] at this
      simpa [Tm.varsL] using this
    unfold fromR
    rw [if_neg (by simp [hbc]), num_iota (Tm.right_of_check hbc) hHv, hHv]
    unfold fromU
    rw [headR_no h2]
    dsimp only
    rw [trueT_flat, if_neg (by simp), h2, if_neg (by simp), bodyR_of trueT_check trueT_flat (by simp) (by decide +kernel)]
    simp [hfl]
  · rw [if_neg hg] at hbc ⊢
    rw [conjT_goals hfr] at hbc ⊢
    have hcc := check_child hbc (conjL B.flat) (by simp)
    have huv : (Tm.mk 4 0 ⟨#[58, 45]⟩ [H, conjL B.flat]).vars [] = iota N := by
      simp only [Tm.vars, Tm.varsL, conjL_vars, Tm.flat_vars B _ hbr]
      simpa using hv
    unfold fromR
    rw [if_neg (by simp [hbc]), num_iota (Tm.right_of_check hbc) huv, huv]
    unfold fromU
    have ep : partsT (Tm.mk 4 0 ⟨#[58, 45]⟩ [H, conjL B.flat]) = (H, conjL B.flat) := by simp [partsT, isT]
    rw [ep]
    dsimp only
    have hff := conjL_flat (Tm.flat_flat B)
    rw [hff, if_neg (by omega), h2, if_neg (by simp), bodyR_of hcc hff g2 g3]
    simp
end Go.Ab
end

section
namespace Go.Ab
theorem conjL_size : ∀ l : List Tm, (conjL l).size ≤ 2 * Tm.sizeL l + 1
  | [] => by simp [conjL, trueT, Tm.size, Tm.sizeL]
  | [t] => by simp [conjL, Tm.sizeL]; omega
  | t :: u :: l => by
    have h := conjL_size (u :: l)
    have := Tm.size_pos t
    simp only [conjL, Tm.size, Tm.sizeL] at h ⊢
    omega
theorem partsT_size (U : Tm) : (partsT U).1.size ≤ U.size ∧ (partsT U).2.size ≤ U.size := by
  obtain ⟨k, n, s, l⟩ := U
  have hp := Tm.size_pos (.mk k n s l)
  simp only [partsT]
  split
  · split
    · rename_i a b _
      simp only [Tm.size, Tm.sizeL]; omega
    · exact ⟨Nat.le_refl _, by simp [trueT, Tm.size, Tm.sizeL]⟩
  · refine ⟨Nat.le_refl _, ?_⟩
    have : trueT.size = 1 := by simp [trueT, Tm.size, Tm.sizeL]
    rw [this]; exact hp
/-- A clause's term is not much larger than what it was. -/
theorem back_small {t : Tm} (hs : t.small) (h : (fromR t).ok = true) : (backT (fromR t).c).small ∧ (backR (fromR t).c).small := by
  have key : (backT (fromR t).c).small := by
    unfold fromR at h
    split at h
    · cases h
    rename_i hc
    have hc : t.check = 0 := by simpa using hc
    have e0 : fromR t = fromU (numT (t.vars []) t) (t.vars []).length := by unfold fromR; rw [if_neg (by simp [hc])]
    rw [e0]
    have hUr := Tm.num_like (Tm.right_of_check hc) hs
    have hsz := ((check_iff t).1 hc).2.2
    rw [← hUr.2.1] at hsz
    generalize numT (t.vars []) t = U at *
    unfold fromU at h ⊢
    split at h
    · cases h
    rename_i h1
    split at h
    · cases h
    rename_i h2
    split at h
    · cases h
    rename_i h3
    rw [if_neg h1, if_neg h2, if_neg h3]
    dsimp only
    have h3 : (bodyR (partsT U).2).ok = true := by simpa using h3
    obtain ⟨g1, g2, g3, g4⟩ := bodyR_ok h3
    have hp := partsT_size U
    have hfs := Tm.flat_size (partsT U).2
    rw [g4]
    unfold backT
    dsimp only
    split
    · unfold Tm.small; omega
    · rw [conjT_goals (Tm.flat_right _ (Tm.right_of_check g1))]
      have := conjL_size (partsT U).2.flat
      unfold Tm.small
      simp only [Tm.size, Tm.sizeL]
      omega
  refine ⟨key, ?_⟩
  unfold backR
  split
  · exact key
  · simp [Tm.zero, Tm.small, Tm.size, Tm.sizeL]
theorem backR_kind (c : Cls) : (backR c).kind = 0 ∨ (backR c).check = 0 := by
  unfold backR
  split
  · right; assumption
  · left; rfl
/-- Names and arities of what is built in. -/
def built : List (ByteArray × Nat) := b0.map (·, 0) ++ b1.map (·, 1) ++ b2.map (·, 2) ++ b3.map (·, 3) ++ [1, 2, 3, 4].map (⟨#[99, 97, 108, 108]⟩, ·) ++ [1, 2].map (⟨#[58, 45]⟩, ·)
theorem inL_mem' (s : ByteArray) : ∀ l : List ByteArray, inL s l = true → s ∈ l
  | [], h => by simp [inL] at h
  | x :: l, h => by
    simp only [inL, Bool.or_eq_true, decide_eq_true_eq] at h
    rcases h with h | h
    · simp [h]
    · simp [inL_mem' s l h]
theorem built_mem {s : ByteArray} {n : Int} (h : builtB s n = true) : ∃ k : Nat, n = k ∧ (s, k) ∈ built := by
  unfold builtB at h
  unfold built
  split at h
  · rename_i h0
    have e : n = 0 := by simpa using h
    exact ⟨0, by omega, by have := inL_mem' s _ h0; simp [this]⟩
  split at h
  · rename_i _ h0
    have e : n = 1 := by simpa using h
    exact ⟨1, by omega, by have := inL_mem' s _ h0; simp [this]⟩
  split at h
  · rename_i _ _ h0
    have e : n = 2 := by simpa using h
    exact ⟨2, by omega, by have := inL_mem' s _ h0; simp [this]⟩
  split at h
  · rename_i _ _ _ h0
    have e : n = 3 := by simpa using h
    exact ⟨3, by omega, by have := inL_mem' s _ h0; simp [this]⟩
  split at h
  · rename_i h0
    subst h0
    simp only [Bool.and_eq_true, decide_eq_true_eq] at h
    have : n = 1 ∨ n = 2 ∨ n = 3 ∨ n = 4 := by omega
    rcases this with e | e | e | e
    · exact ⟨1, by omega, by simp⟩
    · exact ⟨2, by omega, by simp⟩
    · exact ⟨3, by omega, by simp⟩
    · exact ⟨4, by omega, by simp⟩
  split at h
  · rename_i h0
    subst h0
    simp only [Bool.or_eq_true, decide_eq_true_eq] at h
    rcases h with e | e
    · exact ⟨1, by omega, by simp⟩
    · exact ⟨2, by omega, by simp⟩
  · cases h
def varsN (n : Nat) : List Tm := (iota n).map Tm.var
def isPerm : Tm → Bool
  | .mk _ _ _ [.mk _ _ s _] => decide (s = ⟨#[112, 101, 114, 109]⟩)
  | _ => false
def compP (s : ByteArray) (l : List Tm) : Tm := if l.isEmpty then .mk 3 0 s [] else .mk 4 0 s l
def permOk (p : ByteArray × Nat) : Bool := decide (p.1 = ⟨#[58, 45]⟩) || (!(fromR (compP p.1 (varsN p.2))).ok && isPerm (fromR (compP p.1 (varsN p.2))).ball)
theorem built_perm : built.all permOk = true := by decide +kernel
end Go.Ab
end
