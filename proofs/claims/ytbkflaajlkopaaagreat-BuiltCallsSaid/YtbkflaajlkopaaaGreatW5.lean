/- Contracts of the functions of package built and of its answer: each at terms that may be. -/
import Derived.Test.YtbkflaajlkopaaaGreatW4
import Derived.RangeFuncNested
import Derived.RangeFuncBound
import Derived.RangeFuncCalls
import Derived.RangeFuncLeaves
import Derived.Shelf.Abstract
import Derived.Shelf.RegionOpen
import Derived.WalkKit
import Derived.OwnWalkIn
import Derived.TacticsInMore
import Derived.LoopNIn
import Derived.LoopIn
set_option linter.unusedSimpArgs false
set_option linter.unusedVariables false
set_option linter.unusedSectionVars false
set_option linter.unnecessarySimpa false
section
open Go Go.Ab Go.Proofs
namespace Go.T1
/-- A builder's struct. -/
def oSt (st : St) (bb s : Nat) (p : Int) : St := st.set bb (.cells [.ptr s 0, .sc (.int .i64 p)])
def oP (p : Int) (n : Nat) : Int := min (p + n) 4097
def oQ (B : Bs) (t : Tm) (p : Int) (st : St) (bb s : Nat) (r : AV) (st' : St) : Prop := ∃ u : Tm, r = u.av 26 ∧ st' = oSt st bb s (oP p (t.sub (sg B)).size) ∧ (p + (t.sub (sg B)).size ≤ 4096 → u = t.sub (sg B))
def oFr (N : Nat) (w : Tm) (k n : Int) (s : ByteArray) (i : Nat) (al : Bool) (us : List Tm) : St :=
  [.cells (w.cells 26), .cells [.sc (.int .i64 0), .sc (.int .i64 0), .sc (.string .empty), .nils], .cells [.sc (.int .i64 k), .sc (.int .i64 n), .sc (.string s), .own (N + 3) i], .row 26 i al (Tm.cellsL 26 us)]
def oInv (B : Bs) (st : St) (bb s : Nat) (p : Int) (N : Nat) (w : Tm) (k n : Int) (sn : ByteArray) (l : List Tm) (i : Nat) (Y : St) : Prop :=
  ∃ al us, us.length = i ∧ (p + 1 + Tm.sizeL (Tm.subL (sg B) (l.take i)) ≤ 4096 → us = Tm.subL (sg B) (l.take i)) ∧ Y = oSt st bb s (oP (p + 1) (Tm.sizeL (Tm.subL (sg B) (l.take i)))) ++ oFr N w k n sn i al us
theorem sizeL_sub_take {f : Int → Tm} {l : List Tm} {i : Nat} (h : i < l.length) : Tm.sizeL (Tm.subL f (l.take (i + 1))) = Tm.sizeL (Tm.subL f (l.take i)) + (l[i].sub f).size := by
  rw [Tm.subL_take h, Tm.sizeL_append]; simp [Tm.sizeL]
end Go.T1
end

section
open Go Go.Ab Go.Proofs
namespace Go.T1
/-- What a term comes to; or what is wrong with that. -/
def appR (B : Bs) (t : Tm) : Tm × Int := if 4096 < (t.sub (sg B)).size then (Tm.zero, 62) else if 200 < (t.sub (sg B)).depth then (Tm.zero, 61) else (t.sub (sg B), 0)
def appC (B : Bs) (t : Tm) : Tm × Int := if t.check ≠ 0 then (Tm.zero, t.check) else appR B t
def appV (p : Tm × Int) : AV := .tup [p.1.av 26, .sc (.int .i64 p.2)]
theorem zero_av : Tm.zero.av 26 = .agg [.sc (.int .i64 0), .sc (.int .i64 0), .sc (.string .empty), .lst 26 []] := rfl
theorem check_right {u : Tm} (h : u.right = true) (hs : ¬ 4096 < u.size) : u.check = if 200 < u.depth then 61 else 0 := by
  unfold Tm.check
  rw [if_neg (by simp [h]), if_neg hs]
set_option maxRecDepth 100000 in
theorem UnifyN_c (a b : Tm) : PureCall T Tryz.prog 104 [.sc (.pointer none), a.av 26, b.av 26] (.tup [.sc (.bool false), .sc (.int .i64 6)]) := by
  refine PureCall.of_vc hT [38] [(12, 5), (14, 2)] follows Tryz.call104 Tryz.func104 rfl (by kernel_rfl) (by simp [AV.pure, AV.pureL]) (by simp [AV.pure, AV.pureL]) ?_
  unfold Tryz.f104
  simp
  refine vcCall_at madeN_c ?_
  simp
set_option maxRecDepth 100000 in
theorem UndoN_c (i : Int) : PureCall T Tryz.prog 132 [.sc (.pointer none), .sc (.int .i64 i)] (.sc (.int .i64 6)) := by
  refine PureCall.of_vc hT [] [(10, 6)] follows Tryz.call132 Tryz.func132 rfl (by kernel_rfl) (by simp [AV.pure, AV.pureL]) (by simp [AV.pure, AV.pureL]) ?_
  unfold Tryz.f132
  simp
  refine vcCall_at madeN_c ?_
  simp
/-- What the package's Unify leaves. -/
def PQ (V : List Int) (a b : Tm) (st : St) (r : AV) (st' : St) : Prop :=
  (mayE a b ≠ 0 ∧ r = .tup [.sc (.pointer none), .sc (.bool false)] ∧ st' = st ++ newSt st.length) ∨
  (mayE a b = 0 ∧ ∃ rb B' g' al', r = .tup [bif rb then .ptr (st.length + 1) 0 else .sc (.pointer none), .sc (.bool rb)] ∧ st' = sST (st ++ newSt st.length) (st.length + 1) st.length (st.length + 2) g' al' B' ∧ (B' ≠ [] → al' = true) ∧ OkB B' ∧ BsV V B' ∧ (rb = true → Un [] [(a, b)] (some B')) ∧ (rb = false → Un [] [(a, b)] none ∧ B' = []))
set_option maxRecDepth 100000 in
theorem PUnify_c (V : List Int) (hVs : V.length ≤ 1000000000) (a b : Tm) (sa : a.small) (sb : b.small) (va : inV V a) (vb : inV V b) (st : St) :
    ICall T Tryz.prog 73 [a.av 26, b.av 26] st (PQ V a b st) := by
  refine ICall.of_vcU hT [] [(1, 0), (2, 3)] follows Tryz.call73 Tryz.func73 rfl (by kernel_rfl) fun hfix => ?_
  unfold Tryz.f73
  simp
  refine vcICall_of (New_c st) ?_
  rintro r st' ⟨rfl, rfl⟩ _
  simp
  refine vcICall_of (Unify_c V hVs OkB_nil (fun n t h => by cases h) a b sa sb va vb _ (st.length + 1) st.length (st.length + 2) 0 false (SS.new st)) ?_
  rintro r st' (⟨hm, rfl, rfl⟩ | ⟨hm, rb, B', g', al', rfl, rfl, hal', hok, hV, h1, h2⟩) _
  · simp [hm]
    exact ⟨_, leV_refl _, .inl ⟨hm, rfl, rfl⟩⟩
  · cases rb
    · simp
      exact ⟨_, leV_refl _, .inr ⟨hm, false, B', g', al', rfl, rfl, hal', hok, hV, h1, h2⟩⟩
    · simp
      exact ⟨_, leV_refl _, .inr ⟨hm, true, B', g', al', rfl, rfl, hal', hok, hV, h1, h2⟩⟩
end Go.T1
end

section
open Go Go.Ab Go.Proofs
namespace Go.T1
/-- What a variable is bound to; or nothing. -/
def boundV (B : Bs) (n : Int) : AV := match lookB B n with | some u => .tup [u.av 26, .sc (.bool true)] | none => .tup [Tm.zero.av 26, .sc (.bool false)]
/-- The answer's bindings, as a row. -/
def bindsL (B : Bs) : List (List AV) := B.map fun p => .sc (.int .i64 p.1) :: p.2.cells 26
@[simp] theorem bindsL_len (B : Bs) : (bindsL B).length = B.length := by simp [bindsL]
@[simp] theorem bindsL_append (A B : Bs) : bindsL (A ++ B) = bindsL A ++ bindsL B := by simp [bindsL]
theorem bindsL_pure : ∀ B : Bs, AV.pureM (bindsL B) = true
  | [] => rfl
  | p :: B => by have := bindsL_pure B; unfold bindsL at this ⊢; simp [AV.pureM, AV.pureL, AV.pure, this]
@[simp] theorem bindsL_cut (N : Nat) (Z : St) (B : Bs) : AV.cutM N Z (bindsL B) = bindsL B := cut_pureM N Z _ (bindsL_pure B)
/-- Where the answer's bindings lie. -/
structure RS (st : St) (x a L g : Nat) (al : Bool) (B : Bs) : Prop where
  hx : st[x]? = some (.cells [.own L g, .mp a])
  ha : st[a]? = some (.map (mapOf (keys B) 0))
  hL : st[L]? = some (.row 104 g al (bindsL B))
  hal : B ≠ [] → al = true
  xa : x ≠ a
  xL : x ≠ L
  aL : a ≠ L
def rST (st : St) (x a L g : Nat) (al : Bool) (B : Bs) : St := ((st.set a (.map (mapOf (keys B) 0))).set L (.row 104 g al (bindsL B))).set x (.cells [.own L g, .mp a])
section
variable {st : St} {x a L g g' : Nat} {al al' : Bool} {B B' : Bs}
theorem RS.same (h : RS st x a L g al B) : rST st x a L g al B = st := by
  unfold rST; rw [set_same h.ha, set_same h.hL, set_same h.hx]
theorem RS.put (h : RS st x a L g al B) (h' : B' ≠ [] → al' = true) : RS (rST st x a L g' al' B') x a L g' al' B' := by
  refine ⟨?_, ?_, ?_, h', h.xa, h.xL, h.aL⟩
  · unfold rST; exact get_set (get_ne (get_ne h.hx (Ne.symm h.xa)) (Ne.symm h.xL))
  · unfold rST; exact get_ne (get_ne (get_set h.ha) (Ne.symm h.aL)) h.xa
  · unfold rST; exact get_ne (get_set (get_ne h.hL h.aL)) h.xL
theorem rST_other {i : Nat} {b : Blk} (h : st[i]? = some b) (h1 : x ≠ i) (h2 : a ≠ i) (h3 : L ≠ i) : (rST st x a L g al B)[i]? = some b := get_ne (get_ne (get_ne h h2) h3) h1
theorem rST_app (h : RS st x a L g al B) (l : St) : rST (st ++ l) x a L g' al' B' = rST st x a L g' al' B' ++ l := by
  unfold rST; rw [set_app h.ha, set_app (get_ne h.hL h.aL), set_app (get_ne (get_ne h.hx (Ne.symm h.xa)) (Ne.symm h.xL))]
theorem RS.app (h : RS st x a L g al B) (l : St) : RS (st ++ l) x a L g al B := ⟨get_app h.hx l, get_app h.ha l, get_app h.hL l, h.hal, h.xa, h.xL, h.aL⟩
theorem rST_rST (hxa : x ≠ a) (hxL : x ≠ L) (haL : a ≠ L) (st : St) (g g' : Nat) (al al' : Bool) (B B' : Bs) : rST (rST st x a L g al B) x a L g' al' B' = rST st x a L g' al' B' := by
  unfold rST
  rw [set_comm _ hxa, set_comm _ hxL, List.set_set, set_comm (st.set a _) (Ne.symm haL), List.set_set, List.set_set]
theorem rST_pre {X Y : St} (h : Pre X Y) : Pre (rST X x a L g al B) (rST Y x a L g al B) := ((h.set2 _ _).set2 _ _).set2 _ _
theorem rST_len : (rST st x a L g al B).length = st.length := by simp [rST]
theorem fix_RS (h : Fix st) (hS : RS st x a L g al B) (g' : Nat) (al' : Bool) (B' : Bs) : Fix (rST st x a L g' al' B') := by
  have h1 := lt_of_get hS.ha
  have h2 := lt_of_get hS.hL
  unfold rST
  refine fix_set (fix_set (fix_set h a fun N S _ => by rw [cut_map, mapOf_cut]) L fun N S _ => by rw [cut_row, bindsL_cut]) x fun N S hN => ?_
  simp at hN
  simp [cut_cells, AV.cutL, AV.cut]; omega
theorem RS.lts (h : RS st x a L g al B) : x < st.length ∧ a < st.length ∧ L < st.length := ⟨lt_of_get h.hx, lt_of_get h.ha, lt_of_get h.hL⟩
theorem RS.of_pre {Y : St} (h : RS st x a L g al B) (hY : Pre st Y) : RS Y x a L g al B := ⟨hY.get h.hx, hY.get h.ha, hY.get h.hL, h.hal, h.xa, h.xL, h.aL⟩
end
/-- Where a bound variable stands. -/
theorem placeI_lookB : ∀ (B : Bs) (n : Int) (i : Nat), match lookB B n with
    | some t => ∃ j : Nat, j < B.length ∧ placeI (keys B) n i = (i + j : Nat) ∧ B[j]? = some (n, t)
    | none => n ∉ keys B
  | [], n, i => by simp [lookB]
  | (m, u) :: B, n, i => by
    have ih := placeI_lookB B n (i + 1)
    simp only [lookB]
    by_cases h : m = n
    · subst h
      simp only [if_pos, keys_cons, placeI]
      exact ⟨0, by simp, by simp, by simp⟩
    · simp only [if_neg h]
      cases hl : lookB B n with
      | none =>
        rw [hl] at ih
        simp only [keys_cons, List.mem_cons, not_or]
        exact ⟨fun e => h e.symm, ih⟩
      | some t =>
        rw [hl] at ih
        obtain ⟨j, h1, h2, h3⟩ := ih
        simp only [keys_cons, placeI, if_neg h]
        exact ⟨j + 1, by simp; omega, by rw [h2]; congr 1; omega, by simpa using h3⟩
set_option maxRecDepth 100000 in
theorem rBound_c {B : Bs} (n : Int) (st : St) (x a L g : Nat) (al : Bool) (h : RS st x a L g al B) :
    ICall T Tryz.prog 97 [.ptr x 0, .sc (.int .i64 n)] st (fun r st' => r = boundV B n ∧ st' = st) := by
  have hx := h.hx
  have ha := h.ha
  have hL := h.hL
  have g1 := get_app hx
  have g2 := get_app ha
  have g3 := get_app hL
  have q0 := fun x l => ap0 (X := st) rfl x l
  refine ICall.of_vc hT [] [] follows Tryz.call97 Tryz.func97 rfl (by kernel_rfl) fun hfix => ?_
  unfold Tryz.f97
  have hp := placeI_lookB B n 0
  cases hl : lookB B n with
  | none =>
    rw [hl] at hp
    simp [g1, g2, mapOf_get, hp]
    refine endP_mk (boundV B n) (by simp) (by simp [boundV, hl, Tm.zero, Tm.cells, Tm.cellsL]; rfl) ⟨rfl, ?_⟩
    exact ((Pre.refl st).app _).cut hfix rfl
  | some t =>
    rw [hl] at hp
    obtain ⟨j, h1, h2, h3⟩ := hp
    have hk : n ∈ keys B := Classical.not_not.1 fun hh => by rw [look_none.2 hh] at hl; cases hl
    have hal : al = true := h.hal (by rintro rfl; simp at h1)
    have hrow : (bindsL B)[j]? = some (.sc (.int .i64 n) :: t.cells 26) := by simp [bindsL, h3]
    have hrow2 : ∀ h, (bindsL B)[j]'h = .sc (.int .i64 n) :: t.cells 26 := fun h => by rw [List.getElem?_eq_getElem h] at hrow; exact Option.some.inj hrow
    simp [g1, g2, g3, mapOf_get, hk, h2, hrow2, hal, h1]
    refine endP_mk (boundV B n) (by simp) (by simp [boundV, hl]) ⟨rfl, ?_⟩
    exact ((Pre.refl st).app _).cut hfix rfl
end Go.T1
end

section
open Go Go.Ab Go.Proofs
namespace Go.T1
set_option maxRecDepth 100000 in
theorem rWalk_c {B : Bs} (hB : OkB B) (t : Tm) (st : St) (x a L g : Nat) (al : Bool) (h : RS st x a L g al B) :
    ICall T Tryz.prog 98 [.ptr x 0, t.av 26] st (fun r st' => r = (wk B t).av 26 ∧ st' = st) := by
  refine ICall.of_vc hT [3] [(2, 3)] follows Tryz.call98 Tryz.func98 rfl (by kernel_rfl) fun hfix => ?_
  unfold Tryz.f98
  simp
  refine vcC_loop [] (fun w σ Y => ∃ u : Tm, w = wkn B u ∧ wk B u = wk B t ∧ Pre st Y ∧ Y[st.length]? = some (.cells (u.cells 26)) ∧ (∃ z, z.length = 4 ∧ Y[st.length + 1]? = some (.cells z)) ∧ σ 0 = .ptr x 0 ∧ σ 3 = .ptr st.length 0 ∧ σ 4 = .ptr (st.length + 1) 0) (wkn B t) ?_ ?_
  · simp
    exact ⟨t, rfl, rfl, (Pre.refl st).app _, by simp⟩
  rintro w σ Y ⟨⟨k, n, sn, l⟩, rfl, hw, hP, h1, ⟨z, hz, h2⟩, s0, s3, s4⟩
  have hR := h.of_pre hP
  simp [s0, s3, s4, h1, Tm.cells]
  refine ⟨fun hk => ?_, fun hk => ?_⟩
  · subst hk
    refine vcICall_of (rBound_c n _ x a L g al hR) ?_
    rintro r st' ⟨rfl, rfl⟩ _
    cases hl : lookB B n with
    | none =>
      simp [s0, s3, s4, h1, h2, boundV, hl, hz, Tm.cells, List.drop_of_length_le (Nat.le_of_eq hz)]
      have e : wk B t = .mk 1 n sn l := by rw [← hw]; exact (wk_none fun q hq => by simp [Tm.vn] at hq; rw [← hq]; exact hl).1
      have hP' := hP.set (i := st.length + 1) (by omega) (.cells [.sc (.int .i64 1), .sc (.int .i64 n), .sc (.string sn), .lst 26 (Tm.cellsL 26 l)])
      rw [e]
      refine endP_mk ((Tm.mk 1 n sn l).av 26) ?_ ?_ ⟨rfl, hP'.cut hfix rfl⟩
      · simp [s4, get_set h2]
      · simp [s4, get_set h2, Tm.cells]
    | some u =>
      simp [s0, s3, s4, h1, h2, boundV, hl, hz]
      obtain ⟨e1, e2⟩ := wk_step hB (t := .mk 1 n sn l) (by simp [Tm.vn]) hl
      refine ⟨wkn B u, by omega, u, rfl, by rw [← e1, hw], hP.set (Nat.le_refl _) _, get_set h1⟩
  · have e : wk B t = .mk k n sn l := by rw [← hw]; exact (wk_none fun q hq => by simp [Tm.vn, hk] at hq).1
    simp [h2, hz, List.drop_of_length_le (Nat.le_of_eq hz)]
    have hP' := hP.set (i := st.length + 1) (by omega) (.cells [.sc (.int .i64 k), .sc (.int .i64 n), .sc (.string sn), .lst 26 (Tm.cellsL 26 l)])
    rw [e]
    refine endP_mk ((Tm.mk k n sn l).av 26) ?_ ?_ ⟨rfl, hP'.cut hfix rfl⟩
    · simp [s4, get_set h2]
    · simp [s4, get_set h2, Tm.cells]
end Go.T1
end

section
open Go Go.Ab Go.Proofs
namespace Go.T1
set_option maxRecDepth 100000 in
/-- The answer's search for a variable. -/
theorem rWithin_c {B : Bs} (hB : OkB B) (n : Int) (hn : n ∉ keys B) : ∀ (M : Nat) (t : Tm), far B t = M → t.right = true → ∀ (st : St) (x a L q g : Nat) (al : Bool) (S : List Int), RS st x a L g al B → st[q]? = some (.map (boolMap S)) → q ≠ a → Seen B n t S →
    ICall T Tryz.prog 126 [.ptr x 0, .sc (.int .i64 n), t.av 26, .mp q] st (WQ B n (lies B n t) q st S (.bool (lies B n t))) := by
  intro M
  induction M using Nat.strongRecOn with
  | _ M ih =>
    rintro ⟨k, w, sn, l⟩ hM hr st x a L q g al S hR hq hqa hS
    have hqx : q ≠ x := by rintro rfl; rw [hR.hx] at hq; cases hq
    have hqL : q ≠ L := by rintro rfl; rw [hR.hL] at hq; cases hq
    have hRq : ∀ S', RS (st.set q (.map (boolMap S'))) x a L g al B := fun S' => ⟨get_ne hR.hx hqx, get_ne hR.ha hqa, get_ne hR.hL hqL, hR.hal, hR.xa, hR.xL, hR.aL⟩
    have r2 := hr
    simp only [Tm.right, Bool.and_eq_true] at r2
    refine ICall.of_vc hT [] [(4, 3), (8, 4), (12, 8)] follows Tryz.call126 Tryz.func126 rfl (by kernel_rfl) fun hfix => ?_
    unfold Tryz.f126
    have fin : ∀ (σ : Slots) (Y : St) (b : Bool) S', σ 8 = .sc (.bool b) → Pre (st.set q (.map (boolMap S'))) Y → lies B n (.mk k w sn l) = b → (b = false → Seen2 B n S S') → endP T [ResultVar.tmp 8] st.length (WQ B n (lies B n (.mk k w sn l)) q st S (.bool (lies B n (.mk k w sn l)))) σ Y := by
      intro σ Y b S' h8 hY hb hS'
      exact endP_mk (.sc (.bool b)) (by simp) (by simp [h8]) ⟨S', by rw [hb], hY.cut (fix_bool hfix q S') (by simp), by rw [hb]; exact hS'⟩
    have same : Pre (st.set q (.map (boolMap S))) st := by rw [set_same hq]; exact Pre.refl st
    simp [Tm.cells]
    refine ⟨fun hk => ?_, fun hk => ?_⟩
    · subst hk
      have hv : (Tm.mk 1 w sn l).vn = some w := by simp [Tm.vn]
      have et : Tm.mk 1 w sn l = Tm.var w := (Tm.vn_some hv hr).1
      refine ⟨fun hwn => ?_, fun hwn => ?_⟩
      · have hl : lookB B w = none := look_none.2 (by rw [hwn]; exact hn)
        exact fin _ _ true S rfl same (by rw [lies_unb (n := n) hv hl, hwn]; simp) (by simp)
      refine vcICall_of (rBound_c w _ x a L g al hR) ?_
      rintro r st' ⟨rfl, rfl⟩ _
      cases hl : lookB B w with
      | none =>
        have e := lies_unb (n := n) hv hl
        simp [boundV, hl, hq]
        by_cases hw : w ∈ S <;> simp [boolMap_get, hw] <;> exact fin _ _ false S rfl same (by rw [e]; simp; exact fun e => hwn e.symm) (fun _ => Seen2.refl B n S)
      | some u =>
        have e := lies_step (n := n) hB hv hl hr
        have hwk : w ∈ keys B := Classical.not_not.1 fun h => by rw [look_none.2 h] at hl; cases hl
        by_cases hw : w ∈ S
        · simp [boundV, hl, hq, boolMap_get, hw]
          have hlf : lies B n (.mk 1 w sn l) = false := by
            rw [et]
            rcases (hS w hw).2 with h | h
            · exact h
            · rw [et] at h; omega
          exact fin _ _ false S rfl same hlf (fun _ => Seen2.refl B n S)
        · have hfar := far_step hB hv hl hr
          simp [boundV, hl, hq, boolMap_get, hw, boolMap_put]
          refine vcICall_of (ih (far B u) (by omega) u rfl (OkB_look hB hl) _ x a L q g al (S ++ [w]) (hRq _) (get_set hq) hqa fun v hv => ?_) ?_
          · rcases List.mem_append.1 hv with h | h
            · obtain ⟨h1, h2⟩ := hS v h
              exact ⟨h1, h2.imp id fun h => by omega⟩
            · simp at h; subst h
              rw [et] at hfar
              exact ⟨hwk, .inr hfar⟩
          · rintro r st' ⟨S', rfl, rfl, hS'⟩ _
            simp
            refine fin _ _ (lies B n u) S' rfl (Pre.refl _) e fun h v hv => ?_
            rcases hS' h v hv with h1 | h1
            · rcases List.mem_append.1 h1 with h1 | h1
              · exact .inl h1
              · simp at h1; subst h1
                exact .inr ⟨hwk, by rw [← et, e]; exact h⟩
            · exact .inr h1
    · refine vcC_loop [] (fun f σ Y => ∃ (i : Nat), f = l.length - i ∧ i ≤ l.length ∧ (∃ S', Seen2 B n S S' ∧ (l.take i).any (lies B n) = false ∧ Y = st.set q (.map (boolMap S'))) ∧ σ 0 = .ptr x 0 ∧ σ 1 = .sc (.int .i64 n) ∧ σ 3 = .mp q ∧ σ 6 = .eptr ((Tm.mk k w sn l).cells 26) ∧ σ 11 = .sc (.int .i64 i)) l.length ⟨0, ?_⟩ ?_
      · simp [Tm.cells]; exact ⟨S, Seen2.refl B n S, (set_same hq).symm⟩
      rintro f σ Y ⟨i, rfl, hi, ⟨S', hS', hany, rfl⟩, s0, s1, s3, s6, s11⟩
      rcases Nat.lt_or_ge i l.length with hlt | hge
      · simp [s0, s1, s3, s6, s11, hlt, Tm.cells]
        intro hb1 hb2
        have hfar := far_arg (B := B) (n := w) (s := sn) hk (List.getElem_mem hlt)
        refine vcICall_of (ih (far B l[i]) (by omega) l[i] rfl (rightL_mem r2.2 _ (List.getElem_mem hlt)) _ x a L q g al S' (hRq _) (get_set hq) hqa fun v hv => ?_) ?_
        · rcases hS' v hv with h | ⟨h1, h2⟩
          · obtain ⟨h1, h2⟩ := hS v h
            exact ⟨h1, h2.imp id fun h => by omega⟩
          · exact ⟨h1, .inl h2⟩
        · rintro r st' ⟨S2, rfl, rfl, hS2⟩ _
          simp [s0, s1, s3, s6, s11]
          refine ⟨fun hp => ?_, fun hp => ⟨by unfold i64ok; omega, l.length - (i + 1), by omega, i + 1, rfl, by omega, ?_⟩⟩
          · refine fin _ _ true S2 rfl (Pre.refl _) ?_ (by simp)
            rw [lies_args hk]; exact List.any_eq_true.2 ⟨_, List.getElem_mem hlt, hp⟩
          · refine ⟨⟨S2, Seen2.trans hS' (hS2 hp), ?_, rfl⟩, rfl, by omega⟩
            have : (l.take (i + 1)).any (lies B n) = false := by rw [any_take hlt, hany, hp]; rfl
            simpa using this
      · obtain rfl : i = l.length := by omega
        simp [s0, s1, s3, s6, s11, Tm.cells]
        intro _ _
        rw [List.take_length] at hany
        exact fin _ _ false S' rfl (Pre.refl _) (by rw [lies_args hk]; exact hany) (fun _ => hS')
/-- What comes of the answer's binding. -/
def rBQ (B : Bs) (n : Int) (t : Tm) (st : St) (x a L g : Nat) (r : AV) (st' : St) : Prop :=
  (lies B n t = true ∧ r = .sc (.bool false) ∧ st' = st) ∨ (lies B n t = false ∧ r = .sc (.bool true) ∧ st' = rST st x a L (g + 1) true (B ++ [(n, t)]))
set_option maxRecDepth 100000 in
theorem rBind_c {B : Bs} (hB : OkB B) (n : Int) (t : Tm) (hn : n ∉ keys B) (hr : t.right = true) (hsz : B.length ≤ 1000000000) (st : St) (x a L g : Nat) (al : Bool) (h : RS st x a L g al B) :
    ICall T Tryz.prog 99 [.ptr x 0, .sc (.int .i64 n), t.av 26] st (rBQ B n t st x a L g) := by
  obtain ⟨l1, l2, l3⟩ := h.lts
  refine ICall.of_vc hT [] [(1, 4), (4, 9)] follows Tryz.call99 Tryz.func99 rfl (by kernel_rfl) fun hfix => ?_
  unfold Tryz.f99
  simp
  refine vcICall_of (rWithin_c hB n hn _ t rfl hr (st ++ [.map []]) x a L st.length g al [] (h.app _) (get_last _ _) (by omega) fun v hv => by cases hv) ?_
  rintro r st' ⟨S', rfl, rfl, _⟩ _
  have hS := h.app [.map (boolMap S')]
  have e0 : ∀ b, (st ++ [Blk.map []]).set st.length b = st ++ [b] := fun b => by simp
  rw [e0]
  have hpre : Pre st (st ++ [.map (boolMap S')]) := (Pre.refl st).app _
  generalize st ++ [.map (boolMap S')] = X at hS hpre
  simp [hS.hx, hS.ha, hS.hL]
  refine ⟨fun hl => ?_, fun hl => ?_⟩
  · exact endP_mk (.sc (.bool false)) (by simp) (by simp) (.inl ⟨hl, rfl, hpre.cut hfix rfl⟩)
  · have e1 := mapOf_put (keys B) n 0 hn
    simp only [Nat.zero_add, keys_len] at e1
    have e2 : keys (B ++ [(n, t)]) = keys B ++ [n] := by simp
    have e3 : bindsL (B ++ [(n, t)]) = bindsL B ++ [.sc (.int .i64 n) :: t.cells 26] := by simp [bindsL]
    have p1 := fun b => get_ne (i := a) (b := b) hS.hx (Ne.symm h.xa)
    have p2 := fun b => get_ne (i := a) (b := b) hS.hL h.aL
    have q1 := fun a' b => get_ne (i := L) (b := b) (get_ne (i := a) (b := a') hS.hx (Ne.symm h.xa)) (Ne.symm h.xL)
    have q2 := fun a' b => get_set (b := b) (get_ne (i := a) (b := a') hS.hL h.aL)
    rw [e1]
    refine ⟨fun r Z => r = .own L (g + 1) ∧ Z = (X.set a (.map (mapOf (keys B ++ [n]) 0))).set L (.row 104 (g + 1) true (bindsL B ++ [.sc (.int .i64 n) :: t.cells 26])), ?_⟩
    simp (decide := true) [p1, p2, q1, q2]
    refine ⟨by rintro r st' ⟨rfl, rfl⟩; simp (decide := true) [p1, p2, q1, q2], ?_⟩; simp (decide := true) [p1, p2, q1, q2]
    refine ⟨by simp, rfl, by simp [vcI, p1, p2, q1, q2]; omega, ?_⟩
    rintro r st' ⟨rfl, rfl⟩ _; simp (decide := true) [p1, p2, q1, q2]
    refine endP_mk (.sc (.bool true)) (by simp) (by simp) (.inr ⟨hl, rfl, ?_⟩)
    have := rST_pre (x := x) (a := a) (L := L) (g := g + 1) (al := true) (B := B ++ [(n, t)]) hpre
    rw [← e2, ← e3]
    exact this.cut (fix_RS hfix h _ _ _) (by rw [rST_len])
end Go.T1
end

section
open Go Go.Ab Go.Proofs
namespace Go.T1
/-- The answer's bindings, and the pairs. -/
structure RUS (st : St) (x ma L q g : Nat) (al : Bool) (B : Bs) (P : Ps) : Prop where
  rs : RS st x ma L g al B
  hq : st[q]? = some (.map (pairMap P))
  qa : q ≠ ma
def rUST (st : St) (x ma L q g : Nat) (al : Bool) (B : Bs) (P : Ps) : St := (rST st x ma L g al B).set q (.map (pairMap P))
section
variable {st : St} {x ma L q g g' : Nat} {al al' : Bool} {B B' : Bs} {P P' : Ps}
theorem RUS.ne (h : RUS st x ma L q g al B P) : q ≠ x ∧ q ≠ L := by
  refine ⟨?_, ?_⟩
  · rintro rfl; have := h.hq; rw [h.rs.hx] at this; simp at this
  · rintro rfl; have := h.hq; rw [h.rs.hL] at this; simp at this
theorem RUS.same (h : RUS st x ma L q g al B P) : rUST st x ma L q g al B P = st := by unfold rUST; rw [h.rs.same, set_same h.hq]
theorem RUS.put (h : RUS st x ma L q g al B P) (h' : B' ≠ [] → al' = true) : RUS (rUST st x ma L q g' al' B' P') x ma L q g' al' B' P' := by
  obtain ⟨n5, n6⟩ := h.ne
  have k := h.rs.put (g' := g') (al' := al') h'
  refine ⟨⟨get_ne k.hx n5, get_ne k.ha h.qa, get_ne k.hL n6, h', k.xa, k.xL, k.aL⟩, ?_, h.qa⟩
  exact get_set (rST_other h.hq n5.symm h.qa.symm n6.symm)
theorem RUS.app (h : RUS st x ma L q g al B P) (l : St) : RUS (st ++ l) x ma L q g al B P := ⟨h.rs.app l, get_app h.hq l, h.qa⟩
theorem rUST_app (h : RUS st x ma L q g al B P) (l : St) : rUST (st ++ l) x ma L q g' al' B' P' = rUST st x ma L q g' al' B' P' ++ l := by
  obtain ⟨n5, n6⟩ := h.ne
  unfold rUST; rw [rST_app h.rs, set_app (rST_other h.hq n5.symm h.qa.symm n6.symm)]
theorem rST_setq (h : RUS st x ma L q g al B P) (X : St) (b : Blk) (g' : Nat) (al' : Bool) (B' : Bs) : rST (X.set q b) x ma L g' al' B' = (rST X x ma L g' al' B').set q b := by
  obtain ⟨n5, n6⟩ := h.ne
  unfold rST; rw [set_comm X h.qa, set_comm _ n6, set_comm _ n5]
theorem rUST_rUST (h : RUS st x ma L q g al B P) (X : St) (g1 g2 : Nat) (a1 a2 : Bool) (B1 B2 : Bs) (P1 P2 : Ps) : rUST (rUST X x ma L q g1 a1 B1 P1) x ma L q g2 a2 B2 P2 = rUST X x ma L q g2 a2 B2 P2 := by
  unfold rUST
  rw [rST_setq h, rST_rST h.rs.xa h.rs.xL h.rs.aL, List.set_set]
theorem rUST_set (h : RUS st x ma L q g al B P) (X : St) (P1 P2 : Ps) (g2 : Nat) (a2 : Bool) (B2 : Bs) : rUST (X.set q (.map (pairMap P1))) x ma L q g2 a2 B2 P2 = rUST X x ma L q g2 a2 B2 P2 := by
  unfold rUST; rw [rST_setq h, List.set_set]
theorem rUST_pre {X Y : St} (h : Pre X Y) : Pre (rUST X x ma L q g al B P) (rUST Y x ma L q g al B P) := (rST_pre h).set2 _ _
theorem rUST_len : (rUST st x ma L q g al B P).length = st.length := by simp [rUST, rST]
theorem fix_RUS (h : Fix st) (hS : RUS st x ma L q g al B P) (g' : Nat) (al' : Bool) (B' : Bs) (P' : Ps) : Fix (rUST st x ma L q g' al' B' P') := by
  unfold rUST; exact fix_pair (fix_RS h hS.rs g' al' B') q P'
theorem RUS.of_pre {Y : St} (h : RUS st x ma L q g al B P) (hY : Pre st Y) : RUS Y x ma L q g al B P := ⟨h.rs.of_pre hY, hY.get h.hq, h.qa⟩
end
def rUQ (V : List Int) (B : Bs) (P : Ps) (a b : Tm) (st : St) (x ma L q : Nat) (r : AV) (st' : St) : Prop :=
  ∃ rb B' P' g' al', r = .sc (.bool rb) ∧ st' = rUST st x ma L q g' al' B' P' ∧ (B' ≠ [] → al' = true) ∧ Does V B a b rb B' ∧ (rb = true → PNew B' P P')
/-- Where a row of pairs has come. -/
def rEInv (V : List Int) (B : Bs) (P : Ps) (l l' : List Tm) (st : St) (x ma L q : Nat) (fr : St) (i : Nat) (Y : St) : Prop :=
  ∃ D P1 g1 al1, Y = rUST st x ma L q g1 al1 (B ++ D) P1 ++ fr ∧ (B ++ D ≠ [] → al1 = true) ∧ OkB (B ++ D) ∧ BsV V (B ++ D) ∧ PNew (B ++ D) P P1 ∧ ∀ ps R, Un (B ++ D) ((l.zip l').drop i ++ ps) R → Un B (l.zip l' ++ ps) R
set_option maxRecDepth 100000 in
theorem rUnify_c (V : List Int) (hVs : V.length ≤ 1000000000) : ∀ (N K : Nat) (B : Bs) (a b : Tm), free V B = N → (a.sub (sg B)).size = K → OkB B → BsV V B → a.right = true → b.right = true → inV V a → inV V b → ∀ P : Ps, PInv B a P →
    ∀ (st : St) (x ma L q g : Nat) (al : Bool), RUS st x ma L q g al B P → ICall T Tryz.prog 62 [.ptr x 0, a.av 26, b.av 26, .mp q] st (rUQ V B P a b st x ma L q) := by
  intro N
  induction N using Nat.strongRecOn with
  | _ N ihN =>
  intro K
  induction K using Nat.strongRecOn with
  | _ K ihK =>
  intro B a b hN hK hB hV ra rb va vb P hP st x ma L q g al h
  obtain ⟨l1, l2, l3⟩ := h.rs.lts
  obtain ⟨n5, n6⟩ := h.ne
  have hsz : B.length ≤ 1000000000 := Nat.le_trans (hV.len hB) hVs
  refine ICall.of_vc hT [5, 6] [(2, 3), (3, 3), (8, 2), (8, 5), (200008, 0), (200008, 1), (200008, 3), (200008, 4), (200008, 2), (200008, 5), (200008, 6), (200008, 7), (12, 4), (14, 4), (20, 12)] follows Tryz.call62 Tryz.func62 rfl (by kernel_rfl) fun hfix => ?_
  unfold Tryz.f62
  rw [vcC_seq]
  simp [-vcC_seq]
  refine vcC_cut (fun σ Y => σ 0 = .ptr x 0 ∧ σ 3 = .mp q ∧ σ 5 = .ptr st.length 0 ∧ σ 6 = .ptr (st.length + 1) 0 ∧ againB B P a b = false ∧ Y = st.set q (.map (pairMap (againP B P a b))) ++ [.cells (a.cells 26), .cells (b.cells 26)]) ?_ ?_
  · intro Kc hK
    have hRS := h.rs.app [.cells (a.cells 26), .cells (b.cells 26)]
    have hqq := get_app h.hq [.cells (a.cells 26), .cells (b.cells 26)]
    have stay : bothV B a b = none → againB B P a b = false ∧ st ++ [.cells (a.cells 26), .cells (b.cells 26)] = st.set q (.map (pairMap (againP B P a b))) ++ [.cells (a.cells 26), .cells (b.cells 26)] := fun hb => by
      simp only [againB, againP, hb, set_same h.hq, and_self]
    rcases a with ⟨k, n, sn, l⟩
    rcases b with ⟨k', n', sn', l'⟩
    simp [Tm.cells]
    refine ⟨fun h1 h2 => ?_, fun hne => ?_⟩
    · subst h1
      subst h2
      have hv1 : (Tm.mk 1 n sn l).vn = some n := by simp [Tm.vn]
      have hv2 : (Tm.mk 1 n' sn' l').vn = some n' := by simp [Tm.vn]
      refine vcICall_of (rBound_c n _ x ma L g al hRS) ?_
      rintro r st' ⟨rfl, rfl⟩ _
      cases hl1 : lookB B n with
      | none =>
        simp [boundV, hl1]
        refine vcICall_of (rBound_c n' _ x ma L g al hRS) ?_
        rintro r st' ⟨rfl, rfl⟩ _
        have hb : bothV B (.mk 1 n sn l) (.mk 1 n' sn' l') = none := by simp [bothV, hv1, hv2, look_none.1 hl1]
        cases hl2 : lookB B n' <;> simp [boundV, hl2] <;> exact hK _ _ ⟨rfl, rfl, rfl, rfl, (stay hb).1, (stay hb).2⟩
      | some u =>
        simp [boundV, hl1]
        refine vcICall_of (rBound_c n' _ x ma L g al hRS) ?_
        rintro r st' ⟨rfl, rfl⟩ _
        cases hl2 : lookB B n' with
        | none =>
          have hb : bothV B (.mk 1 n sn l) (.mk 1 n' sn' l') = none := by simp [bothV, hv1, hv2, look_none.1 hl2]
          simp [boundV, hl2]
          exact hK _ _ ⟨rfl, rfl, rfl, rfl, (stay hb).1, (stay hb).2⟩
        | some v =>
          have k1 : n ∈ keys B := Classical.not_not.1 fun h => by rw [look_none.2 h] at hl1; cases hl1
          have k2 : n' ∈ keys B := Classical.not_not.1 fun h => by rw [look_none.2 h] at hl2; cases hl2
          have hb : bothV B (.mk 1 n sn l) (.mk 1 n' sn' l') = some (n, n') := by simp [bothV, hv1, hv2, k1, k2]
          have hqq' : ∀ fr, (st ++ fr)[q]? = some (.map (pairMap P)) := fun fr => get_app h.hq fr
          by_cases hp : (n, n') ∈ P
          · simp [boundV, hl2, hqq', pairMap_get, hp]
            obtain ⟨p, hp', e1, e2⟩ := againB_spec (B := B) (P := P) ra rb (by simp [againB, hb, hp])
            have he : sg B p.1 = sg B p.2 := by
              rcases hP p hp' with h1 | h1
              · exact h1
              · have := h1.size
                rw [e1, Tm.var_sub] at this; omega
            refine endP_mk (.sc (.bool true)) (by simp) (by simp) ⟨true, B, P, g, al, rfl, ?_, h.rs.hal, ⟨hB, ⟨[], by simp⟩, hV, fun _ ps R hR => ?_, by simp⟩, fun _ => PNew.refl B P⟩
            · rw [h.same]; exact ((Pre.refl st).app _).cut hfix rfl
            · exact Un.skip hB _ rfl ra rb (by rw [e1, e2]; simpa using he) ps R hR
          · simp [boundV, hl2, hqq', pairMap_get, hp]
            refine hK _ _ ⟨rfl, rfl, rfl, rfl, by simp [againB, hb, hp], ?_⟩
            rw [set_app h.hq]
            simp only [againP, hb, if_neg hp, pairMap_put P n n' hp]
            rfl
    · have hb : bothV B (.mk k n sn l) (.mk k' n' sn' l') = none := by
        unfold bothV
        simp only [vn_eq]
        by_cases hk : k = 1
        · rw [if_pos hk, if_neg (hne hk)]
        · rw [if_neg hk]
      exact hK _ _ ⟨rfl, rfl, rfl, rfl, (stay hb).1, (stay hb).2⟩
  · rintro σ Y ⟨s0, s3, s5, s6, hag, rfl⟩
    generalize hst1 : st.set q (.map (pairMap (againP B P a b))) = st1
    have hU : RUS st1 x ma L q g al B (againP B P a b) := by
      have := h.put (g' := g) (al' := al) (B' := B) (P' := againP B P a b) h.rs.hal
      unfold rUST at this
      rwa [h.rs.same, hst1] at this
    have hl1 : st1.length = st.length := by subst hst1; simp
    have ca := fun x l => ap0 hl1 x l
    have cb := fun x y l => ap1 hl1 x y l
    have za := fun x y l => as0 hl1 x y l
    have zb := fun x y z l => as1 hl1 x y z l
    rw [vcC_seq]
    simp [-vcC_seq, s0, s5, s6, ca, cb]
    refine ⟨fun i r Z => Z = st1 ++ [.cells (a.cells 26), .cells (b.cells 26)], ?_⟩
    simp (decide := true) [-vcC_seq, s0, s5, s6, ca, cb]
    refine ⟨by simp (decide := true) [-vcC_seq, s0, s5, s6, ca, cb], ?_⟩; simp (decide := true) [-vcC_seq, s0, s5, s6, ca, cb]
    refine ⟨by simp (decide := true) [-vcC_seq, s0, s5, s6, ca, cb], ?_⟩; simp (decide := true) [-vcC_seq, s0, s5, s6, ca, cb]
    refine ⟨by simp (decide := true) [-vcC_seq, s0, s5, s6, ca, cb], ?_⟩; simp (decide := true) [-vcC_seq, s0, s5, s6, ca, cb]
    refine ⟨by simp (decide := true) [-vcC_seq, s0, s5, s6, ca, cb], ?_⟩; simp (decide := true) [-vcC_seq, s0, s5, s6, ca, cb]
    refine vcThenQ_of (fun r st' => r = (wk B a).av 26 ∧ st' = st1 ++ [.cells (a.cells 26), .cells (b.cells 26)]) rfl (by simp) rfl (by simp [vcI, s0, s5, s6, ca, cb]; exact rWalk_c hB a _ x ma L g al (hU.app _).rs) (fun r st' h => by simp_all) ?_
    rintro r st' ⟨rfl, rfl⟩ _
    simp (decide := true) [-vcC_seq, s0, s5, s6, ca, cb]
    refine vcThenQ_of (fun r st' => r = (wk B b).av 26 ∧ st' = st1 ++ [.cells (a.cells 26), .cells (b.cells 26)]) rfl (by simp) rfl (by simp [vcI, s0, s5, s6, ca, cb]; exact rWalk_c hB b _ x ma L g al (hU.app _).rs) (fun r st' h => by simp_all) ?_
    rintro r st' ⟨rfl, rfl⟩ _
    simp (decide := true) [-vcC_seq, s0, s5, s6, ca, cb]
    refine ⟨by simp (decide := true) [-vcC_seq, s0, s5, s6, ca, cb], ?_⟩; simp (decide := true) [-vcC_seq, s0, s5, s6, ca, cb]
    refine ⟨by simp (decide := true) [-vcC_seq, s0, s5, s6, ca, cb], ?_⟩; simp (decide := true) [-vcC_seq, s0, s5, s6, ca, cb]
    rcases hwa : wk B a with ⟨ka, na, sa, la⟩
    rcases hwb : wk B b with ⟨kb, nb, sb, lb⟩
    rw [vcC_seq]
    simp [-vcC_seq, s0, s5, s6, ca, cb, za, zb, hwa, hwb, Tm.cells]
    rw [vcC_seq]
    simp [-vcC_seq, s0, s3, s5, s6, ca, cb, Tm.cells]
    have eX : ∀ l, Pre (rUST st x ma L q g al B (againP B P a b)) (st1 ++ l) := fun l => by
      have : rUST st x ma L q g al B (againP B P a b) = st1 := by unfold rUST; rw [h.rs.same, hst1]
      rw [this]; exact (Pre.refl _).app l
    have fin : ∀ (σ : Slots) (Y : St) (rv : Bool) (B' : Bs) (P' : Ps) (g' : Nat) (al' : Bool), σ 8 = .sc (.bool rv) → Pre (rUST st x ma L q g' al' B' P') Y → (B' ≠ [] → al' = true) → Does V B a b rv B' → (rv = true → PNew B' P P') → endP T [ResultVar.tmp 8] st.length (rUQ V B P a b st x ma L q) σ Y := by
      intro σ Y rv B' P' g' al' h8 hY h1 h2 h3
      exact endP_mk (.sc (.bool rv)) (by simp) (by simp [h8]) ⟨rv, B', P', g', al', rfl, hY.cut (fix_RUS hfix h _ _ _ _) (by rw [rUST_len]), h1, h2, h3⟩
    have rwa' := wk_right hB a ra
    have rwb' := wk_right hB b rb
    have vwa := wk_inV hV va
    have vwb := wk_inV hV vb
    have wwa := wk_walked hB a
    have wwb := wk_walked hB b
    have hua : ∀ n, (wk B a).vn = some n → n ∈ V := fun n hn => wk_vn_V hV va hn
    have hub : ∀ n, (wk B b).vn = some n → n ∈ V := fun n hn => wk_vn_V hV vb hn
    rw [hwa] at rwa' vwa wwa hua
    rw [hwb] at rwb' vwb wwb hub
    have bindL : ∀ (σ : Slots) (n : Int) (tt : Tm) (C : Code) (rest : Slots → St → Prop), True := fun _ _ _ _ _ => trivial
    have hU2 := hU.app [.cells ((Tm.mk ka na sa la).cells 26), .cells ((Tm.mk kb nb sb lb).cells 26)]
    refine ⟨fun h1 h2 h3 => ?_, fun hne => ?_⟩
    · have hst : stepU B a b = some (B, []) := by simp [stepU, hwa, hwb, vn_eq, h1, h2, h3]
      have hdo : Does V B a b true B := ⟨hB, ⟨[], by simp⟩, hV, fun _ ps R hR => .go hst hR, by simp⟩
      simp
      exact fin _ _ true B _ g al rfl (eX _) h.rs.hal hdo fun _ => again_new hB ra rb hdo
    rw [vcC_seq]
    simp [-vcC_seq, s0, s3, s5, s6, ca, cb, Tm.cells]
    refine ⟨fun h1 => ?_, fun h1 => ?_⟩
    · have hv : (Tm.mk ka na sa la).vn = some na := by simp [Tm.vn, h1]
      have hst : stepU B a b = bindS B na (.mk kb nb sb lb) := by
        unfold stepU
        rw [hwa, hwb, hv]
        by_cases hk : kb = 1
        · have : ¬ na = nb := fun e => hne h1 hk e
          simp [vn_eq, hk, this]
        · simp [vn_eq, hk]
      simp [s0, s3, s5, s6, ca, cb, Tm.cells]
      refine vcICall_of (rBind_c hB na (.mk kb nb sb lb) (wwa na hv) rwb' hsz _ x ma L g al hU2.rs) ?_
      rintro r st' (⟨hl, rfl, rfl⟩ | ⟨hl, rfl, rfl⟩) _
      · simp
        refine fin _ _ false B _ g al rfl (eX _) h.rs.hal (stepU_none hB hV ?_) (by simp)
        rw [hst]; unfold bindS; rw [if_pos (by simpa [lies] using hl)]
      · simp
        have ho : na ∉ ((Tm.mk kb nb sb lb).sub (sg B)).occ := by simpa [lies] using hl
        have hst2 : stepU B a b = some (B ++ [(na, .mk kb nb sb lb)], []) := by rw [hst]; unfold bindS; rw [if_neg ho]
        have hdo := stepU_bind (BsV_snoc hV (hua na hv) vwb) (by have := (bind_ok hB ra rb (n := na) (by rw [hwa]; exact hv) (by rw [hwb]; exact ho)).1; rwa [hwb] at this) hst2
        refine fin _ _ true _ (againP B P a b) (g + 1) true rfl ?_ (fun _ => rfl) hdo fun _ => again_new hB ra rb hdo
        rw [rST_app hU.rs]
        have : rUST st x ma L q (g + 1) true (B ++ [(na, .mk kb nb sb lb)]) (againP B P a b) = rST st1 x ma L (g + 1) true (B ++ [(na, .mk kb nb sb lb)]) := by subst hst1; rw [rST_setq h]; rfl
        rw [this]; exact (Pre.refl _).app _
    rw [vcC_seq]
    simp [-vcC_seq, s0, s3, s5, s6, ca, cb, Tm.cells]
    refine ⟨fun h2 => ?_, fun h2 => ?_⟩
    · have hv : (Tm.mk kb nb sb lb).vn = some nb := by simp [Tm.vn, h2]
      have hst : stepU B a b = bindS B nb (.mk ka na sa la) := by
        unfold stepU
        rw [hwa, hwb, hv]
        simp [vn_eq, h1]
      simp [s0, s3, s5, s6, ca, cb, Tm.cells]
      refine vcICall_of (rBind_c hB nb (.mk ka na sa la) (wwb nb hv) rwa' hsz _ x ma L g al hU2.rs) ?_
      rintro r st' (⟨hl, rfl, rfl⟩ | ⟨hl, rfl, rfl⟩) _
      · simp
        refine fin _ _ false B _ g al rfl (eX _) h.rs.hal (stepU_none hB hV ?_) (by simp)
        rw [hst]; unfold bindS; rw [if_pos (by simpa [lies] using hl)]
      · simp
        have ho : nb ∉ ((Tm.mk ka na sa la).sub (sg B)).occ := by simpa [lies] using hl
        have hst2 : stepU B a b = some (B ++ [(nb, .mk ka na sa la)], []) := by rw [hst]; unfold bindS; rw [if_neg ho]
        have hdo := stepU_bind (BsV_snoc hV (hub nb hv) vwa) (by have := (bind_ok hB rb ra (n := nb) (by rw [hwb]; exact hv) (by rw [hwa]; exact ho)).1; rwa [hwa] at this) hst2
        refine fin _ _ true _ (againP B P a b) (g + 1) true rfl ?_ (fun _ => rfl) hdo fun _ => again_new hB ra rb hdo
        rw [rST_app hU.rs]
        have : rUST st x ma L q (g + 1) true (B ++ [(nb, .mk ka na sa la)]) (againP B P a b) = rST st1 x ma L (g + 1) true (B ++ [(nb, .mk ka na sa la)]) := by subst hst1; rw [rST_setq h]; rfl
        rw [this]; exact (Pre.refl _).app _
    have hst : stepU B a b = argsS B (.mk ka na sa la) (.mk kb nb sb lb) := by
      unfold stepU
      rw [hwa, hwb]
      simp [vn_eq, h1, h2]
    rw [vcC_seq]
    simp [-vcC_seq, s0, s3, s5, s6, ca, cb, Tm.cells]
    intro hz1 hz2
    refine ⟨fun hx => ?_, ?_⟩
    · simp
      refine fin _ _ false B _ g al rfl (eX _) h.rs.hal (stepU_none hB hV ?_) (by simp)
      rw [hst]; simp only [argsS]; rw [if_neg]
      rintro ⟨e1, e2, e3, e4⟩
      rcases hx with ((hx | hx) | hx) | hx
      · exact hx e1
      · exact hx e2
      · exact hx e3
      · exact hx (by omega)
    intro e1 e2 e3 e4
    subst e1
    subst e2
    subst e3
    have hlen : la.length = lb.length := by omega
    have hst2 : stepU B a b = some (B, la.zip lb) := by rw [hst]; simp [argsS, hlen]
    simp only [Tm.right, Bool.and_eq_true] at rwa' rwb'
    obtain ⟨hz3, hz4⟩ := hz1 rfl rfl rfl
    obtain ⟨hz5, hz6⟩ := hz2 rfl rfl rfl
    rw [vcC_seq, vcC_seq]
    simp [-vcC_seq]
    refine vcC_loop [] (fun w σ Y => ∃ (i : Nat), w = la.length - i ∧ i ≤ la.length ∧ rEInv V B (againP B P a b) la lb st x ma L q [.cells ((Tm.mk ka na sa la).cells 26), .cells ((Tm.mk ka na sa lb).cells 26)] i Y ∧
      σ 0 = .ptr x 0 ∧ σ 3 = .mp q ∧ σ 5 = .ptr st.length 0 ∧ σ 6 = .ptr (st.length + 1) 0 ∧ σ 13 = .sc (.int .i64 i)) la.length ?_ ?_
    · refine ⟨0, by simp, by simp, ⟨[], againP B P a b, g, al, ?_, ?_⟩, by simp [s0, s3, s5, s6]⟩
      · have e : rUST st x ma L q g al B (againP B P a b) = st1 := by unfold rUST; rw [h.rs.same, hst1]
        rw [List.append_nil, e]; rfl
      · simp [hB, hV, PNew.refl]
        exact h.rs.hal
    rintro w σ Y ⟨i, rfl, hi, ⟨D, P1, g1, al1, rfl, hal1, hD, hVD, hP1, hun⟩, s0, s3, s5, s6, s13⟩
    have hX := h.put (g' := g1) (al' := al1) (B' := B ++ D) (P' := P1) hal1
    have hXl : (rUST st x ma L q g1 al1 (B ++ D) P1).length = st.length := rUST_len
    have ca := fun x l => ap0 hXl x l
    have cb := fun x y l => ap1 hXl x y l
    rcases Nat.lt_or_ge i la.length with hlt | hge
    · have hlt' : i < lb.length := hlen ▸ hlt
      simp [s0, s3, s5, s6, s13, ca, cb, hlt, hlt', Tm.cells]
      intro _ _
      rw [zip_drop hlt hlt'] at hun
      have hpt := Part.of_wk hB ra hwa h1 (List.getElem_mem hlt)
      have rx := rightL_mem rwa'.2 _ (List.getElem_mem hlt)
      have ry := rightL_mem rwb'.2 _ (List.getElem_mem hlt')
      have vx := inV_arg vwa h1 _ (List.getElem_mem hlt)
      have vy := inV_arg vwb h1 _ (List.getElem_mem hlt')
      have hpi := pinv_arg ra rb hP hD hpt hP1
      have hcall : ∀ l, ICall T Tryz.prog 62 [.ptr x 0, la[i].av 26, lb[i].av 26, .mp q] (rUST st x ma L q g1 al1 (B ++ D) P1 ++ l) (rUQ V (B ++ D) P1 la[i] lb[i] (rUST st x ma L q g1 al1 (B ++ D) P1 ++ l) x ma L q) := by
        intro fr
        have hY := hX.app fr
        rcases ext_cases hD hVD with hd | hd
        · subst hd
          simp only [List.append_nil] at *
          exact ihK _ (by have := hpt.size; omega) B la[i] lb[i] hN rfl hB hV rx ry vx vy P1 hpi _ x ma L q g1 al1 hY
        · exact ihN _ (by omega) _ (B ++ D) la[i] lb[i] rfl rfl hD hVD rx ry vx vy P1 hpi _ x ma L q g1 al1 hY
      refine ⟨rUQ V (B ++ D) P1 la[i] lb[i] (rUST st x ma L q g1 al1 (B ++ D) P1 ++ [.cells ((Tm.mk ka na sa la).cells 26), .cells ((Tm.mk ka na sa lb).cells 26)]) x ma L q, ?_⟩
      simp (decide := true) [s0, s3, s5, s6, s13, ca, cb, hlt, hlt']
      refine ⟨by simp, rfl, by simp [vcI]; exact hcall _, ?_⟩
      rintro r st' ⟨rv, B', P', g', al', rfl, rfl, hal', hdo, hnew⟩ _
      obtain ⟨D', hD'⟩ := hdo.ext
      have hD2 : B' = B ++ (D ++ D') := by rw [hD', List.append_assoc]
      rw [rUST_app hX, rUST_rUST h]
      simp (decide := true) [s0, s3, s5, s6, s13]
      refine ⟨fun hr => ?_, fun hr => ⟨by unfold i64ok; omega, la.length - (i + 1), by omega, i + 1, rfl, by omega, ?_, by simp⟩⟩
      · subst hr
        have hdo2 : Does V B a b false B' := ⟨hdo.ok, ⟨_, hD2⟩, hdo.inV, by simp, fun _ ps => .go hst2 (hun ps none (hdo.no rfl _))⟩
        exact fin _ _ false B' P' g' al' rfl ((Pre.refl _).app _) hal' hdo2 (by simp)
      · subst hr
        refine ⟨D ++ D', P', g', al', ?_, ?_, ?_, ?_, ?_, fun ps R hR => ?_⟩
        · rw [← hD2]; rfl
        · rw [← hD2]; exact hal'
        · rw [← hD2]; exact hdo.ok
        · rw [← hD2]; exact hdo.inV
        · rw [← hD2]; exact PNew.trans hD' hdo.ok hP1 (hnew rfl)
        · rw [← hD2] at hR; exact hun ps R (hdo.yes rfl _ R hR)
    · obtain rfl : i = la.length := by omega
      simp [s0, s3, s5, s6, s13, ca, cb, Tm.cells]
      intro _ _
      have hdo2 : Does V B a b true (B ++ D) := ⟨hD, ⟨D, rfl⟩, hVD, fun _ ps R hR => .go hst2 (hun ps R (by rw [List.drop_of_length_le (by simp; omega)]; exact hR)), by simp⟩
      refine fin _ _ true (B ++ D) P1 g1 al1 rfl ((Pre.refl _).app _) hal1 hdo2 fun _ p hp => ?_
      rcases hP1 p hp with h5 | h5
      · exact again_new hB ra rb hdo2 p h5
      · exact .inr h5
end Go.T1
end

section
open Go Go.Ab Go.Proofs
namespace Go.T1
theorem mapOf_del_last : ∀ (l : List Int) (n : Int) (i : Nat), n ∉ l → mdel (mapOf (l ++ [n]) i) n = mapOf l i
  | [], n, i, _ => by simp [mapOf, mdel, isK_eq]
  | x :: xs, n, i, h => by
    simp only [List.mem_cons, not_or] at h
    have ih := mapOf_del_last xs n (i + 1) h.2
    simp [mapOf, mdel, isK_ne (fun e => h.1 e.symm), ih]
theorem take_last {B : Bs} {w : Nat} (h : w + 1 ≤ B.length) : B.take (w + 1) = B.take w ++ [B[w]] := by
  rw [List.take_add_one, List.getElem?_eq_getElem h]; rfl
set_option maxRecDepth 100000 in
theorem rUndo_c {B : Bs} (hB : OkB B) (n : Nat) (st : St) (x a L g : Nat) (al : Bool) (h : RS st x a L g al B) :
    ICall T Tryz.prog 63 [.ptr x 0, .sc (.int .i64 n)] st (fun r st' => ∃ g', r = .tup [] ∧ st' = rST st x a L g' al (B.take n)) := by
  refine ICall.of_vc hT [] [(2, 11)] follows Tryz.call63 Tryz.func63 rfl (by kernel_rfl) fun hfix => ?_
  unfold Tryz.f63
  simp
  refine vcC_loop [] (fun w σ Y => w ≤ B.length ∧ (w = B.length ∨ n ≤ w) ∧ (∃ g1, Y = rST st x a L g1 al (B.take w)) ∧ σ 0 = .ptr x 0 ∧ σ 1 = .sc (.int .i64 n)) B.length ?_ ?_
  · simp; exact ⟨g, h.same.symm⟩
  rintro w σ Y ⟨hw, hwn, ⟨g1, rfl⟩, s0, s1⟩
  have hR := h.put (g' := g1) (al' := al) (B' := B.take w) (fun hb => h.hal (by rintro rfl; simp at hb))
  have k1 := hR.hx
  have k2 := hR.ha
  have k3 := hR.hL
  have hlen : (bindsL (B.take w)).length = w := by simp; omega
  simp [s0, s1, k1, k2, k3, Nat.min_eq_left hw]
  intro hb1 hb2
  refine ⟨fun hlt => ?_, fun hge => ?_⟩
  · obtain ⟨v, rfl⟩ : ∃ v, w = v + 1 := ⟨w - 1, by omega⟩
    have hal : al = true := h.hal (by rintro rfl; simp at hw)
    have e1 := take_last hw
    have hrow : (bindsL (B.take (v + 1)))[v]? = some (.sc (.int .i64 B[v].1) :: B[v].2.cells 26) := by rw [bindsL, List.getElem?_map, List.getElem?_take_of_lt (by omega), List.getElem?_eq_getElem hw]; rfl
    have hrow2 : ∀ h, (bindsL (B.take (v + 1)))[v]'h = .sc (.int .i64 B[v].1) :: B[v].2.cells 26 := fun h => by rw [List.getElem?_eq_getElem h] at hrow; exact Option.some.inj hrow
    simp [s0, s1, k1, k2, k3, hal]
    refine ⟨by unfold i64ok; omega, by omega, ?_⟩
    have hkn : B[v].1 ∉ keys (B.take v) := by
      have := OkB_take hB (v + 1)
      rw [e1] at this
      exact (OkB_snoc.1 this).2.1
    have ek : keys (B.take (v + 1)) = keys (B.take v) ++ [B[v].1] := by rw [e1, keys_append]; rfl
    have hdel := mapOf_del_last (keys (B.take v)) B[v].1 0 hkn
    rw [← ek] at hdel
    have m1 := fun b => get_ne (i := a) (b := b) k1 (Ne.symm h.xa)
    have m3 := fun b => get_ne (i := a) (b := b) k3 h.aL
    have o1 := fun b b' => get_ne (i := L) (b := b') (m1 b) (Ne.symm h.xL)
    have o3 := fun b b' => get_set (b := b') (m3 b)
    rw [hrow]
    simp [hdel]
    subst hal
    refine ⟨fun r Z => r = .own L (g1 + 1) ∧ Z = ((rST st x a L g1 true (B.take (v + 1))).set a (.map (mapOf (keys (B.take v)) 0))).set L (.row 104 (g1 + 1) true ((bindsL (B.take (v + 1))).take v)), ?_⟩
    simp (decide := true) [s0, s1, m1, m3, o1, o3]
    have hmin : min (v + 1) B.length = v + 1 := Nat.min_eq_left hw
    refine ⟨by rintro r st' ⟨rfl, rfl⟩; simp (decide := true) [s0, m1, m3, o1, o3], ?_⟩; simp (decide := true) [s0, m1, m3, o1, o3, hmin]
    refine ⟨by unfold i64ok; omega, ?_⟩
    refine ⟨by simp, rfl, by simp [vcI, s0, s1, m1, m3, o1, o3, hmin]; omega, ?_⟩
    rintro r st' ⟨rfl, rfl⟩ _; simp (decide := true) [s0, s1, m1, m3, o1, o3]
    refine ⟨v, by omega, by omega, .inr (by omega), g1 + 1, ?_⟩
    have eb : (bindsL (B.take (v + 1))).take v = bindsL (B.take v) := by unfold bindsL; rw [List.map_take, List.map_take, List.take_take, Nat.min_eq_left (by omega)]
    rw [eb]
    have := rST_rST h.xa h.xL h.aL st g1 (g1 + 1) true true (B.take (v + 1)) (B.take v)
    rw [← this]; rfl
  · refine endP_mk (.tup []) (by simp) (by simp) ⟨rfl, g1, ?_⟩
    have e : B.take n = B.take w := by
      rcases hwn with rfl | hwn
      · rw [List.take_of_length_le hge, List.take_of_length_le (Nat.le_refl _)]
      · have : n = w := by omega
        rw [this]
    rw [e]
    exact (Pre.refl _).cut (fix_RS hfix h _ _ _) (by rw [rST_len])
/-- What the answer's New makes. -/
def rNewSt (N : Nat) : St := [.map (mapOf (keys []) 0), .cells [.own (N + 2) 0, .mp N], .row 104 0 false (bindsL [])]
theorem RS.new (st : St) : RS (st ++ rNewSt st.length) (st.length + 1) st.length (st.length + 2) 0 false [] := by
  refine ⟨?_, ?_, ?_, by simp, by omega, by omega, by omega⟩ <;> simp [rNewSt]
set_option maxRecDepth 100000 in
theorem rNew_c (st : St) : ICall T Tryz.prog 40 [] st (fun r st' => r = .ptr (st.length + 1) 0 ∧ st' = st ++ rNewSt st.length) := by
  refine ICall.adoptR (Q := fun r st' => r = .ptr (st.length + 1) 0 ∧ st' = st ++ [.map [], .cells [.nils, .mp st.length]]) 104 ?_ ?_
  · refine ICall.of_vcU hT [3] [] follows Tryz.call40 Tryz.func40 rfl (by kernel_rfl) fun hfix => ?_
    unfold Tryz.f40
    simp
  · rintro r st' ⟨rfl, rfl⟩
    refine ⟨st.length + 1, 0, [.nils, .mp st.length], by simp, rfl, rfl, ?_⟩
    simp [rNewSt, mapOf, bindsL]
/-- What the answer's Unify leaves. -/
def rMQ (V : List Int) (B : Bs) (a b : Tm) (st : St) (x ma L : Nat) (r : AV) (st' : St) : Prop :=
  ∃ rb B' g' al', r = .sc (.bool rb) ∧ st' = rST st x ma L g' al' B' ∧ (B' ≠ [] → al' = true) ∧ OkB B' ∧ BsV V B' ∧ (rb = true → Un B [(a, b)] (some B')) ∧ (rb = false → Un B [(a, b)] none ∧ B' = B)
set_option maxRecDepth 100000 in
theorem rUnifyM_c (V : List Int) (hVs : V.length ≤ 1000000000) {B : Bs} (hB : OkB B) (hV : BsV V B) (a b : Tm) (ra : a.right = true) (rb : b.right = true) (va : inV V a) (vb : inV V b) (st : St) (x ma L g : Nat) (al : Bool) (h : RS st x ma L g al B) :
    ICall T Tryz.prog 41 [.ptr x 0, a.av 26, b.av 26] st (rMQ V B a b st x ma L) := by
  obtain ⟨l1, l2, l3⟩ := h.lts
  refine ICall.of_vc hT [] [(2, 4), (4, 2)] follows Tryz.call41 Tryz.func41 rfl (by kernel_rfl) fun hfix => ?_
  unfold Tryz.f41
  simp [h.hx, h.hL]
  intro _ _
  have hU : RUS (st ++ [.map []]) x ma L st.length g al B [] := ⟨h.app _, by simp [pairMap], by omega⟩
  refine vcICall_of (rUnify_c V hVs _ _ B a b rfl rfl hB hV ra rb va vb [] (fun p hp => by cases hp) _ x ma L st.length g al hU) ?_
  rintro r st' ⟨rv, B', P', g', al', rfl, rfl, hal', hdo, hnew⟩ _
  have hS' := h.put (g' := g') (al' := al') hal'
  have e1 : rUST (st ++ [.map []]) x ma L st.length g' al' B' P' = rST st x ma L g' al' B' ++ [.map (pairMap P')] := by
    unfold rUST
    rw [rST_app h, List.set_append_right _ _ (by rw [rST_len]; exact Nat.le_refl _), rST_len]
    simp
  rw [e1]
  simp
  refine ⟨fun hr => ?_, fun hr => ?_⟩
  · subst hr
    exact endP_mk (.sc (.bool true)) (by simp) (by simp) ⟨true, B', g', al', rfl, ((Pre.refl _).app _).cut (fix_RS hfix h _ _ _) (by rw [rST_len]), hal', hdo.ok, hdo.inV, fun _ => hdo.yes rfl [] _ (.nil B'), by simp⟩
  · subst hr
    obtain ⟨D, hD⟩ := hdo.ext
    refine vcICall_of (rUndo_c hdo.ok B.length _ x ma L g' al' (hS'.app _)) ?_
    rintro r st' ⟨g2, rfl, rfl⟩ _
    have hB2 : B'.take B.length = B := by rw [hD]; simp
    simp [hB2]
    refine endP_mk (.sc (.bool false)) (by simp) (by simp) ⟨false, B, g2, al', rfl, ?_, ?_, hB, hV, by simp, fun _ => ⟨hdo.no rfl [], rfl⟩⟩
    · rw [rST_app hS', rST_rST h.xa h.xL h.aL]
      exact ((Pre.refl _).app _).cut (fix_RS hfix h _ _ _) (by rw [rST_len])
    · intro hb; exact hal' (by rintro rfl; simp at hD; exact hb hD.1)
end Go.T1
end

section
open Go Go.Ab Go.Proofs
namespace Go.T1
theorem wk_shape {B : Bs} (hB : OkB B) {t : Tm} (hr : t.right = true) {k n : Int} {s : ByteArray} {l : List Tm} (hw : wk B t = .mk k n s l) : t.sub (sg B) = .mk k n s (Tm.subL (sg B) l) := by
  have hσ := wk_sg hB t hr
  rw [hw] at hσ
  rw [← hσ]
  by_cases hk : k = 1
  · subst hk
    have hv : (wk B t).vn = some n := by rw [hw]; simp [Tm.vn]
    obtain ⟨e1, e2, e3, _⟩ := wk_var hB hr hv
    rw [hw] at e1
    cases e1
    rw [hσ, e3]; rfl
  · simp only [Tm.sub, if_neg hk]
theorem sizeL_sub_le (f : Int → Tm) (l : List Tm) (i : Nat) : Tm.sizeL (Tm.subL f (l.take i)) ≤ Tm.sizeL (Tm.subL f l) := by
  conv => rhs; rw [← List.take_append_drop i l, Tm.subL_map, List.map_append, Tm.sizeL_append, ← Tm.subL_map]
  omega
set_option maxRecDepth 100000 in
theorem rCount_c {B : Bs} (hB : OkB B) : ∀ (K : Nat) (t : Tm), (t.sub (sg B)).size = K → t.right = true → ∀ (p : Int), 0 ≤ p → p ≤ 4096 → ∀ (st : St) (x a L g : Nat) (al : Bool), RS st x a L g al B →
    ICall T Tryz.prog 64 [.ptr x 0, t.av 26, .sc (.int .i64 p)] st (fun r st' => r = .sc (.int .i64 (oP p (t.sub (sg B)).size)) ∧ st' = st) := by
  intro K
  induction K using Nat.strongRecOn with
  | _ K ih =>
  intro t hK hr p hp0 hp1 st x a L g al h
  obtain ⟨N, hN⟩ : ∃ N, N = st.length := ⟨_, rfl⟩
  refine ICall.of_vc hT [4] [(1, 2), (6, 7)] follows Tryz.call64 Tryz.func64 rfl (by kernel_rfl) fun hfix => ?_
  unfold Tryz.f64
  simp
  refine vcICall_of (rWalk_c hB t _ x a L g al (h.app _)) ?_
  rintro r st' ⟨rfl, rfl⟩ _
  rcases hw : wk B t with ⟨k, n, sn, l⟩
  have hrw := wk_right hB t hr
  rw [hw] at hrw
  have hsub := wk_shape hB hr hw
  have hrl := hrw
  simp only [Tm.right, Bool.and_eq_true] at hrl
  have hsz : (t.sub (sg B)).size = 1 + Tm.sizeL (Tm.subL (sg B) l) := by rw [hsub]; rfl
  have q0 := fun x l => ap0 (X := st) rfl x l
  have z0 := fun x y l => as0 (X := st) rfl x y l
  simp [q0, z0, hw, Tm.cells]
  refine ⟨by unfold i64ok; omega, ?_⟩
  refine vcC_loop [] (fun w σ Y => ∃ i : Nat, w = l.length - i ∧ i ≤ l.length ∧ Y = st ++ [.cells ((Tm.mk k n sn l).cells 26)] ∧ σ 0 = .ptr x 0 ∧ σ 4 = .ptr st.length 0 ∧ σ 2 = .sc (.int .i64 (oP (p + 1) (Tm.sizeL (Tm.subL (sg B) (l.take i))))) ∧ σ 7 = .sc (.int .i64 i)) l.length ?_ ?_
  · simp
    refine ⟨0, by simp, by simp, by simp [Tm.cells], ?_, by simp⟩
    simp [oP, Tm.subL, Tm.sizeL]
    omega
  rintro w σ Y ⟨i, rfl, hi, rfl, s0, s4, s2, s7⟩
  have hle := sizeL_sub_le (sg B) l i
  rcases Nat.lt_or_ge i l.length with hlt | hge
  · have hpos : 1 ≤ (l[i].sub (sg B)).size := Tm.size_pos _
    have hle2 := sizeL_sub_le (sg B) l (i + 1)
    rw [sizeL_sub_take hlt] at hle2
    simp [s0, s4, s2, s7, q0, Tm.cells, hlt]
    intro hb1 hb2
    refine ⟨fun hsm => ?_, fun hbig => ?_⟩
    · have hsm2 : p + 1 + Tm.sizeL (Tm.subL (sg B) (l.take i)) ≤ 4096 := by unfold oP at hsm; omega
      have eP : oP (p + 1) (Tm.sizeL (Tm.subL (sg B) (l.take i))) = p + 1 + Tm.sizeL (Tm.subL (sg B) (l.take i)) := by unfold oP; omega
      rw [eP]
      have hcall := ih (l[i].sub (sg B)).size (by rw [← hK, hsz]; omega) l[i] rfl (rightL_mem hrl.2 _ (List.getElem_mem hlt)) (p + 1 + Tm.sizeL (Tm.subL (sg B) (l.take i))) (by omega) hsm2
        (st ++ [.cells ((Tm.mk k n sn l).cells 26)]) x a L g al (h.app _)
      refine vcICall_of hcall ?_
      rintro r st' ⟨rfl, rfl⟩ _
      simp [s0, s4, s2, s7, q0, hlt]
      refine ⟨by unfold i64ok; omega, l.length - (i + 1), by omega, i + 1, rfl, by omega, by simp [Tm.cells], ?_, by omega⟩
      rw [sizeL_sub_take hlt]
      unfold oP; push_cast; omega
    · refine endP_mk (.sc (.int .i64 (oP p (t.sub (sg B)).size))) (by simp) ?_ ⟨rfl, ?_⟩
      · simp
        unfold oP at hbig ⊢; rw [hsz]; omega
      · exact ((Pre.refl st).app _).cut hfix rfl
  · obtain rfl : i = l.length := by omega
    rw [List.take_length] at s2
    simp [s0, s4, s2, s7, q0, Tm.cells]
    intro _ _
    refine endP_mk (.sc (.int .i64 (oP p (t.sub (sg B)).size))) (by simp) ?_ ⟨rfl, ?_⟩
    · simp
      unfold oP; rw [hsz]; push_cast; omega
    · exact ((Pre.refl st).app _).cut hfix rfl
end Go.T1
end

section
open Go Go.Ab Go.Proofs
namespace Go.T1
def uFr (N : Nat) (w : Tm) (k n : Int) (s : ByteArray) (i : Nat) (al : Bool) (us : List Tm) : St :=
  [.cells (w.cells 26), .cells [.sc (.int .i64 0), .sc (.int .i64 0), .sc (.string .empty), .nils], .cells [.sc (.int .i64 k), .sc (.int .i64 n), .sc (.string s), .own (N + 3) i], .row 26 i al (Tm.cellsL 26 us)]
def uInv (st : St) (N : Nat) (w : Tm) (k n : Int) (s : ByteArray) (i : Nat) (us : List Tm) (Y : St) : Prop := ∃ al : Bool, Y = st ++ uFr N w k n s i al us
set_option maxRecDepth 100000 in
theorem rBuild_c {B : Bs} (hB : OkB B) : ∀ (K : Nat) (t : Tm), (t.sub (sg B)).size = K → t.right = true → ∀ (st : St) (x a L g : Nat) (al : Bool), RS st x a L g al B →
    ICall T Tryz.prog 65 [.ptr x 0, t.av 26] st (fun r st' => r = (t.sub (sg B)).av 26 ∧ st' = st) := by
  intro K
  induction K using Nat.strongRecOn with
  | _ K ih =>
  intro t hK hr st x a L g al h
  obtain ⟨N, hN⟩ : ∃ N, N = st.length := ⟨_, rfl⟩
  refine ICall.of_vc hT [3, 5] [(1, 2), (6, 8)] follows Tryz.call65 Tryz.func65 rfl (by kernel_rfl) fun hfix => ?_
  unfold Tryz.f65
  simp
  refine vcICall_of (rWalk_c hB t _ x a L g al (h.app _)) ?_
  rintro r st' ⟨rfl, rfl⟩ _
  rcases hw : wk B t with ⟨k, n, sn, l⟩
  have hrw := wk_right hB t hr
  rw [hw] at hrw
  have hsub := wk_shape hB hr hw
  have hrl := hrw
  simp only [Tm.right, Bool.and_eq_true] at hrl
  have hsz : (t.sub (sg B)).size = 1 + Tm.sizeL (Tm.subL (sg B) l) := by rw [hsub]; rfl
  have q0 := fun x l => ap0 (X := st) rfl x l
  have q1 := fun x y l => ap1 (X := st) rfl x y l
  have q2 := fun x y z l => ap2 (X := st) rfl x y z l
  have q3 := fun x y z w l => ap3 (X := st) rfl x y z w l
  have z0 := fun x y l => as0 (X := st) rfl x y l
  have z1 := fun x y z l => as1 (X := st) rfl x y z l
  have z2 := fun x y z w l => as2 (X := st) rfl x y z w l
  have z3 := fun x y z w v l => as3 (X := st) rfl x y z w v l
  simp [q0, q1, q2, z0, z2, hw, Tm.cells]
  refine vcC_loop [(26, .cell (st.length + 2) 3)] (fun w σ Y => ∃ (i : Nat), w = l.length - i ∧ i ≤ l.length ∧ uInv st st.length (.mk k n sn l) k n sn i (Tm.subL (sg B) (l.take i)) Y ∧ σ 0 = .ptr x 0 ∧ σ 3 = .ptr st.length 0 ∧ σ 4 = .ptr (st.length + 1) 0 ∧ σ 5 = .ptr (st.length + 2) 0 ∧ σ 6 = .sc (.int .i64 i)) l.length ?_ ?_
  · simp [q0, q1, q2, z2, Nat.add_assoc]
    exact ⟨0, by simp, by simp, ⟨false, by simp [uFr, Tm.cells, Tm.subL, Tm.cellsL]⟩, by simp⟩
  rintro w σ Y ⟨i, rfl, hi, ⟨al', rfl⟩, s0, s3, s4, s5, s6⟩
  have hul : ∀ l : List Tm, (Tm.subL (sg B) l).length = l.length := fun l => by rw [Tm.subL_map]; simp
  rcases Nat.lt_or_ge i l.length with hlt | hge
  · simp [s0, s3, s4, s5, s6, q0, q1, q2, q3, uFr, Tm.cells, hlt]
    have hcall := ih (l[i].sub (sg B)).size (by rw [← hK, hsz]; have := size_le_mem (mem_subL (sg B) (List.getElem_mem hlt)); omega) l[i] rfl (rightL_mem hrl.2 _ (List.getElem_mem hlt))
      (st ++ uFr st.length (.mk k n sn l) k n sn i al' (Tm.subL (sg B) (l.take i))) x a L g al (h.app _)
    intro hb1 hb2
    refine ⟨fun r Z => r = (l[i].sub (sg B)).av 26 ∧ Z = st ++ uFr st.length (.mk k n sn l) k n sn i al' (Tm.subL (sg B) (l.take i)), ?_⟩
    simp (decide := true) [s0, s3, s4, s5, s6, q0, q1, q2, q3, uFr, Tm.cells, hlt]
    refine ⟨by rintro r st' ⟨rfl, rfl⟩; simp (decide := true) [s0, s3, s4, s5, s6, q0, q1, q2, q3, uFr, Tm.cells, hlt], ?_⟩; simp (decide := true) [s0, s3, s4, s5, s6, q0, q1, q2, q3, uFr, Tm.cells, hlt]
    refine ⟨by rintro r st' ⟨rfl, rfl⟩; simp (decide := true) [s0, s3, s4, s5, s6, q0, q1, q2, q3, uFr, Tm.cells, hlt], ?_⟩; simp (decide := true) [s0, s3, s4, s5, s6, q0, q1, q2, q3, uFr, Tm.cells, hlt]
    refine ⟨by simp, rfl, by simp [vcI]; exact hcall.mono fun r st' ⟨h1, h2⟩ => ⟨h1, by rw [h2]; simp [uFr, Tm.cells]⟩, ?_⟩
    rintro r st' ⟨rfl, rfl⟩ _
    simp (decide := true) [s0, s3, s4, s5, s6, q0, q1, q2, q3, uFr, Tm.cells, hlt, z2, z3]
    refine ⟨by omega, by unfold i64ok; omega, l.length - (i + 1), by omega, i + 1, rfl, by omega, ⟨true, ?_⟩, by omega⟩
    simp [uFr, Tm.cells, Tm.subL_take hlt, Tm.cellsL, Nat.min_eq_left (Nat.le_of_lt hlt)]
  · obtain rfl : i = l.length := by omega
    rw [List.take_length]
    simp [s0, s3, s4, s5, s6, q0, q1, q2, q3, uFr, Tm.cells]
    intro _ _
    refine endP_mk ((t.sub (sg B)).av 26) ?_ ?_ ⟨rfl, ?_⟩
    · simp [s4, q1]
    · simp [s4, q1, q3, Tm.cells, hsub]; rw [if_neg (by omega)]; simp
    · exact ((Pre.refl _).app _).cut hfix rfl
theorem rApp_av (B : Bs) (t : Tm) : ∃ u e, appR B t = (u, e) := ⟨_, _, rfl⟩
set_option maxRecDepth 100000 in
theorem rApply_c {B : Bs} (hB : OkB B) (t : Tm) (hr : t.right = true) (st : St) (x a L g : Nat) (al : Bool) (h : RS st x a L g al B) :
    ICall T Tryz.prog 42 [.ptr x 0, t.av 26] st (fun r st' => r = appV (appR B t) ∧ st' = st) := by
  refine ICall.of_vc hT [4] [(1, 2), (3, 2)] follows Tryz.call42 Tryz.func42 rfl (by kernel_rfl) fun hfix => ?_
  unfold Tryz.f42
  have q0 := fun x l => ap0 (X := st) rfl x l
  have z0 := fun x y l => as0 (X := st) rfl x y l
  simp
  refine vcICall_of (rCount_c hB _ t rfl hr 0 (by omega) (by omega) _ x a L g al (h.app _)) ?_
  rintro r st' ⟨rfl, rfl⟩ _
  simp [q0, z0]
  refine ⟨fun hbig => ?_, fun hsm => ?_⟩
  · have hb : 4096 < (t.sub (sg B)).size := by unfold oP at hbig; omega
    refine endP_mk (appV (appR B t)) (by simp [appV, appR, hb, q0]) (by simp [appV, appR, hb, zero_av, q0]) ⟨rfl, ((Pre.refl _).app _).cut hfix rfl⟩
  · have hb : ¬ 4096 < (t.sub (sg B)).size := by unfold oP at hsm; omega
    refine vcICall_of (rBuild_c hB _ t rfl hr _ x a L g al (h.app _)) ?_
    rintro r st' ⟨rfl, rfl⟩ _
    simp [q0, z0]
    refine vcCall_at (rDepth_c (t.sub (sg B)) (by unfold Tm.small; omega)) ?_
    simp [q0, z0]
    refine ⟨fun hd => ?_, fun hd => ?_⟩
    · have hd : 200 < (t.sub (sg B)).depth := by omega
      refine endP_mk (appV (appR B t)) (by simp [appV, appR, hb, q0]) (by simp [appV, appR, hb, hd, q0, Tm.zero, Tm.cells, Tm.cellsL]; rfl) ⟨rfl, ((Pre.refl _).app _).cut hfix rfl⟩
    · have hd : ¬ 200 < (t.sub (sg B)).depth := by omega
      refine endP_mk (appV (appR B t)) (by simp [appV, appR, hb, q0]) (by simp [appV, appR, hb, hd, zero_av, q0]) ⟨rfl, ((Pre.refl _).app _).cut hfix rfl⟩
end Go.T1
end

section
open Go Go.Ab Go.Proofs
namespace Go.T1
@[simp] theorem ty138 : T 138 = some ⟨1, 24, .slice 22, [], some (.slice none 0 0)⟩ := by kernel_rfl
@[simp] theorem ty49 : T 49 = some ⟨1, 24, .slice 9, [], some (.slice none 0 0)⟩ := by kernel_rfl
@[simp] theorem ty28 : T 28 = some ⟨8, 120, .strct, [(0,1),(1,1),(2,1),(3,1),(4,4)], some (.agg #[.bool false, .slice none 0 0, .slice none 0 0, .bool false, .int .i64 0, .int .i64 0, .string .empty, .slice none 0 0])⟩ := by kernel_rfl
def growQ (st : St) (r : AV) (st' : St) : Prop := ∃ g al, r = .own st.length g ∧ st' = st ++ [.row 26 g al []]
set_option maxRecDepth 100000 in
theorem grow_i (n : Nat) (hn : n * 56 ≤ 140737488355328) (st : St) : ICall T Tryz.prog 135 [.nils, .sc (.int .i64 n)] st (growQ st) := by
  refine ICall.ownR (Q := fun r st' => (r = .nils ∧ st' = st) ∨ (r = .own st.length 1 ∧ st' = st ++ [.row 26 1 true []])) 26 (ICall.of_vcU hT [] [(5, 5), (5, 8)] follows Tryz.call135 Tryz.func135 rfl (by kernel_rfl) fun hfix => ?_) ?_
  · have i0 : ∀ b : Blk, (st ++ [b])[st.length]? = some b := fun b => by simp
    have i1 : ∀ b c : Blk, (st ++ [b]).set st.length c = st ++ [c] := fun b c => by simp
    unfold Tryz.f135
    simp [i0, i1]
    exact ⟨by unfold i64ok; omega, by unfold i64ok; omega, fun h => ⟨h, hn⟩⟩
  · rintro r st' (⟨rfl, rfl⟩ | ⟨rfl, rfl⟩)
    · exact .inr ⟨rfl, 0, false, rfl, rfl⟩
    · exact .inl ⟨1, true, rfl, rfl⟩
/-- What lists of terms are kept as. -/
def llL (ls : List (List Tm)) : List (List AV) := ls.map fun l => [.lst 26 (Tm.cellsL 26 l)]
@[simp] theorem llL_len (l : List (List Tm)) : (llL l).length = l.length := by simp [llL]
@[simp] theorem llL_pure : ∀ l : List (List Tm), AV.pureM (llL l) = true
  | [] => rfl
  | s :: l => by have := llL_pure l; unfold llL at this ⊢; simp [AV.pureM, AV.pureL, AV.pure, this]
@[simp] theorem llL_getElem (l : List (List Tm)) (i : Nat) (h : i < (llL l).length) : (llL l)[i] = [.lst 26 (Tm.cellsL 26 (l[i]'(by simpa using h)))] := by simp [llL]
def lenS : List (List Tm) → Nat
  | [] => 0
  | l :: ls => l.length + lenS ls
theorem lenS_flat : ∀ ls : List (List Tm), ls.flatten.length = lenS ls
  | [] => rfl
  | l :: ls => by simp [lenS, lenS_flat ls]
theorem lenS_sum : ∀ ls : List (List Tm), lenS ls = (ls.map List.length).sum
  | [] => rfl
  | l :: ls => by simp [lenS, lenS_sum ls]
theorem lenS_take : ∀ (ls : List (List Tm)) (i : Nat) (h : i < ls.length), lenS (ls.take (i + 1)) = lenS (ls.take i) + ls[i].length
  | [], _, h => by simp at h
  | l :: ls, 0, _ => by simp [lenS]
  | l :: ls, i + 1, h => by
    have := lenS_take ls i (by simpa using h)
    simp only [List.take_succ_cons, lenS, this, List.getElem_cons_succ]; omega
theorem lenS_le : ∀ (ls : List (List Tm)) (i : Nat), lenS (ls.take i) ≤ lenS ls
  | [], i => by simp
  | l :: ls, 0 => by simp [lenS]
  | l :: ls, i + 1 => by have := lenS_le ls i; simp only [List.take_succ_cons, lenS]; omega
def catI1 (ls : List (List Tm)) (m : Nat) (σ : Slots) (st : St) : Prop := ∃ i : Nat, m = ls.length - i ∧ i ≤ ls.length ∧ σ 0 = .lst 22 (llL ls) ∧ σ 3 = .sc (.int .i64 (lenS (ls.take i))) ∧ σ 9 = .lst 22 (llL ls) ∧ σ 10 = .sc (.int .i64 ls.length) ∧ σ 11 = .sc (.int .i64 i) ∧ st = []
def catI2 (ls : List (List Tm)) (m : Nat) (σ : Slots) (st : St) : Prop := ∃ (i g : Nat) (al : Bool), m = ls.length - i ∧ i ≤ ls.length ∧ σ 6 = .own 0 g ∧ σ 25 = .lst 22 (llL ls) ∧ σ 26 = .sc (.int .i64 ls.length) ∧ σ 27 = .sc (.int .i64 i) ∧ st = [.row 26 g al (Tm.cellsL 26 (ls.take i).flatten)]
set_option maxRecDepth 100000 in
theorem Concat_c (ls : List (List Tm)) (hn : lenS ls * 56 ≤ 140737488355328) : PureCall T Tryz.prog 108 [.lst 22 (llL ls)] (.lst 26 (Tm.cellsL 26 ls.flatten)) := by
  refine PureCall.of_vc hT [] [(9, 1)] follows Tryz.call108 Tryz.func108 rfl (by kernel_rfl) (by simp [AV.pure, AV.pureL]) (by simp [AV.pure]) ?_
  unfold Tryz.f108
  simp
  intro hb1 hb2
  refine vcC_loop [] (catI1 ls) ls.length ⟨0, by simp [lenS]⟩ ?_
  rintro m σ st ⟨i, rfl, hi, s0, s3, s9, s10, s11, rfl⟩
  have hle := lenS_le ls i
  rcases Nat.lt_or_ge i ls.length with hlt | hge
  · have ht := lenS_take ls i hlt
    have hle1 := lenS_le ls (i + 1)
    simp [s0, s3, s9, s10, s11, hlt]
    refine fun _ _ => ⟨by unfold i64ok; omega, by omega, fun _ => ⟨by unfold i64ok; omega, ls.length - (i + 1), by omega, i + 1, rfl, by omega, by simp [s0], by simp [ht], by simp [s9], by simp [s10], by simp, rfl⟩⟩
  · have hi' : i = ls.length := by omega
    subst hi'
    simp [s0, s3, s9, s10, s11]
    refine vcICall_of (grow_i (lenS ls) hn []) ?_
    rintro r st' ⟨g, al, rfl, rfl⟩ _
    simp [s0, s3, s9, s10, s11]
    intro _ _
    refine vcC_loop [] (catI2 ls) ls.length ⟨0, g, al, by simp [Tm.cellsL]⟩ ?_
    rintro m σ' st ⟨i, g, al, rfl, hi, s6, s25, s26, s27, rfl⟩
    have hle := lenS_le ls i
    rcases Nat.lt_or_ge i ls.length with hlt | hge
    · have ht := lenS_take ls i hlt
      have hle1 := lenS_le ls (i + 1)
      simp [s6, s25, s26, s27, hlt]
      have e1 : (List.take i (List.map List.length ls)).sum = lenS (ls.take i) := by rw [← List.map_take, lenS_sum]
      rw [e1]
      refine ⟨by omega, by unfold i64ok; omega, ls.length - (i + 1), by omega, i + 1, g + 1, al || !(Tm.cellsL 26 ls[i]).isEmpty, rfl, by omega, by simp, by simp [s25], by simp [s26], by simp, ?_⟩
      have e2 : (ls.take (i + 1)).flatten = (ls.take i).flatten ++ ls[i] := by
        rw [List.take_add_one, List.getElem?_eq_getElem hlt, List.flatten_append]
        simp only [Option.toList_some, List.flatten_cons, List.flatten_nil, List.append_nil]
      rw [e2, Tm.cellsL_append]
    · have hi' : i = ls.length := by omega
      subst hi'
      simp [s6, s25, s26, s27]
end Go.T1
end

section
open Go Go.Ab Go.Proofs Go.RowKit Go.Shelf
namespace Go.T1
attribute [local go_sem] Oper.semAt_some
set_option maxRecDepth 100000 in
theorem Chunk_c (l : List Tm) : PureCall T Tryz.prog 102 [.lst 26 (Tm.cellsL 26 l), .sc (.int .i64 2)] (.fn (.func 128) [] [.eptr [.lst 26 (Tm.cellsL 26 l)], .eptr [.sc (.int .i64 2)]]) := by
  refine PureCall.of_vc hT [] [] follows Tryz.call102 Tryz.func102 rfl (by kernel_rfl) (by simp [AV.pure, AV.pureL]) (by simp [AV.pure, AV.pureL]) ?_
  unfold Tryz.f102
  simp [AV.ofConst, AV.ofConst1]
/-- What the iterator reads between two rounds. -/
def Kc (Bs Bn : Nat) (W W' : World) : Prop := W'.heap[Bs]? = W.heap[Bs]? ∧ W'.heap[Bn]? = W.heap[Bn]?
set_option maxRecDepth 100000 in
set_option maxHeartbeats 4000000 in
theorem chunk1_in (F : Fence) (n : Nat) (h7 : F.fn 128) (hro : F.round = none) (hn : 1 ≤ n) (l Bs bo Bn no b off m cap : Nat) (hreach : m ≤ 1000) (hcap : m * 2 ≤ cap) (J Jx : List Nat → World → Prop) (hJd : ∀ pre W, J pre W → J pre W.drew)
    (hY : ∀ pre x W, x < m → J pre W → pre.length < m → YieldAt F (n - 1) Tryz.prog l #[.slice (some ⟨b, off + x * 2 * 4, none⟩) 2 2] W fun e W' =>
      (e = .returned (.bool true) ∧ J (pre ++ [x]) W' ∧ Kc Bs Bn W W') ∨ (e = .returned (.bool false) ∧ Jx (pre ++ [x]) W'))
    (W : World) (hBs : W.cell? ⟨Bs, bo, none⟩ = some (.slice (some ⟨b, off, none⟩) (m * 2) cap)) (hBn : W.cell? ⟨Bn, no, none⟩ = some (.int .i64 2)) (h0 : J [] W) :
    CallsIn F n Tryz.prog 128 #[.func (.yield l) #[] #[], .pointer (some ⟨Bs, bo, none⟩), .pointer (some ⟨Bn, no, none⟩)] W fun e W' => (∃ v, e = .returned v) ∧
      ((∃ ys, ys = List.range m ∧ J ys W') ∨ (∃ pre, (∃ k, k ≤ m ∧ pre = List.range k) ∧ Jx pre W')) := by
  refine callsIn_of_wp Tryz.func128 rfl h7 ?_ hro
  simp only [Tryz.ntmps128, List.size_toArray, List.length_cons, List.length_nil, Nat.reduceAdd, Nat.reduceSub, Array.replicate_succ, Array.replicate_zero, List.push_toArray, List.append_toArray, List.nil_append, List.cons_append]
  gi_wp2
  gi_loopw [4] (fun i wr => ∃ k : Nat, k ≤ m ∧ i = .int .i64 ((k : Int) * 2) ∧ J (List.range k) wr ∧ Kc Bs Bn W wr)
    (fun i _ => (2 * m - intOf i).toNat)
  case atStart => exact ⟨0, Nat.zero_le _, by simp, h0, rfl, rfl⟩
  case round =>
    obtain ⟨k, hk, rfl, hJs, hnx⟩ := hrel
    have hb1 : wr.cell? ⟨Bs, bo, none⟩ = some (.slice (some ⟨b, off, none⟩) (m * 2) cap) := (World.cell?_of_block (a := ⟨Bs, bo, none⟩) hnx.1).trans hBs
    have hb2 : wr.cell? ⟨Bn, no, none⟩ = some (.int .i64 2) := (World.cell?_of_block (a := ⟨Bn, no, none⟩) hnx.2).trans hBn
    by_cases hlt : k < m
    · obtain ⟨fn, tmps, assign, body, hy, hR⟩ := hY _ k wr.drew hlt (hJd _ _ hJs) (by simpa using hlt)
      have e0 : (k : Int) * 2 < (m : Int) * 2 := by omega
      gi_wp2
      have e1 : ¬ cap = k * 2 := by omega
      have e2 : (2 : Int) ≤ ((m * 2 - k * 2 : Nat) : Int) := by omega
      gi_region
      all_goals first | (exfalso; omega) | skip
      all_goals gi_wp2
      all_goals first | (exfalso; omega) | skip
      all_goals
        refine hR.mono ?_
        rintro e W3 (⟨rfl, hJ3, hk3⟩ | ⟨rfl, hJx3⟩)
        · have hb3 : W3.cell? ⟨Bn, no, none⟩ = some (.int .i64 2) := (World.cell?_of_block (w := wr) (a := ⟨Bn, no, none⟩) hk3.2).trans hb2
          gi_wp2
          go_roundw
          case rel => exact ⟨k + 1, by omega, by simp; omega, by rw [List.range_succ]; exact hJ3, hk3.1.trans hnx.1, hk3.2.trans hnx.2⟩
          case measure => simp [intOf]; omega
        · gi_wp2
          refine bodyPost_ret (results_none rfl _ _ _) rfl ?_
          exact ⟨⟨_, rfl⟩, .inr ⟨List.range k ++ [k], ⟨k + 1, by omega, (List.range_succ ..).symm⟩, hJx3⟩⟩
    · obtain rfl : k = m := by omega
      gi_wp2
      go_end0
      exact ⟨⟨_, rfl⟩, .inl ⟨_, rfl, hJs⟩⟩
end Go.T1
end

section
open Go Go.Ab Go.Proofs Go.RowKit Go.Shelf
namespace Go.T1
/-- The two of a round. -/
def two (l : List Tm) (x : Nat) : List Tm := [l.getD (x * 2) Tm.zero, l.getD (x * 2 + 1) Tm.zero]
theorem relM_drop {E : Env} {b k : Nat} : ∀ (L : List (List AV)) (o x : Nat), RelM T E b k o L → RelM T E b k (o + x * k) (L.drop x)
  | L, o, 0, hr => by simpa using hr
  | [], o, x + 1, hr => by simp only [List.drop_nil, RelM]
  | e :: L, o, x + 1, hr => by
    simp only [RelM] at hr
    have := relM_drop L (o + k) x hr.2.2
    rw [show o + (x + 1) * k = o + k + x * k by rw [Nat.add_mul]; omega]
    simpa using this
theorem relM_take {E : Env} {b k : Nat} : ∀ (L : List (List AV)) (o x : Nat), RelM T E b k o L → RelM T E b k o (L.take x)
  | L, o, 0, hr => by simp only [List.take_zero, RelM]
  | [], o, x + 1, hr => by simp only [List.take_nil, RelM]
  | e :: L, o, x + 1, hr => by
    simp only [RelM] at hr
    simp only [List.take_succ_cons, RelM]
    exact ⟨hr.1, hr.2.1, relM_take L (o + k) x hr.2.2⟩
theorem two_is {l : List Tm} {m x : Nat} (hl : l.length = m * 2) (hx : x < m) : ((Tm.cellsL 26 l).drop (x * 2)).take 2 = Tm.cellsL 26 (two l x) := by
  rw [Tm.cellsL_drop, Tm.cellsL_take]
  congr 1
  unfold two
  rw [List.drop_eq_getElem_cons (by omega), List.drop_eq_getElem_cons (by omega)]
  have h1 : x * 2 < l.length := by omega
  have h2 : x * 2 + 1 < l.length := by omega
  simp only [List.take_succ_cons, List.take_zero, List.getD_eq_getElem?_getD, List.getElem?_eq_getElem h1, List.getElem?_eq_getElem h2, Option.getD_some]
theorem chunk_stops (E1 : Env) (n : Nat) (hn : 1 ≤ n) (l : List Tm) (m : Nat) (hl : l.length = m * 2) (h0 : 0 < m) (hm : m ≤ 1000) (p p2 : Value) (hp : Rel T E1 (.eptr [.lst 26 (Tm.cellsL 26 l)]) p) (hp2 : Rel T E1 (.eptr [.sc (.int .i64 2)]) p2) :
    ∃ encs : {x : Nat // x < m} → Array Value, (∀ x, ∃ u, encs x = #[u] ∧ Rel T E1 (.lst 26 (Tm.cellsL 26 (two l x.1))) u) ∧
      SeqStopsK (fenceR none) n Tryz.prog 128 #[p, p2] encs (fun W W' => ∀ k, E1.stable k → W'.heap[k]? = W.heap[k]?)
        (fun xs => xs.map (·.1) = List.range m) (fun _ => True) m E1.w := by
  simp only [Rel] at hp hp2
  obtain ⟨Bs, bo, rfl, hBs, hp⟩ := hp
  obtain ⟨Bn, no, rfl, hBn, hp2⟩ := hp2
  simp only [RelX] at hp hp2
  obtain ⟨⟨v, hv, hp, _⟩, _⟩ := hp
  obtain ⟨⟨v2, hv2, hp2, _⟩, _⟩ := hp2
  simp only [Rel] at hp hp2
  obtain ⟨rfl, _⟩ := hp2
  obtain ⟨hm1, hm2, a, cap, rfl, hcap, hll⟩ := hp
  have hlen : (Tm.cellsL 26 l).length = l.length := by simp
  rw [hlen] at hv hm1 hm2 hcap
  rcases hll with hll | ⟨b, o, rfl, hb, hll⟩
  · have hl0 : l = [] := by rw [← List.length_eq_zero_iff, ← hlen, hll]; rfl
    subst hl0
    simp at hl; omega
  have hT4 : T.cells 26 = 4 := by simp [Tab.cells]
  rw [hT4] at hll
  refine ⟨fun x => #[.slice (some ⟨b, o + x.1 * 2 * 4, none⟩) 2 2], fun x => ⟨_, rfl, ?_⟩, ?_⟩
  · simp only [Rel]
    have h2 : (Tm.cellsL 26 (two l x.1)).length = 2 := by simp [two]
    rw [h2]
    refine ⟨by simp [Tab.bytes], by unfold maxLen; omega, some ⟨b, o + x.1 * 2 * 4, none⟩, 2, rfl, Nat.le_refl _, .inr ⟨b, _, rfl, hb, ?_⟩⟩
    rw [hT4, ← two_is hl x.2]
    exact relM_take _ _ _ (relM_drop _ _ _ hll)
  · intro lp J Jx W hW hJ hJx hY h0'
    refine (chunk1_in (fenceR none) n trivial rfl hn lp Bs bo Bn no b o m cap hm (by omega)
      (fun ys W => ∃ xs : List {x : Nat // x < m}, xs.map (·.1) = ys ∧ J xs W) (fun ys W => ∃ xs : List {x : Nat // x < m}, xs.map (·.1) = ys ∧ Jx xs W) ?_ ?_ W
      (by rw [← hl]; exact (World.cell?_of_block (w := E1.w) (a := ⟨Bs, bo, none⟩) (hW.block Bs hBs.1)).trans hv) ((World.cell?_of_block (w := E1.w) (a := ⟨Bn, no, none⟩) (hW.block Bn hBn.1)).trans hv2) ⟨[], rfl, h0'⟩).mono ?_
    · rintro pre W1 ⟨xs, h1, h2⟩
      exact ⟨xs, h1, hJ xs W1 _ none h2 ⟨rfl, rfl, rfl, Nat.le_refl _, fun _ _ _ => rfl⟩ (fun _ h => by cases h)⟩
    · rintro pre x W1 hx ⟨xs, rfl, hJ1⟩ hlt
      obtain ⟨fn, tmps, assign, body, hy, hR⟩ := hY xs ⟨x, hx⟩ W1 hJ1 (by simpa using hlt)
      refine ⟨fn, tmps, assign, body, hy, hR.mono ?_⟩
      rintro e W' (⟨rfl, h1, h2⟩ | ⟨rfl, h1⟩)
      · exact .inl ⟨rfl, ⟨xs ++ [⟨x, hx⟩], by simp, h1⟩, h2 Bs hBs, h2 Bn hBn⟩
      · exact .inr ⟨rfl, xs ++ [⟨x, hx⟩], by simp, h1⟩
    · rintro e W' ⟨h1, ⟨ys, rfl, xs, h2, h3⟩ | ⟨pre, _, xs, _, h3⟩⟩
      · exact ⟨h1, .inl ⟨xs, h2, h3⟩⟩
      · exact ⟨h1, .inr ⟨xs, trivial, h3⟩⟩
end Go.T1
end

section
open Go Go.Ab Go.Proofs Go.RowKit
namespace Go.Ab
/-- What comes behind, kept out of sight. -/
theorem vcC_behind {T : Tab} {P : Program} {n : Nat} {mu : List Nat} {im : List (Nat × Nat)} {c : Code} {K : Slots → St → Prop} {X : Nat → Slots → St → Prop} {R : Slots → St → Prop} {σ : Slots} {st : St} (I : Slots → St → Prop)
    (h1 : ∀ Kc : Slots → St → Prop, (∀ σ st, I σ st → Kc σ st) → vcC T P n mu im c Kc X R σ st) (h2 : ∀ σ st, I σ st → K σ st) : vcC T P n mu im c K X R σ st := h1 _ h2
end Go.Ab
namespace Go.T1
def zero8 : List AV := [.sc (.bool false), .nils, .nils, .sc (.bool false), .sc (.int .i64 0), .sc (.int .i64 0), .sc (.string .empty), .nils]
def rCells (x y : AV) : List AV := [.sc (.bool true), x, y, .sc (.bool false), .sc (.int .i64 0), .sc (.int .i64 0), .sc (.string .empty), .nils]
def bSt (g1 g2 : Nat) (a1 a2 : Bool) (L1 L2 : List Tm) : St := [.cells zero8, .cells (rCells (.own 2 g1) (.own 3 g2)), .row 26 g1 a1 (Tm.cellsL 26 L1), .row 26 g2 a2 (Tm.cellsL 26 L2)]
abbrev bothIm : List (Nat × Nat) := [(4, 7), (4, 9), (4, 11), (5, 7), (5, 9), (5, 11)] ++ [0, 1, 2, 3, 4, 5, 6, 7, 8, 10, 12009, 11].map (Prod.mk 200004) ++ [0, 1, 2, 3, 4, 5, 6, 7, 8, 10, 12009, 11].map (Prod.mk 200005)
/-- The slots that a round of both knows. -/
def sigB : Slots := fun i => if i = 2 then .ptr 0 0 else if i = 3 then .ptr 1 0 else .any
theorem sigB_sol (i : Nat) : (sigB i).sol2 := by
  unfold sigB; split
  · trivial
  · split <;> trivial
mutual
theorem Tm.cells_sol2 (e : Nat) : ∀ t : Tm, AV.sol2L (t.cells e)
  | .mk k n s l => by simp only [Tm.cells, AV.sol2L, AV.sol2]; exact ⟨trivial, trivial, trivial, Tm.cellsL_sol2 e l, trivial⟩
theorem Tm.cellsL_sol2 (e : Nat) : ∀ l : List Tm, AV.sol2M (Tm.cellsL e l)
  | [] => by simp only [Tm.cellsL, AV.sol2M]
  | t :: ts => by
    simp only [Tm.cellsL, AV.sol2M]
    exact ⟨by cases t; simp [Tm.cells], Tm.cells_sol2 e t, Tm.cellsL_sol2 e ts⟩
end
set_option maxRecDepth 100000 in
theorem body_ok : (match Tryz.f72.body with | some (.seq _ (.seq _ (.seq (.seq _ (.block _ (.rangeFunc _ _ _ b))) _))) => regOnly2 bothIm b | _ => false) = true := by kernel_rfl
end Go.T1
end

section
open Go Go.Ab Go.Proofs
namespace Go.Ab
def Tm.kd : Tm → Int | .mk k _ _ _ => k
def Tm.nm : Tm → Int | .mk _ n _ _ => n
def Tm.sv : Tm → ByteArray | .mk _ _ s _ => s
def Tm.ar : Tm → List Tm | .mk _ _ _ l => l
end Go.Ab
namespace Go.T1
/-- What a call comes to. -/
structure BRes where
  ok : Bool
  left : List Tm
  right : List Tm
  thrown : Bool
  ball : Tm
def zeroB : BRes := ⟨false, [], [], false, Tm.zero⟩
def ballB (t : Tm) : BRes := ⟨false, [], [], true, t⟩
def whenB (b : Bool) : BRes := ⟨b, [], [], false, Tm.zero⟩
def pairB (l r : List Tm) : BRes := ⟨true, l, r, false, Tm.zero⟩
def names1 : List ByteArray := [⟨#[118, 97, 114]⟩, ⟨#[110, 111, 110, 118, 97, 114]⟩, ⟨#[97, 116, 111, 109]⟩, ⟨#[105, 110, 116, 101, 103, 101, 114]⟩, ⟨#[99, 111, 109, 112, 111, 117, 110, 100]⟩]
def names2 : List ByteArray := [⟨#[61]⟩, ⟨#[92, 61]⟩, ⟨#[61, 61]⟩, ⟨#[92, 61, 61]⟩, ⟨#[64, 60]⟩, ⟨#[64, 62]⟩, ⟨#[64, 61, 60]⟩, ⟨#[64, 62, 61]⟩, ⟨#[61, 46, 46]⟩, ⟨#[99, 111, 112, 121, 95, 116, 101, 114, 109]⟩, ⟨#[105, 115]⟩, ⟨#[61, 58, 61]⟩, ⟨#[61, 92, 61]⟩, ⟨#[60]⟩, ⟨#[62]⟩, ⟨#[61, 60]⟩, ⟨#[62, 61]⟩, ⟨#[97, 116, 111, 109, 95, 108, 101, 110, 103, 116, 104]⟩]
def names3 : List ByteArray := [⟨#[99, 111, 109, 112, 97, 114, 101]⟩, ⟨#[102, 117, 110, 99, 116, 111, 114]⟩, ⟨#[97, 114, 103]⟩]
def knownC (s : ByteArray) (n : Int) : Bool := if n = 1 then names1.any (fun x => decide (s = x)) else if n = 2 then names2.any (fun x => decide (s = x)) else if n = 3 then names3.any (fun x => decide (s = x)) else false
def nameB (t : Tm) : Tm := if t.kd = 2 then t else atomT t.sv
def freshB (next : Int) (n : Nat) : List Tm := (List.range n).map fun i => Tm.var (next + (i : Nat))
def functorB (t n a : Tm) (next : Int) : BRes :=
  if t.kd ≠ 1 then pairB [n, a] [nameB t, intT t.ar.length]
  else if n.kd = 1 ∨ a.kd = 1 then ballB instT
  else if a.kd ≠ 2 then ballB (typeT ⟨#[105, 110, 116, 101, 103, 101, 114]⟩ a)
  else if a.nm < 0 ∨ 16 < a.nm then ballB (typeT ⟨#[97, 114, 105, 116, 121]⟩ a)
  else if a.nm = 0 ∧ n.kd = 4 then ballB (typeT ⟨#[97, 116, 111, 109, 105, 99]⟩ n)
  else if a.nm = 0 then pairB [t] [n]
  else if n.kd ≠ 3 then ballB (typeT ⟨#[97, 116, 111, 109]⟩ n)
  else pairB [t] [compT n.sv (freshB next a.nm.toNat)]
def argB (n t a : Tm) : BRes :=
  if n.kd = 1 then ballB instT
  else if n.kd ≠ 2 then ballB (typeT ⟨#[105, 110, 116, 101, 103, 101, 114]⟩ n)
  else if t.kd = 1 then ballB instT
  else if t.kd ≠ 4 then ballB (typeT ⟨#[99, 111, 109, 112, 111, 117, 110, 100]⟩ t)
  else if n.nm < 1 ∨ t.ar.length < n.nm then whenB false
  else pairB [a] [t.ar.getD (n.nm - 1).toNat Tm.zero]
def madeB (t : Tm) (l : List Tm) : BRes :=
  if (l.getD 0 Tm.zero).kd = 1 then ballB instT
  else if l.length = 1 ∧ (l.getD 0 Tm.zero).kd = 4 then ballB (typeT ⟨#[97, 116, 111, 109, 105, 99]⟩ (l.getD 0 Tm.zero))
  else if l.length = 1 then pairB [t] [l.getD 0 Tm.zero]
  else if (l.getD 0 Tm.zero).kd ≠ 3 then ballB (typeT ⟨#[97, 116, 111, 109]⟩ (l.getD 0 Tm.zero))
  else if 17 < l.length then ballB sizeT
  else pairB [t] [compT (l.getD 0 Tm.zero).sv (l.drop 1)]
def nilT : Tm := atomT ⟨#[91, 93]⟩
def univB (t l : Tm) : BRes :=
  if t.kd ≠ 1 then pairB [l] [Tm.list nilT (nameB t :: t.ar)]
  else if l.items.2.kd = 1 then ballB instT
  else if l.items.2 ≠ nilT ∨ l.items.1 = [] then ballB (typeT ⟨#[108, 105, 115, 116]⟩ l)
  else madeB t l.items.1
def copiedB (t : Tm) (next : Int) : Tm := (renT t).sub (repF (freshB next (t.vars []).length))
def orderedB (op : ByteArray) (a b : Tm) : BRes :=
  if (ordT a b).2 = false then ballB instT
  else if op = ⟨#[64, 60]⟩ then whenB (decide ((ordT a b).1 < 0))
  else if op = ⟨#[64, 62]⟩ then whenB (decide (0 < (ordT a b).1))
  else if op = ⟨#[64, 61, 60]⟩ then whenB (decide ((ordT a b).1 ≤ 0))
  else whenB (decide (0 ≤ (ordT a b).1))
def signS (n : Int) : ByteArray := if n < 0 then ⟨#[60]⟩ else if 0 < n then ⟨#[62]⟩ else ⟨#[61]⟩
def compareB (o a b : Tm) : BRes := if (ordT a b).2 = false then ballB instT else pairB [o] [atomT (signS (ordT a b).1)]
def lengthB (a n : Tm) : BRes :=
  if a.kd = 1 then ballB instT
  else if a.kd ≠ 3 then ballB (typeT ⟨#[97, 116, 111, 109]⟩ a)
  else pairB [n] [intT a.sv.size]
def evaluateB (x e : Tm) : BRes := if (evalR e).bad = true then ballB (evalR e).ball else pairB [x] [intT (evalR e).n]
open Classical in
noncomputable def unB (a b : Tm) : Bool := decide (∃ B, Un [] [(a, b)] (some B))
def singleB (op : ByteArray) (t : Tm) : BRes :=
  if op = ⟨#[118, 97, 114]⟩ then whenB (decide (t.kd = 1))
  else if op = ⟨#[110, 111, 110, 118, 97, 114]⟩ then whenB (!decide (t.kd = 1))
  else if op = ⟨#[97, 116, 111, 109]⟩ then whenB (decide (t.kd = 3))
  else if op = ⟨#[105, 110, 116, 101, 103, 101, 114]⟩ then whenB (decide (t.kd = 2))
  else whenB (decide (t.kd = 4))
def finB (r : BRes) : BRes := if (∀ x ∈ r.left, x.check = 0) ∧ (∀ x ∈ r.right, x.check = 0) then r else ballB sizeT
end Go.T1
end

section
open Go Go.Ab Go.Proofs
namespace Go.T1
def BRes.c (r : BRes) : List AV := [.sc (.bool r.ok), .lst 26 (Tm.cellsL 26 r.left), .lst 26 (Tm.cellsL 26 r.right), .sc (.bool r.thrown)] ++ r.ball.cells 26
@[simp] theorem BRes.c_len (r : BRes) : r.c.length = 8 := by simp [BRes.c]
@[simp] theorem BRes.c_pure (r : BRes) : AV.pureL r.c = true := by simp [BRes.c, AV.pureL, AV.pure]
@[simp] theorem BRes.c_take (r : BRes) : r.c.take 8 = r.c := List.take_of_length_le (by simp)
@[simp] theorem BRes.c_frz (S : St) (r : BRes) : AV.frzL S r.c = r.c := frz_pureL S _ (by simp)
@[simp] theorem BRes.c_refl (r : BRes) : leV.leL r.c r.c := leL_refl _
@[simp] theorem Tm.c_refl (t : Tm) : leV.leL (t.cells 26) (t.cells 26) := leL_refl _
set_option maxRecDepth 100000 in
theorem throw_c (t : Tm) : PureCall T Tryz.prog 48 [t.av 26] (.agg (ballB t).c) := by
  refine PureCall.of_vc hT [] [] follows Tryz.call48 Tryz.func48 rfl (by kernel_rfl) (by simp [AV.pure, AV.pureL]) (by simp [AV.pure]) ?_
  unfold Tryz.f48
  simp [BRes.c, ballB]
set_option maxRecDepth 100000 in
theorem when_c (b : Bool) : PureCall T Tryz.prog 70 [.sc (.bool b)] (.agg (whenB b).c) := by
  refine PureCall.of_vc hT [] [] follows Tryz.call70 Tryz.func70 rfl (by kernel_rfl) (by simp [AV.pure, AV.pureL]) (by simp [AV.pure]) ?_
  unfold Tryz.f70
  simp [BRes.c, whenB, Tm.zero, Tm.cells, Tm.cellsL]
  rfl
set_option maxRecDepth 100000 in
theorem is_c (t : Tm) (k : Int) : PureCall T Tryz.prog 71 [t.av 26, .sc (.int .i64 k)] (.sc (.bool (decide (t.kd = k)))) := by
  refine PureCall.of_vc hT [] [] follows Tryz.call71 Tryz.func71 rfl (by kernel_rfl) (by simp [AV.pure, AV.pureL]) rfl ?_
  unfold Tryz.f71
  cases t
  simp [Tm.cells, Tm.kd]
  try rfl
set_option maxRecDepth 100000 in
theorem inst_c : PureCall T Tryz.prog 82 [] (.agg (ballB instT).c) := by
  refine PureCall.of_vc hT [] [] follows Tryz.call82 Tryz.func82 rfl (by kernel_rfl) rfl (by simp [AV.pure]) ?_
  unfold Tryz.f82
  simp
  refine vcCall_of error0_c (by simp) ?_
  simp
  refine vcCall_at (throw_c _) ?_
  simp
set_option maxRecDepth 100000 in
theorem size_c : PureCall T Tryz.prog 30 [] (.agg (ballB sizeT).c) := by
  refine PureCall.of_vc hT [] [] follows Tryz.call30 Tryz.func30 rfl (by kernel_rfl) rfl (by simp [AV.pure]) ?_
  unfold Tryz.f30
  simp
  refine vcCall_at (Atom_c _) ?_
  simp
  refine vcCall_at (error1_c (Tm.mk 3 0 ⟨#[115, 105, 122, 101]⟩ [])) ?_
  simp
  refine vcCall_at (throw_c sizeT) ?_
  simp
set_option maxRecDepth 100000 in
theorem kind_c (s : ByteArray) (t : Tm) : PureCall T Tryz.prog 85 [.sc (.string s), t.av 26] (.agg (ballB (typeT s t)).c) := by
  refine PureCall.of_vc hT [] [] follows Tryz.call85 Tryz.func85 rfl (by kernel_rfl) (by simp [AV.pure, AV.pureL]) (by simp [AV.pure]) ?_
  unfold Tryz.f85
  simp
  refine vcCall_at (type_c s t) ?_
  simp
  refine vcCall_at (throw_c _) ?_
  simp
set_option maxRecDepth 100000 in
theorem name_c (t : Tm) : PureCall T Tryz.prog 83 [t.av 26] ((nameB t).av 26) := by
  refine PureCall.of_vc hT [] [] follows Tryz.call83 Tryz.func83 rfl (by kernel_rfl) (by simp [AV.pure, AV.pureL]) (by simp [AV.pure]) ?_
  unfold Tryz.f83
  simp
  refine vcCall_at (is_c t 2) ?_
  simp
  refine ⟨fun h => ?_, fun h => ?_⟩
  · rw [nameB, if_pos h]; simp
  · obtain ⟨k, n, sv, l⟩ := t
    simp [Tm.cells]
    refine vcCall_at (Atom_c sv) ?_
    rw [nameB, if_neg h]
    simp [atomT, Tm.sv]
set_option maxRecDepth 100000 in
theorem wrong1_c (t : Tm) (ht : t.small) : PureCall T Tryz.prog 46 [t.av 26] (.sc (.bool (!decide (t.check = 0)))) := by
  refine PureCall.of_vc hT [] [] follows Tryz.call46 Tryz.func46 rfl (by kernel_rfl) (by simp [AV.pure, AV.pureL]) rfl ?_
  unfold Tryz.f46
  simp
  refine vcCall_at (check_c t ht) ?_
  simp
set_option maxRecDepth 100000 in
theorem wrong_c (l : List Tm) (hs : ∀ x ∈ l, x.small) : PureCall T Tryz.prog 29 [.lst 26 (Tm.cellsL 26 l)] (.sc (.bool (l.any fun x => !decide (x.check = 0)))) := by
  refine PureCall.of_vc hT [] [] follows Tryz.call29 Tryz.func29 rfl (by kernel_rfl) (by simp [AV.pure, AV.pureL]) rfl ?_
  unfold Tryz.f29
  simp
  refine vcCall_at (containsFunc_c 46 [] [] rfl (fun x => !decide (x.check = 0)) l fun x hx => wrong1_c x (hs x hx)) ?_
  simp
set_option maxRecDepth 100000 in
theorem rball_c (t : Tm) : PureCall T Tryz.prog 32 [t.av 26] (.agg (ballB t).c) := by
  refine PureCall.of_vc hT [] [] follows Tryz.call32 Tryz.func32 rfl (by kernel_rfl) (by simp [AV.pure, AV.pureL]) (by simp [AV.pure]) ?_
  unfold Tryz.f32
  simp [BRes.c, ballB]
set_option maxRecDepth 100000 in
theorem rinst_c : PureCall T Tryz.prog 92 [] (.agg (ballB instT).c) := by
  refine PureCall.of_vc hT [] [] follows Tryz.call92 Tryz.func92 rfl (by kernel_rfl) rfl (by simp [AV.pure]) ?_
  unfold Tryz.f92
  simp
  refine vcCall_at rInst_c ?_
  simp
  refine vcCall_at (rball_c _) ?_
  simp
set_option maxRecDepth 100000 in
theorem rkind_c (s : ByteArray) (t : Tm) : PureCall T Tryz.prog 93 [.sc (.string s), t.av 26] (.agg (ballB (typeT s t)).c) := by
  refine PureCall.of_vc hT [] [] follows Tryz.call93 Tryz.func93 rfl (by kernel_rfl) (by simp [AV.pure, AV.pureL]) (by simp [AV.pure]) ?_
  unfold Tryz.f93
  simp
  refine vcCall_at (rType_c s t) ?_
  simp
  refine vcCall_at (rball_c _) ?_
  simp
set_option maxRecDepth 100000 in
theorem rholds_c (b : Bool) : PureCall T Tryz.prog 56 [.sc (.bool b)] (.agg (whenB b).c) := by
  refine PureCall.of_vc hT [] [] follows Tryz.call56 Tryz.func56 rfl (by kernel_rfl) (by simp [AV.pure, AV.pureL]) (by simp [AV.pure]) ?_
  unfold Tryz.f56
  simp [BRes.c, whenB, Tm.zero, Tm.cells, Tm.cellsL]
  rfl
set_option maxRecDepth 100000 in
theorem rpair_c (a b : Tm) : PureCall T Tryz.prog 87 [a.av 26, b.av 26] (.agg (pairB [a] [b]).c) := by
  refine PureCall.of_vc hT [] [] follows Tryz.call87 Tryz.func87 rfl (by kernel_rfl) (by simp [AV.pure, AV.pureL]) (by simp [AV.pure]) ?_
  unfold Tryz.f87
  simp [BRes.c, pairB, Tm.zero, Tm.cells, Tm.cellsL]
  try rfl
set_option maxRecDepth 100000 in
theorem rname_c (t : Tm) : PureCall T Tryz.prog 96 [t.av 26] ((nameB t).av 26) := by
  refine PureCall.of_vc hT [] [] follows Tryz.call96 Tryz.func96 rfl (by kernel_rfl) (by simp [AV.pure, AV.pureL]) (by simp [AV.pure]) ?_
  unfold Tryz.f96
  obtain ⟨k, n, sv, l⟩ := t
  by_cases h : k = 2
  · have e : nameB (.mk k n sv l) = .mk k n sv l := by rw [nameB, if_pos (show (Tm.mk k n sv l).kd = 2 from h)]
    rw [e]
    simp [Tm.cells, h]
  · have e : nameB (.mk k n sv l) = atomT sv := by rw [nameB, if_neg (show ¬ (Tm.mk k n sv l).kd = 2 from h)]; rfl
    rw [e]
    simp [Tm.cells, h]
    refine vcCall_at (rAtom_c sv) ?_
    simp [atomT, Tm.cells]
end Go.T1
end

section
open Go Go.Ab Go.Proofs Go.RowKit
namespace Go.T1
def ev (l : List Tm) (xs : List Nat) : List Tm := xs.map fun x => l.getD (x * 2) Tm.zero
def od (l : List Tm) (xs : List Nat) : List Tm := xs.map fun x => l.getD (x * 2 + 1) Tm.zero
def bothT (l : List Tm) (m : Nat) : AV := .agg (rCells (.lst 26 (Tm.cellsL 26 (ev l (List.range m)))) (.lst 26 (Tm.cellsL 26 (od l (List.range m)))))
theorem bSt_cut (g1 g2 : Nat) (a1 a2 : Bool) (L1 L2 : List Tm) : cutSt 4 (bSt g1 g2 a1 a2 L1 L2) = bSt g1 g2 a1 a2 L1 L2 := by
  simp [cutSt, bSt, zero8, rCells]
theorem bSt_ok (g1 g2 : Nat) (a1 a2 : Bool) (L1 L2 : List Tm) : okSt (bSt g1 g2 a1 a2 L1 L2) := by
  intro i b h
  match i, h with
  | 0, h => simp [bSt] at h; subst h; simp [okB, zero8, AV.solidL, AV.solid]
  | 1, h => simp [bSt] at h; subst h; simp [okB, rCells, AV.solidL, AV.solid]
  | 2, h => simp [bSt] at h; subst h; exact Tm.cellsL_solid 26 L1
  | 3, h => simp [bSt] at h; subst h; exact Tm.cellsL_solid 26 L2
  | i + 4, h => simp [bSt] at h
set_option maxRecDepth 100000 in
set_option maxHeartbeats 1000000 in
theorem both_c (l : List Tm) (m : Nat) (hl : l.length = m * 2) (h0 : 0 < m) (hm : m ≤ 1000) : PureCall T Tryz.prog 72 [.lst 26 (Tm.cellsL 26 l)] (bothT l m) := by
  refine ⟨Tryz.call72, by simp [AV.pure, AV.pureL], by simp [bothT, rCells, AV.pure, AV.pureL], fun w M vs hM hr => ?_⟩
  let E0 : Env := ⟨w, [], fun _ => 0, M⟩
  have hi0 : Inv T E0 := ⟨fun i j bi bj h => by simp [E0] at h, fun i bi h => by simp [E0] at h, hM, fun i bi h => by simp [E0] at h⟩
  refine callsIn_wide.1 (callsIn_of_wp_marks (F := fenceR none) (n := 2) Tryz.func72 rfl trivial ?_ rfl)
  unfold Tryz.f72
  have hs0 : RelS T E0 30 (slots0 [.lst 26 (Tm.cellsL 26 l)]) { tmps := vs.toArray ++ Array.replicate (30 - vs.toArray.size) undef, defers := [] } := slots0_rel hr 30
  show Code.wpIn (fenceR none) 2 Tryz.prog _ _ { tmps := vs.toArray ++ Array.replicate (30 - vs.toArray.size) undef, defers := [] } E0.w
  rw [← behindA_nil { tmps := vs.toArray ++ Array.replicate (30 - vs.toArray.size) undef, defers := [] }]
  refine wpIn_seq (vcR_sound (r := none) (ds := []) (mu := [2, 3]) (X := fun _ _ _ => False) (R := fun _ _ => False) (st := []) (K := fun σ st => σ 0 = .lst 26 (Tm.cellsL 26 l) ∧ σ 2 = .ptr 0 0 ∧ st = [.cells zero8]) hT follows _ E0 _ rfl ?_ rfl hi0 (Step.refl _) hs0 ?_)
  · simp [zero8]
  intro Ea σa aa ia sa ra ⟨a0, a2, ast⟩
  refine wpIn_seq (vcR_sound (r := none) (ds := []) (mu := [2, 3]) (X := fun _ _ _ => False) (R := fun _ _ => False) (st := Ea.st) (E0 := E0) (K := fun σ st => σ 0 = .lst 26 (Tm.cellsL 26 l) ∧ σ 2 = .ptr 0 0 ∧ σ 3 = .ptr 1 0 ∧ st = [.cells zero8, .cells (rCells .nils .nils)]) hT follows _ Ea aa rfl ?_ rfl ia sa ra ?_)
  · simp [ast, a0, a2, rCells]
  intro Eb σb ab ib sb rb ⟨b0, b2, b3, bst⟩
  refine wpIn_seq (wpIn_seq (vcR_sound (r := none) (ds := []) (mu := [2, 3]) (X := fun _ _ _ => False) (R := fun _ _ => False) (st := Eb.st) (E0 := E0) (K := fun σ st => σ 2 = .ptr 0 0 ∧ σ 3 = .ptr 1 0 ∧ σ 7 = .fn (.func 128) [] [.eptr [.lst 26 (Tm.cellsL 26 l)], .eptr [.sc (.int .i64 2)]] ∧ st = [.cells zero8, .cells (rCells .nils .nils)]) hT follows _ Eb ab rfl ?_ rfl ib sb rb ?_))
  · simp [b0, b2, b3, bst]
    refine vcCall_at (Chunk_c l) ?_
    simp [b2, b3]
  intro Ec σc a1 ic sc rc ⟨c2, c3, c7, cst⟩
  -- the two slices, named as rows of one's own
  obtain ⟨Ed, dw, dst, di, ds⟩ := Env.adoptCell ic 26 (id := 1) (off := 1) (cs := rCells .nils .nils) (by rw [cst]; rfl) rfl
  obtain ⟨E1, ew, est, i1, es⟩ := Env.adoptCell di 26 (id := 1) (off := 2) (cs := rCells (.own 2 0) .nils) (by rw [dst, cst]; rfl) rfl
  have hst1 : E1.st = bSt 0 0 false false [] [] := by rw [est, dst, cst]; rfl
  have s01 : Step E0 E1 := (sc.trans ds).trans es
  have r1 : RelS T E1 30 σc a1 := (rc.step ds).step es
  rw [← dw, ← ew]
  show Code.wpIn (fenceR none) 2 Tryz.prog _ _ (behindA a1 []) E1.w
  rw [behindA_nil]
  have r7 := r1.val 7
  rw [c7] at r7
  simp only [Rel] at r7
  obtain ⟨fs, ws, e7, hfs, hws⟩ := r7
  simp only [RelL] at hfs hws
  subst hfs
  obtain ⟨p, _, rfl, hp, p2, _, rfl, hp2, rfl⟩ := hws
  obtain ⟨encs, henc, hseq⟩ := chunk_stops E1 1 (by omega) l m hl h0 hm p p2 (by simpa only [Rel] using hp) (by simpa only [Rel] using hp2)
  refine wpIn_block ?_
  refine rangeRule1 (mu := [2, 3]) (im := bothIm) (α := {x : Nat // x < m}) hT follows E1 sigB (by omega) i1 ?_ (r1.forget ?_) sigB_sol (gf := 128) (lb := #[p, p2]) e7 Tryz.call128
    (xv := fun x => .lst 26 (Tm.cellsL 26 (two l x.1))) ?_ hseq (by decide) 4 (by decide)
    (fun pre st => ∃ g1 g2 a1 a2, st = bSt g1 g2 a1 a2 (ev l (pre.map (·.1))) (od l (pre.map (·.1)))) ?_ ⟨0, 0, false, false, hst1⟩ body_ok ?_ ?_ ?_
  · rw [hst1]; exact bSt_ok _ _ _ _ _ _
  · intro i
    unfold sigB
    split
    · rename_i h; subst h; exact .inr c2
    · split
      · rename_i h; subst h; exact .inr c3
      · exact .inl rfl
  · intro x
    obtain ⟨u, h1, h2⟩ := henc x
    exact ⟨u, h1, h2, by simp only [AV.sol2]; exact Tm.cellsL_sol2 26 _⟩
  · rintro pre st ⟨g1, g2, b1, b2, rfl⟩
    exact ⟨bSt_ok _ _ _ _ _ _, by rw [hst1]; rfl⟩
  · intro lp n' tm u W K h1 h2
    refine wpIn_region_list ?_
    unfold wpListIn
    split
    case isFalse h => exact absurd rfl h
    refine ⟨fun _ _ => trivial, ?_⟩
    rw [Oper.semAt_eq _ _ _ (fun c e => by cases e)]
    have ev8 : ({ tmps := tm, defers := [] } : Act).eval (.tmp 8) = u := by simp [Act.eval, h1]
    simp [execOp, ev8, go_sem]
    simp [h1]
    unfold wpListIn
    exact h2
  · rintro pre x st ⟨g1, g2, b1, b2, rfl⟩ hlt
    refine vcC_blk (fun σ Z => ∃ g1 g2 a1 a2, cutSt E1.st.length Z = bSt g1 g2 a1 a2 (ev l ((pre ++ [x]).map (·.1))) (od l ((pre ++ [x]).map (·.1)))) (fun K X hK0 _ _ => ?_) (fun _ _ h => h)
    generalize hL1 : ev l (pre.map (·.1)) = L1
    generalize hL2 : od l (pre.map (·.1)) = L2
    have hn1 : L1.length ≤ 1000 := by rw [← hL1]; simp [ev]; omega
    have hn2 : L2.length ≤ 1000 := by rw [← hL2]; simp [od]; omega
    obtain ⟨u, hu⟩ : ∃ u, u = l.getD (x.1 * 2) Tm.zero := ⟨_, rfl⟩
    obtain ⟨v, hv⟩ : ∃ v, v = l.getD (x.1 * 2 + 1) Tm.zero := ⟨_, rfl⟩
    have htwo : Tm.cellsL 26 (two l x.1) = [u.cells 26, v.cells 26] := by rw [hu, hv]; rfl
    rw [htwo]
    refine vcC_cut (fun σ Z => σ 3 = .ptr 1 0 ∧ σ 4 = .lst 26 [u.cells 26, v.cells 26] ∧ ∃ g1', Z = bSt g1' g2 true b2 (L1 ++ [u]) L2) (fun K hK => ?_) ?_
    · have s3 : put2 8 4 sigB (.lst 26 [u.cells 26, v.cells 26]) (.lst 26 [u.cells 26, v.cells 26]) 3 = .ptr 1 0 := rfl
      have s4 : put2 8 4 sigB (.lst 26 [u.cells 26, v.cells 26]) (.lst 26 [u.cells 26, v.cells 26]) 4 = .lst 26 [u.cells 26, v.cells 26] := rfl
      generalize put2 8 4 sigB (.lst 26 [u.cells 26, v.cells 26]) (.lst 26 [u.cells 26, v.cells 26]) = σ at *
      have h2 : (26 : Nat) = 26 := rfl
      simp [s3, s4]
      refine ⟨fun o r Z => o = 9 ∨ o = 11 → ∃ c L, Z = [.cells zero8, .cells c, .row 26 (g1 + 1) true L, .row 26 g2 b2 (Tm.cellsL 26 L2)] ∧ L.length = L1.length + 1, ?_⟩
      simp (decide := true) [s3, s4, bSt, rCells]
      refine ⟨by simp (decide := true) [s3, s4, bSt, rCells], ?_⟩; simp (decide := true) [s3, s4, bSt, rCells]
      refine ⟨by simp (decide := true) [s3, s4, bSt, rCells], ?_⟩; simp (decide := true) [s3, s4, bSt, rCells]
      refine ⟨by simp (decide := true) [s3, s4, bSt, rCells], ?_⟩; simp (decide := true) [s3, s4, bSt, rCells]
      refine ⟨by simp (decide := true) [s3, s4, bSt, rCells], ?_⟩; simp (decide := true) [s3, s4, bSt, rCells]
      refine ⟨by simp (decide := true) [s3, s4, bSt, rCells], ?_⟩; simp (decide := true) [s3, s4, bSt, rCells]
      refine ⟨by simp (decide := true) [s3, s4, bSt, rCells], ?_⟩; simp (decide := true) [s3, s4, bSt, rCells]
      refine ⟨by simp (decide := true) [s3, s4, bSt, rCells], ?_⟩; simp (decide := true) [s3, s4, bSt, rCells]
      refine vcThenQ_of (fun r Z => r = .own 2 (g1 + 1) ∧ Z = [.cells zero8, .cells (rCells (.own 2 g1) (.own 3 g2)), .row 26 (g1 + 1) true (Tm.cellsL 26 L1 ++ [zeroT]), .row 26 g2 b2 (Tm.cellsL 26 L2)]) rfl (by simp) rfl (by simp (decide := true) [vcI, s3, s4, bSt, rCells, zeroT]; omega) (fun r Z h => by simp) ?_
      rintro r Z ⟨rfl, rfl⟩ _
      have q1 : (L1.length : Int) < L1.length + 1 := by omega
      have tn : ((L1.length : Int)).toNat = L1.length := by omega
      have gz : (Tm.cellsL 26 L1 ++ [zeroT])[L1.length]? = some zeroT := by rw [List.getElem?_append_right (by simp)]; simp
      have sz : (Tm.cellsL 26 L1 ++ [zeroT]).set L1.length (Tm.cells 26 u) = Tm.cellsL 26 (L1 ++ [u]) := by
        rw [List.set_append_right _ _ (by simp)]; simp [Tm.cellsL]
      simp (decide := true) [s3, s4, bSt, rCells, q1]
      refine ⟨?_, ?_⟩
      · simp (decide := true) [s3, s4]
        rintro Z c L rfl hL
        simp [hL]
      simp (decide := true) [s3, s4, bSt, rCells, q1]
      refine ⟨by simp (decide := true) [s3, s4]; rintro Z c L rfl hL; simp, ?_⟩
      simp (decide := true) [s3, s4, bSt, rCells, q1]
      refine ⟨?_, ?_⟩
      · refine vcThenQ_of (fun r Z => Z = [.cells zero8, .cells (rCells (.own 2 (g1 + 1)) (.own 3 g2)), .row 26 (g1 + 1) true (Tm.cellsL 26 L1 ++ [zeroT]), .row 26 g2 b2 (Tm.cellsL 26 L2)]) rfl (by simp) rfl (by simp (decide := true) [vcI, s3, s4, rCells]) (fun r Z h _ => ⟨_, _, h, by simp⟩) ?_
        rintro r Z rfl _
        refine vcThenQ_of (fun r Z => Z = bSt (g1 + 1) g2 true b2 (L1 ++ [u]) L2) rfl (by simp) rfl (by simp (decide := true) [vcI, s3, s4, rCells, bSt, gz, sz, zeroT, tn]; rfl) (fun r Z h _ => ⟨_, _, h, by simp⟩) ?_
        rintro r Z rfl _
        simp (decide := true) [s3, s4]
        exact hK _ _ ⟨by simp [s3], by simp [s4], _, rfl⟩
      · refine vcThenQ_of (fun r Z => Z = [.cells zero8, .cells (rCells (.own 2 g1) (.own 3 g2)), .row 26 (g1 + 1) true (Tm.cellsL 26 (L1 ++ [u])), .row 26 g2 b2 (Tm.cellsL 26 L2)]) rfl (by simp) rfl (by simp (decide := true) [vcI, s3, s4, rCells, gz, sz, zeroT, tn]; rfl) (fun r Z h _ => ⟨_, _, h, by simp⟩) ?_
        rintro r Z rfl _
        simp (decide := true) [s3, s4]
        refine vcThenQ_of (fun r Z => Z = bSt (g1 + 1) g2 true b2 (L1 ++ [u]) L2) rfl (by simp) rfl (by simp (decide := true) [vcI, s3, s4, rCells, bSt]) (fun r Z h _ => ⟨_, _, h, by simp⟩) ?_
        rintro r Z rfl _
        simp (decide := true) [s3, s4]
        exact hK _ _ ⟨by simp [s3], by simp [s4], _, rfl⟩
    rintro σ Z ⟨s3, s4, g1', rfl⟩
    generalize hA : L1 ++ [u] = A
    refine vcC_behind (fun σ Z => ∃ g1 g2, Z = bSt g1 g2 true true A (L2 ++ [v])) (fun K hK => ?_) ?_
    · clear hA
      have h2 : (26 : Nat) = 26 := rfl
      simp [s3, s4]
      refine ⟨fun o r Z => o = 9 ∨ o = 11 → ∃ c L, Z = [.cells zero8, .cells c, .row 26 g1' true (Tm.cellsL 26 A), .row 26 (g2 + 1) true L] ∧ L.length = L2.length + 1, ?_⟩
      simp (decide := true) [s3, s4, bSt, rCells]
      refine ⟨by simp (decide := true) [s3, s4, bSt, rCells], ?_⟩; simp (decide := true) [s3, s4, bSt, rCells]
      refine ⟨by simp (decide := true) [s3, s4, bSt, rCells], ?_⟩; simp (decide := true) [s3, s4, bSt, rCells]
      refine ⟨by simp (decide := true) [s3, s4, bSt, rCells], ?_⟩; simp (decide := true) [s3, s4, bSt, rCells]
      refine ⟨by simp (decide := true) [s3, s4, bSt, rCells], ?_⟩; simp (decide := true) [s3, s4, bSt, rCells]
      refine ⟨by simp (decide := true) [s3, s4, bSt, rCells], ?_⟩; simp (decide := true) [s3, s4, bSt, rCells]
      refine ⟨by simp (decide := true) [s3, s4, bSt, rCells], ?_⟩; simp (decide := true) [s3, s4, bSt, rCells]
      refine ⟨by simp (decide := true) [s3, s4, bSt, rCells], ?_⟩; simp (decide := true) [s3, s4, bSt, rCells]
      refine vcThenQ_of (fun r Z => r = .own 3 (g2 + 1) ∧ Z = [.cells zero8, .cells (rCells (.own 2 g1') (.own 3 g2)), .row 26 g1' true (Tm.cellsL 26 A), .row 26 (g2 + 1) true (Tm.cellsL 26 L2 ++ [zeroT])]) rfl (by simp) rfl (by simp (decide := true) [vcI, s3, s4, bSt, rCells, zeroT]; omega) (fun r Z h => by simp) ?_
      rintro r Z ⟨rfl, rfl⟩ _
      have q1 : (L2.length : Int) < L2.length + 1 := by omega
      have tn : ((L2.length : Int)).toNat = L2.length := by omega
      have gz : (Tm.cellsL 26 L2 ++ [zeroT])[L2.length]? = some zeroT := by rw [List.getElem?_append_right (by simp)]; simp
      have sz : (Tm.cellsL 26 L2 ++ [zeroT]).set L2.length (Tm.cells 26 v) = Tm.cellsL 26 (L2 ++ [v]) := by
        rw [List.set_append_right _ _ (by simp)]; simp [Tm.cellsL]
      simp (decide := true) [s3, s4, bSt, rCells, q1]
      refine ⟨?_, ?_⟩
      · simp (decide := true) [s3, s4]
        rintro Z c L rfl hL
        simp [hL]
      simp (decide := true) [s3, s4, bSt, rCells, q1]
      refine ⟨by simp (decide := true) [s3, s4]; rintro Z c L rfl hL; simp, ?_⟩
      simp (decide := true) [s3, s4, bSt, rCells, q1]
      refine ⟨?_, ?_⟩
      · refine vcThenQ_of (fun r Z => Z = [.cells zero8, .cells (rCells (.own 2 g1') (.own 3 (g2 + 1))), .row 26 g1' true (Tm.cellsL 26 A), .row 26 (g2 + 1) true (Tm.cellsL 26 L2 ++ [zeroT])]) rfl (by simp) rfl (by simp (decide := true) [vcI, s3, s4, rCells]) (fun r Z h _ => ⟨_, _, h, by simp⟩) ?_
        rintro r Z rfl _
        refine vcThenQ_of (fun r Z => Z = bSt g1' (g2 + 1) true true A (L2 ++ [v])) rfl (by simp) rfl (by simp (decide := true) [vcI, s3, s4, rCells, bSt, gz, sz, zeroT, tn]; rfl) (fun r Z h _ => ⟨_, _, h, by simp⟩) ?_
        rintro r Z rfl _
        simp (decide := true) [s3, s4]
        exact hK _ _ ⟨_, _, rfl⟩
      · refine vcThenQ_of (fun r Z => Z = [.cells zero8, .cells (rCells (.own 2 g1') (.own 3 g2)), .row 26 g1' true (Tm.cellsL 26 A), .row 26 (g2 + 1) true (Tm.cellsL 26 (L2 ++ [v]))]) rfl (by simp) rfl (by simp (decide := true) [vcI, s3, s4, rCells, gz, sz, zeroT, tn]; rfl) (fun r Z h _ => ⟨_, _, h, by simp⟩) ?_
        rintro r Z rfl _
        simp (decide := true) [s3, s4]
        refine vcThenQ_of (fun r Z => Z = bSt g1' (g2 + 1) true true A (L2 ++ [v])) rfl (by simp) rfl (by simp (decide := true) [vcI, s3, s4, rCells, bSt]) (fun r Z h _ => ⟨_, _, h, by simp⟩) ?_
        rintro r Z rfl _
        simp (decide := true) [s3, s4]
        exact hK _ _ ⟨_, _, rfl⟩
    · rintro σ Z ⟨g1, g2, rfl⟩
      refine hK0 _ _ ⟨g1, g2, true, true, ?_⟩
      rw [show E1.st.length = 4 by rw [hst1]; rfl, bSt_cut, ← hA, ← hL1, ← hL2, hu, hv]
      simp [ev, od]
  · rintro D xs E hD hS ⟨g1, g2, b1, b2, hst⟩ hiE hg hK
    rw [hS] at hst
    refine wpIn_seq (vcR_sound (r := none) (ds := [{ target := .collected D, args := #[] }]) (mu := [2, 3]) (X := fun _ _ _ => False) (R := fun _ _ => False) (σ := sigB) (st := E.st) (E0 := E) (K := fun σ st => σ 2 = .ptr 0 0 ∧ st = [.cells (rCells (.own 2 g1) (.own 3 g2)), .cells (rCells (.own 2 g1) (.own 3 g2)), .row 26 g1 b1 (Tm.cellsL 26 (ev l (List.range m))), .row 26 g2 b2 (Tm.cellsL 26 (od l (List.range m)))]) hT follows _ E a1 rfl ?_ rfl hiE (Step.refl E) ((r1.forget ?_).moveC hg.move sigB_sol) ?_)
    · simp [hst, sigB, bSt, rCells, zero8]
    · intro i
      unfold sigB
      split
      · rename_i h; subst h; exact .inr c2
      · split
        · rename_i h; subst h; exact .inr c3
        · exact .inl rfl
    intro E' σ' a' k1 k2 k3 ⟨k4, k5⟩
    refine wpIn_ret ?_
    refine leaves_range2 (σ' := fun i => if i = 2 then .ptr 0 0 else .any) hT s01 rfl hg k2 k1 (by rw [k5, hst]; rfl) ?_ hD hK (k3.forget ?_) ?_ ?_ (by simp [bothT, rCells, AV.pure, AV.pureL])
    · rw [k5]
      intro i b h
      match i, h with
      | 0, h => simp at h; subst h; simp [okB, rCells, AV.solidL, AV.solid]
      | 1, h => simp at h; subst h; simp [okB, rCells, AV.solidL, AV.solid]
      | 2, h => simp at h; subst h; exact Tm.cellsL_solid 26 _
      | 3, h => simp at h; subst h; exact Tm.cellsL_solid 26 _
      | i + 4, h => simp at h
    · intro i
      split
      · rename_i h; subst h; exact .inr k4
      · exact .inl rfl
    · intro i
      split <;> trivial
    · rw [k5]
      simp [bothT, rCells]
end Go.T1
end

section
open Go Go.Ab Go.Proofs
namespace Go.Ab
theorem PureCall.le {T : Tab} {P : Program} {g : FuncId} {xs : List AV} {r r' : AV} (h : PureCall T P g xs r) (hl : leV r r') (hp : r'.pure = true) : PureCall T P g xs r' :=
  ⟨h.enter, h.pa, hp, fun w M vs hM hr => (h.call w M vs hM hr).mono fun _ _ ⟨u, k1, k2, k3⟩ => ⟨u, k1, k2, leV_rel _ _ _ hl k3⟩⟩
end Go.Ab
namespace Go.T1
@[simp] theorem kd_mk (k n : Int) (s : ByteArray) (l : List Tm) : (Tm.mk k n s l).kd = k := rfl
@[simp] theorem nm_mk (k n : Int) (s : ByteArray) (l : List Tm) : (Tm.mk k n s l).nm = n := rfl
@[simp] theorem sv_mk (k n : Int) (s : ByteArray) (l : List Tm) : (Tm.mk k n s l).sv = s := rfl
@[simp] theorem ar_mk (k n : Int) (s : ByteArray) (l : List Tm) : (Tm.mk k n s l).ar = l := rfl
theorem both2_c (a b : Tm) : PureCall T Tryz.prog 72 [.lst 26 [a.cells 26, b.cells 26]] (.agg (pairB [a] [b]).c) := by
  have h := both_c [a, b] 1 rfl (by omega) (by omega)
  simp only [Tm.cellsL] at h
  refine h.le ?_ (by simp [AV.pure])
  simp [bothT, rCells, pairB, BRes.c, leV, leV.leL, Tm.zero, Tm.cells, Tm.cellsL, ev, od]
  rfl
theorem both4_c (a b c d : Tm) : PureCall T Tryz.prog 72 [.lst 26 [a.cells 26, b.cells 26, c.cells 26, d.cells 26]] (.agg (pairB [a, c] [b, d]).c) := by
  have h := both_c [a, b, c, d] 2 rfl (by omega) (by omega)
  simp only [Tm.cellsL] at h
  refine h.le ?_ (by simp [AV.pure])
  simp [bothT, rCells, pairB, BRes.c, leV, leV.leL, Tm.zero, Tm.cells, Tm.cellsL, ev, od, List.range, List.range.loop]
  rfl
@[simp] theorem freshB_len (next : Int) (n : Nat) : (freshB next n).length = n := by simp [freshB]
theorem freshB_succ (next : Int) (n : Nat) : freshB next (n + 1) = freshB next n ++ [Tm.var (next + (n : Nat))] := by simp [freshB, List.range_succ]
set_option maxRecDepth 100000 in
theorem fresh_c (next : Int) (n : Nat) (h1 : -2199023255552 ≤ next) (h2 : next ≤ 2199023255552) (hn : n ≤ 5000) :
    PureCall T Tryz.prog 86 [.sc (.int .i64 next), .sc (.int .i64 n)] (.lst 26 (Tm.cellsL 26 (freshB next n))) := by
  refine PureCall.of_vc hT [] [] follows Tryz.call86 Tryz.func86 rfl (by kernel_rfl) (by simp [AV.pure, AV.pureL]) (by simp [AV.pure]) ?_
  unfold Tryz.f86
  simp
  refine vcC_loop [(26, .slot 5)] (fun m σ st => ∃ (i : Nat) (al : Bool), m = n - i ∧ i ≤ n ∧ σ 0 = .sc (.int .i64 next) ∧ σ 5 = .own 0 i ∧ σ 7 = .sc (.int .i64 n) ∧ σ 8 = .sc (.int .i64 i) ∧ st = [.row 26 i al (Tm.cellsL 26 (freshB next i))]) n ?_ ?_
  · simp
    refine ⟨0, ?_⟩
    simp [freshB, Tm.cellsL]
  rintro m σ st ⟨i, al, rfl, hi, s0, s5, s7, s8, rfl⟩
  rcases Nat.lt_or_ge i n with hlt | hge
  · simp [s0, s5, s7, s8, hlt]
    refine ⟨by unfold i64ok; omega, ?_⟩
    refine vcCall_at (Var_c _) ?_
    simp [s0, s7, s8]
    refine ⟨by omega, by unfold i64ok; omega, n - (i + 1), by omega, i + 1, rfl, by omega, rfl, by omega, rfl, ?_⟩
    rw [freshB_succ, Tm.cellsL_append]
    rfl
  · have hi' : i = n := by omega
    subst hi'
    simp [s0, s5, s7, s8]
set_option maxRecDepth 100000 in
theorem functor_c (t n a : Tm) (next : Int) (h1 : -2199023255552 ≤ next) (h2 : next ≤ 2199023255552) :
    PureCall T Tryz.prog 54 [t.av 26, n.av 26, a.av 26, .sc (.int .i64 next)] (.agg (functorB t n a next).c) := by
  refine PureCall.of_vc hT [] [] follows Tryz.call54 Tryz.func54 rfl (by kernel_rfl) (by simp [AV.pure, AV.pureL]) (by simp [AV.pure]) ?_
  unfold Tryz.f54 functorB
  simp
  refine vcCall_at (is_c t 1) ?_
  simp
  by_cases c1 : t.kd = 1
  case neg =>
    obtain ⟨kt, nt, st, lt⟩ := t
    simp at c1
    simp [c1]
    refine vcCall_at (name_c (Tm.mk kt nt st lt)) ?_
    simp [Tm.cells]
    refine vcCall_at (Int_c lt.length) ?_
    simp
    refine ⟨rfl, ?_⟩
    refine vcCall_at (both4_c n (nameB (Tm.mk kt nt st lt)) a (Tm.mk 2 lt.length ⟨#[]⟩ [])) ?_
    simp [intT]
  simp [c1]
  refine vcCall_at (is_c n 1) ?_
  simp
  by_cases c2 : n.kd = 1
  · simp [c2]
    refine ⟨[], .sc (.bool false), fun h => (by simp at h), ?_⟩
    simp
    refine vcCall_at inst_c ?_
    simp
  simp [c2]
  refine vcCall_at (is_c a 1) ?_
  simp
  by_cases c3 : a.kd = 1
  · simp [c3]
    refine vcCall_at inst_c ?_
    simp
  simp [c3]
  refine vcCall_at (is_c a 2) ?_
  simp
  by_cases c4 : a.kd = 2
  case neg =>
    simp [c4]
    refine vcCall_at (kind_c _ a) ?_
    simp
  obtain ⟨ka, na, sa, la⟩ := a
  simp at c3 c4
  subst c4
  simp [Tm.cells]
  by_cases c5 : na < 0 ∨ 16 < na
  · rcases c5 with c5 | c5
    · simp [c5]
      refine ⟨vcCall_at (kind_c _ (Tm.mk 2 na sa la)) ?_, fun h h' => absurd h (by omega)⟩
      simp
    · have c6 : ¬ na < 0 := by omega
      simp [c5, c6]
      refine ⟨vcCall_at (kind_c _ (Tm.mk 2 na sa la)) ?_, fun h h' => absurd h (by omega)⟩
      simp
  have c6 : ¬ na < 0 := by omega
  have c7 : ¬ 16 < na := by omega
  simp [c6, c7]
  by_cases c8 : na = 0
  · simp [c8]
    refine vcCall_at (is_c n 4) ?_
    simp
    by_cases c9 : n.kd = 4
    · simp [c9]
      refine vcCall_at (kind_c _ n) ?_
      simp
    simp [c9]
    refine ⟨rfl, ?_⟩
    refine vcCall_at (both2_c t n) ?_
    simp
  simp [c8]
  intro _ _
  refine ⟨[], .sc (.bool false), fun h => (by simp at h), ?_⟩
  simp [c8]
  refine vcCall_at (is_c n 3) ?_
  simp
  by_cases c10 : n.kd = 3
  case neg =>
    simp [c10]
    refine vcCall_at (kind_c _ n) ?_
    simp
  simp [c10]
  obtain ⟨kn, nn, sn, ln⟩ := n
  simp at c10
  subst c10
  simp [Tm.cells]
  have hna : (na.toNat : Int) = na := by omega
  have hf := fresh_c next na.toNat h1 h2 (by omega)
  rw [hna] at hf
  refine vcCall_at hf ?_
  simp
  refine vcCall_at (Comp_c sn (freshB next na.toNat)) ?_
  simp
  refine ⟨rfl, ?_⟩
  refine vcCall_at (both2_c t (compT sn (freshB next na.toNat))) ?_
  simp
end Go.T1
end

section
open Go Go.Ab Go.Proofs
namespace Go.T1
set_option maxRecDepth 100000 in
theorem rfunctor_c (t n a : Tm) (next : Int) (h1 : -2199023255552 ≤ next) (h2 : next ≤ 2199023255552) :
    PureCall T Tryz.prog 59 [t.av 26, n.av 26, a.av 26, .sc (.int .i64 next)] (.agg (functorB t n a next).c) := by
  refine PureCall.of_vc hT [] [(100020, 9)] follows Tryz.call59 Tryz.func59 rfl (by kernel_rfl) (by simp [AV.pure, AV.pureL]) (by simp [AV.pure]) ?_
  unfold Tryz.f59 functorB
  obtain ⟨kt, nt, st, lt⟩ := t
  obtain ⟨ka, na, sa, la⟩ := a
  obtain ⟨kn, nn, sn, ln⟩ := n
  simp [Tm.cells]
  by_cases c1 : kt = 1
  case neg =>
    simp [c1]
    refine ⟨rfl, ?_⟩
    refine vcCall_at (rname_c (Tm.mk kt nt st lt)) ?_
    simp
    refine vcCall_at (rInt_c lt.length) ?_
    simp
    refine ⟨rfl, ?_⟩
    simp [BRes.c, pairB, Tm.zero, Tm.cells, Tm.cellsL, intT]
    rfl
  simp [c1]
  by_cases c2 : kn = 1
  · simp [c2]
    refine vcCall_at rinst_c ?_
    simp
  simp [c2]
  by_cases c3 : ka = 1
  · simp [c3]
    refine vcCall_at rinst_c ?_
    simp
  simp [c3]
  by_cases c4 : ka = 2
  case neg =>
    simp [c4]
    refine vcCall_at (rkind_c _ (Tm.mk ka na sa la)) ?_
    simp
  simp [c4]
  subst c4
  by_cases c5 : na < 0 ∨ 16 < na
  · rcases c5 with c5 | c5
    · simp [c5]
      refine ⟨vcCall_at (rkind_c _ (Tm.mk 2 na sa la)) ?_, fun h h' => absurd h (by omega)⟩
      simp
    · have c6 : ¬ na < 0 := by omega
      simp [c5, c6]
      refine ⟨vcCall_at (rkind_c _ (Tm.mk 2 na sa la)) ?_, fun h h' => absurd h (by omega)⟩
      simp
  have c6 : ¬ na < 0 := by omega
  have c7 : ¬ 16 < na := by omega
  simp [c6, c7]
  by_cases c8 : na = 0
  · simp [c8]
    by_cases c9 : kn = 4
    · simp [c9]
      refine vcCall_at (rkind_c _ (Tm.mk 4 nn sn ln)) ?_
      simp
    simp [c9]
    refine vcCall_at (rpair_c (Tm.mk 1 nt st lt) (Tm.mk kn nn sn ln)) ?_
    simp
  simp [c8]
  intro _ _
  by_cases c10 : kn = 3
  case neg =>
    simp [c10]
    refine vcCall_at (rkind_c _ (Tm.mk kn nn sn ln)) ?_
    simp
  simp [c10]
  subst c10
  obtain ⟨k, rfl⟩ : ∃ k : Nat, na = k := ⟨na.toNat, by omega⟩
  simp only [Int.toNat_natCast]
  refine vcC_loop [(26, .slot 9)] (fun m σ Z => ∃ (i : Nat) (al : Bool), m = k - i ∧ i ≤ k ∧ σ 3 = .sc (.int .i64 next) ∧ σ 4 = .eptr (Tm.cells 26 (Tm.mk 1 nt st lt)) ∧ σ 5 = .eptr (Tm.cells 26 (Tm.mk 3 nn sn ln)) ∧ σ 6 = .eptr (Tm.cells 26 (Tm.mk 2 k sa la)) ∧ σ 8 = .ptr 0 0 ∧ σ 9 = .own 1 i ∧ σ 10 = .sc (.int .i64 i) ∧
    Z = [.cells zero8, .row 26 i al (Tm.cellsL 26 (freshB next i))]) k ?_ ?_
  · simp
    refine ⟨0, ?_⟩
    simp [freshB, Tm.cellsL, Tm.cells, zero8]
  rintro m σ Z ⟨i, al, rfl, hi, s3, s4, s5, s6, s8, s9, s10, rfl⟩
  rcases Nat.lt_or_ge i k with hlt | hge
  · have hlt' : (i : Int) < k := by omega
    simp [s3, s4, s5, s6, s8, s9, s10, hlt', Tm.cells]
    refine ⟨by unfold i64ok; omega, ?_⟩
    refine vcCall_at (rVar_c _) ?_
    simp [s3, s4, s5, s6, s8, s10]
    refine ⟨by omega, by unfold i64ok; omega, k - (i + 1), by omega, i + 1, rfl, by omega, rfl, rfl, rfl, rfl, by omega, rfl, ?_⟩
    rw [freshB_succ, Tm.cellsL_append]
    rfl
  · have hi' : i = k := by omega
    subst hi'
    simp [s3, s4, s5, s6, s8, s9, s10, Tm.cells]
    refine vcC_fzT (d := 9) (i' := 1) (g := i) rfl rfl rfl (by simp [s9]) rfl ?_
    simp [s3, s4, s5, s6, s8, s9, s10, Tm.cells]
    refine vcCall_at (rComp_c sn (freshB next i)) ?_
    simp
    refine vcCall_at (rpair_c (Tm.mk 1 nt st lt) (compT sn (freshB next i))) ?_
    simp [s8, zero8]
set_option maxRecDepth 100000 in
theorem arg_c (n t a : Tm) : PureCall T Tryz.prog 55 [n.av 26, t.av 26, a.av 26] (.agg (argB n t a).c) := by
  refine PureCall.of_vc hT [] [] follows Tryz.call55 Tryz.func55 rfl (by kernel_rfl) (by simp [AV.pure, AV.pureL]) (by simp [AV.pure]) ?_
  unfold Tryz.f55 argB
  simp
  refine vcCall_at (is_c n 1) ?_
  simp
  by_cases c1 : n.kd = 1
  · simp [c1]
    refine vcCall_at inst_c ?_
    simp
  simp [c1]
  refine vcCall_at (is_c n 2) ?_
  simp
  by_cases c2 : n.kd = 2
  case neg =>
    simp [c2]
    refine vcCall_at (kind_c _ n) ?_
    simp
  simp [c2]
  refine vcCall_at (is_c t 1) ?_
  simp
  by_cases c3 : t.kd = 1
  · simp [c3]
    refine vcCall_at inst_c ?_
    simp
  simp [c3]
  refine vcCall_at (is_c t 4) ?_
  simp
  by_cases c4 : t.kd = 4
  case neg =>
    simp [c4]
    refine vcCall_at (kind_c _ t) ?_
    simp
  simp [c4]
  obtain ⟨kn, nn, sn, ln⟩ := n
  obtain ⟨kt, nt, st, lt⟩ := t
  simp at c2 c4
  subst c2 c4
  simp [Tm.cells]
  by_cases c5 : nn < 1 ∨ (lt.length : Int) < nn
  · rcases c5 with c5 | c5
    · simp [c5]
      intro _
      refine ⟨vcCall_at (when_c false) ?_, fun h h' => absurd h (by omega)⟩
      simp
    · have c6 : ¬ nn < 1 := by omega
      simp [c5, c6]
      intro _
      refine ⟨vcCall_at (when_c false) ?_, fun h h' => absurd h (by omega)⟩
      simp
  have c6 : ¬ nn < 1 := by omega
  have c7 : ¬ (lt.length : Int) < nn := by omega
  obtain ⟨k, rfl⟩ : ∃ k : Nat, nn = (k : Int) + 1 := ⟨(nn - 1).toNat, by omega⟩
  have hk : k < lt.length := by omega
  have hk1 : (1 : Int) ≤ k + 1 := by omega
  simp [c6, c7, hk1]
  intro _ _ _
  refine ⟨by unfold i64ok; omega, ?_⟩
  simp [hk]
  refine ⟨rfl, ?_⟩
  refine vcCall_at (both2_c a lt[k]) ?_
  simp
set_option maxRecDepth 100000 in
theorem rarg_c (n t a : Tm) : PureCall T Tryz.prog 60 [n.av 26, t.av 26, a.av 26] (.agg (argB n t a).c) := by
  refine PureCall.of_vc hT [] [] follows Tryz.call60 Tryz.func60 rfl (by kernel_rfl) (by simp [AV.pure, AV.pureL]) (by simp [AV.pure]) ?_
  unfold Tryz.f60 argB
  obtain ⟨kn, nn, sn, ln⟩ := n
  obtain ⟨kt, nt, st, lt⟩ := t
  simp [Tm.cells]
  by_cases c1 : kn = 1
  · simp [c1]
    refine vcCall_at rinst_c ?_
    simp
  simp [c1]
  by_cases c2 : kn = 2
  case neg =>
    simp [c2]
    refine vcCall_at (rkind_c _ (Tm.mk kn nn sn ln)) ?_
    simp
  simp [c2]
  by_cases c3 : kt = 1
  · simp [c3]
    refine vcCall_at rinst_c ?_
    simp
  simp [c3]
  by_cases c4 : kt = 4
  case neg =>
    simp [c4]
    refine vcCall_at (rkind_c _ (Tm.mk kt nt st lt)) ?_
    simp
  simp [c4]
  subst c2 c4
  by_cases c5 : nn < 1 ∨ (lt.length : Int) < nn
  · rcases c5 with c5 | c5
    · simp [c5]
      first | intro _ | skip
      refine ⟨vcCall_at (rholds_c false) ?_, fun h h' => absurd h (by omega)⟩
      simp
    · have c6 : ¬ nn < 1 := by omega
      simp [c5, c6]
      first | intro _ | skip
      refine ⟨vcCall_at (rholds_c false) ?_, fun h h' => absurd h (by omega)⟩
      simp
  have c6 : ¬ nn < 1 := by omega
  have c7 : ¬ (lt.length : Int) < nn := by omega
  obtain ⟨k, rfl⟩ : ∃ k : Nat, nn = (k : Int) + 1 := ⟨(nn - 1).toNat, by omega⟩
  have hk : k < lt.length := by omega
  have hk1 : (1 : Int) ≤ k + 1 := by omega
  simp [c6, c7, hk1, hk]
  intro _ _ _
  refine ⟨by unfold i64ok; omega, ?_⟩
  refine vcCall_at (rpair_c a lt[k]) ?_
  simp
end Go.T1
end

section
open Go Go.Ab Go.Proofs
namespace Go.T1
theorem small_ok {t : Tm} (h : t.check = 0) : t.small := by
  have := ((check_iff t).1 h).2.2
  unfold Tm.small; omega
set_option maxRecDepth 100000 in
theorem length_c (a n : Tm) : PureCall T Tryz.prog 79 [a.av 26, n.av 26] (.agg (lengthB a n).c) := by
  refine PureCall.of_vc hT [] [] follows Tryz.call79 Tryz.func79 rfl (by kernel_rfl) (by simp [AV.pure, AV.pureL]) (by simp [AV.pure]) ?_
  unfold Tryz.f79 lengthB
  simp
  refine vcCall_at (is_c a 1) ?_
  simp
  by_cases c1 : a.kd = 1
  · simp [c1]
    refine vcCall_at inst_c ?_
    simp
  simp [c1]
  refine vcCall_at (is_c a 3) ?_
  simp
  by_cases c2 : a.kd = 3
  case neg =>
    simp [c2]
    refine vcCall_at (kind_c _ a) ?_
    simp
  simp [c2]
  obtain ⟨ka, na, sa, la⟩ := a
  simp [Tm.cells]
  refine vcCall_at (Int_c sa.size) ?_
  simp
  refine ⟨rfl, ?_⟩
  refine vcCall_at (both2_c n (intT sa.size)) ?_
  simp
set_option maxRecDepth 100000 in
theorem evaluate_c (x e : Tm) (he : e.check = 0) : PureCall T Tryz.prog 78 [x.av 26, e.av 26] (.agg (evaluateB x e).c) := by
  refine PureCall.of_vc hT [] [] follows Tryz.call78 Tryz.func78 rfl (by kernel_rfl) (by simp [AV.pure, AV.pureL]) (by simp [AV.pure]) ?_
  unfold Tryz.f78 evaluateB
  simp
  refine vcCall_at (Eval_c e (small_ok he)) ?_
  simp
  by_cases c1 : (evalR e).bad = true
  · simp [c1]
    refine vcCall_at (throw_c _) ?_
    simp
  simp [c1]
  refine vcCall_at (Int_c _) ?_
  simp
  refine ⟨rfl, ?_⟩
  refine vcCall_at (both2_c x (intT (evalR e).n)) ?_
  simp
def numbersB (op : ByteArray) (a b : Tm) : BRes := if (cmpA op a b).2.2 = false then ballB (cmpA op a b).2.1 else whenB (cmpA op a b).1
set_option maxRecDepth 100000 in
theorem numbers_c (op : ByteArray) (a b : Tm) (ha : a.check = 0) (hb : b.check = 0) : PureCall T Tryz.prog 80 [.sc (.string op), a.av 26, b.av 26] (.agg (numbersB op a b).c) := by
  refine PureCall.of_vc hT [] [] follows Tryz.call80 Tryz.func80 rfl (by kernel_rfl) (by simp [AV.pure, AV.pureL]) (by simp [AV.pure]) ?_
  unfold Tryz.f80 numbersB
  simp
  refine vcCall_at (arCompare_c op a b (small_ok ha) (small_ok hb)) ?_
  simp
  by_cases c1 : (cmpA op a b).2.2 = false
  · simp [c1]
    refine vcCall_at (throw_c _) ?_
    simp
  simp [c1]
  refine vcCall_at (when_c _) ?_
  simp
theorem cmpR_ok {a b : Tm} (ha : a.check = 0) (hb : b.check = 0) : cmpR a b = if (ordT a b).2 = false then (0, 70) else ((ordT a b).1, 0) := by simp [cmpR, ha, hb]
set_option maxRecDepth 100000 in
theorem ordered_c (op : ByteArray) (a b : Tm) (ha : a.check = 0) (hb : b.check = 0) : PureCall T Tryz.prog 75 [.sc (.string op), a.av 26, b.av 26] (.agg (orderedB op a b).c) := by
  refine PureCall.of_vc hT [] [] follows Tryz.call75 Tryz.func75 rfl (by kernel_rfl) (by simp [AV.pure, AV.pureL]) (by simp [AV.pure]) ?_
  unfold Tryz.f75 orderedB
  have hc := ordCompare_c a b (small_ok ha) (small_ok hb)
  rw [cmpR_ok ha hb] at hc
  simp
  refine vcCall_at hc ?_
  by_cases c1 : (ordT a b).2 = false
  · simp [c1, pairV]
    refine vcCall_at inst_c ?_
    simp
  simp [c1, pairV]
  by_cases o1 : op = ⟨#[64, 60]⟩
  · simp [o1]
    refine vcCall_at (when_c _) ?_
    simp
  simp [o1]
  by_cases o2 : op = ⟨#[64, 62]⟩
  · simp [o2]
    refine vcCall_at (when_c _) ?_
    simp
  simp [o2]
  by_cases o3 : op = ⟨#[64, 61, 60]⟩
  · simp [o3]
    refine vcCall_at (when_c _) ?_
    simp
  simp [o3]
  refine vcCall_at (when_c _) ?_
  simp
set_option maxRecDepth 100000 in
theorem rordered_c (op : ByteArray) (a b : Tm) : PureCall T Tryz.prog 88 [.sc (.string op), a.av 26, b.av 26] (.agg (orderedB op a b).c) := by
  refine PureCall.of_vc hT [] [] follows Tryz.call88 Tryz.func88 rfl (by kernel_rfl) (by simp [AV.pure, AV.pureL]) (by simp [AV.pure]) ?_
  unfold Tryz.f88 orderedB
  simp
  refine vcCall_at (rOrder_c a.size a b rfl) ?_
  simp
  by_cases c1 : (ordT a b).2 = false
  · simp [c1]
    refine vcCall_at rinst_c ?_
    simp
  simp [c1]
  by_cases o1 : op = ⟨#[64, 60]⟩
  · simp [o1]
    refine vcCall_at (rholds_c _) ?_
    simp
  simp [o1]
  by_cases o2 : op = ⟨#[64, 62]⟩
  · simp [o2]
    refine vcCall_at (rholds_c _) ?_
    simp
  simp [o2]
  by_cases o3 : op = ⟨#[64, 61, 60]⟩
  · simp [o3]
    refine vcCall_at (rholds_c _) ?_
    simp
  simp [o3]
  refine vcCall_at (rholds_c _) ?_
  simp
set_option maxRecDepth 100000 in
theorem rcompared_c (o a b : Tm) : PureCall T Tryz.prog 58 [o.av 26, a.av 26, b.av 26] (.agg (compareB o a b).c) := by
  refine PureCall.of_vc hT [] [] follows Tryz.call58 Tryz.func58 rfl (by kernel_rfl) (by simp [AV.pure, AV.pureL]) (by simp [AV.pure]) ?_
  unfold Tryz.f58 compareB signS
  simp
  refine vcCall_at (rOrder_c a.size a b rfl) ?_
  simp
  by_cases c1 : (ordT a b).2 = false
  · simp [c1]
    refine vcCall_at rinst_c ?_
    simp
  simp [c1]
  have hr := ordT_range a b
  generalize ordT a b = p at c1 hr
  obtain ⟨n, y⟩ := p
  simp at hr c1
  simp
  rcases (by omega : n = -1 ∨ n = 0 ∨ n = 1) with rfl | rfl | rfl
  · simp
    refine vcCall_at (rAtom_c _) ?_
    simp
    refine vcCall_at (rpair_c o (atomT _)) ?_
    simp
  · simp
    refine vcCall_at (rAtom_c _) ?_
    simp
    refine vcCall_at (rpair_c o (atomT _)) ?_
    simp
  · simp
    refine vcCall_at (rAtom_c _) ?_
    simp
    refine vcCall_at (rpair_c o (atomT _)) ?_
    simp
set_option maxRecDepth 100000 in
theorem compare_c (o a b : Tm) (ha : a.check = 0) (hb : b.check = 0) : PureCall T Tryz.prog 53 [o.av 26, a.av 26, b.av 26] (.agg (compareB o a b).c) := by
  refine PureCall.of_vc hT [] [] follows Tryz.call53 Tryz.func53 rfl (by kernel_rfl) (by simp [AV.pure, AV.pureL]) (by simp [AV.pure]) ?_
  unfold Tryz.f53 compareB signS
  have hc := ordCompare_c a b (small_ok ha) (small_ok hb)
  rw [cmpR_ok ha hb] at hc
  have hr := ordT_range a b
  simp
  refine vcCall_at hc ?_
  by_cases c1 : (ordT a b).2 = false
  · simp [c1, pairV]
    refine vcCall_at inst_c ?_
    simp
  simp [c1, pairV]
  generalize ordT a b = p at c1 hr
  obtain ⟨n, y⟩ := p
  simp at hr c1
  simp
  rcases (by omega : n = -1 ∨ n = 0 ∨ n = 1) with rfl | rfl | rfl
  · simp [i64ok]
    refine ⟨rfl, ?_⟩
    refine vcCall_at (Atom_c _) ?_
    simp
    refine ⟨rfl, ?_⟩
    refine vcCall_at (both2_c o (atomT _)) ?_
    simp
  · simp [i64ok]
    refine ⟨rfl, ?_⟩
    refine vcCall_at (Atom_c _) ?_
    simp
    refine ⟨rfl, ?_⟩
    refine vcCall_at (both2_c o (atomT _)) ?_
    simp
  · simp [i64ok]
    refine ⟨rfl, ?_⟩
    refine vcCall_at (Atom_c _) ?_
    simp
    refine ⟨rfl, ?_⟩
    refine vcCall_at (both2_c o (atomT _)) ?_
    simp
end Go.T1
end

section
open Go Go.Ab Go.Proofs
namespace Go.T1
theorem items_ok : ∀ (n : Nat) (t : Tm), t.size ≤ n → t.check = 0 → (∀ x ∈ t.items.1, x.check = 0) ∧ t.items.2.check = 0 ∧ t.items.1.length ≤ t.size
  | 0, .mk k m s l, h, _ => by simp [Tm.size] at h
  | n + 1, .mk k m s l, h, hc => by
    by_cases e : k = 4 ∧ s = ⟨#[46]⟩ ∧ l.length = 2
    · obtain ⟨rfl, rfl, hl⟩ := e
      obtain ⟨x, y, rfl⟩ := Tm.len2 hl
      rw [Tm.items_two]
      have hx := check_arg _ _ _ _ hc x (by simp)
      have hy := check_arg _ _ _ _ hc y (by simp)
      simp only [Tm.size, Tm.sizeL] at h
      obtain ⟨i1, i2, i3⟩ := items_ok n y (by omega) hy
      refine ⟨?_, i2, ?_⟩
      · intro z hz
        rcases List.mem_cons.1 hz with rfl | hz
        · exact hx
        · exact i1 z hz
      · simp only [Tm.size, Tm.sizeL, List.length_cons]; omega
    · rw [Tm.items_end e]
      exact ⟨by simp, hc, by simp⟩
theorem nilT_check : nilT.check = 0 := by decide +kernel
theorem nilT_eq {t : Tm} (h : t.right = true) : t = nilT ↔ t.kd = 3 ∧ t.sv = ⟨#[91, 93]⟩ := by
  obtain ⟨k, n, s, l⟩ := t
  constructor
  · intro e
    rw [e]; exact ⟨rfl, rfl⟩
  · rintro ⟨h1, h2⟩
    simp at h1 h2
    subst h1 h2
    simp only [Tm.right, Bool.and_eq_true] at h
    have h' := h.1
    simp [partB] at h'
    obtain ⟨⟨rfl, _⟩, rfl⟩ := h'
    rfl
set_option maxRecDepth 100000 in
theorem bmade_c (t : Tm) (l : List Tm) (h0 : l ≠ []) (hn : l.length ≤ 5000) : PureCall T Tryz.prog 110 [t.av 26, .lst 26 (Tm.cellsL 26 l)] (.agg (madeB t l).c) := by
  refine PureCall.of_vc hT [] [] follows Tryz.call110 Tryz.func110 rfl (by kernel_rfl) (by simp [AV.pure, AV.pureL]) (by simp [AV.pure]) ?_
  unfold Tryz.f110 madeB
  obtain ⟨x, xs, rfl⟩ := List.exists_cons_of_ne_nil h0
  simp [Tm.cellsL]
  refine vcCall_at (is_c x 1) ?_
  simp
  by_cases c1 : x.kd = 1
  · simp [c1]
    refine vcCall_at inst_c ?_
    simp
  simp [c1]
  by_cases c2 : xs = []
  · subst c2
    simp [Tm.cellsL]
    refine vcCall_at (is_c x 4) ?_
    simp
    by_cases c3 : x.kd = 4
    · simp [c3]
      refine vcCall_at (kind_c _ x) ?_
      simp
    simp [c3]
    refine ⟨rfl, ?_⟩
    refine vcCall_at (both2_c t x) ?_
    simp
  have c3 : ¬ (xs.length : Int) + 1 = 1 := by
    have := List.length_pos_iff.2 c2; omega
  simp [c2, c3]
  intro _ _
  refine ⟨[], .sc (.bool false), fun h => (by simp at h), ?_⟩
  simp [c2, c3]
  intro _ _
  refine vcCall_at (is_c x 3) ?_
  simp
  by_cases c4 : x.kd = 3
  case neg =>
    simp [c4]
    refine vcCall_at (kind_c _ x) ?_
    simp
  simp [c4]
  obtain ⟨kx, nx, sx, lx⟩ := x
  simp at c4
  subst c4
  have ht : List.take xs.length (Tm.cellsL 26 xs) = Tm.cellsL 26 xs := List.take_of_length_le (by simp)
  by_cases c5 : 17 < xs.length + 1
  · have c6 : (17 : Int) < xs.length + 1 := by omega
    simp [c5, c6]
    intro _ _
    refine ⟨vcCall_at size_c ?_, fun h => absurd h (by omega)⟩
    simp
  have c6 : ¬ (17 : Int) < xs.length + 1 := by omega
  simp [c5, c6, Tm.cells, ht]
  intro _ _ _
  refine ⟨by omega, ?_⟩
  refine vcCall_at (Comp_c sx xs) ?_
  simp
  refine ⟨rfl, ?_⟩
  refine vcCall_at (both2_c t (compT sx xs)) ?_
  simp
theorem lenL_le : ∀ l : List Tm, l.length ≤ Tm.sizeL l
  | [] => by simp
  | .mk k n s l :: ts => by
    have := lenL_le ts
    simp only [List.length_cons, Tm.sizeL, Tm.size]; omega
set_option maxRecDepth 100000 in
theorem univ_c (t l : Tm) (ht : t.check = 0) (hl : l.check = 0) : PureCall T Tryz.prog 76 [t.av 26, l.av 26] (.agg (univB t l).c) := by
  refine PureCall.of_vc hT [] [] follows Tryz.call76 Tryz.func76 rfl (by kernel_rfl) (by simp [AV.pure, AV.pureL]) (by simp [AV.pure]) ?_
  unfold Tryz.f76 univB
  simp
  refine vcCall_at (Atom_c _) ?_
  simp
  refine vcCall_at (is_c t 1) ?_
  simp
  by_cases c1 : t.kd = 1
  case neg =>
    simp [c1]
    refine vcCall_at (name_c t) ?_
    obtain ⟨kt, nt, st, lt⟩ := t
    simp [Tm.cells]
    refine ⟨rfl, ?_⟩
    have hlen : lt.length ≤ 4096 := by
      have h1 := ((check_iff _).1 ht).2.2
      have h2 := lenL_le lt
      simp only [Tm.size] at h1; omega
    refine vcCall_at (Concat_c [[nameB (Tm.mk kt nt st lt)], lt] (by simp [lenS]; omega)) ?_
    simp
    refine vcCall_at (List_c (nameB (Tm.mk kt nt st lt) :: lt) nilT) ?_
    simp
    refine ⟨rfl, ?_⟩
    refine vcCall_at (both2_c l _) ?_
    simp
  simp [c1]
  have hi := Items_c l (small_ok hl)
  rw [if_pos hl, if_pos hl] at hi
  refine vcCall_at hi ?_
  obtain ⟨i1, i2, i3⟩ := items_ok _ l (Nat.le_refl _) hl
  simp
  refine vcCall_at (is_c _ 1) ?_
  simp
  by_cases c2 : l.items.2.kd = 1
  · simp [c2]
    refine vcCall_at inst_c ?_
    simp
  simp [c2]
  have hs := Same_c l.items.2 nilT (small_ok i2) (small_ok nilT_check)
  rw [i2, nilT_check] at hs
  refine vcCall_at hs ?_
  simp
  by_cases c3 : l.items.2 = nilT
  case neg =>
    simp [c3]
    refine vcCall_at (kind_c _ l) ?_
    simp
  simp [c3]
  by_cases c4 : l.items.1 = []
  · simp [c4]
    refine vcCall_at (kind_c _ l) ?_
    simp
  simp [c4]
  have hlen : l.items.1.length ≤ 5000 := by have := ((check_iff _).1 hl).2.2; omega
  intro _ _
  refine vcCall_at (bmade_c t _ c4 hlen) ?_
  simp
set_option maxRecDepth 100000 in
theorem runiv_c (t l : Tm) (ht : t.check = 0) (hl : l.check = 0) : PureCall T Tryz.prog 89 [t.av 26, l.av 26] (.agg (univB t l).c) := by
  refine PureCall.of_vc hT [] ([(2, 3), (2, 6), (2, 8), (2, 10)] ++ [0, 1, 2, 4, 5, 3, 6, 7, 8, 9, 10].map (Prod.mk 200002)) follows Tryz.call89 Tryz.func89 rfl (by kernel_rfl) (by simp [AV.pure, AV.pureL]) (by simp [AV.pure]) ?_
  unfold Tryz.f89 univB
  obtain ⟨kt, nt, st, lt⟩ := t
  simp [Tm.cells]
  by_cases c1 : kt = 1
  case neg =>
    simp [c1]
    refine ⟨fun _ _ _ => True, ?_⟩
    simp (decide := true)
    refine ⟨by simp (decide := true), ?_⟩; simp (decide := true)
    refine ⟨by simp (decide := true), ?_⟩; simp (decide := true)
    refine vcCall_at (rname_c (Tm.mk kt nt st lt)) ?_; simp (decide := true)
    refine ⟨by simp (decide := true), ?_⟩; simp (decide := true)
    refine ⟨by simp (decide := true), ?_⟩; simp (decide := true)
    refine ⟨by simp (decide := true), ?_⟩; simp (decide := true)
    have hlen : lt.length ≤ 4096 := by
      have h1 := ((check_iff _).1 ht).2.2
      have h2 := lenL_le lt
      simp only [Tm.size] at h1; omega
    refine vcThenQ_of (fun r st' => r = .own 1 0 ∧ st' = [.cells zero8, .row 26 0 true [(nameB (Tm.mk kt nt st lt)).cells 26]]) rfl (by simp) rfl (by simp [vcI, zero8]) (fun _ _ _ => trivial) ?_
    rintro r st' ⟨rfl, rfl⟩ _
    simp (decide := true)
    refine vcThenQ_of (fun r st' => r = .own 1 1 ∧ st' = [.cells zero8, .row 26 1 true ((nameB (Tm.mk kt nt st lt)).cells 26 :: Tm.cellsL 26 lt)]) rfl (by simp) rfl (by simp [vcI, zero8]; omega) (fun _ _ _ => trivial) ?_
    rintro r st' ⟨rfl, rfl⟩ _
    simp (decide := true)
    refine vcCall_at (rAtom_c _) ?_; simp (decide := true)
    refine ⟨by simp (decide := true), ?_⟩; simp (decide := true)
    have hlist := rList_c (nameB (Tm.mk kt nt st lt) :: lt) nilT
    refine vcThenQ_of (fun r st' => r = (Tm.list nilT (nameB (Tm.mk kt nt st lt) :: lt)).av 26 ∧ st' = [.cells zero8, .dead]) rfl (by simp) rfl (by simp [vcI]; exact ICall.freeze (pre := []) (post := [nilT.av 26]) rfl (ICall.of_pure hlist _)) (fun _ _ _ => trivial) ?_
    rintro r st' ⟨rfl, rfl⟩ _
    simp (decide := true)
    refine vcCall_at (rpair_c l (Tm.list nilT (nameB (Tm.mk kt nt st lt) :: lt))) ?_; simp (decide := true)
    refine ⟨by simp (decide := true), ?_⟩; simp (decide := true)
    refine vcThenQ_of (fun r st' => r = .any ∧ st' = [.cells (pairB [l] [Tm.list nilT (nameB (Tm.mk kt nt st lt) :: lt)]).c, .dead]) rfl (by simp) rfl (by simp [vcI, zero8]) (fun _ _ _ => trivial) ?_
    rintro r st' ⟨rfl, rfl⟩ _
    simp (decide := true)
  simp [c1]
  refine vcCall_at (rItems_c l (small_ok hl)) ?_
  obtain ⟨i1, i2, i3⟩ := items_ok _ l (Nat.le_refl _) hl
  have hr := ((check_iff _).1 i2).1
  have hlen : l.items.1.length ≤ 5000 := by have := ((check_iff _).1 hl).2.2; omega
  generalize l.items = p at i1 i2 hr hlen
  obtain ⟨xs, u⟩ := p
  have he := nilT_eq hr
  obtain ⟨ku, nu, su, lu⟩ := u
  simp at he
  simp [Tm.cells]
  by_cases c2 : ku = 1
  · simp [c2]
    refine vcCall_at rinst_c ?_
    simp
  simp [c2]
  by_cases c3 : ku = 3
  case neg =>
    have hn : Tm.mk ku nu su lu ≠ nilT := fun e => c3 (he.1 e).1
    simp [c3, hn]
    refine vcCall_at (rkind_c _ l) ?_
    simp
  simp [c3]
  by_cases c4 : su = ⟨#[91, 93]⟩
  case neg =>
    have hn : Tm.mk 3 nu su lu ≠ nilT := fun e => c4 (he.1 (c3 ▸ e)).2
    simp [c4, hn]
    refine vcCall_at (rkind_c _ l) ?_
    simp
  have hn : Tm.mk 3 nu ⟨#[91, 93]⟩ lu = nilT := by
    have := he.2 ⟨c3, c4⟩
    rw [c3, c4] at this; exact this
  simp [c4, hn]
  cases xs with
  | nil =>
    simp [Tm.cellsL]
    refine vcCall_at (rkind_c _ l) ?_
    simp
  | cons x xs =>
    obtain ⟨kx, nx, sx, lx⟩ := x
    simp at hlen
    simp [Tm.cellsL, madeB]
    intro _ _
    by_cases d1 : kx = 1
    · simp [Tm.cells, d1]
      refine vcCall_at rinst_c ?_
      simp
    simp [Tm.cells, d1]
    by_cases d2 : xs = []
    · subst d2
      by_cases d3 : kx = 4
      · simp [d3, Tm.cellsL]
        refine vcCall_at (rkind_c _ (Tm.mk 4 nx sx lx)) ?_
        simp
      simp [d3, Tm.cellsL]
      refine vcCall_at (rpair_c (Tm.mk 1 nt st lt) (Tm.mk kx nx sx lx)) ?_
      simp [c1]
    have d3 : ¬ (xs.length : Int) + 1 = 1 := by
      have := List.length_pos_iff.2 d2; omega
    simp [d2, d3]
    intro _ _
    refine ⟨[.sc (.int .i64 kx)], ?_⟩
    simp [d2, d3]
    intro _ _
    by_cases d4 : kx = 3
    case neg =>
      simp [d4]
      try intro _ _
      refine vcCall_at (rkind_c _ (Tm.mk kx nx sx lx)) ?_
      simp
    simp [d4]
    try intro _ _
    have ht : List.take xs.length (Tm.cellsL 26 xs) = Tm.cellsL 26 xs := List.take_of_length_le (by simp)
    by_cases d5 : 17 < xs.length + 1
    · have d6 : (17 : Int) < xs.length + 1 := by omega
      simp [d5, d6]
      refine ⟨vcCall_at rSizeB_c ?_, fun h => absurd h (by omega)⟩
      simp
      refine vcCall_at (rball_c sizeT) ?_
      simp
    have d6 : ¬ (17 : Int) < xs.length + 1 := by omega
    simp [d5, d6, ht]
    intro _
    refine ⟨by omega, ?_⟩
    refine vcCall_at (rComp_c sx xs) ?_
    simp
    refine vcCall_at (rpair_c (Tm.mk 1 nt st lt) (compT sx xs)) ?_
    simp [c1]
end Go.T1
end
