/- Contracts of the answer, and what the six statements of chapter 12 hand back: true, at every call and every term. -/
import Derived.Test.YtfccfdjmnkjjjaaW4
set_option linter.unusedSimpArgs false
set_option linter.unusedVariables false
set_option linter.unusedSectionVars false
set_option linter.unnecessarySimpa false
section
open Go Go.Ab Go.Proofs
namespace Go.T1
/-- The answer's bindings, as a row. -/
def bindsL (B : Bs) : List (List AV) := B.map fun p => .sc (.int .i64 p.1) :: p.2.cells 32
@[simp] theorem bindsL_len (B : Bs) : (bindsL B).length = B.length := by simp [bindsL]
@[simp] theorem bindsL_append (A B : Bs) : bindsL (A ++ B) = bindsL A ++ bindsL B := by simp [bindsL]
theorem bindsL_pure : ∀ B : Bs, AV.pureM (bindsL B) = true
  | [] => rfl
  | p :: B => by have := bindsL_pure B; unfold bindsL at this ⊢; simp [AV.pureM, AV.pureL, AV.pure, this]
@[simp] theorem bindsL_cut (N : Nat) (Z : St) (B : Bs) : AV.cutM N Z (bindsL B) = bindsL B := cut_pureM N Z _ (bindsL_pure B)
/-- Where the answer's bindings lie. -/
structure RS (st : St) (x a L g : Nat) (al : Bool) (B : Bs) : Prop where
  hx : st[x]? = some (.cells [.own L g, .mp a])
  ha : st[a]? = some (.map (mapOf (keys B) 0))
  hL : st[L]? = some (.row 45 g al (bindsL B))
  hal : B ≠ [] → al = true
  xa : x ≠ a
  xL : x ≠ L
  aL : a ≠ L
def rST (st : St) (x a L g : Nat) (al : Bool) (B : Bs) : St := ((st.set a (.map (mapOf (keys B) 0))).set L (.row 45 g al (bindsL B))).set x (.cells [.own L g, .mp a])
section
variable {st : St} {x a L g g' : Nat} {al al' : Bool} {B B' : Bs}
theorem RS.same (h : RS st x a L g al B) : rST st x a L g al B = st := by
  unfold rST; rw [set_same h.ha, set_same h.hL, set_same h.hx]
theorem RS.put (h : RS st x a L g al B) (h' : B' ≠ [] → al' = true) : RS (rST st x a L g' al' B') x a L g' al' B' := by
  refine ⟨?_, ?_, ?_, h', h.xa, h.xL, h.aL⟩
  · unfold rST; exact get_set (get_ne (get_ne h.hx (Ne.symm h.xa)) (Ne.symm h.xL))
  · unfold rST; exact get_ne (get_ne (get_set h.ha) (Ne.symm h.aL)) h.xa
  · unfold rST; exact get_ne (get_set (get_ne h.hL h.aL)) h.xL
theorem rST_other {i : Nat} {b : Blk} (h : st[i]? = some b) (h1 : x ≠ i) (h2 : a ≠ i) (h3 : L ≠ i) : (rST st x a L g al B)[i]? = some b := get_ne (get_ne (get_ne h h2) h3) h1
theorem rST_app (h : RS st x a L g al B) (l : St) : rST (st ++ l) x a L g' al' B' = rST st x a L g' al' B' ++ l := by
  unfold rST; rw [set_app h.ha, set_app (get_ne h.hL h.aL), set_app (get_ne (get_ne h.hx (Ne.symm h.xa)) (Ne.symm h.xL))]
theorem RS.app (h : RS st x a L g al B) (l : St) : RS (st ++ l) x a L g al B := ⟨get_app h.hx l, get_app h.ha l, get_app h.hL l, h.hal, h.xa, h.xL, h.aL⟩
theorem rST_rST (hxa : x ≠ a) (hxL : x ≠ L) (haL : a ≠ L) (st : St) (g g' : Nat) (al al' : Bool) (B B' : Bs) : rST (rST st x a L g al B) x a L g' al' B' = rST st x a L g' al' B' := by
  unfold rST
  rw [set_comm _ hxa, set_comm _ hxL, List.set_set, set_comm (st.set a _) (Ne.symm haL), List.set_set, List.set_set]
theorem rST_pre {X Y : St} (h : Pre X Y) : Pre (rST X x a L g al B) (rST Y x a L g al B) := ((h.set2 _ _).set2 _ _).set2 _ _
theorem rST_len : (rST st x a L g al B).length = st.length := by simp [rST]
theorem fix_RS (h : Fix st) (hS : RS st x a L g al B) (g' : Nat) (al' : Bool) (B' : Bs) : Fix (rST st x a L g' al' B') := by
  have h1 := lt_of_get hS.ha
  have h2 := lt_of_get hS.hL
  unfold rST
  refine fix_set (fix_set (fix_set h a fun N S _ => by rw [cut_map, mapOf_cut]) L fun N S _ => by rw [cut_row, bindsL_cut]) x fun N S hN => ?_
  simp at hN
  simp [cut_cells, AV.cutL, AV.cut]; omega
theorem RS.lts (h : RS st x a L g al B) : x < st.length ∧ a < st.length ∧ L < st.length := ⟨lt_of_get h.hx, lt_of_get h.ha, lt_of_get h.hL⟩
theorem RS.of_pre {Y : St} (h : RS st x a L g al B) (hY : Pre st Y) : RS Y x a L g al B := ⟨hY.get h.hx, hY.get h.ha, hY.get h.hL, h.hal, h.xa, h.xL, h.aL⟩
end
/-- Where a bound variable stands. -/
theorem placeI_lookB : ∀ (B : Bs) (n : Int) (i : Nat), match lookB B n with
    | some t => ∃ j : Nat, j < B.length ∧ placeI (keys B) n i = (i + j : Nat) ∧ B[j]? = some (n, t)
    | none => n ∉ keys B
  | [], n, i => by simp [lookB]
  | (m, u) :: B, n, i => by
    have ih := placeI_lookB B n (i + 1)
    simp only [lookB]
    by_cases h : m = n
    · subst h
      simp only [if_pos, keys_cons, placeI]
      exact ⟨0, by simp, by simp, by simp⟩
    · simp only [if_neg h]
      cases hl : lookB B n with
      | none =>
        rw [hl] at ih
        simp only [keys_cons, List.mem_cons, not_or]
        exact ⟨fun e => h e.symm, ih⟩
      | some t =>
        rw [hl] at ih
        obtain ⟨j, h1, h2, h3⟩ := ih
        simp only [keys_cons, placeI, if_neg h]
        exact ⟨j + 1, by simp; omega, by rw [h2]; congr 1; omega, by simpa using h3⟩
set_option maxRecDepth 100000 in
theorem rBound_c {B : Bs} (n : Int) (st : St) (x a L g : Nat) (al : Bool) (h : RS st x a L g al B) :
    ICall T Try.prog 52 [.ptr x 0, .sc (.int .i64 n)] st (fun r st' => r = boundV B n ∧ st' = st) := by
  have hx := h.hx
  have ha := h.ha
  have hL := h.hL
  have g1 := get_app hx
  have g2 := get_app ha
  have g3 := get_app hL
  have q0 := fun x l => ap0 (X := st) rfl x l
  refine ICall.of_vc hT [] [] follows Try.call52 Try.func52 rfl (by kernel_rfl) fun hfix => ?_
  unfold Try.f52
  have hp := placeI_lookB B n 0
  cases hl : lookB B n with
  | none =>
    rw [hl] at hp
    simp [g1, g2, mapOf_get, hp]
    refine endP_mk (boundV B n) (by simp) (by simp [boundV, hl, Tm.zero, Tm.cells, Tm.cellsL]; rfl) ⟨rfl, ?_⟩
    exact ((Pre.refl st).app _).cut hfix rfl
  | some t =>
    rw [hl] at hp
    obtain ⟨j, h1, h2, h3⟩ := hp
    have hk : n ∈ keys B := Classical.not_not.1 fun hh => by rw [look_none.2 hh] at hl; cases hl
    have hal : al = true := h.hal (by rintro rfl; simp at h1)
    have hrow : (bindsL B)[j]? = some (.sc (.int .i64 n) :: t.cells 32) := by simp [bindsL, h3]
    have hrow2 : ∀ h, (bindsL B)[j]'h = .sc (.int .i64 n) :: t.cells 32 := fun h => by rw [List.getElem?_eq_getElem h] at hrow; exact Option.some.inj hrow
    simp [g1, g2, g3, mapOf_get, hk, h2, hrow2, hal, h1]
    refine endP_mk (boundV B n) (by simp) (by simp [boundV, hl]) ⟨rfl, ?_⟩
    exact ((Pre.refl st).app _).cut hfix rfl
end Go.T1
end

section
open Go Go.Ab Go.Proofs
namespace Go.T1
set_option maxRecDepth 100000 in
theorem rWalk_c {B : Bs} (hB : OkB B) (t : Tm) (st : St) (x a L g : Nat) (al : Bool) (h : RS st x a L g al B) :
    ICall T Try.prog 36 [.ptr x 0, t.av 32] st (fun r st' => r = (wk B t).av 32 ∧ st' = st) := by
  refine ICall.of_vc hT [3] [(2, 3)] follows Try.call36 Try.func36 rfl (by kernel_rfl) fun hfix => ?_
  unfold Try.f36
  simp
  refine vcC_loop [] (fun w σ Y => ∃ u : Tm, w = wkn B u ∧ wk B u = wk B t ∧ Pre st Y ∧ Y[st.length]? = some (.cells (u.cells 32)) ∧ (∃ z, z.length = 4 ∧ Y[st.length + 1]? = some (.cells z)) ∧ σ 0 = .ptr x 0 ∧ σ 3 = .ptr st.length 0 ∧ σ 4 = .ptr (st.length + 1) 0) (wkn B t) ?_ ?_
  · simp
    exact ⟨t, rfl, rfl, (Pre.refl st).app _, by simp⟩
  rintro w σ Y ⟨⟨k, n, sn, l⟩, rfl, hw, hP, h1, ⟨z, hz, h2⟩, s0, s3, s4⟩
  have hR := h.of_pre hP
  simp [s0, s3, s4, h1, Tm.cells]
  refine ⟨fun hk => ?_, fun hk => ?_⟩
  · subst hk
    refine vcICall_of (rBound_c n _ x a L g al hR) ?_
    rintro r st' ⟨rfl, rfl⟩ _
    cases hl : lookB B n with
    | none =>
      simp [s0, s3, s4, h1, h2, boundV, hl, hz, Tm.cells, List.drop_of_length_le (Nat.le_of_eq hz)]
      have e : wk B t = .mk 1 n sn l := by rw [← hw]; exact (wk_none fun q hq => by simp [Tm.vn] at hq; rw [← hq]; exact hl).1
      have hP' := hP.set (i := st.length + 1) (by omega) (.cells [.sc (.int .i64 1), .sc (.int .i64 n), .sc (.string sn), .lst 32 (Tm.cellsL 32 l)])
      rw [e]
      refine endP_mk ((Tm.mk 1 n sn l).av 32) ?_ ?_ ⟨rfl, hP'.cut hfix rfl⟩
      · simp [s4, get_set h2]
      · simp [s4, get_set h2, Tm.cells]
    | some u =>
      simp [s0, s3, s4, h1, h2, boundV, hl, hz]
      obtain ⟨e1, e2⟩ := wk_step hB (t := .mk 1 n sn l) (by simp [Tm.vn]) hl
      refine ⟨wkn B u, by omega, u, rfl, by rw [← e1, hw], hP.set (Nat.le_refl _) _, get_set h1⟩
  · have e : wk B t = .mk k n sn l := by rw [← hw]; exact (wk_none fun q hq => by simp [Tm.vn, hk] at hq).1
    simp [h2, hz, List.drop_of_length_le (Nat.le_of_eq hz)]
    have hP' := hP.set (i := st.length + 1) (by omega) (.cells [.sc (.int .i64 k), .sc (.int .i64 n), .sc (.string sn), .lst 32 (Tm.cellsL 32 l)])
    rw [e]
    refine endP_mk ((Tm.mk k n sn l).av 32) ?_ ?_ ⟨rfl, hP'.cut hfix rfl⟩
    · simp [s4, get_set h2]
    · simp [s4, get_set h2, Tm.cells]
end Go.T1
end

section
open Go Go.Ab Go.Proofs
namespace Go.T1
set_option maxRecDepth 100000 in
/-- The answer's search for a variable. -/
theorem rWithin_c {B : Bs} (hB : OkB B) (n : Int) (hn : n ∉ keys B) : ∀ (M : Nat) (t : Tm), far B t = M → t.right = true → ∀ (st : St) (x a L q g : Nat) (al : Bool) (S : List Int), RS st x a L g al B → st[q]? = some (.map (boolMap S)) → q ≠ a → Seen B n t S →
    ICall T Try.prog 67 [.ptr x 0, .sc (.int .i64 n), t.av 32, .mp q] st (WQ B n (lies B n t) q st S (.bool (lies B n t))) := by
  intro M
  induction M using Nat.strongRecOn with
  | _ M ih =>
    rintro ⟨k, w, sn, l⟩ hM hr st x a L q g al S hR hq hqa hS
    have hqx : q ≠ x := by rintro rfl; rw [hR.hx] at hq; cases hq
    have hqL : q ≠ L := by rintro rfl; rw [hR.hL] at hq; cases hq
    have hRq : ∀ S', RS (st.set q (.map (boolMap S'))) x a L g al B := fun S' => ⟨get_ne hR.hx hqx, get_ne hR.ha hqa, get_ne hR.hL hqL, hR.hal, hR.xa, hR.xL, hR.aL⟩
    have r2 := hr
    simp only [Tm.right, Bool.and_eq_true] at r2
    refine ICall.of_vc hT [] [(4, 3), (8, 4), (12, 8)] follows Try.call67 Try.func67 rfl (by kernel_rfl) fun hfix => ?_
    unfold Try.f67
    have fin : ∀ (σ : Slots) (Y : St) (b : Bool) S', σ 8 = .sc (.bool b) → Pre (st.set q (.map (boolMap S'))) Y → lies B n (.mk k w sn l) = b → (b = false → Seen2 B n S S') → endP T [ResultVar.tmp 8] st.length (WQ B n (lies B n (.mk k w sn l)) q st S (.bool (lies B n (.mk k w sn l)))) σ Y := by
      intro σ Y b S' h8 hY hb hS'
      exact endP_mk (.sc (.bool b)) (by simp) (by simp [h8]) ⟨S', by rw [hb], hY.cut (fix_bool hfix q S') (by simp), by rw [hb]; exact hS'⟩
    have same : Pre (st.set q (.map (boolMap S))) st := by rw [set_same hq]; exact Pre.refl st
    simp [Tm.cells]
    refine ⟨fun hk => ?_, fun hk => ?_⟩
    · subst hk
      have hv : (Tm.mk 1 w sn l).vn = some w := by simp [Tm.vn]
      have et : Tm.mk 1 w sn l = Tm.var w := (Tm.vn_some hv hr).1
      refine ⟨fun hwn => ?_, fun hwn => ?_⟩
      · have hl : lookB B w = none := look_none.2 (by rw [hwn]; exact hn)
        exact fin _ _ true S rfl same (by rw [lies_unb (n := n) hv hl, hwn]; simp) (by simp)
      refine vcICall_of (rBound_c w _ x a L g al hR) ?_
      rintro r st' ⟨rfl, rfl⟩ _
      cases hl : lookB B w with
      | none =>
        have e := lies_unb (n := n) hv hl
        simp [boundV, hl, hq]
        by_cases hw : w ∈ S <;> simp [boolMap_get, hw] <;> exact fin _ _ false S rfl same (by rw [e]; simp; exact fun e => hwn e.symm) (fun _ => Seen2.refl B n S)
      | some u =>
        have e := lies_step (n := n) hB hv hl hr
        have hwk : w ∈ keys B := Classical.not_not.1 fun h => by rw [look_none.2 h] at hl; cases hl
        by_cases hw : w ∈ S
        · simp [boundV, hl, hq, boolMap_get, hw]
          have hlf : lies B n (.mk 1 w sn l) = false := by
            rw [et]
            rcases (hS w hw).2 with h | h
            · exact h
            · rw [et] at h; omega
          exact fin _ _ false S rfl same hlf (fun _ => Seen2.refl B n S)
        · have hfar := far_step hB hv hl hr
          simp [boundV, hl, hq, boolMap_get, hw, boolMap_put]
          refine vcICall_of (ih (far B u) (by omega) u rfl (OkB_look hB hl) _ x a L q g al (S ++ [w]) (hRq _) (get_set hq) hqa fun v hv => ?_) ?_
          · rcases List.mem_append.1 hv with h | h
            · obtain ⟨h1, h2⟩ := hS v h
              exact ⟨h1, h2.imp id fun h => by omega⟩
            · simp at h; subst h
              rw [et] at hfar
              exact ⟨hwk, .inr hfar⟩
          · rintro r st' ⟨S', rfl, rfl, hS'⟩ _
            simp
            refine fin _ _ (lies B n u) S' rfl (Pre.refl _) e fun h v hv => ?_
            rcases hS' h v hv with h1 | h1
            · rcases List.mem_append.1 h1 with h1 | h1
              · exact .inl h1
              · simp at h1; subst h1
                exact .inr ⟨hwk, by rw [← et, e]; exact h⟩
            · exact .inr h1
    · refine vcC_loop [] (fun f σ Y => ∃ (i : Nat), f = l.length - i ∧ i ≤ l.length ∧ (∃ S', Seen2 B n S S' ∧ (l.take i).any (lies B n) = false ∧ Y = st.set q (.map (boolMap S'))) ∧ σ 0 = .ptr x 0 ∧ σ 1 = .sc (.int .i64 n) ∧ σ 3 = .mp q ∧ σ 6 = .eptr ((Tm.mk k w sn l).cells 32) ∧ σ 11 = .sc (.int .i64 i)) l.length ⟨0, ?_⟩ ?_
      · simp [Tm.cells]; exact ⟨S, Seen2.refl B n S, (set_same hq).symm⟩
      rintro f σ Y ⟨i, rfl, hi, ⟨S', hS', hany, rfl⟩, s0, s1, s3, s6, s11⟩
      rcases Nat.lt_or_ge i l.length with hlt | hge
      · simp [s0, s1, s3, s6, s11, hlt, Tm.cells]
        intro hb1 hb2
        have hfar := far_arg (B := B) (n := w) (s := sn) hk (List.getElem_mem hlt)
        refine vcICall_of (ih (far B l[i]) (by omega) l[i] rfl (rightL_mem r2.2 _ (List.getElem_mem hlt)) _ x a L q g al S' (hRq _) (get_set hq) hqa fun v hv => ?_) ?_
        · rcases hS' v hv with h | ⟨h1, h2⟩
          · obtain ⟨h1, h2⟩ := hS v h
            exact ⟨h1, h2.imp id fun h => by omega⟩
          · exact ⟨h1, .inl h2⟩
        · rintro r st' ⟨S2, rfl, rfl, hS2⟩ _
          simp [s0, s1, s3, s6, s11]
          refine ⟨fun hp => ?_, fun hp => ⟨by unfold i64ok; omega, l.length - (i + 1), by omega, i + 1, rfl, by omega, ?_⟩⟩
          · refine fin _ _ true S2 rfl (Pre.refl _) ?_ (by simp)
            rw [lies_args hk]; exact List.any_eq_true.2 ⟨_, List.getElem_mem hlt, hp⟩
          · refine ⟨⟨S2, Seen2.trans hS' (hS2 hp), ?_, rfl⟩, rfl, by omega⟩
            have : (l.take (i + 1)).any (lies B n) = false := by rw [any_take hlt, hany, hp]; rfl
            simpa using this
      · obtain rfl : i = l.length := by omega
        simp [s0, s1, s3, s6, s11, Tm.cells]
        intro _ _
        rw [List.take_length] at hany
        exact fin _ _ false S' rfl (Pre.refl _) (by rw [lies_args hk]; exact hany) (fun _ => hS')
/-- What comes of the answer's binding. -/
def rBQ (B : Bs) (n : Int) (t : Tm) (st : St) (x a L g : Nat) (r : AV) (st' : St) : Prop :=
  (lies B n t = true ∧ r = .sc (.bool false) ∧ st' = st) ∨ (lies B n t = false ∧ r = .sc (.bool true) ∧ st' = rST st x a L (g + 1) true (B ++ [(n, t)]))
set_option maxRecDepth 100000 in
theorem rBind_c {B : Bs} (hB : OkB B) (n : Int) (t : Tm) (hn : n ∉ keys B) (hr : t.right = true) (hsz : B.length ≤ 1000000000) (st : St) (x a L g : Nat) (al : Bool) (h : RS st x a L g al B) :
    ICall T Try.prog 64 [.ptr x 0, .sc (.int .i64 n), t.av 32] st (rBQ B n t st x a L g) := by
  obtain ⟨l1, l2, l3⟩ := h.lts
  refine ICall.of_vc hT [] [(1, 4), (4, 9)] follows Try.call64 Try.func64 rfl (by kernel_rfl) fun hfix => ?_
  unfold Try.f64
  simp
  refine vcICall_of (rWithin_c hB n hn _ t rfl hr (st ++ [.map []]) x a L st.length g al [] (h.app _) (get_last _ _) (by omega) fun v hv => by cases hv) ?_
  rintro r st' ⟨S', rfl, rfl, _⟩ _
  have hS := h.app [.map (boolMap S')]
  have e0 : ∀ b, (st ++ [Blk.map []]).set st.length b = st ++ [b] := fun b => by simp
  rw [e0]
  have hpre : Pre st (st ++ [.map (boolMap S')]) := (Pre.refl st).app _
  generalize st ++ [.map (boolMap S')] = X at hS hpre
  simp [hS.hx, hS.ha, hS.hL]
  refine ⟨fun hl => ?_, fun hl => ?_⟩
  · exact endP_mk (.sc (.bool false)) (by simp) (by simp) (.inl ⟨hl, rfl, hpre.cut hfix rfl⟩)
  · have e1 := mapOf_put (keys B) n 0 hn
    simp only [Nat.zero_add, keys_len] at e1
    have e2 : keys (B ++ [(n, t)]) = keys B ++ [n] := by simp
    have e3 : bindsL (B ++ [(n, t)]) = bindsL B ++ [.sc (.int .i64 n) :: t.cells 32] := by simp [bindsL]
    have p1 := fun b => get_ne (i := a) (b := b) hS.hx (Ne.symm h.xa)
    have p2 := fun b => get_ne (i := a) (b := b) hS.hL h.aL
    have q1 := fun a' b => get_ne (i := L) (b := b) (get_ne (i := a) (b := a') hS.hx (Ne.symm h.xa)) (Ne.symm h.xL)
    have q2 := fun a' b => get_set (b := b) (get_ne (i := a) (b := a') hS.hL h.aL)
    rw [e1]
    refine ⟨fun r Z => r = .own L (g + 1) ∧ Z = (X.set a (.map (mapOf (keys B ++ [n]) 0))).set L (.row 45 (g + 1) true (bindsL B ++ [.sc (.int .i64 n) :: t.cells 32])), ?_⟩
    simp (decide := true) [p1, p2, q1, q2]
    refine ⟨by rintro r st' ⟨rfl, rfl⟩; simp (decide := true) [p1, p2, q1, q2], ?_⟩; simp (decide := true) [p1, p2, q1, q2]
    refine ⟨by simp, rfl, by simp [vcI, p1, p2, q1, q2]; omega, ?_⟩
    rintro r st' ⟨rfl, rfl⟩ _; simp (decide := true) [p1, p2, q1, q2]
    refine endP_mk (.sc (.bool true)) (by simp) (by simp) (.inr ⟨hl, rfl, ?_⟩)
    have := rST_pre (x := x) (a := a) (L := L) (g := g + 1) (al := true) (B := B ++ [(n, t)]) hpre
    rw [← e2, ← e3]
    exact this.cut (fix_RS hfix h _ _ _) (by rw [rST_len])
end Go.T1
end

section
open Go Go.Ab Go.Proofs
namespace Go.T1
/-- The answer's bindings, and the pairs. -/
structure RUS (st : St) (x ma L q g : Nat) (al : Bool) (B : Bs) (P : Ps) : Prop where
  rs : RS st x ma L g al B
  hq : st[q]? = some (.map (pairMap P))
  qa : q ≠ ma
def rUST (st : St) (x ma L q g : Nat) (al : Bool) (B : Bs) (P : Ps) : St := (rST st x ma L g al B).set q (.map (pairMap P))
section
variable {st : St} {x ma L q g g' : Nat} {al al' : Bool} {B B' : Bs} {P P' : Ps}
theorem RUS.ne (h : RUS st x ma L q g al B P) : q ≠ x ∧ q ≠ L := by
  refine ⟨?_, ?_⟩
  · rintro rfl; have := h.hq; rw [h.rs.hx] at this; simp at this
  · rintro rfl; have := h.hq; rw [h.rs.hL] at this; simp at this
theorem RUS.same (h : RUS st x ma L q g al B P) : rUST st x ma L q g al B P = st := by unfold rUST; rw [h.rs.same, set_same h.hq]
theorem RUS.put (h : RUS st x ma L q g al B P) (h' : B' ≠ [] → al' = true) : RUS (rUST st x ma L q g' al' B' P') x ma L q g' al' B' P' := by
  obtain ⟨n5, n6⟩ := h.ne
  have k := h.rs.put (g' := g') (al' := al') h'
  refine ⟨⟨get_ne k.hx n5, get_ne k.ha h.qa, get_ne k.hL n6, h', k.xa, k.xL, k.aL⟩, ?_, h.qa⟩
  exact get_set (rST_other h.hq n5.symm h.qa.symm n6.symm)
theorem RUS.app (h : RUS st x ma L q g al B P) (l : St) : RUS (st ++ l) x ma L q g al B P := ⟨h.rs.app l, get_app h.hq l, h.qa⟩
theorem rUST_app (h : RUS st x ma L q g al B P) (l : St) : rUST (st ++ l) x ma L q g' al' B' P' = rUST st x ma L q g' al' B' P' ++ l := by
  obtain ⟨n5, n6⟩ := h.ne
  unfold rUST; rw [rST_app h.rs, set_app (rST_other h.hq n5.symm h.qa.symm n6.symm)]
theorem rST_setq (h : RUS st x ma L q g al B P) (X : St) (b : Blk) (g' : Nat) (al' : Bool) (B' : Bs) : rST (X.set q b) x ma L g' al' B' = (rST X x ma L g' al' B').set q b := by
  obtain ⟨n5, n6⟩ := h.ne
  unfold rST; rw [set_comm X h.qa, set_comm _ n6, set_comm _ n5]
theorem rUST_rUST (h : RUS st x ma L q g al B P) (X : St) (g1 g2 : Nat) (a1 a2 : Bool) (B1 B2 : Bs) (P1 P2 : Ps) : rUST (rUST X x ma L q g1 a1 B1 P1) x ma L q g2 a2 B2 P2 = rUST X x ma L q g2 a2 B2 P2 := by
  unfold rUST
  rw [rST_setq h, rST_rST h.rs.xa h.rs.xL h.rs.aL, List.set_set]
theorem rUST_set (h : RUS st x ma L q g al B P) (X : St) (P1 P2 : Ps) (g2 : Nat) (a2 : Bool) (B2 : Bs) : rUST (X.set q (.map (pairMap P1))) x ma L q g2 a2 B2 P2 = rUST X x ma L q g2 a2 B2 P2 := by
  unfold rUST; rw [rST_setq h, List.set_set]
theorem rUST_pre {X Y : St} (h : Pre X Y) : Pre (rUST X x ma L q g al B P) (rUST Y x ma L q g al B P) := (rST_pre h).set2 _ _
theorem rUST_len : (rUST st x ma L q g al B P).length = st.length := by simp [rUST, rST]
theorem fix_RUS (h : Fix st) (hS : RUS st x ma L q g al B P) (g' : Nat) (al' : Bool) (B' : Bs) (P' : Ps) : Fix (rUST st x ma L q g' al' B' P') := by
  unfold rUST; exact fix_pair (fix_RS h hS.rs g' al' B') q P'
theorem RUS.of_pre {Y : St} (h : RUS st x ma L q g al B P) (hY : Pre st Y) : RUS Y x ma L q g al B P := ⟨h.rs.of_pre hY, hY.get h.hq, h.qa⟩
end
def rUQ (V : List Int) (B : Bs) (P : Ps) (a b : Tm) (st : St) (x ma L q : Nat) (r : AV) (st' : St) : Prop :=
  ∃ rb B' P' g' al', r = .sc (.bool rb) ∧ st' = rUST st x ma L q g' al' B' P' ∧ (B' ≠ [] → al' = true) ∧ Does V B a b rb B' ∧ (rb = true → PNew B' P P')
/-- Where a row of pairs has come. -/
def rEInv (V : List Int) (B : Bs) (P : Ps) (l l' : List Tm) (st : St) (x ma L q : Nat) (fr : St) (i : Nat) (Y : St) : Prop :=
  ∃ D P1 g1 al1, Y = rUST st x ma L q g1 al1 (B ++ D) P1 ++ fr ∧ (B ++ D ≠ [] → al1 = true) ∧ OkB (B ++ D) ∧ BsV V (B ++ D) ∧ PNew (B ++ D) P P1 ∧ ∀ ps R, Un (B ++ D) ((l.zip l').drop i ++ ps) R → Un B (l.zip l' ++ ps) R
set_option maxRecDepth 100000 in
theorem rUnify_c (V : List Int) (hVs : V.length ≤ 1000000000) : ∀ (N K : Nat) (B : Bs) (a b : Tm), free V B = N → (a.sub (sg B)).size = K → OkB B → BsV V B → a.right = true → b.right = true → inV V a → inV V b → ∀ P : Ps, PInv B a P →
    ∀ (st : St) (x ma L q g : Nat) (al : Bool), RUS st x ma L q g al B P → ICall T Try.prog 51 [.ptr x 0, a.av 32, b.av 32, .mp q] st (rUQ V B P a b st x ma L q) := by
  intro N
  induction N using Nat.strongRecOn with
  | _ N ihN =>
  intro K
  induction K using Nat.strongRecOn with
  | _ K ihK =>
  intro B a b hN hK hB hV ra rb va vb P hP st x ma L q g al h
  obtain ⟨l1, l2, l3⟩ := h.rs.lts
  obtain ⟨n5, n6⟩ := h.ne
  have hsz : B.length ≤ 1000000000 := Nat.le_trans (hV.len hB) hVs
  refine ICall.of_vc hT [5, 6] [(2, 3), (3, 3), (8, 2), (8, 5), (200008, 0), (200008, 1), (200008, 3), (200008, 4), (200008, 2), (200008, 5), (200008, 6), (200008, 7), (12, 4), (14, 4), (20, 12)] follows Try.call51 Try.func51 rfl (by kernel_rfl) fun hfix => ?_
  unfold Try.f51
  rw [vcC_seq]
  simp [-vcC_seq]
  refine vcC_cut (fun σ Y => σ 0 = .ptr x 0 ∧ σ 3 = .mp q ∧ σ 5 = .ptr st.length 0 ∧ σ 6 = .ptr (st.length + 1) 0 ∧ againB B P a b = false ∧ Y = st.set q (.map (pairMap (againP B P a b))) ++ [.cells (a.cells 32), .cells (b.cells 32)]) ?_ ?_
  · intro Kc hK
    have hRS := h.rs.app [.cells (a.cells 32), .cells (b.cells 32)]
    have hqq := get_app h.hq [.cells (a.cells 32), .cells (b.cells 32)]
    have stay : bothV B a b = none → againB B P a b = false ∧ st ++ [.cells (a.cells 32), .cells (b.cells 32)] = st.set q (.map (pairMap (againP B P a b))) ++ [.cells (a.cells 32), .cells (b.cells 32)] := fun hb => by
      simp only [againB, againP, hb, set_same h.hq, and_self]
    rcases a with ⟨k, n, sn, l⟩
    rcases b with ⟨k', n', sn', l'⟩
    simp [Tm.cells]
    refine ⟨fun h1 h2 => ?_, fun hne => ?_⟩
    · subst h1
      subst h2
      have hv1 : (Tm.mk 1 n sn l).vn = some n := by simp [Tm.vn]
      have hv2 : (Tm.mk 1 n' sn' l').vn = some n' := by simp [Tm.vn]
      refine vcICall_of (rBound_c n _ x ma L g al hRS) ?_
      rintro r st' ⟨rfl, rfl⟩ _
      cases hl1 : lookB B n with
      | none =>
        simp [boundV, hl1]
        refine vcICall_of (rBound_c n' _ x ma L g al hRS) ?_
        rintro r st' ⟨rfl, rfl⟩ _
        have hb : bothV B (.mk 1 n sn l) (.mk 1 n' sn' l') = none := by simp [bothV, hv1, hv2, look_none.1 hl1]
        cases hl2 : lookB B n' <;> simp [boundV, hl2] <;> exact hK _ _ ⟨rfl, rfl, rfl, rfl, (stay hb).1, (stay hb).2⟩
      | some u =>
        simp [boundV, hl1]
        refine vcICall_of (rBound_c n' _ x ma L g al hRS) ?_
        rintro r st' ⟨rfl, rfl⟩ _
        cases hl2 : lookB B n' with
        | none =>
          have hb : bothV B (.mk 1 n sn l) (.mk 1 n' sn' l') = none := by simp [bothV, hv1, hv2, look_none.1 hl2]
          simp [boundV, hl2]
          exact hK _ _ ⟨rfl, rfl, rfl, rfl, (stay hb).1, (stay hb).2⟩
        | some v =>
          have k1 : n ∈ keys B := Classical.not_not.1 fun h => by rw [look_none.2 h] at hl1; cases hl1
          have k2 : n' ∈ keys B := Classical.not_not.1 fun h => by rw [look_none.2 h] at hl2; cases hl2
          have hb : bothV B (.mk 1 n sn l) (.mk 1 n' sn' l') = some (n, n') := by simp [bothV, hv1, hv2, k1, k2]
          have hqq' : ∀ fr, (st ++ fr)[q]? = some (.map (pairMap P)) := fun fr => get_app h.hq fr
          by_cases hp : (n, n') ∈ P
          · simp [boundV, hl2, hqq', pairMap_get, hp]
            obtain ⟨p, hp', e1, e2⟩ := againB_spec (B := B) (P := P) ra rb (by simp [againB, hb, hp])
            have he : sg B p.1 = sg B p.2 := by
              rcases hP p hp' with h1 | h1
              · exact h1
              · have := h1.size
                rw [e1, Tm.var_sub] at this; omega
            refine endP_mk (.sc (.bool true)) (by simp) (by simp) ⟨true, B, P, g, al, rfl, ?_, h.rs.hal, ⟨hB, ⟨[], by simp⟩, hV, fun _ ps R hR => ?_, by simp⟩, fun _ => PNew.refl B P⟩
            · rw [h.same]; exact ((Pre.refl st).app _).cut hfix rfl
            · exact Un.skip hB _ rfl ra rb (by rw [e1, e2]; simpa using he) ps R hR
          · simp [boundV, hl2, hqq', pairMap_get, hp]
            refine hK _ _ ⟨rfl, rfl, rfl, rfl, by simp [againB, hb, hp], ?_⟩
            rw [set_app h.hq]
            simp only [againP, hb, if_neg hp, pairMap_put P n n' hp]
            rfl
    · have hb : bothV B (.mk k n sn l) (.mk k' n' sn' l') = none := by
        unfold bothV
        simp only [vn_eq]
        by_cases hk : k = 1
        · rw [if_pos hk, if_neg (hne hk)]
        · rw [if_neg hk]
      exact hK _ _ ⟨rfl, rfl, rfl, rfl, (stay hb).1, (stay hb).2⟩
  · rintro σ Y ⟨s0, s3, s5, s6, hag, rfl⟩
    generalize hst1 : st.set q (.map (pairMap (againP B P a b))) = st1
    have hU : RUS st1 x ma L q g al B (againP B P a b) := by
      have := h.put (g' := g) (al' := al) (B' := B) (P' := againP B P a b) h.rs.hal
      unfold rUST at this
      rwa [h.rs.same, hst1] at this
    have hl1 : st1.length = st.length := by subst hst1; simp
    have ca := fun x l => ap0 hl1 x l
    have cb := fun x y l => ap1 hl1 x y l
    have za := fun x y l => as0 hl1 x y l
    have zb := fun x y z l => as1 hl1 x y z l
    rw [vcC_seq]
    simp [-vcC_seq, s0, s5, s6, ca, cb]
    refine ⟨fun i r Z => Z = st1 ++ [.cells (a.cells 32), .cells (b.cells 32)], ?_⟩
    simp (decide := true) [-vcC_seq, s0, s5, s6, ca, cb]
    refine ⟨by simp (decide := true) [-vcC_seq, s0, s5, s6, ca, cb], ?_⟩; simp (decide := true) [-vcC_seq, s0, s5, s6, ca, cb]
    refine ⟨by simp (decide := true) [-vcC_seq, s0, s5, s6, ca, cb], ?_⟩; simp (decide := true) [-vcC_seq, s0, s5, s6, ca, cb]
    refine ⟨by simp (decide := true) [-vcC_seq, s0, s5, s6, ca, cb], ?_⟩; simp (decide := true) [-vcC_seq, s0, s5, s6, ca, cb]
    refine ⟨by simp (decide := true) [-vcC_seq, s0, s5, s6, ca, cb], ?_⟩; simp (decide := true) [-vcC_seq, s0, s5, s6, ca, cb]
    refine vcThenQ_of (fun r st' => r = (wk B a).av 32 ∧ st' = st1 ++ [.cells (a.cells 32), .cells (b.cells 32)]) rfl (by simp) rfl (by simp [vcI, s0, s5, s6, ca, cb]; exact rWalk_c hB a _ x ma L g al (hU.app _).rs) (fun r st' h => by simp_all) ?_
    rintro r st' ⟨rfl, rfl⟩ _
    simp (decide := true) [-vcC_seq, s0, s5, s6, ca, cb]
    refine vcThenQ_of (fun r st' => r = (wk B b).av 32 ∧ st' = st1 ++ [.cells (a.cells 32), .cells (b.cells 32)]) rfl (by simp) rfl (by simp [vcI, s0, s5, s6, ca, cb]; exact rWalk_c hB b _ x ma L g al (hU.app _).rs) (fun r st' h => by simp_all) ?_
    rintro r st' ⟨rfl, rfl⟩ _
    simp (decide := true) [-vcC_seq, s0, s5, s6, ca, cb]
    refine ⟨by simp (decide := true) [-vcC_seq, s0, s5, s6, ca, cb], ?_⟩; simp (decide := true) [-vcC_seq, s0, s5, s6, ca, cb]
    refine ⟨by simp (decide := true) [-vcC_seq, s0, s5, s6, ca, cb], ?_⟩; simp (decide := true) [-vcC_seq, s0, s5, s6, ca, cb]
    rcases hwa : wk B a with ⟨ka, na, sa, la⟩
    rcases hwb : wk B b with ⟨kb, nb, sb, lb⟩
    rw [vcC_seq]
    simp [-vcC_seq, s0, s5, s6, ca, cb, za, zb, hwa, hwb, Tm.cells]
    rw [vcC_seq]
    simp [-vcC_seq, s0, s3, s5, s6, ca, cb, Tm.cells]
    have eX : ∀ l, Pre (rUST st x ma L q g al B (againP B P a b)) (st1 ++ l) := fun l => by
      have : rUST st x ma L q g al B (againP B P a b) = st1 := by unfold rUST; rw [h.rs.same, hst1]
      rw [this]; exact (Pre.refl _).app l
    have fin : ∀ (σ : Slots) (Y : St) (rv : Bool) (B' : Bs) (P' : Ps) (g' : Nat) (al' : Bool), σ 8 = .sc (.bool rv) → Pre (rUST st x ma L q g' al' B' P') Y → (B' ≠ [] → al' = true) → Does V B a b rv B' → (rv = true → PNew B' P P') → endP T [ResultVar.tmp 8] st.length (rUQ V B P a b st x ma L q) σ Y := by
      intro σ Y rv B' P' g' al' h8 hY h1 h2 h3
      exact endP_mk (.sc (.bool rv)) (by simp) (by simp [h8]) ⟨rv, B', P', g', al', rfl, hY.cut (fix_RUS hfix h _ _ _ _) (by rw [rUST_len]), h1, h2, h3⟩
    have rwa' := wk_right hB a ra
    have rwb' := wk_right hB b rb
    have vwa := wk_inV hV va
    have vwb := wk_inV hV vb
    have wwa := wk_walked hB a
    have wwb := wk_walked hB b
    have hua : ∀ n, (wk B a).vn = some n → n ∈ V := fun n hn => wk_vn_V hV va hn
    have hub : ∀ n, (wk B b).vn = some n → n ∈ V := fun n hn => wk_vn_V hV vb hn
    rw [hwa] at rwa' vwa wwa hua
    rw [hwb] at rwb' vwb wwb hub
    have bindL : ∀ (σ : Slots) (n : Int) (tt : Tm) (C : Code) (rest : Slots → St → Prop), True := fun _ _ _ _ _ => trivial
    have hU2 := hU.app [.cells ((Tm.mk ka na sa la).cells 32), .cells ((Tm.mk kb nb sb lb).cells 32)]
    refine ⟨fun h1 h2 h3 => ?_, fun hne => ?_⟩
    · have hst : stepU B a b = some (B, []) := by simp [stepU, hwa, hwb, vn_eq, h1, h2, h3]
      have hdo : Does V B a b true B := ⟨hB, ⟨[], by simp⟩, hV, fun _ ps R hR => .go hst hR, by simp⟩
      simp
      exact fin _ _ true B _ g al rfl (eX _) h.rs.hal hdo fun _ => again_new hB ra rb hdo
    rw [vcC_seq]
    simp [-vcC_seq, s0, s3, s5, s6, ca, cb, Tm.cells]
    refine ⟨fun h1 => ?_, fun h1 => ?_⟩
    · have hv : (Tm.mk ka na sa la).vn = some na := by simp [Tm.vn, h1]
      have hst : stepU B a b = bindS B na (.mk kb nb sb lb) := by
        unfold stepU
        rw [hwa, hwb, hv]
        by_cases hk : kb = 1
        · have : ¬ na = nb := fun e => hne h1 hk e
          simp [vn_eq, hk, this]
        · simp [vn_eq, hk]
      simp [s0, s3, s5, s6, ca, cb, Tm.cells]
      refine vcICall_of (rBind_c hB na (.mk kb nb sb lb) (wwa na hv) rwb' hsz _ x ma L g al hU2.rs) ?_
      rintro r st' (⟨hl, rfl, rfl⟩ | ⟨hl, rfl, rfl⟩) _
      · simp
        refine fin _ _ false B _ g al rfl (eX _) h.rs.hal (stepU_none hB hV ?_) (by simp)
        rw [hst]; unfold bindS; rw [if_pos (by simpa [lies] using hl)]
      · simp
        have ho : na ∉ ((Tm.mk kb nb sb lb).sub (sg B)).occ := by simpa [lies] using hl
        have hst2 : stepU B a b = some (B ++ [(na, .mk kb nb sb lb)], []) := by rw [hst]; unfold bindS; rw [if_neg ho]
        have hdo := stepU_bind (BsV_snoc hV (hua na hv) vwb) (by have := (bind_ok hB ra rb (n := na) (by rw [hwa]; exact hv) (by rw [hwb]; exact ho)).1; rwa [hwb] at this) hst2
        refine fin _ _ true _ (againP B P a b) (g + 1) true rfl ?_ (fun _ => rfl) hdo fun _ => again_new hB ra rb hdo
        rw [rST_app hU.rs]
        have : rUST st x ma L q (g + 1) true (B ++ [(na, .mk kb nb sb lb)]) (againP B P a b) = rST st1 x ma L (g + 1) true (B ++ [(na, .mk kb nb sb lb)]) := by subst hst1; rw [rST_setq h]; rfl
        rw [this]; exact (Pre.refl _).app _
    rw [vcC_seq]
    simp [-vcC_seq, s0, s3, s5, s6, ca, cb, Tm.cells]
    refine ⟨fun h2 => ?_, fun h2 => ?_⟩
    · have hv : (Tm.mk kb nb sb lb).vn = some nb := by simp [Tm.vn, h2]
      have hst : stepU B a b = bindS B nb (.mk ka na sa la) := by
        unfold stepU
        rw [hwa, hwb, hv]
        simp [vn_eq, h1]
      simp [s0, s3, s5, s6, ca, cb, Tm.cells]
      refine vcICall_of (rBind_c hB nb (.mk ka na sa la) (wwb nb hv) rwa' hsz _ x ma L g al hU2.rs) ?_
      rintro r st' (⟨hl, rfl, rfl⟩ | ⟨hl, rfl, rfl⟩) _
      · simp
        refine fin _ _ false B _ g al rfl (eX _) h.rs.hal (stepU_none hB hV ?_) (by simp)
        rw [hst]; unfold bindS; rw [if_pos (by simpa [lies] using hl)]
      · simp
        have ho : nb ∉ ((Tm.mk ka na sa la).sub (sg B)).occ := by simpa [lies] using hl
        have hst2 : stepU B a b = some (B ++ [(nb, .mk ka na sa la)], []) := by rw [hst]; unfold bindS; rw [if_neg ho]
        have hdo := stepU_bind (BsV_snoc hV (hub nb hv) vwa) (by have := (bind_ok hB rb ra (n := nb) (by rw [hwb]; exact hv) (by rw [hwa]; exact ho)).1; rwa [hwa] at this) hst2
        refine fin _ _ true _ (againP B P a b) (g + 1) true rfl ?_ (fun _ => rfl) hdo fun _ => again_new hB ra rb hdo
        rw [rST_app hU.rs]
        have : rUST st x ma L q (g + 1) true (B ++ [(nb, .mk ka na sa la)]) (againP B P a b) = rST st1 x ma L (g + 1) true (B ++ [(nb, .mk ka na sa la)]) := by subst hst1; rw [rST_setq h]; rfl
        rw [this]; exact (Pre.refl _).app _
    have hst : stepU B a b = argsS B (.mk ka na sa la) (.mk kb nb sb lb) := by
      unfold stepU
      rw [hwa, hwb]
      simp [vn_eq, h1, h2]
    rw [vcC_seq]
    simp [-vcC_seq, s0, s3, s5, s6, ca, cb, Tm.cells]
    intro hz1 hz2
    refine ⟨fun hx => ?_, ?_⟩
    · simp
      refine fin _ _ false B _ g al rfl (eX _) h.rs.hal (stepU_none hB hV ?_) (by simp)
      rw [hst]; simp only [argsS]; rw [if_neg]
      rintro ⟨e1, e2, e3, e4⟩
      rcases hx with ((hx | hx) | hx) | hx
      · exact hx e1
      · exact hx e2
      · exact hx e3
      · exact hx (by omega)
    intro e1 e2 e3 e4
    subst e1
    subst e2
    subst e3
    have hlen : la.length = lb.length := by omega
    have hst2 : stepU B a b = some (B, la.zip lb) := by rw [hst]; simp [argsS, hlen]
    simp only [Tm.right, Bool.and_eq_true] at rwa' rwb'
    obtain ⟨hz3, hz4⟩ := hz1 rfl rfl rfl
    obtain ⟨hz5, hz6⟩ := hz2 rfl rfl rfl
    rw [vcC_seq, vcC_seq]
    simp [-vcC_seq]
    refine vcC_loop [] (fun w σ Y => ∃ (i : Nat), w = la.length - i ∧ i ≤ la.length ∧ rEInv V B (againP B P a b) la lb st x ma L q [.cells ((Tm.mk ka na sa la).cells 32), .cells ((Tm.mk ka na sa lb).cells 32)] i Y ∧
      σ 0 = .ptr x 0 ∧ σ 3 = .mp q ∧ σ 5 = .ptr st.length 0 ∧ σ 6 = .ptr (st.length + 1) 0 ∧ σ 13 = .sc (.int .i64 i)) la.length ?_ ?_
    · refine ⟨0, by simp, by simp, ⟨[], againP B P a b, g, al, ?_, ?_⟩, by simp [s0, s3, s5, s6]⟩
      · have e : rUST st x ma L q g al B (againP B P a b) = st1 := by unfold rUST; rw [h.rs.same, hst1]
        rw [List.append_nil, e]; rfl
      · simp [hB, hV, PNew.refl]
        exact h.rs.hal
    rintro w σ Y ⟨i, rfl, hi, ⟨D, P1, g1, al1, rfl, hal1, hD, hVD, hP1, hun⟩, s0, s3, s5, s6, s13⟩
    have hX := h.put (g' := g1) (al' := al1) (B' := B ++ D) (P' := P1) hal1
    have hXl : (rUST st x ma L q g1 al1 (B ++ D) P1).length = st.length := rUST_len
    have ca := fun x l => ap0 hXl x l
    have cb := fun x y l => ap1 hXl x y l
    rcases Nat.lt_or_ge i la.length with hlt | hge
    · have hlt' : i < lb.length := hlen ▸ hlt
      simp [s0, s3, s5, s6, s13, ca, cb, hlt, hlt', Tm.cells]
      intro _ _
      rw [zip_drop hlt hlt'] at hun
      have hpt := Part.of_wk hB ra hwa h1 (List.getElem_mem hlt)
      have rx := rightL_mem rwa'.2 _ (List.getElem_mem hlt)
      have ry := rightL_mem rwb'.2 _ (List.getElem_mem hlt')
      have vx := inV_arg vwa h1 _ (List.getElem_mem hlt)
      have vy := inV_arg vwb h1 _ (List.getElem_mem hlt')
      have hpi := pinv_arg ra rb hP hD hpt hP1
      have hcall : ∀ l, ICall T Try.prog 51 [.ptr x 0, la[i].av 32, lb[i].av 32, .mp q] (rUST st x ma L q g1 al1 (B ++ D) P1 ++ l) (rUQ V (B ++ D) P1 la[i] lb[i] (rUST st x ma L q g1 al1 (B ++ D) P1 ++ l) x ma L q) := by
        intro fr
        have hY := hX.app fr
        rcases ext_cases hD hVD with hd | hd
        · subst hd
          simp only [List.append_nil] at *
          exact ihK _ (by have := hpt.size; omega) B la[i] lb[i] hN rfl hB hV rx ry vx vy P1 hpi _ x ma L q g1 al1 hY
        · exact ihN _ (by omega) _ (B ++ D) la[i] lb[i] rfl rfl hD hVD rx ry vx vy P1 hpi _ x ma L q g1 al1 hY
      refine ⟨rUQ V (B ++ D) P1 la[i] lb[i] (rUST st x ma L q g1 al1 (B ++ D) P1 ++ [.cells ((Tm.mk ka na sa la).cells 32), .cells ((Tm.mk ka na sa lb).cells 32)]) x ma L q, ?_⟩
      simp (decide := true) [s0, s3, s5, s6, s13, ca, cb, hlt, hlt']
      refine ⟨by simp, rfl, by simp [vcI]; exact hcall _, ?_⟩
      rintro r st' ⟨rv, B', P', g', al', rfl, rfl, hal', hdo, hnew⟩ _
      obtain ⟨D', hD'⟩ := hdo.ext
      have hD2 : B' = B ++ (D ++ D') := by rw [hD', List.append_assoc]
      rw [rUST_app hX, rUST_rUST h]
      simp (decide := true) [s0, s3, s5, s6, s13]
      refine ⟨fun hr => ?_, fun hr => ⟨by unfold i64ok; omega, la.length - (i + 1), by omega, i + 1, rfl, by omega, ?_, by simp⟩⟩
      · subst hr
        have hdo2 : Does V B a b false B' := ⟨hdo.ok, ⟨_, hD2⟩, hdo.inV, by simp, fun _ ps => .go hst2 (hun ps none (hdo.no rfl _))⟩
        exact fin _ _ false B' P' g' al' rfl ((Pre.refl _).app _) hal' hdo2 (by simp)
      · subst hr
        refine ⟨D ++ D', P', g', al', ?_, ?_, ?_, ?_, ?_, fun ps R hR => ?_⟩
        · rw [← hD2]; rfl
        · rw [← hD2]; exact hal'
        · rw [← hD2]; exact hdo.ok
        · rw [← hD2]; exact hdo.inV
        · rw [← hD2]; exact PNew.trans hD' hdo.ok hP1 (hnew rfl)
        · rw [← hD2] at hR; exact hun ps R (hdo.yes rfl _ R hR)
    · obtain rfl : i = la.length := by omega
      simp [s0, s3, s5, s6, s13, ca, cb, Tm.cells]
      intro _ _
      have hdo2 : Does V B a b true (B ++ D) := ⟨hD, ⟨D, rfl⟩, hVD, fun _ ps R hR => .go hst2 (hun ps R (by rw [List.drop_of_length_le (by simp; omega)]; exact hR)), by simp⟩
      refine fin _ _ true (B ++ D) P1 g1 al1 rfl ((Pre.refl _).app _) hal1 hdo2 fun _ p hp => ?_
      rcases hP1 p hp with h5 | h5
      · exact again_new hB ra rb hdo2 p h5
      · exact .inr h5
end Go.T1
end

section
open Go Go.Ab Go.Proofs
namespace Go.T1
theorem mapOf_del_last : ∀ (l : List Int) (n : Int) (i : Nat), n ∉ l → mdel (mapOf (l ++ [n]) i) n = mapOf l i
  | [], n, i, _ => by simp [mapOf, mdel, isK_eq]
  | x :: xs, n, i, h => by
    simp only [List.mem_cons, not_or] at h
    have ih := mapOf_del_last xs n (i + 1) h.2
    simp [mapOf, mdel, isK_ne (fun e => h.1 e.symm), ih]
theorem take_last {B : Bs} {w : Nat} (h : w + 1 ≤ B.length) : B.take (w + 1) = B.take w ++ [B[w]] := by
  rw [List.take_add_one, List.getElem?_eq_getElem h]; rfl
set_option maxRecDepth 100000 in
theorem rUndo_c {B : Bs} (hB : OkB B) (n : Nat) (st : St) (x a L g : Nat) (al : Bool) (h : RS st x a L g al B) :
    ICall T Try.prog 38 [.ptr x 0, .sc (.int .i64 n)] st (fun r st' => ∃ g', r = .tup [] ∧ st' = rST st x a L g' al (B.take n)) := by
  refine ICall.of_vc hT [] [(2, 11)] follows Try.call38 Try.func38 rfl (by kernel_rfl) fun hfix => ?_
  unfold Try.f38
  simp
  refine vcC_loop [] (fun w σ Y => w ≤ B.length ∧ (w = B.length ∨ n ≤ w) ∧ (∃ g1, Y = rST st x a L g1 al (B.take w)) ∧ σ 0 = .ptr x 0 ∧ σ 1 = .sc (.int .i64 n)) B.length ?_ ?_
  · simp; exact ⟨g, h.same.symm⟩
  rintro w σ Y ⟨hw, hwn, ⟨g1, rfl⟩, s0, s1⟩
  have hR := h.put (g' := g1) (al' := al) (B' := B.take w) (fun hb => h.hal (by rintro rfl; simp at hb))
  have k1 := hR.hx
  have k2 := hR.ha
  have k3 := hR.hL
  have hlen : (bindsL (B.take w)).length = w := by simp; omega
  simp [s0, s1, k1, k2, k3, Nat.min_eq_left hw]
  intro hb1 hb2
  refine ⟨fun hlt => ?_, fun hge => ?_⟩
  · obtain ⟨v, rfl⟩ : ∃ v, w = v + 1 := ⟨w - 1, by omega⟩
    have hal : al = true := h.hal (by rintro rfl; simp at hw)
    have e1 := take_last hw
    have hrow : (bindsL (B.take (v + 1)))[v]? = some (.sc (.int .i64 B[v].1) :: B[v].2.cells 32) := by rw [bindsL, List.getElem?_map, List.getElem?_take_of_lt (by omega), List.getElem?_eq_getElem hw]; rfl
    have hrow2 : ∀ h, (bindsL (B.take (v + 1)))[v]'h = .sc (.int .i64 B[v].1) :: B[v].2.cells 32 := fun h => by rw [List.getElem?_eq_getElem h] at hrow; exact Option.some.inj hrow
    simp [s0, s1, k1, k2, k3, hal]
    refine ⟨by unfold i64ok; omega, by omega, ?_⟩
    have hkn : B[v].1 ∉ keys (B.take v) := by
      have := OkB_take hB (v + 1)
      rw [e1] at this
      exact (OkB_snoc.1 this).2.1
    have ek : keys (B.take (v + 1)) = keys (B.take v) ++ [B[v].1] := by rw [e1, keys_append]; rfl
    have hdel := mapOf_del_last (keys (B.take v)) B[v].1 0 hkn
    rw [← ek] at hdel
    have m1 := fun b => get_ne (i := a) (b := b) k1 (Ne.symm h.xa)
    have m3 := fun b => get_ne (i := a) (b := b) k3 h.aL
    have o1 := fun b b' => get_ne (i := L) (b := b') (m1 b) (Ne.symm h.xL)
    have o3 := fun b b' => get_set (b := b') (m3 b)
    rw [hrow]
    simp [hdel]
    subst hal
    refine ⟨fun r Z => r = .own L (g1 + 1) ∧ Z = ((rST st x a L g1 true (B.take (v + 1))).set a (.map (mapOf (keys (B.take v)) 0))).set L (.row 45 (g1 + 1) true ((bindsL (B.take (v + 1))).take v)), ?_⟩
    simp (decide := true) [s0, s1, m1, m3, o1, o3]
    have hmin : min (v + 1) B.length = v + 1 := Nat.min_eq_left hw
    refine ⟨by rintro r st' ⟨rfl, rfl⟩; simp (decide := true) [s0, m1, m3, o1, o3], ?_⟩; simp (decide := true) [s0, m1, m3, o1, o3, hmin]
    refine ⟨by unfold i64ok; omega, ?_⟩
    refine ⟨by simp, rfl, by simp [vcI, s0, s1, m1, m3, o1, o3, hmin]; omega, ?_⟩
    rintro r st' ⟨rfl, rfl⟩ _; simp (decide := true) [s0, s1, m1, m3, o1, o3]
    refine ⟨v, by omega, by omega, .inr (by omega), g1 + 1, ?_⟩
    have eb : (bindsL (B.take (v + 1))).take v = bindsL (B.take v) := by unfold bindsL; rw [List.map_take, List.map_take, List.take_take, Nat.min_eq_left (by omega)]
    rw [eb]
    have := rST_rST h.xa h.xL h.aL st g1 (g1 + 1) true true (B.take (v + 1)) (B.take v)
    rw [← this]; rfl
  · refine endP_mk (.tup []) (by simp) (by simp) ⟨rfl, g1, ?_⟩
    have e : B.take n = B.take w := by
      rcases hwn with rfl | hwn
      · rw [List.take_of_length_le hge, List.take_of_length_le (Nat.le_refl _)]
      · have : n = w := by omega
        rw [this]
    rw [e]
    exact (Pre.refl _).cut (fix_RS hfix h _ _ _) (by rw [rST_len])
/-- What the answer's New makes. -/
def rNewSt (N : Nat) : St := [.map (mapOf (keys []) 0), .cells [.own (N + 2) 0, .mp N], .row 45 0 false (bindsL [])]
theorem RS.new (st : St) : RS (st ++ rNewSt st.length) (st.length + 1) st.length (st.length + 2) 0 false [] := by
  refine ⟨?_, ?_, ?_, by simp, by omega, by omega, by omega⟩ <;> simp [rNewSt]
set_option maxRecDepth 100000 in
theorem rNew_c (st : St) : ICall T Try.prog 12 [] st (fun r st' => r = .ptr (st.length + 1) 0 ∧ st' = st ++ rNewSt st.length) := by
  refine ICall.adoptR (Q := fun r st' => r = .ptr (st.length + 1) 0 ∧ st' = st ++ [.map [], .cells [.nils, .mp st.length]]) 45 ?_ ?_
  · refine ICall.of_vcU hT [3] [] follows Try.call12 Try.func12 rfl (by kernel_rfl) fun hfix => ?_
    unfold Try.f12
    simp
  · rintro r st' ⟨rfl, rfl⟩
    refine ⟨st.length + 1, 0, [.nils, .mp st.length], by simp, rfl, rfl, ?_⟩
    simp [rNewSt, mapOf, bindsL]
/-- What the answer's Unify leaves. -/
def rMQ (V : List Int) (B : Bs) (a b : Tm) (st : St) (x ma L : Nat) (r : AV) (st' : St) : Prop :=
  ∃ rb B' g' al', r = .sc (.bool rb) ∧ st' = rST st x ma L g' al' B' ∧ (B' ≠ [] → al' = true) ∧ OkB B' ∧ BsV V B' ∧ (rb = true → Un B [(a, b)] (some B')) ∧ (rb = false → Un B [(a, b)] none ∧ B' = B)
set_option maxRecDepth 100000 in
theorem rUnifyM_c (V : List Int) (hVs : V.length ≤ 1000000000) {B : Bs} (hB : OkB B) (hV : BsV V B) (a b : Tm) (ra : a.right = true) (rb : b.right = true) (va : inV V a) (vb : inV V b) (st : St) (x ma L g : Nat) (al : Bool) (h : RS st x ma L g al B) :
    ICall T Try.prog 35 [.ptr x 0, a.av 32, b.av 32] st (rMQ V B a b st x ma L) := by
  obtain ⟨l1, l2, l3⟩ := h.lts
  refine ICall.of_vc hT [] [(2, 4), (4, 2)] follows Try.call35 Try.func35 rfl (by kernel_rfl) fun hfix => ?_
  unfold Try.f35
  simp [h.hx, h.hL]
  intro _ _
  have hU : RUS (st ++ [.map []]) x ma L st.length g al B [] := ⟨h.app _, by simp [pairMap], by omega⟩
  refine vcICall_of (rUnify_c V hVs _ _ B a b rfl rfl hB hV ra rb va vb [] (fun p hp => by cases hp) _ x ma L st.length g al hU) ?_
  rintro r st' ⟨rv, B', P', g', al', rfl, rfl, hal', hdo, hnew⟩ _
  have hS' := h.put (g' := g') (al' := al') hal'
  have e1 : rUST (st ++ [.map []]) x ma L st.length g' al' B' P' = rST st x ma L g' al' B' ++ [.map (pairMap P')] := by
    unfold rUST
    rw [rST_app h, List.set_append_right _ _ (by rw [rST_len]; exact Nat.le_refl _), rST_len]
    simp
  rw [e1]
  simp
  refine ⟨fun hr => ?_, fun hr => ?_⟩
  · subst hr
    exact endP_mk (.sc (.bool true)) (by simp) (by simp) ⟨true, B', g', al', rfl, ((Pre.refl _).app _).cut (fix_RS hfix h _ _ _) (by rw [rST_len]), hal', hdo.ok, hdo.inV, fun _ => hdo.yes rfl [] _ (.nil B'), by simp⟩
  · subst hr
    obtain ⟨D, hD⟩ := hdo.ext
    refine vcICall_of (rUndo_c hdo.ok B.length _ x ma L g' al' (hS'.app _)) ?_
    rintro r st' ⟨g2, rfl, rfl⟩ _
    have hB2 : B'.take B.length = B := by rw [hD]; simp
    simp [hB2]
    refine endP_mk (.sc (.bool false)) (by simp) (by simp) ⟨false, B, g2, al', rfl, ?_, ?_, hB, hV, by simp, fun _ => ⟨hdo.no rfl [], rfl⟩⟩
    · rw [rST_app hS', rST_rST h.xa h.xL h.aL]
      exact ((Pre.refl _).app _).cut (fix_RS hfix h _ _ _) (by rw [rST_len])
    · intro hb; exact hal' (by rintro rfl; simp at hD; exact hb hD.1)
end Go.T1
end

section
open Go Go.Ab Go.Proofs
namespace Go.T1
theorem wk_shape {B : Bs} (hB : OkB B) {t : Tm} (hr : t.right = true) {k n : Int} {s : ByteArray} {l : List Tm} (hw : wk B t = .mk k n s l) : t.sub (sg B) = .mk k n s (Tm.subL (sg B) l) := by
  have hσ := wk_sg hB t hr
  rw [hw] at hσ
  rw [← hσ]
  by_cases hk : k = 1
  · subst hk
    have hv : (wk B t).vn = some n := by rw [hw]; simp [Tm.vn]
    obtain ⟨e1, e2, e3, _⟩ := wk_var hB hr hv
    rw [hw] at e1
    cases e1
    rw [hσ, e3]; rfl
  · simp only [Tm.sub, if_neg hk]
theorem sizeL_sub_le (f : Int → Tm) (l : List Tm) (i : Nat) : Tm.sizeL (Tm.subL f (l.take i)) ≤ Tm.sizeL (Tm.subL f l) := by
  conv => rhs; rw [← List.take_append_drop i l, Tm.subL_map, List.map_append, Tm.sizeL_append, ← Tm.subL_map]
  omega
set_option maxRecDepth 100000 in
theorem rCount_c {B : Bs} (hB : OkB B) : ∀ (K : Nat) (t : Tm), (t.sub (sg B)).size = K → t.right = true → ∀ (p : Int), 0 ≤ p → p ≤ 4096 → ∀ (st : St) (x a L g : Nat) (al : Bool), RS st x a L g al B →
    ICall T Try.prog 53 [.ptr x 0, t.av 32, .sc (.int .i64 p)] st (fun r st' => r = .sc (.int .i64 (oP p (t.sub (sg B)).size)) ∧ st' = st) := by
  intro K
  induction K using Nat.strongRecOn with
  | _ K ih =>
  intro t hK hr p hp0 hp1 st x a L g al h
  obtain ⟨N, hN⟩ : ∃ N, N = st.length := ⟨_, rfl⟩
  refine ICall.of_vc hT [4] [(1, 2), (6, 7)] follows Try.call53 Try.func53 rfl (by kernel_rfl) fun hfix => ?_
  unfold Try.f53
  simp
  refine vcICall_of (rWalk_c hB t _ x a L g al (h.app _)) ?_
  rintro r st' ⟨rfl, rfl⟩ _
  rcases hw : wk B t with ⟨k, n, sn, l⟩
  have hrw := wk_right hB t hr
  rw [hw] at hrw
  have hsub := wk_shape hB hr hw
  have hrl := hrw
  simp only [Tm.right, Bool.and_eq_true] at hrl
  have hsz : (t.sub (sg B)).size = 1 + Tm.sizeL (Tm.subL (sg B) l) := by rw [hsub]; rfl
  have q0 := fun x l => ap0 (X := st) rfl x l
  have z0 := fun x y l => as0 (X := st) rfl x y l
  simp [q0, z0, hw, Tm.cells]
  refine ⟨by unfold i64ok; omega, ?_⟩
  refine vcC_loop [] (fun w σ Y => ∃ i : Nat, w = l.length - i ∧ i ≤ l.length ∧ Y = st ++ [.cells ((Tm.mk k n sn l).cells 32)] ∧ σ 0 = .ptr x 0 ∧ σ 4 = .ptr st.length 0 ∧ σ 2 = .sc (.int .i64 (oP (p + 1) (Tm.sizeL (Tm.subL (sg B) (l.take i))))) ∧ σ 7 = .sc (.int .i64 i)) l.length ?_ ?_
  · simp
    refine ⟨0, by simp, by simp, by simp [Tm.cells], ?_, by simp⟩
    simp [oP, Tm.subL, Tm.sizeL]
    omega
  rintro w σ Y ⟨i, rfl, hi, rfl, s0, s4, s2, s7⟩
  have hle := sizeL_sub_le (sg B) l i
  rcases Nat.lt_or_ge i l.length with hlt | hge
  · have hpos : 1 ≤ (l[i].sub (sg B)).size := Tm.size_pos _
    have hle2 := sizeL_sub_le (sg B) l (i + 1)
    rw [sizeL_sub_take hlt] at hle2
    simp [s0, s4, s2, s7, q0, Tm.cells, hlt]
    intro hb1 hb2
    refine ⟨fun hsm => ?_, fun hbig => ?_⟩
    · have hsm2 : p + 1 + Tm.sizeL (Tm.subL (sg B) (l.take i)) ≤ 4096 := by unfold oP at hsm; omega
      have eP : oP (p + 1) (Tm.sizeL (Tm.subL (sg B) (l.take i))) = p + 1 + Tm.sizeL (Tm.subL (sg B) (l.take i)) := by unfold oP; omega
      rw [eP]
      have hcall := ih (l[i].sub (sg B)).size (by rw [← hK, hsz]; omega) l[i] rfl (rightL_mem hrl.2 _ (List.getElem_mem hlt)) (p + 1 + Tm.sizeL (Tm.subL (sg B) (l.take i))) (by omega) hsm2
        (st ++ [.cells ((Tm.mk k n sn l).cells 32)]) x a L g al (h.app _)
      refine vcICall_of hcall ?_
      rintro r st' ⟨rfl, rfl⟩ _
      simp [s0, s4, s2, s7, q0, hlt]
      refine ⟨by unfold i64ok; omega, l.length - (i + 1), by omega, i + 1, rfl, by omega, by simp [Tm.cells], ?_, by omega⟩
      rw [sizeL_sub_take hlt]
      unfold oP; push_cast; omega
    · refine endP_mk (.sc (.int .i64 (oP p (t.sub (sg B)).size))) (by simp) ?_ ⟨rfl, ?_⟩
      · simp
        unfold oP at hbig ⊢; rw [hsz]; omega
      · exact ((Pre.refl st).app _).cut hfix rfl
  · obtain rfl : i = l.length := by omega
    rw [List.take_length] at s2
    simp [s0, s4, s2, s7, q0, Tm.cells]
    intro _ _
    refine endP_mk (.sc (.int .i64 (oP p (t.sub (sg B)).size))) (by simp) ?_ ⟨rfl, ?_⟩
    · simp
      unfold oP; rw [hsz]; push_cast; omega
    · exact ((Pre.refl st).app _).cut hfix rfl
end Go.T1
end

section
open Go Go.Ab Go.Proofs
namespace Go.T1
def uFr (N : Nat) (w : Tm) (k n : Int) (s : ByteArray) (i : Nat) (al : Bool) (us : List Tm) : St :=
  [.cells (w.cells 32), .cells [.sc (.int .i64 0), .sc (.int .i64 0), .sc (.string .empty), .nils], .cells [.sc (.int .i64 k), .sc (.int .i64 n), .sc (.string s), .own (N + 3) i], .row 32 i al (Tm.cellsL 32 us)]
def uInv (st : St) (N : Nat) (w : Tm) (k n : Int) (s : ByteArray) (i : Nat) (us : List Tm) (Y : St) : Prop := ∃ al : Bool, Y = st ++ uFr N w k n s i al us
set_option maxRecDepth 100000 in
theorem rBuild_c {B : Bs} (hB : OkB B) : ∀ (K : Nat) (t : Tm), (t.sub (sg B)).size = K → t.right = true → ∀ (st : St) (x a L g : Nat) (al : Bool), RS st x a L g al B →
    ICall T Try.prog 54 [.ptr x 0, t.av 32] st (fun r st' => r = (t.sub (sg B)).av 32 ∧ st' = st) := by
  intro K
  induction K using Nat.strongRecOn with
  | _ K ih =>
  intro t hK hr st x a L g al h
  obtain ⟨N, hN⟩ : ∃ N, N = st.length := ⟨_, rfl⟩
  refine ICall.of_vc hT [3, 5] [(1, 2), (6, 8)] follows Try.call54 Try.func54 rfl (by kernel_rfl) fun hfix => ?_
  unfold Try.f54
  simp
  refine vcICall_of (rWalk_c hB t _ x a L g al (h.app _)) ?_
  rintro r st' ⟨rfl, rfl⟩ _
  rcases hw : wk B t with ⟨k, n, sn, l⟩
  have hrw := wk_right hB t hr
  rw [hw] at hrw
  have hsub := wk_shape hB hr hw
  have hrl := hrw
  simp only [Tm.right, Bool.and_eq_true] at hrl
  have hsz : (t.sub (sg B)).size = 1 + Tm.sizeL (Tm.subL (sg B) l) := by rw [hsub]; rfl
  have q0 := fun x l => ap0 (X := st) rfl x l
  have q1 := fun x y l => ap1 (X := st) rfl x y l
  have q2 := fun x y z l => ap2 (X := st) rfl x y z l
  have q3 := fun x y z w l => ap3 (X := st) rfl x y z w l
  have z0 := fun x y l => as0 (X := st) rfl x y l
  have z1 := fun x y z l => as1 (X := st) rfl x y z l
  have z2 := fun x y z w l => as2 (X := st) rfl x y z w l
  have z3 := fun x y z w v l => as3 (X := st) rfl x y z w v l
  simp [q0, q1, q2, z0, z2, hw, Tm.cells]
  refine vcC_loop [(32, .cell (st.length + 2) 3)] (fun w σ Y => ∃ (i : Nat), w = l.length - i ∧ i ≤ l.length ∧ uInv st st.length (.mk k n sn l) k n sn i (Tm.subL (sg B) (l.take i)) Y ∧ σ 0 = .ptr x 0 ∧ σ 3 = .ptr st.length 0 ∧ σ 4 = .ptr (st.length + 1) 0 ∧ σ 5 = .ptr (st.length + 2) 0 ∧ σ 6 = .sc (.int .i64 i)) l.length ?_ ?_
  · simp [q0, q1, q2, z2, Nat.add_assoc]
    exact ⟨0, by simp, by simp, ⟨false, by simp [uFr, Tm.cells, Tm.subL, Tm.cellsL]⟩, by simp⟩
  rintro w σ Y ⟨i, rfl, hi, ⟨al', rfl⟩, s0, s3, s4, s5, s6⟩
  have hul : ∀ l : List Tm, (Tm.subL (sg B) l).length = l.length := fun l => by rw [Tm.subL_map]; simp
  rcases Nat.lt_or_ge i l.length with hlt | hge
  · simp [s0, s3, s4, s5, s6, q0, q1, q2, q3, uFr, Tm.cells, hlt]
    have hcall := ih (l[i].sub (sg B)).size (by rw [← hK, hsz]; have := size_le_mem (mem_subL (sg B) (List.getElem_mem hlt)); omega) l[i] rfl (rightL_mem hrl.2 _ (List.getElem_mem hlt))
      (st ++ uFr st.length (.mk k n sn l) k n sn i al' (Tm.subL (sg B) (l.take i))) x a L g al (h.app _)
    intro hb1 hb2
    refine ⟨fun r Z => r = (l[i].sub (sg B)).av 32 ∧ Z = st ++ uFr st.length (.mk k n sn l) k n sn i al' (Tm.subL (sg B) (l.take i)), ?_⟩
    simp (decide := true) [s0, s3, s4, s5, s6, q0, q1, q2, q3, uFr, Tm.cells, hlt]
    refine ⟨by rintro r st' ⟨rfl, rfl⟩; simp (decide := true) [s0, s3, s4, s5, s6, q0, q1, q2, q3, uFr, Tm.cells, hlt], ?_⟩; simp (decide := true) [s0, s3, s4, s5, s6, q0, q1, q2, q3, uFr, Tm.cells, hlt]
    refine ⟨by rintro r st' ⟨rfl, rfl⟩; simp (decide := true) [s0, s3, s4, s5, s6, q0, q1, q2, q3, uFr, Tm.cells, hlt], ?_⟩; simp (decide := true) [s0, s3, s4, s5, s6, q0, q1, q2, q3, uFr, Tm.cells, hlt]
    refine ⟨by simp, rfl, by simp [vcI]; exact hcall.mono fun r st' ⟨h1, h2⟩ => ⟨h1, by rw [h2]; simp [uFr, Tm.cells]⟩, ?_⟩
    rintro r st' ⟨rfl, rfl⟩ _
    simp (decide := true) [s0, s3, s4, s5, s6, q0, q1, q2, q3, uFr, Tm.cells, hlt, z2, z3]
    refine ⟨by omega, by unfold i64ok; omega, l.length - (i + 1), by omega, i + 1, rfl, by omega, ⟨true, ?_⟩, by omega⟩
    simp [uFr, Tm.cells, Tm.subL_take hlt, Tm.cellsL, Nat.min_eq_left (Nat.le_of_lt hlt)]
  · obtain rfl : i = l.length := by omega
    rw [List.take_length]
    simp [s0, s3, s4, s5, s6, q0, q1, q2, q3, uFr, Tm.cells]
    intro _ _
    refine endP_mk ((t.sub (sg B)).av 32) ?_ ?_ ⟨rfl, ?_⟩
    · simp [s4, q1]
    · simp [s4, q1, q3, Tm.cells, hsub]; rw [if_neg (by omega)]; simp
    · exact ((Pre.refl _).app _).cut hfix rfl
theorem rApp_av (B : Bs) (t : Tm) : ∃ u e, appR B t = (u, e) := ⟨_, _, rfl⟩
set_option maxRecDepth 100000 in
theorem rApply_c {B : Bs} (hB : OkB B) (t : Tm) (hr : t.right = true) (st : St) (x a L g : Nat) (al : Bool) (h : RS st x a L g al B) :
    ICall T Try.prog 37 [.ptr x 0, t.av 32] st (fun r st' => r = appV (appR B t) ∧ st' = st) := by
  refine ICall.of_vc hT [4] [(1, 2), (3, 2)] follows Try.call37 Try.func37 rfl (by kernel_rfl) fun hfix => ?_
  unfold Try.f37
  have q0 := fun x l => ap0 (X := st) rfl x l
  have z0 := fun x y l => as0 (X := st) rfl x y l
  simp
  refine vcICall_of (rCount_c hB _ t rfl hr 0 (by omega) (by omega) _ x a L g al (h.app _)) ?_
  rintro r st' ⟨rfl, rfl⟩ _
  simp [q0, z0]
  refine ⟨fun hbig => ?_, fun hsm => ?_⟩
  · have hb : 4096 < (t.sub (sg B)).size := by unfold oP at hbig; omega
    refine endP_mk (appV (appR B t)) (by simp [appV, appR, hb, q0]) (by simp [appV, appR, hb, zero_av, q0]) ⟨rfl, ((Pre.refl _).app _).cut hfix rfl⟩
  · have hb : ¬ 4096 < (t.sub (sg B)).size := by unfold oP at hsm; omega
    refine vcICall_of (rBuild_c hB _ t rfl hr _ x a L g al (h.app _)) ?_
    rintro r st' ⟨rfl, rfl⟩ _
    simp [q0, z0]
    refine vcCall_at (rDepth_c (t.sub (sg B)) (by unfold Tm.small; omega)) ?_
    simp [q0, z0]
    refine ⟨fun hd => ?_, fun hd => ?_⟩
    · have hd : 200 < (t.sub (sg B)).depth := by omega
      refine endP_mk (appV (appR B t)) (by simp [appV, appR, hb, q0]) (by simp [appV, appR, hb, hd, q0, Tm.zero, Tm.cells, Tm.cellsL]; rfl) ⟨rfl, ((Pre.refl _).app _).cut hfix rfl⟩
    · have hd : ¬ 200 < (t.sub (sg B)).depth := by omega
      refine endP_mk (appV (appR B t)) (by simp [appV, appR, hb, q0]) (by simp [appV, appR, hb, hd, zero_av, q0]) ⟨rfl, ((Pre.refl _).app _).cut hfix rfl⟩
end Go.T1
end

section
open Go Go.Ab Go.Proofs
namespace Go.T1
@[simp] theorem ty34 : T 34 = some ⟨10, 128, .strct, [(0,1),(1,4),(5,4),(9,1)], some (.agg #[.int .i64 0, .int .i64 0, .int .i64 0, .string .empty, .slice none 0 0, .int .i64 0, .int .i64 0, .string .empty, .slice none 0 0, .int .i64 0])⟩ := by kernel_rfl
@[simp] theorem ty22 : T 22 = some ⟨1, 24, .slice 34, [], some (.slice none 0 0)⟩ := by kernel_rfl
/-- A call. -/
structure Opn where
  k : Int
  a : Tm
  b : Tm
  n : Int
def Opn.cells (o : Opn) : List AV := .sc (.int .i64 o.k) :: (o.a.cells 32 ++ (o.b.cells 32 ++ [.sc (.int .i64 o.n)]))
def opsL (l : List Opn) : List (List AV) := l.map Opn.cells
structure DS (st : St) (s m o g : Nat) (al : Bool) (x a L g2 : Nat) (al2 : Bool) (B : Bs) : Prop where
  ss : SS st s m o g al B
  rs : RS st x a L g2 al2 B
  sx : s ≠ x
  sa : s ≠ a
  sL : s ≠ L
  mx : m ≠ x
  ma : m ≠ a
  mL : m ≠ L
  ox : o ≠ x
  oa : o ≠ a
  oL : o ≠ L
def dST (st : St) (s m o g : Nat) (al : Bool) (x a L g2 : Nat) (al2 : Bool) (B : Bs) : St := rST (sST st s m o g al B) x a L g2 al2 B
section
variable {st : St} {s m o g g' x a L g2 g2' : Nat} {al al' al2 al2' : Bool} {B B' : Bs}
theorem DS.rs1 (h : DS st s m o g al x a L g2 al2 B) (g' : Nat) (al' : Bool) (B' : Bs) : RS (sST st s m o g' al' B') x a L g2 al2 B :=
  ⟨sST_other h.rs.hx h.sx h.mx h.ox, sST_other h.rs.ha h.sa h.ma h.oa, sST_other h.rs.hL h.sL h.mL h.oL, h.rs.hal, h.rs.xa, h.rs.xL, h.rs.aL⟩
theorem DS.put (h : DS st s m o g al x a L g2 al2 B) (h1 : B' ≠ [] → al' = true) (h2 : B' ≠ [] → al2' = true) : DS (dST st s m o g' al' x a L g2' al2' B') s m o g' al' x a L g2' al2' B' := by
  have hs := h.ss.put (g' := g') (al' := al') h1
  refine ⟨⟨?_, ?_, ?_, h1, h.ss.sm, h.ss.so, h.ss.mo⟩, (h.rs1 g' al' B').put h2, h.sx, h.sa, h.sL, h.mx, h.ma, h.mL, h.ox, h.oa, h.oL⟩
  · exact rST_other hs.hs (Ne.symm h.sx) (Ne.symm h.sa) (Ne.symm h.sL)
  · exact rST_other hs.hm (Ne.symm h.mx) (Ne.symm h.ma) (Ne.symm h.mL)
  · exact rST_other hs.ho (Ne.symm h.ox) (Ne.symm h.oa) (Ne.symm h.oL)
theorem DS.same (h : DS st s m o g al x a L g2 al2 B) : dST st s m o g al x a L g2 al2 B = st := by unfold dST; rw [h.ss.same, h.rs.same]
theorem DS.app (h : DS st s m o g al x a L g2 al2 B) (l : St) : DS (st ++ l) s m o g al x a L g2 al2 B := ⟨h.ss.app l, h.rs.app l, h.sx, h.sa, h.sL, h.mx, h.ma, h.mL, h.ox, h.oa, h.oL⟩
theorem dST_app (h : DS st s m o g al x a L g2 al2 B) (l : St) : dST (st ++ l) s m o g' al' x a L g2' al2' B' = dST st s m o g' al' x a L g2' al2' B' ++ l := by
  unfold dST; rw [sST_app h.ss, rST_app (h.rs1 g' al' B')]
theorem dST_len : (dST st s m o g al x a L g2 al2 B).length = st.length := by simp [dST, rST_len, sST_len]
theorem fix_DS (h : Fix st) (hS : DS st s m o g al x a L g2 al2 B) (g' : Nat) (al' : Bool) (g2' : Nat) (al2' : Bool) (B' : Bs) : Fix (dST st s m o g' al' x a L g2' al2' B') :=
  fix_RS (fix_SS h hS.ss g' al' B') (hS.rs1 g' al' B') g2' al2' B'
theorem rST_setS {b : Blk} {i : Nat} (h1 : i ≠ x) (h2 : i ≠ a) (h3 : i ≠ L) (X : St) : rST (X.set i b) x a L g al B = (rST X x a L g al B).set i b := by
  unfold rST; rw [set_comm X h2, set_comm _ h3, set_comm _ h1]
theorem DS.rs_sST (h : DS st s m o g al x a L g2 al2 B) (X : St) (G G2 : Nat) (A A2 : Bool) (C C2 : Bs) : rST (sST X s m o G A C) x a L G2 A2 C2 = sST (rST X x a L G2 A2 C2) s m o G A C := by
  unfold sST; rw [rST_setS h.sx h.sa h.sL, rST_setS h.ox h.oa h.oL, rST_setS h.mx h.ma h.mL]
theorem dST_dST (h : DS st s m o g al x a L g2 al2 B) (X : St) (G G' G2 G2' : Nat) (A A' A2 A2' : Bool) (C C' : Bs) : dST (dST X s m o G A x a L G2 A2 C) s m o G' A' x a L G2' A2' C' = dST X s m o G' A' x a L G2' A2' C' := by
  unfold dST
  rw [h.rs_sST X, sST_sST h.ss.sm h.ss.so h.ss.mo, ← h.rs_sST X, rST_rST h.rs.xa h.rs.xL h.rs.aL]
theorem dST_pre {X Y : St} (h : Pre X Y) : Pre (dST X s m o g al x a L g2 al2 B) (dST Y s m o g al x a L g2 al2 B) := rST_pre (sST_pre h)
end
/-- What holds of what is bound. -/
structure BOk (V : List Int) (B : Bs) : Prop where
  ok : OkB B
  inV : BsV V B
  chk : BsC B
/-- What a call of both leaves. -/
def DQ (V : List Int) (st : St) (s m o x a L : Nat) (r : AV) (st' : St) : Prop :=
  r = .sc (.bool true) ∧ ∃ B' g' al' g2' al2', st' = dST st s m o g' al' x a L g2' al2' B' ∧ (B' ≠ [] → al' = true) ∧ (B' ≠ [] → al2' = true) ∧ BOk V B'
set_option maxRecDepth 100000 in
theorem lmay_c (a b : Tm) (ha : a.small) (hb : b.small) : PureCall T Try.prog 20 [a.av 32, b.av 32] (.sc (.int .i64 (mayE a b))) := by
  refine PureCall.of_vc hT [] [] follows Try.call20 Try.func20 rfl (by kernel_rfl) (by simp [AV.pure, AV.pureL]) (by simp [AV.pure]) ?_
  unfold Try.f20
  simp [mayE]
  refine vcCall_at (rCheck_c a ha) ?_
  simp
  refine ⟨fun h => ?_, fun h => ?_⟩
  · simp [h]
  · refine vcCall_at (rCheck_c b hb) ?_
    simp [h]
set_option maxRecDepth 100000 in
set_option maxHeartbeats 1000000 in
theorem do_c (V : List Int) (hVs : V.length ≤ 1000000000) (c : Opn) (sa : c.a.small) (sb : c.b.small) (va : inV V c.a) (vb : inV V c.b) {B : Bs} (hB : BOk V B) (st : St) (s m o g x a L g2 : Nat) (al al2 : Bool) (h : DS st s m o g al x a L g2 al2 B) :
    ICall T Try.prog 13 [.ptr s 0, .ptr x 0, .agg c.cells] st (DQ V st s m o x a L) := by
  obtain ⟨k, a', b', n⟩ := c
  refine ICall.of_vc hT [] ([(3, 5), (7, 9), (9, 8), (9, 12), (11, 3), (15, 3), (18, 3), (21, 3)] ++ [0, 1, 2, 3, 4, 5, 6, 7, 9, 10, 11, 8, 12, 13, 14, 15].map (Prod.mk 200009)) follows Try.call13 Try.func13 rfl (drawsOk_of3 (by kernel_rfl)) fun hfix => ?_
  unfold Try.f13
  have hsame := h.same
  have trueQ : ∀ σ : Slots, σ 6 = .sc (.bool true) → ∀ B' g' al' g2' al2', (B' ≠ [] → al' = true) → (B' ≠ [] → al2' = true) → BOk V B' →
      endP T [ResultVar.tmp 6] st.length (DQ V st s m o x a L) σ (dST st s m o g' al' x a L g2' al2' B') := fun σ h6 B' g' al' g2' al2' h1 h2 h3 =>
    endP_mk (.sc (.bool true)) (by simp) (by simp [h6]) ⟨rfl, B', g', al', g2', al2', (Pre.refl _).cut (fix_DS hfix h g' al' g2' al2' B') dST_len.symm, h1, h2, h3⟩
  have same : ∀ σ : Slots, σ 6 = .sc (.bool true) → endP T [ResultVar.tmp 6] st.length (DQ V st s m o x a L) σ st := fun σ h6 => by
    have := trueQ σ h6 B g al g2 al2 h.ss.hal h.rs.hal hB
    rwa [hsame] at this
  simp only [Opn.cells]
  by_cases h1 : k = 1
  · subst h1
    simp
    refine vcICall_of (Unify_c V hVs hB.ok hB.inV a' b' sa sb va vb st s m o g al h.ss) ?_
    rintro r st' (⟨hm, rfl, rfl⟩ | ⟨hm, rb, B', g', al', rfl, rfl, hal, hok, hin, hy, hn⟩) _
    · simp
      refine vcCall_at (lmay_c a' b' sa sb) ?_
      simp [hm]
      exact same _ (by simp)
    · simp
      refine vcCall_at (lmay_c a' b' sa sb) ?_
      obtain ⟨ca, cb⟩ := mayE_zero hm
      simp [hm]
      refine vcICall_of (rUnifyM_c V hVs hB.ok hB.inV a' b' (check_zero ca).1 (check_zero cb).1 va vb _ x a L g2 al2 (h.rs1 g' al' B')) ?_
      rintro r st' ⟨rb2, B2, g2', al2', rfl, rfl, hal2, hok2, hin2, hy2, hn2⟩ _
      have hun : ∀ q : Bool, ∀ C : Bs, (q = true → Un B [(a', b')] (some C)) → (q = false → Un B [(a', b')] none ∧ C = B) → Un B [(a', b')] (if q then some C else none) := fun q C h1 h2 => by
        cases q
        · exact (h2 rfl).1
        · exact h1 rfl
      have e := (hun rb B' hy hn).det _ (hun rb2 B2 hy2 hn2)
      have : rb2 = rb ∧ B2 = B' := by
        cases rb <;> cases rb2
        · exact ⟨rfl, by rw [(hn rfl).2, (hn2 rfl).2]⟩
        · cases e
        · cases e
        · cases e; exact ⟨rfl, rfl⟩
      obtain ⟨rfl, rfl⟩ := this
      have hc : BsC B2 := by
        cases rb2
        · rw [(hn rfl).2]; exact hB.chk
        · exact (hy rfl).check hB.chk ca cb
      simp
      exact trueQ _ (by simp) B2 g' al' g2' al2' hal hal2 ⟨hok, hin, hc⟩
  by_cases h2 : k = 2
  · subst h2
    simp
    refine ⟨fun _ _ st' => st' = st, ?_⟩
    simp (decide := true)
    refine ⟨by simp (decide := true), ?_⟩; simp (decide := true)
    refine ⟨by simp (decide := true), ?_⟩; simp (decide := true)
    refine vcCall_at (rCheck_c a' sa) ?_
    simp (decide := true)
    refine ⟨by simp (decide := true), ?_⟩; simp (decide := true)
    by_cases hc : a'.check = 0
    · simp (decide := true) [hc]
      refine ⟨by simp (decide := true) [hc], ?_⟩; simp (decide := true) [hc]
      refine ⟨by simp (decide := true) [hc], ?_⟩; simp (decide := true) [hc]
      refine ⟨by simp (decide := true) [hc], ?_⟩; simp (decide := true) [hc]
      refine ⟨by simp (decide := true) [hc], ?_⟩; simp (decide := true) [hc]
      refine ⟨by simp (decide := true) [hc], ?_⟩; simp (decide := true) [hc]
      refine ⟨by simp (decide := true) [hc], ?_⟩; simp (decide := true) [hc]
      refine ⟨by simp (decide := true) [hc], ?_⟩; simp (decide := true) [hc]
      refine ⟨by simp (decide := true) [hc], ?_⟩; simp (decide := true) [hc]
      refine vcThenQ_yes (fun r st' => r = (wk B a').av 32 ∧ st' = st) rfl (by simp) rfl (by simp (decide := true) [hc]) (by simp [vcI, hc]; exact Walk_c hB.ok a' (check_small (wk_all hB.chk hc)) (wk_all hB.chk hc) st s m o g al h.ss) (fun r st' h => h.2) ?_
      rintro r st' ⟨rfl, rfl⟩ _
      simp (decide := true) [hc]
      refine vcThenQ_yes (fun r Z => r = (wk B a').av 32 ∧ Z = st') rfl (by simp) rfl (by simp (decide := true) [hc]) (by simp [vcI, hc]; exact rWalk_c hB.ok a' _ x a L g2 al2 h.rs) (fun r st' h => h.2) ?_
      rintro r st' ⟨rfl, rfl⟩ _
      simp (decide := true) [hc]
      refine vcCall_at (exact_c (wk B a') (wk B a')) ?_
      simp (decide := true) [hc]
      refine ⟨by simp (decide := true) [hc], ?_⟩; simp (decide := true) [hc]
      refine ⟨by simp (decide := true) [hc], ?_⟩; simp (decide := true) [hc]
      refine ⟨by simp (decide := true) [hc], ?_⟩; simp (decide := true) [hc]
      exact same _ (by simp)
    · simp (decide := true) [hc]
      refine ⟨by simp (decide := true) [hc], ?_⟩; simp (decide := true) [hc]
      refine ⟨by simp (decide := true) [hc], ?_⟩; simp (decide := true) [hc]
      refine ⟨by simp (decide := true) [hc], ?_⟩; simp (decide := true) [hc]
      refine ⟨by simp (decide := true) [hc], ?_⟩; simp (decide := true) [hc]
      refine ⟨by simp (decide := true) [hc], ?_⟩; simp (decide := true) [hc]
      refine ⟨by simp (decide := true) [hc], ?_⟩; simp (decide := true) [hc]
      refine ⟨by simp (decide := true) [hc], ?_⟩; simp (decide := true) [hc]
      refine ⟨by simp (decide := true) [hc], ?_⟩; simp (decide := true) [hc]
      refine vcThenQ_no rfl (by simp) rfl (by simp (decide := true) [hc]) rfl fun _ => ?_
      simp (decide := true) [hc]
      refine vcThenQ_no rfl (by simp) rfl (by simp (decide := true) [hc]) rfl fun _ => ?_
      simp (decide := true) [hc]
      refine ⟨[], .sc (.bool false), fun h => (by simp at h), ?_⟩
      simp (decide := true) [hc]
      refine ⟨by simp (decide := true) [hc], ?_⟩; simp (decide := true) [hc]
      refine ⟨by simp (decide := true) [hc], ?_⟩; simp (decide := true) [hc]
      refine ⟨by simp (decide := true) [hc], ?_⟩; simp (decide := true) [hc]
      exact same _ (by simp)
  by_cases h3 : k = 3
  · subst h3
    simp
    refine vcICall_of (Apply_c hB.ok a' sa st s m o g al h.ss) ?_
    rintro r st' ⟨rfl, rfl⟩ _
    obtain ⟨u, e, hu⟩ : ∃ u e, appC B a' = (u, e) := ⟨_, _, rfl⟩
    simp [hu, appV]
    refine vcCall_at (rCheck_c a' sa) ?_
    simp
    refine ⟨fun hc => ?_, fun hc => ?_⟩
    · simp [appC, hc] at hu
      obtain ⟨rfl, rfl⟩ := hu
      simp [Tm.zero, Tm.cells]
      exact same _ (by simp)
    · refine vcICall_of (rApply_c hB.ok a' (check_zero hc).1 _ x a L g2 al2 h.rs) ?_
      rintro r st' ⟨rfl, rfl⟩ _
      simp [appC, hc] at hu
      rw [hu]
      simp [appV]
      refine vcCall_at (exact_c u u) ?_
      simp
      exact same _ (by simp)
  by_cases h4 : k = 4
  · subst h4
    simp
    refine vcICall_of (Undo_c hB.ok n st s m o g al h.ss) ?_
    rintro r st' (⟨hu, rfl, hst⟩ | ⟨hu, n0, n1, rfl, hst⟩) _
    · subst hst
      have gx := h.rs.hx
      have gL := h.rs.hL
      simp [gx, gL]
      refine ⟨fun _ => same _ (by simp), fun h1 h2 => ?_⟩
      exfalso
      unfold undoR at hu
      split at hu <;> omega
    · have hr := h.rs1 (g + 1) al (B.take n.toNat)
      rw [← hst] at hr
      have gx := hr.hx
      have gL := hr.hL
      obtain ⟨w, rfl⟩ := Int.eq_ofNat_of_zero_le n0
      simp [gx, gL]
      refine ⟨fun hh => by omega, fun _ => ?_⟩
      refine vcICall_of (rUndo_c hB.ok w _ x a L g2 al2 hr) ?_
      rintro r st2 ⟨g', rfl, rfl⟩ _
      simp
      rw [hst]
      have hne : B.take (w : Int).toNat ≠ [] → B ≠ [] := by rintro h rfl; simp at h
      exact trueQ _ (by simp) (B.take w) (g + 1) al g' al2 (fun hh => h.ss.hal (hne hh)) (fun hh => h.rs.hal (hne hh)) ⟨OkB_take hB.ok w, BsV_take hB.inV w, BsP_take hB.chk w⟩
  · simp [h1, h2, h3, h4]
    exact same _ (by simp)
end Go.T1
end

section
open Go Go.Ab Go.Proofs
namespace Go.T1
theorem SS.after {st : St} {s m o g g' : Nat} {al al' : Bool} {B B' : Bs} (h : SS st s m o g al B) : SS (sST (st ++ newSt st.length) (st.length + 1) st.length (st.length + 2) g' al' B') s m o g al B := by
  obtain ⟨l1, l2, l3⟩ := h.lts
  have h2 := h.app (newSt st.length)
  exact ⟨sST_other h2.hs (by omega) (by omega) (by omega), sST_other h2.hm (by omega) (by omega) (by omega), sST_other h2.ho (by omega) (by omega) (by omega), h.hal, h.sm, h.so, h.mo⟩
theorem pf32_2 : plainField Try.prog 32 2 = some 2 := by kernel_rfl
theorem pf32_0 : plainField Try.prog 32 0 = some 0 := by kernel_rfl
def Lb : Tm := .mk 3 0 ⟨#[98]⟩ []
def La : Tm := .mk 3 0 ⟨#[97]⟩ []
def L0 : Tm := .mk 4 0 ⟨#[102]⟩ [Tm.mk 1 0 ⟨#[]⟩ [], Lb]
def L1 : Tm := .mk 4 0 ⟨#[102]⟩ [La, Tm.mk 1 1 ⟨#[]⟩ []]
def L2 : Tm := .mk 4 0 ⟨#[102]⟩ [La, Lb]
def LB : Bs := [(0, La), (1, Lb)]
theorem L_un : Un [] [(L0, L1)] (some LB) := by
  refine .go (B' := []) (qs := [(Tm.mk 1 0 ⟨#[]⟩ [], La), (Lb, Tm.mk 1 1 ⟨#[]⟩ [])]) (by kernel_rfl) ?_
  refine .go (B' := [(0, La)]) (qs := []) (by kernel_rfl) ?_
  refine .go (B' := LB) (qs := []) (by kernel_rfl) ?_
  exact .nil _
theorem L_un2 : Un [] [(Tm.mk 1 0 ⟨#[]⟩ [], L0)] none := .fail (by kernel_rfl)
theorem L_un3 : Un [(0, La)] [(Tm.mk 2 1 ⟨#[]⟩ [], Tm.mk 2 2 ⟨#[]⟩ [])] none := .fail (by kernel_rfl)
theorem L_ok0 : L0.small := by simp [L0, Lb, Tm.small, Tm.size, Tm.sizeL]
theorem L_ok1 : L1.small := by simp [L1, La, Tm.small, Tm.size, Tm.sizeL]
theorem L_c0 : L0.check = 0 := by decide +kernel
theorem L_c1 : L1.check = 0 := by decide +kernel
theorem L_cv : (Tm.mk 1 0 ⟨#[]⟩ []).check = 0 := by decide +kernel
theorem L_ca : La.check = 0 := by decide +kernel
theorem L_cb : Lb.check = 0 := by decide +kernel
theorem L_i1 : (Tm.mk 2 1 ⟨#[]⟩ []).check = 0 := by decide +kernel
theorem L_i2 : (Tm.mk 2 2 ⟨#[]⟩ []).check = 0 := by decide +kernel
theorem L_ap0 : appC LB L0 = (L2, 0) := by kernel_rfl
theorem L_ap1 : appC LB L1 = (L2, 0) := by kernel_rfl
theorem L_v0 : boundV LB 0 = .tup [La.av 32, .sc (.bool true)] := rfl
theorem L_wk : wk [(0, La)] (Tm.mk 1 0 ⟨#[]⟩ []) = La := by kernel_rfl
theorem L_occ0 : inV [0, 1] L0 := by intro n hn; have : L0.occ = [0] := by kernel_rfl
                                     rw [this] at hn; simp at hn; simp [hn]
theorem L_occ1 : inV [0, 1] L1 := by intro n hn; have : L1.occ = [1] := by kernel_rfl
                                     rw [this] at hn; simp at hn; simp [hn]
theorem L_occv : inV [0, 1] (Tm.mk 1 0 ⟨#[]⟩ []) := by intro n hn; have : (Tm.mk 1 0 ⟨#[]⟩ []).occ = [0] := by kernel_rfl
                                                       rw [this] at hn; simp at hn; simp [hn]
theorem L_occi (k : Int) (hk : k ≠ 1) (n : Int) : inV [0, 1] (Tm.mk k n ⟨#[]⟩ []) := by intro x hx; simp [Tm.occ, hk, Tm.occL] at hx
set_option maxRecDepth 100000 in
set_option maxHeartbeats 4000000 in
theorem lives_c : PureCall T Try.prog 10 [] (.sc (.bool true)) := by
  refine PureCall.of_vc hT [] [(3, 2), (4, 2), (7, 2), (8, 2), (9, 1), (10, 1), (11, 1), (12, 3), (13, 36), (13, 48), (13, 54)] follows Try.call10 Try.func10 rfl (drawsOk_of3 (by kernel_rfl)) (by simp [AV.pure, AV.pureL]) (by simp [AV.pure]) ?_
  unfold Try.f10
  simp
  refine vcCall_at (rVar_c 0) ?_
  simp
  refine vcCall_at (rAtom_c _) ?_
  simp
  refine ⟨rfl, vcCall_at (rComp_c _ [Tm.mk 1 0 ⟨#[]⟩ [], Lb]) ?_⟩
  rw [show compT ⟨#[102]⟩ [Tm.mk 1 0 ⟨#[]⟩ [], Lb] = L0 from rfl]
  simp
  refine vcCall_at (rAtom_c _) ?_
  simp
  refine vcCall_at (rVar_c 1) ?_
  simp
  refine ⟨rfl, vcCall_at (rComp_c _ [La, Tm.mk 1 1 ⟨#[]⟩ []]) ?_⟩
  rw [show compT ⟨#[102]⟩ [La, Tm.mk 1 1 ⟨#[]⟩ []] = L1 from rfl]
  simp
  refine vcICall_of (PUnify_c [0, 1] (by decide) L0 L1 L_ok0 L_ok1 L_occ0 L_occ1 []) ?_
  have m0 : mayE L0 L1 = 0 := by kernel_rfl
  have m1 : mayE (Tm.mk 1 0 ⟨#[]⟩ []) L0 = 0 := by kernel_rfl
  have m2 : mayE (Tm.mk 2 1 ⟨#[]⟩ []) (Tm.mk 2 2 ⟨#[]⟩ []) = 0 := by kernel_rfl
  rintro r X (⟨hm, _⟩ | ⟨_, rb, B, g, al, rfl, hX, hal, hok, hin, hy, hn⟩) _
  · exact absurd m0 hm
  cases rb with
  | false => cases (hn rfl).1.det _ L_un
  | true =>
  have hS : SS X 1 0 2 g al B := by rw [hX]; exact (SS.new []).put hal
  have eB := (hy rfl).det _ L_un
  cases eB
  clear hX hy hn
  simp
  refine ⟨PQ [0, 1] (Tm.mk 1 0 ⟨#[]⟩ []) L0 X, ?_⟩
  simp (decide := true)
  refine vcCall_at (rVar_c 0) ?_
  simp (decide := true)
  refine ⟨by simp, rfl, by simp [vcI]; exact PUnify_c [0, 1] (by decide) (Tm.mk 1 0 ⟨#[]⟩ []) L0 (check_small L_cv) L_ok0 L_occv L_occ0 X, ?_⟩
  rintro r Y (⟨hm, _⟩ | ⟨_, rb, B, g', al', rfl, hY, hal', hok', hin', hy, hn⟩) _
  · exact absurd m1 hm
  cases rb with
  | true => cases (hy rfl).det _ L_un2
  | false =>
  replace hS : SS Y 1 0 2 g al LB := by rw [hY]; exact hS.after
  clear hY hy hn
  simp (decide := true) [hS.hs]
  refine vcICall_of (Apply_c hok L0 L_ok0 Y 1 0 2 g al hS) ?_
  rintro r Y' ⟨rfl, rfl⟩ _
  simp [L_ap0, appV]
  refine vcICall_of (Apply_c hok L1 L_ok1 Y' 1 0 2 g al hS) ?_
  rintro r Y ⟨rfl, rfl⟩ _
  simp [L_ap1, appV]
  refine vcICall_of (Bound_c (fun n t h => by simp only [LB, lookB] at h; split at h; · cases h; exact ⟨check_small L_ca, L_ca⟩
                                              split at h; · cases h; exact ⟨check_small L_cb, L_cb⟩
                                              cases h) 0 Y 1 0 2 g al hS) ?_
  rintro r Y' ⟨rfl, rfl⟩ _
  simp [L_v0]
  refine vcICall_of (Order_c Y' 1 0 2 g al hS (by simp [LB])) ?_
  rintro r Y ⟨rfl, rfl⟩ _
  simp
  refine vcICall_of (Undo_c hok 1 Y 1 0 2 g al hS) ?_
  rintro r Z (⟨hu, _⟩ | ⟨_, _, _, rfl, hZ⟩) _
  · simp [undoR, LB] at hu
  replace hS : SS Z 1 0 2 (g + 1) al [(0, La)] := by rw [hZ]; exact hS.put fun _ => hal (by simp [LB])
  clear hZ
  have hok1 : OkB [(0, La)] := OkB_take hok 1
  simp
  refine vcCall_at (rInt_c 1) ?_
  simp
  refine vcCall_at (rInt_c 2) ?_
  simp
  refine vcICall_of (Unify_c [0, 1] (by decide) hok1 (BsV_take hin 1) (Tm.mk 2 1 ⟨#[]⟩ []) (Tm.mk 2 2 ⟨#[]⟩ []) (check_small L_i1) (check_small L_i2) (L_occi 2 (by omega) 1) (L_occi 2 (by omega) 2) Z 1 0 2 (g + 1) al hS) ?_
  rintro r W (⟨hm, _⟩ | ⟨_, rb, B2, g2, al2, rfl, hW, hal2, _, _, hy, hn⟩) _
  · exact absurd m2 hm
  cases rb with
  | true => cases (hy rfl).det _ L_un3
  | false =>
  obtain ⟨_, rfl⟩ := hn rfl
  replace hS : SS W 1 0 2 g2 al2 [(0, La)] := by rw [hW]; exact hS.put hal2
  clear hW hy hn
  have kk : keys LB = [0, 1] := rfl
  have hs1 := hS.hs
  simp [kk]
  refine vcCall_at (exact_c L2 L2) ?_
  simp [kk, La, Tm.cells]
  refine vcICall_of (Len_c W 1 0 2 g2 al2 hS) ?_
  rintro r Y ⟨rfl, rfl⟩ _
  simp
  refine vcICall_of (New_c Y) ?_
  rintro r Z ⟨rfl, rfl⟩ _
  simp [newSt, hs1]
  refine vcCall_at (rVar_c 0) ?_
  simp
  refine vcICall_of (Walk_c hok1 (Tm.mk 1 0 ⟨#[]⟩ []) (by rw [L_wk]; exact check_small L_ca) (by rw [L_wk]; exact L_ca) _ 1 0 2 g2 al2 (hS.app _)) ?_
  rintro r Z ⟨rfl, rfl⟩ _
  rw [L_wk]
  simp [La, Tm.cells, pf32_2]
end Go.T1
end

section
open Go Go.Ab Go.Proofs
namespace Go.T1
mutual
theorem occ_len : ∀ t : Tm, t.occ.length ≤ t.size
  | .mk k n s l => by
    have := occL_len l
    simp only [Tm.occ, Tm.size]
    split
    · simp
    · omega
theorem occL_len : ∀ l : List Tm, (Tm.occL l).length ≤ Tm.sizeL l
  | [] => by simp [Tm.occL, Tm.sizeL]
  | t :: ts => by
    have h1 := occ_len t
    have h2 := occL_len ts
    simp only [Tm.occL, Tm.sizeL, List.length_append]; omega
end
/-- The variables of two. -/
def V2 (a b : Tm) : List Int := a.occ ++ b.occ
theorem V2_l (a b : Tm) : inV (V2 a b) a := fun n h => List.mem_append.2 (.inl h)
theorem V2_r (a b : Tm) : inV (V2 a b) b := fun n h => List.mem_append.2 (.inr h)
theorem V2_len {a b : Tm} (ha : a.large = false) (hb : b.large = false) : (V2 a b).length ≤ 1000000000 := by
  have h1 := occ_len a
  have h2 := occ_len b
  have h3 := Tm.large_size ha
  have h4 := Tm.large_size hb
  simp only [V2, List.length_append]; omega
theorem sub_var : ∀ t : Tm, t.right = true → t.sub Tm.var = t := fun t h => sub_id h fun _ _ => rfl
theorem occ_range {t : Tm} (h : t.right = true) {n : Int} (hn : n ∈ t.occ) : 0 ≤ n ∧ n < 1073741824 := by
  have := right_part Tm.var t (by rw [sub_var t h]; exact h) n hn
  simp [Tm.var, Tm.right, Tm.rightL, partB] at this
  exact this
/-- Unified: they come to the same. -/
theorem same_ap {a b : Tm} {B : Bs} (ca : a.check = 0) (cb : b.check = 0) (h : Un [] [(a, b)] (some B)) : appC B a = appC B b := by
  have hr : ∀ p ∈ [(a, b)], p.1.right = true ∧ p.2.right = true := by simp [(check_zero ca).1, (check_zero cb).1]
  obtain ⟨_, _, h3⟩ := h.sound OkB_nil hr B rfl
  have := h3 (a, b) (by simp)
  simp only at this
  simp [appC, appR, ca, cb, this]
theorem right2 {a b : Tm} (ca : a.check = 0) (cb : b.check = 0) : ∀ p ∈ [(a, b)], p.1.right = true ∧ p.2.right = true := by simp [(check_zero ca).1, (check_zero cb).1]
/-- The other way round. -/
theorem turned_some {a b : Tm} {B : Bs} {r : Option Bs} (ca : a.check = 0) (cb : b.check = 0) (h : Un [] [(a, b)] (some B)) (h' : Un [] [(b, a)] r) : ∃ B', r = some B' ∧ Solves B' (sg B) := by
  obtain ⟨_, _, h3⟩ := h.sound OkB_nil (right2 ca cb) B rfl
  refine h'.complete OkB_nil (right2 cb ca) (fun n t hm => by cases hm) fun p hp => ?_
  simp at hp
  subst hp
  exact (h3 (a, b) (by simp)).symm
theorem turned_ap {a b : Tm} {B1 B2 : Bs} (ca : a.check = 0) (cb : b.check = 0) (h1 : Un [] [(a, b)] (some B1)) (h2 : Un [] [(b, a)] (some B2)) :
    (appC B1 a).2 = (appC B2 a).2 ∧ renT (appC B1 a).1 = renT (appC B2 a).1 := by
  obtain ⟨_, k1, _⟩ := h1.sound OkB_nil (right2 ca cb) B1 rfl
  obtain ⟨_, k2, _⟩ := h2.sound OkB_nil (right2 cb ca) B2 rfl
  obtain ⟨_, e2, s2⟩ := turned_some ca cb h1 h2
  cases e2
  obtain ⟨_, e1, s1⟩ := turned_some cb ca h2 h1
  cases e1
  have r := (check_zero ca).1
  obtain ⟨e1, e2, e3⟩ := variants (x := a.sub (sg B1)) (y := a.sub (sg B2)) (f := sg B1) (g := sg B2) (sg_right k1 r) (sg_right k2 r) (mgu k2 s2 a).symm (mgu k1 s1 a).symm
  simp only [appC, ca, appR, ne_eq, not_true_eq_false, if_false]
  rw [e2, e3]
  split
  · exact ⟨rfl, rfl⟩
  · split
    · exact ⟨rfl, rfl⟩
    · exact ⟨rfl, e1⟩
theorem right_size_check {u : Tm} (hr : u.right = true) (hs : u.size ≤ 4096) (hd : u.depth ≤ 200) : u.check = 0 := by
  unfold Tm.check
  rw [if_neg (by simp [hr]), if_neg (by omega), if_neg (by omega)]
/-- What it comes to comes to itself. -/
theorem stays_ap {t u : Tm} {B : Bs} (hB : OkB B) (ct : t.check = 0) (h : appC B t = (u, 0)) : u.small ∧ appC B u = (u, 0) := by
  have hr := (check_zero ct).1
  simp only [appC, ct, appR, ne_eq, not_true_eq_false, if_false] at h
  split at h
  · simp at h
  rename_i h1
  split at h
  · simp at h
  rename_i h2
  simp at h
  subst h
  have hu := right_size_check (sg_right hB hr) (by omega) (by omega)
  refine ⟨check_small hu, ?_⟩
  simp only [appC, hu, appR, ne_eq, not_true_eq_false, if_false, sg_sg hB hr]
  rw [if_neg h1, if_neg h2]
theorem nil_ap {t : Tm} (ct : t.check = 0) : appC [] t = (t, 0) := by
  obtain ⟨hr, h1, h2⟩ := check_zero ct
  have e : t.sub (sg []) = t := sub_id hr fun _ _ => rfl
  simp only [appC, ct, appR, ne_eq, not_true_eq_false, if_false, e]
  rw [if_neg (by omega), if_neg (by omega)]
/-- The new variable. -/
def cutV (n : Int) : Int := 40000 + ((n.tmod 100) + 100).tmod 100
theorem cutV_range (n : Int) : 40000 ≤ cutV n ∧ cutV n < 40100 := by
  unfold cutV
  have h1 := Int.tmod_lt_of_pos n (b := 100) (by omega)
  have h2 : -100 < n.tmod 100 := by
    have := Int.lt_tmod_of_pos n (b := 100) (by omega)
    omega
  have h3 := Int.tmod_lt_of_pos (n.tmod 100 + 100) (b := 100) (by omega)
  have h4 := Int.tmod_nonneg (a := n.tmod 100 + 100) 100 (by omega)
  omega
theorem finds {a : Tm} {w : List Tm} {at' n : Int} {r : Option Bs} (ca : a.check = 0) (hw : ∀ x ∈ w, x.check = 0 ∧ x.vars [] = []) (cb : (a.sub (repF w)).check = 0) (hat : 0 ≤ at')
    (hv : ∀ m ∈ a.vars [], ¬ (40000 ≤ m ∧ m < 40100)) (h : Un [] [(a, (cutT (cutV n) (a.sub (repF w)) at').1)] r) : ∃ B, r = some B := by
  have hr := (check_zero ca).1
  have hrb := (check_zero cb).1
  obtain ⟨v1, v2⟩ := cutV_range n
  have va : cutV n ∉ a.occ := fun hm => hv _ ((Tm.mem_vars a [] _).2 (.inr hm)) ⟨v1, v2⟩
  obtain ⟨cr, _, _⟩ := cutT_like (v := cutV n) (by omega) (a.sub (repF w)) at' hrb
  have hbo : ∀ m ∈ (a.sub (repF w)).occ, m ≠ cutV n ∧ repF w m = Tm.var m := by
    intro m hm
    obtain ⟨y, hy, hy2⟩ := (Tm.occ_sub _ m a).1 hm
    unfold repF at hy2
    split at hy2
    · rename_i hlt
      have := (hw _ (List.getElem_mem hlt)).2
      have h3 := (Tm.mem_vars (w[y.toNat]) [] m).2 (.inr hy2)
      rw [this] at h3; cases h3
    · rename_i hge
      simp [Tm.var, Tm.occ] at hy2
      subst hy2
      exact ⟨fun e => va (e ▸ hy), by unfold repF; rw [dif_neg hge]⟩
  have key : ∃ θ : Int → Tm, a.sub θ = (cutT (cutV n) (a.sub (repF w)) at').1.sub θ := by
    rcases cutT_of (cutV n) (a.sub (repF w)) at' hrb hat with ⟨_, P, hP⟩ | ⟨_, e⟩
    · refine ⟨fun m => if m = cutV n then P else repF w m, ?_⟩
      rw [hP _ (if_pos rfl) fun m hm => by rw [if_neg (hbo m hm).1]; exact (hbo m hm).2]
      refine Tm.sub_congr _ _ _ fun m hm => ?_
      have hne : m ≠ cutV n := by rintro rfl; exact va hm
      simp [hne]
    · refine ⟨repF w, ?_⟩
      rw [e]
      exact (sub_id hrb fun m hm => (hbo m hm).2).symm
  obtain ⟨θ, hθ⟩ := key
  obtain ⟨B, e, _⟩ := h.complete (θ := θ) OkB_nil (by simp [hr, cr]) (fun n t hm => by cases hm) (by simp [hθ])
  exact ⟨B, e⟩
end Go.T1
end

section
open Go Go.Ab Go.Proofs
namespace Go.T1
section
variable {T : Tab} {P : Program} {n : Nat} {mu : List Nat} {im : List (Nat × Nat)} {K : Slots → St → Prop} {X : Nat → Slots → St → Prop} {R : Slots → St → Prop} {σ : Slots} {st : St}
theorem cond_t {c : Operand} {x y : Code} (h : ev σ c = .sc (.bool true)) : vcC T P n mu im (.cond c x y) K X R σ st ↔ vcC T P n mu im x K X R σ st := by
  rw [vcC_cond, h]; simp
theorem cond_f {c : Operand} {x y : Code} (h : ev σ c = .sc (.bool false)) : vcC T P n mu im (.cond c x y) K X R σ st ↔ vcC T P n mu im y K X R σ st := by
  rw [vcC_cond, h]; simp
end
theorem pureL_append : ∀ a b : List AV, AV.pureL (a ++ b) = (AV.pureL a && AV.pureL b)
  | [], b => by simp [AV.pureL]
  | x :: a, b => by simp [AV.pureL, pureL_append a b, Bool.and_assoc]
@[simp] theorem Opn.cells_pure (o : Opn) : AV.pureL o.cells = true := by simp [Opn.cells, AV.pureL, AV.pure, pureL_append]
set_option maxRecDepth 100000 in
set_option maxHeartbeats 2000000 in
theorem SubstNobody_c (c : Opn) : PureCall T Try.prog 7 [.agg c.cells] (.sc (.bool true)) := by
  obtain ⟨k, a, b, n⟩ := c
  refine PureCall.of_vc hT [] [] follows Try.call7 Try.func7 rfl (drawsOk_of3 (by kernel_rfl)) (by simp [AV.pure, AV.pureL]) (by simp [AV.pure]) ?_
  unfold Try.f7
  simp [Opn.cells]
  refine vcCall_at (UnifyN_c a b) ?_
  simp
  refine vcCall_at (ApplyN_c a) ?_
  simp
  refine vcCall_at (BoundN_c n) ?_
  simp
  refine vcCall_at lives_c ?_
  simp [Tm.zero, Tm.cells]
  refine vcCall_at (WalkN_c a) ?_
  simp [Tm.zero, Tm.cells, pf32_0]
  refine vcCall_at LenN_c ?_
  simp
  refine vcCall_at (UndoN_c n) ?_
  simp
  refine vcCall_at OrderN_c ?_
  simp
set_option maxRecDepth 100000 in
set_option maxHeartbeats 2000000 in
theorem SubstSame_c (a b : Tm) (na : a.nice) (nb : b.nice) : PureCall T Try.prog 4 [a.av 32, b.av 32] (.sc (.bool true)) := by
  refine PureCall.of_vc hT [] [(3, 2), (8, 2), (9, 2)] follows Try.call4 Try.func4 rfl (drawsOk_of3 (by kernel_rfl)) (by simp [AV.pure, AV.pureL]) (by simp [AV.pure]) ?_
  unfold Try.f4
  simp [cond_t, cond_f, -vcC_cond]
  refine vcCall_at (Large_c a na) ?_
  simp
  cases ha : a.large
  case true => 
    simp
    refine ⟨[], .sc (.bool false), fun h => (by simp at h), ?_⟩
    simp
    exact vcCall_at lives_c (by simp)
  simp
  refine vcCall_at (Large_c b nb) ?_
  simp
  cases hb : b.large
  case true => 
    simp
    exact vcCall_at lives_c (by simp)
  have sa := Tm.large_small ha
  have sb := Tm.large_small hb
  simp
  refine vcICall_of (PUnify_c (V2 a b) (V2_len ha hb) a b sa sb (V2_l a b) (V2_r a b) []) ?_
  rintro r X (⟨hm, rfl, _⟩ | ⟨hm, rb, B, g, al, rfl, hX, hal, hok, hin, hy, hn⟩) _
  · simp
    refine vcCall_at lives_c ?_
    simp
    refine ⟨[], .sc (.int .i64 0), fun h => (by simp at h), ?_⟩
    simp
  cases rb with
  | false =>
    simp
    refine vcCall_at lives_c ?_
    simp
    refine ⟨[], .sc (.int .i64 0), fun h => (by simp at h), ?_⟩
    simp
  | true =>
    have hS : SS X 1 0 2 g al B := by rw [hX]; exact (SS.new []).put hal
    obtain ⟨ca, cb⟩ := mayE_zero hm
    have hun := hy rfl
    clear hX hy hn
    simp
    refine vcCall_at lives_c ?_
    simp [hS.hs]
    refine vcCall_at (lmay_c a b sa sb) ?_
    simp [hm]
    refine vcICall_of (Apply_c hok a sa X 1 0 2 g al hS) ?_
    rintro r Y ⟨rfl, rfl⟩ _
    simp [appV]
    refine vcICall_of (Apply_c hok b sb Y 1 0 2 g al hS) ?_
    rintro r Z ⟨rfl, rfl⟩ _
    rw [← same_ap ca cb hun]
    simp [appV]
    refine vcCall_at (exact_c (appC B a).1 (appC B a).1) ?_
    simp
end Go.T1
end

section
open Go Go.Ab Go.Proofs
namespace Go.T1
theorem appC_small {B : Bs} {t u : Tm} {e : Int} (h : appC B t = (u, e)) : u.small := by
  unfold appC appR at h
  split at h
  · cases h; simp [Tm.zero, Tm.small, Tm.size, Tm.sizeL]
  · split at h
    · cases h; simp [Tm.zero, Tm.small, Tm.size, Tm.sizeL]
    · split at h
      · cases h; simp [Tm.zero, Tm.small, Tm.size, Tm.sizeL]
      · cases h; unfold Tm.small; omega
set_option maxRecDepth 100000 in
set_option maxHeartbeats 4000000 in
theorem SubstTurned_c (a b : Tm) (na : a.nice) (nb : b.nice) : PureCall T Try.prog 6 [a.av 32, b.av 32] (.sc (.bool true)) := by
  refine PureCall.of_vc hT [] [(3, 2), (4, 2), (9, 2), (10, 2)] follows Try.call6 Try.func6 rfl (drawsOk_of3 (by kernel_rfl)) (by simp [AV.pure, AV.pureL]) (by simp [AV.pure]) ?_
  unfold Try.f6
  simp [cond_t, cond_f, -vcC_cond]
  refine vcCall_at (Large_c a na) ?_
  simp
  cases ha : a.large
  case true => 
    simp
    refine ⟨[], .sc (.bool false), fun h => (by simp at h), ?_⟩
    simp
    exact vcCall_at lives_c (by simp)
  simp
  refine vcCall_at (Large_c b nb) ?_
  simp
  cases hb : b.large
  case true => 
    simp
    exact vcCall_at lives_c (by simp)
  have sa := Tm.large_small ha
  have sb := Tm.large_small hb
  simp
  have hm2 : mayE a b = 0 ↔ mayE b a = 0 := by
    unfold mayE
    by_cases h1 : a.check = 0 <;> by_cases h2 : b.check = 0 <;> simp [h1, h2]
  refine vcICall_of (PUnify_c (V2 a b) (V2_len ha hb) a b sa sb (V2_l a b) (V2_r a b) []) ?_
  rintro r X (⟨hm, rfl, _⟩ | ⟨hm, rb, B, g, al, rfl, hX, hal, hok, hin, hy, hn⟩) _
  · simp
    refine vcICall_of (PUnify_c (V2 a b) (V2_len ha hb) b a sb sa (V2_r a b) (V2_l a b) X) ?_
    rintro r Y (⟨_, rfl, _⟩ | ⟨hm', _⟩) _
    · simp
      refine vcCall_at lives_c ?_
      simp
    · exact absurd (hm2.2 hm') hm
  obtain ⟨ca, cb⟩ := mayE_zero hm
  have ht1 := fun B r (h : Un [] [(a, b)] (some B)) (h' : Un [] [(b, a)] r) => turned_some ca cb h h'
  have ht2 := fun B r (h : Un [] [(b, a)] (some B)) (h' : Un [] [(a, b)] r) => turned_some cb ca h h'
  cases rb with
  | false =>
    simp
    refine vcICall_of (PUnify_c (V2 a b) (V2_len ha hb) b a sb sa (V2_r a b) (V2_l a b) X) ?_
    rintro r Y (⟨hm', _⟩ | ⟨_, rb2, B2, g2, al2, rfl, hY, hal2, hok2, hin2, hy2, hn2⟩) _
    · exact absurd (hm2.1 hm) hm'
    have : rb2 = false := by
      cases rb2 with
      | false => rfl
      | true => obtain ⟨_, e, _⟩ := ht2 _ _ (hy2 rfl) (hn rfl).1; cases e
    subst this
    simp
    refine vcCall_at lives_c ?_
    simp
  | true =>
    simp
    refine vcICall_of (PUnify_c (V2 a b) (V2_len ha hb) b a sb sa (V2_r a b) (V2_l a b) X) ?_
    rintro r Y (⟨hm', _⟩ | ⟨_, rb2, B2, g2, al2, rfl, hY, hal2, hok2, hin2, hy2, hn2⟩) _
    · exact absurd (hm2.1 hm) hm'
    have : rb2 = true := by
      cases rb2 with
      | true => rfl
      | false => obtain ⟨_, e, _⟩ := ht1 _ _ (hy rfl) (hn2 rfl).1; cases e
    subst this
    have hS1 : SS X 1 0 2 g al B := by rw [hX]; exact (SS.new []).put hal
    have hSX : SS Y 1 0 2 g al B := by rw [hY]; exact hS1.after
    have hSY : SS Y (X.length + 1) X.length (X.length + 2) g2 al2 B2 := by rw [hY]; exact (SS.new X).put hal2
    obtain ⟨e1, e2⟩ := turned_ap ca cb (hy rfl) (hy2 rfl)
    clear hX hY hy hy2 hn hn2
    have k1 := hSX.hs
    have k2 := hSY.hs
    simp
    refine vcCall_at lives_c ?_
    simp [k1, k2]
    obtain ⟨u, e, hu⟩ : ∃ u e, appC B a = (u, e) := ⟨_, _, rfl⟩
    obtain ⟨u2, e', hu2⟩ : ∃ u e, appC B2 a = (u, e) := ⟨_, _, rfl⟩
    rw [hu, hu2] at e1 e2
    simp only at e1 e2
    subst e1
    refine vcICall_of (Apply_c hok a sa Y 1 0 2 g al hSX) ?_
    rintro r Z ⟨rfl, rfl⟩ _
    simp [appV, hu]
    refine vcICall_of (Apply_c hok2 a sa _ _ _ _ g2 al2 hSY) ?_
    rintro r W ⟨rfl, rfl⟩ _
    simp [appV, hu2]
    refine vcCall_at (rRename_c u (appC_small hu)) ?_
    simp
    refine vcCall_at (rRename_c u2 (appC_small hu2)) ?_
    simp
    refine vcCall_at (exact_c (renT u) (renT u2)) ?_
    simp [e2]
set_option maxRecDepth 100000 in
set_option maxHeartbeats 4000000 in
theorem SubstStays_c (a b t : Tm) (na : a.nice) (nb : b.nice) (nt : t.nice) : PureCall T Try.prog 8 [a.av 32, b.av 32, t.av 32] (.sc (.bool true)) := by
  refine PureCall.of_vc hT [] [(3, 0), (6, 3), (7, 2), (9, 2), (12, 1), (12, 5), (14, 2)] follows Try.call8 Try.func8 rfl (drawsOk_of3 (by kernel_rfl)) (by simp [AV.pure, AV.pureL]) (by simp [AV.pure]) ?_
  unfold Try.f8
  simp [cond_t, cond_f, -vcC_cond]
  refine vcCall_at (Large_c a na) ?_
  simp
  cases ha : a.large
  case true => 
    simp
    refine ⟨[], .sc (.bool false), fun h => (by simp at h), ?_⟩
    simp
    refine ⟨[], .sc (.bool false), fun h => (by simp at h), ?_⟩
    simp
    refine ⟨[], .sc (.int .i64 0), fun h => (by simp at h), ?_⟩
    simp
    exact vcCall_at lives_c (by simp)
  simp
  refine vcCall_at (Large_c b nb) ?_
  simp
  cases hb : b.large
  case true => 
    simp
    refine ⟨[], .sc (.bool false), fun h => (by simp at h), ?_⟩
    simp
    refine ⟨[], .sc (.int .i64 0), fun h => (by simp at h), ?_⟩
    simp
    exact vcCall_at lives_c (by simp)
  simp
  refine vcCall_at (Large_c t nt) ?_
  simp
  cases ht : t.large
  case true => 
    simp
    refine ⟨[], .sc (.int .i64 0), fun h => (by simp at h), ?_⟩
    simp
    exact vcCall_at lives_c (by simp)
  have sa := Tm.large_small ha
  have sb := Tm.large_small hb
  have st := Tm.large_small ht
  simp
  refine vcCall_at (rCheck_c t st) ?_
  simp
  by_cases ct : t.check = 0
  case neg =>
    simp [ct]
    exact vcCall_at lives_c (by simp)
  simp [ct]
  refine vcICall_of (New_c []) ?_
  rintro r X ⟨rfl, hX⟩ _
  have hS : SS X 1 0 2 0 false [] := by rw [hX]; exact SS.new []
  clear hX
  simp
  refine vcCall_at lives_c ?_
  simp [hS.hs]
  have fin : ∀ (r : AV) (Y : St), MQ (V2 a b) [] a b X 1 0 2 r Y → ∃ B g al, SS Y 1 0 2 g al B ∧ OkB B := by
    rintro r Y (⟨_, _, rfl⟩ | ⟨_, rb, B, g, al, _, hY, hal, hok, _, _, _⟩)
    · exact ⟨[], 0, false, hS, OkB_nil⟩
    · exact ⟨B, g, al, by rw [hY]; exact hS.put hal, hok⟩
  refine vcICall_of (Unify_c (V2 a b) (V2_len ha hb) OkB_nil (fun n t h => by cases h) a b sa sb (V2_l a b) (V2_r a b) X 1 0 2 0 false hS) ?_
  intro r Y hQ _
  obtain ⟨B, g, al, hSY, hok⟩ := fin r Y hQ
  clear fin hQ hS
  simp
  refine vcICall_of (Apply_c hok t st Y 1 0 2 g al hSY) ?_
  rintro r Z ⟨rfl, rfl⟩ _
  obtain ⟨u, e, hu⟩ : ∃ u e, appC B t = (u, e) := ⟨_, _, rfl⟩
  simp [appV, hu]
  refine ⟨fun he => ?_, fun he => ?_⟩
  · subst he
    obtain ⟨su, hu2⟩ := stays_ap hok ct hu
    refine vcICall_of (Apply_c hok u su Z 1 0 2 g al hSY) ?_
    rintro r W0 ⟨rfl, rfl⟩ _
    simp [appV, hu2]
    refine vcCall_at (exact_c u u) ?_
    simp
    refine vcICall_of (Undo_c hok 0 _ 1 0 2 g al hSY) ?_
    rintro r W (⟨hu0, _⟩ | ⟨_, _, _, rfl, hW⟩) _
    · exfalso; unfold undoR at hu0; split at hu0 <;> omega
    have hSW : SS W 1 0 2 (g + 1) al [] := by rw [hW]; exact hSY.put (by simp)
    clear hW
    simp
    refine vcICall_of (Len_c W 1 0 2 (g + 1) al hSW) ?_
    rintro r W2 ⟨rfl, rfl⟩ _
    simp
    refine vcICall_of (Apply_c OkB_nil t st W2 1 0 2 (g + 1) al hSW) ?_
    rintro r W3 ⟨rfl, rfl⟩ _
    rw [nil_ap ct]
    simp [appV]
    refine vcCall_at (exact_c t t) ?_
    simp
  · refine vcICall_of (Undo_c hok 0 Z 1 0 2 g al hSY) ?_
    rintro r W (⟨hu0, _⟩ | ⟨_, _, _, rfl, hW⟩) _
    · exfalso; unfold undoR at hu0; split at hu0 <;> omega
    have hSW : SS W 1 0 2 (g + 1) al [] := by rw [hW]; exact hSY.put (by simp)
    clear hW
    simp
    refine vcICall_of (Len_c W 1 0 2 (g + 1) al hSW) ?_
    rintro r W2 ⟨rfl, rfl⟩ _
    simp
    refine vcICall_of (Apply_c OkB_nil t st W2 1 0 2 (g + 1) al hSW) ?_
    rintro r W3 ⟨rfl, rfl⟩ _
    rw [nil_ap ct]
    simp [appV]
    refine vcCall_at (exact_c t t) ?_
    simp
end Go.T1
end

section
open Go Go.Ab Go.Proofs
namespace Go.T1
mutual
theorem cutT_ge (v : Int) : ∀ (t : Tm) (c : Int), c - t.size ≤ (cutT v t c).2 ∧ (cutT v t c).2 ≤ c
  | .mk k n s l, c => by
    have := cutL_ge v l (c - 1)
    simp only [cutT, Tm.size]
    split
    · simp only; omega
    · simp only; omega
theorem cutL_ge (v : Int) : ∀ (l : List Tm) (c : Int), c - Tm.sizeL l ≤ (cutL v l c).2 ∧ (cutL v l c).2 ≤ c
  | [], c => by simp [cutL, Tm.sizeL]
  | t :: ts, c => by
    have h1 := cutT_ge v t c
    have h2 := cutL_ge v ts (cutT v t c).2
    simp only [cutL, Tm.sizeL]; omega
end
theorem cutL_take (v : Int) {l : List Tm} {i : Nat} (h : i < l.length) : ∀ c, (cutL v (l.take (i + 1)) c).1 = (cutL v (l.take i) c).1 ++ [(cutT v l[i] (cutL v (l.take i) c).2).1] ∧ (cutL v (l.take (i + 1)) c).2 = (cutT v l[i] (cutL v (l.take i) c).2).2 := by
  induction l generalizing i with
  | nil => simp at h
  | cons t ts ih =>
    intro c
    cases i with
    | zero => simp [cutL]
    | succ i =>
      have := ih (i := i) (by simpa using h) (cutT v t c).2
      simp only [List.take_succ_cons, cutL, List.getElem_cons_succ]
      refine ⟨?_, this.2⟩
      rw [this.1]; rfl
theorem cutL_len (v : Int) : ∀ (l : List Tm) (c : Int), (cutL v l c).1.length = l.length
  | [], c => rfl
  | t :: ts, c => by simp [cutL, cutL_len v ts]
def cX (st : St) (A : Nat) (c : Int) : St := st.set A (.cells [.sc (.int .i64 c)])
def cFr (N : Nat) (k n : Int) (s : ByteArray) (i : Nat) (al : Bool) (us : List Tm) : St :=
  [.cells [.sc (.int .i64 0), .sc (.int .i64 0), .sc (.string .empty), .nils], .cells [.sc (.int .i64 k), .sc (.int .i64 n), .sc (.string s), .own (N + 2) i], .row 32 i al (Tm.cellsL 32 us)]
def cInv (st : St) (A : Nat) (k n : Int) (s : ByteArray) (l : List Tm) (v c : Int) (i : Nat) (Y : St) : Prop := ∃ al, Y = cX st A (cutL v (l.take i) c).2 ++ cFr st.length k n s i al (cutL v (l.take i) c).1
set_option maxRecDepth 100000 in
theorem cut_c (m : Int) : ∀ (K : Nat) (t : Tm), t.size = K → ∀ (c : Int) (st : St) (A : Nat), t.size ≤ 900000000 → c ≤ 1000000000 → -1000000000 ≤ c - t.size → st[A]? = some (.cells [.sc (.int .i64 c)]) →
    ICall T Try.prog 26 [t.av 32, .ptr A 0, .sc (.int .i64 m)] st (fun r st' => r = (cutT (cutV m) t c).1.av 32 ∧ st' = cX st A (cutT (cutV m) t c).2) := by
  intro K
  induction K using Nat.strongRecOn with
  | _ K ih =>
  rintro ⟨k, n, s, l⟩ hK c st A hsz hc1 hc2 hA
  have hlt := lt_of_get hA
  refine ICall.of_vc hT [6, 7] [(8, 9)] follows Try.call26 Try.func26 rfl (by kernel_rfl) fun hfix => ?_
  unfold Try.f26
  simp only [Tm.size] at hsz hc2
  have hX : ∀ q, (cX st A q).length = st.length := fun q => by simp [cX]
  have gA : ∀ q, (cX st A q)[A]? = some (.cells [.sc (.int .i64 q)]) := fun q => get_set hA
  have gl := fun (q : Int) l => get_app (gA q) l
  have q0 := fun (q : Int) x l => ap0 (hX q) x l
  have q1 := fun (q : Int) x y l => ap1 (hX q) x y l
  have q2 := fun (q : Int) x y z l => ap2 (hX q) x y z l
  have z0 := fun (q : Int) x y l => as0 (hX q) x y l
  have z1 := fun (q : Int) x y z l => as1 (hX q) x y z l
  have z2 := fun (q : Int) x y z w l => as2 (hX q) x y z w l
  have eX : ∀ q b, (cX st A q).set A b = st.set A b := fun q b => by unfold cX; rw [List.set_set]
  have g1 := get_app hA
  have s1 : ∀ (q : Int) (l : St), List.set (st ++ l) A (.cells [.sc (.int .i64 q)]) = cX st A q ++ l := fun q l => set_app hA l
  have sX : ∀ (q r : Int) (l : St), List.set (cX st A q ++ l) A (.cells [.sc (.int .i64 r)]) = cX st A r ++ l := fun q r l => by rw [set_app (gA q), eX]; rfl
  have cc : ∀ q, st.set A (.cells [.sc (.int .i64 q)]) = cX st A q := fun q => rfl
  have hv := cutV_range m
  have fixX : ∀ q, Fix (cX st A q) := fun q => fix_set hfix A fun N S _ => by simp [cut_cells, AV.cutL, AV.cut]
  simp [g1, s1, Tm.cells, gl]
  refine ⟨by unfold i64ok; omega, fun h0 => ?_, fun h0 => ?_⟩
  · have e1 : (40000 + (m.tmod 100 + 100).tmod 100) = cutV m := rfl
    rw [e1]
    unfold cutV at hv
    have h1 := Int.tmod_lt_of_pos m (b := 100) (by omega)
    have h2 : -100 < m.tmod 100 := Int.lt_tmod_of_pos m (b := 100) (by omega)
    refine ⟨by unfold i64ok; omega, by unfold i64ok cutV; omega, vcCall_at (rVar_c (cutV m)) ?_⟩
    simp [q0, z0]
    have e2 : cutT (cutV m) (Tm.mk k n s l) c = (Tm.var (cutV m), c - 1) := by simp only [cutT]; rw [if_pos h0]
    refine endP_mk ((Tm.var (cutV m)).av 32) (by simp [q0]) (by simp [q0, Tm.var, Tm.cells]) ⟨by rw [e2], ?_⟩
    rw [e2]
    exact ((Pre.refl _).app _).cut (fixX _) (hX _).symm
  have e2 : cutT (cutV m) (Tm.mk k n s l) c = (Tm.mk k n s (cutL (cutV m) l (c - 1)).1, (cutL (cutV m) l (c - 1)).2) := by simp only [cutT]; rw [if_neg h0]
  simp [q0, q1, q2, z1, z2, hX, Nat.add_assoc]
  refine vcC_loop [(32, .cell (st.length + 1) 3)] (fun w σ Y => ∃ (i : Nat), w = l.length - i ∧ i ≤ l.length ∧ cInv st A k n s l (cutV m) (c - 1) i Y ∧ σ 1 = .ptr A 0 ∧ σ 2 = .sc (.int .i64 m) ∧ σ 3 = .eptr ((Tm.mk k n s l).cells 32) ∧ σ 6 = .ptr st.length 0 ∧ σ 7 = .ptr (st.length + 1) 0 ∧ σ 8 = .sc (.int .i64 i)) l.length ?_ ?_
  · simp [q0, q1, q2, z1, hX, Nat.add_assoc]
    exact ⟨0, by simp, by simp, ⟨false, by simp [cFr, cutL, Tm.cellsL]⟩, by simp [Tm.cells]⟩
  rintro w σ Y ⟨i, rfl, hi, ⟨al', rfl⟩, s1', s2', s3', s6', s7', s8'⟩
  have hg := cutL_ge (cutV m) (l.take i) (c - 1)
  have hle : Tm.sizeL (l.take i) ≤ Tm.sizeL l := by
    conv => rhs; rw [← List.take_append_drop i l, Tm.sizeL_append]
    omega
  rcases Nat.lt_or_ge i l.length with hlt' | hge
  · have hle2 : Tm.sizeL (l.take i) + l[i].size ≤ Tm.sizeL l := by
      conv => rhs; rw [← List.take_append_drop (i + 1) l, Tm.sizeL_append, List.take_add_one, List.getElem?_eq_getElem hlt', Tm.sizeL_append]
      simp [Tm.sizeL]
    obtain ⟨t1, t2⟩ := cutL_take (cutV m) hlt' (c - 1)
    have hcall := ih l[i].size (by rw [← hK]; simp only [Tm.size]; omega) l[i] rfl (cutL (cutV m) (l.take i) (c - 1)).2 (cX st A (cutL (cutV m) (l.take i) (c - 1)).2 ++ cFr st.length k n s i al' (cutL (cutV m) (l.take i) (c - 1)).1) A (by omega) (by omega) (by omega) (gl _ _)
    simp [s1', s2', s3', s6', s7', s8', q0, q1, q2, cFr, Tm.cells, hlt']
    intro hb1 hb2
    refine ⟨fun r Z => r = (cutT (cutV m) l[i] (cutL (cutV m) (l.take i) (c - 1)).2).1.av 32 ∧ Z = cX st A (cutT (cutV m) l[i] (cutL (cutV m) (l.take i) (c - 1)).2).2 ++ cFr st.length k n s i al' (cutL (cutV m) (l.take i) (c - 1)).1, ?_⟩
    simp (decide := true) [s1', s2', s3', s6', s7', s8', q0, q1, q2, cFr, Tm.cells, hlt']
    refine ⟨by rintro r st' ⟨rfl, rfl⟩; simp (decide := true) [s1', s2', s3', s6', s7', s8', q0, q1, q2, cFr, Tm.cells, hlt'], ?_⟩; simp (decide := true) [s1', s2', s3', s6', s7', s8', q0, q1, q2, cFr, Tm.cells, hlt']
    refine ⟨by rintro r st' ⟨rfl, rfl⟩; simp (decide := true) [s1', s2', s3', s6', s7', s8', q0, q1, q2, cFr, Tm.cells, hlt'], ?_⟩; simp (decide := true) [s1', s2', s3', s6', s7', s8', q0, q1, q2, cFr, Tm.cells, hlt']
    refine ⟨by simp, rfl, by simp [vcI]; exact hcall.mono fun r st' ⟨h1, h2⟩ => ⟨h1, by rw [h2]; show List.set _ A _ = _; rw [sX]; rfl⟩, ?_⟩
    rintro r st' ⟨rfl, rfl⟩ _
    simp (decide := true) [s1', s2', s3', s6', s7', s8', q0, q1, q2, cFr, Tm.cells, hlt', z1, z2]
    rw [cutL_len]
    refine ⟨by simp; omega, by unfold i64ok; omega, l.length - (i + 1), by omega, i + 1, rfl, by omega, ⟨true, ?_⟩, by omega⟩
    rw [t1, t2]
    simp [cFr, Tm.cellsL]
  · obtain rfl : i = l.length := by omega
    rw [List.take_length]
    simp [s1', s2', s3', s6', s7', s8', q0, q1, q2, cFr, Tm.cells, z0]
    intro _ _
    refine endP_mk ((Tm.mk k n s (cutL (cutV m) l (c - 1)).1).av 32) (by simp [s6', q0]) ?_ ⟨by rw [e2], ?_⟩
    · simp [s6', q0, q2, Tm.cells]; rw [if_neg (by omega)]; simp
    · rw [e2]
      exact ((Pre.refl _).app _).cut (fixX _) (hX _).symm
end Go.T1
end

section
open Go Go.Ab Go.Proofs
namespace Go.T1
mutual
theorem size_sub_le (f : Int → Tm) (M : Nat) (hM : 1 ≤ M) (hf : ∀ n, (f n).size ≤ M) : ∀ t : Tm, (t.sub f).size ≤ t.size * M
  | .mk k n s l => by
    have := sizeL_sub_le' f M hM hf l
    have hn := hf n
    by_cases hk : k = 1
    · simp only [Tm.sub, hk, if_true, Tm.size]
      have : M ≤ (1 + Tm.sizeL l) * M := Nat.le_mul_of_pos_left _ (by omega)
      omega
    · simp only [Tm.sub, if_neg hk, Tm.size, Nat.add_mul]
      omega
theorem sizeL_sub_le' (f : Int → Tm) (M : Nat) (hM : 1 ≤ M) (hf : ∀ n, (f n).size ≤ M) : ∀ l : List Tm, Tm.sizeL (Tm.subL f l) ≤ Tm.sizeL l * M
  | [] => by simp [Tm.subL, Tm.sizeL]
  | t :: ts => by
    have h1 := size_sub_le f M hM hf t
    have h2 := sizeL_sub_le' f M hM hf ts
    simp only [Tm.subL, Tm.sizeL, Nat.add_mul]; omega
end
theorem repF_size {w : List Tm} (n : Int) (h : ∀ x ∈ w, x.size ≤ 4096) : (repF w n).size ≤ 4096 := by
  unfold repF
  split
  · exact h _ (List.getElem_mem _)
  · simp [Tm.var, Tm.size, Tm.sizeL]
theorem sizeL_check : ∀ {l : List Tm}, (∀ x ∈ l, x.check = 0) → Tm.sizeL l ≤ l.length * 4096
  | [], _ => by simp [Tm.sizeL]
  | x :: l, h => by
    have h1 := (check_zero (h x (List.mem_cons_self ..))).2.2
    have h2 := sizeL_check (l := l) fun y hy => h y (List.mem_cons_of_mem _ hy)
    simp only [Tm.sizeL, List.length_cons]; omega
def wOk (w : List Tm) : Prop := ∀ x ∈ w, x.check = 0 ∧ x.vars [] = []
def vOk (l : List Int) : Prop := ∀ m ∈ l, ¬ (40000 ≤ m ∧ m < 40100)
set_option maxRecDepth 100000 in
set_option maxHeartbeats 4000000 in
theorem SubstFinds_c (a : Tm) (w : List Tm) (p n : Int) (na : a.nice) (nw : Tm.niceL w) : PureCall T Try.prog 5 [a.av 32, .lst 32 (Tm.cellsL 32 w), .sc (.int .i64 p), .sc (.int .i64 n)] (.sc (.bool true)) := by
  refine PureCall.of_vc hT [6] [(21, 2), (22, 2)] follows Try.call5 Try.func5 rfl (drawsOk_of3 (by kernel_rfl)) (by simp [AV.pure, AV.pureL]) (by simp [AV.pure]) ?_
  unfold Try.f5
  simp [cond_t, cond_f, -vcC_cond]
  refine vcCall_at (Large_c a na) ?_
  simp
  cases ha : a.large
  case true =>
    simp
    exact vcCall_at lives_c (by simp)
  simp
  intro hb1 hb2
  refine ⟨fun hlen => vcCall_at lives_c (by simp), fun hlen => ?_⟩
  refine vcC_loop [] (fun m σ st => ∃ i : Nat, m = w.length - i ∧ i ≤ w.length ∧ wOk (w.take i) ∧ σ 1 = .lst 32 (Tm.cellsL 32 w) ∧ σ 3 = .sc (.int .i64 n) ∧ σ 4 = .eptr (a.cells 32) ∧ σ 6 = .ptr 0 0 ∧ σ 9 = .sc (.int .i64 (1 + Tm.sizeL (w.take i))) ∧ σ 10 = .sc (.int .i64 i) ∧ st = [.cells [.sc (.int .i64 p)]]) w.length ?_ ?_
  · simp
    exact ⟨0, by simp, by simp, by simp [wOk], by simp [Tm.sizeL], by simp⟩
  rintro m σ st ⟨i, rfl, hi, hok, s1, s3, s4, s6, s9, s10, rfl⟩
  rcases Nat.lt_or_ge i w.length with hlt | hge
  · simp [s1, s3, s4, s6, s9, s10, hlt]
    intro _ _
    have nwi : w[i].nice := Tm.niceL_mem nw _ (List.getElem_mem hlt)
    refine vcCall_at (Large_c w[i] nwi) ?_
    simp [s1, s3, s4, s6, s9, s10, hlt]
    cases hl : w[i].large
    case true =>
      simp [s1, s3, s4, s6, s9, s10, hlt]
      refine ⟨[], [], .sc (.int .i64 0), fun h => (by simp at h), ?_⟩
      simp [s1, s3, s4, s6, s9, s10, hlt]
      refine ⟨[], [], .lst 3 [], fun h => (by simp at h), ?_⟩
      simp [s1, s3, s4, s6, s9, s10, hlt]
      exact vcCall_at lives_c (by simp)
    simp [s1, s3, s4, s6, s9, s10, hlt]
    have sw := Tm.large_small hl
    refine vcCall_at (rCheck_c w[i] sw) ?_
    simp [s1, s3, s4, s6, s9, s10, hlt]
    by_cases hc : w[i].check = 0
    case neg =>
      simp [s1, s3, s4, s6, s9, s10, hlt, hc]
      refine ⟨[], [], .lst 3 [], fun h => (by simp at h), ?_⟩
      simp [s1, s3, s4, s6, s9, s10, hlt, hc]
      exact vcCall_at lives_c (by simp)
    simp [s1, s3, s4, s6, s9, s10, hlt, hc]
    refine vcCall_at (rVars_c w[i] sw) ?_
    simp [s1, s3, s4, s6, s9, s10, hlt, hc]
    intro _ _
    refine ⟨fun hv => vcCall_at lives_c (by simp), fun hv => ?_⟩
    refine vcCall_at (rSize_c w[i] sw) ?_
    simp [s1, s3, s4, s6, s9, s10, hlt, hc]
    have hsum := sizeL_check (l := w.take i) fun x hx => (hok x hx).1
    rw [List.length_take, Nat.min_eq_left hi] at hsum
    have hci := (check_zero hc).2.2
    refine ⟨by unfold i64ok; omega, by unfold i64ok; omega, w.length - (i + 1), by omega, i + 1, rfl, by omega, ?_, ?_, by omega⟩
    · rw [List.take_add_one, List.getElem?_eq_getElem hlt]
      intro x hx
      rcases List.mem_append.1 hx with hx | hx
      · exact hok x hx
      · simp at hx
        subst hx
        exact ⟨hc, by simpa using hv⟩
    · rw [List.take_add_one, List.getElem?_eq_getElem hlt, Tm.sizeL_append]
      simp [Tm.sizeL]; omega
  · simp [s1, s3, s4, s6, s9, s10, Nat.not_lt.2 hge]
    intro _ _
    have hie : i = w.length := by omega
    subst hie
    rw [List.take_length] at s9 hok
    have sa := Tm.large_small ha
    have hsum := sizeL_check fun x hx => (hok x hx).1
    refine vcCall_at (rCheck_c a sa) ?_
    simp [s1, s3, s4, s6, s9]
    by_cases ca : a.check = 0
    case neg =>
      simp [ca]
      refine ⟨[], .sc (.int .i64 0), fun h => (by cases h), ?_⟩
      simp [s9]
      exact vcCall_at lives_c (by simp)
    simp [ca, s4, s9]
    obtain ⟨ra, _, za⟩ := check_zero ca
    refine vcCall_at (rSize_c a sa) ?_
    simp [s1, s3, s4, s6, s9]
    have hmul : a.size * (1 + Tm.sizeL w) ≤ 167776256 := Nat.le_trans (Nat.mul_le_mul za (show 1 + Tm.sizeL w ≤ 40961 by omega)) (show 4096 * 40961 ≤ 167776256 by decide)
    have hmul' : (a.size : Int) * (1 + (Tm.sizeL w : Int)) ≤ 167776256 := by
      have h9 : ((a.size * (1 + Tm.sizeL w) : Nat) : Int) = (a.size : Int) * (1 + (Tm.sizeL w : Int)) := by rw [Int.natCast_mul, Int.natCast_add]; rfl
      rw [← h9]
      exact Int.ofNat_le.2 hmul
    have hmul0 : 0 ≤ (a.size : Int) * (1 + (Tm.sizeL w : Int)) := Int.mul_nonneg (by omega) (by omega)
    generalize (a.size : Int) * (1 + (Tm.sizeL w : Int)) = q at *
    refine ⟨by unfold i64ok; omega, fun hq => ?_, fun hle => ?_⟩
    · exact vcCall_at lives_c (by simp)
    refine vcCall_at (rReplace_c w a ra) ?_
    simp [s1, s3, s4, s6, s9]
    refine vcCall_at (rVars_c a sa) ?_
    simp [s1, s3, s4, s6, s9]
    have sb : (a.sub (repF w)).small := by
      have := size_sub_le (repF w) 4096 (by omega) (fun m => repF_size m fun x hx => (check_zero (hok x hx).1).2.2) a
      have h2 : a.size * 4096 ≤ 4096 * 4096 := Nat.mul_le_mul_right _ za
      unfold Tm.small; omega
    generalize hbE : a.sub (repF w) = b at *
    refine vcC_loop [] (fun m σ st => ∃ i : Nat, m = (a.vars []).length - i ∧ i ≤ (a.vars []).length ∧ vOk ((a.vars []).take i) ∧ σ 3 = .sc (.int .i64 n) ∧ σ 4 = .eptr (a.cells 32) ∧ σ 6 = .ptr 0 0 ∧ σ 11 = .eptr (b.cells 32) ∧ σ 12 = .lst 3 (intsL (a.vars [])) ∧ σ 13 = .sc (.int .i64 i) ∧ st = [.cells [.sc (.int .i64 p)]]) (a.vars []).length ?_ ?_
    · simp [s3, s4, s6]
      exact ⟨0, by simp, by simp, by simp [vOk], by simp⟩
    rintro m σ' st ⟨i, rfl, hi, hvok, s3, s4, s6, s11, s12, s13, rfl⟩
    rcases Nat.lt_or_ge i (a.vars []).length with hlt | hge
    · by_cases h4 : 40000 ≤ (a.vars [])[i]
      · simp [s3, s4, s6, s11, s12, s13, hlt, h4]
        intro _ _
        refine ⟨fun _ => vcCall_at lives_c (by simp), fun h5 => ⟨by unfold i64ok; omega, (a.vars []).length - (i + 1), by omega, i + 1, rfl, by omega, ?_, by omega⟩⟩
        rw [List.take_add_one, List.getElem?_eq_getElem hlt]
        intro x hx
        rcases List.mem_append.1 hx with hx | hx
        · exact hvok x hx
        · simp at hx
          subst hx
          omega
      · simp [s3, s4, s6, s11, s12, s13, hlt, h4]
        intro _ _
        refine ⟨[.sc (.int .i64 0)], by simp, ?_⟩
        simp [s3, s4, s6, s11, s12, s13]
        refine ⟨by unfold i64ok; omega, (a.vars []).length - (i + 1), by omega, i + 1, rfl, by omega, ?_, by omega⟩
        rw [List.take_add_one, List.getElem?_eq_getElem hlt]
        intro x hx
        rcases List.mem_append.1 hx with hx | hx
        · exact hvok x hx
        · simp at hx
          subst hx
          omega
    · have hie : i = (a.vars []).length := by omega
      subst hie
      rw [List.take_length] at hvok
      simp [s3, s4, s6, s11, s12, s13]
      intro _ _
      refine vcCall_at (rCheck_c b sb) ?_
      simp [s3, s4, s6, s11]
      by_cases cb : b.check = 0
      case neg =>
        simp [cb]
        exact vcCall_at lives_c (by simp)
      simp [cb, s3, s4, s6, s11]
      refine ⟨fun _ => vcCall_at lives_c (by simp), fun hp0 hp1 => ?_⟩
      obtain ⟨rb, db, zb⟩ := check_zero cb
      refine vcICall_of (cut_c n b.size b rfl p [.cells [.sc (.int .i64 p)]] 0 (by omega) (by omega) (by omega) rfl) ?_
      rintro r X ⟨rfl, rfl⟩ _
      simp [s3, s4, s6, s11]
      obtain ⟨v1, v2⟩ := cutV_range n
      obtain ⟨cr, cz, cd⟩ := cutT_like (v := cutV n) (by omega) b p rb
      have hf := fun r => finds (a := a) (w := w) (at' := p) (n := n) (r := r) ca hok (by rw [hbE]; exact cb) (by omega) hvok
      rw [hbE] at hf
      generalize (cutT (cutV n) b p).1 = d at *
      have dc : d.check = 0 := right_size_check cr (by omega) (by omega)
      have hV : (V2 a d).length ≤ 1000000000 := by
        have h1 := occ_len a
        have h2 := occ_len d
        simp only [V2, List.length_append]; omega
      generalize cX [Blk.cells [AV.sc (Value.int IntKind.i64 p)]] 0 (cutT (cutV n) b p).snd = Z
      refine vcICall_of (PUnify_c (V2 a d) hV a d sa (check_small dc) (V2_l a d) (V2_r a d) Z) ?_
      rintro r X (⟨hm, _⟩ | ⟨hm, rq, B, g, al, rfl, hX, hal, hok2, hin, hy, hn⟩) _
      · exact absurd (by simp [mayE, ca, dc]) hm
      cases rq with
      | false => obtain ⟨B', e⟩ := hf _ (hn rfl).1; cases e
      | true =>
        simp
        refine vcCall_at lives_c ?_
        have hS : SS X (Z.length + 1) Z.length (Z.length + 2) g al B := by rw [hX]; exact (SS.new Z).put hal
        simp [hS.hs]
end Go.T1
end

section
open Go Go.Ab Go.Proofs
namespace Go.T1
def Opn.big (o : Opn) : Bool := o.a.large || o.b.large
def Opn.nice (o : Opn) : Prop := o.a.nice ∧ o.b.nice
def sizeO (l : List Opn) : Nat := (l.map fun o => o.a.size + o.b.size).sum
def largeO (l : List Opn) : Bool := (l.take 20).any Opn.big || decide (5000 < sizeO (l.take 20))
theorem opsL_len (l : List Opn) : (opsL l).length = l.length := by simp [opsL]
theorem opsL_get (l : List Opn) (i : Nat) (h : i < (opsL l).length) : (opsL l)[i] = (l[i]'(by simpa [opsL] using h)).cells := by simp [opsL]
@[simp] theorem Opn.cells_len (o : Opn) : o.cells.length = 10 := by simp [Opn.cells]
@[simp] theorem opsL_pure : ∀ l : List Opn, AV.pureM (opsL l) = true
  | [] => rfl
  | x :: xs => by have := opsL_pure xs; simp only [opsL, List.map_cons, AV.pureM, Opn.cells_pure, Bool.true_and] at this ⊢; exact this
theorem sizeO_take {l : List Opn} {i : Nat} (h : i < l.length) : sizeO (l.take (i + 1)) = sizeO (l.take i) + (l[i].a.size + l[i].b.size) := by
  unfold sizeO; rw [List.take_add_one, List.getElem?_eq_getElem h, List.map_append, List.sum_append]; simp
theorem any_take1 {p : Opn → Bool} {l : List Opn} {i : Nat} (h : i < l.length) : (l.take (i + 1)).any p = ((l.take i).any p || p l[i]) := by
  rw [List.take_add_one, List.getElem?_eq_getElem h, List.any_append]; simp
theorem any_of_take {p : Opn → Bool} {l : List Opn} {i k : Nat} (h : i < l.length) (hk : i < k) (hp : p l[i] = true) : (l.take k).any p = true := by
  rw [List.any_eq_true]
  exact ⟨l[i], List.mem_iff_getElem.2 ⟨i, by simp; omega, by simp⟩, hp⟩
def noBig (l : List Opn) : Prop := l.any Opn.big = false
set_option maxRecDepth 100000 in
set_option maxHeartbeats 4000000 in
theorem large_c' (l : List Opn) (hn : ∀ o ∈ l, o.nice) : PureCall T Try.prog 9 [.lst 34 (opsL l)] (.sc (.bool (largeO l))) := by
  generalize hr : largeO l = r
  refine PureCall.of_vc hT [] [] follows Try.call9 Try.func9 rfl (drawsOk_of3 (by kernel_rfl)) (by simp [AV.pure, AV.pureL]) (by simp [AV.pure]) ?_
  unfold Try.f9
  simp
  refine vcC_loop [] (fun m σ st => ∃ i : Nat, m = l.length - i ∧ i ≤ l.length ∧ i ≤ 20 ∧ noBig (l.take i) ∧ sizeO (l.take i) ≤ 12000 * i ∧ σ 0 = .lst 34 (opsL l) ∧ σ 3 = .sc (.int .i64 (sizeO (l.take i))) ∧ σ 4 = .sc (.int .i64 i) ∧ st = []) l.length ⟨0, by simp [sizeO, noBig]⟩ ?_
  rintro m σ st ⟨i, rfl, hi, hi20, hno, hsz, s0, s3, s4, rfl⟩
  by_cases hc : i < l.length ∧ i < 20
  · obtain ⟨hlt, h20⟩ := hc
    have hlt2 : i < (opsL l).length := by rw [opsL_len]; exact hlt
    have no := hn l[i] (List.getElem_mem hlt)
    have h20' : (i : Int) < 20 := by omega
    simp [s0, s3, s4, hlt, opsL_len, opsL_get, hlt2, h20', Opn.cells]
    intro _ _
    refine vcCall_at (Large_c l[i].a no.1) ?_
    simp [s0, s3, s4, hlt, opsL_len, opsL_get, hlt2, h20', Opn.cells]
    cases ha : l[i].a.large
    case true =>
      simp [s0, s3, s4, hlt, opsL_len, opsL_get, hlt2, h20', Opn.cells]
      refine ⟨[], [], .sc (.bool false), fun h => (by cases h), ?_⟩
      simp [s0, s3, s4, hlt, opsL_len, opsL_get, hlt2, h20', Opn.cells]
      have := any_of_take (p := Opn.big) hlt h20 (by simp [Opn.big, ha])
      rw [← hr]
      simp [largeO, this]
    simp [s0, s3, s4, hlt, opsL_len, opsL_get, hlt2, h20', Opn.cells]
    refine vcCall_at (Large_c l[i].b no.2) ?_
    simp [s0, s3, s4, hlt, opsL_len, opsL_get, hlt2, h20', Opn.cells]
    cases hb : l[i].b.large
    case true =>
      simp [s0, s3, s4, hlt, opsL_len, opsL_get, hlt2, h20', Opn.cells]
      have := any_of_take (p := Opn.big) hlt h20 (by simp [Opn.big, hb])
      rw [← hr]
      simp [largeO, this]
    simp [s0, s3, s4, hlt, opsL_len, opsL_get, hlt2, h20', Opn.cells]
    have sa := Tm.large_small ha
    have sb := Tm.large_small hb
    have za := Tm.large_size ha
    have zb := Tm.large_size hb
    refine vcCall_at (rSize_c l[i].a sa) ?_
    simp [s0, s3, s4, hlt, opsL_len, opsL_get, hlt2, h20', Opn.cells]
    refine ⟨by unfold i64ok; omega, ?_⟩
    refine vcCall_at (rSize_c l[i].b sb) ?_
    simp [s0, s3, s4, hlt, opsL_len, opsL_get, hlt2, h20', Opn.cells]
    refine ⟨by unfold i64ok; omega, by unfold i64ok; omega, l.length - (i + 1), by omega, i + 1, rfl, by omega, by omega, ?_, ?_, ?_, by omega⟩
    · have h3 : noBig (l.take i) := hno
      unfold noBig at h3 ⊢
      rw [any_take1 hlt, h3]
      simp [Opn.big, ha, hb]
    · rw [sizeO_take hlt]; omega
    · rw [sizeO_take hlt]; omega
  · by_cases hlt : i < l.length
    · have h20 : ¬ (i : Int) < 20 := by omega
      simp [s0, s3, s4, opsL_len, hlt, h20]
      intro _ _
      obtain rfl : i = 20 := by omega
      rw [← hr]
      unfold noBig at hno
      simp [largeO, hno]
      omega
    · simp [s0, s3, s4, opsL_len, hlt]
      intro _ _
      obtain rfl : i = l.length := by omega
      rw [← hr]
      unfold noBig at hno
      unfold largeO
      rw [List.take_length] at hno ⊢
      rw [List.take_of_length_le hi20, hno]
      simp
      omega
end Go.T1
end

section
open Go Go.Ab Go.Proofs
namespace Go.T1
@[simp] theorem Opn.cells_take (o : Opn) : o.cells.take 10 = o.cells := List.take_of_length_le (by simp)
theorem keys_get (B : Bs) (k : Nat) (h : k < (keys B).length) : (keys B)[k] = (B[k]'(by simpa [keys] using h)).1 := by simp [keys]
theorem bindsL_get (B : Bs) (k : Nat) (h : k < (bindsL B).length) : (bindsL B)[k] = .sc (.int .i64 (B[k]'(by simpa [bindsL] using h)).1) :: (B[k]'(by simpa [bindsL] using h)).2.cells 32 := by simp [bindsL]
/-- The variables of all. -/
def VO : List Opn → List Int
  | [] => []
  | o :: os => V2 o.a o.b ++ VO os
theorem VO_mem : ∀ {l : List Opn} {o : Opn}, o ∈ l → inV (VO l) o.a ∧ inV (VO l) o.b
  | x :: l, o, h => by
    rcases List.mem_cons.1 h with rfl | h
    · exact ⟨fun n hn => List.mem_append.2 (.inl (V2_l _ _ n hn)), fun n hn => List.mem_append.2 (.inl (V2_r _ _ n hn))⟩
    · have := VO_mem h
      exact ⟨fun n hn => List.mem_append.2 (.inr (this.1 n hn)), fun n hn => List.mem_append.2 (.inr (this.2 n hn))⟩
theorem VO_len : ∀ l : List Opn, (VO l).length ≤ sizeO l
  | [] => Nat.le_refl _
  | o :: os => by
    have h1 := occ_len o.a
    have h2 := occ_len o.b
    have h3 := VO_len os
    simp only [VO, V2, List.length_append, sizeO, List.map_cons, List.sum_cons] at h3 ⊢; omega
theorem largeO_false {l : List Opn} (h : largeO l = false) : (∀ i (hi : i < l.length), i < 20 → l[i].a.large = false ∧ l[i].b.large = false) ∧ (VO (l.take 20)).length ≤ 5000 := by
  unfold largeO at h
  simp only [Bool.or_eq_false_iff, decide_eq_false_iff_not] at h
  refine ⟨fun i hi h20 => ?_, ?_⟩
  · have : Opn.big l[i] = false := by
      cases hb : Opn.big l[i] with
      | false => rfl
      | true => rw [any_of_take hi h20 hb] at h; exact absurd h.1 (by simp)
    simpa [Opn.big] using this
  · have := VO_len (l.take 20); omega
def dInv (V : List Int) (Y : St) (B : Bs) : Prop := ∃ g al g2 al2, DS Y 1 0 2 g al 4 3 5 g2 al2 B ∧ BOk V B
theorem DS.new : DS (newSt 0 ++ rNewSt 3) 1 0 2 0 false 4 3 5 0 false [] :=
  ⟨(SS.new []).app _, RS.new (newSt 0), by omega, by omega, by omega, by omega, by omega, by omega, by omega, by omega, by omega⟩
theorem look_at {B : Bs} (h : OkB B) {k : Nat} (hk : k < B.length) : lookB B B[k].1 = some B[k].2 := look_of_mem (OkB_nodup h) (List.getElem_mem hk)
set_option maxRecDepth 100000 in
set_option maxHeartbeats 4000000 in
theorem SubstDoes_c (l : List Opn) (hn : ∀ o ∈ l, o.nice) : PureCall T Try.prog 3 [.lst 34 (opsL l)] (.sc (.bool true)) := by
  refine PureCall.of_vc hT [] ([(3, 0), (3, 1), (9, 6), (9, 10), (11, 1), (17, 5)] ++ [0, 1, 2, 3, 4, 5, 7006, 7, 8, 9, 11, 12, 13, 14, 15, 10, 16, 17].map (Prod.mk 200009)) follows Try.call3 Try.func3 rfl (drawsOk_of3 (by kernel_rfl)) (by simp [AV.pure, AV.pureL]) (by simp [AV.pure]) ?_
  unfold Try.f3
  simp [cond_t, cond_f, -vcC_cond]
  refine vcCall_at (large_c' l hn) ?_
  simp
  cases hl : largeO l
  case true =>
    simp
    exact vcCall_at lives_c (by simp)
  obtain ⟨hno, hV⟩ := largeO_false hl
  simp
  refine vcICall_of (New_c []) ?_
  rintro r X ⟨rfl, hX⟩ _
  simp
  refine vcICall_of (rNew_c X) ?_
  rintro r Y ⟨rfl, hY⟩ _
  have e3 : X.length = 3 := by rw [hX]; rfl
  have hD : DS Y 1 0 2 0 false 4 3 5 0 false [] := by
    rw [hY, hX]; exact DS.new
  have hI : dInv (VO (l.take 20)) Y [] := ⟨0, false, 0, false, hD, ⟨OkB_nil, (fun n t h => by cases h), (fun n t h => by cases h)⟩⟩
  rw [e3]
  clear hX hY
  simp [hD.ss.hs]
  refine vcCall_at lives_c ?_
  simp [hD.ss.hs]
  clear hD
  refine vcC_loop [] (fun m σ st => ∃ (i : Nat) (B : Bs), m = l.length - i ∧ i ≤ l.length ∧ dInv (VO (l.take 20)) st B ∧ σ 0 = .lst 34 (opsL l) ∧ σ 3 = .ptr 1 0 ∧ σ 4 = .ptr 4 0 ∧ σ 5 = .sc (.int .i64 i)) l.length ⟨0, [], by simp [hI]⟩ ?_
  rintro m σ st ⟨i, B, rfl, hi, ⟨g, al, g2, al2, hD, hok⟩, s0, s3, s4, s5⟩
  clear hI
  by_cases hlt : i < l.length
  case neg =>
    simp [s0, s3, s4, s5, opsL_len, hlt]
  by_cases h20 : (i : Int) < 20
  case neg =>
    simp [s0, s3, s4, s5, opsL_len, hlt, h20]
  have hlt2 : i < (opsL l).length := by rw [opsL_len]; exact hlt
  simp [s0, s3, s4, s5, opsL_len, hlt, h20]
  intro _ _
  obtain ⟨na, nb⟩ := hno i hlt (by omega)
  have hmem : l[i] ∈ l.take 20 := List.mem_iff_getElem.2 ⟨i, by simp; omega, by simp⟩
  obtain ⟨va, vb⟩ := VO_mem hmem
  refine ⟨fun _ _ _ => True, ?_⟩
  simp (decide := true) [s0, s3, s4, s5, opsL_len, opsL_get, hlt2, hlt]
  refine ⟨by simp (decide := true) [s0, s3, s4, s5, opsL_len, opsL_get, hlt2, hlt], ?_⟩; simp (decide := true) [s0, s3, s4, s5, opsL_len, opsL_get, hlt2, hlt]
  refine ⟨by simp (decide := true) [s0, s3, s4, s5, opsL_len, opsL_get, hlt2, hlt], ?_⟩; simp (decide := true) [s0, s3, s4, s5, opsL_len, opsL_get, hlt2, hlt]
  refine ⟨by simp (decide := true) [s0, s3, s4, s5, opsL_len, opsL_get, hlt2, hlt], ?_⟩; simp (decide := true) [s0, s3, s4, s5, opsL_len, opsL_get, hlt2, hlt]
  refine ⟨by simp (decide := true) [s0, s3, s4, s5, opsL_len, opsL_get, hlt2, hlt], ?_⟩; simp (decide := true) [s0, s3, s4, s5, opsL_len, opsL_get, hlt2, hlt]
  refine ⟨by simp (decide := true) [s0, s3, s4, s5, opsL_len, opsL_get, hlt2, hlt], ?_⟩; simp (decide := true) [s0, s3, s4, s5, opsL_len, opsL_get, hlt2, hlt]
  refine ⟨by simp (decide := true) [s0, s3, s4, s5, opsL_len, opsL_get, hlt2, hlt], ?_⟩; simp (decide := true) [s0, s3, s4, s5, opsL_len, opsL_get, hlt2, hlt]
  have hdo := do_c (VO (l.take 20)) (by omega) l[i] (Tm.large_small na) (Tm.large_small nb) va vb hok st 1 0 2 g 4 3 5 g2 al al2 hD
  refine vcThenQ_of _ rfl (by simp) rfl (by simp [vcI]; exact hdo) (fun _ _ _ => trivial) ?_
  rintro r Y ⟨rfl, B', g', al', g2', al2', hY, h1, h2, hok'⟩ _
  have hD' : DS Y 1 0 2 g' al' 4 3 5 g2' al2' B' := by rw [hY]; exact hD.put h1 h2
  clear hY hdo hD hok
  refine ⟨fun _ _ Z => Z = Y, fun _ _ _ _ => trivial, ?_⟩
  have gx := hD'.rs.hx
  have gL := hD'.rs.hL
  simp (decide := true) [s0, s3, s4, s5, opsL_len, opsL_get, hlt2, hlt, gx, gL]
  refine ⟨by simp (decide := true) [s0, s3, s4, s5, opsL_len, opsL_get, hlt2, hlt, gx, gL], ?_⟩; simp (decide := true) [s0, s3, s4, s5, opsL_len, opsL_get, hlt2, hlt, gx, gL]
  refine ⟨by simp (decide := true) [s0, s3, s4, s5, opsL_len, opsL_get, hlt2, hlt, gx, gL], ?_⟩; simp (decide := true) [s0, s3, s4, s5, opsL_len, opsL_get, hlt2, hlt, gx, gL]
  refine ⟨by simp (decide := true) [s0, s3, s4, s5, opsL_len, opsL_get, hlt2, hlt, gx, gL], ?_⟩; simp (decide := true) [s0, s3, s4, s5, opsL_len, opsL_get, hlt2, hlt, gx, gL]
  refine ⟨by simp (decide := true) [s0, s3, s4, s5, opsL_len, opsL_get, hlt2, hlt, gx, gL], ?_⟩; simp (decide := true) [s0, s3, s4, s5, opsL_len, opsL_get, hlt2, hlt, gx, gL]
  refine ⟨by simp (decide := true) [s0, s3, s4, s5, opsL_len, opsL_get, hlt2, hlt, gx, gL], ?_⟩; simp (decide := true) [s0, s3, s4, s5, opsL_len, opsL_get, hlt2, hlt, gx, gL]
  refine ⟨by simp (decide := true) [s0, s3, s4, s5, opsL_len, opsL_get, hlt2, hlt, gx, gL], ?_⟩; simp (decide := true) [s0, s3, s4, s5, opsL_len, opsL_get, hlt2, hlt, gx, gL]
  refine ⟨by simp (decide := true) [s0, s3, s4, s5, opsL_len, opsL_get, hlt2, hlt, gx, gL], ?_⟩; simp (decide := true) [s0, s3, s4, s5, opsL_len, opsL_get, hlt2, hlt, gx, gL]
  refine ⟨by simp (decide := true) [s0, s3, s4, s5, opsL_len, opsL_get, hlt2, hlt, gx, gL], ?_⟩; simp (decide := true) [s0, s3, s4, s5, opsL_len, opsL_get, hlt2, hlt, gx, gL]
  refine vcThenQ_yes (fun r Z => r = .sc (.int .i64 B'.length) ∧ Z = Y) rfl (by simp) rfl (by simp (decide := true)) (by simp [vcI, s3]; exact Len_c Y 1 0 2 g' al' hD'.ss) (fun r Z h => h.2) ?_
  rintro r Z ⟨rfl, rfl⟩ _
  have hbl : (bindsL B').length = B'.length := by simp [bindsL]
  simp (decide := true) [s0, s3, s4, s5, opsL_len, opsL_get, hlt2, hlt, gx, gL, hbl]
  refine ⟨by simp (decide := true) [s0, s3, s4, s5, opsL_len, opsL_get, hlt2, hlt, gx, gL], ?_⟩; simp (decide := true) [s0, s3, s4, s5, opsL_len, opsL_get, hlt2, hlt, gx, gL, hbl]
  refine ⟨by simp (decide := true) [s0, s3, s4, s5, opsL_len, opsL_get, hlt2, hlt, gx, gL], ?_⟩; simp (decide := true) [s0, s3, s4, s5, opsL_len, opsL_get, hlt2, hlt, gx, gL, hbl]
  have hBl := hok'.inV.len hok'.ok
  refine vcICall_of (Order_c Z 1 0 2 g' al' hD'.ss (by omega)) ?_
  rintro r W ⟨rfl, rfl⟩ _
  have hkl : (keys B').length = B'.length := by simp [keys]
  simp [s0, s3, s4, s5, opsL_len, opsL_get, hlt2, hlt, gx, gL, hbl, hkl]
  intro _ _ _ _
  refine vcC_loop [] (fun m σ st => ∃ k : Nat, m = B'.length - k ∧ k ≤ B'.length ∧ st = W ∧ σ 0 = .lst 34 (opsL l) ∧ σ 3 = .ptr 1 0 ∧ σ 4 = .ptr 4 0 ∧ σ 5 = .sc (.int .i64 i) ∧ σ 6 = .lst 3 (intsL (keys B')) ∧ σ 7 = .sc (.int .i64 k)) B'.length ?_ ?_
  · simp [s0, s3, s4, s5]
    exact ⟨0, by simp⟩
  rintro m σ' st ⟨k, rfl, hk, rfl, s0, s3, s4, s5, s6, s7⟩
  rcases Nat.lt_or_ge k B'.length with hlk | hge
  · have hal2 : al2' = true := h2 (by rintro rfl; simp at hlk)
    have hb := look_at hok'.ok hlk
    have hbk := bindsL_get B' k (by rw [hbl]; exact hlk)
    have hkk := keys_get B' k (by rw [hkl]; exact hlk)
    simp [s0, s3, s4, s5, s6, s7, hkl, hlk, gx, gL, hbl, hkk]
    intro _ _
    refine vcICall_of (Bound_c (fun n t h => have hc := BsP_look hok'.chk h; ⟨check_small hc, hc⟩) B'[k].1 st 1 0 2 g' al' hD'.ss) ?_
    rintro r X ⟨rfl, rfl⟩ _
    simp [s0, s3, s4, s5, s6, s7, boundV, hb, -vcLex_cons]
    refine vcLex_step fun K hK => ?_; simp [s0, s3, s4, s5, s6, s7, hkl, hlk, gx, gL, hbl, hkk, hbk, hal2]; intros; refine hK _ _ ?_; clear hK
    refine vcLex_step fun K hK => ?_; simp [s0, s3, s4, s5, s6, s7, hkl, hlk, gx, gL, hbl, hkk, hbk, hal2]; intros; refine hK _ _ ?_; clear hK
    refine vcLex_step fun K hK => ?_; simp [s0, s3, s4, s5, s6, s7, hkl, hlk, gx, gL, hbl, hkk, hbk, hal2]; intros; refine hK _ _ ?_; clear hK
    refine vcLex_step fun K hK => ?_; simp [s0, s3, s4, s5, s6, s7, hkl, hlk, gx, gL, hbl, hkk, hbk, hal2]; intros; refine hK _ _ ?_; clear hK
    refine vcLex_step fun K hK => ?_; simp [s0, s3, s4, s5, s6, s7, hkl, hlk, gx, gL, hbl, hkk, hbk, hal2]; intros; refine hK _ _ ?_; clear hK
    refine vcLex_step fun K hK => ?_; simp [s0, s3, s4, s5, s6, s7, hkl, hlk, gx, gL, hbl, hkk, hbk, hal2]; intros; refine hK _ _ ?_; clear hK
    refine vcLex_step fun K hK => ?_; simp [s0, s3, s4, s5, s6, s7, hkl, hlk, gx, gL, hbl, hkk, hbk, hal2]; intros; refine hK _ _ ?_; clear hK
    refine vcLex_step fun K hK => ?_; simp [s0, s3, s4, s5, s6, s7, hkl, hlk, gx, gL, hbl, hkk, hbk, hal2]; intros; refine hK _ _ ?_; clear hK
    refine vcLex_step fun K hK => ?_; simp [s0, s3, s4, s5, s6, s7, hkl, hlk, gx, gL, hbl, hkk, hbk, hal2]; intros; refine hK _ _ ?_; clear hK
    refine vcLex_step fun K hK => ?_; simp [s0, s3, s4, s5, s6, s7, hkl, hlk, gx, gL, hbl, hkk, hbk, hal2]; intros; refine hK _ _ ?_; clear hK
    refine vcLex_step fun K hK => ?_; simp [s0, s3, s4, s5, s6, s7, hkl, hlk, gx, gL, hbl, hkk, hbk, hal2]; intros; refine hK _ _ ?_; clear hK
    refine vcLex_step fun K hK => ?_; simp [s0, s3, s4, s5, s6, s7, hkl, hlk, gx, gL, hbl, hkk, hbk, hal2]; intros; refine hK _ _ ?_; clear hK
    refine vcLex_step fun K hK => ?_; simp [s0, s3, s4, s5, s6, s7, hkl, hlk, gx, gL, hbl, hkk, hbk, hal2]; intros; refine hK _ _ ?_; clear hK
    refine vcLex_step fun K hK => ?_; simp [s0, s3, s4, s5, s6, s7, hkl, hlk, gx, gL, hbl, hkk, hbk, hal2]; intros; refine hK _ _ ?_; clear hK
    refine vcLex_step fun K hK => ?_; simp [s0, s3, s4, s5, s6, s7, hkl, hlk, gx, gL, hbl, hkk, hbk, hal2]; intros; refine hK _ _ ?_; clear hK
    refine vcLex_step fun K hK => ?_; simp [s0, s3, s4, s5, s6, s7, hkl, hlk, gx, gL, hbl, hkk, hbk, hal2]; intros; refine hK _ _ ?_; clear hK
    refine vcLex_step fun K hK => ?_; simp [s0, s3, s4, s5, s6, s7, hkl, hlk, gx, gL, hbl, hkk, hbk, hal2]; intros; refine hK _ _ ?_; clear hK
    refine vcLex_step fun K hK => ?_; simp [s0, s3, s4, s5, s6, s7, hkl, hlk, gx, gL, hbl, hkk, hbk, hal2]; intros; refine hK _ _ ?_; clear hK
    refine vcLex_step fun K hK => ?_; simp [s0, s3, s4, s5, s6, s7, hkl, hlk, gx, gL, hbl, hkk, hbk, hal2]; intros; refine hK _ _ ?_; clear hK
    refine vcLex_step fun K hK => ?_; simp [s0, s3, s4, s5, s6, s7, hkl, hlk, gx, gL, hbl, hkk, hbk, hal2]; intros; refine hK _ _ ?_; clear hK
    refine vcLex_step fun K hK => ?_; simp [s0, s3, s4, s5, s6, s7, hkl, hlk, gx, gL, hbl, hkk, hbk, hal2]; intros; refine hK _ _ ?_; clear hK
    refine vcLex_step fun K hK => ?_; simp [s0, s3, s4, s5, s6, s7, hkl, hlk, gx, gL, hbl, hkk, hbk, hal2]; intros; refine hK _ _ ?_; clear hK
    refine vcLex_step fun K hK => ?_; simp [s0, s3, s4, s5, s6, s7, hkl, hlk, gx, gL, hbl, hkk, hbk, hal2]; intros; refine hK _ _ ?_; clear hK
    refine vcLex_step fun K hK => ?_; simp [s0, s3, s4, s5, s6, s7, hkl, hlk, gx, gL, hbl, hkk, hbk, hal2]; intros; refine hK _ _ ?_; clear hK
    refine vcLex_step fun K hK => ?_; simp [s0, s3, s4, s5, s6, s7, hkl, hlk, gx, gL, hbl, hkk, hbk, hal2]; intros; refine hK _ _ ?_; clear hK
    refine vcLex_step fun K hK => ?_; simp [s0, s3, s4, s5, s6, s7, hkl, hlk, gx, gL, hbl, hkk, hbk, hal2]; intros; refine hK _ _ ?_; clear hK
    refine vcLex_step fun K hK => ?_; simp [s0, s3, s4, s5, s6, s7, hkl, hlk, gx, gL, hbl, hkk, hbk, hal2]; intros; refine hK _ _ ?_; clear hK
    refine vcLex_step fun K hK => ?_; simp [s0, s3, s4, s5, s6, s7, hkl, hlk, gx, gL, hbl, hkk, hbk, hal2]; refine vcCall_at (exact_c B'[k].2 B'[k].2) ?_; simp [s0, s3, s4, s5, s6, s7, hkl, hlk, gx, gL, hbl, hkk, hbk, hal2]; refine hK _ _ ?_; clear hK
    refine vcLex_step fun K hK => ?_; simp [s0, s3, s4, s5, s6, s7, hkl, hlk, gx, gL, hbl, hkk, hbk, hal2]; intros; refine hK _ _ ?_; clear hK
    refine vcLex_step fun K hK => ?_; simp [s0, s3, s4, s5, s6, s7, hkl, hlk, gx, gL, hbl, hkk, hbk, hal2]; intros; refine hK _ _ ?_; clear hK
    simp [s0, s3, s4, s5, s6, s7]
    refine ⟨by unfold i64ok; omega, B'.length - (k + 1), by omega, k + 1, rfl, by omega, by omega⟩
  · obtain rfl : k = B'.length := by omega
    simp [s0, s3, s4, s5, s6, s7, hkl]
    intro _ _
    exact ⟨by unfold i64ok; omega, l.length - (i + 1), by omega, i + 1, rfl, by omega, ⟨B', g', al', g2', al2', hD', hok'⟩, by omega⟩
end Go.T1
end

section
open Go Go.Ab Go.Proofs Go.RowKit Go.ChangeShapes Go.WideShapes Go.ChangeAt
namespace Go.T1
theorem cellsOf34 : Try.prog.cellsOf 34 = 10 := by kernel_rfl
theorem cellsOf22 : Try.prog.cellsOf 22 = 1 := by kernel_rfl
theorem bytesOf34 : Try.prog.bytesOf 34 = 128 := by kernel_rfl
section
variable {H : Type} {enc : TypeId × Value → H} {W : World} {sp : Nat → Bool}
set_option maxRecDepth 100000 in
theorem open_ol {n : Nat} (ih : ∀ m, m ≤ n → ∀ cs (d : DataW H) ps, DataW.trod enc Try.prog W 0 sp true m 34 cs = some (d, ps) → (∀ k ∈ d.weights Try.prog 34, k ≤ reachBytes) → ∃ t : Opn, RelC T (E0 W) t.cells cs ∧ t.nice)
    {fuel : Nat} (hf : fuel ≤ n + 1) {cs : List Value} {d : DataW H} {ps : List MemPlace} (h : DataW.trod enc Try.prog W 0 sp true fuel 22 cs = some (d, ps)) (hw : ∀ k ∈ d.weights Try.prog 22, k ≤ reachBytes) :
    ∃ (l : List Opn) (v : Value), cs = [v] ∧ v.oneCell' = true ∧ Rel T (E0 W) (.lst 34 (opsL l)) v ∧ ∀ o ∈ l, o.nice := by
  rcases DataW.trod_slice Try.underlying22 h with ⟨rfl, hx⟩ | ⟨a, len, cap, elems, rest, m, rfl, rfl, hx, hb, hl, hm, hlen, hel, _, _⟩
  · refine ⟨[], _, rfl, rfl, ?_, fun o h => (by cases h)⟩
    simp only [Rel, opsL, List.map_nil]
    exact ⟨by simp, by simp, _, _, rfl, by simp, .inl trivial⟩
  · cases hx
    simp only [DataW.weights, Try.underlying22, List.mem_cons, List.mem_append, bytesOf34] at hw
    have hw0 := hw _ (.inl rfl)
    simp only [List.length_map] at hw0
    have hreach : reachBytes = 140737488351232 := by decide
    rw [hreach] at hw0
    rw [cellsOf34] at hel
    have key : ∀ i, i < len → ∃ t : Opn, (∃ cs', W.cells? 0 (a.add (i * 10)) 10 = some cs' ∧ RelC T (E0 W) t.cells cs') ∧ t.nice := by
      intro i hi
      have := hel i hi
      rw [List.getElem?_eq_getElem (by omega)] at this
      obtain ⟨cs', h1, h2⟩ := Option.bind_eq_some_iff.1 this
      obtain ⟨t, h3, h4⟩ := ih m (by omega) cs' elems[i].1 elems[i].2 h2 (fun k hk => hw k (.inr (.inl (weightsAll_mem (List.mem_map.2 ⟨_, List.getElem_mem (by omega), rfl⟩) k hk))))
      exact ⟨t, ⟨cs', h1, h3⟩, h4⟩
    have hch : ∃ f : Nat → Opn, ∀ i, i < len → (∃ cs', W.cells? 0 (a.add (i * 10)) 10 = some cs' ∧ RelC T (E0 W) (f i).cells cs') ∧ (f i).nice :=
      ⟨fun i => if hi : i < len then (key i hi).choose else ⟨0, Tm.zero, Tm.zero, 0⟩, fun i hi => by simp only [dif_pos hi]; exact (key i hi).choose_spec⟩
    obtain ⟨f, hf'⟩ := hch
    refine ⟨(List.range len).map f, _, rfl, rfl, ?_, fun t ht => ?_⟩
    · simp only [Rel]
      have h56 : T.bytes 34 = 128 := by simp [Tab.bytes]
      have h4 : T.cells 34 = 10 := by simp [Tab.cells]
      refine ⟨by simp [h56, opsL]; omega, by simp [opsL]; unfold maxLen; omega, some a, cap, by simp [opsL], by simpa [opsL] using hl, ?_⟩
      rcases Nat.eq_zero_or_pos len with h0 | h0
      · left; subst h0; rfl
      · right
        obtain ⟨⟨cs', k1, k2⟩, _⟩ := hf' 0 h0
        obtain ⟨_, k3, k4⟩ := World.cells?_some k1
        have k5 := k4 0 (by omega)
        rw [List.getElem?_eq_getElem (by omega)] at k5
        have k6 := cell_lt k5
        obtain ⟨b, off, spot⟩ := a
        have hs : spot = none := by simpa [Addr.add] using k6.2
        subst hs
        have hbl : b < W.heap.size := by simpa [Addr.add] using k6.1
        refine ⟨b, off, rfl, ⟨hbl, ?_⟩, ?_⟩
        · rintro (hm | ⟨id, blk, hm, _⟩)
          · exact hm
          · simp [E0] at hm
        · rw [h4]
          refine relM_of _ _ fun i hi => ?_
          simp only [opsL, List.length_map, List.length_range] at hi
          obtain ⟨⟨cs', k1, k2⟩, _⟩ := hf' i hi
          obtain ⟨_, k3, k4⟩ := World.cells?_some k1
          simp only [opsL, List.getElem_map, List.getElem_range]
          refine ⟨by simp, relX_of _ cs' _ (fun j hj => ?_) k2⟩
          rw [← k4 j (by omega), add_add]
    · obtain ⟨i, hi, rfl⟩ := List.mem_map.1 ht
      exact (hf' i (List.mem_range.1 hi)).2


set_option maxRecDepth 100000 in
theorem open_op : ∀ fuel cs (d : DataW H) ps, DataW.trod enc Try.prog W 0 sp true fuel 34 cs = some (d, ps) → (∀ k ∈ d.weights Try.prog 34, k ≤ reachBytes) → ∃ o : Opn, RelC T (E0 W) o.cells cs ∧ o.nice := by
  intro fuel cs d ps h hw
  obtain ⟨xs, n, rfl, hx, hlen, hxs, hf⟩ := DataW.trod_struct Try.underlying34 h
  cases hx
  rw [cellsOf34] at hlen
  match cs, hlen with
  | [c0, c1, c2, c3, c4, c5, c6, c7, c8, c9], _ =>
  match xs, hxs with
  | [x0, x1, x2, x3], _ =>
  have f0 := hf 0 _ rfl
  have f1 := hf 1 _ rfl
  have f2 := hf 2 _ rfl
  have f3 := hf 3 _ rfl
  simp [cellsOf3, cellsOf32] at f0 f1 f2 f3
  simp only [DataW.weights, Try.underlying34] at hw
  simp [DataW.weightsEach] at hw
  obtain ⟨k, e0, rfl, _⟩ := DataW.trod_int Try.underlying3 f0
  obtain ⟨m, e3, rfl, _⟩ := DataW.trod_int Try.underlying3 f3
  cases e0; cases e3
  obtain ⟨a, ha1, ha2⟩ := open_tm _ _ _ _ f1 (fun q hq => hw q (by simp [hq]))
  obtain ⟨b, hb1, hb2⟩ := open_tm _ _ _ _ f2 (fun q hq => hw q (by simp [hq]))
  refine ⟨⟨k, a, b, m⟩, ?_, ha2, hb2⟩
  have h1 := RelC.append _ _ ha1 (RelC.append _ _ hb1 (ds := [.sc (.int .i64 m)]) (us := [.int .i64 m]) (by simp only [RelC, Rel]; exact ⟨_, _, rfl, ⟨rfl, rfl⟩, rfl, rfl⟩))
  simp only [Opn.cells, RelC, Rel]
  exact ⟨_, _, rfl, ⟨rfl, rfl⟩, rfl, h1⟩
set_option maxRecDepth 100000 in
theorem trod_op {v : Value} {d : DataW H} {p : List MemPlace} (h : DataW.Trod enc Try.prog W 0 sp true 34 v d p) (hw : ∀ k ∈ d.weights Try.prog 34, k ≤ reachBytes) : ∃ o : Opn, Rel T (E0 W) (.agg o.cells) v ∧ o.nice := by
  obtain ⟨fuel, h⟩ := h
  obtain ⟨t, h1, h2⟩ := open_op fuel _ _ _ h hw
  refine ⟨t, ?_, h2⟩
  have hl := RelC.len _ _ h1
  rw [Opn.cells_len] at hl
  cases v with
  | agg cs => simp only [Rel]; exact ⟨cs.toList, by simp, h1⟩
  | _ => simp [Value.cells] at hl
set_option maxRecDepth 100000 in
theorem trod_ol {v : Value} {d : DataW H} {p : List MemPlace} {base : Nat} (hok : Value.okWide Try.prog W .any base 22 v) (h : DataW.Trod enc Try.prog W 0 sp true 22 v d p) (hw : ∀ k ∈ d.weights Try.prog 22, k ≤ reachBytes) : ∃ l : List Opn, Rel T (E0 W) (.lst 34 (opsL l)) v ∧ ∀ o ∈ l, o.nice := by
  obtain ⟨fuel, h⟩ := h
  obtain ⟨l, v', h1, h2, h3, h4⟩ := open_ol (n := fuel) (fun m _ => open_op m) (fuel := fuel) (by omega) h hw
  refine ⟨l, ?_, h4⟩
  have hv : v.cells = #[v] := by
    unfold Value.okWide at hok
    rw [Try.underlying22] at hok
    cases v with
    | agg cs => simp [Cell.okWide, Cell.ok, Try.underlying22] at hok
    | _ => rfl
  rw [hv] at h1
  simp at h1
  rw [h1]; exact h3
end
end Go.T1
end
