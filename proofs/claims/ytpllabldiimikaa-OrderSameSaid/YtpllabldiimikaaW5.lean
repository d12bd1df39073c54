/- Contracts of the sort and of what removes what is double, and what the five statements of chapter 07 hand back: true, at every term and every list of terms. -/
import Derived.Test.YtpllabldiimikaaW4
set_option linter.unusedSimpArgs false
set_option linter.unusedVariables false
set_option linter.unusedSectionVars false
set_option linter.unnecessarySimpa false
section
open Go Go.Ab Go.Proofs
namespace Go.T1
/-- How the insertion stands: x is on its way down. -/
def iInv (P M S : List Tm) (k : Nat) (d g : Nat) (st : St) (a : Nat) (j : Nat) (Z : St) : Prop :=
  ∃ (A B : List Tm) (x : Tm), M[k]? = some x ∧ A ++ B = sortT (M.take k) ∧ j = a + A.length ∧ (∀ y ∈ B.head?, le x y) ∧ Z = st.set d (rowL g (P ++ (A ++ (x :: (B ++ (M.drop (k + 1) ++ S))))))
set_option maxRecDepth 100000 in
theorem insertion_c (P M S : List Tm) (hD : Dom M) (hsz : P.length + M.length + S.length ≤ 256) (st : St) (d g : Nat) (hd : st[d]? = some (rowL g (P ++ (M ++ S)))) :
    ICall T Try.prog 53 [.own d g, .sc (.int .i64 P.length), .sc (.int .i64 (P.length + M.length : Nat)), byF] st (fun r st' => r = .tup [] ∧ st' = st.set d (rowL g (P ++ (sortT M ++ S)))) := by
  obtain ⟨a, ha⟩ : ∃ a, a = P.length := ⟨_, rfl⟩
  obtain ⟨b, hb⟩ : ∃ b, b = P.length + M.length := ⟨_, rfl⟩
  rw [← hb, ← ha]
  refine ICall.of_vc hT [] [(6, 15), (6, 17)] follows Try.call53 Try.func53 rfl (drawsOk_of3 (by kernel_rfl)) fun hfix => ?_
  unfold Try.f53
  have gd : ∀ b, (st.set d b)[d]? = some b := fun b => get_set hd
  simp
  refine ⟨by unfold i64ok; omega, ?_⟩
  refine vcC_loop [] (fun w σ Z => ∃ k : Nat, w = M.length - k ∧ 1 ≤ k ∧ (k ≤ M.length ∨ k = 1) ∧ Z = st.set d (rowL g (P ++ (sortT (M.take k) ++ (M.drop k ++ S)))) ∧ σ 0 = .own d g ∧ σ 1 = .sc (.int .i64 a) ∧ σ 2 = .sc (.int .i64 b) ∧ σ 3 = byF ∧ σ 8 = .sc (.int .i64 (a + k : Nat))) (M.length - 1) ?_ ?_
  · simp
    refine ⟨1, by omega, by omega, by omega, ?_, by simp⟩
    have : sortT (M.take 1) = M.take 1 := by
      rcases M with _ | ⟨x, xs⟩
      · rfl
      · simp [sortT, ins]
    rw [this, ← List.append_assoc, ← List.append_assoc, List.append_assoc P, List.take_append_drop, List.append_assoc, set_same hd]
  rintro w σ Z ⟨k, rfl, hk1, hk, rfl, s0, s1, s2, s3, s8⟩
  rcases Nat.lt_or_ge k M.length with hlt | hge
  · have hab : (a : Int) + k < b := by omega
    simp [s0, s1, s2, s3, s8, hab]
    have hDt : Dom (M.take k ++ [M[k]]) := hD.sub fun z hz => by
      rcases List.mem_append.1 hz with h | h
      · exact List.mem_of_mem_take h
      · simp at h; subst h; exact List.getElem_mem hlt
    have htk : M.take k ++ [M[k]] = M.take (k + 1) := by rw [List.take_add_one, List.getElem?_eq_getElem hlt]; rfl
    refine vcC_loop [] (fun j σ Z => iInv P M S k d g st a j Z ∧ σ 0 = .own d g ∧ σ 1 = .sc (.int .i64 a) ∧ σ 2 = .sc (.int .i64 b) ∧ σ 3 = byF ∧ σ 8 = .sc (.int .i64 (a + k : Nat)) ∧ σ 9 = .sc (.int .i64 j)) (a + k) ?_ ?_
    · simp [s0, s1, s2, s3, s8]
      refine ⟨sortT (M.take k), [], M[k], by simp [hlt], by simp, by rw [sort_len]; simp; omega, by simp, ?_⟩
      rw [List.drop_eq_getElem_cons hlt]; simp only [List.nil_append, List.cons_append]
    clear s0 s1 s2 s3 s8
    rintro j σ Z ⟨⟨A, B, x, hx, hAB, rfl, hB, rfl⟩, s0, s1, s2, s3, s8, s9⟩
    rw [List.getElem?_eq_getElem hlt] at hx
    cases hx
    have hl : A.length + B.length = k := by
      have hl := congrArg List.length hAB
      rw [sort_len] at hl
      simp at hl
      omega
    have hxM : M[k] ∈ M := List.getElem_mem hlt
    have hmem : ∀ z ∈ A ++ B, z ∈ M := fun z hz => by
      rw [hAB] at hz
      exact List.mem_of_mem_take ((sort_perm _).mem_iff.1 hz)
    have fin : (∀ z ∈ A.getLast?, le z M[k]) → P ++ (A ++ (M[k] :: (B ++ (M.drop (k + 1) ++ S)))) = P ++ (sortT (M.take (k + 1)) ++ (M.drop (k + 1) ++ S)) := fun h => by
      have := insert_step hDt hAB hB h
      rw [htk] at this
      rw [← this]; simp
    rcases List.eq_nil_or_concat A with rfl | ⟨A', y, rfl⟩
    · have e := fin (by simp)
      rw [e]
      have s9' : σ 9 = .sc (.int .i64 a) := by rw [s9]; simp
      simp [s0, s1, s2, s3, s8, s9', gd, rowL]
      refine ⟨[], .sc (.int .i64 0), fun h => (by cases h), ?_⟩
      simp [s0, s1, s2, s3, s8, s9']
      exact ⟨by unfold i64ok; omega, M.length - (k + 1), by omega, k + 1, rfl, by omega, .inl (by omega), by simp [rowL], by simp; omega⟩
    · simp only [List.concat_eq_append] at *
      obtain ⟨t, ht⟩ : ∃ t, t = a + A'.length := ⟨_, rfl⟩
      have s9' : σ 9 = .sc (.int .i64 ((t : Int) + 1)) := by rw [s9, ht]; simp; omega
      obtain ⟨L, hL⟩ : ∃ L, L = P ++ (A' ++ [y] ++ (M[k] :: (B ++ (M.drop (k + 1) ++ S)))) := ⟨_, rfl⟩
      have eL : L = (P ++ A') ++ y :: ([] ++ M[k] :: (B ++ (M.drop (k + 1) ++ S))) := by rw [hL]; simp
      obtain ⟨x2, x1⟩ := two_get (A := P ++ A') (M := []) (x := y) (y := M[k]) (Z := B ++ (M.drop (k + 1) ++ S)) (j1 := t) (j2 := t + 1) (by simp; omega) (by simp; omega)
      have hsw := swap_two' (A := P ++ A') (M := []) (x := y) (y := M[k]) (Z := B ++ (M.drop (k + 1) ++ S)) (j1 := t) (j2 := t + 1) (by simp; omega) (by simp; omega)
      rw [← eL] at x1 x2 hsw
      obtain ⟨q1, x1⟩ := List.getElem?_eq_some_iff.1 x1
      obtain ⟨q2, x2⟩ := List.getElem?_eq_some_iff.1 x2
      have hta : (a : Int) < t + 1 := by omega
      rw [← hL]
      rw [← hL] at fin
      have hy : y ∈ M := hmem y (by simp)
      simp [s0, s1, s2, s3, s8, s9', gd, rowL, q1, q2, x1, x2, hta]
      have hl2 : A'.length + 1 + B.length ≤ 256 := by
        have h9 := congrArg List.length hAB
        rw [sort_len] at h9
        simp at h9; omega
      have m1 : (t : Int) + 1 < L.length := by omega
      have m2 : (0 : Int) ≤ t + 1 := by omega
      refine ⟨⟨m2, m1⟩, by unfold i64ok; omega, vcCall_at (by_c M[k] y (hD.1 _ hxM) (hD.1 _ hy)) ?_⟩
      simp [s0, s1, s2, s3, s8, s9', gd, rowL, q1, q2, x1, x2, hta]
      refine ⟨fun hlt2 => ?_, fun hge2 => ?_⟩
      · refine vcLexA_hide (Q := fun σ' st' => σ' 0 = .own d g ∧ σ' 1 = .sc (.int .i64 a) ∧ σ' 2 = .sc (.int .i64 b) ∧ σ' 3 = byF ∧ σ' 8 = .sc (.int .i64 (a + k : Nat)) ∧ σ' 9 = .sc (.int .i64 ((t : Int) + 1)) ∧ st' = st.set d (rowL g ((L.set (t + 1) y).set t (M[k]'hlt)))) (fun K hK => ?_) ?_
        · refine ⟨fun o r Z => if o = 15 then Z = st.set d (rowL g (L.set (t + 1) y)) else Z = st.set d (rowL g ((L.set (t + 1) y).set t (M[k]'hlt))), ?_⟩
          rw [vcLexM_cons, if_neg (by decide)]
          simp (decide := true) [s0, s1, s2, s3, s8, s9', gd, rowL, q1, q2, x1, x2, m1, m2, Tm.cellsL_set, drop4]
          refine ⟨by first | (simp (decide := true) [s0, s1, s2, s3, s8, s9', gd, rowL, q1, q2, x1, x2, m1, m2, Tm.cellsL_set, drop4]; done) | (simp (decide := true) [s0, s1, s2, s3, s8, s9', gd, rowL, q1, q2, x1, x2, m1, m2, Tm.cellsL_set, drop4]; unfold i64ok; omega), ?_⟩; simp (decide := true) [s0, s1, s2, s3, s8, s9', gd, rowL, q1, q2, x1, x2, m1, m2, Tm.cellsL_set, drop4]
          refine ⟨by first | (simp (decide := true) [s0, s1, s2, s3, s8, s9', gd, rowL, q1, q2, x1, x2, m1, m2, Tm.cellsL_set, drop4]; done) | (simp (decide := true) [s0, s1, s2, s3, s8, s9', gd, rowL, q1, q2, x1, x2, m1, m2, Tm.cellsL_set, drop4]; unfold i64ok; omega), ?_⟩; simp (decide := true) [s0, s1, s2, s3, s8, s9', gd, rowL, q1, q2, x1, x2, m1, m2, Tm.cellsL_set, drop4]
          refine ⟨by first | (simp (decide := true) [s0, s1, s2, s3, s8, s9', gd, rowL, q1, q2, x1, x2, m1, m2, Tm.cellsL_set, drop4]; done) | (simp (decide := true) [s0, s1, s2, s3, s8, s9', gd, rowL, q1, q2, x1, x2, m1, m2, Tm.cellsL_set, drop4]; unfold i64ok; omega), ?_⟩; simp (decide := true) [s0, s1, s2, s3, s8, s9', gd, rowL, q1, q2, x1, x2, m1, m2, Tm.cellsL_set, drop4]
          refine ⟨by first | (simp (decide := true) [s0, s1, s2, s3, s8, s9', gd, rowL, q1, q2, x1, x2, m1, m2, Tm.cellsL_set, drop4]; done) | (simp (decide := true) [s0, s1, s2, s3, s8, s9', gd, rowL, q1, q2, x1, x2, m1, m2, Tm.cellsL_set, drop4]; unfold i64ok; omega), ?_⟩; simp (decide := true) [s0, s1, s2, s3, s8, s9', gd, rowL, q1, q2, x1, x2, m1, m2, Tm.cellsL_set, drop4]
          refine ⟨by unfold i64ok; omega, ?_⟩
          refine ⟨by first | (simp (decide := true) [s0, s1, s2, s3, s8, s9', gd, rowL, q1, q2, x1, x2, m1, m2, Tm.cellsL_set, drop4]; done) | (simp (decide := true) [s0, s1, s2, s3, s8, s9', gd, rowL, q1, q2, x1, x2, m1, m2, Tm.cellsL_set, drop4]; unfold i64ok; omega), ?_⟩; simp (decide := true) [s0, s1, s2, s3, s8, s9', gd, rowL, q1, q2, x1, x2, m1, m2, Tm.cellsL_set, drop4]
          refine ⟨by first | (simp (decide := true) [s0, s1, s2, s3, s8, s9', gd, rowL, q1, q2, x1, x2, m1, m2, Tm.cellsL_set, drop4]; done) | (simp (decide := true) [s0, s1, s2, s3, s8, s9', gd, rowL, q1, q2, x1, x2, m1, m2, Tm.cellsL_set, drop4]; unfold i64ok; omega), ?_⟩; simp (decide := true) [s0, s1, s2, s3, s8, s9', gd, rowL, q1, q2, x1, x2, m1, m2, Tm.cellsL_set, drop4]
          refine ⟨by first | (simp (decide := true) [s0, s1, s2, s3, s8, s9', gd, rowL, q1, q2, x1, x2, m1, m2, Tm.cellsL_set, drop4]; done) | (simp (decide := true) [s0, s1, s2, s3, s8, s9', gd, rowL, q1, q2, x1, x2, m1, m2, Tm.cellsL_set, drop4]; unfold i64ok; omega), ?_⟩; simp (decide := true) [s0, s1, s2, s3, s8, s9', gd, rowL, q1, q2, x1, x2, m1, m2, Tm.cellsL_set, drop4]
          refine ⟨by unfold i64ok; omega, ?_⟩
          refine ⟨by first | (simp (decide := true) [s0, s1, s2, s3, s8, s9', gd, rowL, q1, q2, x1, x2, m1, m2, Tm.cellsL_set, drop4]; done) | (simp (decide := true) [s0, s1, s2, s3, s8, s9', gd, rowL, q1, q2, x1, x2, m1, m2, Tm.cellsL_set, drop4]; unfold i64ok; omega), ?_⟩; simp (decide := true) [s0, s1, s2, s3, s8, s9', gd, rowL, q1, q2, x1, x2, m1, m2, Tm.cellsL_set, drop4]
          refine ⟨by first | (simp (decide := true) [s0, s1, s2, s3, s8, s9', gd, rowL, q1, q2, x1, x2, m1, m2, Tm.cellsL_set, drop4]; done) | (simp (decide := true) [s0, s1, s2, s3, s8, s9', gd, rowL, q1, q2, x1, x2, m1, m2, Tm.cellsL_set, drop4]; unfold i64ok; omega), ?_⟩; simp (decide := true) [s0, s1, s2, s3, s8, s9', gd, rowL, q1, q2, x1, x2, m1, m2, Tm.cellsL_set, drop4]
          refine ⟨by first | (simp (decide := true) [s0, s1, s2, s3, s8, s9', gd, rowL, q1, q2, x1, x2, m1, m2, Tm.cellsL_set, drop4]; done) | (simp (decide := true) [s0, s1, s2, s3, s8, s9', gd, rowL, q1, q2, x1, x2, m1, m2, Tm.cellsL_set, drop4]; unfold i64ok; omega), ?_⟩; simp (decide := true) [s0, s1, s2, s3, s8, s9', gd, rowL, q1, q2, x1, x2, m1, m2, Tm.cellsL_set, drop4]
          refine ⟨by first | (simp (decide := true) [s0, s1, s2, s3, s8, s9', gd, rowL, q1, q2, x1, x2, m1, m2, Tm.cellsL_set, drop4]; done) | (simp (decide := true) [s0, s1, s2, s3, s8, s9', gd, rowL, q1, q2, x1, x2, m1, m2, Tm.cellsL_set, drop4]; unfold i64ok; omega), ?_⟩; simp (decide := true) [s0, s1, s2, s3, s8, s9', gd, rowL, q1, q2, x1, x2, m1, m2, Tm.cellsL_set, drop4]
          refine ⟨by first | (simp (decide := true) [s0, s1, s2, s3, s8, s9', gd, rowL, q1, q2, x1, x2, m1, m2, Tm.cellsL_set, drop4]; done) | (simp (decide := true) [s0, s1, s2, s3, s8, s9', gd, rowL, q1, q2, x1, x2, m1, m2, Tm.cellsL_set, drop4]; unfold i64ok; omega), ?_⟩; simp (decide := true) [s0, s1, s2, s3, s8, s9', gd, rowL, q1, q2, x1, x2, m1, m2, Tm.cellsL_set, drop4]
          refine ⟨by first | (simp (decide := true) [s0, s1, s2, s3, s8, s9', gd, rowL, q1, q2, x1, x2, m1, m2, Tm.cellsL_set, drop4]; done) | (simp (decide := true) [s0, s1, s2, s3, s8, s9', gd, rowL, q1, q2, x1, x2, m1, m2, Tm.cellsL_set, drop4]; unfold i64ok; omega), ?_⟩; simp (decide := true) [s0, s1, s2, s3, s8, s9', gd, rowL, q1, q2, x1, x2, m1, m2, Tm.cellsL_set, drop4]
          refine ⟨by first | (simp (decide := true) [s0, s1, s2, s3, s8, s9', gd, rowL, q1, q2, x1, x2, m1, m2, Tm.cellsL_set, drop4]; done) | (simp (decide := true) [s0, s1, s2, s3, s8, s9', gd, rowL, q1, q2, x1, x2, m1, m2, Tm.cellsL_set, drop4]; unfold i64ok; omega), ?_⟩; simp (decide := true) [s0, s1, s2, s3, s8, s9', gd, rowL, q1, q2, x1, x2, m1, m2, Tm.cellsL_set, drop4]
          refine ⟨by first | (simp (decide := true) [s0, s1, s2, s3, s8, s9', gd, rowL, q1, q2, x1, x2, m1, m2, Tm.cellsL_set, drop4]; done) | (simp (decide := true) [s0, s1, s2, s3, s8, s9', gd, rowL, q1, q2, x1, x2, m1, m2, Tm.cellsL_set, drop4]; unfold i64ok; omega), ?_⟩; simp (decide := true) [s0, s1, s2, s3, s8, s9', gd, rowL, q1, q2, x1, x2, m1, m2, Tm.cellsL_set, drop4]
          refine ⟨by simp, rfl, by simp (decide := true) [vcI, s0, s1, s2, s3, s8, s9', gd, rowL, q1, q2, x1, x2, m1, m2, Tm.cellsL_set, drop4], ?_⟩
          rintro r Z1 hZ1 _
          simp at hZ1
          subst hZ1
          simp (decide := true) [s0, s1, s2, s3, s8, s9', gd, rowL, q1, q2, x1, x2, m1, m2, Tm.cellsL_set, drop4]
          refine ⟨by first | (simp (decide := true) [s0, s1, s2, s3, s8, s9', gd, rowL, q1, q2, x1, x2, m1, m2, Tm.cellsL_set, drop4]; done) | (simp (decide := true) [s0, s1, s2, s3, s8, s9', gd, rowL, q1, q2, x1, x2, m1, m2, Tm.cellsL_set, drop4]; unfold i64ok; omega), ?_⟩; simp (decide := true) [s0, s1, s2, s3, s8, s9', gd, rowL, q1, q2, x1, x2, m1, m2, Tm.cellsL_set, drop4]
          refine ⟨by simp, rfl, by simp (decide := true) [vcI, s0, s1, s2, s3, s8, s9', gd, rowL, q1, q2, x1, x2, m1, m2, Tm.cellsL_set, drop4], ?_⟩
          rintro r Z1 hZ1 _
          simp at hZ1
          subst hZ1
          simp (decide := true) [s0, s1, s2, s3, s8, s9', gd, rowL, q1, q2, x1, x2, m1, m2, Tm.cellsL_set, drop4]
          exact hK _ _ ⟨by simp [s0, s1, s2, s3, s8, s9', gd, rowL, q1, q2, x1, x2, m1, m2, Tm.cellsL_set, drop4], by simp [s0, s1, s2, s3, s8, s9', gd, rowL, q1, q2, x1, x2, m1, m2, Tm.cellsL_set, drop4], by simp [s0, s1, s2, s3, s8, s9', gd, rowL, q1, q2, x1, x2, m1, m2, Tm.cellsL_set, drop4], by simp [s0, s1, s2, s3, s8, s9', gd, rowL, q1, q2, x1, x2, m1, m2, Tm.cellsL_set, drop4], by simp [s0, s1, s2, s3, s8, s9', gd, rowL, q1, q2, x1, x2, m1, m2, Tm.cellsL_set, drop4], by simp [s0, s1, s2, s3, s8, s9', gd, rowL, q1, q2, x1, x2, m1, m2, Tm.cellsL_set, drop4], by simp [rowL]⟩
        rintro σ' Z ⟨s0, s1, s2, s3, s8, s9, rfl⟩
        simp [s0, s1, s2, s3, s8, s9]
        refine ⟨by unfold i64ok; omega, t, by omega, ⟨A', y :: B, M[k], by simp [hlt], by rw [← hAB]; simp, ht, ?_, ?_⟩, rfl⟩
        · simp
          exact Int.le_of_lt hlt2
        · rw [hsw]; simp
      · have hle : le y M[k] := by unfold le; rw [ordT_anti M[k] y]; simp only; omega
        rw [fin (by simp [hle])]
        exact ⟨by unfold i64ok; omega, M.length - (k + 1), by omega, k + 1, rfl, by omega, .inl (by omega), by simp [rowL], by simp; omega⟩
  · have hab : ¬ (a : Int) + k < b := by omega
    simp [s0, s1, s2, s3, s8, hab]
    have e : sortT (M.take k) ++ (M.drop k ++ S) = sortT M ++ S := by rw [List.take_of_length_le hge, List.drop_of_length_le hge]; rfl
    rw [e]
    exact endP_mk (.tup []) (by simp) (by simp) ⟨rfl, (Pre.refl _).cut (fix_row hfix _ _ _) (by simp)⟩
end Go.T1
end

section
open Go Go.Ab Go.Proofs
namespace Go.T1
abbrev symIm : List (Nat × Nat) := [(11, 15), (11, 17), (23, 15), (23, 17), (40, 5), (42, 5), (44, 5)]
set_option maxRecDepth 100000 in
theorem sym1_c (P B S : List Tm) (x : Tm) (hB : B ≠ []) (hD : Dom (x :: B)) (sB : Sorted B) (hsz : P.length + 1 + B.length + S.length ≤ 256) (st : St) (d g : Nat) (hd : st[d]? = some (rowL g (P ++ (x :: (B ++ S))))) :
    ICall T Try.prog 54 [.own d g, .sc (.int .i64 P.length), .sc (.int .i64 (P.length + 1 : Nat)), .sc (.int .i64 (P.length + 1 + B.length : Nat)), byF] st (fun r st' => r = .tup [] ∧ st' = st.set d (rowL g (P ++ (sortT (x :: B) ++ S)))) := by
  obtain ⟨a, ha⟩ : ∃ a, a = P.length := ⟨_, rfl⟩
  obtain ⟨m, hm⟩ : ∃ m, m = P.length + 1 := ⟨_, rfl⟩
  obtain ⟨b, hb⟩ : ∃ b, b = P.length + 1 + B.length := ⟨_, rfl⟩
  rw [← hb, ← hm, ← ha]
  refine ICall.of_vc hT [] symIm follows Try.call54 Try.func54 rfl (drawsOk_of3 (by kernel_rfl)) fun hfix => ?_
  unfold Try.f54
  have e1 : (m : Int) - a = 1 := by omega
  have gd : ∀ b, (st.set d b)[d]? = some b := fun b => get_set hd
  obtain ⟨L, hL⟩ : ∃ L, L = P ++ (x :: (B ++ S)) := ⟨_, rfl⟩
  rw [← hL] at hd
  have qa : a < L.length := by rw [hL, ha]; simp
  have La : L[a] = x := by subst hL ha; simp
  have LB : ∀ (q : Nat) (h : q < B.length), ∃ h', L[m + q]'h' = B[q] := fun q h => ⟨by rw [hL, hm]; simp; omega, by
    subst hL hm
    have e : P.length + 1 + q = P.length + (q + 1) := by omega
    simp [e, h]⟩
  dsimp only
  refine vcC_cut (fun _ _ => False) (fun K0 _ => ?_) (fun _ _ h => h.elim)
  refine vcC_cut (fun σ Z => σ 28 = .sc (.bool true) ∧ σ 0 = .own d g ∧ σ 1 = .sc (.int .i64 a) ∧ σ 2 = .sc (.int .i64 m) ∧ σ 3 = .sc (.int .i64 b) ∧ σ 4 = byF ∧ st = Z) (fun K hK => ?_) ?_
  · simp [e1]
    refine ⟨by unfold i64ok; omega, hK _ _ ?_⟩
    simp
  rintro σ Z ⟨s28, s0, s1, s2, s3, s4, rfl⟩
  refine vcC_condT (by simp [s28]) ?_
  refine vcC_cut2 (fun σ Z' => σ 0 = .own d g ∧ σ 1 = .sc (.int .i64 a) ∧ σ 4 = byF ∧ σ 10 = .sc (.int .i64 (m + 0 : Nat)) ∧ σ 11 = .sc (.int .i64 (m + B.length : Nat)) ∧ st = Z') (fun K hK => ?_) ?_
  · simp [s2, s3]
    refine hK _ _ ?_
    simp [s0, s1, s4]
    omega
  clear s0 s1 s2 s3 s4 s28 σ
  rintro σ Z' ⟨s0, s1, s4, s10, s11, rfl⟩
  obtain ⟨Q, hQ⟩ : ∃ Q : Slots → St → Prop, Q = fun σ Z' => ∃ q : Nat, q ≤ B.length ∧ (∀ h : q < B.length, le x B[q]) ∧ (∀ h : 0 < q, ∀ h' : q - 1 < B.length, le B[q - 1] x) ∧ st = Z' ∧ σ 0 = .own d g ∧ σ 1 = .sc (.int .i64 a) ∧ σ 10 = .sc (.int .i64 (m + q : Nat)) := ⟨_, rfl⟩
  refine vcC_cut Q (fun K hK => ?_) ?_
  · refine vcC_blk Q (fun K X hK hX hXj => ?_) hK
    refine vcC_loop [] (fun w σ Z' => ∃ i j : Nat, w = j - i ∧ i ≤ j ∧ j ≤ B.length ∧ (∀ h : j < B.length, le x B[j]) ∧ (∀ h : 0 < i, ∀ h' : i - 1 < B.length, le B[i - 1] x) ∧ st = Z' ∧ σ 0 = .own d g ∧ σ 1 = .sc (.int .i64 a) ∧ σ 4 = byF ∧ σ 10 = .sc (.int .i64 (m + i : Nat)) ∧ σ 11 = .sc (.int .i64 (m + j : Nat))) B.length ?_ ?_
    · refine ⟨0, B.length, by simp, by simp, by simp, fun h => (by omega), fun h => (by omega), rfl, s0, s1, s4, s10, s11⟩
    clear s0 s1 s4 s10 s11 σ
    rintro w σ Z' ⟨i, j, rfl, hij, hj, hgt, hle, rfl, s0, s1, s4, s10, s11⟩
    rcases Nat.lt_or_ge i j with h | h
    · have h' : (m : Int) + i < m + j := by omega
      obtain ⟨k, hk1, hk2, hk⟩ : ∃ k : Nat, i ≤ k ∧ k < j ∧ ((m : Int) + i + (m + j)) / 2 = m + k := ⟨(i + j) / 2, by omega, by omega, by omega⟩
      obtain ⟨lk, xk⟩ := LB k (by omega)
      have c1 : ((m : Int) + k).toNat = m + k := by omega
      have n1 : (0 : Int) ≤ m + k := by omega
      have n2 : (m : Int) + k < L.length := by omega
      have l1 : m + j ≤ 256 := by omega
      simp [s10, s11, h, h', hk, s0, s1, s4, hd, rowL, c1, n1, n2, qa, La, xk, lk]
      refine ⟨by unfold i64ok; omega, by omega, by omega, by unfold i64ok; omega, ?_⟩
      refine vcCall_at (by_c B[k] x (hD.1 _ (List.mem_cons_of_mem _ (List.getElem_mem _))) (hD.1 _ (List.mem_cons_self ..))) ?_
      simp [s10, s11, s0, s1, s4]
      refine ⟨fun hlt2 => ?_, fun hge2 => ?_⟩
      · refine ⟨by unfold i64ok; omega, j - (k + 1), by omega, k + 1, j, rfl, by omega, hj, hgt, fun _ _ => ?_, by simp; try omega⟩
        simp only [Nat.add_sub_cancel]
        exact Int.le_of_lt hlt2
      · refine ⟨k - i, by omega, i, k, rfl, by omega, by omega, fun _ => ?_, hle, by simp; try omega⟩
        unfold le; rw [ordT_anti B[k] x]; simp only; omega
    · have h' : ¬ (m : Int) + i < m + j := by omega
      simp [s10, s11, h, h', hX, hXj]
      refine hK _ _ ?_
      rw [hQ]
      exact ⟨i, by omega, fun h1 => by (have := hgt (by omega); simpa [show j = i by omega] using this), hle, rfl, by simp [s0], by simp [s1], by simp [s10]⟩
  clear s0 s1 s4 s10 s11 σ
  intro σ Z hq
  rw [hQ] at hq
  clear hQ Q
  obtain ⟨q, hq, hgt, hle, rfl, s0, s1, s10⟩ := hq
  have htgt : sortT (x :: B) = B.take q ++ x :: B.drop q := by
    rw [one_core (hD.perm (by simpa using List.perm_append_comm (l₁ := B) (l₂ := [x]))) sB hq hgt fun h => hle h (by omega)]
    exact sort_congr hD (by simpa using (List.perm_append_comm (l₁ := [x]) (l₂ := B)))
  have l1 : a + B.length + 1 ≤ 256 := by omega
  refine vcC_cut (fun σ Z => Z = st.set d (rowL g (P ++ (B.take q ++ x :: B.drop q ++ S)))) (fun K hK => ?_) ?_
  · refine vcC_cut (fun σ Z => st = Z ∧ σ 0 = .own d g ∧ σ 10 = .sc (.int .i64 (m + q : Nat)) ∧ σ 13 = .sc (.int .i64 a)) (fun K hK => ?_) ?_
    · simp [s1]
      exact hK _ _ (by simp [s0, s10])
    clear s0 s1 s10 σ
    rintro σ Z ⟨rfl, s0, s10, s13⟩
    refine vcC_blk (fun σ Z => Z = st.set d (rowL g (P ++ (B.take q ++ x :: B.drop q ++ S)))) (fun K X hK hX hXj => ?_) hK
    refine vcC_loop [] (fun w σ Z => ∃ t : Nat, w = q - t ∧ t ≤ q ∧ Z = st.set d (rowL g (P ++ (B.take t ++ x :: B.drop t ++ S))) ∧ σ 0 = .own d g ∧ σ 10 = .sc (.int .i64 (m + q : Nat)) ∧ σ 13 = .sc (.int .i64 (a + t : Nat))) q ?_ ?_
    · refine ⟨0, by simp, by simp, ?_, s0, s10, by simp [s13]⟩
      rw [show P ++ (B.take 0 ++ x :: B.drop 0 ++ S) = L by simp [hL], set_same hd]
    clear s0 s10 s13 σ
    rintro w σ Z ⟨t, rfl, htq, rfl, s0, s10, s13⟩
    rcases Nat.lt_or_ge t q with h | h
    · have h' : (a : Int) + t < m + q - 1 := by omega
      refine vcC_cut (fun σ Z => Z = st.set d (rowL g (P ++ (B.take t ++ x :: B.drop t ++ S))) ∧ σ 0 = .own d g ∧ σ 10 = .sc (.int .i64 (m + q : Nat)) ∧ σ 13 = .sc (.int .i64 (a + t : Nat))) (fun K hK => ?_) ?_
      · simp [s10, s13, h']
        exact ⟨by unfold i64ok; omega, hK _ _ (by simp [s0, s10, s13])⟩
      clear s0 s10 s13 σ
      rintro σ Z ⟨rfl, s0, s10, s13⟩
      refine vcC_cut (fun σ Z => Z = st.set d (rowL g (P ++ (B.take (t + 1) ++ x :: B.drop (t + 1) ++ S))) ∧ σ 0 = .own d g ∧ σ 10 = .sc (.int .i64 (m + q : Nat)) ∧ σ 13 = .sc (.int .i64 (a + t : Nat))) (fun K hK2 => ?_) ?_
      · clear hK htgt hgt hle e1 LB La qa hL hd L
        have hlt : t < B.length := by omega
        obtain ⟨L, hL⟩ : ∃ L, L = P ++ (B.take t ++ x :: B.drop t ++ S) := ⟨_, rfl⟩
        have eL : L = (P ++ B.take t) ++ x :: ([] ++ B[t] :: (B.drop (t + 1) ++ S)) := by rw [hL, List.drop_eq_getElem_cons hlt]; simp only [List.append_assoc, List.cons_append, List.nil_append]
        obtain ⟨x1, x2⟩ := two_get (A := P ++ B.take t) (M := []) (x := x) (y := B[t]) (Z := B.drop (t + 1) ++ S) (j1 := a + t) (j2 := a + t + 1) (by simp; omega) (by simp; omega)
        have hsw := swap_two (A := P ++ B.take t) (M := []) (x := x) (y := B[t]) (Z := B.drop (t + 1) ++ S) (j1 := a + t) (j2 := a + t + 1) (by simp; omega) (by simp; omega)
        rw [← eL] at x1 x2 hsw
        obtain ⟨q1, x1⟩ := List.getElem?_eq_some_iff.1 x1
        obtain ⟨q2, x2⟩ := List.getElem?_eq_some_iff.1 x2
        have c1 : ((a : Int) + t).toNat = a + t := by omega
        have c2 : ((a : Int) + t + 1).toNat = a + t + 1 := by omega
        have m1 : (a : Int) + t < L.length := by omega
        have m2 : (a : Int) + t + 1 < L.length := by omega
        have n1 : (0 : Int) ≤ a + t := by omega
        have n2 : (0 : Int) ≤ a + t + 1 := by omega
        rw [← hL]
        simp [s0, s10, s13, gd, rowL, q1, q2, x1, x2]
        refine ⟨fun o r Z => if o = 15 then Z = st.set d (rowL g (L.set (a + t) B[t])) else Z = st.set d (rowL g ((L.set (a + t) B[t]).set (a + t + 1) x)), ?_⟩
        rw [vcLexM_cons, if_neg (by decide)]
        simp (decide := true) [s0, s10, s13, gd, rowL, q1, q2, x1, x2, m1, m2, n1, n2, c1, c2, Tm.cellsL_set, drop4]
        refine vcStayM_dir (by kernel_rfl) ?_; simp (decide := true) [s0, s10, s13, gd, rowL, q1, q2, x1, x2, m1, m2, n1, n2, c1, c2, Tm.cellsL_set, drop4]
        refine vcStayM_dir (by kernel_rfl) ?_; simp (decide := true) [s0, s10, s13, gd, rowL, q1, q2, x1, x2, m1, m2, n1, n2, c1, c2, Tm.cellsL_set, drop4]
        refine ⟨by first | (simp (decide := true) [s0, s10, s13, gd, rowL, q1, q2, x1, x2, m1, m2, n1, n2, c1, c2, Tm.cellsL_set, drop4]; done) | (simp (decide := true) [s0, s10, s13, gd, rowL, q1, q2, x1, x2, m1, m2, n1, n2, c1, c2, Tm.cellsL_set, drop4]; unfold i64ok; omega), ?_⟩; simp (decide := true) [s0, s10, s13, gd, rowL, q1, q2, x1, x2, m1, m2, n1, n2, c1, c2, Tm.cellsL_set, drop4]
        refine ⟨by first | (simp (decide := true) [s0, s10, s13, gd, rowL, q1, q2, x1, x2, m1, m2, n1, n2, c1, c2, Tm.cellsL_set, drop4]; done) | (simp (decide := true) [s0, s10, s13, gd, rowL, q1, q2, x1, x2, m1, m2, n1, n2, c1, c2, Tm.cellsL_set, drop4]; unfold i64ok; omega), ?_⟩; simp (decide := true) [s0, s10, s13, gd, rowL, q1, q2, x1, x2, m1, m2, n1, n2, c1, c2, Tm.cellsL_set, drop4]
        refine ⟨by unfold i64ok; omega, ?_⟩
        refine ⟨by first | (simp (decide := true) [s0, s10, s13, gd, rowL, q1, q2, x1, x2, m1, m2, n1, n2, c1, c2, Tm.cellsL_set, drop4]; done) | (simp (decide := true) [s0, s10, s13, gd, rowL, q1, q2, x1, x2, m1, m2, n1, n2, c1, c2, Tm.cellsL_set, drop4]; unfold i64ok; omega), ?_⟩; simp (decide := true) [s0, s10, s13, gd, rowL, q1, q2, x1, x2, m1, m2, n1, n2, c1, c2, Tm.cellsL_set, drop4]
        refine vcStayM_dir (by kernel_rfl) ?_; simp (decide := true) [s0, s10, s13, gd, rowL, q1, q2, x1, x2, m1, m2, n1, n2, c1, c2, Tm.cellsL_set, drop4]
        refine vcStayM_dir (by kernel_rfl) ?_; simp (decide := true) [s0, s10, s13, gd, rowL, q1, q2, x1, x2, m1, m2, n1, n2, c1, c2, Tm.cellsL_set, drop4]
        refine ⟨by unfold i64ok; omega, ?_⟩
        refine vcStayM_dir (by kernel_rfl) ?_; simp (decide := true) [s0, s10, s13, gd, rowL, q1, q2, x1, x2, m1, m2, n1, n2, c1, c2, Tm.cellsL_set, drop4]
        refine vcStayM_dir (by kernel_rfl) ?_; simp (decide := true) [s0, s10, s13, gd, rowL, q1, q2, x1, x2, m1, m2, n1, n2, c1, c2, Tm.cellsL_set, drop4]
        refine vcStayM_dir (by kernel_rfl) ?_; simp (decide := true) [s0, s10, s13, gd, rowL, q1, q2, x1, x2, m1, m2, n1, n2, c1, c2, Tm.cellsL_set, drop4]
        refine ⟨by first | (simp (decide := true) [s0, s10, s13, gd, rowL, q1, q2, x1, x2, m1, m2, n1, n2, c1, c2, Tm.cellsL_set, drop4]; done) | (simp (decide := true) [s0, s10, s13, gd, rowL, q1, q2, x1, x2, m1, m2, n1, n2, c1, c2, Tm.cellsL_set, drop4]; unfold i64ok; omega), ?_⟩; simp (decide := true) [s0, s10, s13, gd, rowL, q1, q2, x1, x2, m1, m2, n1, n2, c1, c2, Tm.cellsL_set, drop4]
        refine ⟨by first | (simp (decide := true) [s0, s10, s13, gd, rowL, q1, q2, x1, x2, m1, m2, n1, n2, c1, c2, Tm.cellsL_set, drop4]; done) | (simp (decide := true) [s0, s10, s13, gd, rowL, q1, q2, x1, x2, m1, m2, n1, n2, c1, c2, Tm.cellsL_set, drop4]; unfold i64ok; omega), ?_⟩; simp (decide := true) [s0, s10, s13, gd, rowL, q1, q2, x1, x2, m1, m2, n1, n2, c1, c2, Tm.cellsL_set, drop4]
        refine ⟨by first | (simp (decide := true) [s0, s10, s13, gd, rowL, q1, q2, x1, x2, m1, m2, n1, n2, c1, c2, Tm.cellsL_set, drop4]; done) | (simp (decide := true) [s0, s10, s13, gd, rowL, q1, q2, x1, x2, m1, m2, n1, n2, c1, c2, Tm.cellsL_set, drop4]; unfold i64ok; omega), ?_⟩; simp (decide := true) [s0, s10, s13, gd, rowL, q1, q2, x1, x2, m1, m2, n1, n2, c1, c2, Tm.cellsL_set, drop4]
        refine vcStayM_dir (by kernel_rfl) ?_; simp (decide := true) [s0, s10, s13, gd, rowL, q1, q2, x1, x2, m1, m2, n1, n2, c1, c2, Tm.cellsL_set, drop4]
        refine vcStayM_dir (by kernel_rfl) ?_; simp (decide := true) [s0, s10, s13, gd, rowL, q1, q2, x1, x2, m1, m2, n1, n2, c1, c2, Tm.cellsL_set, drop4]
        refine ⟨by simp, rfl, by simp (decide := true) [vcI, s0, s10, s13, gd, rowL, q1, q2, x1, x2, m1, m2, n1, n2, c1, c2, Tm.cellsL_set, drop4], ?_⟩
        rintro r Z1 hZ1 _
        simp at hZ1
        subst hZ1
        simp (decide := true) [s0, s10, s13, gd, rowL, q1, q2, x1, x2, m1, m2, n1, n2, c1, c2, Tm.cellsL_set, drop4]
        refine vcStayM_dir (by kernel_rfl) ?_; simp (decide := true) [s0, s10, s13, gd, rowL, q1, q2, x1, x2, m1, m2, n1, n2, c1, c2, Tm.cellsL_set, drop4]
        refine ⟨by simp, rfl, by simp (decide := true) [vcI, s0, s10, s13, gd, rowL, q1, q2, x1, x2, m1, m2, n1, n2, c1, c2, Tm.cellsL_set, drop4], ?_⟩
        rintro r Z1 hZ1 _
        simp at hZ1
        subst hZ1
        simp (decide := true) [s0, s10, s13, gd, rowL, q1, q2, x1, x2, m1, m2, n1, n2, c1, c2, Tm.cellsL_set, drop4]
        refine hK2 _ _ ⟨?_, by simp [s0], by simp [s10], by simp [s13]⟩
        have e : P ++ B.take t ++ B[t] :: ([] ++ x :: (B.drop (t + 1) ++ S)) = P ++ (B.take (t + 1) ++ x :: B.drop (t + 1) ++ S) := by
          rw [List.take_add_one, List.getElem?_eq_getElem hlt]; simp only [List.append_assoc, List.cons_append, List.nil_append, Option.toList]
        rw [hsw, e]; rfl
      clear s0 s10 s13 σ
      rintro σ Z ⟨rfl, s0, s10, s13⟩
      simp [s13]
      exact ⟨by unfold i64ok; omega, q - (t + 1), by omega, t + 1, rfl, by omega, by simp [rowL], by simp [s0], by simp [s10], by omega⟩
    · have h' : ¬ (a : Int) + t < m + q - 1 := by omega
      obtain rfl : t = q := by omega
      simp [s10, s13, h', hX, hXj]
      exact ⟨by unfold i64ok; omega, hK _ _ (by simp [rowL])⟩
  rintro σ Z rfl
  rw [← htgt]
  simp only [vcC]
  exact endP_mk (.tup []) (by simp) (by simp) ⟨rfl, (Pre.refl _).cut (fix_row hfix _ _ _) (by simp)⟩
end Go.T1
end

section
open Go Go.Ab Go.Proofs
namespace Go.T1
set_option maxRecDepth 100000 in
theorem sym2_c (P A S : List Tm) (y : Tm) (hA : A ≠ []) (hA1 : A.length ≠ 1) (hD : Dom (A ++ [y])) (sA : Sorted A) (hsz : P.length + A.length + 1 + S.length ≤ 256) (st : St) (d g : Nat) (hd : st[d]? = some (rowL g (P ++ (A ++ (y :: S))))) :
    ICall T Try.prog 54 [.own d g, .sc (.int .i64 P.length), .sc (.int .i64 (P.length + A.length : Nat)), .sc (.int .i64 (P.length + A.length + 1 : Nat)), byF] st (fun r st' => r = .tup [] ∧ st' = st.set d (rowL g (P ++ (sortT (A ++ [y]) ++ S)))) := by
  obtain ⟨a, ha⟩ : ∃ a, a = P.length := ⟨_, rfl⟩
  obtain ⟨m, hm⟩ : ∃ m, m = P.length + A.length := ⟨_, rfl⟩
  obtain ⟨b, hb⟩ : ∃ b, b = P.length + A.length + 1 := ⟨_, rfl⟩
  rw [← hb, ← hm, ← ha]
  refine ICall.of_vc hT [] symIm follows Try.call54 Try.func54 rfl (drawsOk_of3 (by kernel_rfl)) fun hfix => ?_
  unfold Try.f54
  have pA : 0 < A.length := List.length_pos_iff.2 hA
  have e0 : (m : Int) - a = A.length := by omega
  have e0' : ¬ (A.length : Int) = 1 := by omega
  have e1 : (b : Int) - m = 1 := by omega
  have gd : ∀ b, (st.set d b)[d]? = some b := fun b => get_set hd
  obtain ⟨L, hL⟩ : ∃ L, L = P ++ (A ++ (y :: S)) := ⟨_, rfl⟩
  rw [← hL] at hd
  have qm : m < L.length := by rw [hL, hm]; simp
  have Lm : L[m] = y := by subst hL hm; simp
  have LA : ∀ (q : Nat) (h : q < A.length), ∃ h', L[a + q]'h' = A[q] := fun q h => ⟨by rw [hL, ha]; simp; omega, by
    subst hL ha
    simp [h]⟩
  dsimp only
  refine vcC_cut (fun σ Z => σ 0 = .own d g ∧ σ 1 = .sc (.int .i64 a) ∧ σ 2 = .sc (.int .i64 m) ∧ σ 3 = .sc (.int .i64 b) ∧ σ 4 = byF ∧ st = Z) (fun K hK => ?_) ?_
  · simp [e0, e0', hA1]
    refine ⟨by unfold i64ok; omega, hK _ _ ?_⟩
    simp
  rintro σ Z ⟨s0, s1, s2, s3, s4, rfl⟩
  refine vcC_cut (fun _ _ => False) (fun K0 _ => ?_) (fun _ _ h => h.elim)
  refine vcC_cut (fun σ Z => σ 80 = .sc (.bool true) ∧ σ 0 = .own d g ∧ σ 1 = .sc (.int .i64 a) ∧ σ 2 = .sc (.int .i64 m) ∧ σ 3 = .sc (.int .i64 b) ∧ σ 4 = byF ∧ st = Z) (fun K hK => ?_) ?_
  · simp [s2, s3, e1]
    refine ⟨by unfold i64ok; omega, hK _ _ ?_⟩
    simp [s0, s1, s2, s3, s4]
  clear s0 s1 s2 s3 s4 σ
  rintro σ Z ⟨s80, s0, s1, s2, s3, s4, rfl⟩
  refine vcC_condT (by simp [s80]) ?_
  refine vcC_cut2 (fun σ Z' => σ 0 = .own d g ∧ σ 2 = .sc (.int .i64 m) ∧ σ 4 = byF ∧ σ 14 = .sc (.int .i64 (a + 0 : Nat)) ∧ σ 15 = .sc (.int .i64 (a + A.length : Nat)) ∧ st = Z') (fun K hK => ?_) ?_
  · simp [s1, s2]
    refine hK _ _ ?_
    simp [s0, s2, s4]
    omega
  clear s0 s1 s2 s3 s4 s80 σ
  rintro σ Z' ⟨s0, s2, s4, s14, s15, rfl⟩
  obtain ⟨Q, hQ⟩ : ∃ Q : Slots → St → Prop, Q = fun σ Z' => ∃ q : Nat, q ≤ A.length ∧ (∀ h : q < A.length, le y A[q]) ∧ (∀ h : 0 < q, ∀ h' : q - 1 < A.length, le A[q - 1] y) ∧ st = Z' ∧ σ 0 = .own d g ∧ σ 2 = .sc (.int .i64 m) ∧ σ 14 = .sc (.int .i64 (a + q : Nat)) := ⟨_, rfl⟩
  refine vcC_cut Q (fun K hK => ?_) ?_
  · refine vcC_blk Q (fun K X hK hX hXj => ?_) hK
    refine vcC_loop [] (fun w σ Z' => ∃ i j : Nat, w = j - i ∧ i ≤ j ∧ j ≤ A.length ∧ (∀ h : j < A.length, le y A[j]) ∧ (∀ h : 0 < i, ∀ h' : i - 1 < A.length, le A[i - 1] y) ∧ st = Z' ∧ σ 0 = .own d g ∧ σ 2 = .sc (.int .i64 m) ∧ σ 4 = byF ∧ σ 14 = .sc (.int .i64 (a + i : Nat)) ∧ σ 15 = .sc (.int .i64 (a + j : Nat))) A.length ?_ ?_
    · refine ⟨0, A.length, by simp, by simp, by simp, fun h => (by omega), fun h => (by omega), rfl, s0, s2, s4, s14, s15⟩
    clear s0 s2 s4 s14 s15 σ
    rintro w σ Z' ⟨i, j, rfl, hij, hj, hgt, hle, rfl, s0, s2, s4, s14, s15⟩
    rcases Nat.lt_or_ge i j with h | h
    · have h' : (a : Int) + i < a + j := by omega
      obtain ⟨k, hk1, hk2, hk⟩ : ∃ k : Nat, i ≤ k ∧ k < j ∧ ((a : Int) + i + (a + j)) / 2 = a + k := ⟨(i + j) / 2, by omega, by omega, by omega⟩
      obtain ⟨lk, xk⟩ := LA k (by omega)
      have c1 : ((a : Int) + k).toNat = a + k := by omega
      have n1 : (0 : Int) ≤ a + k := by omega
      have n2 : (a : Int) + k < L.length := by omega
      have l1 : a + j ≤ 256 := by omega
      simp [s14, s15, h, h', hk, s0, s2, s4, hd, rowL, c1, n1, n2, qm, Lm, xk, lk]
      refine ⟨by unfold i64ok; omega, by omega, by omega, by unfold i64ok; omega, ?_⟩
      refine vcCall_at (by_c y (A[k]'(by omega)) (hD.1 _ (List.mem_append.2 (.inr (List.mem_cons_self ..)))) (hD.1 _ (List.mem_append.2 (.inl (List.getElem_mem _))))) ?_
      simp [s14, s15, s0, s2, s4]
      refine ⟨fun hge2 => ?_, fun hlt2 => ?_⟩
      · refine ⟨by unfold i64ok; omega, j - (k + 1), by omega, k + 1, j, rfl, by omega, hj, hgt, fun _ _ => ?_, by simp; try omega⟩
        simp only [Nat.add_sub_cancel]
        unfold le; rw [ordT_anti y (A[k]'(by omega))]; simp only; omega
      · refine ⟨k - i, by omega, i, k, rfl, by omega, by omega, fun _ => ?_, hle, by simp; try omega⟩
        exact Int.le_of_lt hlt2
    · have h' : ¬ (a : Int) + i < a + j := by omega
      simp [s14, s15, h, h', hX, hXj]
      refine hK _ _ ?_
      rw [hQ]
      exact ⟨i, by omega, fun h1 => by (have := hgt (by omega); simpa [show j = i by omega] using this), hle, rfl, by simp [s0], by simp [s2], by simp [s14]⟩
  clear s0 s2 s4 s14 s15 σ
  intro σ Z hq
  rw [hQ] at hq
  clear hQ Q
  obtain ⟨q, hq, hgt, hle, rfl, s0, s2, s14⟩ := hq
  have htgt : sortT (A ++ [y]) = A.take q ++ y :: A.drop q := by
    rw [one_core hD sA hq hgt fun h => hle h (by omega)]
  have l1 : a + A.length + 1 ≤ 256 := by omega
  refine vcC_cut (fun σ Z => Z = st.set d (rowL g (P ++ (A.take q ++ y :: A.drop q ++ S)))) (fun K hK => ?_) ?_
  · refine vcC_cut (fun σ Z => st = Z ∧ σ 0 = .own d g ∧ σ 14 = .sc (.int .i64 (a + q : Nat)) ∧ σ 17 = .sc (.int .i64 (a + A.length : Nat))) (fun K hK => ?_) ?_
    · simp [s2]
      exact hK _ _ (by simp [s0, s14]; omega)
    clear s0 s2 s14 σ
    rintro σ Z ⟨rfl, s0, s14, s17⟩
    refine vcC_blk (fun σ Z => Z = st.set d (rowL g (P ++ (A.take q ++ y :: A.drop q ++ S)))) (fun K X hK hX hXj => ?_) hK
    refine vcC_loop [] (fun w σ Z => ∃ t : Nat, w = t ∧ q ≤ t ∧ t ≤ A.length ∧ Z = st.set d (rowL g (P ++ (A.take t ++ y :: A.drop t ++ S))) ∧ σ 0 = .own d g ∧ σ 14 = .sc (.int .i64 (a + q : Nat)) ∧ σ 17 = .sc (.int .i64 (a + t : Nat))) A.length ?_ ?_
    · refine ⟨A.length, by simp, hq, by simp, ?_, s0, s14, by simp [s17]⟩
      rw [show P ++ (A.take A.length ++ y :: A.drop A.length ++ S) = L by simp [hL], set_same hd]
    clear s0 s14 s17 σ
    rintro w σ Z ⟨t, rfl, htq, hta, rfl, s0, s14, s17⟩
    rcases Nat.lt_or_ge q w with h | h
    · have h' : (a : Int) + q < a + w := by omega
      obtain ⟨u, rfl⟩ : ∃ u, w = u + 1 := ⟨w - 1, by omega⟩
      refine vcC_cut (fun σ Z => Z = st.set d (rowL g (P ++ (A.take (u + 1) ++ y :: A.drop (u + 1) ++ S))) ∧ σ 0 = .own d g ∧ σ 14 = .sc (.int .i64 (a + q : Nat)) ∧ σ 17 = .sc (.int .i64 (a + (u + 1) : Nat))) (fun K hK => ?_) ?_
      · have h'' : (q : Int) < u + 1 := by omega
        simp [s14, s17, h'']
        trace_state
        exact hK _ _ (by simp [s0, s14, s17])
      clear s0 s14 s17 σ
      rintro σ Z ⟨rfl, s0, s14, s17⟩
      refine vcC_cut (fun σ Z => Z = st.set d (rowL g (P ++ (A.take u ++ y :: A.drop u ++ S))) ∧ σ 0 = .own d g ∧ σ 14 = .sc (.int .i64 (a + q : Nat)) ∧ σ 17 = .sc (.int .i64 (a + (u + 1) : Nat))) (fun K hK2 => ?_) ?_
      · clear hK htgt hgt hle e1 LA Lm qm hL hd L
        have s17' : σ 17 = .sc (.int .i64 ((a : Int) + u + 1)) := by rw [s17]; simp; omega
        have hlt : u < A.length := by omega
        obtain ⟨L, hL⟩ : ∃ L, L = P ++ (A.take (u + 1) ++ y :: A.drop (u + 1) ++ S) := ⟨_, rfl⟩
        have eL : L = (P ++ A.take u) ++ A[u] :: ([] ++ y :: (A.drop (u + 1) ++ S)) := by rw [hL, List.take_add_one, List.getElem?_eq_getElem hlt]; simp only [List.append_assoc, List.cons_append, List.nil_append, Option.toList]
        obtain ⟨x2, x1⟩ := two_get (A := P ++ A.take u) (M := []) (x := A[u]) (y := y) (Z := A.drop (u + 1) ++ S) (j1 := a + u) (j2 := a + u + 1) (by simp; omega) (by simp; omega)
        have hsw := swap_two' (A := P ++ A.take u) (M := []) (x := A[u]) (y := y) (Z := A.drop (u + 1) ++ S) (j1 := a + u) (j2 := a + u + 1) (by simp; omega) (by simp; omega)
        rw [← eL] at x1 x2 hsw
        obtain ⟨q1, x1⟩ := List.getElem?_eq_some_iff.1 x1
        obtain ⟨q2, x2⟩ := List.getElem?_eq_some_iff.1 x2
        have c1 : ((a : Int) + u).toNat = a + u := by omega
        have c2 : ((a : Int) + u + 1).toNat = a + u + 1 := by omega
        have m1 : (a : Int) + u < L.length := by omega
        have m2 : (a : Int) + u + 1 < L.length := by omega
        have n1 : (0 : Int) ≤ a + u := by omega
        have n2 : (0 : Int) ≤ a + u + 1 := by omega
        rw [← hL]
        simp [s0, s14, s17', gd, rowL, q1, q2, x1, x2]
        refine ⟨fun o r Z => if o = 15 then Z = st.set d (rowL g (L.set (a + u + 1) (A[u]'hlt))) else Z = st.set d (rowL g ((L.set (a + u + 1) (A[u]'hlt)).set (a + u) y)), ?_⟩
        rw [vcLexM_cons, if_neg (by decide)]
        simp (decide := true) [s0, s14, s17', gd, rowL, q1, q2, x1, x2, m1, m2, n1, n2, c1, c2, Tm.cellsL_set, drop4]
        refine vcStayM_dir (by kernel_rfl) ?_; simp (decide := true) [s0, s14, s17', gd, rowL, q1, q2, x1, x2, m1, m2, n1, n2, c1, c2, Tm.cellsL_set, drop4]
        refine vcStayM_dir (by kernel_rfl) ?_; simp (decide := true) [s0, s14, s17', gd, rowL, q1, q2, x1, x2, m1, m2, n1, n2, c1, c2, Tm.cellsL_set, drop4]
        refine ⟨by first | (simp (decide := true) [s0, s14, s17', gd, rowL, q1, q2, x1, x2, m1, m2, n1, n2, c1, c2, Tm.cellsL_set, drop4]; done) | (simp (decide := true) [s0, s14, s17', gd, rowL, q1, q2, x1, x2, m1, m2, n1, n2, c1, c2, Tm.cellsL_set, drop4]; unfold i64ok; omega), ?_⟩; simp (decide := true) [s0, s14, s17', gd, rowL, q1, q2, x1, x2, m1, m2, n1, n2, c1, c2, Tm.cellsL_set, drop4]
        refine ⟨by first | (simp (decide := true) [s0, s14, s17', gd, rowL, q1, q2, x1, x2, m1, m2, n1, n2, c1, c2, Tm.cellsL_set, drop4]; done) | (simp (decide := true) [s0, s14, s17', gd, rowL, q1, q2, x1, x2, m1, m2, n1, n2, c1, c2, Tm.cellsL_set, drop4]; unfold i64ok; omega), ?_⟩; simp (decide := true) [s0, s14, s17', gd, rowL, q1, q2, x1, x2, m1, m2, n1, n2, c1, c2, Tm.cellsL_set, drop4]
        refine ⟨by unfold i64ok; omega, ?_⟩
        refine ⟨by first | (simp (decide := true) [s0, s14, s17', gd, rowL, q1, q2, x1, x2, m1, m2, n1, n2, c1, c2, Tm.cellsL_set, drop4]; done) | (simp (decide := true) [s0, s14, s17', gd, rowL, q1, q2, x1, x2, m1, m2, n1, n2, c1, c2, Tm.cellsL_set, drop4]; unfold i64ok; omega), ?_⟩; simp (decide := true) [s0, s14, s17', gd, rowL, q1, q2, x1, x2, m1, m2, n1, n2, c1, c2, Tm.cellsL_set, drop4]
        refine vcStayM_dir (by kernel_rfl) ?_; simp (decide := true) [s0, s14, s17', gd, rowL, q1, q2, x1, x2, m1, m2, n1, n2, c1, c2, Tm.cellsL_set, drop4]
        refine vcStayM_dir (by kernel_rfl) ?_; simp (decide := true) [s0, s14, s17', gd, rowL, q1, q2, x1, x2, m1, m2, n1, n2, c1, c2, Tm.cellsL_set, drop4]
        refine ⟨by unfold i64ok; omega, ?_⟩
        refine vcStayM_dir (by kernel_rfl) ?_; simp (decide := true) [s0, s14, s17', gd, rowL, q1, q2, x1, x2, m1, m2, n1, n2, c1, c2, Tm.cellsL_set, drop4]
        refine vcStayM_dir (by kernel_rfl) ?_; simp (decide := true) [s0, s14, s17', gd, rowL, q1, q2, x1, x2, m1, m2, n1, n2, c1, c2, Tm.cellsL_set, drop4]
        refine vcStayM_dir (by kernel_rfl) ?_; simp (decide := true) [s0, s14, s17', gd, rowL, q1, q2, x1, x2, m1, m2, n1, n2, c1, c2, Tm.cellsL_set, drop4]
        refine ⟨by first | (simp (decide := true) [s0, s14, s17', gd, rowL, q1, q2, x1, x2, m1, m2, n1, n2, c1, c2, Tm.cellsL_set, drop4]; done) | (simp (decide := true) [s0, s14, s17', gd, rowL, q1, q2, x1, x2, m1, m2, n1, n2, c1, c2, Tm.cellsL_set, drop4]; unfold i64ok; omega), ?_⟩; simp (decide := true) [s0, s14, s17', gd, rowL, q1, q2, x1, x2, m1, m2, n1, n2, c1, c2, Tm.cellsL_set, drop4]
        refine ⟨by first | (simp (decide := true) [s0, s14, s17', gd, rowL, q1, q2, x1, x2, m1, m2, n1, n2, c1, c2, Tm.cellsL_set, drop4]; done) | (simp (decide := true) [s0, s14, s17', gd, rowL, q1, q2, x1, x2, m1, m2, n1, n2, c1, c2, Tm.cellsL_set, drop4]; unfold i64ok; omega), ?_⟩; simp (decide := true) [s0, s14, s17', gd, rowL, q1, q2, x1, x2, m1, m2, n1, n2, c1, c2, Tm.cellsL_set, drop4]
        refine ⟨by first | (simp (decide := true) [s0, s14, s17', gd, rowL, q1, q2, x1, x2, m1, m2, n1, n2, c1, c2, Tm.cellsL_set, drop4]; done) | (simp (decide := true) [s0, s14, s17', gd, rowL, q1, q2, x1, x2, m1, m2, n1, n2, c1, c2, Tm.cellsL_set, drop4]; unfold i64ok; omega), ?_⟩; simp (decide := true) [s0, s14, s17', gd, rowL, q1, q2, x1, x2, m1, m2, n1, n2, c1, c2, Tm.cellsL_set, drop4]
        refine vcStayM_dir (by kernel_rfl) ?_; simp (decide := true) [s0, s14, s17', gd, rowL, q1, q2, x1, x2, m1, m2, n1, n2, c1, c2, Tm.cellsL_set, drop4]
        refine vcStayM_dir (by kernel_rfl) ?_; simp (decide := true) [s0, s14, s17', gd, rowL, q1, q2, x1, x2, m1, m2, n1, n2, c1, c2, Tm.cellsL_set, drop4]
        refine ⟨by simp, rfl, by simp (decide := true) [vcI, s0, s14, s17', gd, rowL, q1, q2, x1, x2, m1, m2, n1, n2, c1, c2, Tm.cellsL_set, drop4], ?_⟩
        rintro r Z1 hZ1 _
        simp at hZ1
        subst hZ1
        simp (decide := true) [s0, s14, s17', gd, rowL, q1, q2, x1, x2, m1, m2, n1, n2, c1, c2, Tm.cellsL_set, drop4]
        refine vcStayM_dir (by kernel_rfl) ?_; simp (decide := true) [s0, s14, s17', gd, rowL, q1, q2, x1, x2, m1, m2, n1, n2, c1, c2, Tm.cellsL_set, drop4]
        refine ⟨by simp, rfl, by simp (decide := true) [vcI, s0, s14, s17', gd, rowL, q1, q2, x1, x2, m1, m2, n1, n2, c1, c2, Tm.cellsL_set, drop4], ?_⟩
        rintro r Z1 hZ1 _
        simp at hZ1
        subst hZ1
        simp (decide := true) [s0, s14, s17', gd, rowL, q1, q2, x1, x2, m1, m2, n1, n2, c1, c2, Tm.cellsL_set, drop4]
        refine hK2 _ _ ⟨?_, by simp [s0], by simp [s14], by simp [s17]⟩
        have e : P ++ A.take u ++ y :: ([] ++ A[u] :: (A.drop (u + 1) ++ S)) = P ++ (A.take u ++ y :: A.drop u ++ S) := by
          rw [List.drop_eq_getElem_cons hlt]; simp only [List.append_assoc, List.cons_append, List.nil_append]
        rw [hsw, e]; rfl
      clear s0 s14 s17 σ
      rintro σ Z ⟨rfl, s0, s14, s17⟩
      simp [s17]
      exact ⟨by unfold i64ok; omega, u, by omega, by omega, by omega, by simp [rowL], by simp [s0], by simp [s14], by omega⟩
    · have h' : ¬ (a : Int) + q < a + w := by omega
      obtain rfl : w = q := by omega
      simp [s14, s17, h', hX, hXj]
      exact hK _ _ (by simp [rowL])
  rintro σ Z rfl
  rw [← htgt]
  simp only [vcC]
  exact endP_mk (.tup []) (by simp) (by simp) ⟨rfl, (Pre.refl _).cut (fix_row hfix _ _ _) (by simp)⟩
end Go.T1
end

section
open Go Go.Ab Go.Proofs
namespace Go.T1
/-- symMerge does it. -/
def SymOk (P A B S : List Tm) : Prop := ∀ (st : St) (d g : Nat), st[d]? = some (rowL g (P ++ (A ++ (B ++ S)))) →
  ICall T Try.prog 54 [.own d g, .sc (.int .i64 P.length), .sc (.int .i64 (P.length + A.length : Nat)), .sc (.int .i64 (P.length + A.length + B.length : Nat)), byF] st (fun r st' => r = .tup [] ∧ st' = st.set d (rowL g (P ++ (sortT (A ++ B) ++ S))))
def leAt (L : List Tm) (i j : Nat) : Prop := ∀ (h1 : i < L.length) (h2 : j < L.length), le L[i] L[j]
set_option maxRecDepth 100000 in
theorem symG_c (P A B S : List Tm) (hA : 2 ≤ A.length) (hB : 2 ≤ B.length) (hD : Dom (A ++ B)) (sA : Sorted A) (sB : Sorted B) (hsz : P.length + A.length + B.length + S.length ≤ 256)
    (IH : ∀ P' A' B' S' : List Tm, A' ≠ [] → B' ≠ [] → A'.length + B'.length < A.length + B.length → Dom (A' ++ B') → Sorted A' → Sorted B' → P'.length + A'.length + B'.length + S'.length ≤ 256 → SymOk P' A' B' S') : SymOk P A B S := by
  intro st d g hd
  obtain ⟨a, ha⟩ : ∃ a, a = P.length := ⟨_, rfl⟩
  obtain ⟨m, hm⟩ : ∃ m, m = P.length + A.length := ⟨_, rfl⟩
  obtain ⟨b, hb⟩ : ∃ b, b = P.length + A.length + B.length := ⟨_, rfl⟩
  rw [← hb, ← hm, ← ha]
  refine ICall.of_vc hT [] symIm follows Try.call54 Try.func54 rfl (drawsOk_of3 (by kernel_rfl)) fun hfix => ?_
  unfold Try.f54
  have e0 : (m : Int) - a = A.length := by omega
  have e0' : ¬ (A.length : Int) = 1 := by omega
  have e0n : ¬ A.length = 1 := by omega
  have e1 : (b : Int) - m = B.length := by omega
  have e1' : ¬ (B.length : Int) = 1 := by omega
  have e1n : ¬ B.length = 1 := by omega
  have gd : ∀ b, (st.set d b)[d]? = some b := fun b => get_set hd
  obtain ⟨L, hL⟩ : ∃ L, L = P ++ (A ++ (B ++ S)) := ⟨_, rfl⟩
  rw [← hL] at hd
  have LA : ∀ (q : Nat) (h : q < A.length), ∃ h', L[a + q]'h' = A[q] := fun q h => ⟨by rw [hL, ha]; simp; omega, by
    subst hL ha
    simp [h]⟩
  have LB : ∀ (q : Nat) (h : q < B.length), ∃ h', L[m + q]'h' = B[q] := fun q h => by
    have e : L[m + q]? = some B[q] := by
      subst hL hm
      rw [← List.append_assoc, List.getElem?_append_right (by simp), List.length_append, Nat.add_sub_cancel_left, List.getElem?_append_left h, List.getElem?_eq_getElem h]
    exact List.getElem?_eq_some_iff.1 e
  obtain ⟨mid, hmid, hmid2⟩ : ∃ mid : Nat, ((a : Int) + b) / 2 = mid ∧ mid = (a + b) / 2 := ⟨(a + b) / 2, by omega, rfl⟩
  obtain ⟨lo, hi, hlo⟩ : ∃ lo hi : Nat, (mid < m ∧ lo + b = mid + m ∧ hi = mid) ∨ (m ≤ mid ∧ lo = a ∧ hi = m) := by
    rcases Nat.lt_or_ge mid m with h | h
    · exact ⟨mid + m - b, mid, .inl ⟨h, by omega, rfl⟩⟩
    · exact ⟨a, m, .inr ⟨h, rfl, rfl⟩⟩
  have hlh : a ≤ lo ∧ lo ≤ hi ∧ hi ≤ m ∧ hi ≤ mid := by omega
  have hb256 : b ≤ 256 := by omega
  dsimp only
  refine vcC_cut (fun σ Z => σ 0 = .own d g ∧ σ 1 = .sc (.int .i64 a) ∧ σ 2 = .sc (.int .i64 m) ∧ σ 3 = .sc (.int .i64 b) ∧ σ 4 = byF ∧ st = Z) (fun K hK => ?_) ?_
  · simp [e0, e0', e0n]
    refine ⟨by unfold i64ok; omega, hK _ _ ?_⟩
    simp
  rintro σ Z ⟨s0, s1, s2, s3, s4, rfl⟩
  refine vcC_cut (fun σ Z => σ 0 = .own d g ∧ σ 1 = .sc (.int .i64 a) ∧ σ 2 = .sc (.int .i64 m) ∧ σ 3 = .sc (.int .i64 b) ∧ σ 4 = byF ∧ st = Z) (fun K hK => ?_) ?_
  · simp [s2, s3, e1, e1', e1n]
    refine ⟨by unfold i64ok; omega, hK _ _ ?_⟩
    simp [s0, s1, s2, s3, s4]
  clear s0 s1 s2 s3 s4 σ
  rintro σ Z ⟨s0, s1, s2, s3, s4, rfl⟩
  refine vcC_cut3 (fun σ Z => σ 0 = .own d g ∧ σ 1 = .sc (.int .i64 a) ∧ σ 2 = .sc (.int .i64 m) ∧ σ 3 = .sc (.int .i64 b) ∧ σ 4 = byF ∧ σ 18 = .sc (.int .i64 mid) ∧ σ 19 = .sc (.int .i64 (mid + m : Nat)) ∧ st = Z) (fun K hK => ?_) ?_
  · simp [s1, s2, s3, hmid]
    refine ⟨by unfold i64ok; omega, by omega, by omega, by unfold i64ok; omega, by unfold i64ok; omega, hK _ _ ?_⟩
    simp [s0, s1, s2, s3, s4]
  clear s0 s1 s2 s3 s4 σ
  rintro σ Z ⟨s0, s1, s2, s3, s4, s18, s19, rfl⟩
  refine vcC_cut (fun σ Z => σ 0 = .own d g ∧ σ 1 = .sc (.int .i64 a) ∧ σ 2 = .sc (.int .i64 m) ∧ σ 3 = .sc (.int .i64 b) ∧ σ 4 = byF ∧ σ 18 = .sc (.int .i64 mid) ∧ σ 19 = .sc (.int .i64 (mid + m : Nat)) ∧ σ 20 = .sc (.int .i64 lo) ∧ σ 21 = .sc (.int .i64 hi) ∧ st = Z) (fun K hK => ?_) ?_
  · rcases hlo with ⟨h1, h2, h3⟩ | ⟨h1, h2, h3⟩
    · have h1' : (mid : Int) < m := by omega
      simp [s2, s3, s18, s19, h1]
      refine ⟨by unfold i64ok; omega, hK _ _ ?_⟩
      simp [s0, s1, s2, s3, s4, s18, s19]
      omega
    · have h1' : ¬ (mid : Int) < m := by omega
      have h1'' : ¬ mid < m := by omega
      simp [s1, s2, s3, s18, s19, h1'']
      refine hK _ _ ?_
      simp [s0, s1, s2, s3, s4, s18, s19]
      omega
  clear s0 s1 s2 s3 s4 s18 s19 σ
  rintro σ Z ⟨s0, s1, s2, s3, s4, s18, s19, s20, s21, rfl⟩
  refine vcC_cut (fun σ Z => σ 0 = .own d g ∧ σ 1 = .sc (.int .i64 a) ∧ σ 2 = .sc (.int .i64 m) ∧ σ 3 = .sc (.int .i64 b) ∧ σ 4 = byF ∧ σ 18 = .sc (.int .i64 mid) ∧ σ 19 = .sc (.int .i64 (mid + m : Nat)) ∧ σ 20 = .sc (.int .i64 lo) ∧ σ 21 = .sc (.int .i64 hi) ∧ σ 22 = .sc (.int .i64 ((mid : Int) + m - 1)) ∧ st = Z) (fun K hK => ?_) ?_
  · simp [s19]
    refine ⟨by unfold i64ok; omega, hK _ _ ?_⟩
    simp [s0, s1, s2, s3, s4, s18, s19, s20, s21]
  clear s0 s1 s2 s3 s4 s18 s19 s20 s21 σ
  rintro σ Z ⟨s0, s1, s2, s3, s4, s18, s19, s20, s21, s22, rfl⟩
  obtain ⟨Q, hQ⟩ : ∃ Q : Slots → St → Prop, Q = fun σ Z => ∃ s : Nat, lo ≤ s ∧ s ≤ hi ∧ (s = lo ∨ leAt L (s - 1) (mid + m - s)) ∧ (s = hi ∨ leAt L (mid + m - 1 - s) s) ∧ σ 0 = .own d g ∧ σ 1 = .sc (.int .i64 a) ∧ σ 2 = .sc (.int .i64 m) ∧ σ 3 = .sc (.int .i64 b) ∧ σ 4 = byF ∧ σ 18 = .sc (.int .i64 mid) ∧ σ 19 = .sc (.int .i64 (mid + m : Nat)) ∧ σ 20 = .sc (.int .i64 s) ∧ st = Z := ⟨_, rfl⟩
  refine vcC_cut Q (fun K hK => ?_) ?_
  · refine vcC_blk Q (fun K X hK hX hXj => ?_) hK
    refine vcC_loop [] (fun w σ Z => ∃ i j : Nat, w = j - i ∧ lo ≤ i ∧ i ≤ j ∧ j ≤ hi ∧ (i = lo ∨ leAt L (i - 1) (mid + m - i)) ∧ (j = hi ∨ leAt L (mid + m - 1 - j) j) ∧ σ 0 = .own d g ∧ σ 1 = .sc (.int .i64 a) ∧ σ 2 = .sc (.int .i64 m) ∧ σ 3 = .sc (.int .i64 b) ∧ σ 4 = byF ∧ σ 18 = .sc (.int .i64 mid) ∧ σ 19 = .sc (.int .i64 (mid + m : Nat)) ∧ σ 20 = .sc (.int .i64 i) ∧ σ 21 = .sc (.int .i64 j) ∧ σ 22 = .sc (.int .i64 ((mid : Int) + m - 1)) ∧ st = Z) (hi - lo) ?_ ?_
    · exact ⟨lo, hi, rfl, by omega, by omega, by omega, .inl rfl, .inl rfl, s0, s1, s2, s3, s4, s18, s19, s20, s21, s22, rfl⟩
    clear s0 s1 s2 s3 s4 s18 s19 s20 s21 s22 σ
    rintro w σ Z ⟨i, j, rfl, hi1, hij, hj, hle, hgt, s0, s1, s2, s3, s4, s18, s19, s20, s21, s22, rfl⟩
    rcases Nat.lt_or_ge i j with h | h
    · obtain ⟨k, hk1, hk2, hk⟩ : ∃ k : Nat, i ≤ k ∧ k < j ∧ ((i : Int) + j) / 2 = k := ⟨(i + j) / 2, by omega, by omega, by omega⟩
      obtain ⟨l1, x1⟩ := LA (k - a) (by omega)
      obtain ⟨l2, x2⟩ := LB (mid + m - 1 - k - m) (by omega)
      have k1 : a + (k - a) = k := by omega
      have k2 : m + (mid + m - 1 - k - m) = mid + m - 1 - k := by omega
      simp only [k1] at l1 x1
      simp only [k2] at l2 x2
      have c1 : ((mid : Int) + m - 1 - k).toNat = mid + m - 1 - k := by omega
      have n1 : (0 : Int) ≤ (mid : Int) + m - 1 - k := by omega
      have n2 : (mid : Int) + m - 1 - k < L.length := by omega
      simp [s0, s4, s20, s21, s22, h, hk, hd, rowL, c1, n1, n2, l1, l2, x1, x2]
      refine ⟨by unfold i64ok; omega, by omega, by omega, by unfold i64ok; omega, ?_⟩
      refine ⟨by unfold i64ok; omega, by omega, ?_⟩
      refine vcCall_at (by_c (B[mid + m - 1 - k - m]'(by omega)) (A[k - a]'(by omega)) (hD.1 _ (List.mem_append.2 (.inr (List.getElem_mem _)))) (hD.1 _ (List.mem_append.2 (.inl (List.getElem_mem _))))) ?_
      simp [s0, s1, s2, s3, s4, s18, s19, s20, s21, s22]
      refine ⟨fun hge2 => ?_, fun hlt2 => ?_⟩
      · refine ⟨by unfold i64ok; omega, j - (k + 1), by omega, k + 1, j, rfl, by omega, by omega, hj, .inr ?_, hgt, by simp; try omega⟩
        intro g1 g2
        have e2 : mid + m - (k + 1) = mid + m - 1 - k := by omega
        simp only [Nat.add_sub_cancel, e2, x1, x2]
        unfold le; rw [ordT_anti (B[mid + m - 1 - k - m]'(by omega)) (A[k - a]'(by omega))]; simp only; omega
      · refine ⟨k - i, by omega, i, k, rfl, by omega, by omega, by omega, hle, .inr ?_, by simp; try omega⟩
        intro g1 g2
        simp only [x1, x2]
        exact Int.le_of_lt hlt2
    · have hji : i = j := by omega
      subst hji
      have h' : ¬ i < i := by omega
      simp [s20, s21, h', hX, hXj]
      refine hK _ _ ?_
      rw [hQ]
      exact ⟨i, by omega, by omega, hle, hgt, by simp [s0], by simp [s1], by simp [s2], by simp [s3], by simp [s4], by simp [s18], by simp [s19], by simp [s20], rfl⟩
  clear s0 s1 s2 s3 s4 s18 s19 s20 s21 s22 σ
  intro σ Z hq
  rw [hQ] at hq
  clear hQ Q
  obtain ⟨s, hs1, hs2, hle, hgt, s0, s1, s2, s3, s4, s18, s19, s20, rfl⟩ := hq
  obtain ⟨p, hp⟩ : ∃ p, s = a + p := ⟨s - a, by omega⟩
  obtain ⟨q, hq⟩ : ∃ q, mid = s + q := ⟨mid - s, by omega⟩
  have hpA : p ≤ A.length := by omega
  have hqB : q ≤ B.length := by omega
  have core := sym_core hD sA sB hpA hqB (fun h0 h => by
    rcases hle with h1 | h1
    · exfalso; omega
    · obtain ⟨g1, x1⟩ := LA (p - 1) (by omega)
      obtain ⟨g2, x2⟩ := LB q h
      have k1 : a + (p - 1) = s - 1 := by omega
      have k2 : m + q = mid + m - s := by omega
      simp only [k1] at g1 x1
      simp only [k2] at g2 x2
      have := h1 g1 g2
      rw [x1, x2] at this
      exact this) (fun h0 h => by
    rcases hgt with h1 | h1
    · exfalso; omega
    · obtain ⟨g1, x1⟩ := LB (q - 1) (by omega)
      obtain ⟨g2, x2⟩ := LA p h
      have k1 : m + (q - 1) = mid + m - 1 - s := by omega
      simp only [k1] at g1 x1
      simp only [← hp] at g2 x2
      have := h1 g1 g2
      rw [x1, x2] at this
      exact this)
  clear hle hgt LA LB
  obtain ⟨A1, hA1⟩ : ∃ A1, A1 = A.take p := ⟨_, rfl⟩
  obtain ⟨A2, hA2⟩ : ∃ A2, A2 = A.drop p := ⟨_, rfl⟩
  obtain ⟨B1, hB1⟩ : ∃ B1, B1 = B.take q := ⟨_, rfl⟩
  obtain ⟨B2, hB2⟩ : ∃ B2, B2 = B.drop q := ⟨_, rfl⟩
  have eA : A = A1 ++ A2 := by rw [hA1, hA2, List.take_append_drop]
  have eB : B = B1 ++ B2 := by rw [hB1, hB2, List.take_append_drop]
  have nA1 : A1.length = p := by rw [hA1]; simp; omega
  have nA2 : A2.length = A.length - p := by rw [hA2]; simp
  have nB1 : B1.length = q := by rw [hB1]; simp; omega
  have nB2 : B2.length = B.length - q := by rw [hB2]; simp
  rw [← hA1, ← hA2, ← hB1, ← hB2] at core
  clear hA1 hA2 hB1 hB2
  obtain ⟨e, he⟩ : ∃ e : Nat, (mid : Int) + m - s = e ∧ e = m + q := ⟨m + q, by omega, rfl⟩
  have D1 : Dom (A1 ++ B1) := hD.sub fun z hz => by
    rw [eA, eB]; rcases List.mem_append.1 hz with h | h <;> simp [h]
  have D2 : Dom (A2 ++ B2) := hD.sub fun z hz => by
    rw [eA, eB]; rcases List.mem_append.1 hz with h | h <;> simp [h]
  have sA' := sA; have sB' := sB
  rw [eA] at sA'; rw [eB] at sB'
  have sA1 : Sorted A1 := (List.pairwise_append.1 sA').1
  have sA2 : Sorted A2 := (List.pairwise_append.1 sA').2.1
  have sB1 : Sorted B1 := (List.pairwise_append.1 sB').1
  have sB2 : Sorted B2 := (List.pairwise_append.1 sB').2.1
  refine vcC_cut (fun σ Z => σ 0 = .own d g ∧ σ 1 = .sc (.int .i64 a) ∧ σ 2 = .sc (.int .i64 m) ∧ σ 3 = .sc (.int .i64 b) ∧ σ 4 = byF ∧ σ 18 = .sc (.int .i64 mid) ∧ σ 20 = .sc (.int .i64 s) ∧ σ 24 = .sc (.int .i64 e) ∧ st = Z) (fun K hK => ?_) ?_
  · simp [s19, s20]
    refine ⟨by unfold i64ok; omega, hK _ _ ?_⟩
    simp [s0, s1, s2, s3, s4, s18, s19, s20, he.1]
  clear s0 s1 s2 s3 s4 s18 s19 s20 σ
  rintro σ Z ⟨s0, s1, s2, s3, s4, s18, s20, s24, rfl⟩
  have eL : L = (P ++ A1) ++ (A2 ++ (B1 ++ (B2 ++ S))) := by rw [hL, eA, eB]; simp only [List.append_assoc]
  refine vcC_cut (fun σ Z => σ 0 = .own d g ∧ σ 1 = .sc (.int .i64 a) ∧ σ 3 = .sc (.int .i64 b) ∧ σ 4 = byF ∧ σ 18 = .sc (.int .i64 mid) ∧ σ 20 = .sc (.int .i64 s) ∧ σ 24 = .sc (.int .i64 e) ∧ Z = st.set d (rowL g (P ++ (A1 ++ (B1 ++ (A2 ++ (B2 ++ S))))))) (fun K hK => ?_) ?_
  · by_cases h1 : s < m
    · by_cases h2 : m < e
      · have rc := rotate_c (P ++ A1) A2 B1 (B2 ++ S) (fun h => by rw [h, List.length_nil] at nA2; omega) (fun h => by rw [h, List.length_nil] at nB1; omega) (by simp; omega) st d g (by rw [hd, eL])
        have r1 : (P ++ A1).length = s := by simp; omega
        have r2 : s + A2.length = m := by omega
        have r3 : m + B1.length = e := by omega
        rw [r1, r2, r3] at rc
        simp [s0, s2, s4, s20, s24, h1, h2]
        refine vcICall_of rc ?_
        rintro r Z ⟨rfl, rfl⟩ _
        simp [s0, s1, s3, s4, s18, s20, s24]
        refine hK _ _ ?_
        simp [s0, s1, s3, s4, s18, s20, s24]
      · have nil : B1 = [] := List.length_eq_zero_iff.1 (by omega)
        simp [s0, s2, s4, s20, s24, h1, h2]
        refine hK _ _ ?_
        simp [s0, s1, s3, s4, s18, s20, s24]
        rw [← set_same hd, eL, nil]; simp
    · have nil : A2 = [] := List.length_eq_zero_iff.1 (by omega)
      simp [s0, s2, s4, s20, s24, h1]
      refine hK _ _ ?_
      simp [s0, s1, s3, s4, s18, s20, s24]
      rw [← set_same hd, eL, nil]; simp
  clear s0 s1 s2 s3 s4 s18 s20 s24 σ hd eL hL L
  rintro σ Z ⟨s0, s1, s3, s4, s18, s20, s24, rfl⟩
  refine vcC_cut (fun σ Z => σ 0 = .own d g ∧ σ 3 = .sc (.int .i64 b) ∧ σ 4 = byF ∧ σ 18 = .sc (.int .i64 mid) ∧ σ 24 = .sc (.int .i64 e) ∧ Z = st.set d (rowL g (P ++ (sortT (A1 ++ B1) ++ (A2 ++ (B2 ++ S)))))) (fun K hK => ?_) ?_
  · have skip : A1 = [] ∨ B1 = [] → rowL g (P ++ (A1 ++ (B1 ++ (A2 ++ (B2 ++ S))))) = rowL g (P ++ (sortT (A1 ++ B1) ++ (A2 ++ (B2 ++ S)))) := fun h => by
      rcases h with h | h
      · rw [h, List.nil_append, List.nil_append, sort_of_sorted (hD.sub fun z hz => by rw [eA, eB]; simp [hz]) sB1]
      · rw [h, List.nil_append, List.append_nil, sort_of_sorted (hD.sub fun z hz => by rw [eA, eB]; simp [hz]) sA1]
    by_cases h1 : a < s
    · by_cases h2 : s < mid
      · have rc := IH P A1 B1 (A2 ++ (B2 ++ S)) (fun h => by rw [h, List.length_nil] at nA1; omega) (fun h => by rw [h, List.length_nil] at nB1; omega) (by omega) D1 sA1 sB1 (by simp; omega) (st.set d (rowL g (P ++ (A1 ++ (B1 ++ (A2 ++ (B2 ++ S))))))) d g (gd _)
        rw [← ha, show a + A1.length = s by omega, show s + B1.length = mid by omega] at rc
        simp [s0, s1, s4, s18, s20, h1, h2]
        refine vcICall_of rc ?_
        rintro r Z ⟨rfl, rfl⟩ _
        simp
        refine hK _ _ ?_
        simp [s0, s3, s4, s18, s24]
      · have nil : B1 = [] := List.length_eq_zero_iff.1 (by omega)
        simp only [skip (.inr nil)]
        simp [s0, s1, s4, s18, s20, h1, h2]
        refine hK _ _ ?_
        simp [s0, s3, s4, s18, s24]
    · have nil : A1 = [] := List.length_eq_zero_iff.1 (by omega)
      simp only [skip (.inl nil)]
      simp [s0, s1, s4, s18, s20, h1]
      refine hK _ _ ?_
      simp [s0, s3, s4, s18, s24]
  clear s0 s1 s3 s4 s18 s20 s24 σ
  rintro σ Z ⟨s0, s3, s4, s18, s24, rfl⟩
  have fin : rowL g (P ++ (sortT (A1 ++ B1) ++ (sortT (A2 ++ B2) ++ S))) = rowL g (P ++ (sortT (A ++ B) ++ S)) := by rw [core]; simp only [List.append_assoc]
  have skip : A2 = [] ∨ B2 = [] → rowL g (P ++ (sortT (A1 ++ B1) ++ (A2 ++ (B2 ++ S)))) = rowL g (P ++ (sortT (A ++ B) ++ S)) := fun h => by
    rw [← fin]
    rcases h with h | h
    · rw [h, List.nil_append, List.nil_append, sort_of_sorted (hD.sub fun z hz => by rw [eA, eB]; simp [hz]) sB2]
    · rw [h, List.nil_append, List.append_nil, sort_of_sorted (hD.sub fun z hz => by rw [eA, eB]; simp [hz]) sA2]
  by_cases h1 : mid < e
  · by_cases h2 : e < b
    · have rc := IH (P ++ sortT (A1 ++ B1)) A2 B2 S (fun h => by rw [h, List.length_nil] at nA2; omega) (fun h => by rw [h, List.length_nil] at nB2; omega) (by omega) D2 sA2 sB2 (by simp [sort_len]; omega) (st.set d (rowL g (P ++ (sortT (A1 ++ B1) ++ (A2 ++ (B2 ++ S)))))) d g (by rw [gd]; simp only [List.append_assoc])
      rw [show (P ++ sortT (A1 ++ B1)).length = mid by simp [sort_len]; omega, show mid + A2.length = e by omega, show e + B2.length = b by omega] at rc
      simp [s0, s3, s4, s18, s24, h1, h2]
      refine vcICall_of rc ?_
      rintro r Z ⟨rfl, rfl⟩ _
      rw [List.append_assoc, fin]
      simp
      exact endP_mk (.tup []) (by simp) (by simp) ⟨rfl, (Pre.refl _).cut (fix_row hfix _ _ _) (by simp)⟩
    · have nil : B2 = [] := List.length_eq_zero_iff.1 (by omega)
      simp only [skip (.inr nil)]
      simp [s0, s3, s4, s18, s24, h1, h2]
      exact endP_mk (.tup []) (by simp) (by simp) ⟨rfl, (Pre.refl _).cut (fix_row hfix _ _ _) (by simp)⟩
  · have nil : A2 = [] := List.length_eq_zero_iff.1 (by omega)
    simp only [skip (.inl nil)]
    simp [s0, s3, s4, s18, s24, h1]
    exact endP_mk (.tup []) (by simp) (by simp) ⟨rfl, (Pre.refl _).cut (fix_row hfix _ _ _) (by simp)⟩
/-- All of it. -/
theorem sym_c : ∀ (n : Nat) (P A B S : List Tm), A.length + B.length ≤ n → A ≠ [] → B ≠ [] → Dom (A ++ B) → Sorted A → Sorted B → P.length + A.length + B.length + S.length ≤ 256 → SymOk P A B S
  | 0, P, A, B, S, hn, hA, hB, hD, sA, sB, hsz => absurd (List.length_eq_zero_iff.1 (by omega)) hA
  | n + 1, P, A, B, S, hn, hA, hB, hD, sA, sB, hsz => by
    have pA : 0 < A.length := List.length_pos_iff.2 hA
    have pB : 0 < B.length := List.length_pos_iff.2 hB
    by_cases h1 : A.length = 1
    · obtain ⟨x, rfl⟩ := List.length_eq_one_iff.1 h1
      intro st d g hd
      exact sym1_c P B S x hB hD sB (by simp at hsz; omega) st d g hd
    · by_cases h2 : B.length = 1
      · obtain ⟨y, rfl⟩ := List.length_eq_one_iff.1 h2
        intro st d g hd
        exact sym2_c P A S y hA h1 hD sA (by simp at hsz; omega) st d g hd
      · exact symG_c P A B S (by omega) (by omega) hD sA sB hsz fun P' A' B' S' hA' hB' hlt hD' sA' sB' hsz' => sym_c n P' A' B' S' (by omega) hA' hB' hD' sA' sB' hsz'
end Go.T1
end

section
open Go Go.Ab Go.Proofs
namespace Go.T1
/-- insertion_c, the row and the places named. -/
theorem insAt {L P M S : List Tm} {x y : Int} (hL : L = P ++ (M ++ S)) (hx : x = P.length) (hy : y = (P.length + M.length : Nat)) (hD : Dom M) (hsz : L.length ≤ 256) (st : St) (d g : Nat) (hd : st[d]? = some (rowL g L)) :
    ICall T Try.prog 53 [.own d g, .sc (.int .i64 x), .sc (.int .i64 y), byF] st (fun r st' => r = .tup [] ∧ st' = st.set d (rowL g (P ++ (sortT M ++ S)))) := by
  subst hL hx hy
  exact insertion_c P M S hD (by simp at hsz; omega) st d g hd
theorem symAt {L P A B S : List Tm} {x y z : Int} (hL : L = P ++ (A ++ (B ++ S))) (hx : x = P.length) (hy : y = (P.length + A.length : Nat)) (hz : z = (P.length + A.length + B.length : Nat)) (hA : A ≠ []) (hB : B ≠ []) (hD : Dom (A ++ B)) (sA : Sorted A) (sB : Sorted B) (hsz : L.length ≤ 256) (st : St) (d g : Nat) (hd : st[d]? = some (rowL g L)) :
    ICall T Try.prog 54 [.own d g, .sc (.int .i64 x), .sc (.int .i64 y), .sc (.int .i64 z), byF] st (fun r st' => r = .tup [] ∧ st' = st.set d (rowL g (P ++ (sortT (A ++ B) ++ S)))) := by
  subst hL hx hy hz
  exact sym_c _ P A B S (Nat.le_refl _) hA hB hD sA sB (by simp at hsz; omega) st d g hd
set_option maxRecDepth 100000 in
theorem stable_c (M : List Tm) (hD : Dom M) (hsz : M.length ≤ 256) (st : St) (d g : Nat) (hd : st[d]? = some (rowL g M)) :
    ICall T Try.prog 48 [.own d g, .sc (.int .i64 M.length), byF] st (fun r st' => r = .tup [] ∧ st' = st.set d (rowL g (sortT M))) := by
  obtain ⟨n, hn⟩ : ∃ n, n = M.length := ⟨_, rfl⟩
  rw [← hn]
  rw [← hn] at hsz
  refine ICall.of_vc hT [] [(3, 4), (6, 4), (10, 7), (15, 5)] follows Try.call48 Try.func48 rfl (drawsOk_of3 (by kernel_rfl)) fun hfix => ?_
  unfold Try.f48
  have gd : ∀ b, (st.set d b)[d]? = some b := fun b => get_set hd
  dsimp only
  refine vcC_cut2 (fun σ Z => σ 0 = .own d g ∧ σ 1 = .sc (.int .i64 n) ∧ σ 2 = byF ∧ σ 6 = .sc (.int .i64 20) ∧ σ 7 = .sc (.int .i64 0) ∧ σ 8 = .sc (.int .i64 20) ∧ st = Z) (fun K hK => ?_) ?_
  · simp
    refine hK _ _ ?_
    simp
  rintro σ Z ⟨s0, s1, s2, s6, s7, s8, rfl⟩
  refine vcC_cut (fun σ Z => ∃ X R : List Tm, FB 20 X ∧ R.length < 20 ∧ (X ++ R).Perm M ∧ σ 0 = .own d g ∧ σ 1 = .sc (.int .i64 n) ∧ σ 2 = byF ∧ σ 6 = .sc (.int .i64 20) ∧ σ 7 = .sc (.int .i64 X.length) ∧ Z = st.set d (rowL g (X ++ R))) (fun K hK => ?_) ?_
  · refine vcC_blk _ (fun K X hK hX hXj => ?_) hK
    refine vcC_loop [] (fun w σ Z => ∃ X R : List Tm, w = R.length ∧ FB 20 X ∧ (X ++ R).Perm M ∧ σ 0 = .own d g ∧ σ 1 = .sc (.int .i64 n) ∧ σ 2 = byF ∧ σ 6 = .sc (.int .i64 20) ∧ σ 7 = .sc (.int .i64 X.length) ∧ σ 8 = .sc (.int .i64 ((X.length : Int) + 20)) ∧ Z = st.set d (rowL g (X ++ R))) M.length ?_ ?_
    · exact ⟨[], M, rfl, .nil, by simp, s0, s1, s2, s6, s7, s8, by simp [set_same hd]⟩
    clear s0 s1 s2 s6 s7 s8 σ
    rintro w σ Z ⟨Y, R, rfl, hF, hp, s0, s1, s2, s6, s7, s8, rfl⟩
    have hl := hp.length_eq
    simp at hl
    rcases Nat.lt_or_ge R.length 20 with h | h
    · have h' : ¬ (Y.length : Int) + 20 ≤ n := by omega
      simp [s1, s8, h', hX, hXj]
      exact hK _ _ ⟨Y, R, hF, h, hp, by simp [s0], by simp [s1], by simp [s2], by simp [s6], by simp [s7], rfl⟩
    · have h' : (Y.length : Int) + 20 ≤ n := by omega
      obtain ⟨H, R', rfl, hH⟩ : ∃ H R', R = H ++ R' ∧ H.length = 20 := ⟨R.take 20, R.drop 20, by simp, by simp; omega⟩
      have hDH : Dom H := (hD.perm hp).sub fun z hz => by simp [hz]
      have hDH' : (Y ++ (sortT H ++ R')).Perm (Y ++ (H ++ R')) := List.Perm.append_left _ (List.Perm.append_right _ (sort_perm H))
      have rc := insAt (L := Y ++ (H ++ R')) (P := Y) (M := H) (S := R') (x := Y.length) (y := (Y.length : Int) + 20) rfl rfl (by omega) hDH (by simp at hl ⊢; omega) (st.set d (rowL g (Y ++ (H ++ R')))) d g (gd _)
      simp [s0, s1, s2, s7, s8, h']
      refine vcICall_of rc ?_
      rintro r Z ⟨rfl, rfl⟩ _
      simp [s6, s8]
      refine ⟨by unfold i64ok; omega, R'.length, by omega, Y ++ sortT H, R', rfl, .snoc _ _ hF (by rw [sort_len, hH]) (sort_sorted hDH), by rw [List.append_assoc]; exact hDH'.trans hp, ?_⟩
      simp [s0, s1, s2, s6, sort_len, hH, rowL]
  clear s0 s1 s2 s6 s7 s8 σ
  rintro σ Z ⟨Y, R, hF, hR, hp, s0, s1, s2, s6, s7, rfl⟩
  refine vcC_cut (fun σ Z => ∃ L : List Tm, SB 20 L ∧ L.Perm M ∧ σ 0 = .own d g ∧ σ 1 = .sc (.int .i64 n) ∧ σ 2 = byF ∧ σ 6 = .sc (.int .i64 20) ∧ Z = st.set d (rowL g L)) (fun K hK => ?_) ?_
  · have hl := hp.length_eq
    simp at hl
    have hDR : Dom R := (hD.perm hp).sub fun z hz => by simp [hz]
    have rc := insAt (L := Y ++ R) (P := Y) (M := R) (S := []) (x := Y.length) (y := (n : Int)) (by simp) rfl (by omega) hDR (by simp; omega) (st.set d (rowL g (Y ++ R))) d g (gd _)
    simp [s0, s1, s2, s7]
    refine vcICall_of rc ?_
    rintro r Z ⟨rfl, rfl⟩ _
    simp
    refine hK _ _ ⟨Y ++ sortT R, hF.app (.last _ (by rw [sort_len]; omega) (sort_sorted hDR)), (List.Perm.append_left _ (sort_perm R)).trans hp, by simp [s0], by simp [s1], by simp [s2], by simp [s6], by simp⟩
  clear s0 s1 s2 s6 s7 hF hR hp Y R σ
  rintro σ Z ⟨L, hS, hp, s0, s1, s2, s6, rfl⟩
  refine vcC_blk (fun σ Z => Z = st.set d (rowL g (sortT M))) (fun K X hK hX hXj => ?_) ?_
  · refine vcC_loop [] (fun w σ Z => ∃ (bs : Nat) (L : List Tm), w = n - bs ∧ 0 < bs ∧ bs ≤ 512 ∧ SB bs L ∧ L.Perm M ∧ σ 0 = .own d g ∧ σ 1 = .sc (.int .i64 n) ∧ σ 2 = byF ∧ σ 6 = .sc (.int .i64 bs) ∧ Z = st.set d (rowL g L)) (n - 20) ?_ ?_
    · exact ⟨20, L, rfl, by omega, by omega, hS, hp, s0, s1, s2, s6, rfl⟩
    clear s0 s1 s2 s6 hS hp L σ
    rintro w σ Z ⟨bs, L, rfl, hbs, hbs2, hS, hp, s0, s1, s2, s6, rfl⟩
    have hl := hp.length_eq
    rcases Nat.lt_or_ge bs n with h | h
    · simp only [← hn] at hl
      refine vcC_cut (fun σ Z => σ 0 = .own d g ∧ σ 1 = .sc (.int .i64 n) ∧ σ 2 = byF ∧ σ 6 = .sc (.int .i64 bs) ∧ Z = st.set d (rowL g L)) (fun K hK => ?_) ?_
      · simp [s1, s6, h]
        exact hK _ _ (by simp [s0, s1, s2, s6])
      clear s0 s1 s2 s6 σ
      rintro σ Z ⟨s0, s1, s2, s6, rfl⟩
      refine vcC_blk (fun σ Z => ∃ (w : Nat), w < n - bs ∧ ∃ (bs : Nat) (L : List Tm), w = n - bs ∧ 0 < bs ∧ bs ≤ 512 ∧ SB bs L ∧ L.Perm M ∧ σ 0 = .own d g ∧ σ 1 = .sc (.int .i64 n) ∧ σ 2 = byF ∧ σ 6 = .sc (.int .i64 bs) ∧ Z = st.set d (rowL g L)) (fun K X hK hX hXj => ?_) (fun _ _ h => h)
      refine vcC_cut (fun σ Z => σ 0 = .own d g ∧ σ 1 = .sc (.int .i64 n) ∧ σ 2 = byF ∧ σ 6 = .sc (.int .i64 bs) ∧ σ 7 = .sc (.int .i64 0) ∧ σ 8 = .sc (.int .i64 (2 * (bs : Int))) ∧ Z = st.set d (rowL g L)) (fun K hK => ?_) ?_
      · simp [s6]
        refine ⟨by unfold i64ok; omega, hK _ _ (by simp [s0, s1, s2, s6])⟩
      clear s0 s1 s2 s6 σ
      rintro σ Z ⟨s0, s1, s2, s6, s7, s8, rfl⟩
      refine vcC_cut (fun σ Z => ∃ Y R : List Tm, FB (2 * bs) Y ∧ SB bs R ∧ R.length < 2 * bs ∧ (Y ++ R).Perm M ∧ σ 0 = .own d g ∧ σ 1 = .sc (.int .i64 n) ∧ σ 2 = byF ∧ σ 6 = .sc (.int .i64 bs) ∧ σ 7 = .sc (.int .i64 Y.length) ∧ Z = st.set d (rowL g (Y ++ R))) (fun K hK => ?_) ?_
      · refine vcC_blk _ (fun K X hK hX hXj => ?_) hK
        refine vcC_loop [] (fun w σ Z => ∃ Y R : List Tm, w = R.length ∧ FB (2 * bs) Y ∧ SB bs R ∧ (Y ++ R).Perm M ∧ σ 0 = .own d g ∧ σ 1 = .sc (.int .i64 n) ∧ σ 2 = byF ∧ σ 6 = .sc (.int .i64 bs) ∧ σ 7 = .sc (.int .i64 Y.length) ∧ σ 8 = .sc (.int .i64 ((Y.length : Int) + 2 * bs)) ∧ Z = st.set d (rowL g (Y ++ R))) L.length ?_ ?_
        · exact ⟨[], L, rfl, .nil, hS, by simpa using hp, s0, s1, s2, s6, s7, by simpa using s8, by simp⟩
        clear s0 s1 s2 s6 s7 s8 hS hp hl L σ
        rintro w σ Z ⟨Y, R, rfl, hF, hS, hp, s0, s1, s2, s6, s7, s8, rfl⟩
        have hl := hp.length_eq
        simp [← hn] at hl
        rcases Nat.lt_or_ge R.length (2 * bs) with h | h
        · have h' : ¬ (Y.length : Int) + 2 * bs ≤ n := by omega
          simp [s1, s8, h', hX, hXj]
          exact hK _ _ ⟨Y, R, hF, hS, h, hp, by simp [s0], by simp [s1], by simp [s2], by simp [s6], by simp [s7], rfl⟩
        · have h' : (Y.length : Int) + 2 * bs ≤ n := by omega
          obtain ⟨A, R1, rfl, hA, sA, hS1⟩ := hS.front (by omega)
          simp only [List.length_append] at h hl
          obtain ⟨B, R2, rfl, hB, sB, hS2⟩ := hS1.front (by omega)
          simp only [List.length_append] at h hl
          have hDH : Dom (A ++ B) := (hD.perm hp).sub fun z hz => by rcases List.mem_append.1 hz with h | h <;> simp [h]
          have hpp : (Y ++ (sortT (A ++ B) ++ R2)).Perm (Y ++ (A ++ (B ++ R2))) := by
            rw [← List.append_assoc A]
            exact List.Perm.append_left _ (List.Perm.append_right _ (sort_perm _))
          have rc := symAt (L := Y ++ (A ++ (B ++ R2))) (P := Y) (A := A) (B := B) (S := R2) (x := Y.length) (y := (Y.length : Int) + bs) (z := (Y.length : Int) + 2 * bs) rfl rfl (by omega) (by omega)
            (fun h => by rw [h, List.length_nil] at hA; omega) (fun h => by rw [h, List.length_nil] at hB; omega) hDH sA sB (by simp; omega) (st.set d (rowL g (Y ++ (A ++ (B ++ R2))))) d g (gd _)
          simp [s0, s1, s2, s6, s7, s8, h']
          refine ⟨by unfold i64ok; omega, vcICall_of rc ?_⟩
          rintro r Z ⟨rfl, rfl⟩ _
          simp [s6, s8]
          refine ⟨by unfold i64ok; omega, by unfold i64ok; omega, R2.length, by omega, Y ++ sortT (A ++ B), R2, rfl, .snoc _ _ hF (by rw [sort_len]; simp; omega) (sort_sorted hDH), hS2, by rw [List.append_assoc]; exact hpp.trans hp, ?_⟩
          simp [s0, s1, s2, s6, sort_len, rowL]
          omega
      clear s0 s1 s2 s6 s7 s8 hS hp hl L σ
      rintro σ Z ⟨Y, R, hF, hS, hR, hp, s0, s1, s2, s6, s7, rfl⟩
      have hl := hp.length_eq
      simp [← hn] at hl
      refine vcC_cut (fun σ Z => ∃ L : List Tm, SB (2 * bs) L ∧ L.Perm M ∧ σ 0 = .own d g ∧ σ 1 = .sc (.int .i64 n) ∧ σ 2 = byF ∧ σ 6 = .sc (.int .i64 bs) ∧ Z = st.set d (rowL g L)) (fun K hK => ?_) ?_
      · rcases Nat.lt_or_ge bs R.length with h2 | h2
        · have h2' : (Y.length : Int) + bs < n := by omega
          obtain ⟨A, B, rfl, hA, sA, hS1⟩ := hS.front (by omega)
          simp only [List.length_append] at h2 hl hR
          have sB : Sorted B := hS1.short (by omega)
          have hDH : Dom (A ++ B) := (hD.perm hp).sub fun z hz => by rcases List.mem_append.1 hz with h | h <;> simp [h]
          have hpp : (Y ++ sortT (A ++ B)).Perm (Y ++ (A ++ B)) := List.Perm.append_left _ (sort_perm _)
          have rc := symAt (L := Y ++ (A ++ B)) (P := Y) (A := A) (B := B) (S := []) (x := Y.length) (y := (Y.length : Int) + bs) (z := n) (by simp) rfl (by omega) (by omega)
            (fun h => by rw [h, List.length_nil] at hA; omega) (fun h => by rw [h, List.length_nil] at h2; omega) hDH sA sB (by simp; omega) (st.set d (rowL g (Y ++ (A ++ B)))) d g (gd _)
          simp [s0, s1, s2, s6, s7, h2']
          refine ⟨by unfold i64ok; omega, vcICall_of rc ?_⟩
          rintro r Z ⟨rfl, rfl⟩ _
          simp
          exact hK _ _ ⟨Y ++ sortT (A ++ B), hF.app (.last _ (by rw [sort_len]; simp; omega) (sort_sorted hDH)), hpp.trans hp, by simp [s0], by simp [s1], by simp [s2], by simp [s6], by simp⟩
        · have h2' : ¬ (Y.length : Int) + bs < n := by omega
          simp [s0, s1, s2, s6, s7, h2']
          exact ⟨by unfold i64ok; omega, hK _ _ ⟨Y ++ R, hF.app (.last _ (by omega) (hS.short h2)), hp, by simp [s0], by simp [s1], by simp [s2], by simp [s6], rfl⟩⟩
      clear s0 s1 s2 s6 s7 hF hS hR hp hl Y R σ
      rintro σ Z ⟨L, hS, hp, s0, s1, s2, s6, rfl⟩
      simp [s6]
      refine ⟨by unfold i64ok; omega, hK _ _ ⟨n - bs * 2, by omega, bs * 2, L, rfl, by omega, by omega, by rw [Nat.mul_comm]; exact hS, hp, ?_⟩⟩
      simp [s0, s1, s2, s6]
    · have h' : ¬ bs < n := by omega
      simp [s1, s6, h', hX, hXj]
      have hs : L = sortT M := sort_is hD (hS.short (by omega)) hp
      exact hK _ _ (by simp [hs])
  · rintro σ Z rfl
    exact endP_mk (.tup []) (by simp) (by simp) ⟨rfl, (Pre.refl _).cut (fix_row hfix _ _ _) (by simp)⟩
end Go.T1
end

section
open Go Go.Ab Go.Proofs
namespace Go.Ab
/-- What comes behind, kept out of sight. -/
theorem vcC_post {T : Tab} {P : Program} {n : Nat} {mu : List Nat} {im : List (Nat × Nat)} {c : Code} {K : Slots → St → Prop} {X : Nat → Slots → St → Prop} {R : Slots → St → Prop} {σ : Slots} {st : St} (I : Slots → St → Prop)
    (h1 : ∀ Kc : Slots → St → Prop, (∀ σ st, I σ st → Kc σ st) → vcC T P n mu im c Kc X R σ st) (h2 : ∀ σ st, I σ st → K σ st) : vcC T P n mu im c K X R σ st := h1 _ h2
end Go.Ab
namespace Go.T1
set_option maxRecDepth 100000 in
theorem eq_c (a b : Tm) (ra : a.right = true) (rb : b.right = true) : PureCall T Try.prog 36 [a.av 24, b.av 24] (.sc (.bool (decide ((ordT a b).1 = 0)))) := by
  refine PureCall.of_vc hT [] [] follows Try.call36 Try.func36 rfl (by kernel_rfl) (by simp [AV.pure, AV.pureL]) (by simp [AV.pure]) ?_
  unfold Try.f36
  simp
  refine vcCall_at (by_c a b ra rb) ?_
  simp
set_option maxRecDepth 100000 in
theorem insertion0_c : PureCall T Try.prog 53 [.nils, .sc (.int .i64 0), .sc (.int .i64 0), byF] (.tup []) := by
  refine PureCall.of_vc hT [] [(6, 15), (6, 17)] follows Try.call53 Try.func53 rfl (drawsOk_of3 (by kernel_rfl)) rfl rfl ?_
  unfold Try.f53
  simp
  refine ⟨by unfold i64ok; omega, ?_⟩
  refine vcC_loop [] (fun w σ Z => w = 0 ∧ σ 2 = .sc (.int .i64 0) ∧ σ 8 = .sc (.int .i64 1) ∧ Z = []) 0 ?_ ?_
  · refine ⟨rfl, ?_⟩; simp
  rintro w σ Z ⟨rfl, s2, s8, rfl⟩
  simp [s2, s8]
set_option maxRecDepth 100000 in
theorem stable0_c : PureCall T Try.prog 48 [.nils, .sc (.int .i64 0), byF] (.tup []) := by
  refine PureCall.of_vc hT [] [] follows Try.call48 Try.func48 rfl (drawsOk_of3 (by kernel_rfl)) rfl rfl ?_
  unfold Try.f48
  dsimp only
  refine vcC_cut2 (fun σ Z => σ 0 = .nils ∧ σ 1 = .sc (.int .i64 0) ∧ σ 2 = byF ∧ σ 6 = .sc (.int .i64 20) ∧ σ 7 = .sc (.int .i64 0) ∧ σ 8 = .sc (.int .i64 20) ∧ Z = []) (fun K hK => ?_) ?_
  · simp
    refine hK _ _ ?_
    simp
  rintro σ Z ⟨s0, s1, s2, s6, s7, s8, rfl⟩
  obtain ⟨Q, hQ⟩ : ∃ Q : Slots → St → Prop, Q = fun σ Z => σ 0 = .nils ∧ σ 1 = .sc (.int .i64 0) ∧ σ 2 = byF ∧ σ 6 = .sc (.int .i64 20) ∧ σ 7 = .sc (.int .i64 0) ∧ Z = [] := ⟨_, rfl⟩
  refine vcC_cut Q (fun K hK => ?_) ?_
  · refine vcC_blk _ (fun K X hK hX hXj => ?_) hK
    refine vcC_loop [] (fun w σ Z => w = 0 ∧ σ 0 = .nils ∧ σ 1 = .sc (.int .i64 0) ∧ σ 2 = byF ∧ σ 6 = .sc (.int .i64 20) ∧ σ 7 = .sc (.int .i64 0) ∧ σ 8 = .sc (.int .i64 20) ∧ Z = []) 0 ⟨rfl, s0, s1, s2, s6, s7, s8, rfl⟩ ?_
    clear s0 s1 s2 s6 s7 s8 σ
    rintro w σ Z ⟨rfl, s0, s1, s2, s6, s7, s8, rfl⟩
    simp [s1, s8, hX, hXj]
    exact hK _ _ (by rw [hQ]; simp [s0, s1, s2, s6, s7])
  clear s0 s1 s2 s6 s7 s8 σ
  intro σ Z h
  rw [hQ] at h
  obtain ⟨s0, s1, s2, s6, s7, rfl⟩ := h
  refine vcC_cut (fun σ Z => σ 1 = .sc (.int .i64 0) ∧ σ 6 = .sc (.int .i64 20) ∧ Z = []) (fun K hK => ?_) ?_
  · simp [s0, s1, s2, s7]
    refine vcCall_at insertion0_c ?_
    simp
    exact hK _ _ (by simp [s1, s6])
  clear s0 s1 s2 s6 s7 σ
  rintro σ Z ⟨s1, s6, rfl⟩
  simp
  refine vcC_loop [] (fun w σ Z => w = 0 ∧ σ 1 = .sc (.int .i64 0) ∧ σ 6 = .sc (.int .i64 20) ∧ Z = []) 0 ⟨rfl, s1, s6, rfl⟩ ?_
  clear s1 s6 σ
  rintro w σ Z ⟨rfl, s1, s6, rfl⟩
  simp [s1, s6]
set_option maxRecDepth 100000 in
theorem sortS0_c : PureCall T Try.prog 33 [.nils, byF] (.tup []) := by
  refine PureCall.of_vc hT [] [] follows Try.call33 Try.func33 rfl (by kernel_rfl) rfl rfl ?_
  unfold Try.f33
  simp
  refine vcCall_at stable0_c ?_
  simp
set_option maxRecDepth 100000 in
theorem sortS_c (M : List Tm) (hD : Dom M) (hsz : M.length ≤ 256) (st : St) (d g : Nat) (hd : st[d]? = some (rowL g M)) :
    ICall T Try.prog 33 [.own d g, byF] st (fun r st' => r = .tup [] ∧ st' = st.set d (rowL g (sortT M))) := by
  refine ICall.of_vc hT [] [(0, 4)] follows Try.call33 Try.func33 rfl (by kernel_rfl) fun hfix => ?_
  unfold Try.f33
  have hd' := hd
  rw [rowL] at hd'
  simp [hd']
  intro _ _
  refine vcICall_of (stable_c M hD hsz st d g hd) ?_
  rintro r Z ⟨rfl, rfl⟩ _
  simp
  exact endP_mk (.tup []) (by simp) (by simp) ⟨rfl, (Pre.refl _).cut (fix_row hfix _ _ _) (by simp [rowL])⟩
set_option maxRecDepth 100000 in
theorem compact0_c : PureCall T Try.prog 35 [.nils, .fn (.func 36) [] []] .nils := by
  refine PureCall.of_vc hT [] [] follows Try.call35 Try.func35 rfl (drawsOk_of3 (by kernel_rfl)) rfl rfl ?_
  unfold Try.f35
  simp
set_option maxRecDepth 100000 in
theorem compact_c (l : List Tm) (hl : l ≠ []) (hD : Dom l) (hsz : l.length ≤ 256) (st : St) (d g : Nat) (hd : st[d]? = some (rowL g l)) :
    ICall T Try.prog 35 [.own d g, .fn (.func 36) [] []] st (fun r st' => ∃ g', r = .own d g' ∧ st' = st.set d (rowL g' (dd [] l))) := by
  refine ICall.of_vc hT [] [(15, 2)] follows Try.call35 Try.func35 rfl (drawsOk_of3 (by kernel_rfl)) fun hfix => ?_
  unfold Try.f35
  have gd : ∀ b, (st.set d b)[d]? = some b := fun b => get_set hd
  have hd' := hd
  rw [rowL] at hd'
  have pl : 0 < l.length := List.length_pos_iff.2 hl
  have hdl : d < st.length := (List.getElem?_eq_some_iff.1 hd).1
  by_cases h1 : l.length < 2
  · have h1' : (l.length : Int) < 2 := by omega
    obtain ⟨x, rfl⟩ := List.length_eq_one_iff.1 (show l.length = 1 by omega)
    simp [hd']
    exact endP_mk (.own d g) (by simp) (by simp [hdl]) ⟨g, rfl, by rw [cutSt_same hfix]; simp [dd, set_same hd]⟩
  dsimp only
  have h1' : ¬ (l.length : Int) < 2 := by omega
  refine vcC_cut2 (fun σ Z => σ 0 = .own d g ∧ σ 1 = .fn (.func 36) [] [] ∧ st = Z) (fun K hK => ?_) ?_
  · simp [hd', h1', h1]
    intro _ _
    exact hK _ _ (by simp)
  rintro σ Z ⟨s0, s1, rfl⟩
  refine vcC_cut (fun σ Z => st = Z ∧ σ 0 = .own d g ∧ dd [] l = l) (fun K hK => ?_) ?_
  · refine vcC_cut (fun σ Z => σ 0 = .own d g ∧ σ 1 = .fn (.func 36) [] [] ∧ σ 5 = .sc (.int .i64 1) ∧ st = Z) (fun K hK => ?_) ?_
    · simp
      exact hK _ _ (by simp [s0, s1])
    clear s0 s1 σ
    rintro σ Z ⟨s0, s1, s5, rfl⟩
    refine vcC_blk _ (fun K X hK hX hXj => ?_) hK
    refine vcC_loop [] (fun w σ Z => ∃ k : Nat, w = l.length - k ∧ 1 ≤ k ∧ k ≤ l.length ∧ dd [] (l.take k) = l.take k ∧ σ 0 = .own d g ∧ σ 1 = .fn (.func 36) [] [] ∧ σ 5 = .sc (.int .i64 k) ∧ st = Z) (l.length - 1) ?_ ?_
    · refine ⟨1, rfl, by omega, by omega, ?_, s0, s1, s5, rfl⟩
      cases l with
      | nil => exact absurd rfl hl
      | cons x xs => simp [dd]
    clear s0 s1 s5 σ
    rintro w σ Z ⟨k, rfl, hk1, hk, hdk, s0, s1, s5, rfl⟩
    rcases Nat.lt_or_ge k l.length with h | h
    · refine vcC_cut (fun σ Z => σ 0 = .own d g ∧ σ 1 = .fn (.func 36) [] [] ∧ σ 5 = .sc (.int .i64 k) ∧ st = Z) (fun K hK => ?_) ?_
      · simp [s0, s5, hd', h]
        intro _ _
        exact hK _ _ (by simp [s0, s1, s5])
      clear s0 s1 s5 σ
      rintro σ Z ⟨s0, s1, s5, rfl⟩
      have hx : l[k - 1] ∈ l := List.getElem_mem _
      have hy : l[k] ∈ l := List.getElem_mem _
      have hlast : (l.take k).getLast? = some l[k - 1] := by
        have := last_take (l := l) (k := k - 1) (by omega)
        rw [Nat.sub_add_cancel hk1] at this
        exact this
      have hstep : dd [] (l.take (k + 1)) = if (ordT l[k - 1] l[k]).1 = 0 then l.take k else l.take k ++ [l[k]] := by
        rw [dd_take h]
        simp only [hdk]
        exact dd_one hlast
      refine vcC_cut (fun σ Z => dd [] (l.take (k + 1)) = l.take (k + 1) ∧ σ 0 = .own d g ∧ σ 1 = .fn (.func 36) [] [] ∧ σ 5 = .sc (.int .i64 k) ∧ st = Z) (fun K hK => ?_) ?_
      · refine vcC_blk _ (fun K X hK hX hXj => ?_) hK
        have c2 : ((k : Int) - 1).toNat = k - 1 := by omega
        have n1 : (0 : Int) ≤ k - 1 := by omega
        have n2 : (k : Int) - 1 < l.length := by omega
        have n3 : k - 1 < l.length := by omega
        refine vcC_cut (fun σ Z => σ 28 = .sc (.bool (decide ((ordT l[k] l[k - 1]).1 = 0))) ∧ σ 0 = .own d g ∧ σ 1 = .fn (.func 36) [] [] ∧ σ 5 = .sc (.int .i64 k) ∧ st = Z) (fun K hK => ?_) ?_
        · simp [s0, s1, s5, hd', h, c2, n1, n2, n3]
          refine ⟨by unfold i64ok; omega, by omega, vcCall_at (eq_c l[k] l[k - 1] (hD.1 _ hy) (hD.1 _ hx)) ?_⟩
          simp
          exact hK _ _ (by simp [s0, s1, s5])
        clear s0 s1 s5 σ
        rintro σ Z ⟨s28, s0, s1, s5, rfl⟩
        by_cases heq : (ordT l[k] l[k - 1]).1 = 0
        · simp [heq] at s28
          refine vcC_condT (by simp [s28]) ?_
          clear hK
          have heq' := (ordT_zero_comm _ _).2 heq
          have exy : l[k - 1] = l[k] := (hD.eqv hx hy).1 heq'
          rw [if_pos heq'] at hstep
          rw [exy] at hlast
          refine vcC_cut (fun σ Z => σ 0 = .own d g ∧ σ 1 = .fn (.func 36) [] [] ∧ σ 5 = .sc (.int .i64 k) ∧ σ 6 = .sub d g k (l.length - k) ∧ st = Z) (fun K hK => ?_) ?_
          · have c3 : ((l.length : Int) - k).toNat = l.length - k := by omega
            simp [s0, s5, hd', c3]
            refine ⟨by omega, hK _ _ (by simp [s0, s1, s5])⟩
          clear s0 s1 s5 s28 σ
          rintro σ Z ⟨s0, s1, s5, s6, rfl⟩
          obtain ⟨Q, hQ⟩ : ∃ Q : Slots → St → Prop, Q = fun σ Z => ∃ D G : List Tm, D = dd [] l ∧ D.length + G.length = l.length ∧ D.length < l.length ∧ σ 0 = .own d g ∧ σ 5 = .sc (.int .i64 D.length) ∧ Z = st.set d (rowL g (D ++ G)) := ⟨_, rfl⟩
          refine vcC_cut Q (fun K hK => ?_) ?_
          · refine vcC_cut (fun σ Z => σ 0 = .own d g ∧ σ 1 = .fn (.func 36) [] [] ∧ σ 5 = .sc (.int .i64 k) ∧ σ 6 = .sub d g k (l.length - k) ∧ σ 7 = .sc (.int .i64 1) ∧ st = Z) (fun K hK => ?_) ?_
            · simp
              exact hK _ _ (by simp [s0, s1, s5, s6])
            clear s0 s1 s5 s6 σ
            rintro σ Z ⟨s0, s1, s5, s6, s7, rfl⟩
            refine vcC_blk Q (fun K X hK hX hXj => ?_) hK
            refine vcC_loop [] (fun w σ Z => ∃ (p : Nat) (D G : List Tm), w = l.length - p ∧ k ≤ p ∧ ∃ hp : p < l.length, D = dd [] (l.take (p + 1)) ∧ D.length + G.length = p ∧ D.getLast? = some l[p] ∧ σ 0 = .own d g ∧ σ 1 = .fn (.func 36) [] [] ∧ σ 5 = .sc (.int .i64 D.length) ∧ σ 6 = .sub d g k (l.length - k) ∧ σ 7 = .sc (.int .i64 ((p : Int) + 1 - k)) ∧ Z = st.set d (rowL g (D ++ (G ++ l.drop p)))) (l.length - k) ?_ ?_
            · refine ⟨k, l.take k, [], rfl, Nat.le_refl _, h, hstep.symm, by simp; omega, hlast, s0, s1, ?_, s6, ?_, ?_⟩
              · rw [s5]; simp; omega
              · rw [s7]; simp; omega
              · simp [set_same hd]
            clear s0 s1 s5 s6 s7 hdk heq heq' hstep hlast exy hx hy σ
            rintro w σ Z ⟨p, D, G, rfl, hkp, hp, hDD, hlen, hlast, s0, s1, s5, s6, s7, rfl⟩
            have hnext : ∀ h : p + 1 < l.length, dd [] (l.take (p + 2)) = if (ordT l[p] l[p + 1]).1 = 0 then D else D ++ [l[p + 1]] := fun h => by
              rw [dd_take h, ← hDD]; exact dd_one hlast
            obtain ⟨L, hL⟩ : ∃ L, L = D ++ (G ++ l.drop p) := ⟨_, rfl⟩
            rw [← hL]
            have lL : L.length = l.length := by rw [hL]; simp; omega
            have gL : ∀ (i : Nat) (h1 : i < l.length), p ≤ i → ∃ h2, L[i]'h2 = l[i] := fun i h1 h2 => by
              refine List.getElem?_eq_some_iff.1 ?_
              rw [hL, ← List.append_assoc, List.getElem?_append_right (by simp; omega), List.getElem?_drop, List.getElem?_eq_getElem (by simp; omega)]
              congr 2; simp; omega
            rcases Nat.lt_or_ge (p + 1) l.length with h2 | h2
            · have h2' : (p : Int) + 1 - k < ((l.length - k : Nat) : Int) := by omega
              refine vcC_cut (fun σ Z => σ 0 = .own d g ∧ σ 1 = .fn (.func 36) [] [] ∧ σ 5 = .sc (.int .i64 D.length) ∧ σ 6 = .sub d g k (l.length - k) ∧ σ 7 = .sc (.int .i64 ((p : Int) + 1 - k)) ∧ Z = st.set d (rowL g L)) (fun K hK => ?_) ?_
              · simp [s6, s7, h2', gd, rowL]
                exact hK _ _ ⟨by simp [s0], by simp [s1], by simp [s5], by simp [s6], by simp [s7], rfl⟩
              clear s0 s1 s5 s6 s7 σ
              rintro σ Z ⟨s0, s1, s5, s6, s7, rfl⟩
              have c4 : ((p : Int) + 1 - k).toNat = p + 1 - k := by omega
              have c5 : k + (p + 1 - k) = p + 1 := by omega
              have c6 : ((p : Int) + 1 - k - 1).toNat = p - k := by omega
              have c7 : k + (p - k) = p := by omega
              have b1 : (0 : Int) ≤ p + 1 - k := by omega
              have b2 : (0 : Int) ≤ p + 1 - k - 1 := by omega
              have b3 : (p : Int) + 1 - k - 1 < ((l.length - k : Nat) : Int) := by omega
              obtain ⟨g1, x1⟩ := gL (p + 1) h2 (by omega)
              obtain ⟨g2, x2⟩ := gL p hp (by omega)
              obtain ⟨q, hq⟩ : ∃ q : Nat, (p : Int) + 1 - k = q ∧ q = p + 1 - k := ⟨p + 1 - k, by omega, rfl⟩
              have hx : l[p] ∈ l := List.getElem_mem _
              have hy : l[p + 1] ∈ l := List.getElem_mem _
              refine vcC_cut (fun σ Z => ∃ D' G' : List Tm, D' = dd [] (l.take (p + 2)) ∧ D'.length + G'.length = p + 1 ∧ D'.getLast? = some l[p + 1] ∧ σ 0 = .own d g ∧ σ 1 = .fn (.func 36) [] [] ∧ σ 5 = .sc (.int .i64 D'.length) ∧ σ 6 = .sub d g k (l.length - k) ∧ σ 7 = .sc (.int .i64 ((p : Int) + 1 - k)) ∧ Z = st.set d (rowL g (D' ++ (G' ++ l.drop (p + 1))))) (fun K hK => ?_) ?_
              · refine vcC_blk _ (fun K X hK hX hXj => ?_) hK
                refine vcC_cut (fun σ Z => σ 49 = .sc (.bool (!decide ((ordT l[p + 1] l[p]).1 = 0))) ∧ σ 0 = .own d g ∧ σ 1 = .fn (.func 36) [] [] ∧ σ 5 = .sc (.int .i64 D.length) ∧ σ 6 = .sub d g k (l.length - k) ∧ σ 7 = .sc (.int .i64 ((p : Int) + 1 - k)) ∧ Z = st.set d (rowL g L)) (fun K hK => ?_) ?_
                · simp [s1, s6, s7, gd, rowL, c4, c5, c6, c7, b1, b2, b3, h2', g1, g2, x1, x2]
                  refine ⟨by omega, by unfold i64ok; omega, by omega, vcCall_at (eq_c l[p + 1] l[p] (hD.1 _ hy) (hD.1 _ hx)) ?_⟩
                  simp
                  exact hK _ _ (by simp [s0, s1, s5, s6, s7, rowL])
                clear s0 s1 s5 s6 s7 σ
                rintro σ Z ⟨s49, s0, s1, s5, s6, s7, rfl⟩
                have hn := hnext h2
                by_cases he : (ordT l[p] l[p + 1]).1 = 0
                · have he' := (ordT_zero_comm _ _).2 he
                  rw [if_pos he] at hn
                  simp [he'] at s49
                  refine vcC_condF (by simp [s49]) ?_
                  simp
                  refine hK _ _ ⟨D, G ++ [l[p]], hn.symm, by simp; omega, ?_, s0, s1, s5, s6, s7, ?_⟩
                  · rw [hlast, (hD.eqv hx hy).1 he]
                  · rw [hL, List.drop_eq_getElem_cons hp]; simp [-List.getElem_cons_drop]
                · have he' : ¬ (ordT l[p + 1] l[p]).1 = 0 := fun h => he ((ordT_zero_comm _ _).1 h)
                  rw [if_neg he] at hn
                  simp [he'] at s49
                  refine vcC_condT (by simp [s49]) ?_
                  have m1 : D.length < L.length := by omega
                  have m2 : (D.length : Int) < L.length := by omega
                  obtain ⟨G', hlG⟩ : ∃ G' : List Tm, L.set D.length l[p + 1] = (D ++ [l[p + 1]]) ++ (G' ++ l.drop (p + 1)) ∧ D.length + 1 + G'.length = p + 1 := by
                    cases G with
                    | nil =>
                      refine ⟨[], ?_, by simp at hlen ⊢; omega⟩
                      rw [hL, List.drop_eq_getElem_cons hp, List.nil_append, set_mid rfl]; simp only [List.append_assoc, List.cons_append, List.nil_append]
                    | cons y G1 =>
                      refine ⟨G1 ++ [l[p]], ?_, by simp at hlen ⊢; omega⟩
                      rw [hL, List.drop_eq_getElem_cons hp, List.cons_append, set_mid rfl]; simp only [List.append_assoc, List.cons_append, List.nil_append]
                  simp [s0, s5, s6, s7, gd, rowL, c4, c5, b1, h2', g1, x1, m1, m2, Tm.cellsL_set, drop4]
                  refine ⟨by omega, by unfold i64ok; omega, hK _ _ ⟨D ++ [l[p + 1]], G', hn.symm, by simp; omega, by simp, by simp [s0], by simp [s1], by simp, by simp [s6], by simp [s7], ?_⟩⟩
                  rw [hlG.1]; rfl
              clear s0 s1 s5 s6 s7 hL gL lL g1 g2 x1 x2 hlen hlast hDD hnext L D G σ
              rintro σ Z ⟨D, G, hDD, hlen, hlast, s0, s1, s5, s6, s7, rfl⟩
              refine vcC_post (fun σ Z => σ 0 = .own d g ∧ σ 1 = .fn (.func 36) [] [] ∧ σ 5 = .sc (.int .i64 D.length) ∧ σ 6 = .sub d g k (l.length - k) ∧ σ 7 = .sc (.int .i64 (((p + 1 : Nat) : Int) + 1 - k)) ∧ Z = st.set d (rowL g (D ++ (G ++ l.drop (p + 1))))) (fun K hK => ?_) ?_
              · simp [s7]
                refine ⟨by unfold i64ok; omega, hK _ _ ⟨by simp [s0], by simp [s1], by simp [s5], by simp [s6], by simp; omega, rfl⟩⟩
              · rintro σ Z ⟨s0, s1, s5, s6, s7, rfl⟩
                exact ⟨l.length - (p + 1), by omega, p + 1, D, G, rfl, by omega, h2, hDD, hlen, hlast, s0, s1, s5, s6, s7, rfl⟩
            · have h2' : ¬ (p : Int) + 1 - k < ((l.length - k : Nat) : Int) := by omega
              simp [s6, s7, h2', gd, rowL, hX, hXj]
              have hpl : p + 1 = l.length := by omega
              refine hK _ _ ?_
              rw [hQ]
              refine ⟨D, G ++ l.drop p, by rw [hDD, hpl, List.take_length], by simp; omega, by omega, by simp [s0], by simp [s5], by rw [hL]; rfl⟩
          clear s0 s1 s5 s6 σ
          intro σ Z hq
          rw [hQ] at hq
          obtain ⟨D, G, hDD, hlen, hlt, s0, s5, rfl⟩ := hq
          have m1 : D.length ≤ (D ++ G).length := by simp
          have m2 : (D.length : Int) ≤ ((D ++ G).length : Nat) := by simp; omega
          have c8 : (((D ++ G).length : Int) - D.length).toNat = G.length := by simp; omega
          obtain ⟨L, hL⟩ : ∃ L, L = D ++ G := ⟨_, rfl⟩
          rw [← hL] at m1 m2 c8
          rw [← hL]
          have lL : L.length = D.length + G.length := by rw [hL]; simp
          have cl : ∀ z : List AV, clearL (Tm.cellsL 24 L) D.length G.length z = Tm.cellsL 24 D ++ List.replicate G.length z := fun z => by
            unfold clearL
            rw [← lL, List.drop_of_length_le (by simp), List.append_nil, hL, Tm.cellsL_take, List.take_left]
          simp [s0, s5, gd, rowL, m1, m2, c8, cl]
          refine ⟨by omega, by omega, ?_⟩
          refine endP_mk (.own d (g + 1)) (by simp) (by simp [hdl]) ⟨g + 1, rfl, ?_⟩
          rw [hDD]
          exact (Pre.refl _).cut (fix_row hfix d (g + 1) (dd [] l)) (by simp)
        · simp [heq] at s28
          refine vcC_condF (by simp [s28]) ?_
          simp
          refine hK _ _ ⟨?_, s0, s1, s5, rfl⟩
          rw [hstep, if_neg (fun h9 => heq ((ordT_zero_comm _ _).1 h9)), List.take_add_one, List.getElem?_eq_getElem h]; rfl
      clear s0 s1 s5 σ
      rintro σ Z ⟨hdk', s0, s1, s5, rfl⟩
      simp [s5]
      refine ⟨by unfold i64ok; omega, l.length - (k + 1), by omega, k + 1, rfl, by omega, by omega, hdk', ?_⟩
      simp [s0, s1]
    · have h' : ¬ (k : Int) < l.length := by omega
      have h'' : ¬ k < l.length := by omega
      simp [s0, s5, hd', h', h'', hX, hXj]
      intro _ _
      refine hK _ _ ⟨rfl, by simp [s0], ?_⟩
      rw [List.take_of_length_le h] at hdk
      exact hdk
  clear s0 s1 σ
  rintro σ Z ⟨rfl, s0, hdd⟩
  simp [s0]
  exact endP_mk (.own d g) (by simp) (by simp [hdl]) ⟨g, rfl, by rw [cutSt_same hfix, hdd, set_same hd]⟩
end Go.T1
end

section
open Go Go.Ab Go.Proofs
namespace Go.T1
/-- What Sort and Merge hand back. -/
def sortR (l : List Tm) : List Tm := if mayR l = 0 then sortT l else []
def pairL (l : List Tm) (c : Int) : AV := .tup [.lst 24 (Tm.cellsL 24 l), .sc (.int .i64 c)]
set_option maxRecDepth 100000 in
theorem Sort0_c (l : List Tm) (hs : ∀ x ∈ l, x.small) (h : mayR l ≠ 0 ∨ l = []) : PureCall T Try.prog 13 [.lst 24 (Tm.cellsL 24 l)] (.tup [.nils, .sc (.int .i64 (mayR l))]) := by
  refine PureCall.of_vc hT [] [] follows Try.call13 Try.func13 rfl (drawsOk_of3 (by kernel_rfl)) (by simp [AV.pure, AV.pureL]) (by rfl) ?_
  unfold Try.f13
  dsimp only
  refine vcC_cut2 (fun σ Z => l = [] ∧ mayR l = 0 ∧ σ 0 = .lst 24 (Tm.cellsL 24 l) ∧ Z = []) (fun K hK => ?_) ?_
  · simp
    refine vcCall_at (omay_c l hs) ?_
    simp
    intro h0
    exact hK _ _ ⟨h.resolve_left (fun h1 => h1 h0), h0, by simp, rfl⟩
  rintro σ Z ⟨rfl, h0, s0, rfl⟩
  refine vcC_cut2 (fun σ Z => σ 5 = .nils ∧ Z = []) (fun K hK => ?_) ?_
  · simp [s0]
    refine vcC_loop [] (fun w σ Z => w = 0 ∧ σ 5 = .nils ∧ σ 14 = .sc (.int .i64 0) ∧ σ 15 = .sc (.int .i64 0) ∧ Z = []) 0 ?_ ?_
    · simp [Tm.cellsL]
    clear s0 σ
    rintro w σ Z ⟨rfl, s5, s14, s15, rfl⟩
    simp [s14, s15]
    exact hK _ _ (by simp [s5])
  clear s0 σ
  rintro σ Z ⟨s5, rfl⟩
  simp [s5, h0]
  refine vcCall_at sortS0_c ?_
  simp [s5]
set_option maxRecDepth 100000 in
theorem Sort1_c (l : List Tm) (hs : ∀ x ∈ l, x.small) (h0 : mayR l = 0) (hl : l ≠ []) (st : St) : ICall T Try.prog 13 [.lst 24 (Tm.cellsL 24 l)] st (fun r st' => ∃ id g, st.length ≤ id ∧ r = .tup [.own id g, .sc (.int .i64 0)] ∧ st'[id]? = some (rowL g (sortT l)) ∧ st'.take st.length = st) := by
  obtain ⟨hc, h256, hok⟩ := mayR_zero h0
  have hD := dom_may h0
  refine ICall.of_vcU hT [] [(10, 1)] follows Try.call13 Try.func13 rfl (drawsOk_of3 (by kernel_rfl)) fun hfix => ?_
  unfold Try.f13
  dsimp only
  refine vcC_cut2 (fun σ Z => σ 0 = .lst 24 (Tm.cellsL 24 l) ∧ st = Z) (fun K hK => ?_) ?_
  · simp
    refine vcCall_at (omay_c l hs) ?_
    simp [h0]
    exact hK _ _ (by simp)
  rintro σ Z ⟨s0, rfl⟩
  refine vcC_cut2 (fun σ Z => ∃ g, σ 5 = .own st.length g ∧ Z = st ++ [rowL g l]) (fun K hK => ?_) ?_
  · simp [s0]
    intro _ _
    refine vcC_loop [(24, .slot 5)] (fun w σ Z => ∃ (i g : Nat) (al : Bool), w = l.length - i ∧ i ≤ l.length ∧ (0 < i → al = true) ∧ σ 5 = .own st.length g ∧ σ 13 = .lst 24 (Tm.cellsL 24 l) ∧ σ 14 = .sc (.int .i64 l.length) ∧ σ 15 = .sc (.int .i64 i) ∧ Z = st ++ [.row 24 g al (Tm.cellsL 24 (l.take i))]) l.length ?_ ?_
    · refine ⟨rfl, ?_⟩
      exact ⟨0, 0, false, by simp, by simp, by simp, by simp, by simp, by simp, by simp, by simp [Tm.cellsL]⟩
    clear s0 σ
    rintro w σ Z ⟨i, g, al, rfl, hi, hal, s5, s13, s14, s15, rfl⟩
    rcases Nat.lt_or_ge i l.length with hlt | hge
    · refine vcC_post (fun σ Z => σ 5 = .own st.length (g + 1) ∧ σ 13 = .lst 24 (Tm.cellsL 24 l) ∧ σ 14 = .sc (.int .i64 l.length) ∧ σ 15 = .sc (.int .i64 ((i : Int) + 1)) ∧ Z = st ++ [.row 24 (g + 1) true (Tm.cellsL 24 (l.take (i + 1)))]) (fun K hK => ?_) ?_
      rotate_left
      · rintro σ Z ⟨s5, s13, s14, s15, rfl⟩
        exact ⟨l.length - (i + 1), by omega, i + 1, g + 1, true, rfl, by omega, fun _ => rfl, s5, s13, s14, by rw [s15]; simp, rfl⟩
      simp [s5, s13, s14, s15, hlt]
      refine vcCall_at (Clone_c l[i] (hs _ (List.getElem_mem _))) ?_
      simp [hc _ (List.getElem_mem hlt), s5, s15]
      refine ⟨by omega, by unfold i64ok; omega, hK _ _ ⟨by simp, by simp [s13], by simp [s14], by simp, ?_⟩⟩
      rw [List.take_add_one, List.getElem?_eq_getElem hlt]
      simp [-List.take_append_getElem, Tm.cellsL]
    · have : ¬ i < l.length := by omega
      simp [s5, s13, s14, s15, this]
      refine hK _ _ ⟨g, by simp [s5], ?_⟩
      rw [hal (by have := List.length_pos_iff.2 hl; omega), List.take_of_length_le hge]; rfl
  clear s0 σ
  rintro σ Z ⟨g, s5, rfl⟩
  simp [s5]
  refine vcICall_of (sortS_c l hD h256 _ st.length g (by simp)) ?_
  rintro r Z ⟨rfl, rfl⟩ _
  simp [s5]
  exact ⟨_, by simp, st.length, Nat.le_refl _, g, rfl, by simp⟩
theorem Sort_c (l : List Tm) (hs : ∀ x ∈ l, x.small) : PureCall T Try.prog 13 [.lst 24 (Tm.cellsL 24 l)] (pairL (sortR l) (mayR l)) := by
  by_cases h : mayR l ≠ 0 ∨ l = []
  · refine PureCall.of_ICall (ICall.of_pure (Sort0_c l hs h) []) (by simp [AV.pure, AV.pureL]) (by simp [pairL, AV.pure, AV.pureL]) ?_
    rintro r' st' ⟨rfl, rfl⟩
    have : sortR l = [] := by
      unfold sortR
      rcases h with h | rfl
      · rw [if_neg h]
      · split <;> rfl
    simp [pairL, this, Tm.cellsL]
  · have h1 : mayR l = 0 := Decidable.not_not.1 fun h9 => h (.inl h9)
    have h2 : l ≠ [] := fun h9 => h (.inr h9)
    refine PureCall.of_ICall (ICall.cutR (Sort1_c l hs h1 h2 [])) (by simp [AV.pure, AV.pureL]) (by simp [pairL, AV.pure, AV.pureL]) ?_
    rintro r' st' ⟨r0, st0, ⟨id, g, hid, rfl, hrow, _⟩, rfl, rfl⟩
    simp [AV.cut, rowL, hrow, pairL, sortR, h1] at hid ⊢
set_option maxRecDepth 100000 in
theorem Merge_c (l : List Tm) (hs : ∀ x ∈ l, x.small) : PureCall T Try.prog 14 [.lst 24 (Tm.cellsL 24 l)] (pairL (if mayR l = 0 then mergeT l else []) (mayR l)) := by
  by_cases h : mayR l ≠ 0 ∨ l = []
  · refine PureCall.of_vc hT [] [] follows Try.call14 Try.func14 rfl (drawsOk_of3 (by kernel_rfl)) (by simp [AV.pure, AV.pureL]) (by simp [pairL, AV.pure, AV.pureL]) ?_
    unfold Try.f14
    simp
    refine vcCall_at (Sort0_c l hs h) ?_
    simp
    refine vcCall_at compact0_c ?_
    have : (if mayR l = 0 then mergeT l else []) = [] := by
      rcases h with h | rfl
      · rw [if_neg h]
      · split <;> rfl
    simp [pairL, this, Tm.cellsL]
  · have h1 : mayR l = 0 := Decidable.not_not.1 fun h9 => h (.inl h9)
    have h2 : l ≠ [] := fun h9 => h (.inr h9)
    obtain ⟨hc, h256, hok⟩ := mayR_zero h1
    have hD := dom_may h1
    refine PureCall.of_ICall (Q := fun r st' => r = pairL (mergeT l) 0) (ICall.of_vc hT [] [(1, 1), (2, 1)] follows Try.call14 Try.func14 rfl (drawsOk_of3 (by kernel_rfl)) fun hfix => ?_) (by simp [AV.pure, AV.pureL]) (by simp [pairL, AV.pure, AV.pureL]) ?_
    · unfold Try.f14
      simp
      refine vcICall_of (Sort1_c l hs h1 h2 []) ?_
      rintro r Z ⟨id, g, _, rfl, hrow, _⟩ hfix2
      simp
      have hn : sortT l ≠ [] := fun h9 => h2 (List.length_eq_zero_iff.1 (by rw [← sort_len l, h9]; rfl))
      refine vcICall_of (compact_c (sortT l) hn hD.sort (by rw [sort_len]; exact h256) Z id g hrow) ?_
      rintro r Z2 ⟨g', rfl, rfl⟩ _
      simp
      refine endP_mk (pairL (mergeT l) 0) (by simp) ?_ rfl
      simp [get_set hrow, rowL, pairL, mergeT]
    · rintro r' st' rfl
      simp [h1]
end Go.T1
end

section
open Go Go.Ab Go.Proofs
namespace Go.T1
def i0T : Tm := .mk 2 0 ⟨#[]⟩ []
def i1T : Tm := .mk 2 1 ⟨#[]⟩ []
def i2T : Tm := .mk 2 2 ⟨#[]⟩ []
def v1T : Tm := .mk 1 1 ⟨#[]⟩ []
def v2T : Tm := .mk 1 2 ⟨#[]⟩ []
def aT : Tm := .mk 3 0 ⟨#[97]⟩ []
def f1T : Tm := compT ⟨#[102]⟩ [i1T]
def f2T : Tm := compT ⟨#[102]⟩ [i0T, i0T]
theorem i0_c : PureCall T Try.prog 23 [.sc (.int .i64 0)] (i0T.av 24) := rInt_c 0
theorem i1_c : PureCall T Try.prog 23 [.sc (.int .i64 1)] (i1T.av 24) := rInt_c 1
theorem i2_c : PureCall T Try.prog 23 [.sc (.int .i64 2)] (i2T.av 24) := rInt_c 2
theorem v1_c : PureCall T Try.prog 26 [.sc (.int .i64 1)] (v1T.av 24) := rVar_c 1
theorem v2_c : PureCall T Try.prog 26 [.sc (.int .i64 2)] (v2T.av 24) := rVar_c 2
theorem aT_c : PureCall T Try.prog 24 [.sc (.string ⟨#[97]⟩)] (aT.av 24) := rAtom_c _
theorem f1_c : PureCall T Try.prog 25 [.sc (.string ⟨#[102]⟩), .lst 24 [i1T.cells 24]] (f1T.av 24) := rComp_c ⟨#[102]⟩ [i1T]
theorem f2_c : PureCall T Try.prog 25 [.sc (.string ⟨#[102]⟩), .lst 24 [i0T.cells 24, i0T.cells 24]] (f2T.av 24) := rComp_c ⟨#[102]⟩ [i0T, i0T]
theorem small4 : ∀ x ∈ [f2T, f1T, aT, i2T], x.small := by
  intro x hx
  simp at hx
  rcases hx with rfl | rfl | rfl | rfl <;> (unfold Tm.small; decide)
theorem small3 : ∀ x ∈ [aT, i2T, aT], x.small := by
  intro x hx
  simp at hx
  rcases hx with rfl | rfl | rfl <;> (unfold Tm.small; decide)
theorem cmp1 : cmpR i2T aT = (-1, 0) := by decide
theorem cmp2 : cmpR v1T v2T = (0, 70) := by decide
theorem may4 : mayR [f2T, f1T, aT, i2T] = 0 := by decide
theorem sort4 : sortR [f2T, f1T, aT, i2T] = [i2T, aT, f1T, f2T] := by decide
theorem may3 : mayR [aT, i2T, aT] = 0 := by decide
theorem merge3 : mergeT [aT, i2T, aT] = [i2T, aT] := by decide
theorem least3 : leastR [aT, i2T, aT] = (1, 0) := by decide
theorem least0 : leastR [] = (0, 4) := by decide
theorem sort4_c : PureCall T Try.prog 13 [.lst 24 [f2T.cells 24, f1T.cells 24, aT.cells 24, i2T.cells 24]] (.tup [.lst 24 (Tm.cellsL 24 [i2T, aT, f1T, f2T]), .sc (.int .i64 0)]) := by
  have := Sort_c _ small4
  rw [pairL, sort4, may4] at this
  exact this
theorem merge3_c : PureCall T Try.prog 14 [.lst 24 [aT.cells 24, i2T.cells 24, aT.cells 24]] (.tup [.lst 24 (Tm.cellsL 24 [i2T, aT]), .sc (.int .i64 0)]) := by
  have := Merge_c _ small3
  rw [pairL, if_pos may3, merge3, may3] at this
  exact this
theorem least3_c : PureCall T Try.prog 15 [.lst 24 [aT.cells 24, i2T.cells 24, aT.cells 24]] (.tup [.sc (.int .i64 1), .sc (.int .i64 0)]) := by
  have := Least_c _ small3
  rw [pairV, least3] at this
  exact this
theorem least0_c : PureCall T Try.prog 15 [.nils] (.tup [.sc (.int .i64 0), .sc (.int .i64 4)]) := by
  have := Least_c [] (fun x hx => by cases hx)
  rw [pairV, least0] at this
  exact this.args_le (by simp [Tm.cellsL]) (by rfl)
theorem cmp1_c : PureCall T Try.prog 10 [i2T.av 24, aT.av 24] (.tup [.sc (.int .i64 (-1)), .sc (.int .i64 0)]) := by
  have := Compare_c i2T aT (by unfold Tm.small; decide) (by unfold Tm.small; decide)
  rw [pairV, cmp1] at this
  exact this
theorem cmp2_c : PureCall T Try.prog 10 [v1T.av 24, v2T.av 24] (.tup [.sc (.int .i64 0), .sc (.int .i64 70)]) := by
  have := Compare_c v1T v2T (by unfold Tm.small; decide) (by unfold Tm.small; decide)
  rw [pairV, cmp2] at this
  exact this
theorem same4_c : PureCall T Try.prog 16 [.lst 24 (Tm.cellsL 24 [i2T, aT, f1T, f2T]), .lst 24 [i2T.cells 24, aT.cells 24, f1T.cells 24, f2T.cells 24]] (.sc (.bool true)) := by
  have := Same_c [i2T, aT, f1T, f2T] [i2T, aT, f1T, f2T]
  rw [decide_eq_true rfl] at this
  exact this
set_option maxRecDepth 100000 in
theorem lives_c : PureCall T Try.prog 9 [] (.sc (.bool true)) := by
  refine PureCall.of_vc hT [] [] follows Try.call9 Try.func9 rfl (by kernel_rfl) rfl rfl ?_
  unfold Try.f9
  dsimp only
  obtain ⟨Y, hY⟩ : ∃ Y : St, Y = [.cells (i2T.cells 24), .cells (aT.cells 24), .cells (f1T.cells 24), .cells (f2T.cells 24)] := ⟨_, rfl⟩
  have y0 : Y[0]? = some (.cells (i2T.cells 24)) := by rw [hY]; rfl
  have y1 : Y[1]? = some (.cells (aT.cells 24)) := by rw [hY]; rfl
  have y2 : Y[2]? = some (.cells (f1T.cells 24)) := by rw [hY]; rfl
  have y3 : Y[3]? = some (.cells (f2T.cells 24)) := by rw [hY]; rfl
  refine vcC_cut2 (fun σ Z => σ 1 = .ptr 0 0 ∧ σ 2 = .ptr 1 0 ∧ Z = [.cells (i2T.cells 24), .cells (aT.cells 24)]) (fun K hK => ?_) ?_
  · simp
    refine vcCall_at i2_c ?_
    simp
    refine vcCall_at aT_c ?_
    simp
    exact hK _ _ (by simp)
  rintro σ Z ⟨s1, s2, rfl⟩
  refine vcC_cut (fun σ Z => σ 1 = .ptr 0 0 ∧ σ 2 = .ptr 1 0 ∧ σ 3 = .ptr 2 0 ∧ σ 4 = .ptr 3 0 ∧ Z = Y) (fun K hK => ?_) ?_
  · simp
    refine vcCall_at i1_c ?_
    simp
    refine vcCall_at f1_c ?_
    simp
    refine vcCall_at i0_c ?_
    simp
    refine vcCall_at i0_c ?_
    simp
    refine ⟨rfl, vcCall_at f2_c ?_⟩
    simp
    exact hK _ _ (by simp [s1, s2, hY])
  clear s1 s2 σ
  rintro σ Z ⟨s1, s2, s3, s4, rfl⟩
  refine vcC_cut (fun σ Z' => σ 1 = .ptr 0 0 ∧ σ 2 = .ptr 1 0 ∧ σ 3 = .ptr 2 0 ∧ σ 4 = .ptr 3 0 ∧ σ 5 = .sc (.int .i64 (-1)) ∧ σ 6 = .sc (.int .i64 0) ∧ Z = Z') (fun K hK => ?_) ?_
  · simp [s1, s2, y0, y1]
    refine vcCall_at cmp1_c ?_
    simp
    exact hK _ _ (by simp [s1, s2, s3, s4])
  clear s1 s2 s3 s4 σ
  rintro σ Z' ⟨s1, s2, s3, s4, s5, s6, rfl⟩
  refine vcC_cut (fun σ Z' => σ 1 = .ptr 0 0 ∧ σ 2 = .ptr 1 0 ∧ σ 3 = .ptr 2 0 ∧ σ 4 = .ptr 3 0 ∧ σ 5 = .sc (.int .i64 (-1)) ∧ σ 6 = .sc (.int .i64 0) ∧ σ 7 = .lst 24 (Tm.cellsL 24 [i2T, aT, f1T, f2T]) ∧ σ 8 = .sc (.int .i64 0) ∧ Z = Z') (fun K hK => ?_) ?_
  · simp [s1, s2, s3, s4, y0, y1, y2, y3]
    refine ⟨rfl, vcCall_at sort4_c ?_⟩
    simp
    exact hK _ _ (by simp [s1, s2, s3, s4, s5, s6])
  clear s1 s2 s3 s4 s5 s6 σ
  rintro σ Z' ⟨s1, s2, s3, s4, s5, s6, s7, s8, rfl⟩
  refine vcC_cut (fun σ Z' => σ 1 = .ptr 0 0 ∧ σ 2 = .ptr 1 0 ∧ σ 3 = .ptr 2 0 ∧ σ 4 = .ptr 3 0 ∧ σ 5 = .sc (.int .i64 (-1)) ∧ σ 6 = .sc (.int .i64 0) ∧ σ 7 = .lst 24 (Tm.cellsL 24 [i2T, aT, f1T, f2T]) ∧ σ 8 = .sc (.int .i64 0) ∧ σ 9 = .lst 24 (Tm.cellsL 24 [i2T, aT]) ∧ σ 10 = .sc (.int .i64 0) ∧ Z = Z') (fun K hK => ?_) ?_
  · simp [s1, s2, y0, y1]
    refine ⟨rfl, vcCall_at merge3_c ?_⟩
    simp
    exact hK _ _ (by simp [s1, s2, s3, s4, s5, s6, s7, s8])
  clear s1 s2 s3 s4 s5 s6 s7 s8 σ
  rintro σ Z' ⟨s1, s2, s3, s4, s5, s6, s7, s8, s9, s10, rfl⟩
  refine vcC_cut3 (fun σ Z' => σ 1 = .ptr 0 0 ∧ σ 2 = .ptr 1 0 ∧ σ 3 = .ptr 2 0 ∧ σ 4 = .ptr 3 0 ∧ σ 5 = .sc (.int .i64 (-1)) ∧ σ 6 = .sc (.int .i64 0) ∧ σ 7 = .lst 24 (Tm.cellsL 24 [i2T, aT, f1T, f2T]) ∧ σ 8 = .sc (.int .i64 0) ∧ σ 9 = .lst 24 (Tm.cellsL 24 [i2T, aT]) ∧ σ 10 = .sc (.int .i64 0) ∧ σ 11 = .sc (.int .i64 1) ∧ σ 12 = .sc (.int .i64 0) ∧ σ 14 = .sc (.int .i64 70) ∧ σ 16 = .sc (.int .i64 4) ∧ Z = Z') (fun K hK => ?_) ?_
  · simp [s1, s2, y0, y1]
    refine ⟨rfl, vcCall_at least3_c ?_⟩
    simp
    refine vcCall_at v1_c ?_
    simp
    refine vcCall_at v2_c ?_
    simp
    refine vcCall_at cmp2_c ?_
    simp
    refine vcCall_at least0_c ?_
    simp
    exact hK _ _ (by simp [s1, s2, s3, s4, s5, s6, s7, s8, s9, s10])
  clear s1 s2 s3 s4 s5 s6 s7 s8 s9 s10 σ
  rintro σ Z' ⟨s1, s2, s3, s4, s5, s6, s7, s8, s9, s10, s11, s12, s14, s16, rfl⟩
  simp [s1, s2, s3, s4, s5, s6, s7, s8, s9, s10, s11, s12, s14, s16, y0, y1, y2, y3]
  refine ⟨rfl, vcCall_at same4_c ?_⟩
  simp [s1, s2, s3, s4, s5, s6, s7, s8, s9, s10, s11, s12, s14, s16, y0, y1, y2, y3]
end Go.T1
end

section
open Go Go.Ab Go.Proofs
namespace Go.T1
theorem cmpR_anti (a b : Tm) : ((cmpR a b).2 = 0 → cmpR b a = (-(cmpR a b).1, 0)) ∧ ((cmpR a b).2 ≠ 0 → (cmpR b a).1 = 0 ∧ (cmpR b a).2 ≠ 0 ∧ (cmpR a b).1 = 0) := by
  unfold cmpR
  rw [ordT_anti a b]
  by_cases h1 : a.check = 0 <;> by_cases h2 : b.check = 0 <;> by_cases h3 : (ordT a b).2 = false <;> simp [h1, h2, h3]
set_option maxRecDepth 100000 in
theorem OrderCompares_c (a b : Tm) (na : a.nice) (nb : b.nice) : PureCall T Try.prog 3 [a.av 24, b.av 24] (.sc (.bool true)) := by
  refine PureCall.of_vc hT [] [] follows Try.call3 Try.func3 rfl (drawsOk_of3 (by kernel_rfl)) (by simp [AV.pure, AV.pureL]) (by simp [AV.pure]) ?_
  unfold Try.f3
  simp
  refine vcCall_at (Large_c a na) ?_
  simp
  cases hla : a.large
  case true =>
    refine ⟨[], .sc (.bool false), fun h => (by cases h), ?_⟩
    simp
    refine vcCall_at lives_c ?_

    simp
  simp
  refine vcCall_at (Large_c b nb) ?_
  simp
  refine ⟨fun h => vcCall_at lives_c (by simp), fun hlb => ?_⟩
  have sa := Tm.large_small hla
  have sb := Tm.large_small hlb
  have anti := cmpR_anti a b
  have rng : -1 ≤ (cmpR a b).1 ∧ (cmpR a b).1 ≤ 1 := by
    have := ordT_range a b
    unfold cmpR; (repeat' split) <;> first | assumption | simp
  have c1 := Compare_c a b sa sb
  have c2 := rCompare_c a b sa sb
  have c3 := Compare_c b a sb sa
  rw [pairV] at c1 c2 c3
  generalize cmpR a b = p at *
  generalize cmpR b a = q at *
  obtain ⟨n, c⟩ := p
  obtain ⟨n', c'⟩ := q
  refine vcCall_at c1 ?_
  simp
  refine vcCall_at c2 ?_
  simp
  refine vcCall_at c3 ?_
  simp
  refine vcCall_at lives_c ?_
  simp
  simp only at anti rng
  by_cases hc : c = 0
  · obtain ⟨rfl, rfl⟩ : n' = -n ∧ c' = 0 := by simpa using anti.1 hc
    subst hc
    have : i64ok (-n) := by unfold i64ok; omega
    simp [this]
  · obtain ⟨h1, h2, h3⟩ := anti.2 hc
    simp [hc, h1, h2, h3]
set_option maxRecDepth 100000 in
theorem OrderSame_c (a b : Tm) (na : a.nice) (nb : b.nice) : PureCall T Try.prog 6 [a.av 24, b.av 24] (.sc (.bool true)) := by
  refine PureCall.of_vc hT [] [] follows Try.call6 Try.func6 rfl (drawsOk_of3 (by kernel_rfl)) (by simp [AV.pure, AV.pureL]) (by simp [AV.pure]) ?_
  unfold Try.f6
  simp
  refine vcCall_at (Large_c a na) ?_
  simp
  cases hla : a.large
  case true =>
    refine ⟨[], .sc (.bool false), fun h => (by cases h), ?_⟩
    simp
    refine vcCall_at lives_c ?_

    simp
  simp
  refine vcCall_at (Large_c b nb) ?_
  simp
  refine ⟨fun h => vcCall_at lives_c (by simp), fun hlb => ?_⟩
  have sa := Tm.large_small hla
  have sb := Tm.large_small hlb
  have c1 := Compare_c a b sa sb
  have hz : (cmpR a b).2 = 0 → ((cmpR a b).1 = 0 ↔ a = b) := by
    unfold cmpR
    by_cases h1 : a.check = 0 <;> by_cases h2 : b.check = 0 <;> by_cases h3 : (ordT a b).2 = false <;> simp [h1, h2, h3]
    exact ⟨fun h => ordT_zero a b (Tm.right_of_check h1) (Tm.right_of_check h2) (Prod.ext h (by simpa using h3)), fun h => by rw [h, ordT_self]⟩
  rw [pairV] at c1
  generalize cmpR a b = p at *
  obtain ⟨n, c⟩ := p
  refine vcCall_at c1 ?_
  simp
  refine vcCall_at lives_c ?_
  simp
  simp only at hz
  by_cases hc : c = 0
  · refine vcCall_at (exact_c a b) ?_
    have := hz hc
    simp [hc, this]
  · refine ⟨[], .sc (.bool false), fun h => (by simp [hc] at h), ?_⟩
    simp [hc]
set_option maxRecDepth 100000 in
theorem OrderSteps_c (a b d : Tm) (na : a.nice) (nb : b.nice) (nd : d.nice) : PureCall T Try.prog 5 [a.av 24, b.av 24, d.av 24] (.sc (.bool true)) := by
  refine PureCall.of_vc hT [] [] follows Try.call5 Try.func5 rfl (drawsOk_of3 (by kernel_rfl)) (by simp [AV.pure, AV.pureL]) (by simp [AV.pure]) ?_
  unfold Try.f5
  simp
  refine vcCall_at (Large_c a na) ?_
  simp
  cases hla : a.large
  case true =>
    refine ⟨[], .sc (.bool false), fun h => (by cases h), ?_⟩
    simp
    refine ⟨[], .sc (.bool false), fun h => (by cases h), ?_⟩
    simp
    refine vcCall_at lives_c ?_

    simp
  simp
  refine vcCall_at (Large_c b nb) ?_
  simp
  cases hlb : b.large
  case true =>
    refine ⟨[], .sc (.bool false), fun h => (by cases h), ?_⟩
    simp
    refine vcCall_at lives_c ?_

    simp
  simp
  refine vcCall_at (Large_c d nd) ?_
  simp
  refine ⟨fun h => vcCall_at lives_c (by simp), fun hld => ?_⟩
  have sa := Tm.large_small hla
  have sb := Tm.large_small hlb
  have sd := Tm.large_small hld
  have c1 := Compare_c a b sa sb
  have c2 := Compare_c b d sb sd
  have c3 := Compare_c a d sa sd
  rw [pairV] at c1 c2 c3
  have steps : (cmpR a b).2 = 0 → (cmpR b d).2 = 0 → (cmpR a d).2 = 0 → (cmpR a b).1 ≤ 0 → (cmpR b d).1 ≤ 0 → (cmpR a d).1 ≤ 0 ∧ ((cmpR a d).1 < 0 ∨ ((cmpR a b).1 = 0 ∧ (cmpR b d).1 = 0)) := by
    unfold cmpR
    by_cases h1 : a.check = 0 <;> by_cases h2 : b.check = 0 <;> by_cases h3 : d.check = 0 <;> by_cases h4 : (ordT a b).2 = false <;> by_cases h5 : (ordT b d).2 = false <;> by_cases h6 : (ordT a d).2 = false <;> simp [h1, h2, h3, h4, h5, h6]
    have ra := Tm.right_of_check h1
    have rb := Tm.right_of_check h2
    have rd := Tm.right_of_check h3
    have o1 : (ordT a b).2 = true := by simpa using h4
    have o2 : (ordT b d).2 = true := by simpa using h5
    have o3 : (ordT a d).2 = true := by simpa using h6
    intro g1 g2
    rcases Int.lt_or_eq_of_le g1 with g1 | g1
    · rcases Int.lt_or_eq_of_le g2 with g2 | g2
      · have := ordT_trans a b d ra rb rd o1 o2 o3 g1 g2
        exact ⟨by omega, .inl this⟩
      · have e := ordT_zero b d rb rd (Prod.ext g2 o2)
        subst e
        exact ⟨by omega, .inl g1⟩
    · have e := ordT_zero a b ra rb (Prod.ext g1 o1)
      subst e
      refine ⟨g2, ?_⟩
      rcases Int.lt_or_eq_of_le g2 with g2 | g2
      · exact .inl g2
      · exact .inr ⟨g1, g2⟩
  generalize cmpR a b = p at *
  generalize cmpR b d = q at *
  generalize cmpR a d = r at *
  obtain ⟨n, c⟩ := p
  obtain ⟨n', c'⟩ := q
  obtain ⟨n'', c''⟩ := r
  refine vcCall_at c1 ?_
  simp
  refine vcCall_at c2 ?_
  simp
  refine vcCall_at c3 ?_
  simp
  refine vcCall_at lives_c ?_
  simp
  simp only at steps
  refine ⟨fun _ => vcCall_at lives_c (by simp), ?_⟩
  intro h1 h2 h3
  have st := steps h1 h2 h3
  clear steps c1 c2 c3
  refine ⟨fun q1 q2 q3 q4 => ⟨⟨⟨⟨q1, q2⟩, q3⟩, q4⟩, fun q5 => ⟨⟨⟨⟨q1, q2⟩, q3⟩, q4⟩, q5⟩⟩, fun q1 q2 q3 => ⟨⟨⟨q1, q2⟩, q3⟩, fun q4 => ⟨⟨⟨q1, q2⟩, q3⟩, q4⟩⟩, fun q1 q2 => ⟨⟨q1, q2⟩, fun q3 => ⟨⟨q1, q2⟩, q3⟩⟩, ?_⟩
  rcases Int.lt_or_le 0 n with g | g
  · exact .inl (.inl g)
  rcases Int.lt_or_le 0 n' with g' | g'
  · exact .inl (.inr g')
  exact .inr (by have := st g g'; exact ⟨this.1, this.2⟩)
end Go.T1
end

section
open Go Go.Ab Go.Proofs
namespace Go.T1
set_option maxRecDepth 100000 in
theorem OrderSorts_c (l : List Tm) (nl : Tm.niceL l) : PureCall T Try.prog 4 [.lst 24 (Tm.cellsL 24 l)] (.sc (.bool true)) := by
  refine PureCall.of_vc hT [] [(100004, 3)] follows Try.call4 Try.func4 rfl (drawsOk_of3 (by kernel_rfl)) (by simp [AV.pure, AV.pureL]) (by simp [AV.pure]) ?_
  unfold Try.f4
  dsimp only
  refine vcC_cut2 (fun σ Z => largeL l = false ∧ σ 0 = .lst 24 (Tm.cellsL 24 l) ∧ Z = []) (fun K hK => ?_) ?_
  · simp
    refine vcCall_at (LargeL_c l nl) ?_
    simp
    refine ⟨fun h => vcCall_at lives_c (by simp), fun h => hK _ _ ⟨h, by simp, rfl⟩⟩
  rintro σ Z ⟨hlg, s0, rfl⟩
  obtain ⟨h1, h300, hsz⟩ := largeL_false hlg
  have hs : ∀ x ∈ l, x.small := fun x hx => Tm.large_small (h1 x hx)
  have cS := Sort_c l hs
  have cM := Merge_c l hs
  have cL := Least_c l hs
  obtain ⟨sl, hsl⟩ : ∃ sl, sl = sortR l := ⟨_, rfl⟩
  obtain ⟨ml, hml⟩ : ∃ ml, ml = if mayR l = 0 then mergeT l else [] := ⟨_, rfl⟩
  obtain ⟨i0, e0, hi0⟩ : ∃ i0 e0, leastR l = (i0, e0) := ⟨_, _, rfl⟩
  obtain ⟨c, hc⟩ : ∃ c, c = mayR l := ⟨_, rfl⟩
  rw [← hsl, ← hc, pairL] at cS
  rw [← hml, ← hc, pairL] at cM
  rw [hi0, pairV] at cL
  refine vcC_cut (fun σ Z => σ 0 = .lst 24 (Tm.cellsL 24 l) ∧ ∃ al, σ 3 = .own 0 1 ∧ Z = [.row 24 1 al (Tm.cellsL 24 l)]) (fun K hK => ?_) ?_
  · simp [s0]
    refine ⟨by omega, hK _ _ ⟨by simp [s0], _, by simp, rfl⟩⟩
  clear s0 σ
  rintro σ Z ⟨s0, al, s3, rfl⟩
  refine vcC_cut3 (fun σ Z => σ 0 = .lst 24 (Tm.cellsL 24 l) ∧ σ 3 = .lst 24 (Tm.cellsL 24 l) ∧ σ 4 = .lst 24 (Tm.cellsL 24 sl) ∧ σ 5 = .sc (.int .i64 c) ∧ σ 6 = .lst 24 (Tm.cellsL 24 ml) ∧ σ 7 = .sc (.int .i64 c) ∧ σ 8 = .sc (.int .i64 i0) ∧ σ 9 = .sc (.int .i64 e0)) (fun K hK => ?_) ?_
  · simp [s3]
    refine vcC_fzF (d := 3) (i' := 0) (g := 1) (by simp) s3 rfl ?_
    simp
    refine vcCall_at cS ?_
    simp
    refine vcCall_at cM ?_
    simp
    refine vcCall_at cL ?_
    simp
    exact hK _ _ (by simp [s0])
  clear s0 s3 al σ
  rintro σ Z ⟨s0, s3, s4, s5, s6, s7, s8, s9⟩
  refine vcC_cut (fun σ Z => σ 0 = .lst 24 (Tm.cellsL 24 l) ∧ σ 4 = .lst 24 (Tm.cellsL 24 sl) ∧ σ 5 = .sc (.int .i64 c) ∧ σ 6 = .lst 24 (Tm.cellsL 24 ml) ∧ σ 7 = .sc (.int .i64 c) ∧ σ 8 = .sc (.int .i64 i0) ∧ σ 9 = .sc (.int .i64 e0)) (fun K hK => ?_) ?_
  · simp
    refine vcCall_at lives_c ?_
    simp [s0, s3]
    refine vcCall_at (Same_c l l) ?_
    simp
    exact hK _ _ (by simp [s0, s4, s5, s6, s7, s8, s9])
  clear s0 s3 s4 s5 s6 s7 s8 s9 σ Z
  rintro σ Z ⟨s0, s4, s5, s6, s7, s8, s9⟩
  have cR := rMay_c l hs
  rw [← hc] at cR
  refine vcC_cut (fun σ Z => c = 0 ∧ σ 0 = .lst 24 (Tm.cellsL 24 l) ∧ σ 4 = .lst 24 (Tm.cellsL 24 sl) ∧ σ 5 = .sc (.int .i64 c) ∧ σ 6 = .lst 24 (Tm.cellsL 24 ml) ∧ σ 7 = .sc (.int .i64 c) ∧ σ 8 = .sc (.int .i64 i0) ∧ σ 9 = .sc (.int .i64 e0)) (fun K hK => ?_) ?_
  · by_cases hc0 : c = 0
    · simp [s0]
      refine vcCall_at cR ?_
      simp [hc0]
      exact hK _ _ (by simp [hc0, s0, s4, s5, s6, s7, s8, s9])
    · have n1 : sl = [] := by rw [hsl, sortR, if_neg (by rw [← hc]; exact hc0)]
      have n2 : ml = [] := by rw [hml, if_neg (by rw [← hc]; exact hc0)]
      have n3 : leastR l = (0, c) := by rw [leastR, ← hc, if_pos hc0]
      rw [n3] at hi0
      cases hi0
      simp [s0]
      refine vcCall_at cR ?_
      simp [hc0, s4, s5, s6, s7, s8, s9, n1, n2]
  clear s0 s4 s5 s6 s7 s8 s9 σ Z
  rintro σ Z ⟨rfl, s0, s4, s5, s6, s7, s8, s9⟩
  obtain ⟨hc', h256, hok⟩ := mayR_zero hc.symm
  have hD := dom_may hc.symm
  rw [sortR, if_pos hc.symm] at hsl
  rw [if_pos hc.symm] at hml
  subst hsl hml
  refine vcC_cut (fun σ Z => σ 0 = .lst 24 (Tm.cellsL 24 l) ∧ σ 8 = .sc (.int .i64 i0) ∧ σ 9 = .sc (.int .i64 e0)) (fun K hK => ?_) ?_
  · simp [s0, s4, s5, s6, s7]
    refine vcCall_at (rSort_c l hD h256) ?_
    simp [s0, s4, s5, s6, s7]
    refine vcCall_at (Same_c (sortT l) (sortT l)) ?_
    simp [s0, s4, s5, s6, s7]
    refine vcCall_at (rMerge_c l hD h256) ?_
    simp [s0, s4, s5, s6, s7]
    refine vcCall_at (Same_c (mergeT l) (mergeT l)) ?_
    simp [s0, s4, s5, s6, s7]
    exact hK _ _ (by simp [s0, s8, s9])
  clear s0 s4 s5 s6 s7 s8 s9 σ Z
  rintro σ Z ⟨s0, s8, s9⟩
  have e1 : leastR l = if l = [] then (0, 4) else ((leastTo l l.length : Int), 0) := by
    unfold leastR; rw [if_neg (by rw [← hc]; simp)]
  refine vcC_cut2 (fun σ Z => l ≠ [] ∧ e0 = 0 ∧ i0 = leastTo l l.length ∧ σ 0 = .lst 24 (Tm.cellsL 24 l) ∧ σ 8 = .sc (.int .i64 i0)) (fun K hK => ?_) ?_
  · by_cases hl : l = []
    · rw [if_pos hl, hi0] at e1
      cases e1
      subst hl
      simp [s0, s8, s9, Tm.cellsL]
    · rw [if_neg hl, hi0] at e1
      cases e1
      have pl := List.length_pos_iff.2 hl
      have hlt := leastTo_lt pl l.length (Nat.le_refl _)
      have g1 : ¬ (leastTo l l.length : Int) < 0 := by omega
      have g2 : ¬ (l.length : Int) ≤ leastTo l l.length := by omega
      have g3 : (leastTo l l.length : Int) < l.length := by omega
      have g4 : ¬ l.length ≤ leastTo l l.length := by omega
      have g5 : l.length ≠ 0 := by omega
      simp [s0, s8, s9, hl, g1, g2, g3, g4, g5]
      intro _ _ _ _
      exact hK _ _ (by simp [hl, s0, s8])
  clear s0 s8 s9 σ Z
  rintro σ Z ⟨hl, rfl, rfl, s0, s8⟩
  have pl := List.length_pos_iff.2 hl
  have hlt := leastTo_lt pl l.length (Nat.le_refl _)
  have spec := leastTo_spec hD pl l.length (Nat.le_refl _)
  obtain ⟨m, hm⟩ : ∃ m, m = leastTo l l.length := ⟨_, rfl⟩
  simp only [← hm] at hlt spec s8
  refine vcC_cut (fun σ Z => True) (fun K hK => ?_) ?_
  · refine vcC_cut (fun σ Z => σ 0 = .lst 24 (Tm.cellsL 24 l) ∧ σ 8 = .sc (.int .i64 m) ∧ σ 11 = .sc (.int .i64 0)) (fun K hK => ?_) ?_
    · simp
      exact hK _ _ (by simp [s0, s8])
    clear s0 s8 σ Z
    rintro σ Z ⟨s0, s8, s11⟩
    refine vcC_blk _ (fun K X hK hX hXj => ?_) hK
    refine vcC_loop [] (fun w σ Z => ∃ i : Nat, w = l.length - i ∧ i ≤ l.length ∧ σ 0 = .lst 24 (Tm.cellsL 24 l) ∧ σ 8 = .sc (.int .i64 m) ∧ σ 11 = .sc (.int .i64 i)) l.length ?_ ?_
    · exact ⟨0, by simp, by simp, s0, s8, s11⟩
    clear s0 s8 s11 σ Z
    rintro w σ Z ⟨i, rfl, hi, s0, s8, s11⟩
    rcases Nat.lt_or_ge i l.length with h | h
    · obtain ⟨q1, q2⟩ := spec i h h
      have q3 : ¬ (ordT l[i] l[m]).1 < 0 := by
        unfold le at q1
        rw [ordT_anti l[m] l[i]]
        simp only; omega
      have q4 : (ordT l[i] l[m]).1 = 0 → ¬ (i : Int) < m := fun h0 h1 => q2 (by omega) h0
      simp [s0, s8, s11, h, hlt]
      intro _ _
      refine vcCall_at (rOrder_c _ l[i] l[m] rfl) ?_
      generalize (ordT l[i] l[m]).1 = v at *
      generalize (ordT l[i] l[m]).2 = v2 at *
      have q5 : 0 ≤ v := by omega
      have q6 : ¬ v < 0 := by omega
      by_cases hv : v = 0
      · have q7 : ¬ i < m := fun h9 => q4 hv (by omega)
        simp [s0, s8, s11, hv, q7]
        exact ⟨by unfold i64ok; omega, l.length - (i + 1), by omega, i + 1, rfl, by omega, by omega⟩
      · simp [s0, s8, s11, hv, q6]
        exact ⟨by unfold i64ok; omega, l.length - (i + 1), by omega, i + 1, rfl, by omega, by omega⟩
    · have h' : ¬ i < l.length := by omega
      simp [s0, s11, h', hX, hXj]
      intro _ _
      exact hK _ _ trivial
  · rintro σ Z _
    simp
end Go.T1
end

section
open Go Go.Ab Go.Proofs
namespace Go.T1
theorem firstC_twice {l : List Tm} : firstC (l ++ l) = firstC l := by
  by_cases h : firstC l = 0
  · rw [firstC_app h]
  · suffices h2 : ∀ A B : List Tm, firstC A ≠ 0 → firstC (A ++ B) = firstC A by exact h2 l l h
    intro A
    induction A with
    | nil => intro B h; exact absurd rfl h
    | cons x xs ih =>
      intro B h
      simp only [firstC, List.cons_append] at h ⊢
      by_cases hx : x.check ≠ 0
      · rw [if_pos hx, if_pos hx]
      · rw [if_neg hx] at h
        rw [if_neg hx, if_neg hx]; exact ih B h
theorem okP_of_all {l : List Tm} (h : ∀ a ∈ l, ∀ b ∈ l, (ordT a b).2 = true) : okP l :=
  List.Pairwise.imp_of_mem (fun ha hb _ => h _ ha _ hb) (List.pairwise_of_forall (R := fun _ _ => True) (fun _ _ => trivial))
theorem okP_twice {l : List Tm} : okP (l ++ l) ↔ okP l := by
  constructor
  · intro h; exact (List.pairwise_append.1 h).1
  · intro h
    have := okP_all h
    exact okP_of_all fun a ha b hb => this a (by simpa using ha) b (by simpa using hb)
theorem mayR_twice {l : List Tm} (h : l.length ≤ 100) : mayR (l ++ l) = mayR l := by
  unfold mayR
  rw [firstC_twice]
  simp only [okP_twice, List.length_append]
  rw [if_neg (show ¬ 256 < l.length + l.length by omega), if_neg (show ¬ 256 < l.length by omega)]
theorem mayR_sort {l : List Tm} (h : mayR l = 0) : mayR (sortT l) = 0 := by
  obtain ⟨h1, h2, h3⟩ := mayR_zero h
  have hm : ∀ z, z ∈ sortT l → z ∈ l := fun z => (sort_perm l).mem_iff.1
  unfold mayR
  rw [if_neg (by rw [Decidable.not_not, firstC_zero]; exact fun x hx => h1 x (hm x hx)), if_neg (by rw [sort_len]; omega), if_pos]
  have := okP_all h3
  exact okP_of_all fun a ha b hb => this a (hm a ha) b (hm b hb)
set_option maxRecDepth 100000 in
theorem OrderTwice_c (l : List Tm) (nl : Tm.niceL l) : PureCall T Try.prog 7 [.lst 24 (Tm.cellsL 24 l)] (.sc (.bool true)) := by
  refine PureCall.of_vc hT [] [(6, 5)] follows Try.call7 Try.func7 rfl (drawsOk_of3 (by kernel_rfl)) (by simp [AV.pure, AV.pureL]) (by simp [AV.pure]) ?_
  unfold Try.f7
  dsimp only
  refine vcC_cut2 (fun σ Z => largeL l = false ∧ l.length ≤ 100 ∧ σ 0 = .lst 24 (Tm.cellsL 24 l) ∧ Z = []) (fun K hK => ?_) ?_
  · simp
    refine vcCall_at (LargeL_c l nl) ?_
    cases hlg : largeL l
    · simp
      intro _ _
      refine ⟨fun _ => vcCall_at lives_c (by simp), fun h => hK _ _ ⟨hlg, by omega, by simp, rfl⟩⟩
    · simp
      exact vcCall_at lives_c (by simp)
  rintro σ Z ⟨hlg, h100, s0, rfl⟩
  obtain ⟨h1, h300, hsz⟩ := largeL_false hlg
  have hs : ∀ x ∈ l, x.small := fun x hx => Tm.large_small (h1 x hx)
  obtain ⟨sl, hsl⟩ : ∃ sl, sl = sortR l := ⟨_, rfl⟩
  have hsub : ∀ x ∈ sl, x ∈ l := fun x hx => by
    rw [hsl, sortR] at hx
    split at hx
    · exact (sort_perm l).mem_iff.1 hx
    · cases hx
  have cS := Sort_c l hs
  have cS2 := Sort_c sl (fun x hx => hs x (hsub x hx))
  have cM := Merge_c l hs
  have cM2 := Merge_c (l ++ l) (fun x hx => hs x (by simpa using hx))
  rw [mayR_twice h100] at cM2
  obtain ⟨ml, hml⟩ : ∃ ml, ml = if mayR l = 0 then mergeT l else [] := ⟨_, rfl⟩
  have hml2 : (if mayR l = 0 then mergeT (l ++ l) else []) = ml := by
    rw [hml]
    split
    · rename_i h
      exact mergeT_same ((dom_may h).sub fun z hz => by simpa using hz) (fun z => by simp)
    · rfl
  obtain ⟨c, hc⟩ : ∃ c, c = mayR l := ⟨_, rfl⟩
  obtain ⟨sl2, hsl2⟩ : ∃ sl2, sl2 = sortR sl := ⟨_, rfl⟩
  obtain ⟨c2, hc2⟩ : ∃ c2, c2 = mayR sl := ⟨_, rfl⟩
  rw [← hsl, ← hc, pairL] at cS
  rw [← hsl2, ← hc2, pairL] at cS2
  rw [← hml, ← hc, pairL] at cM
  rw [hml2, ← hc, pairL] at cM2
  have key : c = 0 → sl2 = sl ∧ c2 = 0 ∧ ml.length ≤ sl.length := fun h0 => by
    rw [hc] at h0
    have e1 : sl = sortT l := by rw [hsl, sortR, if_pos h0]
    have hD := dom_may h0
    have m2 := mayR_sort h0
    refine ⟨?_, ?_, ?_⟩
    · rw [hsl2, e1, sortR, if_pos m2, sort_of_sorted hD.sort (sort_sorted hD)]
    · rw [hc2, e1, m2]
    · rw [hml, if_pos h0, e1, mergeT]
      simpa using dd_len (sortT l) []
  refine vcC_cut3 (fun σ Z => σ 0 = .lst 24 (Tm.cellsL 24 l) ∧ σ 3 = .lst 24 (Tm.cellsL 24 sl) ∧ σ 4 = .sc (.int .i64 c) ∧ σ 5 = .lst 24 (Tm.cellsL 24 sl2) ∧ σ 6 = .sc (.int .i64 c2) ∧ σ 7 = .lst 24 (Tm.cellsL 24 ml) ∧ σ 8 = .sc (.int .i64 c) ∧ Z = []) (fun K hK => ?_) ?_
  · simp [s0]
    refine vcCall_at cS ?_
    simp
    refine vcCall_at cS2 ?_
    simp [s0]
    refine vcCall_at cM ?_
    simp
    exact hK _ _ (by simp [s0])
  clear s0 σ
  rintro σ Z ⟨s0, s3, s4, s5, s6, s7, s8, rfl⟩
  refine vcC_cut (fun σ Z => σ 3 = .lst 24 (Tm.cellsL 24 sl) ∧ σ 4 = .sc (.int .i64 c) ∧ σ 5 = .lst 24 (Tm.cellsL 24 sl2) ∧ σ 6 = .sc (.int .i64 c2) ∧ σ 7 = .lst 24 (Tm.cellsL 24 ml) ∧ σ 8 = .sc (.int .i64 c) ∧ σ 9 = .lst 24 (Tm.cellsL 24 ml) ∧ σ 10 = .sc (.int .i64 c)) (fun K hK => ?_) ?_
  · simp [s0]
    refine ⟨by omega, by omega, ?_⟩
    refine vcICall_of (ICall.freeze (pre := []) (post := []) (id := 0) (g := 2) rfl (ICall.of_pure (f := 14) (args := [.lst 24 (Tm.cellsL 24 l ++ Tm.cellsL 24 l)]) (by simpa using cM2) _)) ?_
    rintro r Z ⟨rfl, rfl⟩ _
    simp
    exact hK _ _ (by simp [s3, s4, s5, s6, s7, s8])
  clear s0 s3 s4 s5 s6 s7 s8 σ
  rintro σ Z ⟨s3, s4, s5, s6, s7, s8, s9, s10⟩
  by_cases hc0 : c = 0
  · obtain ⟨k1, rfl, k3⟩ := key hc0
    rw [k1] at s5
    have k4 : (ml.length : Int) ≤ sl.length := by omega
    simp
    refine vcCall_at lives_c ?_
    simp [s3, s4, s5, s6, s7, s8, s9, s10, hc0]
    refine vcCall_at (Same_c sl sl) ?_
    simp [s3, s4, s5, s6, s7, s8, s9, s10, hc0]
    refine vcCall_at (Same_c ml ml) ?_
    simp [s3, s4, s5, s6, s7, s8, s9, s10, hc0, k3, k4]
  · simp
    refine vcCall_at lives_c ?_
    simp [s3, s4, s5, s6, s7, s8, s9, s10, hc0]
    refine vcCall_at lives_c ?_
    simp [s3, s4, s5, s6, s7, s8, s9, s10, hc0]
end Go.T1
end
