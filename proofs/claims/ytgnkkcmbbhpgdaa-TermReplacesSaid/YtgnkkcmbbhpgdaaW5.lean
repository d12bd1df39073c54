/- What the seven statements of chapter 06 hand back: true, at every term and every list of terms. -/
import Derived.Test.YtgnkkcmbbhpgdaaW4
set_option linter.unusedSimpArgs false
set_option linter.unusedVariables false
set_option linter.unusedSectionVars false
set_option linter.unnecessarySimpa false
section
open Go Go.Ab Go.Proofs
namespace Go.T1
set_option maxRecDepth 100000 in
theorem TermMakes_c (n : Int) (s : ByteArray) (l : List Tm) (tail : Tm) (hl : Tm.niceL l) (ht : tail.nice) : PureCall T Try.prog 3 [.sc (.int .i64 n), .sc (.string s), .lst 24 (Tm.cellsL 24 l), tail.av 24] (.sc (.bool true)) := by
  refine PureCall.of_vc hT [] [] follows Try.call3 Try.func3 rfl (drawsOk_of3 (by kernel_rfl)) (by simp [AV.pure, AV.pureL]) (by simp [AV.pure]) ?_
  unfold Try.f3
  simp
  intro hl1 hl2
  refine vcCall_at (Large_c tail ht) ?_
  simp
  refine ⟨fun h => ?_, fun h h' => ?_⟩
  · refine vcCall_at lives_c ?_
    simp
  refine vcC_loop [] (fun m σ st => ∃ i : Nat, m = l.length - i ∧ i ≤ l.length ∧ σ 0 = .sc (.int .i64 n) ∧ σ 1 = .sc (.string s) ∧ σ 2 = .lst 24 (Tm.cellsL 24 l) ∧ σ 7 = .eptr (tail.cells 24) ∧ σ 9 = .sc (.int .i64 i) ∧ st = []) l.length ⟨0, by simp⟩ ?_
  rintro m σ st ⟨i, rfl, hi, s0, s1, s2, s7, s9, rfl⟩
  rcases Nat.lt_or_ge i l.length with hlt | hge
  · simp [s0, s1, s2, s7, s9, hlt]
    refine fun _ _ => vcCall_at (Large_c _ (Tm.niceL_take hlt hl)) ?_
    simp [s0, s1, s2, s7, s9]
    refine ⟨fun _ => vcCall_at lives_c (by simp), fun hx => ⟨by unfold i64ok; omega, l.length - (i + 1), by omega, i + 1, rfl, by omega, by omega⟩⟩
  · have hi : i = l.length := by omega
    subst hi
    simp [s0, s1, s2, s7, s9, -vcLex_cons]
    intro _ _
    refine vcLex_step fun K hK => ?_; simp [s0, s1, s2, s7]; refine vcCall_at (lives_c) ?_; simp [s0, s1, s2, s7]; refine hK _ _ ?_; clear hK
    refine vcLex_step fun K hK => ?_; simp [s0, s1, s2, s7]; intros; refine hK _ _ ?_; clear hK
    refine vcLex_step fun K hK => ?_; simp [s0, s1, s2, s7]; intros; refine hK _ _ ?_; clear hK
    refine vcLex_step fun K hK => ?_; simp [s0, s1, s2, s7]; refine vcCall_at (Var_c n) ?_; simp [s0, s1, s2, s7]; refine hK _ _ ?_; clear hK
    refine vcLex_step fun K hK => ?_; simp [s0, s1, s2, s7]; intros; refine hK _ _ ?_; clear hK
    refine vcLex_step fun K hK => ?_; simp [s0, s1, s2, s7]; refine vcCall_at (rVar_c n) ?_; simp [s0, s1, s2, s7]; refine hK _ _ ?_; clear hK
    refine vcLex_step fun K hK => ?_; simp [s0, s1, s2, s7]; refine vcCall_at (exact_c _ _) ?_; simp [s0, s1, s2, s7]; refine hK _ _ ?_; clear hK
    refine vcLex_step fun K hK => ?_; simp [s0, s1, s2, s7]; intros; refine hK _ _ ?_; clear hK
    refine vcLex_step fun K hK => ?_; simp [s0, s1, s2, s7]; intros; refine hK _ _ ?_; clear hK
    refine vcLex_step fun K hK => ?_; simp [s0, s1, s2, s7]; intros; refine hK _ _ ?_; clear hK
    refine vcLex_step fun K hK => ?_; simp [s0, s1, s2, s7]; refine vcCall_at (Int_c n) ?_; simp [s0, s1, s2, s7]; refine hK _ _ ?_; clear hK
    refine vcLex_step fun K hK => ?_; simp [s0, s1, s2, s7]; intros; refine hK _ _ ?_; clear hK
    refine vcLex_step fun K hK => ?_; simp [s0, s1, s2, s7]; refine vcCall_at (rInt_c n) ?_; simp [s0, s1, s2, s7]; refine hK _ _ ?_; clear hK
    refine vcLex_step fun K hK => ?_; simp [s0, s1, s2, s7]; refine vcCall_at (exact_c _ _) ?_; simp [s0, s1, s2, s7]; refine hK _ _ ?_; clear hK
    refine vcLex_step fun K hK => ?_; simp [s0, s1, s2, s7]; intros; refine hK _ _ ?_; clear hK
    refine vcLex_step fun K hK => ?_; simp [s0, s1, s2, s7]; intros; refine hK _ _ ?_; clear hK
    refine vcLex_step fun K hK => ?_; simp [s0, s1, s2, s7]; intros; refine hK _ _ ?_; clear hK
    refine vcLex_step fun K hK => ?_; simp [s0, s1, s2, s7]; refine vcCall_at (Atom_c s) ?_; simp [s0, s1, s2, s7]; refine hK _ _ ?_; clear hK
    refine vcLex_step fun K hK => ?_; simp [s0, s1, s2, s7]; intros; refine hK _ _ ?_; clear hK
    refine vcLex_step fun K hK => ?_; simp [s0, s1, s2, s7]; refine vcCall_at (rAtom_c s) ?_; simp [s0, s1, s2, s7]; refine hK _ _ ?_; clear hK
    refine vcLex_step fun K hK => ?_; simp [s0, s1, s2, s7]; refine vcCall_at (exact_c _ _) ?_; simp [s0, s1, s2, s7]; refine hK _ _ ?_; clear hK
    refine vcLex_step fun K hK => ?_; simp [s0, s1, s2, s7]; intros; refine hK _ _ ?_; clear hK
    refine vcLex_step fun K hK => ?_; simp [s0, s1, s2, s7]; intros; refine hK _ _ ?_; clear hK
    refine vcLex_step fun K hK => ?_; simp [s0, s1, s2, s7]; intros; refine hK _ _ ?_; clear hK
    refine vcLex_step fun K hK => ?_; simp [s0, s1, s2, s7]; intros; refine hK _ _ ?_; clear hK
    refine vcLex_step fun K hK => ?_; simp [s0, s1, s2, s7]; refine vcCall_at (Comp_c s l) ?_; simp [s0, s1, s2, s7]; refine hK _ _ ?_; clear hK
    refine vcLex_step fun K hK => ?_; simp [s0, s1, s2, s7]; intros; refine hK _ _ ?_; clear hK
    refine vcLex_step fun K hK => ?_; simp [s0, s1, s2, s7]; intros; refine hK _ _ ?_; clear hK
    refine vcLex_step fun K hK => ?_; simp [s0, s1, s2, s7]; refine vcCall_at (rComp_c s l) ?_; simp [s0, s1, s2, s7]; refine hK _ _ ?_; clear hK
    refine vcLex_step fun K hK => ?_; simp [s0, s1, s2, s7]; refine vcCall_at (exact_c _ _) ?_; simp [s0, s1, s2, s7]; refine hK _ _ ?_; clear hK
    refine vcLex_step fun K hK => ?_; simp [s0, s1, s2, s7]; intros; refine hK _ _ ?_; clear hK
    refine vcLex_step fun K hK => ?_; simp [s0, s1, s2, s7]; intros; refine hK _ _ ?_; clear hK
    refine vcLex_step fun K hK => ?_; simp [s0, s1, s2, s7]; intros; refine hK _ _ ?_; clear hK
    refine vcLex_step fun K hK => ?_; simp [s0, s1, s2, s7]; intros; refine hK _ _ ?_; clear hK
    refine vcLex_step fun K hK => ?_; simp [s0, s1, s2, s7]; refine vcCall_at (List_c l tail) ?_; simp [s0, s1, s2, s7]; refine hK _ _ ?_; clear hK
    refine vcLex_step fun K hK => ?_; simp [s0, s1, s2, s7]; intros; refine hK _ _ ?_; clear hK
    refine vcLex_step fun K hK => ?_; simp [s0, s1, s2, s7]; intros; refine hK _ _ ?_; clear hK
    refine vcLex_step fun K hK => ?_; simp [s0, s1, s2, s7]; refine vcCall_at (rList_c l tail) ?_; simp [s0, s1, s2, s7]; refine hK _ _ ?_; clear hK
    refine vcLex_step fun K hK => ?_; simp [s0, s1, s2, s7]; refine vcCall_at (exact_c _ _) ?_; simp [s0, s1, s2, s7]; refine hK _ _ ?_; clear hK
    refine vcLex_step fun K hK => ?_; simp [s0, s1, s2, s7]; intros; refine hK _ _ ?_; clear hK
    refine vcLex_step fun K hK => ?_; simp [s0, s1, s2, s7]; intros; refine hK _ _ ?_; clear hK
    simp
end Go.T1
end

section
open Go Go.Ab Go.Proofs
namespace Go.T1
set_option maxRecDepth 100000 in
theorem TermChecks_c (t : Tm) (hn : t.nice) : PureCall T Try.prog 4 [t.av 24] (.sc (.bool true)) := by
  refine PureCall.of_vc hT [] [] follows Try.call4 Try.func4 rfl (drawsOk_of3 (by kernel_rfl)) (by simp [AV.pure, AV.pureL]) (by simp [AV.pure]) ?_
  unfold Try.f4
  simp
  refine vcCall_at (Large_c t hn) ?_
  simp
  refine ⟨fun h => vcCall_at lives_c (by simp), fun h => ?_⟩
  have hs := Tm.large_small h
  refine vcCall_at (rCheck_c t hs) ?_
  simp
  refine vcCall_at lives_c ?_
  simp
  refine vcCall_at (check_c t hs) ?_
  simp
  refine ⟨fun hc => ?_, fun hc => ?_⟩
  · refine vcCall_at (Clone_c t hs) ?_
    rw [if_neg hc]
    simp
    refine vcCall_at (Size_c t hs) ?_
    rw [if_neg hc]
    simp [-vcOps2_cons]
    refine vcOps2_step rfl fun K hK => ?_; simp [hc]; intros; refine hK _ _ ?_; clear hK
    refine vcOps2_step rfl fun K hK => ?_; simp [hc]; intros; refine hK _ _ ?_; clear hK
    refine vcOps2_step rfl fun K hK => ?_; simp [hc]; intros; refine hK _ _ ?_; clear hK
    refine vcOps2_step rfl fun K hK => ?_; simp [hc]; refine vcCall_at (Depth_c t hs) ?_; (rw [if_neg hc]); simp [hc]; refine hK _ _ ?_; clear hK
    refine vcOps2_step rfl fun K hK => ?_; simp [hc]; intros; refine hK _ _ ?_; clear hK
    refine vcOps2_step rfl fun K hK => ?_; simp [hc]; intros; refine hK _ _ ?_; clear hK
    refine vcOps2_step rfl fun K hK => ?_; simp [hc]; intros; refine hK _ _ ?_; clear hK
    refine vcOps2_step rfl fun K hK => ?_; simp [hc]; intros; refine hK _ _ ?_; clear hK
    refine vcOps2_step rfl fun K hK => ?_; simp [hc]; refine vcCall_at (Vars_c t hs) ?_; (rw [if_neg hc]); simp [hc]; refine hK _ _ ?_; clear hK
    refine vcOps2_step rfl fun K hK => ?_; simp [hc]; intros; refine hK _ _ ?_; clear hK
    refine vcOps2_step rfl fun K hK => ?_; simp [hc]; intros; refine hK _ _ ?_; clear hK
    refine vcOps2_step rfl fun K hK => ?_; simp [hc]; intros; refine hK _ _ ?_; clear hK
    refine vcOps2_step rfl fun K hK => ?_; simp [hc]; intros; refine hK _ _ ?_; clear hK
    refine vcOps2_step rfl fun K hK => ?_; simp [hc]; intros; refine hK _ _ ?_; clear hK
    refine vcOps2_step rfl fun K hK => ?_; simp [hc]; refine vcCall_at (Ground_c t hs) ?_; (rw [decide_eq_false hc]); simp [hc]; refine hK _ _ ?_; clear hK
    refine vcOps2_step rfl fun K hK => ?_; simp [hc]; intros; refine hK _ _ ?_; clear hK
    refine vcOps2_step rfl fun K hK => ?_; simp [hc]; intros; refine hK _ _ ?_; clear hK
    refine vcOps2_step rfl fun K hK => ?_; simp [hc]; intros; refine hK _ _ ?_; clear hK
    refine vcOps2_step rfl fun K hK => ?_; simp [hc]; intros; refine hK _ _ ?_; clear hK
    refine vcOps2_step rfl fun K hK => ?_; simp [hc]; intros; refine hK _ _ ?_; clear hK
    refine vcOps2_step rfl fun K hK => ?_; simp [hc]; refine vcCall_at (Same_c t t hs hs) ?_; (rw [decide_eq_false hc]); simp [hc]; refine hK _ _ ?_; clear hK
    refine vcOps2_step rfl fun K hK => ?_; simp [hc]; intros; refine hK _ _ ?_; clear hK
    refine vcOps2_step rfl fun K hK => ?_; simp [hc]; intros; refine hK _ _ ?_; clear hK
    refine vcOps2_step rfl fun K hK => ?_; simp [hc]; intros; refine hK _ _ ?_; clear hK
    refine vcOps2_step rfl fun K hK => ?_; simp [hc]; intros; refine hK _ _ ?_; clear hK
    refine vcOps2_step rfl fun K hK => ?_; simp [hc]; intros; refine hK _ _ ?_; clear hK
    refine vcOps2_step rfl fun K hK => ?_; simp [hc]; refine vcCall_of (exact_c Tm.zero Tm.zero) (by simp [Tm.zero, Tm.cells, Tm.cellsL]; rfl) ?_; simp [hc]; refine hK _ _ ?_; clear hK
    refine vcOps2_step rfl fun K hK => ?_; simp [hc]; intros; refine hK _ _ ?_; clear hK
    simp
  · refine vcCall_at (Size_c t hs) ?_
    rw [if_pos hc]
    simp
    refine vcCall_at (rSize_c t hs) ?_
    simp [-vcLex_cons]
    refine vcLex_step fun K hK => ?_; simp [hc]; intros; refine hK _ _ ?_; clear hK
    refine vcLex_step fun K hK => ?_; simp [hc]; intros; refine hK _ _ ?_; clear hK
    refine vcLex_step fun K hK => ?_; simp [hc]; intros; refine hK _ _ ?_; clear hK
    refine vcLex_step fun K hK => ?_; simp [hc]; refine vcCall_at (Depth_c t hs) ?_; (rw [if_pos hc]); simp [hc]; refine hK _ _ ?_; clear hK
    refine vcLex_step fun K hK => ?_; simp [hc]; intros; refine hK _ _ ?_; clear hK
    refine vcLex_step fun K hK => ?_; simp [hc]; refine vcCall_at (rDepth_c t hs) ?_; simp [hc]; refine hK _ _ ?_; clear hK
    refine vcLex_step fun K hK => ?_; simp [hc]; intros; refine hK _ _ ?_; clear hK
    refine vcLex_step fun K hK => ?_; simp [hc]; intros; refine hK _ _ ?_; clear hK
    refine vcLex_step fun K hK => ?_; simp [hc]; intros; refine hK _ _ ?_; clear hK
    refine vcLex_step fun K hK => ?_; simp [hc]; intros; refine hK _ _ ?_; clear hK
    refine vcLex_step fun K hK => ?_; simp [hc]; refine vcCall_at (Ground_c t hs) ?_; (rw [decide_eq_true hc]); simp [hc]; refine hK _ _ ?_; clear hK
    refine vcLex_step fun K hK => ?_; simp [hc]; intros; refine hK _ _ ?_; clear hK
    refine vcLex_step fun K hK => ?_; simp [hc]; refine vcCall_at (rVars_c t hs) ?_; simp [hc]; refine hK _ _ ?_; clear hK
    refine vcLex_step fun K hK => ?_; simp [hc]; intros; refine hK _ _ ?_; clear hK
    refine vcLex_step fun K hK => ?_; simp [hc]; intros; refine hK _ _ ?_; clear hK
    refine vcLex_step fun K hK => ?_; simp [hc]; intros; refine hK _ _ ?_; clear hK
    refine vcLex_step fun K hK => ?_; simp [hc]; intros; refine hK _ _ ?_; clear hK
    refine vcLex_step fun K hK => ?_; simp [hc]; intros; refine hK _ _ ?_; clear hK
    refine vcLex_step fun K hK => ?_; simp [hc]; intros; refine hK _ _ ?_; clear hK
    refine vcLex_step fun K hK => ?_; simp [hc]; refine vcCall_at (Clone_c t hs) ?_; (rw [if_pos hc]); simp [hc]; refine hK _ _ ?_; clear hK
    refine vcLex_step fun K hK => ?_; simp [hc]; intros; refine hK _ _ ?_; clear hK
    refine vcLex_step fun K hK => ?_; simp [hc]; refine vcCall_at (exact_c t t) ?_; simp [hc]; refine hK _ _ ?_; clear hK
    refine vcLex_step fun K hK => ?_; simp [hc]; intros; refine hK _ _ ?_; clear hK
    refine vcLex_step fun K hK => ?_; simp [hc]; intros; refine hK _ _ ?_; clear hK
    refine vcLex_step fun K hK => ?_; simp [hc]; intros; refine hK _ _ ?_; clear hK
    refine vcLex_step fun K hK => ?_; simp [hc]; intros; refine hK _ _ ?_; clear hK
    refine vcLex_step fun K hK => ?_; simp [hc]; refine vcCall_at (Same_c t t hs hs) ?_; (rw [decide_eq_true hc]); simp [hc]; refine hK _ _ ?_; clear hK
    refine vcLex_step fun K hK => ?_; simp [hc]; intros; refine hK _ _ ?_; clear hK
    refine vcLex_step fun K hK => ?_; simp [hc]; intros; refine hK _ _ ?_; clear hK
    simp
end Go.T1
end

section
open Go Go.Ab Go.Proofs
namespace Go.T1
set_option maxRecDepth 100000 in
theorem TermRenames_c (t : Tm) (hn : t.nice) : PureCall T Try.prog 5 [t.av 24] (.sc (.bool true)) := by
  refine PureCall.of_vc hT [] [] follows Try.call5 Try.func5 rfl (drawsOk_of3 (by kernel_rfl)) (by simp [AV.pure, AV.pureL]) (by simp [AV.pure]) ?_
  unfold Try.f5
  simp
  refine vcCall_at (Large_c t hn) ?_
  simp
  cases hlg : t.large
  case true =>
    refine ⟨[], .sc (.int .i64 0), fun h => (by simp at h), ?_⟩
    simp
    exact vcCall_at lives_c (by simp)
  have hs := Tm.large_small hlg
  refine vcCall_at (rCheck_c t hs) ?_
  simp
  refine ⟨fun hc => vcCall_at lives_c (by simp), fun hc => ?_⟩
  have hus := Tm.num_small hs hc
  have huc := Tm.num_check hs hc
  have hag := Tm.num_again hs hc
  have hren : renT t = numT (t.vars []) t := rfl
  have hren2 : renT (numT (t.vars []) t) = numT (t.vars []) t := hag
  have hlen : ((numT (t.vars []) t).vars []).length = (t.vars []).length := by rw [Tm.num_vars0]; simp
  obtain ⟨u, hu⟩ : ∃ u, u = numT (t.vars []) t := ⟨_, rfl⟩
  rw [← hu] at hus huc hag hren hren2 hlen
  have ha : (decide (t.check = 0) && decide (u.check = 0) && decide (renT t = renT u)) = true := by simp [hc, huc, hren, hren2]
  have hb : (decide (u.check = 0) && decide (t.check = 0) && decide (renT u = renT t)) = true := by simp [hc, huc, hren, hren2]
  refine vcCall_at (Vars_c t hs) ?_
  rw [if_pos hc]
  simp
  refine vcCall_at (rVars_c t hs) ?_
  simp
  refine vcCall_at (Rename_c t hs) ?_
  rw [if_pos hc, if_pos hc, hren]
  simp
  refine vcCall_at (rRename_c t hs) ?_
  rw [hren]
  simp
  refine vcCall_at lives_c ?_
  simp
  intro _ _ _ _
  refine vcCall_at (exact_c u u) ?_
  simp
  refine vcC_loop [] (fun m σ st => ∃ i : Nat, m = (t.vars []).length - i ∧ i ≤ (t.vars []).length ∧ σ 1 = .eptr (t.cells 24) ∧ σ 3 = .lst 3 (intsL (t.vars [])) ∧ σ 4 = .lst 3 (intsL (t.vars [])) ∧ σ 5 = .eptr (u.cells 24) ∧ σ 6 = .sc (.int .i64 (t.vars []).length) ∧ σ 9 = .sc (.int .i64 i) ∧ st = []) (t.vars []).length ⟨0, by simp⟩ ?_
  rintro m σ st ⟨i, rfl, hi, s1, s3, s4, s5, s6, s9, rfl⟩
  rcases Nat.lt_or_ge i (t.vars []).length with hlt | hge
  · simp [s1, s3, s4, s5, s6, s9, hlt]
    exact fun _ _ => ⟨by unfold i64ok; omega, (t.vars []).length - (i + 1), by omega, i + 1, rfl, by omega, by omega⟩
  · have hi : i = (t.vars []).length := by omega
    subst hi
    simp [s1, s3, s4, s5, s6, s9]
    intro _ _
    refine vcCall_at (Rename_c u hus) ?_
    rw [if_pos huc, if_pos huc, hren2, hlen]
    simp [s1, s3, s4, s5, s6, s9]
    refine vcCall_at (exact_c u u) ?_
    simp [s1, s5]
    refine vcCall_at (Variant_c t u hs hus) ?_
    rw [ha]
    simp [s1, s5]
    refine vcCall_at (Variant_c u t hus hs) ?_
    rw [hb]
    simp
end Go.T1
end

section
open Go Go.Ab Go.Proofs
namespace Go.T1
set_option maxRecDepth 100000 in
theorem TermSames_c (a b : Tm) (ha : a.nice) (hb : b.nice) : PureCall T Try.prog 6 [a.av 24, b.av 24] (.sc (.bool true)) := by
  refine PureCall.of_vc hT [] [] follows Try.call6 Try.func6 rfl (drawsOk_of3 (by kernel_rfl)) (by simp [AV.pure, AV.pureL]) (by simp [AV.pure]) ?_
  unfold Try.f6
  simp
  refine vcCall_at (Large_c a ha) ?_
  simp
  refine vcCall_at (Large_c b hb) ?_
  simp
  refine ⟨fun h => vcCall_at lives_c (by simp), fun h1 h2 => ?_⟩
  have hsa := Tm.large_small h1
  have hsb := Tm.large_small h2
  refine vcCall_at (rCheck_c a hsa) ?_
  simp
  refine vcCall_at (rCheck_c b hsb) ?_
  simp
  refine ⟨fun h => ?_, fun hca hcb => ?_⟩
  · have h' : (decide (a.check = 0) && decide (b.check = 0)) = false := by
      rcases h with h | h <;> simp [h]
    refine vcCall_at lives_c ?_
    simp
    refine vcCall_at (Same_c a b hsa hsb) ?_
    rw [h']
    simp
    refine vcCall_at (Variant_c a b hsa hsb) ?_
    rw [h']
    simp
  · refine vcCall_at (rRename_c a hsa) ?_
    simp
    refine vcCall_at (rRename_c b hsb) ?_
    simp
    refine vcCall_at lives_c ?_
    simp [-vcLex_cons]
    refine vcLex_step fun K hK => ?_; simp []; intros; refine hK _ _ ?_; clear hK
    refine vcLex_step fun K hK => ?_; simp []; intros; refine hK _ _ ?_; clear hK
    refine vcLex_step fun K hK => ?_; simp []; intros; refine hK _ _ ?_; clear hK
    refine vcLex_step fun K hK => ?_; simp []; refine vcCall_at (Same_c a b hsa hsb) ?_; (rw [hca, hcb]); simp []; refine hK _ _ ?_; clear hK
    refine vcLex_step fun K hK => ?_; simp []; intros; refine hK _ _ ?_; clear hK
    refine vcLex_step fun K hK => ?_; simp []; intros; refine hK _ _ ?_; clear hK
    refine vcLex_step fun K hK => ?_; simp []; refine vcCall_at (exact_c a b) ?_; simp []; refine hK _ _ ?_; clear hK
    refine vcLex_step fun K hK => ?_; simp []; intros; refine hK _ _ ?_; clear hK
    refine vcLex_step fun K hK => ?_; simp []; intros; refine hK _ _ ?_; clear hK
    refine vcLex_step fun K hK => ?_; simp []; intros; refine hK _ _ ?_; clear hK
    refine vcLex_step fun K hK => ?_; simp []; intros; refine hK _ _ ?_; clear hK
    refine vcLex_step fun K hK => ?_; simp []; intros; refine hK _ _ ?_; clear hK
    refine vcLex_step fun K hK => ?_; simp []; refine vcCall_at (Variant_c a b hsa hsb) ?_; (rw [hca, hcb]); simp []; refine hK _ _ ?_; clear hK
    refine vcLex_step fun K hK => ?_; simp []; intros; refine hK _ _ ?_; clear hK
    refine vcLex_step fun K hK => ?_; simp []; intros; refine hK _ _ ?_; clear hK
    refine vcLex_step fun K hK => ?_; simp []; refine vcCall_at (exact_c _ _) ?_; simp []; refine hK _ _ ?_; clear hK
    refine vcLex_step fun K hK => ?_; simp []; intros; refine hK _ _ ?_; clear hK
    refine vcLex_step fun K hK => ?_; simp []; intros; refine hK _ _ ?_; clear hK
    refine vcLex_step fun K hK => ?_; simp []; intros; refine hK _ _ ?_; clear hK
    simp
end Go.T1
end

section
open Go Go.Ab Go.Proofs
namespace Go.T1
/-- The first variables. -/
def varsTo (k : Nat) : List Tm := (List.range k).map fun (j : Nat) => Tm.mk 1 (j : Int) ⟨#[]⟩ []
@[simp] theorem varsTo_len (k : Nat) : (varsTo k).length = k := by simp [varsTo]
theorem varsTo_succ (k : Nat) : varsTo (k + 1) = varsTo k ++ [Tm.mk 1 (k : Int) ⟨#[]⟩ []] := by simp [varsTo, List.range_succ]
theorem varsTo_mem {i : Nat} {x : Tm} (h : x ∈ varsTo i) : ∃ j : Nat, j < i ∧ x = Tm.mk 1 (j : Int) ⟨#[]⟩ [] := by
  obtain ⟨j, hj, rfl⟩ := List.mem_map.1 h
  exact ⟨j, List.mem_range.1 hj, rfl⟩
theorem varsTo_small {i : Nat} {x : Tm} (h : x ∈ varsTo i) : x.small := by
  obtain ⟨j, _, rfl⟩ := varsTo_mem h
  simp [Tm.small, Tm.size, Tm.sizeL]
theorem varsTo_check {i : Nat} (hi : i ≤ 200) {x : Tm} (h : x ∈ varsTo i) : x.check = 0 := by
  obtain ⟨j, hj, rfl⟩ := varsTo_mem h
  have : (j : Int) < 1073741824 := by omega
  simp [Tm.check, Tm.size, Tm.sizeL, Tm.depth, Tm.depthL, Tm.right, Tm.rightL, partB, this]
theorem repF_varsTo (i : Nat) {n : Int} (hn : 0 ≤ n) : repF (varsTo i) n = Tm.var n := by
  unfold repF
  split
  · rename_i h
    simp only [varsTo_len] at h
    simp only [varsTo, List.getElem_map, List.getElem_range, Tm.var]
    congr 1; omega
  · rfl
theorem stays_sub (t : Tm) (i : Nat) (hr : t.right = true) : t.sub (repF (varsTo i)) = t := by
  rw [Tm.sub_congr _ Tm.var t fun n hn => repF_varsTo i (Tm.occ_pos t hr n hn).1]
  exact Tm.sub_var t hr
theorem stays_repl (t : Tm) (i : Nat) (hc : t.check = 0) (hi : i ≤ 200) : replT t (varsTo i) = t := by
  unfold replT
  rw [stays_sub t i (Tm.right_of_check hc), if_pos ⟨hc, fun x hx => varsTo_check hi hx, hc⟩]

set_option maxRecDepth 100000 in
theorem TermStays_c (t : Tm) (n : Int) (ht : t.nice) : PureCall T Try.prog 9 [t.av 24, .sc (.int .i64 n)] (.sc (.bool true)) := by
  refine PureCall.of_vc hT [] [(100008, 5)] follows Try.call9 Try.func9 rfl (drawsOk_of3 (by kernel_rfl)) (by simp [AV.pure, AV.pureL]) (by simp [AV.pure]) ?_
  unfold Try.f9
  simp
  refine vcCall_at (Large_c t ht) ?_
  simp
  cases hlg : t.large
  case true =>
    refine ⟨[], .sc (.int .i64 0), fun h => (by simp at h), ?_⟩
    simp
    exact vcCall_at lives_c (by simp)
  have hs := Tm.large_small hlg
  refine vcCall_at (rCheck_c t hs) ?_
  simp
  refine ⟨fun _ => vcCall_at lives_c (by simp), fun hc hn0 hn2 => ?_⟩
  refine vcC_loop [(24, .slot 5)] (fun m σ st => ∃ (i : Nat) (al : Bool), m = n.toNat - i ∧ (i : Int) ≤ n ∧ σ 1 = .sc (.int .i64 n) ∧ σ 2 = .eptr (t.cells 24) ∧ σ 5 = .own 0 i ∧ σ 6 = .sc (.int .i64 i) ∧ st = [.row 24 i al (Tm.cellsL 24 (varsTo i))]) n.toNat ?_ ?_
  · simp
    exact ⟨0, by simp [varsTo, Tm.cellsL, hn0]⟩
  rintro m σ st ⟨i, al, rfl, hi, s1, s2, s5, s6, rfl⟩
  rcases Int.lt_or_le i n with hlt | hge
  · simp [s1, s2, s5, s6, hlt]
    refine vcCall_at (rVar_c i) ?_
    simp [s1, s2, s5, s6]
    refine ⟨by omega, by unfold i64ok; omega, n.toNat - (i + 1), by omega, i + 1, rfl, by omega, rfl, by omega, rfl, ?_⟩
    rw [varsTo_succ]; simp [Tm.cellsL]
  · have hin : (i : Int) = n := by omega
    simp [s1, s2, s5, s6, Int.not_lt.2 hge]
    refine vcC_fzT (d := 5) (i' := 0) (g := i) (by simp) (by simp) (by simp [s5]) rfl ?_
    have hR := Replace_c t (varsTo i) hs (fun x hx => varsTo_small hx) (fun _ _ => by rw [stays_sub t i (Tm.right_of_check hc)]; exact hs)
    rw [stays_repl t i hc (by omega)] at hR
    refine vcLex_step fun K hK => ?_; simp [s1, s2, s5, s6]; refine vcCall_at (lives_c) ?_; simp [s1, s2, s5, s6]; refine hK _ _ ?_; clear hK
    refine vcLex_step fun K hK => ?_; simp [s1, s2, s5, s6]; intros; refine hK _ _ ?_; clear hK
    refine vcLex_step fun K hK => ?_; simp [s1, s2, s5, s6]; intros; refine hK _ _ ?_; clear hK
    refine vcLex_step fun K hK => ?_; simp [s1, s2, s5, s6]; intros; refine hK _ _ ?_; clear hK
    refine vcLex_step fun K hK => ?_; simp [s1, s2, s5, s6]; refine vcCall_at (hR) ?_; simp [s1, s2, s5, s6]; refine hK _ _ ?_; clear hK
    refine vcLex_step fun K hK => ?_; simp [s1, s2, s5, s6]; intros; refine hK _ _ ?_; clear hK
    refine vcLex_step fun K hK => ?_; simp [s1, s2, s5, s6]; refine vcCall_at (exact_c t t) ?_; simp [s1, s2, s5, s6]; refine hK _ _ ?_; clear hK
    refine vcLex_step fun K hK => ?_; simp [s1, s2, s5, s6]; intros; refine hK _ _ ?_; clear hK
    refine vcLex_step fun K hK => ?_; simp [s1, s2, s5, s6]; intros; refine hK _ _ ?_; clear hK
    simp
end Go.T1
end

section
open Go Go.Ab Go.Proofs
namespace Go.T1
theorem list_size (tail : Tm) : ∀ l : List Tm, (Tm.list tail l).size = l.length + Tm.sizeL l + tail.size
  | [] => by simp [Tm.list, Tm.sizeL]
  | x :: xs => by simp only [Tm.list, Tm.size, Tm.sizeL, list_size tail xs, List.length_cons]; omega
theorem list_items (tail : Tm) (h : tail.items = ([], tail)) : ∀ l : List Tm, (Tm.list tail l).items = (l, tail)
  | [] => h
  | x :: xs => by simp only [Tm.list, Tm.items_two, list_items tail h xs]

set_option maxRecDepth 100000 in
theorem TermLists_c (l : List Tm) (tail : Tm) (hl : Tm.niceL l) (ht : tail.nice) : PureCall T Try.prog 8 [.lst 24 (Tm.cellsL 24 l), tail.av 24] (.sc (.bool true)) := by
  refine PureCall.of_vc hT [] [] follows Try.call8 Try.func8 rfl (drawsOk_of3 (by kernel_rfl)) (by simp [AV.pure, AV.pureL]) (by simp [AV.pure]) ?_
  unfold Try.f8
  simp
  intro hl1 hl2
  by_cases h50 : (50 : Int) < l.length
  · refine ⟨[], .sc (.bool false), fun h => (by simp at h; omega), ?_⟩
    simp [h50]
    refine ⟨[], .sc (.bool false), fun h => (by simp at h), ?_⟩
    obtain ⟨k, n, s, tl⟩ := tail
    simp [Tm.cells]
    exact vcCall_at lives_c (by simp)
  have h50' : (l.length : Int) ≤ 50 := by omega
  refine vcCall_at (Large_c tail ht) ?_
  cases hlg : tail.large
  case true =>
    simp [h50, h50']
    refine ⟨[], .sc (.bool false), fun h => (by simp at h), ?_⟩
    obtain ⟨k, n, s, tl⟩ := tail
    simp [Tm.cells]
    exact vcCall_at lives_c (by simp)
  simp [h50, h50']
  refine vcCall_at (many_c l hl (by omega)) ?_
  cases hmn : manyT l
  case true =>
    obtain ⟨k, n, s, tl⟩ := tail
    simp [Tm.cells]
    exact vcCall_at lives_c (by simp)
  have htail : ∀ k n s tl, tail = .mk k n s tl → tail.cells 24 = [.sc (.int .i64 k), .sc (.int .i64 n), .sc (.string s), .lst 24 (Tm.cellsL 24 tl)] := fun k n s tl h => by rw [h]; rfl
  obtain ⟨k, n, s, tl, hk⟩ : ∃ k n s tl, tail = .mk k n s tl := by cases tail; exact ⟨_, _, _, _, rfl⟩
  have hcl := htail k n s tl hk
  simp [hcl]
  subst hk
  intro _
  refine ⟨fun _ _ _ => vcCall_at lives_c (by simp), fun hne => ?_⟩
  have hst := Tm.large_small hlg
  have hts := Tm.large_size hlg
  have hls : Tm.sizeL l ≤ 10000 := by
    unfold manyT at hmn
    simp only [Bool.or_eq_false_iff, decide_eq_false_iff_not] at hmn
    omega
  have hsz := list_size (.mk k n s tl) l
  have hus : (Tm.list (.mk k n s tl) l).small := by unfold Tm.small; omega
  have hit := list_items (.mk k n s tl) (Tm.items_end fun h => hne h.1 h.2.1 (by omega)) l
  refine vcCall_at (List_c l (.mk k n s tl)) ?_
  simp
  refine vcCall_at lives_c ?_
  simp
  refine vcCall_at (check_c _ hus) ?_
  simp
  refine ⟨fun hcu => ?_, fun hcu => ?_⟩
  · refine vcCall_at lives_c ?_
    simp [-vcOps2_cons]
    refine vcOps2_step rfl fun K hK => ?_; simp [hcu]; intros; refine hK _ _ ?_; clear hK
    refine vcOps2_step rfl fun K hK => ?_; simp [hcu]; intros; refine hK _ _ ?_; clear hK
    refine vcOps2_step rfl fun K hK => ?_; simp [hcu]; intros; refine hK _ _ ?_; clear hK
    refine vcOps2_step rfl fun K hK => ?_; simp [hcu]; refine vcCall_at (rList_c l (.mk k n s tl)) ?_; simp [hcu]; refine hK _ _ ?_; clear hK
    refine vcOps2_step rfl fun K hK => ?_; simp [hcu]; refine vcCall_at (rCheck_c _ hus) ?_; simp [hcu]; refine hK _ _ ?_; clear hK
    refine vcOps2_step rfl fun K hK => ?_; simp [hcu]; intros; refine hK _ _ ?_; clear hK
    refine vcOps2_step rfl fun K hK => ?_; simp [hcu]; intros; refine hK _ _ ?_; clear hK
    simp
  · refine vcCall_at (Items_c _ hus) ?_
    rw [if_pos hcu, if_pos hcu, hit]
    simp [-vcLex_cons]
    refine vcLex_step fun K hK => ?_; simp []; intros; refine hK _ _ ?_; clear hK
    refine vcLex_step fun K hK => ?_; simp []; intros; refine hK _ _ ?_; clear hK
    refine vcLex_step fun K hK => ?_; simp []; refine vcCall_at (alike_c l l) ?_; simp []; refine hK _ _ ?_; clear hK
    refine vcLex_step fun K hK => ?_; simp []; intros; refine hK _ _ ?_; clear hK
    refine vcLex_step fun K hK => ?_; simp []; intros; refine hK _ _ ?_; clear hK
    refine vcLex_step fun K hK => ?_; simp []; intros; refine hK _ _ ?_; clear hK
    refine vcLex_step fun K hK => ?_; simp []; refine vcCall_at (exact_c (.mk k n s tl) (.mk k n s tl)) ?_; simp []; refine hK _ _ ?_; clear hK
    refine vcLex_step fun K hK => ?_; simp []; intros; refine hK _ _ ?_; clear hK
    refine vcLex_step fun K hK => ?_; simp []; intros; refine hK _ _ ?_; clear hK
    refine vcLex_step fun K hK => ?_; simp []; intros; refine hK _ _ ?_; clear hK
    refine vcLex_step fun K hK => ?_; simp []; refine vcCall_at (Size_c _ hus) ?_; (rw [if_pos hcu, hsz]); simp []; refine hK _ _ ?_; clear hK
    refine vcLex_step fun K hK => ?_; simp []; intros; refine hK _ _ ?_; clear hK
    refine vcLex_step fun K hK => ?_; simp []; intros; refine hK _ _ ?_; clear hK
    refine vcLex_step fun K hK => ?_; simp []; intros; refine hK _ _ ?_; clear hK
    refine vcLex_step fun K hK => ?_; simp []; refine vcCall_at (sizes_c l (by omega)) ?_; simp []; refine hK _ _ ?_; clear hK
    refine vcLex_step fun K hK => ?_; simp []; intros; (first | refine hK _ _ ?_ | refine ⟨by unfold i64ok; omega, hK _ _ ?_⟩); clear hK
    refine vcLex_step fun K hK => ?_; simp []; intros; refine hK _ _ ?_; clear hK
    refine vcLex_step fun K hK => ?_; simp []; refine vcCall_at (rSize_c (.mk k n s tl) hst) ?_; simp []; refine hK _ _ ?_; clear hK
    refine vcLex_step fun K hK => ?_; simp []; intros; (first | refine hK _ _ ?_ | refine ⟨by unfold i64ok; omega, hK _ _ ?_⟩); clear hK
    refine vcLex_step fun K hK => ?_; simp []; intros; refine hK _ _ ?_; clear hK
    refine vcLex_step fun K hK => ?_; simp []; intros; refine hK _ _ ?_; clear hK
    refine vcLex_step fun K hK => ?_; simp []; intros; refine hK _ _ ?_; clear hK
    simp
end Go.T1
end

section
open Go Go.Ab Go.Proofs
namespace Go.T1
theorem repF_size (w : List Tm) (n : Int) : (repF w n).size ≤ 1 + Tm.sizeL w := by
  unfold repF
  split
  · rename_i h; have := Tm.size_mem h; omega
  · simp [Tm.var, Tm.size, Tm.sizeL]
theorem repl_size (t : Tm) (w : List Tm) : (t.sub (repF w)).size ≤ t.size * (1 + Tm.sizeL w) := Tm.sub_size _ _ (by omega) (repF_size w) t

set_option maxRecDepth 100000 in
theorem TermReplaces_c (t : Tm) (w : List Tm) (ht : t.nice) (hw : Tm.niceL w) : PureCall T Try.prog 7 [t.av 24, .lst 24 (Tm.cellsL 24 w)] (.sc (.bool true)) := by
  refine PureCall.of_vc hT [14] [] follows Try.call7 Try.func7 rfl (drawsOk_of3 (by kernel_rfl)) (by simp [AV.pure, AV.pureL]) (by simp [AV.pure]) ?_
  unfold Try.f7
  simp
  refine vcCall_at (Large_c t ht) ?_
  simp
  intro hl
  refine ⟨fun _ => vcCall_at lives_c (by simp), fun hlg h20 => ?_⟩
  have hs := Tm.large_small hlg
  have hts := Tm.large_size hlg
  refine vcCall_at (rCheck_c t hs) ?_
  simp
  refine vcC_loop [] (fun m σ st => ∃ i : Nat, m = w.length - i ∧ i ≤ w.length ∧ noneL (w.take i) ∧ σ 1 = .lst 24 (Tm.cellsL 24 w) ∧ σ 2 = .eptr (t.cells 24) ∧ σ 5 = .sc (.bool (decide (t.check = 0) && allC (w.take i))) ∧ σ 6 = .sc (.int .i64 (1 + Tm.sizeL (w.take i))) ∧ σ 7 = .sc (.int .i64 i) ∧ st = []) w.length ⟨0, by simp [noneL, allC, Tm.sizeL]⟩ ?_
  rintro m σ st ⟨i, rfl, hi, hno, s1, s2, s5, s6, s7, rfl⟩
  rcases Nat.lt_or_ge i w.length with hlt | hge
  · simp [s1, s2, s5, s6, s7, hlt]
    refine fun _ _ => vcCall_at (Large_c _ (Tm.niceL_take hlt hw)) ?_
    simp [s1, s2, s5, s6, s7, hlt]
    refine ⟨fun _ => vcCall_at lives_c (by simp), fun hx => ?_⟩
    have hxs := Tm.large_small hx
    refine ⟨w[i].cells 24, fun h1 h2 => ⟨⟨h1, h2⟩, rfl⟩, fun h1 h2 => ⟨⟨h1, h2⟩, by simp⟩, ?_⟩
    rw [Tm.cells_take]
    refine vcCall_at (rCheck_c _ hxs) ?_
    simp [s1, s2, s5, s6, s7, hlt]
    refine vcCall_at (rSize_c _ hxs) ?_
    simp [s1, s2, s5, s6, s7, hlt]
    have g1 := noneL_size hno
    have g2 := Tm.large_size hx
    have g3 : (w.take i).length ≤ 20 := by simp; omega
    refine ⟨by unfold i64ok; omega, by unfold i64ok; omega, w.length - (i + 1), by omega, i + 1, rfl, by omega, noneL_take hlt hno hx, ?_, ?_, by omega⟩
    · rw [allC_take hlt, Bool.and_assoc]
    · rw [Tm.sizeL_take hlt]; omega
  · have hi : i = w.length := by omega
    subst hi
    rw [List.take_length] at hno s5 s6
    simp [s1, s2, s5, s6, s7]
    intro _ _
    refine vcCall_at (rSize_c t hs) ?_
    simp [s1, s2, s5, s6, s7]
    have g1 := noneL_size hno
    have g4 : Tm.sizeL w ≤ 120000 := by omega
    have g5 : (t.size : Int) * (1 + (Tm.sizeL w : Int)) ≤ 6000 * 120001 := Int.mul_le_mul (by omega) (by omega) (by omega) (by omega)
    have g6 : (0 : Int) ≤ (t.size : Int) * (1 + (Tm.sizeL w : Int)) := Int.mul_nonneg (by omega) (by omega)
    refine ⟨by unfold i64ok; omega, fun _ => vcCall_at lives_c (by simp), fun hprod => ?_⟩
    have hsub : (t.sub (repF w)).size ≤ 100000 := by
      have h1 := repl_size t w
      have h2 : ((t.size * (1 + Tm.sizeL w) : Nat) : Int) ≤ 100000 := by push_cast; exact hprod
      omega
    have hsubs : (t.sub (repF w)).small := by unfold Tm.small; omega
    have hwsm : ∀ x ∈ w, x.small := fun x hx => by
      obtain ⟨j, hj, rfl⟩ := List.getElem_of_mem hx
      have := Tm.size_mem hj
      unfold Tm.small; omega
    by_cases hc : t.check = 0
    · obtain ⟨M, hM⟩ : ∃ M, M = allC w := ⟨_, rfl⟩
      rw [decide_eq_true hc, ← hM, Bool.true_and] at s5
      have hR := Replace_c t w hs hwsm (fun _ _ => hsubs)
      obtain ⟨v, hv⟩ : ∃ v, v = t.sub (repF w) := ⟨_, rfl⟩
      have hrt : replT t w = if M = true ∧ v.check = 0 then v else Tm.zero := by
        unfold replT
        rw [← hv]
        by_cases h : M = true
        · have h2 := allC_iff.1 (hM ▸ h)
          by_cases h3 : v.check = 0
          · rw [if_pos ⟨hc, h2, h3⟩, if_pos ⟨h, h3⟩]
          · rw [if_neg (fun q => h3 q.2.2), if_neg (fun q => h3 q.2)]
        · rw [if_neg (fun q => h (hM ▸ allC_iff.2 q.2.1)), if_neg (fun q => h q.1)]
      refine vcCall_at hR ?_
      simp [s1, s2, s5]
      refine vcCall_at (Items_c t hs) ?_
      rw [if_pos hc, if_pos hc]
      simp [s1, s2, s5]
      refine vcCall_at lives_c ?_
      simp [s1, s2, s5]
      refine vcCall_at (rCheck_c t hs) ?_
      simp [s1, s2, s5, hc]
      refine vcCall_at (rItems_c t hs) ?_
      simp [s1, s2, s5]
      intro _ _ _ _
      refine vcCall_at (exact_c t.items.2 t.items.2) ?_
      simp [s1, s2, s5]
      refine vcC_loop [] (fun m σ st => ∃ i : Nat, m = t.items.1.length - i ∧ i ≤ t.items.1.length ∧ σ 1 = .lst 24 (Tm.cellsL 24 w) ∧ σ 2 = .eptr (t.cells 24) ∧ σ 5 = .sc (.bool M) ∧ σ 8 = .eptr ((replT t w).cells 24) ∧ σ 9 = .lst 24 (Tm.cellsL 24 t.items.1) ∧ σ 11 = .lst 24 (Tm.cellsL 24 t.items.1) ∧ σ 13 = .sc (.int .i64 i) ∧ st = [.cells (t.items.2.cells 24), .cells (t.items.2.cells 24)]) t.items.1.length ⟨0, by simp [s1, s2, s5]⟩ ?_
      rintro m σ st ⟨i, rfl, hi, r1, r2, r5, r8, r9, r11, r13, rfl⟩
      rcases Nat.lt_or_ge i t.items.1.length with hlt | hge
      · simp [r1, r2, r5, r8, r9, r11, r13, hlt]
        intro _ _
        refine vcCall_at (exact_c _ _) ?_
        simp [r1, r2, r5, r8, r9, r11, r13, hlt]
        exact ⟨by unfold i64ok; omega, t.items.1.length - (i + 1), by omega, i + 1, rfl, by omega, by omega⟩
      · have hi : i = t.items.1.length := by omega
        subst hi
        simp [r1, r2, r5, r8, r9, r11, r13]
        intro _ _
        have hrr := rReplace_c w t (Tm.right_of_check hc)
        rw [← hv] at hrr
        rw [← hv] at hsubs
        refine vcCall_at hrr ?_
        simp [r1, r2, r5, r8]
        refine vcCall_at (rCheck_c v hsubs) ?_
        simp [r1, r2, r5, r8]
        refine ⟨fun hMt hvc => ?_, fun hn => ?_⟩
        · refine vcCall_at hrr ?_
          simp [r1, r2, r5, r8]
          rw [hrt, if_pos ⟨hMt, hvc⟩]
          refine vcCall_at (exact_c v v) ?_
          simp
        · rw [hrt, if_neg (fun q => hn q.1 q.2)]
          refine vcCall_of (exact_c Tm.zero Tm.zero) (by simp [Tm.zero, Tm.cells, Tm.cellsL]; rfl) ?_
          simp
    · have hrt : replT t w = Tm.zero := by unfold replT; rw [if_neg fun h => hc h.1]
      refine vcCall_at (Replace_c t w hs hwsm (fun _ _ => hsubs)) ?_
      rw [hrt]
      simp [s1, s2, s5]
      refine vcCall_at (Items_c t hs) ?_
      rw [if_neg hc, if_neg hc]
      simp [s1, s2, s5]
      refine vcCall_at lives_c ?_
      simp [s1, s2, s5]
      refine vcCall_at (rCheck_c t hs) ?_
      simp [s1, s2, s5, hc]
      refine vcCall_of (exact_c Tm.zero Tm.zero) (by simp [Tm.zero, Tm.cells, Tm.cellsL]; rfl) ?_
      simp [s1, s2, s5, Tm.cellsL]
      refine vcCall_of (exact_c Tm.zero Tm.zero) (by simp [Tm.zero, Tm.cells, Tm.cellsL]; rfl) ?_
      simp
end Go.T1
end
