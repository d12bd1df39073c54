/- What the six statements of chapter 14 hand back: true, at every term, list of terms, name and number. -/
import Derived.Test.YtilggcohehdcpaaW4
import Derived.RangeFuncNested
import Derived.RangeFuncBound
import Derived.RangeFuncCalls
import Derived.RangeFuncLeaves
import Derived.Shelf.Abstract
import Derived.Shelf.RegionOpen
import Derived.OwnWalkIn
import Derived.TacticsInMore
import Derived.LoopNIn
import Derived.LoopIn
set_option linter.unusedSimpArgs false
set_option linter.unusedVariables false
set_option linter.unusedSectionVars false
set_option linter.unnecessarySimpa false
section
open Go Go.Ab Go.Proofs
namespace Go.T1
theorem Gl.ext' {a b : Gl} (h1 : a.kind = b.kind) (h2 : a.term = b.term) : a = b := by cases a; cases b; simp at h1 h2; simp [h1, h2]
set_option maxRecDepth 100000 in
theorem sameGoals_c (a b : List Gl) : PureCall T Try.prog 17 [.lst 51 (glsL a), .lst 51 (glsL b)] (.sc (.bool (decide (a = b)))) := by
  generalize hr : decide (a = b) = r
  refine PureCall.of_vc hT [] [] follows Try.call17 Try.func17 rfl (drawsOk_of3 (by kernel_rfl)) (by simp [AV.pure, AV.pureL]) (by simp [AV.pure]) ?_
  unfold Try.f17
  simp
  intro hb1 hb2 hb3 hb4
  refine ⟨fun h => ?_, fun hlen => ?_⟩
  · subst hr; simp; rintro rfl; exact h rfl
  have hlen : a.length = b.length := by omega
  refine vcC_loop [] (fun m σ st => ∃ i : Nat, m = a.length - i ∧ i ≤ a.length ∧ a.take i = b.take i ∧ σ 0 = .lst 51 (glsL a) ∧ σ 1 = .lst 51 (glsL b) ∧ σ 5 = .sc (.int .i64 i) ∧ st = []) a.length ⟨0, by simp⟩ ?_
  rintro m σ st ⟨i, rfl, hi, htk, s0, s1, s5, rfl⟩
  rcases Nat.lt_or_ge i a.length with hlt | hge
  · have hlt' : i < b.length := hlen ▸ hlt
    have key : ¬ (a[i].kind = b[i].kind ∧ a[i].term = b[i].term) → r = false := by
      intro hne
      subst hr; simp; rintro rfl; exact hne ⟨rfl, rfl⟩
    simp [s0, s1, s5, hlt, hlt', -vcLex_cons]
    intro _ _
    by_cases hk : a[i].kind = b[i].kind
    · refine vcLex_step fun K hK => ?_; simp [s0, s1, s5, hlt, hlt', Gl.cells, hk]; intros; (first | refine hK _ _ ?_ | refine ⟨[], hK _ _ ?_⟩); clear hK
      refine vcLex_step fun K hK => ?_; simp [s0, s1, s5, hlt, hlt', Gl.cells, hk]; intros; (first | refine hK _ _ ?_ | refine ⟨[], hK _ _ ?_⟩); clear hK
      refine vcLex_step fun K hK => ?_; simp [s0, s1, s5, hlt, hlt', Gl.cells, hk]; intros; (first | refine hK _ _ ?_ | refine ⟨[], hK _ _ ?_⟩); clear hK
      refine vcLex_step fun K hK => ?_; simp [s0, s1, s5, hlt, hlt', Gl.cells, hk]; intros; (first | refine hK _ _ ?_ | refine ⟨[], hK _ _ ?_⟩); clear hK
      refine vcLex_step fun K hK => ?_; simp [s0, s1, s5, hlt, hlt', Gl.cells, hk]; intros; (first | refine hK _ _ ?_ | refine ⟨[], hK _ _ ?_⟩); clear hK
      refine vcLex_step fun K hK => ?_; simp [s0, s1, s5, hlt, hlt', Gl.cells, hk]; intros; (first | refine hK _ _ ?_ | refine ⟨[], hK _ _ ?_⟩); clear hK
      refine vcLex_step fun K hK => ?_; simp [s0, s1, s5, hlt, hlt', Gl.cells, hk]; intros; (first | refine hK _ _ ?_ | refine ⟨[], hK _ _ ?_⟩); clear hK
      refine vcLex_step fun K hK => ?_; simp [s0, s1, s5, hlt, hlt', Gl.cells, hk]; intros; (first | refine hK _ _ ?_ | refine ⟨[], hK _ _ ?_⟩); clear hK
      refine vcLex_step fun K hK => ?_; simp [s0, s1, s5, hlt, hlt', Gl.cells, hk]; intros; (first | refine hK _ _ ?_ | refine ⟨[], hK _ _ ?_⟩); clear hK
      refine vcLex_step fun K hK => ?_; simp [s0, s1, s5, hlt, hlt', Gl.cells, hk]; intros; (first | refine hK _ _ ?_ | refine ⟨[], hK _ _ ?_⟩); clear hK
      refine vcLex_step fun K hK => ?_; simp [s0, s1, s5, hlt, hlt', Gl.cells, hk]; intros; (first | refine hK _ _ ?_ | refine ⟨[], hK _ _ ?_⟩); clear hK
      refine vcLex_step fun K hK => ?_; simp [s0, s1, s5, hlt, hlt', Gl.cells, hk]; intros; (first | refine hK _ _ ?_ | refine ⟨[], hK _ _ ?_⟩); clear hK
      refine vcLex_step fun K hK => ?_; simp [s0, s1, s5, hlt, hlt', Gl.cells, hk]; intros; (first | refine hK _ _ ?_ | refine ⟨[], hK _ _ ?_⟩); clear hK
      refine vcLex_step fun K hK => ?_; simp [s0, s1, s5, hlt, hlt', Gl.cells, hk]; intros; (first | refine hK _ _ ?_ | refine ⟨[], hK _ _ ?_⟩); clear hK
      refine vcLex_step fun K hK => ?_; simp [s0, s1, s5, hlt, hlt', Gl.cells, hk]; intros; (first | refine hK _ _ ?_ | refine ⟨[], hK _ _ ?_⟩); clear hK
      refine vcLex_step fun K hK => ?_; simp [s0, s1, s5, hlt, hlt', Gl.cells, hk]; intros; (first | refine hK _ _ ?_ | refine ⟨[], hK _ _ ?_⟩); clear hK
      refine vcLex_step fun K hK => ?_; simp [s0, s1, s5, hlt, hlt', Gl.cells, hk]; intros; (first | refine hK _ _ ?_ | refine ⟨[], hK _ _ ?_⟩); clear hK
      refine vcLex_step fun K hK => ?_; simp [s0, s1, s5, hlt, hlt', Gl.cells, hk]; intros; (first | refine hK _ _ ?_ | refine ⟨[], hK _ _ ?_⟩); clear hK
      refine vcLex_step fun K hK => ?_; simp [s0, s1, s5, hlt, hlt', Gl.cells, hk]; intros; (first | refine hK _ _ ?_ | refine ⟨[], hK _ _ ?_⟩); clear hK
      refine vcLex_step fun K hK => ?_; simp [s0, s1, s5, hlt, hlt', Gl.cells, hk]; intros; (first | refine hK _ _ ?_ | refine ⟨[], hK _ _ ?_⟩); clear hK
      refine vcLex_step fun K hK => ?_; simp [s0, s1, s5, hlt, hlt', Gl.cells, hk]; intros; (first | refine hK _ _ ?_ | refine ⟨[], hK _ _ ?_⟩); clear hK
      refine vcLex_step fun K hK => ?_; simp [s0, s1, s5, hlt, hlt', Gl.cells, hk]; intros; (first | refine hK _ _ ?_ | refine ⟨[], hK _ _ ?_⟩); clear hK
      refine vcLex_step fun K hK => ?_; simp [s0, s1, s5, hlt, hlt', Gl.cells, hk]; refine vcCall_at (exact_c a[i].term b[i].term) ?_; simp [s0, s1, s5, hlt, hlt', Gl.cells, hk]; refine hK _ _ ?_; clear hK
      refine vcLex_step fun K hK => ?_; simp [s0, s1, s5, hlt, hlt', Gl.cells, hk]; intros; (first | refine hK _ _ ?_ | refine ⟨[], hK _ _ ?_⟩); clear hK
      refine vcLex_step fun K hK => ?_; simp [s0, s1, s5, hlt, hlt', Gl.cells, hk]; intros; (first | refine hK _ _ ?_ | refine ⟨[], hK _ _ ?_⟩); clear hK
      simp [s0, s1, s5]
      refine ⟨fun ht => (key fun q => ht q.2), fun ht => ⟨by unfold i64ok; omega, a.length - (i + 1), by omega, i + 1, rfl, by omega, ?_, by simp⟩⟩
      rw [List.take_add_one, List.take_add_one, htk]; simp [hlt, hlt', Gl.ext' hk ht]
    · refine vcLex_step fun K hK => ?_; simp [s0, s1, s5, hlt, hlt', Gl.cells, hk]; intros; (first | refine hK _ _ ?_ | refine ⟨[], hK _ _ ?_⟩); clear hK
      refine vcLex_step fun K hK => ?_; simp [s0, s1, s5, hlt, hlt', Gl.cells, hk]; intros; (first | refine hK _ _ ?_ | refine ⟨[], hK _ _ ?_⟩); clear hK
      refine vcLex_step fun K hK => ?_; simp [s0, s1, s5, hlt, hlt', Gl.cells, hk]; intros; (first | refine hK _ _ ?_ | refine ⟨[], hK _ _ ?_⟩); clear hK
      refine vcLex_step fun K hK => ?_; simp [s0, s1, s5, hlt, hlt', Gl.cells, hk]; intros; (first | refine hK _ _ ?_ | refine ⟨[], hK _ _ ?_⟩); clear hK
      refine vcLex_step fun K hK => ?_; simp [s0, s1, s5, hlt, hlt', Gl.cells, hk]; intros; (first | refine hK _ _ ?_ | refine ⟨[], hK _ _ ?_⟩); clear hK
      refine vcLex_step fun K hK => ?_; simp [s0, s1, s5, hlt, hlt', Gl.cells, hk]; intros; (first | refine hK _ _ ?_ | refine ⟨[], hK _ _ ?_⟩); clear hK
      refine vcLex_step fun K hK => ?_; simp [s0, s1, s5, hlt, hlt', Gl.cells, hk]; intros; (first | refine hK _ _ ?_ | refine ⟨[], hK _ _ ?_⟩); clear hK
      refine vcLex_step fun K hK => ?_; simp [s0, s1, s5, hlt, hlt', Gl.cells, hk]; intros; (first | refine hK _ _ ?_ | refine ⟨[], hK _ _ ?_⟩); clear hK
      refine vcLex_step fun K hK => ?_; simp [s0, s1, s5, hlt, hlt', Gl.cells, hk]; intros; (first | refine hK _ _ ?_ | refine ⟨[], hK _ _ ?_⟩); clear hK
      refine vcLex_step fun K hK => ?_; simp [s0, s1, s5, hlt, hlt', Gl.cells, hk]; intros; (first | refine hK _ _ ?_ | refine ⟨[], hK _ _ ?_⟩); clear hK
      refine vcLex_step fun K hK => ?_; simp [s0, s1, s5, hlt, hlt', Gl.cells, hk]; intros; (first | refine hK _ _ ?_ | refine ⟨[], hK _ _ ?_⟩); clear hK
      refine vcLex_step fun K hK => ?_; simp [s0, s1, s5, hlt, hlt', Gl.cells, hk]; intros; (first | refine hK _ _ ?_ | refine ⟨[], hK _ _ ?_⟩); clear hK
      refine vcLex_step fun K hK => ?_; simp [s0, s1, s5, hlt, hlt', Gl.cells, hk]; intros; (first | refine hK _ _ ?_ | refine ⟨[], hK _ _ ?_⟩); clear hK
      refine vcLex_step fun K hK => ?_; simp [s0, s1, s5, hlt, hlt', Gl.cells, hk]; intros; (first | refine hK _ _ ?_ | refine ⟨[], hK _ _ ?_⟩); clear hK
      refine vcLex_step fun K hK => ?_; simp [s0, s1, s5, hlt, hlt', Gl.cells, hk]; intros; (first | refine hK _ _ ?_ | refine ⟨[], hK _ _ ?_⟩); clear hK
      refine vcLex_step fun K hK => ?_; simp [s0, s1, s5, hlt, hlt', Gl.cells, hk]; intros; (first | refine hK _ _ ?_ | refine ⟨[], hK _ _ ?_⟩); clear hK
      refine vcLex_step fun K hK => ?_; simp [s0, s1, s5, hlt, hlt', Gl.cells, hk]; intros; (first | refine hK _ _ ?_ | refine ⟨[], hK _ _ ?_⟩); clear hK
      refine vcLex_step fun K hK => ?_; simp [s0, s1, s5, hlt, hlt', Gl.cells, hk]; intros; (first | refine hK _ _ ?_ | refine ⟨[], hK _ _ ?_⟩); clear hK
      refine vcLex_step fun K hK => ?_; simp [s0, s1, s5, hlt, hlt', Gl.cells, hk]; intros; (first | refine hK _ _ ?_ | refine ⟨[], hK _ _ ?_⟩); clear hK
      refine vcLex_step fun K hK => ?_; simp [s0, s1, s5, hlt, hlt', Gl.cells, hk]; intros; (first | refine hK _ _ ?_ | refine ⟨[], hK _ _ ?_⟩); clear hK
      refine vcLex_step fun K hK => ?_; simp [s0, s1, s5, hlt, hlt', Gl.cells, hk]; intros; (first | refine hK _ _ ?_ | refine ⟨[], hK _ _ ?_⟩); clear hK
      refine vcLex_step fun K hK => ?_; simp [s0, s1, s5, hlt, hlt', Gl.cells, hk]; intros; (first | refine hK _ _ ?_ | refine ⟨[], hK _ _ ?_⟩); clear hK
      refine vcLex_step fun K hK => ?_; simp [s0, s1, s5, hlt, hlt', Gl.cells, hk]; refine ⟨[], .sc (.bool false), fun h => (by simp at h), ?_⟩; simp [s0, s1, s5, hlt, hlt', Gl.cells, hk]; refine hK _ _ ?_; clear hK
      refine vcLex_step fun K hK => ?_; simp [s0, s1, s5, hlt, hlt', Gl.cells, hk]; intros; (first | refine hK _ _ ?_ | refine ⟨[], hK _ _ ?_⟩); clear hK
      refine vcLex_step fun K hK => ?_; simp [s0, s1, s5, hlt, hlt', Gl.cells, hk]; intros; (first | refine hK _ _ ?_ | refine ⟨[], hK _ _ ?_⟩); clear hK
      simp [s0, s1, s5, key fun q => hk q.1]
  · simp [s0, s1, s5, Nat.not_lt.2 hge, cond_t, cond_f, -vcC_cond]
    subst hr
    have : i = a.length := by omega
    subst this
    rw [List.take_of_length_le (by omega), List.take_of_length_le (by omega)] at htk
    exact fun _ _ => by simp [htk]
end Go.T1
end

section
open Go Go.Ab Go.Proofs
namespace Go.T1
@[simp] theorem head_app (t : Tm) (l : List AV) : (t.cells 24 ++ l).head? = some (.sc (.int .i64 t.kind)) := by cases t; rfl
set_option maxRecDepth 100000 in
theorem same_c (a b : Cls) : PureCall T Try.prog 13 [.agg (clsC a), .agg (clsC b)] (.sc (.bool (decide (a.vars = b.vars) && (decide (a.head = b.head) && decide (a.goals = b.goals))))) := by
  generalize hr : (decide (a.vars = b.vars) && (decide (a.head = b.head) && decide (a.goals = b.goals))) = r
  refine PureCall.of_vc hT [] [] follows Try.call13 Try.func13 rfl (drawsOk_of3 (by kernel_rfl)) (by simp [AV.pure, AV.pureL]) (by simp [AV.pure]) ?_
  unfold Try.f13
  simp [clsC, cond_t, cond_f]
  intro _ _
  refine vcCall_at (exact_c a.head b.head) ?_
  simp
  refine ⟨fun h => ?_, fun h1 h2 h3 => ?_⟩
  · subst hr
    have : ¬ (a.vars = b.vars ∧ a.head = b.head ∧ a.goals = b.goals) := fun ⟨q1, q2, q3⟩ => by
      rcases h with (h | h) | h
      · exact h q1
      · exact h (by rw [q3])
      · exact h q2
    by_cases q1 : a.vars = b.vars <;> by_cases q2 : a.head = b.head <;> by_cases q3 : a.goals = b.goals <;> simp [q1, q2, q3] <;> exact this ⟨q1, q2, q3⟩
  · refine vcCall_at (sameGoals_c a.goals b.goals) ?_
    subst hr
    simp [h1, h3]
theorem conjT_cons (g : Gl) {l : List Gl} (h : l ≠ []) : conjT (g :: l) = .mk 4 0 ⟨#[44]⟩ [ofG g, conjT l] := by
  cases l with
  | nil => exact absurd rfl h
  | cons x l => rfl
def backI (c : Cls) (m : Nat) (σ : Slots) (st : St) : Prop := ∃ i : Nat, m = i ∧ i < c.goals.length ∧ σ 1 = .eptr (clsC c) ∧ σ 2 = .ptr 0 0 ∧ σ 3 = .ptr 1 0 ∧ σ 5 = .ptr 2 0 ∧ σ 6 = .sc (.int .i64 ((i : Int) - 1)) ∧
  ∃ L : List Blk, st = .cells zT :: .cells (c.head.cells 24) :: .cells ((conjT (c.goals.drop i)).cells 24) :: L
theorem glsL_get {l : List Gl} {i : Nat} (h : i < l.length) : (glsL l)[i]? = some (l[i].cells) := by simp [glsL, h]
theorem conjT_drop {l : List Gl} {i : Nat} (h : i + 1 < l.length) : conjT (l.drop i) = .mk 4 0 ⟨#[44]⟩ [ofG (l[i]'(by omega)), conjT (l.drop (i + 1))] := by
  rw [List.drop_eq_getElem_cons (by omega)]
  exact conjT_cons _ (fun e => by have := congrArg List.length e; simp at this; omega)
theorem conjT_last {l : List Gl} (h : 0 < l.length) : conjT (l.drop (l.length - 1)) = ofG (l[l.length - 1]'(by omega)) := by
  rw [List.drop_eq_getElem_cons (by omega), show l.length - 1 + 1 = l.length by omega, List.drop_length]
  rfl
set_option maxRecDepth 100000 in
theorem rBack_c (c : Cls) (hs : (backT c).small) : PureCall T Try.prog 21 [.agg (clsC c)] ((backR c).av 24) := by
  refine PureCall.of_vc hT [3, 5, 7] [] follows Try.call21 Try.func21 rfl (drawsOk_of3 (by kernel_rfl)) (by simp [AV.pure, AV.pureL]) (by simp [AV.pure]) ?_
  have fin : ∀ (u : Tm), u = backT c → backR c = if u.check = 0 then u else Tm.zero := fun u e => by rw [e]; rfl
  unfold Try.f21
  simp [clsC, cond_t, cond_f]
  intro hb1 hb2
  refine ⟨fun h0 => ?_, fun h0 => ?_⟩
  · have hb : c.goals ≠ [] := by intro e; rw [e] at h0; simp at h0
    have hl := glsL_get (l := c.goals) (i := c.goals.length - 1) (by omega)
    have h1 : (1 : Int) ≤ c.goals.length := by omega
    have h2 : i64ok ((c.goals.length : Int) - 1) := by unfold i64ok; omega
    simp [hl, Gl.cells, h1, h2]
    refine ⟨fun hk => ?_, fun hk => ?_⟩
    · refine vcCall_at (rAtom_c _) ?_
      simp
      refine ⟨by unfold i64ok; omega, vcC_loop [] (backI c) (c.goals.length - 1) ⟨c.goals.length - 1, rfl, by omega, by simp [clsC], by simp, by simp, by simp, by simp; omega, [], ?_⟩ ?_⟩
      · rw [conjT_last h0]
        simp [ofG, hk, zT]
      rintro i σ st ⟨_, rfl, hi, s1, s2, s3, s5, s6, L, rfl⟩
      rcases Nat.eq_zero_or_pos i with h00 | hpos
      · subst h00
        have he : backT c = .mk 4 0 ⟨#[58, 45]⟩ [c.head, conjT c.goals] := by unfold backT; rw [if_neg hb]
        rw [he] at hs
        rw [fin _ he.symm]
        rw [List.drop_zero]
        generalize conjT c.goals = B at *
        simp [s1, s2, s3, s5, s6, clsC, cond_t, cond_f, -vcC_cond]
        refine ⟨rfl, vcCall_at (rComp_c _ [c.head, B]) ?_⟩
        simp [compT, s2, s3]
        refine vcCall_at (rCheck_c (.mk 4 0 _ [c.head, B]) hs) ?_
        simp [s2, s3]
        refine ⟨fun hc => ?_, fun hc => ?_⟩
        · simp [hc, Tm.zero, Tm.cells, Tm.cellsL, zero_empty, zT]
        · simp [hc, zT]
      · obtain ⟨j, rfl⟩ : ∃ j, i = j + 1 := ⟨i - 1, by omega⟩
        have hj := glsL_get (l := c.goals) (i := j) (by omega)
        have hd := conjT_drop (l := c.goals) (i := j) hi
        have hj0 : (0 : Int) ≤ j := by omega
        simp [s1, s2, s3, s5, s6, clsC, hj, Gl.cells]
        refine ⟨fun hk2 => ?_, fun hk2 => ?_⟩
        · refine vcCall_at (rAtom_c _) ?_
          simp [s1, s2, s3, s5, s6]
          refine ⟨rfl, vcCall_at (rComp_c _ [Tm.mk 3 0 ⟨#[33]⟩ [], conjT (c.goals.drop (j + 1))]) ?_⟩
          simp [compT, s1, s2, s3, s5, s6]
          refine ⟨by unfold i64ok; omega, j, by omega, j, rfl, by omega, by simp [s1, clsC], by simp [s2], by simp [s3], by simp [s5], by simp, ?_⟩
          rw [hd]
          simp [ofG, hk2, zT]
        · refine ⟨rfl, vcCall_at (rComp_c _ [c.goals[j].term, conjT (c.goals.drop (j + 1))]) ?_⟩
          simp [compT, s1, s2, s3, s5, s6]
          refine ⟨by unfold i64ok; omega, j, by omega, j, rfl, by omega, by simp [s1, clsC], by simp [s2], by simp [s3], by simp [s5], by simp, ?_⟩
          rw [hd]
          simp [ofG, hk2, zT]
    · refine ⟨by unfold i64ok; omega, vcC_loop [] (backI c) (c.goals.length - 1) ⟨c.goals.length - 1, rfl, by omega, by simp [clsC], by simp, by simp, by simp, by simp; omega, [], ?_⟩ ?_⟩
      · rw [conjT_last h0]
        simp [ofG, hk, zT]
      rintro i σ st ⟨_, rfl, hi, s1, s2, s3, s5, s6, L, rfl⟩
      rcases Nat.eq_zero_or_pos i with h00 | hpos
      · subst h00
        have he : backT c = .mk 4 0 ⟨#[58, 45]⟩ [c.head, conjT c.goals] := by unfold backT; rw [if_neg hb]
        rw [he] at hs
        rw [fin _ he.symm]
        rw [List.drop_zero]
        generalize conjT c.goals = B at *
        simp [s1, s2, s3, s5, s6, clsC, cond_t, cond_f, -vcC_cond]
        refine ⟨rfl, vcCall_at (rComp_c _ [c.head, B]) ?_⟩
        simp [compT, s2, s3]
        refine vcCall_at (rCheck_c (.mk 4 0 _ [c.head, B]) hs) ?_
        simp [s2, s3]
        refine ⟨fun hc => ?_, fun hc => ?_⟩
        · simp [hc, Tm.zero, Tm.cells, Tm.cellsL, zero_empty, zT]
        · simp [hc, zT]
      · obtain ⟨j, rfl⟩ : ∃ j, i = j + 1 := ⟨i - 1, by omega⟩
        have hj := glsL_get (l := c.goals) (i := j) (by omega)
        have hd := conjT_drop (l := c.goals) (i := j) hi
        have hj0 : (0 : Int) ≤ j := by omega
        simp [s1, s2, s3, s5, s6, clsC, hj, Gl.cells]
        refine ⟨fun hk2 => ?_, fun hk2 => ?_⟩
        · refine vcCall_at (rAtom_c _) ?_
          simp [s1, s2, s3, s5, s6]
          refine ⟨rfl, vcCall_at (rComp_c _ [Tm.mk 3 0 ⟨#[33]⟩ [], conjT (c.goals.drop (j + 1))]) ?_⟩
          simp [compT, s1, s2, s3, s5, s6]
          refine ⟨by unfold i64ok; omega, j, by omega, j, rfl, by omega, by simp [s1, clsC], by simp [s2], by simp [s3], by simp [s5], by simp, ?_⟩
          rw [hd]
          simp [ofG, hk2, zT]
        · refine ⟨rfl, vcCall_at (rComp_c _ [c.goals[j].term, conjT (c.goals.drop (j + 1))]) ?_⟩
          simp [compT, s1, s2, s3, s5, s6]
          refine ⟨by unfold i64ok; omega, j, by omega, j, rfl, by omega, by simp [s1, clsC], by simp [s2], by simp [s3], by simp [s5], by simp, ?_⟩
          rw [hd]
          simp [ofG, hk2, zT]
  · refine vcCall_at (rCheck_c c.head (by simpa [backT, h0] using hs)) ?_
    rw [fin c.head (by simp [backT, h0])]
    simp
    refine ⟨fun hc => ?_, fun hc => ?_⟩
    · simp [hc, Tm.zero, Tm.cells, Tm.cellsL, zero_empty]
    · simp [hc]
end Go.T1
end

section
open Go Go.Ab Go.Proofs Go.RowKit Go.Shelf
namespace Go.T1
attribute [local go_sem] Oper.semAt_some
set_option maxRecDepth 100000 in
set_option maxHeartbeats 4000000 in
theorem backg1_in (F : Fence) (n : Nat) (h7 : F.fn 68) (hro : F.round = none) (hn : 1 ≤ n) (l Bs bo b off len cap : Nat) (zs : Nat → Nat → Value) (hreach : len ≤ 140737488355328) (J Jx : List Nat → World → Prop)
    (hY : ∀ pre x W, x < len → J pre W → pre.length < len → YieldAt F (n - 1) Try.prog l #[.int .i64 (x : Nat), .agg #[zs x 0, zs x 1, zs x 2, zs x 3, zs x 4]] W fun e W' =>
      (e = .returned (.bool true) ∧ J (pre ++ [x]) W' ∧ Kb b Bs W W') ∨ (e = .returned (.bool false) ∧ Jx (pre ++ [x]) W'))
    (W : World) (hBs : W.cell? ⟨Bs, bo, none⟩ = some (.slice (some ⟨b, off, none⟩) len cap)) (hc : ∀ j i, j < len → i < 5 → W.cell? ⟨b, off + j * 5 + i, none⟩ = some (zs j i)) (h0 : J [] W) :
    CallsIn F n Try.prog 68 #[.func (.yield l) #[] #[], .pointer (some ⟨Bs, bo, none⟩)] W fun e W' => (∃ v, e = .returned v) ∧
      ((∃ ys, ys = down len len ∧ J ys W') ∨ (∃ pre, (∃ k, k ≤ len ∧ pre = down len k) ∧ Jx pre W')) := by
  refine callsIn_of_wp Try.func68 rfl h7 ?_ hro
  simp only [Try.ntmps68, List.size_toArray, List.length_cons, List.length_nil, Nat.reduceAdd, Nat.reduceSub, Array.replicate_succ, Array.replicate_zero, List.push_toArray, List.append_toArray, List.nil_append, List.cons_append]
  gi_wp2
  gi_loopw [3] (fun i wr => ∃ k : Nat, k ≤ len ∧ i = .int .i64 ((len : Int) - 1 - k) ∧ J (down len k) wr ∧ Kb b Bs W wr)
    (fun i _ => (intOf i + 1).toNat)
  case atStart => exact ⟨0, Nat.zero_le _, by simp, h0, rfl, rfl⟩
  case round =>
    obtain ⟨k, hk, rfl, hJs, hnx⟩ := hrel
    have hb1 : wr.cell? ⟨Bs, bo, none⟩ = some (.slice (some ⟨b, off, none⟩) len cap) := (World.cell?_of_block (a := ⟨Bs, bo, none⟩) hnx.2).trans hBs
    by_cases hlt : k < len
    · obtain ⟨fn, tmps, assign, body, hy, hR⟩ := hY _ (len - 1 - k) wr (by omega) hJs (by rw [down_len]; exact hlt)
      have e0 : ((len - 1 - k : Nat) : Int) = (len : Int) - 1 - k := by omega
      rw [e0] at hy
      have e1 : ((len : Int) - 1 - k).toNat = len - 1 - k := by omega
      have e2 : (0 : Int) ≤ (len : Int) - 1 - k := by omega
      have e3 : ((len : Int) - 1 - k) < len := by omega
      have c0 : wr.cell? ⟨b, off + (len - 1 - k) * 5, none⟩ = some (zs (len - 1 - k) 0) := (World.cell?_of_block (a := ⟨b, _, none⟩) hnx.1).trans (hc (len - 1 - k) 0 (by omega) (by omega))
      have c1 : wr.cell? ⟨b, off + (len - 1 - k) * 5 + 1, none⟩ = some (zs (len - 1 - k) 1) := (World.cell?_of_block (a := ⟨b, _, none⟩) hnx.1).trans (hc (len - 1 - k) 1 (by omega) (by omega))
      have c2 : wr.cell? ⟨b, off + (len - 1 - k) * 5 + 2, none⟩ = some (zs (len - 1 - k) 2) := (World.cell?_of_block (a := ⟨b, _, none⟩) hnx.1).trans (hc (len - 1 - k) 2 (by omega) (by omega))
      have c3 : wr.cell? ⟨b, off + (len - 1 - k) * 5 + 3, none⟩ = some (zs (len - 1 - k) 3) := (World.cell?_of_block (a := ⟨b, _, none⟩) hnx.1).trans (hc (len - 1 - k) 3 (by omega) (by omega))
      have c4 : wr.cell? ⟨b, off + (len - 1 - k) * 5 + 4, none⟩ = some (zs (len - 1 - k) 4) := (World.cell?_of_block (a := ⟨b, _, none⟩) hnx.1).trans (hc (len - 1 - k) 4 (by omega) (by omega))
      gi_wp2
      refine hR.mono ?_
      rintro e W3 (⟨rfl, hJ3, hk3⟩ | ⟨rfl, hJx3⟩)
      · gi_wp2
        go_roundw
        case rel => exact ⟨k + 1, by omega, by simp; omega, by rw [down_succ]; exact hJ3, hk3.1.trans hnx.1, hk3.2.trans hnx.2⟩
        case measure => simp [intOf]; omega
      · gi_wp2
        refine bodyPost_ret (results_none rfl _ _ _) rfl ?_
        exact ⟨⟨_, rfl⟩, .inr ⟨down len k ++ [len - 1 - k], ⟨k + 1, by omega, (down_succ _ _).symm⟩, hJx3⟩⟩
    · obtain rfl : k = len := by omega
      gi_wp2
      go_end0
      exact ⟨⟨_, rfl⟩, .inl ⟨_, rfl, hJs⟩⟩

set_option maxRecDepth 100000 in
set_option maxHeartbeats 1000000 in
/-- .. of the nil slice, or an empty one: no round. -/
theorem backg1_nil_in (F : Fence) (n : Nat) (h7 : F.fn 68) (hro : F.round = none) (l Bs bo cap : Nat) (a : Option Addr) {α : Type} (J : List α → World → Prop) (W : World) (hBs : W.cell? ⟨Bs, bo, none⟩ = some (.slice a 0 cap)) (h0 : J [] W) :
    CallsIn F n Try.prog 68 #[.func (.yield l) #[] #[], .pointer (some ⟨Bs, bo, none⟩)] W fun e W' => (∃ v, e = .returned v) ∧ J [] W' := by
  refine callsIn_of_wp Try.func68 rfl h7 ?_ hro
  simp only [Try.ntmps68, List.size_toArray, List.length_cons, List.length_nil, Nat.reduceAdd, Nat.reduceSub, Array.replicate_succ, Array.replicate_zero, List.push_toArray, List.append_toArray, List.nil_append, List.cons_append]
  gi_wp2
  gi_loopw [3] (fun i wr => i = .int .i64 (-1) ∧ J [] wr) (fun _ _ => 0)
  case atStart => exact ⟨rfl, h0⟩
  case round =>
    obtain ⟨rfl, hJs⟩ := hrel
    gi_wp2
    go_end0
    exact ⟨⟨_, rfl⟩, hJs⟩

theorem backg_stops (E1 : Env) (n : Nat) (hn : 1 ≤ n) (l : List Gl) (p : Value) (hp : Rel T E1 (.eptr [.lst 51 (glsL l)]) p) :
    ∃ zs : Nat → Nat → Value, (∀ x (h : x < l.length), RelC T E1 l[x].cells [zs x 0, zs x 1, zs x 2, zs x 3, zs x 4]) ∧
      SeqStopsK (fenceR none) n Try.prog 68 #[p] (fun x : {x : Nat // x < l.length} => #[.int .i64 (x.1 : Nat), .agg #[zs x.1 0, zs x.1 1, zs x.1 2, zs x.1 3, zs x.1 4]]) (fun W W' => ∀ k, E1.stable k → W'.heap[k]? = W.heap[k]?)
        (fun xs => xs.map (·.1) = down l.length l.length) (fun _ => True) l.length E1.w := by
  simp only [Rel] at hp
  obtain ⟨Bs, bo, rfl, hBs, hp⟩ := hp
  simp only [RelX] at hp
  obtain ⟨⟨v, hv, hp, _⟩, _⟩ := hp
  simp only [Rel] at hp
  obtain ⟨hm1, hm2, a, cap, rfl, _, hl⟩ := hp
  have hlen : (glsL l).length = l.length := by simp
  rw [hlen] at hv hm1 hm2
  have h56 : T.bytes 51 = 64 := by simp [Tab.bytes]
  have h48 : l.length ≤ 140737488355328 := by rw [h56] at hm1; omega
  rcases hl with hl | ⟨b, o, rfl, hb, hl⟩
  · have hl0 : l = [] := by rw [← List.length_eq_zero_iff, ← hlen, hl]; rfl
    subst hl0
    refine ⟨fun _ _ => undef, fun x h => by simp at h, ?_⟩
    intro lp J Jx W hW _ _ hY h0
    refine (backg1_nil_in (fenceR none) n trivial rfl lp Bs bo cap a J W ?_ h0).mono ?_
    · exact (World.cell?_of_block (w := E1.w) (a := ⟨Bs, bo, none⟩) (hW.block Bs hBs.1)).trans hv
    · rintro e W' ⟨h1, h2⟩
      exact ⟨h1, .inl ⟨[], by simp [down], h2⟩⟩
  · have hT4 : T.cells 51 = 5 := by simp [Tab.cells]
    rw [hT4] at hl
    have hget : ∀ x (h : x < l.length), RelX T E1 b (o + x * 5) l[x].cells := fun x h => by
      have := relM_get (glsL l) o x (by simpa using h) hl
      simpa [h] using this
    refine ⟨fun x i => (E1.w.cell? ⟨b, o + x * 5 + i, none⟩).getD undef, fun x h => ?_, ?_⟩
    · have := hget x h
      generalize l[x] = t at this ⊢
      obtain ⟨g, ⟨k, m, s, ll⟩⟩ := t
      simp only [Gl.cells, Tm.cells, RelX, RelC] at this ⊢
      obtain ⟨⟨v0, a0, b0, c0⟩, ⟨v1, a1, b1, c1⟩, ⟨v2, a2, b2, c2⟩, ⟨v3, a3, b3, c3⟩, ⟨v4, a4, b4, c4⟩, _⟩ := this
      simp only [Nat.add_assoc] at a0 a1 a2 a3 a4 ⊢
      refine ⟨_, _, rfl, by simpa [a0] using b0, by simpa [a0] using c0, _, _, rfl, by simpa [a1] using b1, by simpa [a1] using c1, _, _, rfl, by simpa [a2] using b2, by simpa [a2] using c2, _, _, rfl, by simpa [a3] using b3, by simpa [a3] using c3, _, _, rfl, by simpa [a4] using b4, by simpa [a4] using c4, rfl⟩
    · intro lp J Jx W hW _ _ hY h0
      refine (backg1_in (fenceR none) n trivial rfl hn lp Bs bo b o l.length cap (fun x i => (E1.w.cell? ⟨b, o + x * 5 + i, none⟩).getD undef) h48
        (fun ys W => ∃ xs : List {x : Nat // x < l.length}, xs.map (·.1) = ys ∧ J xs W) (fun ys W => ∃ xs : List {x : Nat // x < l.length}, xs.map (·.1) = ys ∧ Jx xs W) ?_ W
        ((World.cell?_of_block (w := E1.w) (a := ⟨Bs, bo, none⟩) (hW.block Bs hBs.1)).trans hv) ?_ ⟨[], rfl, h0⟩).mono ?_
      · rintro pre x W1 hx ⟨xs, rfl, hJ⟩ hlt
        obtain ⟨fn, tmps, assign, body, hy, hR⟩ := hY xs ⟨x, hx⟩ W1 hJ (by simpa using hlt)
        refine ⟨fn, tmps, assign, body, hy, hR.mono ?_⟩
        rintro e W' (⟨rfl, h1, h2⟩ | ⟨rfl, h1⟩)
        · exact .inl ⟨rfl, ⟨xs ++ [⟨x, hx⟩], by simp, h1⟩, h2 b hb, h2 Bs hBs⟩
        · exact .inr ⟨rfl, xs ++ [⟨x, hx⟩], by simp, h1⟩
      · intro j i hj hi
        rw [show W.cell? ⟨b, o + j * 5 + i, none⟩ = E1.w.cell? ⟨b, o + j * 5 + i, none⟩ from World.cell?_of_block (w := E1.w) (a := ⟨b, o + j * 5 + i, none⟩) (hW.block b hb.1)]
        have := hget j hj
        generalize l[j] = t at this
        obtain ⟨g, ⟨k, m, s, ll⟩⟩ := t
        simp only [Gl.cells, Tm.cells, RelX] at this
        obtain ⟨⟨v0, a0, b0, c0⟩, ⟨v1, a1, b1, c1⟩, ⟨v2, a2, b2, c2⟩, ⟨v3, a3, b3, c3⟩, ⟨v4, a4, b4, c4⟩, _⟩ := this
        simp only [Nat.add_assoc] at a0 a1 a2 a3 a4 ⊢
        match i, hi with
        | 0, _ => simp [a0]
        | 1, _ => simp [a1]
        | 2, _ => simp [a2]
        | 3, _ => simp [a3]
        | 4, _ => simp [a4]
      · rintro e W' ⟨h1, ⟨ys, rfl, xs, h2, h3⟩ | ⟨pre, _, xs, _, h3⟩⟩
        · exact ⟨h1, .inl ⟨xs, h2, h3⟩⟩
        · exact ⟨h1, .inr ⟨xs, trivial, h3⟩⟩
set_option maxRecDepth 100000 in
theorem Backwardg_c (l : List Gl) : PureCall T Try.prog 54 [.lst 51 (glsL l)] (.fn (.func 68) [] [.eptr [.lst 51 (glsL l)]]) := by
  refine PureCall.of_vc hT [] [] follows Try.call54 Try.func54 rfl (by kernel_rfl) (by simp [AV.pure, AV.pureL]) (by simp [AV.pure, AV.pureL]) ?_
  unfold Try.f54
  simp [AV.ofConst]
end Go.T1
end

section
open Go Go.Ab Go.Proofs Go.RowKit
namespace Go.T1
theorem revg_of_down (l : List Gl) (xs : List {x : Nat // x < l.length}) (h : xs.map (·.1) = down l.length l.length) : (xs.map (fun x => l[x.1])).reverse = l := by
  have h1 : xs.length = l.length := by have := congrArg List.length h; simpa [down_len] using this
  rw [List.reverse_eq_iff]
  refine List.ext_getElem (by simp [h1]) fun i h2 h3 => ?_
  have h4 : (xs.map (·.1))[i]? = (down l.length l.length)[i]? := by rw [h]
  have h5 : i < xs.length := by simpa using h2
  have h6 : i < l.length := by omega
  simp [down, h5, h6] at h4
  simp [h4]
def conjB : List Gl → Tm → Tm
  | [], b => b
  | g :: l, b => .mk 4 0 ⟨#[44]⟩ [ofG g, conjB l b]
theorem conjT_snoc : ∀ (l : List Gl) (g : Gl), conjT (l ++ [g]) = conjB l (ofG g)
  | [], g => rfl
  | x :: l, g => by rw [List.cons_append, conjT_cons x (by simp), conjT_snoc l g]; rfl
/-- The slots that a round knows. -/
def sigB (x : AV) : Slots := fun i => if i = 2 then .ptr 0 0 else if i = 3 then .ptr 1 0 else if i = 5 then .ptr 2 0 else if i = 7 then x else .any
theorem sigB_solid (x : AV) (h : x.solid) (i : Nat) : (sigB x i).solid := by
  unfold sigB
  split; trivial
  split; trivial
  split; trivial
  split
  · exact h
  · trivial
theorem zT_solid : AV.solidL zT := by simp [zT, AV.solidL, AV.solid]
theorem Gl.cells_solid (g : Gl) : AV.solidL g.cells := by simp only [Gl.cells, AV.solidL, AV.solid]; exact ⟨trivial, Tm.cells_solid 24 _⟩
theorem all3 {a b c : List AV} (ha : AV.solidL a) (hb : AV.solidL b) (hc : AV.solidL c) : allCells [.cells a, .cells b, .cells c] := by
  intro i x h
  match i, h with
  | 0, h => simp at h; exact ⟨_, h.symm, ha⟩
  | 1, h => simp at h; exact ⟨_, h.symm, hb⟩
  | 2, h => simp at h; exact ⟨_, h.symm, hc⟩
  | i + 3, h => simp at h
set_option maxRecDepth 100000 in
set_option maxHeartbeats 1000000 in
theorem backN_c (H : Tm) (n : Int) (L : List Gl) (g : Gl) (hs : (backT ⟨H, L ++ [g], n⟩).small) : PureCall T Try.prog 20 [.agg (clsC ⟨H, L ++ [g], n⟩)] ((backR ⟨H, L ++ [g], n⟩).av 24) := by
  have hne : L ++ [g] ≠ [] := by simp
  have hbT : backT ⟨H, L ++ [g], n⟩ = .mk 4 0 ⟨#[58, 45]⟩ [H, conjB L (ofG g)] := by unfold backT; rw [if_neg hne]; dsimp only; rw [conjT_snoc]
  have hbR : backR ⟨H, L ++ [g], n⟩ = if (Tm.mk 4 0 ⟨#[58, 45]⟩ [H, conjB L (ofG g)]).check = 0 then .mk 4 0 ⟨#[58, 45]⟩ [H, conjB L (ofG g)] else Tm.zero := by unfold backR; rw [hbT]
  rw [hbT] at hs
  rw [hbR]
  refine ⟨Try.call20, by simp [AV.pureL, AV.pure], by simp [AV.pure], fun w M vs hM hr => ?_⟩
  let E0 : Env := ⟨w, [], fun _ => 0, M⟩
  have hi0 : Inv T E0 := ⟨fun i j bi bj h => by simp [E0] at h, fun i bi h => by simp [E0] at h, hM, fun i bi h => by simp [E0] at h⟩
  refine callsIn_wide.1 (callsIn_of_wp_marks (F := fenceR none) (n := 2) Try.func20 rfl trivial ?_ rfl)
  unfold Try.f20
  have hs0 : RelS T E0 41 (slots0 [.agg (clsC ⟨H, L ++ [g], n⟩)]) { tmps := vs.toArray ++ Array.replicate (41 - vs.toArray.size) undef, defers := [] } := slots0_rel hr 41
  show Code.wpIn (fenceR none) 2 Try.prog _ _ { tmps := vs.toArray ++ Array.replicate (41 - vs.toArray.size) undef, defers := [] } E0.w
  rw [← behindA_nil { tmps := vs.toArray ++ Array.replicate (41 - vs.toArray.size) undef, defers := [] }]
  refine wpIn_seq (vcR_sound (r := none) (ds := []) (mu := [3, 5]) (X := fun _ _ _ => False) (R := fun _ _ => False) (st := []) (K := fun σ st => σ 1 = .eptr (clsC ⟨H, L ++ [g], n⟩) ∧ σ 2 = .ptr 0 0 ∧ st = [.cells zT]) hT follows _ E0 _ rfl ?_ rfl hi0 (Step.refl _) hs0 ?_)
  · simp [zT]
  intro Ea σa aa ia sa ra ⟨a1, a2, ast⟩
  show Code.wpIn (fenceR none) 2 Try.prog _ _ (behindA aa []) Ea.w
  refine wpIn_seq (vcR_sound (r := none) (ds := []) (mu := [3, 5]) (X := fun _ _ _ => False) (R := fun _ _ => False) (st := Ea.st) (σ := σa) (E0 := E0) (K := fun σ st => σ 1 = .eptr (clsC ⟨H, L ++ [g], n⟩) ∧ σ 2 = .ptr 0 0 ∧ σ 3 = .ptr 1 0 ∧ st = [.cells zT, .cells (H.cells 24)]) hT follows _ Ea aa rfl ?_ rfl ia sa ra ?_)
  · simp [a1, a2, ast, clsC]
  intro Eb σb ab ib sb rb ⟨b1, b2, b3, bst⟩
  show Code.wpIn (fenceR none) 2 Try.prog _ _ (behindA ab []) Eb.w
  refine wpIn_seq (wpIn_seq (vcR_sound (r := none) (ds := []) (mu := [3, 5]) (X := fun _ _ _ => False) (R := fun _ _ => False) (st := Eb.st) (σ := σb) (E0 := E0) (K := fun σ st => σ 1 = .eptr (clsC ⟨H, L ++ [g], n⟩) ∧ σ 2 = .ptr 0 0 ∧ σ 3 = .ptr 1 0 ∧ σ 4 = .sc (.int .i64 (L.length + 1)) ∧ (L.length + 1) * 64 ≤ 140737488355328 ∧ st = [.cells zT, .cells (H.cells 24)]) hT follows _ Eb ab rfl ?_ rfl ib sb rb ?_))
  · simp [b1, b2, b3, bst, clsC]
    exact fun h _ => h
  intro Ec σc ac ic sc rc ⟨c1, c2, c3, c4, cb, cst⟩
  show Code.wpIn (fenceR none) 2 Try.prog _ _ (behindA ac []) Ec.w
  refine wpIn_seq (vcR_sound (r := none) (ds := []) (mu := [3, 5]) (X := fun _ _ _ => False) (R := fun _ _ => False) (st := Ec.st) (σ := σc) (E0 := E0) (K := fun σ st => σ 1 = .eptr (clsC ⟨H, L ++ [g], n⟩) ∧ σ 2 = .ptr 0 0 ∧ σ 3 = .ptr 1 0 ∧ σ 4 = .sc (.int .i64 (L.length + 1)) ∧ σ 14 = .sc (.bool true) ∧ st = [.cells zT, .cells (H.cells 24)]) hT follows _ Ec ac rfl ?_ rfl ic sc rc ?_)
  · simp [c1, c2, c3, c4, cst]
  intro Ed σd ad id sd rd ⟨d1, d2, d3, d4, d14, dst⟩
  show Code.wpIn (fenceR none) 2 Try.prog _ _ (behindA ad []) Ed.w
  have r14 := rd.val 14
  rw [d14] at r14
  simp only [Rel] at r14
  refine wpIn_cond_true r14.1 ?_
  have hk : (glsL (L ++ [g]))[L.length]? = some g.cells := by simp [glsL]
  have hi64 : i64ok (L.length : Int) := by unfold i64ok; omega
  refine wpIn_seq (vcR_sound (r := none) (ds := []) (mu := [3, 5]) (X := fun _ _ _ => False) (R := fun _ _ => False) (st := Ed.st) (σ := σd) (E0 := E0) (K := fun σ st => σ 1 = .eptr (clsC ⟨H, L ++ [g], n⟩) ∧ σ 2 = .ptr 0 0 ∧ σ 3 = .ptr 1 0 ∧ σ 4 = .sc (.int .i64 (L.length + 1)) ∧ σ 5 = .ptr 2 0 ∧ st = [.cells zT, .cells (H.cells 24), .cells ((ofG g).cells 24)]) hT follows _ Ed ad rfl ?_ rfl id sd rd ?_)
  · simp [d1, d2, d3, d4, dst, clsC, -glsL_append, hk, hi64, Gl.cells]
    refine vcCall_at (of_c g) ?_
    simp [d1, d2, d3, d4, clsC]
  intro Ee σe ae ie se re ⟨e1, e2, e3, e4, e5, est⟩
  show Code.wpIn (fenceR none) 2 Try.prog _ _ (behindA ae []) Ee.w
  have htk : List.take L.length (glsL (L ++ [g])) = glsL L := by simp [glsL]
  refine wpIn_seq (wpIn_seq (vcR_sound (r := none) (ds := []) (mu := [3, 5]) (X := fun _ _ _ => False) (R := fun _ _ => False) (st := Ee.st) (σ := σe) (E0 := E0) (K := fun σ st => σ 2 = .ptr 0 0 ∧ σ 3 = .ptr 1 0 ∧ σ 5 = .ptr 2 0 ∧ σ 27 = .fn (.func 68) [] [.eptr [.lst 51 (glsL L)]] ∧ st = [.cells zT, .cells (H.cells 24), .cells ((ofG g).cells 24)]) hT follows _ Ee ae rfl ?_ rfl ie se re ?_))
  · simp [e1, e2, e3, e4, e5, est, clsC, -glsL_append, hi64, htk]
    refine ⟨by omega, vcCall_at (Backwardg_c L) ?_⟩
    simp [e1, e2, e3, e4, e5]
  intro E1 σ1 a1 i1 s1 r1 ⟨f2, f3, f5, f27, fst⟩
  show Code.wpIn (fenceR none) 2 Try.prog _ _ (behindA a1 []) E1.w
  rw [behindA_nil]
  have hac : allCells E1.st := by
    rw [fst]
    exact all3 zT_solid (Tm.cells_solid 24 _) (Tm.cells_solid 24 _)
  have r27 := r1.val 27
  rw [f27] at r27
  simp only [Rel] at r27
  obtain ⟨fs, ws, e27, hfs, hws⟩ := r27
  simp only [RelL] at hfs hws
  subst hfs
  obtain ⟨p, _, rfl, hp, rfl⟩ := hws
  obtain ⟨zs, hz, hseq⟩ := backg_stops E1 1 (by omega) L p (by simpa only [Rel] using hp)
  have hfor : ∀ (x : AV) (i : Nat), sigB .any i = .any ∨ σ1 i = sigB .any i := by
    intro x i
    unfold sigB
    split
    · rename_i h; subst h; exact .inr f2
    split
    · rename_i h; subst h; exact .inr f3
    split
    · rename_i h; subst h; exact .inr f5
    split <;> exact .inl rfl
  refine wpIn_block ?_
  refine rangeRule (mu := [3, 5]) (α := {x : Nat // x < L.length}) hT follows E1 (sigB .any) (by omega) i1 hac (r1.forget (hfor .any)) (sigB_solid _ trivial) (gf := 68) (lb := #[p]) e27 Try.call68
    (xv := fun x => .sc (.int .i64 (x.1 : Nat))) (yv := fun x => .agg (L[x.1].cells)) ?_ hseq (by decide) (by decide)
    (fun pre st => st = [.cells zT, .cells (H.cells 24), .cells ((conjB (pre.map (fun x => L[x.1])).reverse (ofG g)).cells 24)]) ?_ (by rw [fst]; rfl)
    (fun x => sigB (.eptr (L[x.1].cells))) ?_ rfl (by kernel_rfl) ?_ ?_ ?_
  · intro x
    refine ⟨_, _, rfl, by simp only [Rel]; exact ⟨trivial, rfl⟩, ?_, by simp only [AV.solid], by simp only [AV.solid]; exact Gl.cells_solid _⟩
    simp only [Rel]
    exact ⟨_, rfl, hz x.1 x.2⟩
  · rintro pre st rfl
    exact ⟨all3 zT_solid (Tm.cells_solid 24 _) (Tm.cells_solid 24 _), by rw [fst]; rfl⟩
  · intro x i
    refine sigB_solid _ ?_ i
    simp only [AV.solid]
    exact ⟨by simp [Gl.cells], Gl.cells_solid _⟩
  · rintro pre x st rfl
    simp [put2, sigB]
    intro i
    by_cases h2 : i = 2
    · subst h2; simp
    by_cases h3 : i = 3
    · subst h3; simp
    by_cases h5 : i = 5
    · subst h5; simp
    by_cases h7 : i = 7
    · subst h7; simp
    simp [h2, h3, h5, h7]
  · rintro pre x st rfl hlt
    simp [sigB, Gl.cells]
    refine vcCall_at (of_c L[x.1]) ?_
    simp [sigB]
    refine ⟨rfl, vcCall_at (Comp_c _ [ofG L[x.1], conjB (pre.map (fun x => L[x.1])).reverse (ofG g)]) ?_⟩
    simp [fst, cutSt, zT, conjB, compT, sigB]
  · rintro D xs E hD hS hI' hiE hg hK
    rw [revg_of_down L xs hS] at hI'
    generalize conjB L (ofG g) = B at *
    refine vcR_sound (r := none) (ds := [{ target := .collected D, args := #[] }]) (mu := [3, 5]) (X := fun _ _ _ => False) (R := fun _ _ => False) (σ := sigB .any) (st := E.st) (E0 := E) (K := fun σ st => σ 2 = .ptr 0 0 ∧ σ 3 = .ptr 1 0 ∧ st = [.cells zT, .cells ((Tm.mk 4 0 ⟨#[58, 45]⟩ [H, B]).cells 24), .cells (B.cells 24)]) hT follows _ E a1 rfl ?_ rfl hiE (Step.refl E) ((r1.forget (hfor .any)).move hg.move (sigB_solid _ trivial)) ?_
    · simp [hI', sigB, zT]
      refine ⟨rfl, vcCall_at (Comp_c _ [H, B]) ?_⟩
      simp [compT, sigB]
    intro Eh σh ah ih sh rh ⟨g2, g3, gst⟩
    refine wpIn_seq (vcR_sound (r := none) (ds := [{ target := .collected D, args := #[] }]) (mu := [3, 5]) (X := fun _ _ _ => False) (R := fun _ _ => False) (σ := σh) (st := Eh.st) (E0 := E) (K := fun σ st => σ 2 = .ptr 0 0 ∧ st = [.cells ((if (Tm.mk 4 0 ⟨#[58, 45]⟩ [H, B]).check = 0 then (Tm.mk 4 0 ⟨#[58, 45]⟩ [H, B]) else Tm.zero).cells 24), .cells ((Tm.mk 4 0 ⟨#[58, 45]⟩ [H, B]).cells 24), .cells (B.cells 24)]) hT follows _ Eh ah rfl ?_ rfl ih sh rh ?_)
    · simp [g2, g3, gst, zT]
      refine vcCall_at (Clone_c _ hs) ?_
      simp [g2, g3]
    intro E' σ' a' k1 k2 k3 ⟨k4, k5⟩
    refine wpIn_ret ?_
    refine leaves_range (σ' := fun i => if i = 2 then .ptr 0 0 else .any) hT s1 rfl hg k2 k1 (by rw [k5, hI']; rfl) ?_ hD hK (k3.forget ?_) ?_ ?_ (by simp [AV.pure])
    · rw [k5]
      exact all3 (Tm.cells_solid 24 _) (Tm.cells_solid 24 _) (Tm.cells_solid 24 _)
    · intro i
      split
      · rename_i h; subst h; exact .inr k4
      · exact .inl rfl
    · intro i
      split <;> trivial
    · rw [k5]
      simp
end Go.T1
end

section
open Go Go.Ab Go.Proofs
namespace Go.T1
theorem backR_nil (H : Tm) (n : Int) : backR ⟨H, [], n⟩ = if H.check = 0 then H else Tm.zero := rfl
set_option maxRecDepth 100000 in
theorem backE_c (H : Tm) (n : Int) (hs : H.small) : PureCall T Try.prog 20 [.agg (clsC ⟨H, [], n⟩)] ((backR ⟨H, [], n⟩).av 24) := by
  refine PureCall.of_vc hT [3, 5] [] follows Try.call20 Try.func20 rfl (by kernel_rfl) (by simp [AV.pure, AV.pureL]) (by simp [AV.pure]) ?_
  unfold Try.f20
  simp [clsC, cond_t, cond_f, -vcC_cond]
  refine vcCall_at (Clone_c H hs) ?_
  simp [backR_nil]
theorem Back_c (c : Cls) (hs : (backT c).small) : PureCall T Try.prog 20 [.agg (clsC c)] ((backR c).av 24) := by
  obtain ⟨H, gs, n⟩ := c
  rcases List.eq_nil_or_concat gs with rfl | ⟨L, g, rfl⟩
  · exact backE_c H n hs
  · simp only [List.concat_eq_append] at *
    exact backN_c H n L g hs
def A0 : Tm := .mk 3 0 ⟨#[97]⟩ []
def B0 : Tm := .mk 3 0 ⟨#[98]⟩ []
def w0 : Tm := .mk 4 0 ⟨#[44]⟩ [B0, Tm.mk 3 0 ⟨#[33]⟩ []]
def x0 : Tm := .mk 4 0 ⟨#[44]⟩ [w0, Tm.mk 1 5 ⟨#[]⟩ []]
def t0c : Tm := .mk 4 0 ⟨#[58, 45]⟩ [A0, x0]
def c0 : Cls := ⟨A0, [⟨1, B0⟩, ⟨2, Tm.mk 3 0 ⟨#[33]⟩ []⟩, ⟨4, Tm.mk 1 0 ⟨#[]⟩ []⟩], 1⟩
def u0c : Tm := .mk 4 0 ⟨#[97]⟩ [B0]
def bk0 : Tm := .mk 4 0 ⟨#[58, 45]⟩ [A0, .mk 4 0 ⟨#[44]⟩ [B0, .mk 4 0 ⟨#[44]⟩ [Tm.mk 3 0 ⟨#[33]⟩ [], Tm.mk 1 0 ⟨#[]⟩ []]]]
theorem c0_4 (h : 4 < (clsC c0).length) : (clsC c0)[4] = .lst 51 [(⟨1, B0⟩ : Gl).cells, (⟨2, Tm.mk 3 0 ⟨#[33]⟩ []⟩ : Gl).cells, (⟨4, Tm.mk 1 0 ⟨#[]⟩ []⟩ : Gl).cells] := rfl
theorem c0_5 (h : 5 < (clsC c0).length) : (clsC c0)[5] = .sc (.int .i64 1) := rfl
theorem inst_2 (h : 2 < (instT.cells 24).length) : (instT.cells 24)[2] = .sc (.string ⟨#[101, 114, 114, 111, 114]⟩) := rfl
@[simp] theorem clsC_take (c : Cls) : List.take 6 (clsC c) = clsC c := by rw [List.take_of_length_le]; simp
theorem pf24_2 : plainField Try.prog 24 2 = some 2 := by kernel_rfl
theorem bk_2 : (bk0.cells 24)[2]? = some (.sc (.string ⟨#[58, 45]⟩)) := rfl
theorem bk_2b (h : 2 < (bk0.cells 24).length) : (bk0.cells 24)[2] = .sc (.string ⟨#[58, 45]⟩) := rfl
theorem A0_small : A0.small := by simp [A0, Tm.small, Tm.size, Tm.sizeL]
theorem i1_small : (Tm.mk 2 1 ⟨#[]⟩ []).small := by simp [Tm.small, Tm.size, Tm.sizeL]
theorem v1_small : (Tm.mk 1 1 ⟨#[]⟩ []).small := by simp [Tm.small, Tm.size, Tm.sizeL]
theorem t0c_small : t0c.small := by simp [t0c, x0, w0, A0, B0, Tm.small, Tm.size, Tm.sizeL]
theorem from0 : fromR t0c = ⟨c0, Tm.zero, true⟩ := by kernel_rfl
theorem from1 : fromR (.mk 1 1 ⟨#[]⟩ []) = ⟨noCls, instT, false⟩ := by kernel_rfl
theorem add0 : addR A0 [B0] = ⟨u0c, Tm.zero, true⟩ := by kernel_rfl
theorem back0T : backT c0 = bk0 := by kernel_rfl
theorem back0 : backR c0 = bk0 := by kernel_rfl
theorem bk0_small : bk0.small := by simp [bk0, A0, B0, Tm.small, Tm.size, Tm.sizeL]
theorem is2 : builtB ⟨#[105, 115]⟩ 2 = true := by decide +kernel
theorem is3 : builtB ⟨#[105, 115]⟩ 3 = false := by decide +kernel
theorem a_ck : A0.check = 0 := by decide +kernel
theorem k_A0 : A0.kind = 3 := rfl
theorem i_kind (n : Int) : (Tm.mk 2 n ⟨#[]⟩ []).kind = 2 := rfl
theorem hBack : PureCall T Try.prog 20 [.agg (clsC c0)] (bk0.av 24) := by
  have := Back_c c0 (by rw [back0T]; exact bk0_small)
  rw [back0] at this
  exact this
set_option maxRecDepth 100000 in
set_option maxHeartbeats 4000000 in
theorem lives_c : PureCall T Try.prog 10 [] (.sc (.bool true)) := by
  refine PureCall.of_vc hT [] [(2, 10)] follows Try.call10 Try.func10 rfl (drawsOk_of3 (by kernel_rfl)) (by simp [AV.pure, AV.pureL]) (by simp [AV.pure]) ?_
  unfold Try.f10
  simp
  refine vcCall_at (rAtom_c _) ?_
  rw [show Tm.mk 3 0 ⟨#[97]⟩ [] = A0 from rfl]
  simp
  refine vcCall_at (rAtom_c _) ?_
  rw [show Tm.mk 3 0 ⟨#[98]⟩ [] = B0 from rfl]
  simp
  refine ⟨fun r st' => r = .ptr 2 0 ∧ st' = [.cells (A0.cells 24), .cells (B0.cells 24), .cells zT], ?_⟩
  simp (decide := true) [zT]
  refine ⟨by rintro r st' ⟨rfl, rfl⟩; simp (decide := true) [zT], ?_⟩; simp (decide := true) [zT]
  refine ⟨by rintro r st' ⟨rfl, rfl⟩; simp (decide := true) [zT], ?_⟩; simp (decide := true) [zT]
  refine vcCall_at (rAtom_c _) ?_; simp (decide := true) [zT]
  refine ⟨by rintro r st' ⟨rfl, rfl⟩; simp (decide := true) [zT]; refine vcCall_at (rAtom_c _) ?_; simp [zT], ?_⟩; simp (decide := true) [zT]
  refine ⟨by rintro r st' ⟨rfl, rfl⟩; simp (decide := true) [zT], ?_⟩; simp (decide := true) [zT]
  refine vcCall_at (rComp_c _ [B0, Tm.mk 3 0 ⟨#[33]⟩ []]) ?_; rw [show compT ⟨#[44]⟩ [B0, Tm.mk 3 0 ⟨#[33]⟩ []] = w0 from rfl]; simp (decide := true) [zT]
  refine ⟨by rintro r st' ⟨rfl, rfl⟩; simp (decide := true) [zT]; refine vcCall_at (rComp_c _ [B0, Tm.mk 3 0 ⟨#[33]⟩ []]) ?_; rw [show compT ⟨#[44]⟩ [B0, Tm.mk 3 0 ⟨#[33]⟩ []] = w0 from rfl]; simp [zT], ?_⟩; simp (decide := true) [zT]
  refine vcCall_at (rVar_c 5) ?_; simp (decide := true) [zT]
  refine ⟨by rintro r st' ⟨rfl, rfl⟩; simp (decide := true) [zT]; refine vcCall_at (rVar_c 5) ?_; simp [zT], ?_⟩; simp (decide := true) [zT]
  refine ⟨by rintro r st' ⟨rfl, rfl⟩; simp (decide := true) [zT], ?_⟩; simp (decide := true) [zT]
  refine vcCall_at (rComp_c _ [w0, Tm.mk 1 5 ⟨#[]⟩ []]) ?_; rw [show compT ⟨#[44]⟩ [w0, Tm.mk 1 5 ⟨#[]⟩ []] = x0 from rfl]; simp (decide := true) [zT]
  refine ⟨by rintro r st' ⟨rfl, rfl⟩; simp (decide := true) [zT]; refine vcCall_at (rComp_c _ [w0, Tm.mk 1 5 ⟨#[]⟩ []]) ?_; rw [show compT ⟨#[44]⟩ [w0, Tm.mk 1 5 ⟨#[]⟩ []] = x0 from rfl]; simp [zT], ?_⟩; simp (decide := true) [zT]
  refine ⟨by rintro r st' ⟨rfl, rfl⟩; simp (decide := true) [zT], ?_⟩; simp (decide := true) [zT]
  refine vcCall_at (rComp_c _ [A0, x0]) ?_; rw [show compT ⟨#[58, 45]⟩ [A0, x0] = t0c from rfl]; simp (decide := true) [zT]
  refine ⟨by rintro r st' ⟨rfl, rfl⟩; simp (decide := true) [zT]; refine vcCall_at (rComp_c _ [A0, x0]) ?_; rw [show compT ⟨#[58, 45]⟩ [A0, x0] = t0c from rfl]; simp [zT], ?_⟩; simp (decide := true) [zT]
  refine ⟨by simp, rfl, by simp [vcI, zT], ?_⟩
  rintro r st' ⟨rfl, rfl⟩ _; simp (decide := true) [zT]
  refine vcCall_at (From_c t0c t0c_small) ?_
  rw [from0]
  simp [fromA]
  refine vcCall_at (rVar_c 1) ?_
  simp
  refine vcCall_at (From_c (.mk 1 1 ⟨#[]⟩ []) v1_small) ?_
  rw [from1]
  simp [fromA]
  have hadd : PureCall T Try.prog 23 [A0.av 24, .lst 24 [B0.cells 24]] (addA ⟨u0c, Tm.zero, true⟩) := by
    have := Add_c 3 0 ⟨#[97]⟩ [] [B0] A0_small (by simp [B0, Tm.small, Tm.size, Tm.sizeL])
    rw [show addR (Tm.mk 3 0 ⟨#[97]⟩ []) [B0] = ⟨u0c, Tm.zero, true⟩ from add0] at this
    exact this
  refine vcCall_at hadd ?_
  simp [addA, -vcLex_cons]

  refine vcLex_step fun K hK => ?_; simp [glsL, Gl.cells, is2, is3, a_ck, i_kind, k_A0, c0_4, c0_5, inst_2, pf24_2, bk_2, bk_2b]; intros; refine hK _ _ ?_; clear hK
  refine vcLex_step fun K hK => ?_; simp [glsL, Gl.cells, is2, is3, a_ck, i_kind, k_A0, c0_4, c0_5, inst_2, pf24_2, bk_2, bk_2b]; intros; refine hK _ _ ?_; clear hK
  refine vcLex_step fun K hK => ?_; simp [glsL, Gl.cells, is2, is3, a_ck, i_kind, k_A0, c0_4, c0_5, inst_2, pf24_2, bk_2, bk_2b]; intros; refine hK _ _ ?_; clear hK
  refine vcLex_step fun K hK => ?_; simp [glsL, Gl.cells, is2, is3, a_ck, i_kind, k_A0, c0_4, c0_5, inst_2, pf24_2, bk_2, bk_2b]; intros; refine hK _ _ ?_; clear hK
  refine vcLex_step fun K hK => ?_; simp [glsL, Gl.cells, is2, is3, a_ck, i_kind, k_A0, c0_4, c0_5, inst_2, pf24_2, bk_2, bk_2b]; intros; refine hK _ _ ?_; clear hK
  refine vcLex_step fun K hK => ?_; simp [glsL, Gl.cells, is2, is3, a_ck, i_kind, k_A0, c0_4, c0_5, inst_2, pf24_2, bk_2, bk_2b]; intros; refine hK _ _ ?_; clear hK
  refine vcLex_step fun K hK => ?_; simp [glsL, Gl.cells, is2, is3, a_ck, i_kind, k_A0, c0_4, c0_5, inst_2, pf24_2, bk_2, bk_2b]; intros; refine hK _ _ ?_; clear hK
  refine vcLex_step fun K hK => ?_; simp [glsL, Gl.cells, is2, is3, a_ck, i_kind, k_A0, c0_4, c0_5, inst_2, pf24_2, bk_2, bk_2b]; intros; refine hK _ _ ?_; clear hK
  refine vcLex_step fun K hK => ?_; simp [glsL, Gl.cells, is2, is3, a_ck, i_kind, k_A0, c0_4, c0_5, inst_2, pf24_2, bk_2, bk_2b]; intros; refine hK _ _ ?_; clear hK
  refine vcLex_step fun K hK => ?_; simp [glsL, Gl.cells, is2, is3, a_ck, i_kind, k_A0, c0_4, c0_5, inst_2, pf24_2, bk_2, bk_2b]; intros; refine hK _ _ ?_; clear hK
  refine vcLex_step fun K hK => ?_; simp [glsL, Gl.cells, is2, is3, a_ck, i_kind, k_A0, c0_4, c0_5, inst_2, pf24_2, bk_2, bk_2b]; intros; refine hK _ _ ?_; clear hK
  refine vcLex_step fun K hK => ?_; simp [glsL, Gl.cells, is2, is3, a_ck, i_kind, k_A0, c0_4, c0_5, inst_2, pf24_2, bk_2, bk_2b]; intros; refine hK _ _ ?_; clear hK
  refine vcLex_step fun K hK => ?_; simp [glsL, Gl.cells, is2, is3, a_ck, i_kind, k_A0, c0_4, c0_5, inst_2, pf24_2, bk_2, bk_2b]; intros; refine hK _ _ ?_; clear hK
  refine vcLex_step fun K hK => ?_; simp [glsL, Gl.cells, is2, is3, a_ck, i_kind, k_A0, c0_4, c0_5, inst_2, pf24_2, bk_2, bk_2b]; intros; refine hK _ _ ?_; clear hK
  refine vcLex_step fun K hK => ?_; simp [glsL, Gl.cells, is2, is3, a_ck, i_kind, k_A0, c0_4, c0_5, inst_2, pf24_2, bk_2, bk_2b]; intros; refine hK _ _ ?_; clear hK
  refine vcLex_step fun K hK => ?_; simp [glsL, Gl.cells, is2, is3, a_ck, i_kind, k_A0, c0_4, c0_5, inst_2, pf24_2, bk_2, bk_2b]; intros; refine hK _ _ ?_; clear hK
  refine vcLex_step fun K hK => ?_; simp [glsL, Gl.cells, is2, is3, a_ck, i_kind, k_A0, c0_4, c0_5, inst_2, pf24_2, bk_2, bk_2b]; intros; refine hK _ _ ?_; clear hK
  refine vcLex_step fun K hK => ?_; simp [glsL, Gl.cells, is2, is3, a_ck, i_kind, k_A0, c0_4, c0_5, inst_2, pf24_2, bk_2, bk_2b]; intros; refine hK _ _ ?_; clear hK
  refine vcLex_step fun K hK => ?_; simp [glsL, Gl.cells, is2, is3, a_ck, i_kind, k_A0, c0_4, c0_5, inst_2, pf24_2, bk_2, bk_2b]; intros; refine hK _ _ ?_; clear hK
  refine vcLex_step fun K hK => ?_; simp [glsL, Gl.cells, is2, is3, a_ck, i_kind, k_A0, c0_4, c0_5, inst_2, pf24_2, bk_2, bk_2b]; intros; refine hK _ _ ?_; clear hK
  refine vcLex_step fun K hK => ?_; simp [glsL, Gl.cells, is2, is3, a_ck, i_kind, k_A0, c0_4, c0_5, inst_2, pf24_2, bk_2, bk_2b]; intros; refine hK _ _ ?_; clear hK
  refine vcLex_step fun K hK => ?_; simp [glsL, Gl.cells, is2, is3, a_ck, i_kind, k_A0, c0_4, c0_5, inst_2, pf24_2, bk_2, bk_2b]; intros; refine hK _ _ ?_; clear hK
  refine vcLex_step fun K hK => ?_; simp [glsL, Gl.cells, is2, is3, a_ck, i_kind, k_A0, c0_4, c0_5, inst_2, pf24_2, bk_2, bk_2b]; intros; refine hK _ _ ?_; clear hK
  refine vcLex_step fun K hK => ?_; simp [glsL, Gl.cells, is2, is3, a_ck, i_kind, k_A0, c0_4, c0_5, inst_2, pf24_2, bk_2, bk_2b]; intros; refine hK _ _ ?_; clear hK
  refine vcLex_step fun K hK => ?_; simp [glsL, Gl.cells, is2, is3, a_ck, i_kind, k_A0, c0_4, c0_5, inst_2, pf24_2, bk_2, bk_2b]; intros; refine hK _ _ ?_; clear hK
  refine vcLex_step fun K hK => ?_; simp [glsL, Gl.cells, is2, is3, a_ck, i_kind, k_A0, c0_4, c0_5, inst_2, pf24_2, bk_2, bk_2b]; intros; refine hK _ _ ?_; clear hK
  refine vcLex_step fun K hK => ?_; simp [glsL, Gl.cells, is2, is3, a_ck, i_kind, k_A0, c0_4, c0_5, inst_2, pf24_2, bk_2, bk_2b]; intros; refine hK _ _ ?_; clear hK
  refine vcLex_step fun K hK => ?_; simp [glsL, Gl.cells, is2, is3, a_ck, i_kind, k_A0, c0_4, c0_5, inst_2, pf24_2, bk_2, bk_2b]; intros; refine hK _ _ ?_; clear hK
  refine vcLex_step fun K hK => ?_; simp [glsL, Gl.cells, is2, is3, a_ck, i_kind, k_A0, c0_4, c0_5, inst_2, pf24_2, bk_2, bk_2b]; intros; refine hK _ _ ?_; clear hK
  refine vcLex_step fun K hK => ?_; simp [glsL, Gl.cells, is2, is3, a_ck, i_kind, k_A0, c0_4, c0_5, inst_2, pf24_2, bk_2, bk_2b]; intros; refine hK _ _ ?_; clear hK
  refine vcLex_step fun K hK => ?_; simp [glsL, Gl.cells, is2, is3, a_ck, i_kind, k_A0, c0_4, c0_5, inst_2, pf24_2, bk_2, bk_2b]; intros; refine hK _ _ ?_; clear hK
  refine vcLex_step fun K hK => ?_; simp [glsL, Gl.cells, is2, is3, a_ck, i_kind, k_A0, c0_4, c0_5, inst_2, pf24_2, bk_2, bk_2b]; intros; refine hK _ _ ?_; clear hK
  refine vcLex_step fun K hK => ?_; simp [glsL, Gl.cells, is2, is3, a_ck, i_kind, k_A0, c0_4, c0_5, inst_2, pf24_2, bk_2, bk_2b]; intros; refine hK _ _ ?_; clear hK
  refine vcLex_step fun K hK => ?_; simp [glsL, Gl.cells, is2, is3, a_ck, i_kind, k_A0, c0_4, c0_5, inst_2, pf24_2, bk_2, bk_2b]; intros; refine hK _ _ ?_; clear hK
  refine vcLex_step fun K hK => ?_; simp [glsL, Gl.cells, is2, is3, a_ck, i_kind, k_A0, c0_4, c0_5, inst_2, pf24_2, bk_2, bk_2b]; intros; refine hK _ _ ?_; clear hK
  refine vcLex_step fun K hK => ?_; simp [glsL, Gl.cells, is2, is3, a_ck, i_kind, k_A0, c0_4, c0_5, inst_2, pf24_2, bk_2, bk_2b]; intros; refine hK _ _ ?_; clear hK
  refine vcLex_step fun K hK => ?_; simp [glsL, Gl.cells, is2, is3, a_ck, i_kind, k_A0, c0_4, c0_5, inst_2, pf24_2, bk_2, bk_2b]; intros; refine hK _ _ ?_; clear hK
  refine vcLex_step fun K hK => ?_; simp [glsL, Gl.cells, is2, is3, a_ck, i_kind, k_A0, c0_4, c0_5, inst_2, pf24_2, bk_2, bk_2b]; intros; refine hK _ _ ?_; clear hK
  refine vcLex_step fun K hK => ?_; simp [glsL, Gl.cells, is2, is3, a_ck, i_kind, k_A0, c0_4, c0_5, inst_2, pf24_2, bk_2, bk_2b]; intros; refine hK _ _ ?_; clear hK
  refine vcLex_step fun K hK => ?_; simp [glsL, Gl.cells, is2, is3, a_ck, i_kind, k_A0, c0_4, c0_5, inst_2, pf24_2, bk_2, bk_2b]; intros; refine hK _ _ ?_; clear hK
  refine vcLex_step fun K hK => ?_; simp [glsL, Gl.cells, is2, is3, a_ck, i_kind, k_A0, c0_4, c0_5, inst_2, pf24_2, bk_2, bk_2b]; intros; refine hK _ _ ?_; clear hK
  refine vcLex_step fun K hK => ?_; simp [glsL, Gl.cells, is2, is3, a_ck, i_kind, k_A0, c0_4, c0_5, inst_2, pf24_2, bk_2, bk_2b]; intros; refine hK _ _ ?_; clear hK
  refine vcLex_step fun K hK => ?_; simp [glsL, Gl.cells, is2, is3, a_ck, i_kind, k_A0, c0_4, c0_5, inst_2, pf24_2, bk_2, bk_2b]; intros; refine hK _ _ ?_; clear hK
  refine vcLex_step fun K hK => ?_; simp [glsL, Gl.cells, is2, is3, a_ck, i_kind, k_A0, c0_4, c0_5, inst_2, pf24_2, bk_2, bk_2b]; intros; refine hK _ _ ?_; clear hK
  refine vcLex_step fun K hK => ?_; simp [glsL, Gl.cells, is2, is3, a_ck, i_kind, k_A0, c0_4, c0_5, inst_2, pf24_2, bk_2, bk_2b]; intros; refine hK _ _ ?_; clear hK
  refine vcLex_step fun K hK => ?_; simp [glsL, Gl.cells, is2, is3, a_ck, i_kind, k_A0, c0_4, c0_5, inst_2, pf24_2, bk_2, bk_2b]; intros; refine hK _ _ ?_; clear hK
  refine vcLex_step fun K hK => ?_; simp [glsL, Gl.cells, is2, is3, a_ck, i_kind, k_A0, c0_4, c0_5, inst_2, pf24_2, bk_2, bk_2b]; intros; refine hK _ _ ?_; clear hK
  refine vcLex_step fun K hK => ?_; simp [glsL, Gl.cells, is2, is3, a_ck, i_kind, k_A0, c0_4, c0_5, inst_2, pf24_2, bk_2, bk_2b]; intros; refine hK _ _ ?_; clear hK
  refine vcLex_step fun K hK => ?_; simp [glsL, Gl.cells, is2, is3, a_ck, i_kind, k_A0, c0_4, c0_5, inst_2, pf24_2, bk_2, bk_2b]; intros; refine hK _ _ ?_; clear hK
  refine vcLex_step fun K hK => ?_; simp [glsL, Gl.cells, is2, is3, a_ck, i_kind, k_A0, c0_4, c0_5, inst_2, pf24_2, bk_2, bk_2b]; intros; refine hK _ _ ?_; clear hK
  refine vcLex_step fun K hK => ?_; simp [glsL, Gl.cells, is2, is3, a_ck, i_kind, k_A0, c0_4, c0_5, inst_2, pf24_2, bk_2, bk_2b]; intros; refine hK _ _ ?_; clear hK
  refine vcLex_step fun K hK => ?_; simp [glsL, Gl.cells, is2, is3, a_ck, i_kind, k_A0, c0_4, c0_5, inst_2, pf24_2, bk_2, bk_2b]; intros; refine hK _ _ ?_; clear hK
  refine vcLex_step fun K hK => ?_; simp [glsL, Gl.cells, is2, is3, a_ck, i_kind, k_A0, c0_4, c0_5, inst_2, pf24_2, bk_2, bk_2b]; refine vcCall_at (rComp_c _ [B0]) ?_; simp [glsL, Gl.cells, is2, is3, a_ck, i_kind, k_A0, c0_4, c0_5, inst_2, pf24_2, bk_2, bk_2b]; refine hK _ _ ?_; clear hK
  refine vcLex_step fun K hK => ?_; simp [glsL, Gl.cells, is2, is3, a_ck, i_kind, k_A0, c0_4, c0_5, inst_2, pf24_2, bk_2, bk_2b]; refine vcCall_at (exact_c u0c u0c) ?_; simp [glsL, Gl.cells, is2, is3, a_ck, i_kind, k_A0, c0_4, c0_5, inst_2, pf24_2, bk_2, bk_2b]; refine hK _ _ ?_; clear hK
  refine vcLex_step fun K hK => ?_; simp [glsL, Gl.cells, is2, is3, a_ck, i_kind, k_A0, c0_4, c0_5, inst_2, pf24_2, bk_2, bk_2b]; intros; refine hK _ _ ?_; clear hK
  refine vcLex_step fun K hK => ?_; simp [glsL, Gl.cells, is2, is3, a_ck, i_kind, k_A0, c0_4, c0_5, inst_2, pf24_2, bk_2, bk_2b]; intros; refine hK _ _ ?_; clear hK
  refine vcLex_step fun K hK => ?_; simp [glsL, Gl.cells, is2, is3, a_ck, i_kind, k_A0, c0_4, c0_5, inst_2, pf24_2, bk_2, bk_2b]; refine vcCall_at (Builtin_c _ 2) ?_; simp [glsL, Gl.cells, is2, is3, a_ck, i_kind, k_A0, c0_4, c0_5, inst_2, pf24_2, bk_2, bk_2b]; refine hK _ _ ?_; clear hK
  refine vcLex_step fun K hK => ?_; simp [glsL, Gl.cells, is2, is3, a_ck, i_kind, k_A0, c0_4, c0_5, inst_2, pf24_2, bk_2, bk_2b]; intros; refine hK _ _ ?_; clear hK
  refine vcLex_step fun K hK => ?_; simp [glsL, Gl.cells, is2, is3, a_ck, i_kind, k_A0, c0_4, c0_5, inst_2, pf24_2, bk_2, bk_2b]; intros; refine hK _ _ ?_; clear hK
  refine vcLex_step fun K hK => ?_; simp [glsL, Gl.cells, is2, is3, a_ck, i_kind, k_A0, c0_4, c0_5, inst_2, pf24_2, bk_2, bk_2b]; refine vcCall_at (Builtin_c _ 3) ?_; simp [glsL, Gl.cells, is2, is3, a_ck, i_kind, k_A0, c0_4, c0_5, inst_2, pf24_2, bk_2, bk_2b]; refine hK _ _ ?_; clear hK
  refine vcLex_step fun K hK => ?_; simp [glsL, Gl.cells, is2, is3, a_ck, i_kind, k_A0, c0_4, c0_5, inst_2, pf24_2, bk_2, bk_2b]; intros; refine hK _ _ ?_; clear hK
  refine vcLex_step fun K hK => ?_; simp [glsL, Gl.cells, is2, is3, a_ck, i_kind, k_A0, c0_4, c0_5, inst_2, pf24_2, bk_2, bk_2b]; intros; refine hK _ _ ?_; clear hK
  refine vcLex_step fun K hK => ?_; simp [glsL, Gl.cells, is2, is3, a_ck, i_kind, k_A0, c0_4, c0_5, inst_2, pf24_2, bk_2, bk_2b]; intros; refine hK _ _ ?_; clear hK
  refine vcLex_step fun K hK => ?_; simp [glsL, Gl.cells, is2, is3, a_ck, i_kind, k_A0, c0_4, c0_5, inst_2, pf24_2, bk_2, bk_2b]; intros; refine hK _ _ ?_; clear hK
  refine vcLex_step fun K hK => ?_; simp [glsL, Gl.cells, is2, is3, a_ck, i_kind, k_A0, c0_4, c0_5, inst_2, pf24_2, bk_2, bk_2b]; refine vcCall_at (callable_c A0 A0_small) ?_; simp [glsL, Gl.cells, is2, is3, a_ck, i_kind, k_A0, c0_4, c0_5, inst_2, pf24_2, bk_2, bk_2b]; refine hK _ _ ?_; clear hK
  refine vcLex_step fun K hK => ?_; simp [glsL, Gl.cells, is2, is3, a_ck, i_kind, k_A0, c0_4, c0_5, inst_2, pf24_2, bk_2, bk_2b]; intros; refine hK _ _ ?_; clear hK
  refine vcLex_step fun K hK => ?_; simp [glsL, Gl.cells, is2, is3, a_ck, i_kind, k_A0, c0_4, c0_5, inst_2, pf24_2, bk_2, bk_2b]; intros; refine hK _ _ ?_; clear hK
  refine vcLex_step fun K hK => ?_; simp [glsL, Gl.cells, is2, is3, a_ck, i_kind, k_A0, c0_4, c0_5, inst_2, pf24_2, bk_2, bk_2b]; refine vcCall_at (rInt_c 1) ?_; simp [glsL, Gl.cells, is2, is3, a_ck, i_kind, k_A0, c0_4, c0_5, inst_2, pf24_2, bk_2, bk_2b]; refine hK _ _ ?_; clear hK
  refine vcLex_step fun K hK => ?_; simp [glsL, Gl.cells, is2, is3, a_ck, i_kind, k_A0, c0_4, c0_5, inst_2, pf24_2, bk_2, bk_2b]; refine vcCall_at (callable_c (.mk 2 1 ⟨#[]⟩ []) i1_small) ?_; simp [glsL, Gl.cells, is2, is3, a_ck, i_kind, k_A0, c0_4, c0_5, inst_2, pf24_2, bk_2, bk_2b]; refine hK _ _ ?_; clear hK
  refine vcLex_step fun K hK => ?_; simp [glsL, Gl.cells, is2, is3, a_ck, i_kind, k_A0, c0_4, c0_5, inst_2, pf24_2, bk_2, bk_2b]; intros; refine hK _ _ ?_; clear hK
  refine vcLex_step fun K hK => ?_; simp [glsL, Gl.cells, is2, is3, a_ck, i_kind, k_A0, c0_4, c0_5, inst_2, pf24_2, bk_2, bk_2b]; intros; refine hK _ _ ?_; clear hK
  refine vcLex_step fun K hK => ?_; simp [glsL, Gl.cells, is2, is3, a_ck, i_kind, k_A0, c0_4, c0_5, inst_2, pf24_2, bk_2, bk_2b]; intros; refine hK _ _ ?_; clear hK
  refine vcLex_step fun K hK => ?_; simp [glsL, Gl.cells, is2, is3, a_ck, i_kind, k_A0, c0_4, c0_5, inst_2, pf24_2, bk_2, bk_2b]; intros; refine hK _ _ ?_; clear hK
  refine vcLex_step fun K hK => ?_; simp [glsL, Gl.cells, is2, is3, a_ck, i_kind, k_A0, c0_4, c0_5, inst_2, pf24_2, bk_2, bk_2b]; refine vcCall_at (hBack) ?_; simp [glsL, Gl.cells, is2, is3, a_ck, i_kind, k_A0, c0_4, c0_5, inst_2, pf24_2, bk_2, bk_2b]; refine hK _ _ ?_; clear hK
  refine vcLex_step fun K hK => ?_; simp [glsL, Gl.cells, is2, is3, a_ck, i_kind, k_A0, c0_4, c0_5, inst_2, pf24_2, bk_2, bk_2b]; intros; refine hK _ _ ?_; clear hK
  refine vcLex_step fun K hK => ?_; simp [glsL, Gl.cells, is2, is3, a_ck, i_kind, k_A0, c0_4, c0_5, inst_2, pf24_2, bk_2, bk_2b]; intros; refine hK _ _ ?_; clear hK
  refine vcLex_step fun K hK => ?_; simp [glsL, Gl.cells, is2, is3, a_ck, i_kind, k_A0, c0_4, c0_5, inst_2, pf24_2, bk_2, bk_2b]; intros; refine hK _ _ ?_; clear hK
  refine vcLex_step fun K hK => ?_; simp [glsL, Gl.cells, is2, is3, a_ck, i_kind, k_A0, c0_4, c0_5, inst_2, pf24_2, bk_2, bk_2b]; intros; refine hK _ _ ?_; clear hK
  simp
end Go.T1
end

section
open Go Go.Ab Go.Proofs
namespace Go.T1
set_option maxRecDepth 100000 in
theorem ClauseFrom_c (t : Tm) (hn : t.nice) : PureCall T Try.prog 3 [t.av 24] (.sc (.bool true)) := by
  refine PureCall.of_vc hT [] [] follows Try.call3 Try.func3 rfl (drawsOk_of3 (by kernel_rfl)) (by simp [AV.pure, AV.pureL]) (by simp [AV.pure]) ?_
  unfold Try.f3
  simp [cond_t, cond_f]
  refine vcCall_at (Large_c t hn) ?_
  simp
  refine ⟨fun h => vcCall_at lives_c (by simp), fun h => ?_⟩
  have hs := Tm.large_small h
  refine vcCall_at (From_c t hs) ?_
  simp [fromA]
  refine vcCall_at (rFrom_c t hs) ?_
  simp [fromA]
  refine vcCall_at lives_c ?_
  simp
  refine vcCall_at (same_c _ _) ?_
  simp
  refine vcCall_at (exact_c (fromR t).ball (fromR t).ball) ?_
  simp
set_option maxRecDepth 100000 in
theorem ClauseBodies_c (t : Tm) (hn : t.nice) : PureCall T Try.prog 4 [t.av 24] (.sc (.bool true)) := by
  refine PureCall.of_vc hT [] [] follows Try.call4 Try.func4 rfl (drawsOk_of3 (by kernel_rfl)) (by simp [AV.pure, AV.pureL]) (by simp [AV.pure]) ?_
  unfold Try.f4
  simp [cond_t, cond_f]
  refine vcCall_at (Large_c t hn) ?_
  simp
  refine ⟨fun h => vcCall_at lives_c (by simp), fun h => ?_⟩
  have hs := Tm.large_small h
  refine vcCall_at (Body_c t hs) ?_
  simp [bodyA]
  refine vcCall_at (rBody_c t hs) ?_
  simp [bodyA]
  refine vcCall_at lives_c ?_
  simp
  refine vcCall_at (sameGoals_c (bodyR t).goals (bodyR t).goals) ?_
  simp
  refine vcCall_at (exact_c (bodyR t).ball (bodyR t).ball) ?_
  simp
  refine vcCall_at (callable_c t hs) ?_
  simp
  refine vcCall_at (rCheck_c t hs) ?_
  simp
  by_cases hc : t.check = 0
  · have hk : 1 ≤ t.kind ∧ t.kind ≤ 4 := by obtain ⟨k, n, s, l⟩ := t; exact check_kind hc
    simp [hc]
    by_cases k3 : t.kind = 3
    · simp [k3]
    · by_cases k4 : t.kind = 4
      · simp [k4]
      · have : ¬ (3 ≤ t.kind) := by omega
        simp [k3, k4, this]
  · simp [hc]
set_option maxRecDepth 100000 in
theorem ClauseBack_c (t : Tm) (hn : t.nice) : PureCall T Try.prog 5 [t.av 24] (.sc (.bool true)) := by
  refine PureCall.of_vc hT [] [] follows Try.call5 Try.func5 rfl (drawsOk_of3 (by kernel_rfl)) (by simp [AV.pure, AV.pureL]) (by simp [AV.pure]) ?_
  unfold Try.f5
  simp [cond_t, cond_f]
  refine vcCall_at (Large_c t hn) ?_
  simp
  refine ⟨fun h => vcCall_at lives_c (by simp), fun h => ?_⟩
  have hs := Tm.large_small h
  refine vcCall_at (From_c t hs) ?_
  simp [fromA]
  refine vcCall_at lives_c ?_
  simp
  refine ⟨fun hok => ?_, fun hok => ?_⟩
  · refine vcCall_at lives_c ?_
    simp
  have hsm := back_small hs hok
  refine vcCall_at (Back_c _ hsm.1) ?_
  simp
  refine vcCall_at (rBack_c _ hsm.1) ?_
  simp
  refine vcCall_at (exact_c _ _) ?_
  simp
  intro hk
  have hb := back_from hs hok hk
  refine vcCall_at (From_c _ hsm.2) ?_
  rw [hb]
  simp [fromA, hok]
  refine vcCall_at (same_c _ _) ?_
  simp [hok]
set_option maxRecDepth 100000 in
theorem ClauseJoins_c (a b : Tm) (hna : a.nice) (hnb : b.nice) : PureCall T Try.prog 8 [a.av 24, b.av 24] (.sc (.bool true)) := by
  refine PureCall.of_vc hT [] [(9, 5), (9, 7), (9, 8)] follows Try.call8 Try.func8 rfl (drawsOk_of3 (by kernel_rfl)) (by simp [AV.pure, AV.pureL]) (by simp [AV.pure]) ?_
  unfold Try.f8
  simp [cond_t, cond_f]
  refine vcCall_at (Large_c a hna) ?_
  simp
  refine vcCall_at (Large_c b hnb) ?_
  simp
  refine ⟨fun h => vcCall_at lives_c (by simp), fun h1 h2 => ?_⟩
  have hsa := Tm.large_size h1
  have hsb := Tm.large_size h2
  refine vcCall_at (Body_c a (Tm.large_small h1)) ?_
  simp [bodyA]
  refine vcCall_at (Body_c b (Tm.large_small h2)) ?_
  simp [bodyA]
  refine ⟨rfl, vcCall_at (rComp_c _ [a, b]) ?_⟩
  simp [compT]
  have hcs : (Tm.mk 4 0 ⟨#[44]⟩ [a, b]).small := by simp [Tm.small, Tm.size, Tm.sizeL]; omega
  refine vcCall_at (Body_c (.mk 4 0 _ [a, b]) hcs) ?_
  simp [bodyA]
  refine vcCall_at lives_c ?_
  simp
  by_cases ha : (bodyR a).ok = true
  case neg =>
    have ha : (bodyR a).ok = false := by simpa using ha
    simp [ha]
    refine vcCall_at (rCheck_c _ hcs) ?_
    simp [ha]
    exact vcCall_at lives_c (by simp)
  by_cases hb : (bodyR b).ok = true
  case neg =>
    have hb : (bodyR b).ok = false := by simpa using hb
    simp [ha, hb]
    refine vcCall_at (rCheck_c _ hcs) ?_
    simp [ha, hb]
    exact vcCall_at lives_c (by simp)
  simp [ha, hb]
  intro q1 q2 q3 q4
  refine ⟨by unfold i64ok; omega, vcCall_at (rCheck_c _ hcs) ?_⟩
  by_cases hl : (bodyR a).goals.length + (bodyR b).goals.length ≤ 64
  case neg =>
    have e1 : (64 : Int) < (bodyR a).goals.length + (bodyR b).goals.length := by omega
    simp [e1, ha, hb]
    exact vcCall_at lives_c (by simp)
  have e1 : ¬ (64 : Int) < (bodyR a).goals.length + (bodyR b).goals.length := by omega
  by_cases hc : (Tm.mk 4 0 ⟨#[44]⟩ [a, b]).check = 0
  case neg =>
    simp [e1, ha, hb, hc]
    exact vcCall_at lives_c (by simp)
  simp only [joins ha hb hl hc]
  simp [e1, ha, hb, hc]
  have hsg := sameGoals_c ((bodyR a).goals ++ (bodyR b).goals) ((bodyR a).goals ++ (bodyR b).goals)
  have eg : glsL (bodyR a).goals ++ glsL (bodyR b).goals = glsL ((bodyR a).goals ++ (bodyR b).goals) := by simp [glsL]
  refine ⟨by omega, by omega, vcICall_of (ICall.freeze (pre := [.lst 51 _]) (post := []) rfl (ICall.of_pure (by rw [eg]; exact hsg) _)) ?_⟩
  rintro r st' ⟨rfl, rfl⟩ _
  simp
end Go.T1
end

section
open Go Go.Ab Go.Proofs
namespace Go.T1
theorem sizeL_app : ∀ a b : List Tm, Tm.sizeL (a ++ b) = Tm.sizeL a + Tm.sizeL b
  | [], b => by simp [Tm.sizeL]
  | t :: a, b => by simp [Tm.sizeL, sizeL_app a b]; omega
set_option maxRecDepth 100000 in
theorem ClauseAdds_c (t : Tm) (l : List Tm) (hn : t.nice) (hl : Tm.niceL l) : PureCall T Try.prog 6 [t.av 24, .lst 24 (Tm.cellsL 24 l)] (.sc (.bool true)) := by
  refine PureCall.of_vc hT [] [] follows Try.call6 Try.func6 rfl (drawsOk_of3 (by kernel_rfl)) (by simp [AV.pure, AV.pureL]) (by simp [AV.pure]) ?_
  unfold Try.f6
  simp [cond_t, cond_f]
  refine vcCall_at (Large_c t hn) ?_
  simp
  intro hlen
  refine ⟨fun h => vcCall_at lives_c (by simp), fun h1 h2 => ?_⟩
  have hst := Tm.large_size h1
  have hss := Tm.large_small h1
  have hlen := hlen h1
  have h20 : l.length ≤ 20 := by omega
  refine vcC_loop [] (fun m σ st => ∃ i : Nat, m = l.length - i ∧ i ≤ l.length ∧ Tm.sizeL (l.take i) ≤ 6000 * i ∧ σ 1 = .lst 24 (Tm.cellsL 24 l) ∧ σ 2 = .eptr (t.cells 24) ∧ σ 5 = .sc (.int .i64 (Tm.sizeL (l.take i))) ∧ σ 6 = .sc (.int .i64 i) ∧ st = []) l.length ⟨0, by simp [Tm.sizeL]⟩ ?_
  rintro m σ st ⟨i, rfl, hi, hsz, s1, s2, s5, s6, rfl⟩
  rcases Nat.lt_or_ge i l.length with hlt | hge
  · simp [s1, s2, s5, s6, hlt]
    refine fun _ _ => vcCall_at (Large_c l[i] (Tm.niceL_take hlt hl)) ?_
    simp [s1, s2, s5, s6, hlt]
    refine ⟨fun h => vcCall_at lives_c (by simp), fun h => ?_⟩
    have hsi := Tm.large_size h
    refine vcCall_at (rSize_c l[i] (Tm.large_small h)) ?_
    have e : Tm.sizeL (l.take (i + 1)) = Tm.sizeL (l.take i) + l[i].size := by
      rw [List.take_add_one, sizeL_app]; simp [hlt, Tm.sizeL]
    simp [s1, s2, s5, s6, hlt]
    refine ⟨by unfold i64ok; omega, by unfold i64ok; omega, l.length - (i + 1), by omega, i + 1, rfl, by omega, ?_, ?_, by simp⟩
    · rw [e]; omega
    · rw [e]; simp
  · have hie : i = l.length := by omega
    subst hie
    rw [List.take_length] at hsz s5
    obtain ⟨k, n, s, L⟩ := t
    have hsm : (Tm.mk 4 0 s (L ++ l)).small := by
      unfold Tm.small at hss ⊢
      simp only [Tm.size, sizeL_app] at hss hst ⊢
      omega
    simp [s1, s2, s5, s6]
    intro _ _
    refine vcCall_at (Add_c k n s L l hss hsm) ?_
    simp [addA, s1, s2, s5, s6]
    refine vcCall_at (rAdd_c k n s L l hss hsm) ?_
    simp [addA, s1, s2, s5, s6]
    refine vcCall_at lives_c ?_
    simp [s1, s2, s5, s6]
    refine vcCall_at (exact_c (addR (.mk k n s L) l).t (addR (.mk k n s L) l).t) ?_
    simp [s1, s2, s5, s6]
    refine vcCall_at (exact_c (addR (.mk k n s L) l).ball (addR (.mk k n s L) l).ball) ?_
    simp [s1, s2, s5, s6]
    trace_state
end Go.T1
end

section
open Go Go.Ab Go.Proofs
namespace Go.T1
def varsI (s : ByteArray) (k : Nat) (m : Nat) (σ : Slots) (st : St) : Prop := ∃ (i g : Nat) (al : Bool), m = k - i ∧ i ≤ k ∧ σ 0 = .sc (.string s) ∧ σ 1 = .sc (.int .i64 k) ∧ σ 7 = .sc (.int .i64 i) ∧ σ 6 = .own 0 g ∧ st = [.row 24 g al (Tm.cellsL 24 (varsN i))]
theorem varsN_size : ∀ l : List Int, Tm.sizeL (l.map Tm.var) = l.length
  | [] => rfl
  | x :: l => by have := varsN_size l; simp only [List.map_cons, List.length_cons, Tm.sizeL, this, Tm.var, Tm.size]; omega
theorem isPerm_iff {t : Tm} (h : isPerm t = true) : ∃ k n s a b c, t = .mk k n s [.mk a b ⟨#[112, 101, 114, 109]⟩ c] := by
  obtain ⟨k, n, s, l⟩ := t
  match l, h with
  | [], h => simp [isPerm] at h
  | [.mk a b s' c], h => exact ⟨k, n, s, a, b, c, by simp only [isPerm, decide_eq_true_eq] at h; rw [h]⟩
  | _ :: _ :: _, h => simp [isPerm] at h
set_option maxRecDepth 100000 in
theorem ClauseBuiltin_c (s : ByteArray) (n : Int) : PureCall T Try.prog 7 [.sc (.string s), .sc (.int .i64 n)] (.sc (.bool true)) := by
  refine PureCall.of_vc hT [] [(13, 2)] follows Try.call7 Try.func7 rfl (drawsOk_of3 (by kernel_rfl)) (by simp [AV.pure, AV.pureL]) (by simp [AV.pure]) ?_
  unfold Try.f7
  simp [cond_t, cond_f]
  refine ⟨fun h => vcCall_at lives_c (by simp), fun h => ?_⟩
  refine vcCall_at (Builtin_c s n) ?_
  simp
  refine vcCall_at lives_c ?_
  simp
  refine vcCall_at (rBuiltin_c s n) ?_
  simp
  by_cases hb : builtB s n = true
  case neg =>
    have hb : builtB s n = false := by simpa using hb
    simp [hb]
  by_cases hn : 16 < n
  · have : ¬ n ≤ 16 := by omega
    simp [hb, hn, this]
  by_cases hs : s = ⟨#[58, 45]⟩
  · simp [hb, hn, hs]
  simp [hb, hn, hs]
  intro _
  obtain ⟨k, rfl, hmem⟩ := built_mem hb
  have hk : k ≤ 16 := by omega
  have hp := List.all_eq_true.1 built_perm _ hmem
  unfold permOk at hp
  simp [hs] at hp
  refine vcC_loop [(24, .slot 6)] (varsI s k) k ?_ ?_
  · simp
    exact ⟨0, 0, false, by simp [varsN, Tm.cellsL, iota]⟩
  rintro m σ st ⟨i, g, al, rfl, hi, s0, s1, s7, s6, rfl⟩
  rcases Nat.lt_or_ge i k with hlt | hge
  · simp [s0, s1, s6, s7, hlt]
    refine vcCall_at (rVar_c i) ?_
    simp [s0, s1, s6, s7, hlt]
    refine ⟨by simp [varsN]; omega, by unfold i64ok; omega, k - (i + 1), by omega, i + 1, g + 1, true, rfl, by omega, by simp [s0], by simp [s1], by simp, by simp, ?_⟩
    simp [varsN, Tm.cellsL_map, iota, List.range_succ, Tm.var]
  · have hie : i = k := by omega
    subst hie
    simp [s0, s1, s6, s7]
    have hcp : compP s (varsN i) = compT s (varsN i) := by unfold compP compT; cases varsN i <;> rfl
    rw [hcp] at hp
    have hsm : (Tm.mk 4 0 s (varsN i)).small := by
      have := varsN_size (iota i)
      unfold Tm.small
      simp only [Tm.size, varsN, this, iota_len]; omega
    refine vcICall_of (ICall.freeze (pre := [.sc (.string s)]) (post := []) rfl (ICall.of_pure (rComp_c s (varsN i)) _)) ?_
    rintro r st' ⟨rfl, rfl⟩ _
    simp [s0, s1, s6, s7]
    refine vcCall_at (From_c _ (compT_small hsm)) ?_
    obtain ⟨hp1, hp2⟩ := hp
    obtain ⟨a, b, c, d, e, f, hp2⟩ := isPerm_iff hp2
    simp [fromA, hp1, hp2, s0, s1, s6, s7, Tm.cells, Tm.cellsL]
end Go.T1
end
