/- What the five statements of chapter 13 hand back: true, at every term, name and number. -/
import Derived.Test.YtplnilpdfnbdpaaW4
set_option linter.unusedSimpArgs false
set_option linter.unusedVariables false
set_option linter.unusedSectionVars false
set_option linter.unnecessarySimpa false
section
open Go Go.Ab Go.Proofs
namespace Go.T1
def m0 : Tm := .mk 4 0 ⟨#[109, 111, 100]⟩ [Tm.mk 2 (-7) ⟨#[]⟩ [], Tm.mk 2 2 ⟨#[]⟩ []]
def d0 : Tm := .mk 4 0 ⟨#[47, 47]⟩ [Tm.mk 2 1 ⟨#[]⟩ [], Tm.mk 2 0 ⟨#[]⟩ []]
def a0 : Tm := .mk 3 0 ⟨#[97]⟩ []
def b0 : Tm := .mk 4 0 ⟨#[47]⟩ [Tm.mk 3 0 ⟨#[97]⟩ [], Tm.mk 2 0 ⟨#[]⟩ []]
theorem m0_small : m0.small := by simp [m0, Tm.small, Tm.size, Tm.sizeL]
theorem d0_small : d0.small := by simp [d0, Tm.small, Tm.size, Tm.sizeL]
theorem a0_small : a0.small := by simp [a0, Tm.small, Tm.size, Tm.sizeL]
theorem i_small (n : Int) : (Tm.mk 2 n ⟨#[]⟩ []).small := by simp [Tm.small, Tm.size, Tm.sizeL]
theorem m0_eval : evalR m0 = ⟨1, Tm.zero, false⟩ := by decide +kernel
theorem d0_eval : evalR d0 = ⟨0, noughtT, true⟩ := by decide +kernel
theorem a0_eval : evalR a0 = ⟨0, typeT ⟨#[101, 118, 97, 108, 117, 97, 98, 108, 101]⟩ b0, true⟩ := by decide +kernel
theorem cmp_eval : cmpA ⟨#[60]⟩ (Tm.mk 2 1 ⟨#[]⟩ []) (Tm.mk 2 2 ⟨#[]⟩ []) = (true, Tm.zero, true) := by decide +kernel

set_option maxRecDepth 100000 in
theorem lives_c : PureCall T Try.prog 9 [] (.sc (.bool true)) := by
  refine PureCall.of_vc hT [] [] follows Try.call9 Try.func9 rfl (drawsOk_of3 (by kernel_rfl)) (by simp [AV.pure, AV.pureL]) (by simp [AV.pure]) ?_
  unfold Try.f9
  simp
  refine vcCall_at (rInt_c _) ?_
  simp
  refine vcCall_at (rInt_c _) ?_
  simp
  refine ⟨rfl, vcCall_at (rComp_c _ [Tm.mk 2 (-7) ⟨#[]⟩ [], Tm.mk 2 2 ⟨#[]⟩ []]) ?_⟩
  rw [show compT ⟨#[109, 111, 100]⟩ [Tm.mk 2 (-7) ⟨#[]⟩ [], Tm.mk 2 2 ⟨#[]⟩ []] = m0 from rfl]
  simp
  refine vcCall_at (Eval_c m0 m0_small) ?_
  rw [m0_eval]
  simp
  refine vcCall_at (rInt_c _) ?_
  simp
  refine vcCall_at (rInt_c _) ?_
  simp
  refine ⟨rfl, vcCall_at (rComp_c _ [Tm.mk 2 1 ⟨#[]⟩ [], Tm.mk 2 0 ⟨#[]⟩ []]) ?_⟩
  rw [show compT ⟨#[47, 47]⟩ [Tm.mk 2 1 ⟨#[]⟩ [], Tm.mk 2 0 ⟨#[]⟩ []] = d0 from rfl]
  simp
  refine vcCall_at (Eval_c d0 d0_small) ?_
  rw [d0_eval]
  simp
  refine vcCall_at (rAtom_c _) ?_
  rw [show Tm.mk 3 0 ⟨#[97]⟩ [] = a0 from rfl]
  simp
  refine vcCall_at (Eval_c a0 a0_small) ?_
  rw [a0_eval]
  simp
  refine vcCall_at (rInt_c _) ?_
  simp
  refine vcCall_at (rInt_c _) ?_
  simp
  refine vcCall_at (Compare_c _ _ _ (i_small 1) (i_small 2)) ?_
  rw [cmp_eval]
  simp
  refine vcCall_at (rAtom_c _) ?_
  simp only [putKg]
  refine vcLex_step fun K hK => ?_; simp []; intros; refine hK _ _ ?_; clear hK
  refine vcLex_step fun K hK => ?_; simp []; refine vcCall_at (rComp_c _ [Tm.mk 3 0 ⟨#[122, 101, 114, 111]⟩ []]) ?_; simp []; refine hK _ _ ?_; clear hK
  refine vcLex_step fun K hK => ?_; simp []; refine vcCall_at (rErr_c (Tm.mk 4 0 ⟨#[101, 118, 97, 108]⟩ [atomT ⟨#[122, 101, 114, 111]⟩])) ?_; simp []; refine hK _ _ ?_; clear hK
  refine vcLex_step fun K hK => ?_; simp []; refine vcCall_at (exact_c noughtT noughtT) ?_; simp []; refine hK _ _ ?_; clear hK
  refine vcLex_step fun K hK => ?_; simp []; intros; refine hK _ _ ?_; clear hK
  refine vcLex_step fun K hK => ?_; simp []; intros; refine hK _ _ ?_; clear hK
  refine vcLex_step fun K hK => ?_; simp []; intros; refine hK _ _ ?_; clear hK
  refine vcLex_step fun K hK => ?_; simp []; intros; refine hK _ _ ?_; clear hK
  refine vcLex_step fun K hK => ?_; simp []; intros; refine hK _ _ ?_; clear hK
  refine vcLex_step fun K hK => ?_; simp []; intros; refine hK _ _ ?_; clear hK
  refine vcLex_step fun K hK => ?_; simp []; intros; refine hK _ _ ?_; clear hK
  refine vcLex_step fun K hK => ?_; simp []; refine vcCall_at (rAtom_c _) ?_; simp []; refine hK _ _ ?_; clear hK
  refine vcLex_step fun K hK => ?_; simp []; intros; refine hK _ _ ?_; clear hK
  refine vcLex_step fun K hK => ?_; simp []; refine vcCall_at (rInt_c 0) ?_; simp []; refine hK _ _ ?_; clear hK
  refine vcLex_step fun K hK => ?_; simp []; refine ⟨rfl, hK _ _ ?_⟩; clear hK
  refine vcLex_step fun K hK => ?_; simp []; refine vcCall_at (rComp_c _ [Tm.mk 3 0 ⟨#[97]⟩ [], Tm.mk 2 0 ⟨#[]⟩ []]) ?_; simp []; refine hK _ _ ?_; clear hK
  refine vcLex_step fun K hK => ?_; simp []; refine vcCall_at (rType_c _ b0) ?_; simp []; refine hK _ _ ?_; clear hK
  refine vcLex_step fun K hK => ?_; simp []; refine vcCall_at (exact_c (typeT ⟨#[101, 118, 97, 108, 117, 97, 98, 108, 101]⟩ b0) (typeT ⟨#[101, 118, 97, 108, 117, 97, 98, 108, 101]⟩ b0)) ?_; simp []; refine hK _ _ ?_; clear hK
  refine vcLex_step fun K hK => ?_; simp []; intros; refine hK _ _ ?_; clear hK
  refine vcLex_step fun K hK => ?_; simp []; intros; refine hK _ _ ?_; clear hK
  refine vcLex_step fun K hK => ?_; simp []; intros; refine hK _ _ ?_; clear hK
  refine vcLex_step fun K hK => ?_; simp []; intros; refine hK _ _ ?_; clear hK
  refine vcLex_step fun K hK => ?_; simp []; intros; refine hK _ _ ?_; clear hK
  refine vcLex_step fun K hK => ?_; simp []; intros; refine hK _ _ ?_; clear hK
  refine vcLex_step fun K hK => ?_; simp []; intros; refine hK _ _ ?_; clear hK
  refine vcLex_step fun K hK => ?_; simp []; intros; refine hK _ _ ?_; clear hK
  refine vcLex_step fun K hK => ?_; simp []; refine vcCall_of (error0_c) (by simp [leV.leL, leV]) ?_; simp []; refine hK _ _ ?_; clear hK
  refine vcLex_step fun K hK => ?_; simp []; refine vcCall_at (rInst_c) ?_; simp []; refine hK _ _ ?_; clear hK
  refine vcLex_step fun K hK => ?_; simp []; refine vcCall_at (exact_c instT instT) ?_; simp []; refine hK _ _ ?_; clear hK
  refine vcLex_step fun K hK => ?_; simp []; intros; refine hK _ _ ?_; clear hK
  refine vcLex_step fun K hK => ?_; simp []; intros; refine hK _ _ ?_; clear hK
  simp

end Go.T1
end

section
open Go Go.Ab Go.Proofs
namespace Go.T1
theorem error2_c (t : Tm) : PureCall T Try.prog 19 [.lst 24 [t.cells 24, t.cells 24]] (instT.av 24) := by
  refine PureCall.of_vc hT [] [] follows Try.call19 Try.func19 rfl (by kernel_rfl) (by simp [AV.pure, AV.pureL, AV.pureM]) (by simp [AV.pure]) ?_
  unfold Try.f19
  simp
  refine vcCall_at (Atom_c _) ?_
  simp
  refine vcCall_at (Comp_c _ [Tm.mk 3 0 ⟨#[105, 110, 115, 116]⟩ []]) ?_
  simp [compT, instT, errT, atomT]
set_option maxRecDepth 100000 in
theorem ArithEvals_c (t : Tm) (hn : t.nice) : PureCall T Try.prog 3 [t.av 24] (.sc (.bool true)) := by
  refine PureCall.of_vc hT [] [] follows Try.call3 Try.func3 rfl (drawsOk_of3 (by kernel_rfl)) (by simp [AV.pure, AV.pureL]) (by simp [AV.pure]) ?_
  unfold Try.f3
  simp
  refine vcCall_at (Large_c t hn) ?_
  simp
  refine ⟨fun h => vcCall_at lives_c (by simp), fun h => ?_⟩
  have hs := Tm.large_small h
  refine vcCall_at (Eval_c t hs) ?_
  simp
  refine vcCall_at (rEval_c t hs) ?_
  unfold resT
  simp
  refine vcCall_at lives_c ?_
  simp
  refine vcCall_at (exact_c (evalR t).ball (evalR t).ball) ?_
  simp
set_option maxRecDepth 100000 in
theorem ArithBalls_c (s : ByteArray) (t : Tm) (hn : t.nice) : PureCall T Try.prog 6 [.sc (.string s), t.av 24] (.sc (.bool true)) := by
  refine PureCall.of_vc hT [] [] follows Try.call6 Try.func6 rfl (drawsOk_of3 (by kernel_rfl)) (by simp [AV.pure, AV.pureL]) (by simp [AV.pure]) ?_
  unfold Try.f6
  simp
  refine vcCall_at (Large_c t hn) ?_
  simp
  refine ⟨fun h => vcCall_at lives_c (by simp), fun h _ => ?_⟩
  have hs := Tm.large_small h

  refine vcCall_at lives_c ?_
  simp only [putK]
  refine vcLex_step fun K hK => ?_; simp []; intros; refine hK _ _ ?_; clear hK
  refine vcLex_step fun K hK => ?_; simp []; intros; refine hK _ _ ?_; clear hK
  refine vcLex_step fun K hK => ?_; simp []; intros; refine hK _ _ ?_; clear hK
  refine vcLex_step fun K hK => ?_; simp []; refine vcCall_at (error1_c t) ?_; simp []; refine hK _ _ ?_; clear hK
  refine vcLex_step fun K hK => ?_; simp []; intros; refine hK _ _ ?_; clear hK
  refine vcLex_step fun K hK => ?_; simp []; refine vcCall_at (rErr_c t) ?_; simp []; refine hK _ _ ?_; clear hK
  refine vcLex_step fun K hK => ?_; simp []; refine vcCall_at (exact_c (errT t) (errT t)) ?_; simp []; refine hK _ _ ?_; clear hK
  refine vcLex_step fun K hK => ?_; simp []; intros; refine hK _ _ ?_; clear hK
  refine vcLex_step fun K hK => ?_; simp []; intros; refine hK _ _ ?_; clear hK
  refine vcLex_step fun K hK => ?_; simp []; intros; refine hK _ _ ?_; clear hK
  refine vcLex_step fun K hK => ?_; simp []; intros; refine hK _ _ ?_; clear hK
  refine vcLex_step fun K hK => ?_; simp []; refine ⟨rfl, hK _ _ ?_⟩; clear hK
  refine vcLex_step fun K hK => ?_; simp []; refine vcCall_at (error2_c t) ?_; simp []; refine hK _ _ ?_; clear hK
  refine vcLex_step fun K hK => ?_; simp []; refine vcCall_at (rInst_c) ?_; simp []; refine hK _ _ ?_; clear hK
  refine vcLex_step fun K hK => ?_; simp []; refine vcCall_at (exact_c instT instT) ?_; simp []; refine hK _ _ ?_; clear hK
  refine vcLex_step fun K hK => ?_; simp []; intros; refine hK _ _ ?_; clear hK
  refine vcLex_step fun K hK => ?_; simp []; intros; refine hK _ _ ?_; clear hK
  refine vcLex_step fun K hK => ?_; simp []; intros; refine hK _ _ ?_; clear hK
  refine vcLex_step fun K hK => ?_; simp []; intros; refine hK _ _ ?_; clear hK
  refine vcLex_step fun K hK => ?_; simp []; refine vcCall_at (type_c s t) ?_; simp []; refine hK _ _ ?_; clear hK
  refine vcLex_step fun K hK => ?_; simp []; intros; refine hK _ _ ?_; clear hK
  refine vcLex_step fun K hK => ?_; simp []; intros; refine hK _ _ ?_; clear hK
  refine vcLex_step fun K hK => ?_; simp []; refine vcCall_at (rType_c s t) ?_; simp []; refine hK _ _ ?_; clear hK
  refine vcLex_step fun K hK => ?_; simp []; refine vcCall_at (exact_c (typeT s t) (typeT s t)) ?_; simp []; refine hK _ _ ?_; clear hK
  refine vcLex_step fun K hK => ?_; simp []; intros; refine hK _ _ ?_; clear hK
  refine vcLex_step fun K hK => ?_; simp []; intros; refine hK _ _ ?_; clear hK
  refine vcLex_step fun K hK => ?_; simp []; intros; refine hK _ _ ?_; clear hK
  refine vcLex_step fun K hK => ?_; simp []; refine vcCall_at (ind_c t hs) ?_; simp []; refine hK _ _ ?_; clear hK
  refine vcLex_step fun K hK => ?_; simp []; intros; refine hK _ _ ?_; clear hK
  refine vcLex_step fun K hK => ?_; simp []; refine vcCall_at (rInd_c t hs) ?_; simp []; refine hK _ _ ?_; clear hK
  refine vcLex_step fun K hK => ?_; simp []; refine vcCall_at (exact_c (indT t) (indT t)) ?_; simp []; refine hK _ _ ?_; clear hK
  refine vcLex_step fun K hK => ?_; simp []; intros; refine hK _ _ ?_; clear hK
  refine vcLex_step fun K hK => ?_; simp []; intros; refine hK _ _ ?_; clear hK
  simp
set_option maxRecDepth 100000 in
theorem ArithCompares_c (op : ByteArray) (a b : Tm) (ha : a.nice) (hb : b.nice) : PureCall T Try.prog 4 [.sc (.string op), a.av 24, b.av 24] (.sc (.bool true)) := by
  refine PureCall.of_vc hT [] [] follows Try.call4 Try.func4 rfl (drawsOk_of3 (by kernel_rfl)) (by simp [AV.pure, AV.pureL]) (by simp [AV.pure]) ?_
  unfold Try.f4
  simp
  refine vcCall_at (Large_c a ha) ?_
  simp
  refine vcCall_at (Large_c b hb) ?_
  simp
  refine ⟨fun h => vcCall_at lives_c (by simp), fun h1 h2 h3 => ?_⟩
  have hsa := Tm.large_small h1
  have hsb := Tm.large_small h2
  by_cases c1 : cmpB op = false
  · have e : cmpA op a b = (false, Tm.zero, true) := by unfold cmpA; rw [if_pos c1]
    refine vcCall_at (Compare_c op a b hsa hsb) ?_
    rw [e]
    simp
    refine vcCall_at lives_c ?_
    simp
    refine vcCall_at (rCmp_c op) ?_
    simp [c1, Tm.zero, Tm.cells]
  by_cases c2 : (evalR a).bad = true
  · have e : cmpA op a b = (false, (evalR a).ball, false) := by unfold cmpA; rw [if_neg c1, if_pos c2]
    refine vcCall_at (Compare_c op a b hsa hsb) ?_
    rw [e]
    simp
    refine vcCall_at lives_c ?_
    simp
    refine vcCall_at (rCmp_c op) ?_
    simp [c1]
    refine vcCall_at (rEval_c a hsa) ?_
    unfold resT
    simp [c2]
    refine vcCall_at (exact_c (evalR a).ball (evalR a).ball) ?_
    simp
  by_cases c3 : (evalR b).bad = true
  · have e : cmpA op a b = (false, (evalR b).ball, false) := by unfold cmpA; rw [if_neg c1, if_neg c2, if_pos c3]
    refine vcCall_at (Compare_c op a b hsa hsb) ?_
    rw [e]
    simp
    refine vcCall_at lives_c ?_
    simp
    refine vcCall_at (rCmp_c op) ?_
    simp [c1]
    refine vcCall_at (rEval_c a hsa) ?_
    unfold resT
    simp [c2]
    refine vcCall_at (rEval_c b hsb) ?_
    unfold resT
    simp [c3]
    refine vcCall_at (exact_c (evalR b).ball (evalR b).ball) ?_
    simp
  · have e : cmpA op a b = (cmpI op ((evalR a).n - (evalR b).n), Tm.zero, true) := by unfold cmpA; rw [if_neg c1, if_neg c2, if_neg c3]
    refine vcCall_at (Compare_c op a b hsa hsb) ?_
    rw [e]
    simp
    refine vcCall_at lives_c ?_
    simp
    refine vcCall_at (rCmp_c op) ?_
    simp [c1]
    refine vcCall_at (rEval_c a hsa) ?_
    unfold resT
    simp [c2]
    refine vcCall_at (rEval_c b hsb) ?_
    unfold resT
    simp [c3, Tm.zero, Tm.cells]
    refine vcCall_at (rHolds_c op _ _) ?_
    simp
end Go.T1
end

section
open Go Go.Ab Go.Proofs
namespace Go.T1
theorem int_check {n : Int} : (Tm.mk 2 n ⟨#[]⟩ []).check = 0 ↔ -9007199254740991 ≤ n ∧ n ≤ 9007199254740991 := by
  rw [check_iff]
  simp [Tm.right, Tm.rightL, partB, Tm.depth, Tm.depthL, Tm.size, Tm.sizeL]
def opT (s : ByteArray) (l : List Tm) : Tm := .mk 4 0 s l
theorem two_small (s : ByteArray) (a b : Int) : (opT s [Tm.mk 2 a ⟨#[]⟩ [], Tm.mk 2 b ⟨#[]⟩ []]).small := by simp [opT, Tm.small, Tm.size, Tm.sizeL]
theorem eval_two {s : ByteArray} {a b : Int} (hs : (s.size : Int) ≤ 64) (hk : knownB s 2 = true) (ha : -9007199254740991 ≤ a) (ha2 : a ≤ 9007199254740991) (hb : -9007199254740991 ≤ b) (hb2 : b ≤ 9007199254740991) :
    evalR (opT s [Tm.mk 2 a ⟨#[]⟩ [], Tm.mk 2 b ⟨#[]⟩ []]) = twoR s a b := by
  have hc : (opT s [Tm.mk 2 a ⟨#[]⟩ [], Tm.mk 2 b ⟨#[]⟩ []]).check = 0 := by
    rw [check_iff]
    simp [opT, Tm.right, Tm.rightL, partB, Tm.depth, Tm.depthL, Tm.size, Tm.sizeL, hs, ha, ha2, hb, hb2]
  unfold evalR
  rw [if_pos hc]
  simp [opT, Tm.reck, Tm.reckL, hk, numR_in ha ha2, numR_in hb hb2]
theorem ev_c {t : Tm} {r : Res} (ht : t.small) (h : evalR t = r) : PureCall T Try.prog 10 [t.av 24] (.tup [.sc (.int .i64 r.n), r.ball.av 24, .sc (.bool !r.bad)]) := by
  have := Eval_c t ht
  rw [h] at this
  exact this
theorem tmod_pos {a b : Int} (h : 0 ≤ a) : 0 ≤ a.tmod b := Int.tmod_nonneg b h
theorem tmod_neg {a b : Int} (h : a ≤ 0) : a.tmod b ≤ 0 := by
  have h1 := Int.tmod_nonneg b (by omega : 0 ≤ -a)
  rw [Int.neg_tmod] at h1
  omega
set_option maxRecDepth 100000 in
theorem ArithParts_c (a b : Int) : PureCall T Try.prog 5 [.sc (.int .i64 a), .sc (.int .i64 b)] (.sc (.bool true)) := by
  refine PureCall.of_vc hT [] [] follows Try.call5 Try.func5 rfl (drawsOk_of3 (by kernel_rfl)) (by simp [AV.pure, AV.pureL]) (by simp [AV.pure]) ?_
  unfold Try.f5
  simp
  refine vcCall_at (rInt_c a) ?_
  simp
  refine vcCall_at (rInt_c b) ?_
  simp
  refine vcCall_at (rCheck_c _ (i_small a)) ?_
  simp
  refine vcCall_at (rCheck_c _ (i_small b)) ?_
  simp [int_check]
  refine ⟨fun h => vcCall_at lives_c (by simp), fun h1 h2 h3 h4 h5 => ?_⟩
  have hm := tmod_abs a b h5
  have hd := tdiv_abs a b
  have hmo : -9007199254740991 ≤ moduloI a b ∧ moduloI a b ≤ 9007199254740991 := by unfold moduloI; split <;> omega
  have e1 : evalR (opT ⟨#[47, 47]⟩ [Tm.mk 2 a ⟨#[]⟩ [], Tm.mk 2 b ⟨#[]⟩ []]) = ⟨Int.tdiv a b, Tm.zero, false⟩ := by
    rw [eval_two (by decide) (by decide) h1 h2 h3 h4]
    simp [twoR, divideR, h5, numR_in (n := Int.tdiv a b) (by omega) (by omega)]
  have e2 : evalR (opT ⟨#[114, 101, 109]⟩ [Tm.mk 2 a ⟨#[]⟩ [], Tm.mk 2 b ⟨#[]⟩ []]) = ⟨Int.tmod a b, Tm.zero, false⟩ := by
    rw [eval_two (by decide) (by decide) h1 h2 h3 h4]
    simp [twoR, divideR, h5, numR_in (n := Int.tmod a b) (by omega) (by omega)]
  have e3 : evalR (opT ⟨#[109, 111, 100]⟩ [Tm.mk 2 a ⟨#[]⟩ [], Tm.mk 2 b ⟨#[]⟩ []]) = ⟨moduloI a b, Tm.zero, false⟩ := by
    rw [eval_two (by decide) (by decide) h1 h2 h3 h4]
    simp [twoR, divideR, h5, numR_in hmo.1 hmo.2]
  refine ⟨rfl, vcCall_at (rComp_c _ [Tm.mk 2 a ⟨#[]⟩ [], Tm.mk 2 b ⟨#[]⟩ []]) ?_⟩
  simp [compT]
  refine vcCall_at (ev_c (t := Tm.mk 4 0 _ [Tm.mk 2 a ⟨#[]⟩ [], Tm.mk 2 b ⟨#[]⟩ []]) (two_small _ a b) e1) ?_
  simp
  refine ⟨rfl, vcCall_at (rComp_c _ [Tm.mk 2 a ⟨#[]⟩ [], Tm.mk 2 b ⟨#[]⟩ []]) ?_⟩
  simp [compT]
  refine vcCall_at (ev_c (t := Tm.mk 4 0 _ [Tm.mk 2 a ⟨#[]⟩ [], Tm.mk 2 b ⟨#[]⟩ []]) (two_small _ a b) e2) ?_
  simp
  refine ⟨rfl, vcCall_at (rComp_c _ [Tm.mk 2 a ⟨#[]⟩ [], Tm.mk 2 b ⟨#[]⟩ []]) ?_⟩
  simp [compT]
  refine vcCall_at (ev_c (t := Tm.mk 4 0 _ [Tm.mk 2 a ⟨#[]⟩ [], Tm.mk 2 b ⟨#[]⟩ []]) (two_small _ a b) e3) ?_
  simp
  refine vcCall_at lives_c ?_
  simp
  have hq := Int.tdiv_mul_add_tmod a b
  have hp := @tmod_pos a b
  have hn := @tmod_neg a b
  have hmd : (Int.tmod a b ≠ 0 ∧ ¬ (Int.tmod a b < 0 ↔ b < 0) → moduloI a b = Int.tmod a b + b) ∧ (¬ (Int.tmod a b ≠ 0 ∧ ¬ (Int.tmod a b < 0 ↔ b < 0)) → moduloI a b = Int.tmod a b) := ⟨fun h => if_pos h, fun h => if_neg h⟩
  clear e1 e2 e3
  generalize Int.tdiv a b * b = z at *
  generalize Int.tmod a b = n at *
  generalize moduloI a b = m at *
  have k1 : m = 0 ∨ (m < 0 ↔ b < 0) := by omega
  have k2 : m - n = 0 ∨ m - n = b := by omega
  have k3 : n = 0 ∨ (n < 0 ↔ a < 0) := by omega
  have i1 : i64ok z := by unfold i64ok; omega
  have i2 : i64ok a := by unfold i64ok; omega
  have i3 : i64ok (m - n) := by unfold i64ok; omega
  simp [i1, i2, i3, hq, k1]
  exact ⟨fun h => ⟨h, fun g => ⟨h, g⟩⟩, k2, k3⟩
end Go.T1
end

section
open Go Go.Ab Go.Proofs
namespace Go.T1
theorem timesR_eq (a b : Int) : timesR a b = numR (a * b) := by
  unfold timesR
  split
  · rename_i h
    obtain ⟨h0, h⟩ := h
    rw [absI_eq, absI_eq] at h
    have e : Int.tdiv 9007199254740991 (a.natAbs : Int) = ((9007199254740991 / a.natAbs : Nat) : Int) := by rw [Int.ofNat_tdiv]; rfl
    rw [e] at h
    have h2 : 9007199254740991 / a.natAbs < b.natAbs := by omega
    have h3 := (Nat.div_lt_iff_lt_mul (by omega : 0 < a.natAbs)).1 h2
    have h4 : (a * b).natAbs = a.natAbs * b.natAbs := Int.natAbs_mul a b
    rw [Nat.mul_comm] at h3
    rw [← h4] at h3
    unfold numR
    rw [if_pos (by omega)]
  · rfl
@[simp] theorem ty45 : T 45 = some ⟨1, 24, .slice 9, [], some (.slice none 0 0)⟩ := by kernel_rfl
def ops4 : List ByteArray := [⟨#[43]⟩, ⟨#[42]⟩, ⟨#[109, 105, 110]⟩, ⟨#[109, 97, 120]⟩]
theorem ops4_fit {s : ByteArray} (h : s ∈ ops4) : (s.size : Int) ≤ 64 ∧ knownB s 2 = true := by
  simp only [ops4, List.mem_cons, List.not_mem_nil, or_false] at h
  rcases h with rfl | rfl | rfl | rfl <;> exact ⟨by decide, by decide⟩
theorem ops4_comm {s : ByteArray} (h : s ∈ ops4) (a b : Int) : twoR s a b = twoR s b a := by
  simp only [ops4, List.mem_cons, List.not_mem_nil, or_false] at h
  rcases h with rfl | rfl | rfl | rfl
  · simp [twoR, Int.add_comm]
  · simp [twoR, timesR_eq, Int.mul_comm]
  · simp [twoR, Int.min_comm]
  · simp [twoR, Int.max_comm]
theorem sign_abs (a : Int) : signI a * absI a = a := by
  unfold signI absI
  split
  · rw [Int.max_eq_right (by omega)]; omega
  split
  · rw [Int.max_eq_left (by omega)]; omega
  · omega
section
variable {a : Int} (ha : -9007199254740991 ≤ a) (ha2 : a ≤ 9007199254740991)
def xT (a : Int) : Tm := Tm.mk 2 a ⟨#[]⟩ []
def signT (a : Int) : Tm := Tm.mk 4 0 ⟨#[115, 105, 103, 110]⟩ [xT a]
def absT (a : Int) : Tm := Tm.mk 4 0 ⟨#[97, 98, 115]⟩ [xT a]
def negT (a : Int) : Tm := Tm.mk 4 0 ⟨#[45]⟩ [xT a]
def prodT (a : Int) : Tm := Tm.mk 4 0 ⟨#[42]⟩ [signT a, absT a]
def nneT (a : Int) : Tm := Tm.mk 4 0 ⟨#[45]⟩ [negT a]
theorem prod_small : (prodT a).small := by simp [prodT, signT, absT, xT, Tm.small, Tm.size, Tm.sizeL]
theorem nne_small : (nneT a).small := by simp [nneT, negT, xT, Tm.small, Tm.size, Tm.sizeL]
include ha ha2
theorem x_reck : (xT a).reck = ⟨a, Tm.zero, false⟩ := by simp [xT, Tm.reck, numR_in ha ha2]
theorem prod_eval : evalR (prodT a) = ⟨a, Tm.zero, false⟩ := by
  have hc : (prodT a).check = 0 := by
    rw [check_iff]
    simp [prodT, signT, absT, xT, Tm.right, Tm.rightL, partB, Tm.depth, Tm.depthL, Tm.size, Tm.sizeL, ByteArray.size, ha, ha2]
  have h2 := numR_in (n := absI a) (by unfold absI; omega) (by unfold absI; omega)
  have h3 := numR_in (n := signI a) (by unfold signI; split; omega; split; omega; omega) (by unfold signI; split; omega; split; omega; omega)
  unfold evalR
  rw [if_pos hc]
  have e1 : (signT a).reck = ⟨signI a, Tm.zero, false⟩ := by
    simp [signT, Tm.reck, Tm.reckL, x_reck ha ha2, oneR, h3, knownB]
  have e2 : (absT a).reck = ⟨absI a, Tm.zero, false⟩ := by
    simp [absT, Tm.reck, Tm.reckL, x_reck ha ha2, oneR, h2, knownB]
  simp [prodT, Tm.reck, Tm.reckL, e1, e2, twoR, timesR_eq, sign_abs, numR_in ha ha2, knownB]
theorem nne_eval : evalR (nneT a) = ⟨a, Tm.zero, false⟩ := by
  have hc : (nneT a).check = 0 := by
    rw [check_iff]
    simp [nneT, negT, xT, Tm.right, Tm.rightL, partB, Tm.depth, Tm.depthL, Tm.size, Tm.sizeL, ByteArray.size, ha, ha2]
  have h2 := numR_in (n := -a) (by omega) (by omega)
  unfold evalR
  rw [if_pos hc]
  have e1 : (negT a).reck = ⟨-a, Tm.zero, false⟩ := by
    simp [negT, Tm.reck, Tm.reckL, x_reck ha ha2, oneR, h2, knownB]
  simp [nneT, Tm.reck, Tm.reckL, e1, oneR, numR_in ha ha2, knownB]
theorem sub_eval : evalR (opT ⟨#[45]⟩ [Tm.mk 2 a ⟨#[]⟩ [], Tm.mk 2 a ⟨#[]⟩ []]) = ⟨0, Tm.zero, false⟩ := by
  rw [eval_two (by decide) (by decide) ha ha2 ha ha2]
  simp [twoR, numR_in (n := 0) (by omega) (by omega)]
end
set_option maxRecDepth 100000 in
theorem ArithLaws_c (a b : Int) : PureCall T Try.prog 7 [.sc (.int .i64 a), .sc (.int .i64 b)] (.sc (.bool true)) := by
  refine PureCall.of_vc hT [] [(8, 13), (8, 15), (9, 13), (9, 15), (13, 13), (13, 15)] follows Try.call7 Try.func7 rfl (drawsOk_of3 (by kernel_rfl)) (by simp [AV.pure, AV.pureL]) (by simp [AV.pure]) ?_
  unfold Try.f7
  simp
  refine vcCall_at (rInt_c a) ?_
  simp
  refine vcCall_at (rInt_c b) ?_
  simp
  refine vcCall_at (rCheck_c _ (i_small a)) ?_
  simp
  refine vcCall_at (rCheck_c _ (i_small b)) ?_
  simp [int_check]
  refine ⟨fun h => vcCall_at lives_c (by simp), fun h1 h2 h3 h4 => ?_⟩
  refine ⟨rfl, vcC_loop [] (fun m σ st => ∃ (i : Nat) (X : St), m = 4 - i ∧ i ≤ 4 ∧ σ 0 = .sc (.int .i64 a) ∧ σ 5 = .ptr 0 0 ∧ σ 6 = .ptr 1 0 ∧ σ 7 = .lst 9 (ops4.map fun s => [.sc (.string s)]) ∧ σ 8 = .sc (.int .i64 i) ∧
    st = .cells ((Tm.mk 2 a ⟨#[]⟩ []).cells 24) :: .cells ((Tm.mk 2 b ⟨#[]⟩ []).cells 24) :: X) 4 ?_ ?_⟩
  · refine ⟨0, [], by simp, by simp, by simp, by simp, by simp, by simp [ops4], by simp, by simp⟩
  rintro m σ st ⟨i, X, rfl, hi, s0, s5, s6, s7, s8, rfl⟩
  rcases Nat.lt_or_ge i 4 with hlt | hge
  · have hl4 : ops4.length = 4 := rfl
    have hmem : ops4[i] ∈ ops4 := List.getElem_mem (by rw [hl4]; exact hlt)
    have hf := ops4_fit hmem
    have hcm := ops4_comm hmem a b
    have E1 := eval_two hf.1 hf.2 h1 h2 h3 h4
    have E2 := eval_two hf.1 hf.2 h3 h4 h1 h2
    have hi4 : (i : Int) < 4 := by omega
    obtain ⟨i2, rfl⟩ : ∃ i2, i2 = i := ⟨i, rfl⟩
    simp [s0, s5, s6, s7, s8, hlt, hl4, hi4]
    refine ⟨fun i r st' => if i = 13 then r = .ptr (X.length + 2) 0 ∧ st' = .cells ((Tm.mk 2 a ⟨#[]⟩ []).cells 24) :: .cells ((Tm.mk 2 b ⟨#[]⟩ []).cells 24) :: (X ++ [.cells [.sc (.int .i64 0), .sc (.int .i64 0), .sc (.string .empty), .nils]]) else st' = .cells ((Tm.mk 2 a ⟨#[]⟩ []).cells 24) :: .cells ((Tm.mk 2 b ⟨#[]⟩ []).cells 24) :: (X ++ [.cells ((twoR ops4[i2] a b).ball.cells 24)]), ?_⟩
    simp (decide := true) [s0, s5, s6, s7, s8, hlt, hl4, hi4, ap0, as0, compT]
    refine ⟨by simp (decide := true) [s0, s5, s6, s7, s8, hlt, hl4, hi4, ap0, as0, compT], ?_⟩; simp (decide := true) [s0, s5, s6, s7, s8, hlt, hl4, hi4, ap0, as0, compT]
    refine ⟨by simp (decide := true) [s0, s5, s6, s7, s8, hlt, hl4, hi4, ap0, as0, compT], ?_⟩; simp (decide := true) [s0, s5, s6, s7, s8, hlt, hl4, hi4, ap0, as0, compT]
    refine ⟨by simp (decide := true) [s0, s5, s6, s7, s8, hlt, hl4, hi4, ap0, as0, compT], ?_⟩; simp (decide := true) [s0, s5, s6, s7, s8, hlt, hl4, hi4, ap0, as0, compT]
    refine ⟨by simp (decide := true) [s0, s5, s6, s7, s8, hlt, hl4, hi4, ap0, as0, compT], ?_⟩; simp (decide := true) [s0, s5, s6, s7, s8, hlt, hl4, hi4, ap0, as0, compT]
    refine ⟨by simp (decide := true) [s0, s5, s6, s7, s8, hlt, hl4, hi4, ap0, as0, compT], ?_⟩; simp (decide := true) [s0, s5, s6, s7, s8, hlt, hl4, hi4, ap0, as0, compT]
    refine ⟨by simp (decide := true) [s0, s5, s6, s7, s8, hlt, hl4, hi4, ap0, as0, compT], ?_⟩; simp (decide := true) [s0, s5, s6, s7, s8, hlt, hl4, hi4, ap0, as0, compT]
    refine ⟨by simp (decide := true) [s0, s5, s6, s7, s8, hlt, hl4, hi4, ap0, as0, compT], ?_⟩; simp (decide := true) [s0, s5, s6, s7, s8, hlt, hl4, hi4, ap0, as0, compT]
    refine vcCall_at (rComp_c _ [(Tm.mk 2 a ⟨#[]⟩ []), (Tm.mk 2 b ⟨#[]⟩ [])]) ?_; simp (decide := true) [s0, s5, s6, s7, s8, hlt, hl4, hi4, ap0, as0, compT]
    refine ⟨by simp (decide := true) [s0, s5, s6, s7, s8, hlt, hl4, hi4, ap0, as0, compT]; (repeat' apply And.intro) <;> (refine vcCall_at (rComp_c _ [(Tm.mk 2 a ⟨#[]⟩ []), (Tm.mk 2 b ⟨#[]⟩ [])]) ?_; simp [s0, s5, s6, s7, s8, hlt, hl4, hi4, ap0, as0, compT]), ?_⟩; simp (decide := true) [s0, s5, s6, s7, s8, hlt, hl4, hi4, ap0, as0, compT]
    refine vcCall_at (ev_c (t := Tm.mk 4 0 _ [(Tm.mk 2 a ⟨#[]⟩ []), (Tm.mk 2 b ⟨#[]⟩ [])]) (two_small _ a b) E1) ?_; simp (decide := true) [s0, s5, s6, s7, s8, hlt, hl4, hi4, ap0, as0, compT]
    refine ⟨by simp (decide := true) [s0, s5, s6, s7, s8, hlt, hl4, hi4, ap0, as0, compT]; (repeat' apply And.intro) <;> (refine vcCall_at (ev_c (t := Tm.mk 4 0 _ [(Tm.mk 2 a ⟨#[]⟩ []), (Tm.mk 2 b ⟨#[]⟩ [])]) (two_small _ a b) E1) ?_; simp [s0, s5, s6, s7, s8, hlt, hl4, hi4, ap0, as0, compT]), ?_⟩; simp (decide := true) [s0, s5, s6, s7, s8, hlt, hl4, hi4, ap0, as0, compT]
    refine ⟨by simp (decide := true) [s0, s5, s6, s7, s8, hlt, hl4, hi4, ap0, as0, compT], ?_⟩; simp (decide := true) [s0, s5, s6, s7, s8, hlt, hl4, hi4, ap0, as0, compT]
    refine ⟨by simp (decide := true) [s0, s5, s6, s7, s8, hlt, hl4, hi4, ap0, as0, compT], ?_⟩; simp (decide := true) [s0, s5, s6, s7, s8, hlt, hl4, hi4, ap0, as0, compT]
    refine ⟨by simp (decide := true) [s0, s5, s6, s7, s8, hlt, hl4, hi4, ap0, as0, compT], ?_⟩; simp (decide := true) [s0, s5, s6, s7, s8, hlt, hl4, hi4, ap0, as0, compT]
    refine ⟨by simp (decide := true) [s0, s5, s6, s7, s8, hlt, hl4, hi4, ap0, as0, compT], ?_⟩; simp (decide := true) [s0, s5, s6, s7, s8, hlt, hl4, hi4, ap0, as0, compT]
    refine ⟨by simp, rfl, by simp [vcI, s0, s5, s6, s7, s8, hlt, hl4, hi4, ap0, as0, compT], ?_⟩
    simp (decide := true) [s0, s5, s6, s7, s8, hlt, hl4, hi4, ap0, as0, compT]; try intro _
    try simp (decide := true) [s0, s5, s6, s7, s8, hlt, hl4, hi4, ap0, as0, compT]
    refine ⟨by simp (decide := true) [s0, s5, s6, s7, s8, hlt, hl4, hi4, ap0, as0, compT], ?_⟩; simp (decide := true) [s0, s5, s6, s7, s8, hlt, hl4, hi4, ap0, as0, compT]
    refine ⟨by simp, rfl, by simp [vcI, s0, s5, s6, s7, s8, hlt, hl4, hi4, ap0, as0, compT], ?_⟩
    simp (decide := true) [s0, s5, s6, s7, s8, hlt, hl4, hi4, ap0, as0, compT]; try intro _
    try simp (decide := true) [s0, s5, s6, s7, s8, hlt, hl4, hi4, ap0, as0, compT]
    refine ⟨by simp (decide := true) [s0, s5, s6, s7, s8, hlt, hl4, hi4, ap0, as0, compT], ?_⟩; simp (decide := true) [s0, s5, s6, s7, s8, hlt, hl4, hi4, ap0, as0, compT]
    refine ⟨fun i r st' => if i = 13 then r = .ptr (X.length + 1 + 2) 0 ∧ st' = .cells ((Tm.mk 2 a ⟨#[]⟩ []).cells 24) :: .cells ((Tm.mk 2 b ⟨#[]⟩ []).cells 24) :: (X ++ [.cells ((twoR ops4[i2] a b).ball.cells 24), .cells [.sc (.int .i64 0), .sc (.int .i64 0), .sc (.string .empty), .nils]]) else st' = .cells ((Tm.mk 2 a ⟨#[]⟩ []).cells 24) :: .cells ((Tm.mk 2 b ⟨#[]⟩ []).cells 24) :: (X ++ [.cells ((twoR ops4[i2] a b).ball.cells 24), .cells ((twoR ops4[i2] b a).ball.cells 24)]), ?_⟩
    simp (decide := true) [s0, s5, s6, s7, s8, hlt, hl4, hi4, ap0, as0, compT]
    refine ⟨by simp (decide := true) [s0, s5, s6, s7, s8, hlt, hl4, hi4, ap0, as0, compT], ?_⟩; simp (decide := true) [s0, s5, s6, s7, s8, hlt, hl4, hi4, ap0, as0, compT]
    refine ⟨by simp (decide := true) [s0, s5, s6, s7, s8, hlt, hl4, hi4, ap0, as0, compT], ?_⟩; simp (decide := true) [s0, s5, s6, s7, s8, hlt, hl4, hi4, ap0, as0, compT]
    refine ⟨by simp (decide := true) [s0, s5, s6, s7, s8, hlt, hl4, hi4, ap0, as0, compT], ?_⟩; simp (decide := true) [s0, s5, s6, s7, s8, hlt, hl4, hi4, ap0, as0, compT]
    refine ⟨by simp (decide := true) [s0, s5, s6, s7, s8, hlt, hl4, hi4, ap0, as0, compT], ?_⟩; simp (decide := true) [s0, s5, s6, s7, s8, hlt, hl4, hi4, ap0, as0, compT]
    refine ⟨by simp (decide := true) [s0, s5, s6, s7, s8, hlt, hl4, hi4, ap0, as0, compT], ?_⟩; simp (decide := true) [s0, s5, s6, s7, s8, hlt, hl4, hi4, ap0, as0, compT]
    refine ⟨by simp (decide := true) [s0, s5, s6, s7, s8, hlt, hl4, hi4, ap0, as0, compT], ?_⟩; simp (decide := true) [s0, s5, s6, s7, s8, hlt, hl4, hi4, ap0, as0, compT]
    refine ⟨by simp (decide := true) [s0, s5, s6, s7, s8, hlt, hl4, hi4, ap0, as0, compT], ?_⟩; simp (decide := true) [s0, s5, s6, s7, s8, hlt, hl4, hi4, ap0, as0, compT]
    refine vcCall_at (rComp_c _ [(Tm.mk 2 b ⟨#[]⟩ []), (Tm.mk 2 a ⟨#[]⟩ [])]) ?_; simp (decide := true) [s0, s5, s6, s7, s8, hlt, hl4, hi4, ap0, as0, compT]
    refine ⟨by simp (decide := true) [s0, s5, s6, s7, s8, hlt, hl4, hi4, ap0, as0, compT]; (repeat' apply And.intro) <;> (refine vcCall_at (rComp_c _ [(Tm.mk 2 b ⟨#[]⟩ []), (Tm.mk 2 a ⟨#[]⟩ [])]) ?_; simp [s0, s5, s6, s7, s8, hlt, hl4, hi4, ap0, as0, compT]), ?_⟩; simp (decide := true) [s0, s5, s6, s7, s8, hlt, hl4, hi4, ap0, as0, compT]
    refine vcCall_at (ev_c (t := Tm.mk 4 0 _ [(Tm.mk 2 b ⟨#[]⟩ []), (Tm.mk 2 a ⟨#[]⟩ [])]) (two_small _ b a) E2) ?_; simp (decide := true) [s0, s5, s6, s7, s8, hlt, hl4, hi4, ap0, as0, compT]
    refine ⟨by simp (decide := true) [s0, s5, s6, s7, s8, hlt, hl4, hi4, ap0, as0, compT]; (repeat' apply And.intro) <;> (refine vcCall_at (ev_c (t := Tm.mk 4 0 _ [(Tm.mk 2 b ⟨#[]⟩ []), (Tm.mk 2 a ⟨#[]⟩ [])]) (two_small _ b a) E2) ?_; simp [s0, s5, s6, s7, s8, hlt, hl4, hi4, ap0, as0, compT]), ?_⟩; simp (decide := true) [s0, s5, s6, s7, s8, hlt, hl4, hi4, ap0, as0, compT]
    refine ⟨by simp (decide := true) [s0, s5, s6, s7, s8, hlt, hl4, hi4, ap0, as0, compT], ?_⟩; simp (decide := true) [s0, s5, s6, s7, s8, hlt, hl4, hi4, ap0, as0, compT]
    refine ⟨by simp (decide := true) [s0, s5, s6, s7, s8, hlt, hl4, hi4, ap0, as0, compT], ?_⟩; simp (decide := true) [s0, s5, s6, s7, s8, hlt, hl4, hi4, ap0, as0, compT]
    refine ⟨by simp (decide := true) [s0, s5, s6, s7, s8, hlt, hl4, hi4, ap0, as0, compT], ?_⟩; simp (decide := true) [s0, s5, s6, s7, s8, hlt, hl4, hi4, ap0, as0, compT]
    refine ⟨by simp (decide := true) [s0, s5, s6, s7, s8, hlt, hl4, hi4, ap0, as0, compT], ?_⟩; simp (decide := true) [s0, s5, s6, s7, s8, hlt, hl4, hi4, ap0, as0, compT]
    refine ⟨by simp, rfl, by simp [vcI, s0, s5, s6, s7, s8, hlt, hl4, hi4, ap0, as0, compT], ?_⟩
    simp (decide := true) [s0, s5, s6, s7, s8, hlt, hl4, hi4, ap0, as0, compT]; try intro _
    try simp (decide := true) [s0, s5, s6, s7, s8, hlt, hl4, hi4, ap0, as0, compT]
    refine ⟨by simp (decide := true) [s0, s5, s6, s7, s8, hlt, hl4, hi4, ap0, as0, compT], ?_⟩; simp (decide := true) [s0, s5, s6, s7, s8, hlt, hl4, hi4, ap0, as0, compT]
    refine ⟨by simp, rfl, by simp [vcI, s0, s5, s6, s7, s8, hlt, hl4, hi4, ap0, as0, compT], ?_⟩
    simp (decide := true) [s0, s5, s6, s7, s8, hlt, hl4, hi4, ap0, as0, compT]; try intro _
    try simp (decide := true) [s0, s5, s6, s7, s8, hlt, hl4, hi4, ap0, as0, compT]
    refine ⟨by simp (decide := true) [s0, s5, s6, s7, s8, hlt, hl4, hi4, ap0, as0, compT], ?_⟩; simp (decide := true) [s0, s5, s6, s7, s8, hlt, hl4, hi4, ap0, as0, compT]
    simp only [hcm]
    refine ⟨⟨trivial, trivial⟩, fun _ _ => ?_⟩
    exact ⟨by unfold i64ok; omega, 4 - (i2 + 1), by omega, i2 + 1, by omega, by omega, by omega⟩
  · have hi : i = 4 := by omega
    subst hi
    simp [s0, s5, s6, s7, s8, ops4]
    refine ⟨rfl, vcCall_at (rComp_c _ [Tm.mk 2 a ⟨#[]⟩ [], Tm.mk 2 a ⟨#[]⟩ []]) ?_⟩
    simp [compT]
    refine vcCall_at (ev_c (t := Tm.mk 4 0 _ [Tm.mk 2 a ⟨#[]⟩ [], Tm.mk 2 a ⟨#[]⟩ []]) (two_small _ a a) (sub_eval h1 h2)) ?_
    simp [s0, s5, s6, s7, s8]
    refine ⟨fun i r st' => if i = 13 then r = .ptr (X.length + 1 + 2) 0 ∧ st' = .cells ((Tm.mk 2 a ⟨#[]⟩ []).cells 24) :: .cells ((Tm.mk 2 b ⟨#[]⟩ []).cells 24) :: (X ++ [.cells (Tm.zero.cells 24), .cells [.sc (.int .i64 0), .sc (.int .i64 0), .sc (.string .empty), .nils]]) else st' = .cells ((Tm.mk 2 a ⟨#[]⟩ []).cells 24) :: .cells ((Tm.mk 2 b ⟨#[]⟩ []).cells 24) :: (X ++ [.cells (Tm.zero.cells 24), .cells (Tm.zero.cells 24)]), ?_⟩
    simp (decide := true) [s0, s5, s6, s7, s8, ap0, as0, compT]
    refine ⟨by simp (decide := true) [s0, s5, s6, s7, s8, ap0, as0, compT], ?_⟩; simp (decide := true) [s0, s5, s6, s7, s8, ap0, as0, compT]
    refine ⟨by simp (decide := true) [s0, s5, s6, s7, s8, ap0, as0, compT], ?_⟩; simp (decide := true) [s0, s5, s6, s7, s8, ap0, as0, compT]
    refine vcCall_at (rComp_c _ [(Tm.mk 2 a ⟨#[]⟩ [])]) ?_; simp (decide := true) [s0, s5, s6, s7, s8, ap0, as0, compT]
    refine ⟨by simp (decide := true) [s0, s5, s6, s7, s8, ap0, as0, compT]; (repeat' apply And.intro) <;> (refine vcCall_at (rComp_c _ [(Tm.mk 2 a ⟨#[]⟩ [])]) ?_; simp [s0, s5, s6, s7, s8, ap0, as0, compT]), ?_⟩; simp (decide := true) [s0, s5, s6, s7, s8, ap0, as0, compT]
    refine ⟨by simp (decide := true) [s0, s5, s6, s7, s8, ap0, as0, compT], ?_⟩; simp (decide := true) [s0, s5, s6, s7, s8, ap0, as0, compT]
    refine ⟨by simp (decide := true) [s0, s5, s6, s7, s8, ap0, as0, compT], ?_⟩; simp (decide := true) [s0, s5, s6, s7, s8, ap0, as0, compT]
    refine vcCall_at (rComp_c _ [(Tm.mk 2 a ⟨#[]⟩ [])]) ?_; simp (decide := true) [s0, s5, s6, s7, s8, ap0, as0, compT]
    refine ⟨by simp (decide := true) [s0, s5, s6, s7, s8, ap0, as0, compT]; (repeat' apply And.intro) <;> (refine vcCall_at (rComp_c _ [(Tm.mk 2 a ⟨#[]⟩ [])]) ?_; simp [s0, s5, s6, s7, s8, ap0, as0, compT]), ?_⟩; simp (decide := true) [s0, s5, s6, s7, s8, ap0, as0, compT]
    refine ⟨by simp (decide := true) [s0, s5, s6, s7, s8, ap0, as0, compT], ?_⟩; simp (decide := true) [s0, s5, s6, s7, s8, ap0, as0, compT]
    refine vcCall_at (rComp_c _ [signT a, absT a]) ?_; simp (decide := true) [s0, s5, s6, s7, s8, ap0, as0, compT]
    refine ⟨by simp (decide := true) [s0, s5, s6, s7, s8, ap0, as0, compT]; (repeat' apply And.intro) <;> (refine vcCall_at (rComp_c _ [signT a, absT a]) ?_; simp [s0, s5, s6, s7, s8, ap0, as0, compT]), ?_⟩; simp (decide := true) [s0, s5, s6, s7, s8, ap0, as0, compT]
    refine vcCall_at (ev_c (t := prodT a) prod_small (prod_eval h1 h2)) ?_; simp (decide := true) [s0, s5, s6, s7, s8, ap0, as0, compT]
    refine ⟨by simp (decide := true) [s0, s5, s6, s7, s8, ap0, as0, compT]; (repeat' apply And.intro) <;> (refine vcCall_at (ev_c (t := prodT a) prod_small (prod_eval h1 h2)) ?_; simp [s0, s5, s6, s7, s8, ap0, as0, compT]), ?_⟩; simp (decide := true) [s0, s5, s6, s7, s8, ap0, as0, compT]
    refine ⟨by simp (decide := true) [s0, s5, s6, s7, s8, ap0, as0, compT], ?_⟩; simp (decide := true) [s0, s5, s6, s7, s8, ap0, as0, compT]
    refine ⟨by simp (decide := true) [s0, s5, s6, s7, s8, ap0, as0, compT], ?_⟩; simp (decide := true) [s0, s5, s6, s7, s8, ap0, as0, compT]
    refine ⟨by simp (decide := true) [s0, s5, s6, s7, s8, ap0, as0, compT], ?_⟩; simp (decide := true) [s0, s5, s6, s7, s8, ap0, as0, compT]
    refine ⟨by simp (decide := true) [s0, s5, s6, s7, s8, ap0, as0, compT], ?_⟩; simp (decide := true) [s0, s5, s6, s7, s8, ap0, as0, compT]
    refine ⟨by simp, rfl, by simp [vcI, s0, s5, s6, s7, s8, ap0, as0, compT], ?_⟩
    simp (decide := true) [s0, s5, s6, s7, s8, ap0, as0, compT]; try intro _
    try simp (decide := true) [s0, s5, s6, s7, s8, ap0, as0, compT]
    refine ⟨by simp (decide := true) [s0, s5, s6, s7, s8, ap0, as0, compT], ?_⟩; simp (decide := true) [s0, s5, s6, s7, s8, ap0, as0, compT]
    refine ⟨by simp, rfl, by simp [vcI, s0, s5, s6, s7, s8, ap0, as0, compT], ?_⟩
    simp (decide := true) [s0, s5, s6, s7, s8, ap0, as0, compT]; try intro _
    try simp (decide := true) [s0, s5, s6, s7, s8, ap0, as0, compT]
    refine ⟨by simp (decide := true) [s0, s5, s6, s7, s8, ap0, as0, compT], ?_⟩; simp (decide := true) [s0, s5, s6, s7, s8, ap0, as0, compT]
    refine vcCall_at (rComp_c _ [Tm.mk 2 a ⟨#[]⟩ []]) ?_
    simp [compT]
    refine vcCall_at (rComp_c _ [negT a]) ?_
    simp [compT]
    refine vcCall_at (ev_c (t := nneT a) nne_small (nne_eval h1 h2)) ?_
    simp [s0, s5, s6, s7, s8]
    refine vcCall_at lives_c ?_
    simp [s0, s5, s6, s7, s8]
end Go.T1
end
