/- Contracts of the functions of package arith, of what it asks of package term, and of its answer: each at every term of a size that is bounded. -/
import Derived.Test.YtplnilpdfnbdpaaW3
import Derived.Test.YtplnilpdfnbdpaaRows
import Derived.KernelRfl
import Derived.SizedLaws
import Derived.Carry
import Derived.ProofKit
import Derived.OpenShut
import Derived.JoinedOf
import Derived.ChangeSame
set_option linter.unusedSimpArgs false
set_option linter.unusedVariables false
set_option linter.unusedSectionVars false
set_option linter.unnecessarySimpa false
section
open Go Go.Ab Go.Proofs
namespace Go.T1
noncomputable abbrev T : Tab := tabOf Try.prog
theorem hT : TabOk T Try.prog := tabOf_ok _
@[simp] theorem ty3 : T 3 = some ⟨1, 8, .int .i64, [], some (.int .i64 0)⟩ := by kernel_rfl
@[simp] theorem ty36 : T 36 = some ⟨1, 8, .int .i64, [], some (.int .i64 0)⟩ := by kernel_rfl
@[simp] theorem ty4 : T 4 = some ⟨1, 1, .bool, [], some (.bool false)⟩ := by kernel_rfl
@[simp] theorem ty9 : T 9 = some ⟨1, 16, .str, [], some (.string .empty)⟩ := by kernel_rfl
@[simp] theorem ty22 : T 22 = some ⟨1, 24, .slice 24, [], some (.slice none 0 0)⟩ := by kernel_rfl
@[simp] theorem ty24 : T 24 = some ⟨4, 56, .strct, [(0,1),(1,1),(2,1),(3,1)], some (.agg #[.int .i64 0, .int .i64 0, .string .empty, .slice none 0 0])⟩ := by kernel_rfl
@[simp] theorem ty57 : T 57 = some ⟨3, 24, .strct, [(0,1),(1,1),(2,1)], some (.agg #[.int .i64 0, .int .i64 0, .bool false])⟩ := by kernel_rfl
theorem follows : Try.prog.follows .mixedOrders = true := by kernel_rfl
end Go.T1
end

section
open Go Go.Ab Go.Proofs
namespace Go.T1
set_option maxRecDepth 100000 in
theorem bare_c (k n : Int) (s : ByteArray) (l : List Tm) : PureCall T Try.prog 62 [(Tm.mk k n s l).av 24] (.sc (.bool (decide (s = ⟨#[]⟩) && decide (l.length = 0)))) := by
  refine PureCall.of_vc hT [] [] follows Try.call62 Try.func62 rfl (by kernel_rfl) (by simp [AV.pure, AV.pureL]) rfl ?_
  unfold Try.f62
  simp [Tm.cells]

set_option maxRecDepth 100000 in
theorem refpart_c (k n : Int) (s : ByteArray) (l : List Tm) : PureCall T Try.prog 48 [(Tm.mk k n s l).av 24] (.sc (.bool (partB k n s l.length))) := by
  generalize hr : partB k n s l.length = r
  refine PureCall.of_vc hT [] [] follows Try.call48 Try.func48 rfl (by kernel_rfl) (by simp [AV.pure, AV.pureL]) rfl ?_
  unfold Try.f48
  simp [Tm.cells]
  subst hr
  unfold partB
  refine ⟨fun h _ => by simp [h], fun h1 => ⟨fun h _ => by simp [h], fun h2 => ⟨fun h _ => by simp [h], fun h3 => ⟨fun h _ _ => by simp [h], fun h4 => by simp [*]⟩⟩⟩⟩

set_option maxRecDepth 100000 in
theorem part_c (k n : Int) (s : ByteArray) (l : List Tm) : PureCall T Try.prog 58 [(Tm.mk k n s l).av 24] (.sc (.bool (partB k n s l.length))) := by
  generalize hr : partB k n s l.length = r
  refine PureCall.of_vc hT [] [] follows Try.call58 Try.func58 rfl (by kernel_rfl) (by simp [AV.pure, AV.pureL]) rfl ?_
  unfold Try.f58
  simp [Tm.cells]
  refine ⟨fun h => vcCall_at (bare_c k n s l) ?_, fun h1 => ⟨fun h => vcCall_at (bare_c k n s l) ?_, fun h2 => ⟨fun h _ => by subst hr; simp [h, partB], fun h3 => ⟨fun h _ _ => by subst hr; simp [h, partB], fun h4 => by subst hr; simp [partB, *]⟩⟩⟩⟩
  · simp
    subst hr; simp [h, partB, Bool.and_assoc]
  · simp
    subst hr; simp [h, partB, Bool.and_assoc]

/-- What is counted. -/
def cntB (p d : Int) (b : Bool) : Blk := .cells [.sc (.int .i64 p), .sc (.int .i64 d), .sc (.bool b)]

set_option maxRecDepth 100000 in
theorem count_c : ∀ (t : Tm) (p d dep : Int) (b : Bool) (id : Nat) (st : St), st[id]? = some (cntB p d b) → 0 ≤ p → p + t.size ≤ 1000000000 → 0 ≤ dep → dep + t.depth ≤ 1000000000 →
    ICall T Try.prog 50 [.ptr id 0, t.av 24, .sc (.int .i64 dep)] st (fun r st' => r = .tup [] ∧ st' = st.set id (cntB (p + t.size) (max d (dep + t.depth - 1)) (b || !t.right))) := by
  refine Tm.ind fun k n s l ih => ?_
  intro p d dep b id st hid hp hps hdep hdd
  have hidl : id < st.length := (List.getElem?_eq_some_iff.1 hid).1
  refine ICall.of_vc hT [] [(7, 4)] follows Try.call50 Try.func50 rfl (by kernel_rfl) fun hfix => ?_
  unfold Try.f50
  have hset : ∀ b, (st.set id b)[id]? = some b := fun b => by simp [hidl]
  unfold cntB at hid
  clear hidl
  simp [Tm.cells, hid, hset, cntB]
  simp only [Tm.size, Tm.depth] at hps hdd
  have hb1 := Tm.depthL_le_sizeL l
  refine ⟨by unfold i64ok; omega, vcCall_at (part_c k n s l) ?_⟩
  simp [hid, hset]
  intro hl1 hl2
  refine vcC_loop [] (fun m σ st' => ∃ i : Nat, m = l.length - i ∧ i ≤ l.length ∧ σ 0 = .ptr id 0 ∧ σ 2 = .sc (.int .i64 dep) ∧ σ 37 = .lst 24 (Tm.cellsL 24 l) ∧ σ 38 = .sc (.int .i64 l.length) ∧ σ 39 = .sc (.int .i64 i) ∧
    st' = st.set id (cntB (p + 1 + Tm.sizeL (l.take i)) (max (max d dep) (dep + Tm.depthL (l.take i))) ((b || !partB k n s l.length) || !Tm.rightL (l.take i)))) l.length ⟨0, by simp, by simp, by simp, by simp, by simp, by simp, by simp, ?_⟩ ?_
  · simp [Tm.sizeL, Tm.depthL, Tm.rightL, cntB]
  rintro m σ st' ⟨i, rfl, hi, s0, s2, s37, s38, s39, rfl⟩
  rcases Nat.lt_or_ge i l.length with hlt | hge
  · have h1 := Tm.size_get hlt
    have h2 := Tm.sizeL_take_le l i
    have h3 := Tm.depthL_take_le l (i + 1)
    rw [Tm.depthL_take hlt] at h3
    have h4 := Tm.depth_le_size l[i]
    simp [s0, s2, s37, s38, s39, hlt]
    refine ⟨by unfold i64ok; omega, vcICall_of (ih l[i] (List.getElem_mem hlt) _ _ _ _ id _ (hset _) (by omega) (by omega) (by omega) (by omega)) ?_⟩
    rintro r st' ⟨rfl, rfl⟩ _
    simp [s0, s2, s37, s38, s39]
    refine ⟨by unfold i64ok; omega, l.length - (i + 1), by omega, i + 1, rfl, by omega, by omega, ?_⟩
    rw [Tm.sizeL_take hlt, Tm.depthL_take hlt, Tm.rightL_take hlt]
    congr 2
    · omega
    · omega
    · simp [Bool.or_assoc]
  · simp [s0, s2, s37, s38, s39, Nat.not_lt.2 hge]
    refine endP_mk (.tup []) (by simp) (by simp) ⟨rfl, ?_⟩
    have hi : i = l.length := by omega
    subst hi
    rw [cutSt_set0 hfix]
    have e1 : p + 1 + (Tm.sizeL l : Int) = p + (1 + Tm.sizeL l) := by omega
    have e2 : max d (max dep (dep + (Tm.depthL l : Int))) = max d (dep + (Tm.depthL l + 1) - 1) := by omega
    simp [cntB, Tm.size, Tm.depth, Tm.right, e1, e2, Bool.or_assoc]

set_option maxRecDepth 100000 in
theorem measure_c (t : Tm) (ht : t.small) : PureCall T Try.prog 40 [t.av 24] (.agg [.sc (.int .i64 t.size), .sc (.int .i64 t.depth), .sc (.bool (!t.right))]) := by
  unfold Tm.small at ht
  refine PureCall.of_vc hT [] [(2, 1)] follows Try.call40 Try.func40 rfl (by kernel_rfl) (by simp [AV.pure, AV.pureL]) rfl ?_
  unfold Try.f40
  have h1 := Tm.depth_le_size t
  have h2 := Tm.depth_pos t
  simp
  refine vcICall_of (count_c t 0 0 1 false 1 _ (by simp [cntB]) (by omega) (by omega) (by omega) (by omega)) ?_
  rintro r st' ⟨rfl, rfl⟩ _
  simp [cntB]
  omega

set_option maxRecDepth 100000 in
theorem check_c (t : Tm) (ht : t.small) : PureCall T Try.prog 28 [t.av 24] (.sc (.int .i64 t.check)) := by
  generalize hr : t.check = r
  refine PureCall.of_vc hT [] [] follows Try.call28 Try.func28 rfl (by kernel_rfl) (by simp [AV.pure, AV.pureL]) rfl ?_
  unfold Try.f28
  simp
  refine vcCall_at (measure_c t ht) ?_
  simp
  unfold Tm.check at hr
  refine ⟨fun h => by rw [if_pos h] at hr; exact hr, fun h => ?_⟩
  rw [if_neg (by simp [h])] at hr
  refine ⟨fun h1 => by rw [if_pos (by omega)] at hr; exact hr, fun h1 => ?_⟩
  rw [if_neg (by omega)] at hr
  exact ⟨fun h2 => by rw [if_pos (by omega)] at hr; exact hr, fun h2 => by rw [if_neg (by omega)] at hr; exact hr⟩

set_option maxRecDepth 100000 in
theorem exact_c : ∀ a b : Tm, PureCall T Try.prog 12 [a.av 24, b.av 24] (.sc (.bool (decide (a = b)))) := by
  refine Tm.ind fun k n s l ih => ?_
  rintro ⟨k', n', s', l'⟩
  generalize hr : decide (Tm.mk k n s l = Tm.mk k' n' s' l') = r
  refine PureCall.of_vc hT [] [] follows Try.call12 Try.func12 rfl (by kernel_rfl) (by simp [AV.pure, AV.pureL]) rfl ?_
  unfold Try.f12
  simp [Tm.cells]
  intro hb1 hb2
  refine ⟨fun h => ?_, fun h1 h2 h3 h4 => ?_⟩
  · subst hr; simp; rintro rfl rfl rfl rfl; simp at h
  · subst h1 h2 h3
    have hb1 := hb1 rfl rfl rfl
    have hlen : l.length = l'.length := by omega
    refine vcC_loop [] (fun m σ st => ∃ i : Nat, m = l.length - i ∧ i ≤ l.length ∧ l.take i = l'.take i ∧ σ 2 = .eptr [.sc (.int .i64 k), .sc (.int .i64 n), .sc (.string s), .lst 24 (Tm.cellsL 24 l)] ∧
      σ 3 = .eptr [.sc (.int .i64 k), .sc (.int .i64 n), .sc (.string s), .lst 24 (Tm.cellsL 24 l')] ∧ σ 5 = .sc (.int .i64 i) ∧ st = []) l.length ⟨0, by simp⟩ ?_
    rintro m σ st ⟨i, rfl, hi, htk, s2, s3, s5, rfl⟩
    rcases Nat.lt_or_ge i l.length with hlt | hge
    · have hlt' : i < l'.length := hlen ▸ hlt
      simp [s2, s3, s5, hlt, hlt']
      refine fun _ _ => vcCall_at (ih l[i] (List.getElem_mem hlt) l'[i]) ?_
      simp [s2, s3, s5]
      refine ⟨fun hne => ?_, fun he => ⟨by simp [i64ok]; omega, l.length - (i + 1), by omega, i + 1, rfl, by omega, ?_, by simp⟩⟩
      · subst hr; simp; rintro rfl; exact hne rfl
      · rw [List.take_add_one, List.take_add_one, htk]; simp [hlt, hlt', he]
    · simp [s2, s3, s5, Nat.not_lt.2 hge]
      subst hr
      have : i = l.length := by omega
      subst this
      simp
      rw [List.take_of_length_le (by omega), List.take_of_length_le (by omega)] at htk
      exact fun _ _ => htk
end Go.T1
end

section
open Go Go.Ab Go.Proofs
namespace Go.T1
set_option maxRecDepth 100000 in
theorem Int_c (n : Int) : PureCall T Try.prog 39 [.sc (.int .i64 n)] ((Tm.mk 2 n ⟨#[]⟩ []).av 24) := by
  refine PureCall.of_vc hT [] [] follows Try.call39 Try.func39 rfl (by kernel_rfl) rfl rfl ?_
  unfold Try.f39
  simp [Tm.cells, Tm.cellsL]
  rfl
set_option maxRecDepth 100000 in
theorem rInt_c (n : Int) : PureCall T Try.prog 16 [.sc (.int .i64 n)] ((Tm.mk 2 n ⟨#[]⟩ []).av 24) := by
  refine PureCall.of_vc hT [] [] follows Try.call16 Try.func16 rfl (by kernel_rfl) rfl rfl ?_
  unfold Try.f16
  simp [Tm.cells, Tm.cellsL]
  rfl
set_option maxRecDepth 100000 in
theorem Atom_c (s : ByteArray) : PureCall T Try.prog 29 [.sc (.string s)] ((Tm.mk 3 0 s []).av 24) := by
  refine PureCall.of_vc hT [] [] follows Try.call29 Try.func29 rfl (by kernel_rfl) rfl rfl ?_
  unfold Try.f29
  simp [Tm.cells, Tm.cellsL]
set_option maxRecDepth 100000 in
theorem rAtom_c (s : ByteArray) : PureCall T Try.prog 27 [.sc (.string s)] ((Tm.mk 3 0 s []).av 24) := by
  refine PureCall.of_vc hT [] [] follows Try.call27 Try.func27 rfl (by kernel_rfl) rfl rfl ?_
  unfold Try.f27
  simp [Tm.cells, Tm.cellsL]

set_option maxRecDepth 100000 in
theorem slClone_c (l : List Tm) (hl : l.length * 56 ≤ 140737488355328) : PureCall T Try.prog 49 [.lst 24 (Tm.cellsL 24 l)] (.lst 24 (Tm.cellsL 24 l)) := by
  refine PureCall.of_vc hT [] [] follows Try.call49 Try.func49 rfl (by kernel_rfl) (by simp [AV.pure, AV.pureL]) (by simp [AV.pure]) ?_
  unfold Try.f49
  simp [hl]

/-- A compound, or an atom. -/
def compT (s : ByteArray) (l : List Tm) : Tm := if l = [] then .mk 3 0 s [] else .mk 4 0 s l

set_option maxRecDepth 100000 in
theorem Comp_c (s : ByteArray) (l : List Tm) : PureCall T Try.prog 38 [.sc (.string s), .lst 24 (Tm.cellsL 24 l)] ((compT s l).av 24) := by
  unfold compT
  refine PureCall.of_vc hT [] [] follows Try.call38 Try.func38 rfl (by kernel_rfl) (by simp [AV.pure, AV.pureL]) (by simp [AV.pure]) ?_
  unfold Try.f38
  simp
  intro h1 h2
  refine ⟨fun h => ?_, fun h => ?_⟩
  · subst h
    refine vcCall_at (Atom_c s) ?_
    simp
  · rw [if_neg h]
    refine vcCall_at (slClone_c l h1) ?_
    simp [Tm.cells]

set_option maxRecDepth 100000 in
theorem rComp_c (s : ByteArray) (l : List Tm) : PureCall T Try.prog 18 [.sc (.string s), .lst 24 (Tm.cellsL 24 l)] ((compT s l).av 24) := by
  unfold compT
  refine PureCall.of_vc hT [] [] follows Try.call18 Try.func18 rfl (by kernel_rfl) (by simp [AV.pure, AV.pureL]) (by simp [AV.pure]) ?_
  unfold Try.f18
  simp
  intro h1 h2
  refine ⟨fun h => ?_, fun h => ?_⟩
  · subst h
    refine vcCall_at (rAtom_c s) ?_
    simp
  · rw [if_neg h]
    simp [Tm.cells, h1]

end Go.T1
end

section
open Go Go.Ab Go.Proofs
namespace Go.T1
set_option maxRecDepth 100000 in
theorem rright_c : ∀ t : Tm, PureCall T Try.prog 35 [t.av 24] (.sc (.bool t.right)) := by
  refine Tm.ind fun k n s l ih => ?_
  generalize hr : (Tm.mk k n s l).right = r
  simp only [Tm.right] at hr
  refine PureCall.of_vc hT [] [] follows Try.call35 Try.func35 rfl (by kernel_rfl) (by simp [AV.pure, AV.pureL]) rfl ?_
  unfold Try.f35
  simp [Tm.cells]
  refine vcCall_at (refpart_c k n s l) ?_
  simp
  refine ⟨fun h => by simp [h] at hr; exact hr.symm ▸ rfl, fun h => ?_⟩
  rw [h, Bool.true_and] at hr
  refine vcC_loop [] (fun m σ st => ∃ i : Nat, m = l.length - i ∧ i ≤ l.length ∧ Tm.rightL (l.take i) = true ∧ σ 1 = .eptr [.sc (.int .i64 k), .sc (.int .i64 n), .sc (.string s), .lst 24 (Tm.cellsL 24 l)] ∧
    σ 3 = .sc (.int .i64 i) ∧ st = []) l.length ⟨0, by simp [Tm.rightL]⟩ ?_
  rintro m σ st ⟨i, rfl, hi, htk, s1, s3, rfl⟩
  rcases Nat.lt_or_ge i l.length with hlt | hge
  · simp [s1, s3, hlt]
    refine fun hb1 hb2 => vcCall_at (ih l[i] (List.getElem_mem hlt)) ?_
    simp [s1, s3]
    have h2 : Tm.rightL (l.take (i + 1)) = l[i].right := by rw [Tm.rightL_take hlt, htk, Bool.true_and]
    refine ⟨fun hf => ?_, fun ht => ⟨by unfold i64ok; omega, l.length - (i + 1), by omega, i + 1, rfl, by omega, by rw [h2]; exact ht, by omega⟩⟩
    rw [← hr, ← List.take_append_drop (i + 1) l, Tm.rightL_append, h2, hf]; rfl
  · have hi : i = l.length := by omega
    subst hi
    simp [s1, s3]
    rw [List.take_length] at htk
    rw [← hr, htk]
    exact fun _ _ => rfl

set_option maxRecDepth 100000 in
theorem rDepth_c : ∀ t : Tm, t.small → PureCall T Try.prog 36 [t.av 24] (.sc (.int .i64 t.depth)) := by
  refine Tm.ind fun k n s l ih => ?_
  intro hs
  have hsm : 1 + Tm.sizeL l ≤ 900000000 := hs
  have hds := Tm.depthL_le_sizeL l
  refine PureCall.of_vc hT [] [] follows Try.call36 Try.func36 rfl (by kernel_rfl) (by simp [AV.pure, AV.pureL]) rfl ?_
  unfold Try.f36
  simp [Tm.cells]
  refine vcC_loop [] (fun m σ st => ∃ i : Nat, m = l.length - i ∧ i ≤ l.length ∧ σ 1 = .eptr [.sc (.int .i64 k), .sc (.int .i64 n), .sc (.string s), .lst 24 (Tm.cellsL 24 l)] ∧
    σ 4 = .sc (.int .i64 i) ∧ σ 3 = .sc (.int .i64 (Tm.depthL (l.take i))) ∧ st = []) l.length ⟨0, by simp [Tm.depthL]⟩ ?_
  rintro m σ st ⟨i, rfl, hi, s1, s4, s3, rfl⟩
  rcases Nat.lt_or_ge i l.length with hlt | hge
  · have h1 := Tm.size_get hlt
    simp [s1, s3, s4, hlt]
    refine fun hb1 hb2 => vcCall_at (ih l[i] (List.getElem_mem hlt) (by unfold Tm.small; omega)) ?_
    simp [s1, s3, s4]
    have h2 := Tm.depthL_take hlt
    exact ⟨fun hf => ⟨by unfold i64ok; omega, l.length - (i + 1), by omega, i + 1, rfl, by omega, by omega, by omega⟩, fun hf => ⟨by unfold i64ok; omega, l.length - (i + 1), by omega, i + 1, rfl, by omega, by omega, by omega⟩⟩
  · have hi : i = l.length := by omega
    subst hi
    simp [s1, s3, s4, Tm.depth]
    intro _ _
    unfold i64ok; omega

set_option maxRecDepth 100000 in
theorem rSize_c : ∀ t : Tm, t.small → PureCall T Try.prog 37 [t.av 24] (.sc (.int .i64 t.size)) := by
  refine Tm.ind fun k n s l ih => ?_
  intro hs
  have hsm : 1 + Tm.sizeL l ≤ 900000000 := hs
  refine PureCall.of_vc hT [] [] follows Try.call37 Try.func37 rfl (by kernel_rfl) (by simp [AV.pure, AV.pureL]) rfl ?_
  unfold Try.f37
  simp [Tm.cells]
  refine vcC_loop [] (fun m σ st => ∃ i : Nat, m = l.length - i ∧ i ≤ l.length ∧ σ 1 = .eptr [.sc (.int .i64 k), .sc (.int .i64 n), .sc (.string s), .lst 24 (Tm.cellsL 24 l)] ∧
    σ 4 = .sc (.int .i64 i) ∧ σ 3 = .sc (.int .i64 (1 + Tm.sizeL (l.take i))) ∧ st = []) l.length ⟨0, by simp [Tm.sizeL]⟩ ?_
  rintro m σ st ⟨i, rfl, hi, s1, s4, s3, rfl⟩
  rcases Nat.lt_or_ge i l.length with hlt | hge
  · have h1 := Tm.size_get hlt
    simp [s1, s3, s4, hlt]
    refine fun hb1 hb2 => vcCall_at (ih l[i] (List.getElem_mem hlt) (by unfold Tm.small; omega)) ?_
    simp [s1, s3, s4]
    have h2 := Tm.sizeL_take hlt
    exact ⟨by unfold i64ok; omega, by unfold i64ok; omega, l.length - (i + 1), by omega, i + 1, rfl, by omega, by omega, by omega⟩
  · have hi : i = l.length := by omega
    subst hi
    simp [s1, s3, s4, Tm.size]

set_option maxRecDepth 100000 in
theorem rCheck_c (t : Tm) (ht : t.small) : PureCall T Try.prog 17 [t.av 24] (.sc (.int .i64 t.check)) := by
  generalize hr : t.check = r
  unfold Tm.check at hr
  refine PureCall.of_vc hT [] [] follows Try.call17 Try.func17 rfl (by kernel_rfl) (by simp [AV.pure, AV.pureL]) rfl ?_
  unfold Try.f17
  simp
  refine vcCall_at (rright_c t) ?_
  simp
  refine ⟨fun h => by rw [if_pos h] at hr; exact hr, fun h => ?_⟩
  rw [if_neg (by simp [h])] at hr
  refine vcCall_at (rDepth_c t ht) ?_
  simp
  refine ⟨fun h1 => by rw [if_pos (by omega)] at hr; exact hr, fun h1 => ?_⟩
  rw [if_neg (by omega)] at hr
  refine vcCall_at (rSize_c t ht) ?_
  simp
  exact ⟨fun h2 => by rw [if_pos (by omega)] at hr; exact hr, fun h2 => by rw [if_neg (by omega)] at hr; exact hr⟩
end Go.T1
end

section
open Go Go.Ab Go.Proofs
namespace Go.T1
set_option maxRecDepth 100000 in
theorem large_c : ∀ (t : Tm) (d n : Int) (id : Nat) (st : St), t.nice → st[id]? = some (.cells [.sc (.int .i64 n)]) → 0 ≤ n → n ≤ 6000 → 0 ≤ d → d ≤ 301 →
    ICall T Try.prog 26 [t.av 24, .sc (.int .i64 d), .ptr id 0] st (fun r st' => r = .sc (.bool (t.lg d n).1) ∧ st' = st.set id (.cells [.sc (.int .i64 (t.lg d n).2)])) := by
  refine Tm.ind fun k n0 s l ih => ?_
  intro d n id st hnice hid hn hn2 hd hd2
  have hidl : id < st.length := (List.getElem?_eq_some_iff.1 hid).1
  refine ICall.of_vc hT [] [(7, 8)] follows Try.call26 Try.func26 rfl (by kernel_rfl) fun hfix => ?_
  unfold Try.f26
  have hset : ∀ b, (st.set id b)[id]? = some b := fun b => by simp [hidl]
  clear hidl
  simp [Tm.cells, hid, hset]
  have hs := hnice.1
  have hq0 : (0 : Int) ≤ (s.size : Int) / 16 := Int.ediv_nonneg (Int.natCast_nonneg _) (by decide)
  have hq1 : (s.size : Int) / 16 ≤ 140737488355328 := Int.le_trans (Int.ediv_le_self _ (Int.natCast_nonneg _)) (by omega)
  refine ⟨by unfold i64ok; omega, by unfold i64ok; omega, by unfold i64ok; omega, ?_⟩
  intro _
  refine ⟨fun h => ?_, fun h1 h2 h3 => ?_⟩
  · have e : Tm.lg (.mk k n0 s l) d n = (true, n + 1 + (s.size : Int) / 16) := by simp only [Tm.lg]; rw [if_pos]; omega
    rw [e]
    refine endP_mk (.sc (.bool true)) (by simp) (by simp) ⟨rfl, ?_⟩
    rw [cutSt_set0 hfix]; simp
  · have e : Tm.lg (.mk k n0 s l) d n = Tm.lgL l (d + 1) (n + 1 + (s.size : Int) / 16) := by simp only [Tm.lg]; rw [if_neg]; omega
    rw [e]
    obtain ⟨m, hm⟩ : ∃ m, m = n + 1 + (s.size : Int) / 16 := ⟨_, rfl⟩
    rw [← hm]
    refine vcC_loop [] (fun M σ st' => ∃ i : Nat, M = l.length - i ∧ i ≤ l.length ∧ (Tm.lgL (l.take i) (d + 1) m).1 = false ∧ σ 1 = .sc (.int .i64 d) ∧ σ 2 = .ptr id 0 ∧ σ 3 = .eptr [.sc (.int .i64 k), .sc (.int .i64 n0), .sc (.string s), .lst 24 (Tm.cellsL 24 l)] ∧ σ 7 = .sc (.int .i64 i) ∧
      st' = st.set id (.cells [.sc (.int .i64 (Tm.lgL (l.take i) (d + 1) m).2)])) l.length ⟨0, by simp, by simp, by simp [Tm.lgL], by simp, by simp, by simp, by simp, by simp [Tm.lgL, hm]⟩ ?_
    rintro M σ st' ⟨i, rfl, hi, hf, s1, s2, s3, s7, rfl⟩
    rcases Nat.lt_or_ge i l.length with hlt | hge
    · have hsz := Tm.lgL_size (l.take i) (d + 1) m (by omega) (by omega) hf
      simp [s1, s2, s3, s7, hlt]
      refine fun hb1 hb2 => ⟨by unfold i64ok; omega, vcICall_of (ih l[i] (List.getElem_mem hlt) _ _ id _ (Tm.niceL_mem hnice.2 _ (List.getElem_mem hlt)) (hset _) (by omega) (by omega) (by omega) (by omega)) ?_⟩
      rintro r st' ⟨rfl, rfl⟩ _
      have e2 := Tm.lgL_take hlt (d + 1) m hf
      rw [← e2]
      simp [s1, s2, s3, s7]
      refine ⟨fun h4 => ?_, fun h4 => ⟨by unfold i64ok; omega, l.length - (i + 1), by omega, i + 1, rfl, by omega, h4, by omega, rfl⟩⟩
      have e3 := Tm.lgL_true (d + 1) m h4
      rw [e3]
      refine endP_mk (.sc (.bool true)) (by simp) (by simp) ⟨rfl, ?_⟩
      rw [cutSt_set0 hfix]; simp
    · have hi : i = l.length := by omega
      subst hi
      rw [List.take_length] at hf
      simp [s1, s2, s3, s7]
      refine fun hb1 hb2 => endP_mk (.sc (.bool false)) (by simp) (by simp) ⟨by rw [hf], ?_⟩
      rw [cutSt_set0 hfix]; simp

set_option maxRecDepth 100000 in
theorem Large_c (t : Tm) (ht : t.nice) : PureCall T Try.prog 8 [t.av 24] (.sc (.bool t.large)) := by
  have h : ICall T Try.prog 8 [t.av 24] [] (fun r _ => r = .sc (.bool t.large)) := by
    refine ICall.of_vc hT [3] [(2, 1)] follows Try.call8 Try.func8 rfl (by kernel_rfl) fun hfix => ?_
    unfold Try.f8
    simp [Tm.cells]
    refine vcICall_of (large_c t 0 0 0 _ ht rfl (by omega) (by omega) (by omega) (by omega)) ?_
    rintro r st' ⟨rfl, rfl⟩ _
    simp
    exact endP_mk (.sc (.bool t.large)) (by simp [Tm.large]) (by simp [Tm.large]) rfl
  exact PureCall.of_ICall h (by simp [AV.pure, AV.pureL]) (by simp [AV.pure]) (by rintro r st' rfl; simp)
end Go.T1
end

section
open Go Go.Ab Go.Proofs Go.RowKit
namespace Go.T1
/-- A world as it is handed in. -/
def E0 (W : World) : Env := ⟨W, [], fun _ => 0, fun _ => False⟩
theorem relX_of {W : World} {b : Nat} : ∀ (xs : List AV) (cs : List Value) (o : Nat), (∀ i, i < cs.length → W.cell? ⟨b, o + i, none⟩ = cs[i]?) → RelC T (E0 W) xs cs → RelX T (E0 W) b o xs
  | [], _, _, _, _ => by simp only [RelX]
  | x :: xs, cs, o, h, hr => by
    simp only [RelC] at hr
    obtain ⟨v, r, rfl, h1, h2, h3⟩ := hr
    simp only [RelX]
    refine ⟨⟨v, by show W.cell? _ = _; simpa using h 0 (by simp), h1, h2⟩, relX_of xs r (o + 1) (fun i hi => ?_) h3⟩
    have := h (i + 1) (by simp; omega)
    rw [show o + 1 + i = o + (i + 1) by omega, this]; simp
theorem relM_of {W : World} {b k : Nat} : ∀ (L : List (List AV)) (o : Nat), (∀ i (h : i < L.length), L[i].length = k ∧ RelX T (E0 W) b (o + i * k) L[i]) → RelM T (E0 W) b k o L
  | [], _, _ => by simp only [RelM]
  | e :: L, o, h => by
    simp only [RelM]
    have h0 := h 0 (by simp)
    refine ⟨h0.1, by simpa using h0.2, relM_of L (o + k) fun i hi => ?_⟩
    have := h (i + 1) (by simp; omega)
    simp only [List.getElem_cons_succ] at this
    rw [show o + k + i * k = o + (i + 1) * k by rw [Nat.add_mul]; omega]
    exact this
theorem weightsAll_mem {H : Type} {P : Program} {e : TypeId} : ∀ {l : List (DataW H)} {d : DataW H}, d ∈ l → ∀ n ∈ d.weights P e, n ∈ DataW.weightsAll P e l
  | x :: xs, d, hd, n, hn => by
    simp only [DataW.weightsAll, List.mem_append]
    rcases List.mem_cons.1 hd with rfl | hd
    · exact .inl hn
    · exact .inr (weightsAll_mem hd n hn)
theorem cellsOf24 : Try.prog.cellsOf 24 = 4 := by kernel_rfl
theorem cellsOf22 : Try.prog.cellsOf 22 = 1 := by kernel_rfl
theorem cellsOf3 : Try.prog.cellsOf 3 = 1 := by kernel_rfl
theorem cellsOf9 : Try.prog.cellsOf 9 = 1 := by kernel_rfl
theorem bytesOf24 : Try.prog.bytesOf 24 = 56 := by kernel_rfl
theorem add_add (b off i j : Nat) : ((⟨b, off, none⟩ : Addr).add i).add j = ⟨b, off + i + j, none⟩ := by
  unfold Addr.add
  by_cases hi : i = 0
  · subst hi
    by_cases hj : j = 0
    · subst hj; rfl
    · simp [hj]
  · by_cases hj : j = 0
    · subst hj; simp [hi]
    · simp [hi, hj]
theorem cell_lt {W : World} {a : Addr} {v : Value} (h : W.cell? a = some v) : a.block < W.heap.size ∧ a.spot = none := by
  unfold World.cell? at h
  split at h
  · rename_i c _ _ hb
    refine ⟨(Array.getElem?_eq_some_iff.1 hb).1, ?_⟩
    split at h
    · cases h
    · rename_i hs; cases hsp : a.spot with
      | none => rfl
      | some _ => rw [hsp] at hs; exact absurd rfl hs
  · cases h

section
variable {H : Type} {enc : TypeId × Value → H} {W : World} {sp : Nat → Bool}

theorem niceL_of : ∀ {l : List Tm}, (∀ t ∈ l, t.nice) → Tm.niceL l
  | [], _ => trivial
  | t :: ts, h => ⟨h t (by simp), niceL_of fun x hx => h x (by simp [hx])⟩

theorem open_sl {n : Nat} (ih : ∀ m, m ≤ n → ∀ cs (d : DataW H) ps, DataW.trod enc Try.prog W 0 sp true m 24 cs = some (d, ps) → (∀ k ∈ d.weights Try.prog 24, k ≤ reachBytes) → ∃ t : Tm, RelC T (E0 W) (t.cells 24) cs ∧ t.nice)
    {fuel : Nat} (hf : fuel ≤ n + 1) {cs : List Value} {d : DataW H} {ps : List MemPlace} (h : DataW.trod enc Try.prog W 0 sp true fuel 22 cs = some (d, ps)) (hw : ∀ k ∈ d.weights Try.prog 22, k ≤ reachBytes) :
    ∃ (l : List Tm) (v : Value), cs = [v] ∧ v.oneCell' = true ∧ Rel T (E0 W) (.lst 24 (Tm.cellsL 24 l)) v ∧ Tm.niceL l := by
  rcases DataW.trod_slice Try.underlying22 h with ⟨rfl, hx⟩ | ⟨a, len, cap, elems, rest, m, rfl, rfl, hx, hb, hl, hm, hlen, hel, _, _⟩
  · refine ⟨[], _, rfl, rfl, ?_, trivial⟩
    simp only [Rel, Tm.cellsL]
    exact ⟨by simp, by simp, _, _, rfl, .inl trivial⟩
  · cases hx
    simp only [DataW.weights, Try.underlying22, List.mem_cons, List.mem_append, bytesOf24] at hw
    have hw0 := hw _ (.inl rfl)
    simp only [List.length_map] at hw0
    have hreach : reachBytes = 140737488351232 := by decide
    rw [hreach] at hw0
    rw [cellsOf24] at hel
    have key : ∀ i, i < len → ∃ t : Tm, (∃ cs', W.cells? 0 (a.add (i * 4)) 4 = some cs' ∧ RelC T (E0 W) (t.cells 24) cs') ∧ t.nice := by
      intro i hi
      have := hel i hi
      rw [List.getElem?_eq_getElem (by omega)] at this
      obtain ⟨cs', h1, h2⟩ := Option.bind_eq_some_iff.1 this
      obtain ⟨t, h3, h4⟩ := ih m (by omega) cs' elems[i].1 elems[i].2 h2 (fun k hk => hw k (.inr (.inl (weightsAll_mem (List.mem_map.2 ⟨_, List.getElem_mem (by omega), rfl⟩) k hk))))
      exact ⟨t, ⟨cs', h1, h3⟩, h4⟩
    have hch : ∃ f : Nat → Tm, ∀ i, i < len → (∃ cs', W.cells? 0 (a.add (i * 4)) 4 = some cs' ∧ RelC T (E0 W) ((f i).cells 24) cs') ∧ (f i).nice :=
      ⟨fun i => if hi : i < len then (key i hi).choose else Tm.zero, fun i hi => by simp only [dif_pos hi]; exact (key i hi).choose_spec⟩
    obtain ⟨f, hf'⟩ := hch
    refine ⟨(List.range len).map f, _, rfl, rfl, ?_, niceL_of fun t ht => ?_⟩
    · simp only [Rel]
      have h56 : T.bytes 24 = 56 := by simp [Tab.bytes]
      have h4 : T.cells 24 = 4 := by simp [Tab.cells]
      refine ⟨by simp [h56]; omega, by simp; unfold maxLen; omega, some a, cap, by simp, ?_⟩
      rcases Nat.eq_zero_or_pos len with h0 | h0
      · left; subst h0; rfl
      · right
        obtain ⟨⟨cs', k1, k2⟩, _⟩ := hf' 0 h0
        obtain ⟨_, k3, k4⟩ := World.cells?_some k1
        have k5 := k4 0 (by omega)
        rw [List.getElem?_eq_getElem (by omega)] at k5
        have k6 := cell_lt k5
        obtain ⟨b, off, spot⟩ := a
        have hs : spot = none := by simpa [Addr.add] using k6.2
        subst hs
        have hbl : b < W.heap.size := by simpa [Addr.add] using k6.1
        refine ⟨b, off, rfl, ⟨hbl, ?_⟩, ?_⟩
        · rintro (hm | ⟨id, blk, hm, _⟩)
          · exact hm
          · simp [E0] at hm
        · rw [h4]
          refine relM_of _ _ fun i hi => ?_
          simp only [Tm.cellsL_len, List.length_map, List.length_range] at hi
          obtain ⟨⟨cs', k1, k2⟩, _⟩ := hf' i hi
          obtain ⟨_, k3, k4⟩ := World.cells?_some k1
          simp only [Tm.cellsL_getElem, List.getElem_map, List.getElem_range]
          refine ⟨by simp, relX_of _ cs' _ (fun j hj => ?_) k2⟩
          rw [← k4 j (by omega), add_add]
    · obtain ⟨i, hi, rfl⟩ := List.mem_map.1 ht
      exact (hf' i (List.mem_range.1 hi)).2

theorem open_tm : ∀ fuel cs (d : DataW H) ps, DataW.trod enc Try.prog W 0 sp true fuel 24 cs = some (d, ps) → (∀ k ∈ d.weights Try.prog 24, k ≤ reachBytes) → ∃ t : Tm, RelC T (E0 W) (t.cells 24) cs ∧ t.nice := by
  intro fuel
  induction fuel using Nat.strongRecOn with
  | _ fuel ih =>
    intro cs d ps h hw
    obtain ⟨xs, n, rfl, hx, hlen, hxs, hf⟩ := DataW.trod_struct Try.underlying24 h
    cases hx
    rw [cellsOf24] at hlen
    match cs, hlen with
    | [c0, c1, c2, c3], _ =>
    match xs, hxs with
    | [x0, x1, x2, x3], _ =>
    have f0 := hf 0 _ rfl
    have f1 := hf 1 _ rfl
    have f2 := hf 2 _ rfl
    have f3 := hf 3 _ rfl
    simp [cellsOf3, cellsOf9, cellsOf22] at f0 f1 f2 f3
    simp only [DataW.weights, Try.underlying24] at hw
    simp [DataW.weightsEach] at hw
    obtain ⟨k, e0, rfl, _⟩ := DataW.trod_int Try.underlying3 f0
    obtain ⟨m, e1, rfl, _⟩ := DataW.trod_int Try.underlying3 f1
    obtain ⟨s, e2, rfl, hs⟩ := DataW.trod_string Try.underlying9 f2
    cases e0; cases e1; cases e2
    obtain ⟨l, v, e3, hv1, hv2, hv3⟩ := open_sl (n := n) (fun m hm => ih m (by omega)) (fuel := n) (by omega) f3 (fun q hq => hw q (by simp [hq]))
    cases e3
    refine ⟨.mk k m s l, ?_, ?_⟩
    · simp only [Tm.cells, RelC, Rel]
      exact ⟨_, _, rfl, ⟨rfl, rfl⟩, rfl, _, _, rfl, ⟨rfl, rfl⟩, rfl, _, _, rfl, ⟨rfl, rfl⟩, rfl, _, _, rfl, by simpa only [Rel] using hv2, hv1, rfl⟩
    · have : s.data.toList.length ≤ reachBytes := hw _ (by simp [DataW.weights])
      have hreach : reachBytes = 140737488351232 := by decide
      have e : s.data.toList.length = s.size := by rw [Array.length_toList]; rfl
      exact ⟨by omega, hv3⟩
end
end Go.T1
end

section
open Go Go.Ab Go.Proofs Go.RowKit Go.ChangeShapes Go.WideShapes Go.ChangeAt
namespace Go.T1
section
variable {H : Type} {enc : TypeId × Value → H} {W : World} {sp : Nat → Bool}
theorem trod_tm {v : Value} {d : DataW H} {p : List MemPlace} (h : DataW.Trod enc Try.prog W 0 sp true 24 v d p) (hw : ∀ k ∈ d.weights Try.prog 24, k ≤ reachBytes) : ∃ t : Tm, Rel T (E0 W) (t.av 24) v ∧ t.nice := by
  obtain ⟨fuel, h⟩ := h
  obtain ⟨t, h1, h2⟩ := open_tm fuel _ _ _ h hw
  refine ⟨t, ?_, h2⟩
  have hl := RelC.len _ _ h1
  rw [Tm.cells_len] at hl
  cases v with
  | agg cs => simp only [Rel]; exact ⟨cs.toList, by simp, h1⟩
  | _ => simp [Value.cells] at hl
theorem trod_sl {v : Value} {d : DataW H} {p : List MemPlace} {base : Nat} (hok : Value.okWide Try.prog W .any base 22 v) (h : DataW.Trod enc Try.prog W 0 sp true 22 v d p) (hw : ∀ k ∈ d.weights Try.prog 22, k ≤ reachBytes) : ∃ l : List Tm, Rel T (E0 W) (.lst 24 (Tm.cellsL 24 l)) v ∧ Tm.niceL l := by
  obtain ⟨fuel, h⟩ := h
  obtain ⟨l, v', h1, h2, h3, h4⟩ := open_sl (n := fuel) (fun m _ => open_tm m) (fuel := fuel) (by omega) h hw
  refine ⟨l, ?_, h4⟩
  have hv : v.cells = #[v] := by
    unfold Value.okWide at hok
    rw [Try.underlying22] at hok
    cases v with
    | agg cs => simp [Cell.okWide, Cell.ok, Try.underlying22] at hok
    | _ => rfl
  rw [hv] at h1
  simp at h1
  rw [h1]; exact h3
theorem trod_it {v : Value} {d : DataW H} {p : List MemPlace} (hok : Value.okWide Try.prog W .any 0 3 v) (h : DataW.Trod enc Try.prog W 0 sp true 3 v d p) : ∃ n : Int, Rel T (E0 W) (.sc (.int .i64 n)) v ∧ (Lit.int .i64 n).wf = true := by
  obtain ⟨n, rfl, rfl, rfl, h2⟩ := open_int Try.underlying3 hok h
  exact ⟨n, by simp only [Rel]; exact ⟨trivial, rfl⟩, h2⟩
theorem trod_st {v : Value} {d : DataW H} {p : List MemPlace} {base : Nat} (hok : Value.okWide Try.prog W .any base 9 v) (h : DataW.Trod enc Try.prog W 0 sp true 9 v d p) : ∃ s : ByteArray, Rel T (E0 W) (.sc (.string s)) v := by
  obtain ⟨s, rfl, rfl, rfl, h2⟩ := Go.ChangeMaps.open_string Try.underlying9 hok h
  exact ⟨s, by simp only [Rel]; exact ⟨trivial, rfl⟩⟩
theorem own : ownKnob Try.prog.godebug = none := by kernel_rfl
theorem laidOut : laidOutB Try.prog = true := by kernel_rfl
/-- A call that needs no memory of the caller's. -/
theorem callW {f : FuncId} {args : List AV} (h : PureCall T Try.prog f args (.sc (.bool true))) {vs : List Value} (hr : RelL T (E0 W) args vs) :
    Calls Try.prog f vs.toArray W fun e W' => e = .returned (.bool true) ∧ Below W.heap.size W W' := by
  refine (h.call W (fun _ => False) vs (fun _ h => h.elim) hr).mono ?_
  rintro e W' ⟨u, rfl, h1, h2⟩
  simp only [Rel] at h2
  rw [h2.1]; exact ⟨rfl, h1⟩
theorem wEach {ts : List TypeId} {ds : List (DataW H)} (hz : (DataW.weightsEach Try.prog ts ds).all (· ≤ reachBytes) = true) {j : Nat} {t : TypeId} {d : DataW H} (ht : ts[j]? = some t) (hd : ds[j]? = some d) : ∀ k ∈ d.weights Try.prog t, k ≤ reachBytes := by
  intro k hk
  have := List.all_eq_true.1 hz _ (DataW.weights_mem_each ht hd k hk)
  simpa using this
/-- An argument reads as it did. -/
theorem argW {t : TypeId} {W' : World} {v : Value} {d : DataW H} {ps : List MemPlace} (hr : Try.prog.readableRec t = true) (ht : t < Try.prog.types.size)
    (h : DataW.Trod enc Try.prog W 0 (fun _ => true) true t v d ps) (hb : Below W.heap.size W W') (hlt : ∀ x ∈ ps, x.block < W.heap.size) : DataW.Trod enc Try.prog W' 0 (fun b => decide (b < W.heap.size)) true t v d ps :=
  Below.trod laidOut hr ht h hb hlt
end
end Go.T1
end

section
open Go Go.Ab Go.Proofs
namespace Go.T1
@[simp] theorem ty50 : T 50 = some ⟨6, 72, .strct, [(0,1),(1,4),(5,1)], some (.agg #[.int .i64 0, .int .i64 0, .int .i64 0, .string .empty, .slice none 0 0, .bool false])⟩ := by kernel_rfl
/-- A result's cells. -/
def resC (r : Res) : List AV := .sc (.int .i64 r.n) :: (r.ball.cells 24 ++ [.sc (.bool r.bad)])
@[simp] theorem resC_len (r : Res) : (resC r).length = 6 := by simp [resC]
@[simp] theorem resC_pure (r : Res) : AV.pureL (resC r) = true := by
  unfold resC
  cases r.ball
  simp [Tm.cells, AV.pureL, AV.pure]
@[simp] theorem resC_take (r : Res) : (resC r).take 6 = resC r := by rw [List.take_of_length_le (by simp)]
@[simp] theorem resC_drop (r : Res) : (resC r).drop 6 = [] := by rw [List.drop_eq_nil_of_le (by simp)]
@[simp] theorem resC_frz (S : St) (r : Res) : AV.frzL S (resC r) = resC r := frz_pureL S _ (by simp)
@[simp] theorem resC_cut (N : Nat) (S : St) (r : Res) : AV.cutL N S (resC r) = resC r := cut_pureL N S _ (by simp)
theorem abs_c (n : Int) (hn : -9007199254740991 ≤ n) (hn2 : n ≤ 9007199254740991) : PureCall T Try.prog 59 [.sc (.int .i64 n)] (.sc (.int .i64 (absI n))) := by
  refine PureCall.of_vc hT [] [] follows Try.call59 Try.func59 rfl (by kernel_rfl) (by simp [AV.pure, AV.pureL]) (by simp [AV.pure]) ?_
  unfold Try.f59
  simp [absI]
  unfold i64ok; omega
theorem sign_c (n : Int) : PureCall T Try.prog 34 [.sc (.int .i64 n)] (.sc (.int .i64 (signI n))) := by
  refine PureCall.of_vc hT [] [] follows Try.call34 Try.func34 rfl (by kernel_rfl) (by simp [AV.pure, AV.pureL]) (by simp [AV.pure]) ?_
  unfold Try.f34
  simp [signI]
  refine ⟨fun h1 h2 => by omega, fun h => ⟨fun h1 => ?_, fun h1 => ?_⟩⟩
  · rw [if_neg (by omega), if_pos h1]
  · rw [if_neg (by omega), if_neg (by omega)]
theorem fail_c (t : Tm) : PureCall T Try.prog 42 [t.av 24] (.agg (resC (failR t))) := by
  refine PureCall.of_vc hT [] [] follows Try.call42 Try.func42 rfl (by kernel_rfl) (by simp [AV.pure, AV.pureL]) (by simp [AV.pure]) ?_
  unfold Try.f42
  obtain ⟨k, n, s, l⟩ := t
  simp [resC, failR, Tm.cells]
theorem error1_c (t : Tm) : PureCall T Try.prog 19 [.lst 24 [t.cells 24]] ((errT t).av 24) := by
  refine PureCall.of_vc hT [] [] follows Try.call19 Try.func19 rfl (by kernel_rfl) (by simp [AV.pure, AV.pureL, AV.pureM]) (by simp [AV.pure]) ?_
  unfold Try.f19
  simp
  refine vcCall_at (Comp_c _ [t]) ?_
  simp [compT, errT]
theorem error0_c : PureCall T Try.prog 19 [.lst 24 []] (instT.av 24) := by
  refine PureCall.of_vc hT [] [] follows Try.call19 Try.func19 rfl (by kernel_rfl) (by simp [AV.pure, AV.pureL, AV.pureM]) (by simp [AV.pure]) ?_
  unfold Try.f19
  simp
  refine vcCall_at (Atom_c _) ?_
  simp
  refine vcCall_at (Comp_c _ [Tm.mk 3 0 ⟨#[105, 110, 115, 116]⟩ []]) ?_
  simp [compT, instT, errT, atomT]
theorem type_c (s : ByteArray) (t : Tm) : PureCall T Try.prog 22 [.sc (.string s), t.av 24] ((typeT s t).av 24) := by
  refine PureCall.of_vc hT [] [] follows Try.call22 Try.func22 rfl (by kernel_rfl) (by simp [AV.pure, AV.pureL, AV.pureM]) (by simp [AV.pure]) ?_
  unfold Try.f22
  simp
  refine vcCall_at (Atom_c s) ?_
  simp
  refine ⟨rfl, vcCall_at (Comp_c _ [Tm.mk 3 0 s [], t]) ?_⟩
  simp [compT]
  refine vcCall_at (error1_c _) ?_
  simp [typeT, atomT]
theorem bad_c (s : ByteArray) : PureCall T Try.prog 51 [.sc (.string s)] (.agg (resC (failR (evalT s)))) := by
  refine PureCall.of_vc hT [] [] follows Try.call51 Try.func51 rfl (by kernel_rfl) (by simp [AV.pure, AV.pureL, AV.pureM]) (by simp [AV.pure]) ?_
  unfold Try.f51
  simp
  refine vcCall_at (Atom_c s) ?_
  simp
  refine vcCall_at (Comp_c _ [Tm.mk 3 0 s []]) ?_
  simp [compT]
  refine vcCall_at (error1_c _) ?_
  simp
  refine vcCall_at (fail_c _) ?_
  simp [evalT, atomT]
theorem number_c (n : Int) : PureCall T Try.prog 41 [.sc (.int .i64 n)] (.agg (resC (numR n))) := by
  refine PureCall.of_vc hT [] [] follows Try.call41 Try.func41 rfl (by kernel_rfl) (by simp [AV.pure, AV.pureL, AV.pureM]) (by simp [AV.pure]) ?_
  unfold Try.f41
  simp
  refine ⟨fun h => ?_, fun h1 h2 => ?_⟩
  · refine vcCall_at (bad_c _) ?_
    simp [numR, h, overT]
  · unfold numR
    rw [if_neg (by omega)]
    simp [resC, Tm.zero, Tm.cells]
    rfl
end Go.T1
end

section
open Go Go.Ab Go.Proofs
namespace Go.T1
theorem times_c (a b : Int) (ha : -9007199254740991 ≤ a) (ha2 : a ≤ 9007199254740991) (hb : -9007199254740991 ≤ b) (hb2 : b ≤ 9007199254740991) : PureCall T Try.prog 60 [.sc (.int .i64 a), .sc (.int .i64 b)] (.agg (resC (timesR a b))) := by
  refine PureCall.of_vc hT [] [] follows Try.call60 Try.func60 rfl (by kernel_rfl) (by simp [AV.pure, AV.pureL]) (by simp [AV.pure]) ?_
  unfold Try.f60
  simp
  refine vcCall_at (abs_c b hb hb2) ?_
  simp
  refine vcCall_at (abs_c a ha ha2) ?_
  simp
  have hq := tdiv_abs 9007199254740991 (absI a)
  refine ⟨fun h0 => ⟨h0, by rw [absI_eq]; omega, by unfold i64ok; omega⟩, fun h0 h => ?_, fun h => ?_⟩
  · refine vcCall_at (bad_c _) ?_
    have e : timesR a b = failR overT := by unfold timesR; rw [if_pos ⟨h0, h⟩]
    simp [e, overT]
  · have e : timesR a b = numR (a * b) := by unfold timesR; rw [if_neg (fun q => by have := h q.1; omega)]
    have hm : (a * b).natAbs ≤ 9007199254740991 := by
      by_cases h0 : a = 0
      · subst h0; simp
      · exact mul_fits h0 (h h0)
    refine ⟨by unfold i64ok; omega, vcCall_at (number_c _) ?_⟩
    simp [e]
theorem modulo_c (a b : Int) (hb0 : b ≠ 0) (hb : -9007199254740991 ≤ b) (hb2 : b ≤ 9007199254740991) : PureCall T Try.prog 63 [.sc (.int .i64 a), .sc (.int .i64 b)] (.sc (.int .i64 (moduloI a b))) := by
  refine PureCall.of_vc hT [] [] follows Try.call63 Try.func63 rfl (by kernel_rfl) (by simp [AV.pure, AV.pureL]) (by simp [AV.pure]) ?_
  unfold Try.f63
  simp
  have hm := tmod_abs a b hb0
  refine ⟨hb0, fun h1 h2 => ⟨by unfold i64ok; omega, ?_⟩, fun h => ?_⟩
  · unfold moduloI; rw [if_pos ⟨h1, h2⟩]
  · unfold moduloI; rw [if_neg (fun q => q.2 (h q.1))]
theorem divide_c (op : ByteArray) (a b : Int) (ha : -9007199254740991 ≤ a) (ha2 : a ≤ 9007199254740991) (hb : -9007199254740991 ≤ b) (hb2 : b ≤ 9007199254740991) : PureCall T Try.prog 61 [.sc (.string op), .sc (.int .i64 a), .sc (.int .i64 b)] (.agg (resC (divideR op a b))) := by
  refine PureCall.of_vc hT [] [] follows Try.call61 Try.func61 rfl (by kernel_rfl) (by simp [AV.pure, AV.pureL]) (by simp [AV.pure]) ?_
  unfold Try.f61
  simp
  refine ⟨fun h => ?_, fun h => ⟨fun h1 => ?_, fun h1 => ⟨fun h2 => ?_, fun h2 => ?_⟩⟩⟩
  · refine vcCall_at (bad_c _) ?_
    simp [divideR, h, noughtT]
  · have := tdiv_abs a b
    refine ⟨⟨h, by unfold i64ok; omega⟩, vcCall_at (number_c _) ?_⟩
    simp [divideR, h, h1]
  · refine ⟨h, vcCall_at (number_c _) ?_⟩
    simp [divideR, h, h2]
  · refine vcCall_at (modulo_c a b h hb hb2) ?_
    simp
    refine vcCall_at (number_c _) ?_
    simp [divideR, h, h1, h2]
theorem two_c (op : ByteArray) (a b : Int) (ha : -9007199254740991 ≤ a) (ha2 : a ≤ 9007199254740991) (hb : -9007199254740991 ≤ b) (hb2 : b ≤ 9007199254740991) : PureCall T Try.prog 53 [.sc (.string op), .sc (.int .i64 a), .sc (.int .i64 b)] (.agg (resC (twoR op a b))) := by
  refine PureCall.of_vc hT [] [] follows Try.call53 Try.func53 rfl (by kernel_rfl) (by simp [AV.pure, AV.pureL]) (by simp [AV.pure]) ?_
  unfold Try.f53
  simp
  refine ⟨fun h1 => ?_, fun h1 => ⟨fun h2 => ?_, fun h2 => ⟨fun h3 => ?_, fun h3 => ⟨fun h4 => ?_, fun h4 => ⟨fun h5 => ?_, fun h5 => ?_⟩⟩⟩⟩⟩
  · refine ⟨by unfold i64ok; omega, vcCall_at (number_c _) ?_⟩
    simp [twoR, h1]
  · refine ⟨by unfold i64ok; omega, vcCall_at (number_c _) ?_⟩
    simp [twoR, h2]
  · refine vcCall_at (times_c a b ha ha2 hb hb2) ?_
    simp [twoR, h3]
  · refine vcCall_at (number_c _) ?_
    simp [twoR, h4]
  · refine vcCall_at (number_c _) ?_
    simp [twoR, h5]
  · refine vcCall_at (divide_c op a b ha ha2 hb hb2) ?_
    simp [twoR, h1, h2, h3, h4, h5]
theorem one_c (op : ByteArray) (a : Int) (ha : -9007199254740991 ≤ a) (ha2 : a ≤ 9007199254740991) : PureCall T Try.prog 52 [.sc (.string op), .sc (.int .i64 a)] (.agg (resC (oneR op a))) := by
  refine PureCall.of_vc hT [] [] follows Try.call52 Try.func52 rfl (by kernel_rfl) (by simp [AV.pure, AV.pureL]) (by simp [AV.pure]) ?_
  unfold Try.f52
  simp
  refine ⟨fun h1 => ?_, fun h1 => ⟨fun h2 => ?_, fun h2 => ?_⟩⟩
  · refine ⟨by unfold i64ok; omega, vcCall_at (number_c _) ?_⟩
    simp [oneR, h1]
  · refine vcCall_at (abs_c a ha ha2) ?_
    simp
    refine vcCall_at (number_c _) ?_
    simp [oneR, h2]
  · refine vcCall_at (sign_c a) ?_
    simp
    refine vcCall_at (number_c _) ?_
    simp [oneR, h1, h2]
set_option maxRecDepth 100000 in
theorem known_c (s : ByteArray) (n : Int) : PureCall T Try.prog 43 [.sc (.string s), .sc (.int .i64 n)] (.sc (.bool (knownB s n))) := by
  refine PureCall.of_vc hT [] [] follows Try.call43 Try.func43 rfl (by kernel_rfl) (by simp [AV.pure, AV.pureL]) (by simp [AV.pure]) ?_
  unfold Try.f43
  simp
  by_cases e0 : s = ⟨#[43]⟩
  · subst e0; simp [knownB]
  by_cases e1 : s = ⟨#[42]⟩
  · subst e1; simp [knownB]
  by_cases e2 : s = ⟨#[47, 47]⟩
  · subst e2; simp [knownB]
  by_cases e3 : s = ⟨#[109, 111, 100]⟩
  · subst e3; simp [knownB]
  by_cases e4 : s = ⟨#[114, 101, 109]⟩
  · subst e4; simp [knownB]
  by_cases e5 : s = ⟨#[109, 105, 110]⟩
  · subst e5; simp [knownB]
  by_cases e6 : s = ⟨#[109, 97, 120]⟩
  · subst e6; simp [knownB]
  by_cases e7 : s = ⟨#[45]⟩
  · subst e7; simp [knownB]
  by_cases e8 : s = ⟨#[97, 98, 115]⟩
  · subst e8; simp [knownB]
  by_cases e9 : s = ⟨#[115, 105, 103, 110]⟩
  · subst e9; simp [knownB]
  simp [knownB, e0, e1, e2, e3, e4, e5, e6, e7, e8, e9]
end Go.T1
end

section
open Go Go.Ab Go.Proofs
namespace Go.T1
theorem ind_c (t : Tm) (ht : t.small) : PureCall T Try.prog 24 [t.av 24] ((indT t).av 24) := by
  obtain ⟨k, n, s, l⟩ := t
  refine PureCall.of_vc hT [] [] follows Try.call24 Try.func24 rfl (by kernel_rfl) (by simp [AV.pure, AV.pureL]) (by simp [AV.pure]) ?_
  unfold Try.f24
  simp [Tm.cells]
  refine vcCall_at (check_c _ ht) ?_
  simp
  refine ⟨fun h => ?_, fun hc hk => ?_⟩
  · have e : indT (.mk k n s l) = Tm.zero := by
      show (if (Tm.mk k n s l).check = 0 ∧ 3 ≤ k then Tm.mk 4 0 ⟨#[47]⟩ [atomT s, intT l.length] else Tm.zero) = _
      rw [if_neg (fun q => by rcases h with h | h; exact h q.1; omega)]
    rw [e]
    simp [Tm.zero, Tm.cells]
    rfl
  · have e : indT (.mk k n s l) = .mk 4 0 ⟨#[47]⟩ [atomT s, intT l.length] := by
      show (if (Tm.mk k n s l).check = 0 ∧ 3 ≤ k then Tm.mk 4 0 ⟨#[47]⟩ [atomT s, intT l.length] else Tm.zero) = _
      rw [if_pos ⟨hc, hk⟩]
    rw [e]
    refine vcCall_at (Atom_c s) ?_
    simp
    refine vcCall_at (Int_c _) ?_
    simp
    refine ⟨rfl, vcCall_at (Comp_c _ [Tm.mk 3 0 s [], Tm.mk 2 l.length ⟨#[]⟩ []]) ?_⟩
    simp [compT, atomT, intT]

@[simp] theorem resC_zero (r : Res) : (resC r)[0]? = some (.sc (.int .i64 r.n)) := rfl
@[simp] theorem resC_zero' (r : Res) (h : 0 < (resC r).length) : (resC r)[0]'h = .sc (.int .i64 r.n) := rfl
@[simp] theorem resC_head (r : Res) : (resC r).head? = some (.sc (.int .i64 r.n)) := rfl
@[simp] theorem resC_five (r : Res) : (resC r)[5]? = some (.sc (.bool r.bad)) := by
  unfold resC
  obtain ⟨k, n, s, l⟩ := r.ball
  simp [Tm.cells]
@[simp] theorem resC_five' (r : Res) (h : 5 < (resC r).length) : (resC r)[5]'h = .sc (.bool r.bad) := by
  have := resC_five r
  rw [List.getElem?_eq_getElem h] at this
  exact Option.some.inj this
@[simp] theorem resC_ball (r : Res) : (resC r).tail.take 4 = r.ball.cells 24 := by
  unfold resC
  obtain ⟨k, n, s, l⟩ := r.ball
  simp [Tm.cells]
@[simp] theorem resC_ne (r : Res) : ¬ resC r = [] := by simp [resC]
theorem compound_c (k n : Int) (s : ByteArray) (l : List Tm) (ih : ∀ t ∈ l, PureCall T Try.prog 30 [t.av 24] (.agg (resC t.reck))) (hk : knownB s l.length = true) :
    PureCall T Try.prog 44 [(Tm.mk k n s l).av 24] (.agg (resC (match Tm.reckL l with | [] => failR Tm.zero | [r] => if r.bad = true then r else oneR s r.n | r :: q :: _ => if r.bad = true then r else if q.bad = true then q else twoR s r.n q.n))) := by
  have hlen := knownB_len hk
  rcases hlen with h1 | h1
  · obtain ⟨x, rfl⟩ : ∃ x, l = [x] := List.length_eq_one_iff.1 (by omega)
    refine PureCall.of_vc hT [3] [] follows Try.call44 Try.func44 rfl (by kernel_rfl) (by simp [AV.pure, AV.pureL]) (by simp [AV.pure]) ?_
    unfold Try.f44
    have hr := x.reck_ok
    simp [Tm.cells, Tm.cellsL]
    refine vcCall_at (ih x (by simp)) ?_
    simp [Tm.reckL]
    refine ⟨fun h => ?_, fun h => ?_⟩
    · refine vcCall_at (one_c s x.reck.n (hr.2 h).2.1 (hr.2 h).2.2) ?_
      simp [h]
    · simp [h]
  · obtain ⟨x, y, rfl⟩ := Tm.len2 (by omega : l.length = 2)
    refine PureCall.of_vc hT [3] [] follows Try.call44 Try.func44 rfl (by kernel_rfl) (by simp [AV.pure, AV.pureL]) (by simp [AV.pure]) ?_
    unfold Try.f44
    have hr := x.reck_ok
    have hq := y.reck_ok
    simp [Tm.cells, Tm.cellsL]
    refine vcCall_at (ih x (by simp)) ?_
    simp [Tm.reckL]
    refine ⟨fun h => ?_, fun h => ?_⟩
    · simp [h]
    · refine vcCall_at (ih y (by simp)) ?_
      simp [h]
      refine ⟨fun h2 => ?_, fun h2 => ?_⟩
      · simp [h2]
      · refine vcCall_at (two_c s x.reck.n y.reck.n (hr.2 h).2.1 (hr.2 h).2.2 (hq.2 h2).2.1 (hq.2 h2).2.2) ?_
        simp [h2]
theorem reckon_c : ∀ t : Tm, t.small → PureCall T Try.prog 30 [t.av 24] (.agg (resC t.reck)) := by
  intro t
  induction t using Tm.ind with
  | _ k n s l ih =>
  intro ht
  have hsm : ∀ t ∈ l, t.small := fun t htl => by
    obtain ⟨i, hi, rfl⟩ := List.getElem_of_mem htl
    have := Tm.size_mem hi
    unfold Tm.small at ht ⊢
    simp only [Tm.size] at ht
    omega
  refine PureCall.of_vc hT [] [] follows Try.call30 Try.func30 rfl (by kernel_rfl) (by simp [AV.pure, AV.pureL]) (by simp [AV.pure]) ?_
  unfold Try.f30
  simp [Tm.cells]
  refine ⟨fun h => ?_, fun h => ⟨fun h1 => ?_, fun h1 hb hi => ?_⟩⟩
  · subst h
    refine vcCall_at (number_c n) ?_
    simp [Tm.reck]
  · subst h1
    refine vcCall_of error0_c (by simp [leV.leL, leV]) ?_
    simp
    refine vcCall_at (fail_c _) ?_
    simp [Tm.reck]
  · refine vcCall_at (known_c s l.length) ?_
    simp
    refine ⟨fun h2 => ?_, fun h2 => ?_⟩
    · refine vcCall_at (ind_c (.mk k n s l) ht) ?_
      simp
      refine vcCall_at (type_c _ _) ?_
      simp
      refine vcCall_at (fail_c _) ?_
      simp [Tm.reck, h, h1, h2]
    · refine vcCall_at (compound_c k n s l (fun t ht => ih t ht (hsm t ht)) h2) ?_
      simp [Tm.reck, h, h1, h2]
      exact leL_refl _
theorem Eval_c (t : Tm) (ht : t.small) : PureCall T Try.prog 10 [t.av 24] (.tup [.sc (.int .i64 (evalR t).n), (evalR t).ball.av 24, .sc (.bool !(evalR t).bad)]) := by
  refine PureCall.of_vc hT [] [(4, 8)] follows Try.call10 Try.func10 rfl (by kernel_rfl) (by simp [AV.pure, AV.pureL]) (by simp [AV.pure, AV.pureL]) ?_
  unfold Try.f10
  simp
  refine vcCall_at (check_c t ht) ?_
  simp
  refine ⟨fun h => ?_, fun h => ?_⟩
  · refine vcCall_at (Atom_c _) ?_
    simp
    refine vcCall_at (error1_c (Tm.mk 3 0 ⟨#[115, 105, 122, 101]⟩ [])) ?_
    simp [evalR, h, failR, sizeT, atomT]
  · refine vcCall_at (reckon_c t ht) ?_
    simp
    have e : evalR t = t.reck := by unfold evalR; rw [if_pos h]
    refine ⟨fun _ st' => st' = [.cells (t.reck.ball.cells 24)], ?_⟩
    simp (decide := true)
    repeat (refine ⟨(by rintro r st' rfl; simp), ?_⟩; simp (decide := true))
    simp (decide := true) [vcThen, vcI, e]
def cmpI (op : ByteArray) (n : Int) : Bool :=
  if op = ⟨#[61, 58, 61]⟩ then decide (n = 0)
  else if op = ⟨#[61, 92, 61]⟩ then !decide (n = 0)
  else if op = ⟨#[60]⟩ then decide (n < 0)
  else if op = ⟨#[62]⟩ then decide (0 < n)
  else if op = ⟨#[61, 60]⟩ then decide (n ≤ 0)
  else if op = ⟨#[62, 61]⟩ then decide (0 ≤ n)
  else false
def cmpB (op : ByteArray) : Bool := decide (op = ⟨#[61, 58, 61]⟩) || (decide (op = ⟨#[61, 92, 61]⟩) || (decide (op = ⟨#[60]⟩) || (decide (op = ⟨#[62]⟩) || (decide (op = ⟨#[61, 60]⟩) || decide (op = ⟨#[62, 61]⟩)))))
theorem holds_c (op : ByteArray) (n : Int) : PureCall T Try.prog 33 [.sc (.string op), .sc (.int .i64 n)] (.tup [.sc (.bool (cmpI op n)), .sc (.bool (cmpB op))]) := by
  refine PureCall.of_vc hT [] [] follows Try.call33 Try.func33 rfl (by kernel_rfl) (by simp [AV.pure, AV.pureL]) (by simp [AV.pure, AV.pureL]) ?_
  unfold Try.f33
  simp
  refine ⟨fun h1 => ?_, fun h1 => ⟨fun h2 => ?_, fun h2 => ⟨fun h3 => ?_, fun h3 => ⟨fun h4 => ?_, fun h4 => ⟨fun h5 => ?_, fun h5 => ⟨fun h6 => ?_, fun h6 => ?_⟩⟩⟩⟩⟩⟩
  · simp [cmpI, cmpB, h1]
  · simp [cmpI, cmpB, h2]
  · simp [cmpI, cmpB, h3]
  · simp [cmpI, cmpB, h4]
  · simp [cmpI, cmpB, h5]
  · simp [cmpI, cmpB, h6]
  · simp [cmpI, cmpB, h1, h2, h3, h4, h5, h6]
end Go.T1
end

section
open Go Go.Ab Go.Proofs
namespace Go.T1
def resT (r : Res) : AV := .tup [.sc (.int .i64 r.n), r.ball.av 24, .sc (.bool !r.bad)]
theorem rErr_c (t : Tm) : PureCall T Try.prog 20 [t.av 24] ((errT t).av 24) := by
  refine PureCall.of_vc hT [] [] follows Try.call20 Try.func20 rfl (by kernel_rfl) (by simp [AV.pure, AV.pureL, AV.pureM]) (by simp [AV.pure]) ?_
  unfold Try.f20
  simp
  refine vcCall_at (rComp_c _ [t]) ?_
  simp [compT, errT]
theorem rInst_c : PureCall T Try.prog 21 [] (instT.av 24) := by
  refine PureCall.of_vc hT [] [] follows Try.call21 Try.func21 rfl (by kernel_rfl) (by simp [AV.pure, AV.pureL, AV.pureM]) (by simp [AV.pure]) ?_
  unfold Try.f21
  simp
  refine vcCall_at (rAtom_c _) ?_
  simp
  refine vcCall_at (rErr_c (Tm.mk 3 0 ⟨#[105, 110, 115, 116]⟩ [])) ?_
  simp [instT, atomT]
theorem rSizeB_c : PureCall T Try.prog 31 [] (sizeT.av 24) := by
  refine PureCall.of_vc hT [] [] follows Try.call31 Try.func31 rfl (by kernel_rfl) (by simp [AV.pure, AV.pureL, AV.pureM]) (by simp [AV.pure]) ?_
  unfold Try.f31
  simp
  refine vcCall_at (rAtom_c _) ?_
  simp
  refine vcCall_at (rErr_c (Tm.mk 3 0 ⟨#[115, 105, 122, 101]⟩ [])) ?_
  simp [sizeT, atomT]
theorem rEvalB_c (s : ByteArray) : PureCall T Try.prog 55 [.sc (.string s)] ((evalT s).av 24) := by
  refine PureCall.of_vc hT [] [] follows Try.call55 Try.func55 rfl (by kernel_rfl) (by simp [AV.pure, AV.pureL, AV.pureM]) (by simp [AV.pure]) ?_
  unfold Try.f55
  simp
  refine vcCall_at (rAtom_c _) ?_
  simp
  refine vcCall_at (rComp_c _ [Tm.mk 3 0 s []]) ?_
  simp [compT]
  refine vcCall_at (rErr_c _) ?_
  simp [evalT, atomT]
theorem rType_c (s : ByteArray) (t : Tm) : PureCall T Try.prog 23 [.sc (.string s), t.av 24] ((typeT s t).av 24) := by
  refine PureCall.of_vc hT [] [] follows Try.call23 Try.func23 rfl (by kernel_rfl) (by simp [AV.pure, AV.pureL, AV.pureM]) (by simp [AV.pure]) ?_
  unfold Try.f23
  simp
  refine vcCall_at (rAtom_c _) ?_
  simp
  refine ⟨rfl, vcCall_at (rComp_c _ [Tm.mk 3 0 s [], t]) ?_⟩
  simp [compT]
  refine vcCall_at (rErr_c _) ?_
  simp [typeT, atomT]
theorem check_kind {k n : Int} {s : ByteArray} {l : List Tm} (h : (Tm.mk k n s l).check = 0) : 1 ≤ k ∧ k ≤ 4 := by
  have := ((check_iff _).1 h).1
  simp [Tm.right, partB] at this
  obtain ⟨h1, _⟩ := this
  by_cases a : k = 1; omega
  by_cases b : k = 2; omega
  by_cases c : k = 3; omega
  rw [if_neg a, if_neg b, if_neg c] at h1
  omega
theorem rInd_c (t : Tm) (ht : t.small) : PureCall T Try.prog 25 [t.av 24] ((indT t).av 24) := by
  obtain ⟨k, n, s, l⟩ := t
  refine PureCall.of_vc hT [] [] follows Try.call25 Try.func25 rfl (by kernel_rfl) (by simp [AV.pure, AV.pureL]) (by simp [AV.pure]) ?_
  unfold Try.f25
  simp [Tm.cells]
  refine vcCall_at (rCheck_c _ ht) ?_
  simp
  refine ⟨fun h => ⟨h, fun g => ⟨h, g⟩⟩, fun h => ?_, fun hc hk => ?_⟩
  · have e : indT (.mk k n s l) = Tm.zero := by
      show (if (Tm.mk k n s l).check = 0 ∧ 3 ≤ k then Tm.mk 4 0 ⟨#[47]⟩ [atomT s, intT l.length] else Tm.zero) = _
      rw [if_neg (fun q => by have := check_kind q.1; rcases h with h | h; exact h q.1; omega)]
    rw [e]
    simp [Tm.zero, Tm.cells]
    rfl
  · have e : indT (.mk k n s l) = .mk 4 0 ⟨#[47]⟩ [atomT s, intT l.length] := by
      show (if (Tm.mk k n s l).check = 0 ∧ 3 ≤ k then Tm.mk 4 0 ⟨#[47]⟩ [atomT s, intT l.length] else Tm.zero) = _
      rw [if_pos ⟨hc, by omega⟩]
    rw [e]
    refine vcCall_at (rAtom_c s) ?_
    simp
    refine vcCall_at (rInt_c _) ?_
    simp
    refine ⟨rfl, vcCall_at (rComp_c _ [Tm.mk 3 0 s [], Tm.mk 2 l.length ⟨#[]⟩ []]) ?_⟩
    simp [compT, atomT, intT]
theorem rAbs_c (n : Int) (hn : -9007199254740991 ≤ n) (hn2 : n ≤ 9007199254740991) : PureCall T Try.prog 54 [.sc (.int .i64 n)] (.sc (.int .i64 (absI n))) := by
  refine PureCall.of_vc hT [] [] follows Try.call54 Try.func54 rfl (by kernel_rfl) (by simp [AV.pure, AV.pureL]) (by simp [AV.pure]) ?_
  unfold Try.f54
  simp [absI]
  unfold i64ok; omega
theorem rOver_c (n : Int) : PureCall T Try.prog 56 [.sc (.int .i64 n)] (resT (numR n)) := by
  refine PureCall.of_vc hT [] [] follows Try.call56 Try.func56 rfl (by kernel_rfl) (by simp [AV.pure, AV.pureL, AV.pureM]) (by simp [AV.pure, AV.pureL, resT]) ?_
  unfold Try.f56
  simp
  refine ⟨fun h => ?_, fun h1 h2 => ?_⟩
  · refine vcCall_at (rEvalB_c _) ?_
    simp [numR, h, overT, resT, failR]
  · unfold numR
    rw [if_neg (by omega)]
    simp [resT, Tm.zero, Tm.cells]
    rfl
theorem rTimes_c (a b : Int) (ha : -9007199254740991 ≤ a) (ha2 : a ≤ 9007199254740991) (hb : -9007199254740991 ≤ b) (hb2 : b ≤ 9007199254740991) : PureCall T Try.prog 57 [.sc (.int .i64 a), .sc (.int .i64 b)] (resT (timesR a b)) := by
  refine PureCall.of_vc hT [] [] follows Try.call57 Try.func57 rfl (by kernel_rfl) (by simp [AV.pure, AV.pureL]) (by simp [AV.pure, AV.pureL, resT]) ?_
  unfold Try.f57
  simp
  refine vcCall_at (rAbs_c b hb hb2) ?_
  simp
  refine vcCall_at (rAbs_c a ha ha2) ?_
  simp
  have hq := tdiv_abs 9007199254740991 (absI a)
  refine ⟨fun h0 => ⟨h0, by rw [absI_eq]; omega, by unfold i64ok; omega⟩, fun h0 h => ?_, fun h => ?_⟩
  · refine vcCall_at (rEvalB_c _) ?_
    have e : timesR a b = failR overT := by unfold timesR; rw [if_pos ⟨h0, h⟩]
    simp [e, overT, failR, resT]
  · have e : timesR a b = numR (a * b) := by unfold timesR; rw [if_neg (fun q => by have := h q.1; omega)]
    have hm : (a * b).natAbs ≤ 9007199254740991 := by
      by_cases h0 : a = 0
      · subst h0; simp
      · exact mul_fits h0 (h h0)
    refine ⟨by unfold i64ok; omega, ?_⟩
    rw [e]; unfold numR
    rw [if_neg (by omega)]
    simp [resT, Tm.zero, Tm.cells]
    rfl
theorem numR_in {n : Int} (h : -9007199254740991 ≤ n) (h2 : n ≤ 9007199254740991) : numR n = ⟨n, Tm.zero, false⟩ := by unfold numR; rw [if_neg (by omega)]
theorem rOne_c (op : ByteArray) (a : Int) (ha : -9007199254740991 ≤ a) (ha2 : a ≤ 9007199254740991) : PureCall T Try.prog 46 [.sc (.string op), .sc (.int .i64 a)] (.sc (.int .i64 (oneR op a).n)) := by
  refine PureCall.of_vc hT [] [] follows Try.call46 Try.func46 rfl (by kernel_rfl) (by simp [AV.pure, AV.pureL]) (by simp [AV.pure]) ?_
  unfold Try.f46
  have h1 := numR_in (n := -a) (by omega) (by omega)
  have h2 := numR_in (n := absI a) (by unfold absI; omega) (by unfold absI; omega)
  have h3 := numR_in (n := signI a) (by unfold signI; split; omega; split; omega; omega) (by unfold signI; split; omega; split; omega; omega)
  simp
  refine ⟨fun h => ?_, fun h => ⟨fun g => ?_, fun g => ⟨fun q => ?_, fun q => ⟨fun z => ?_, fun z => ?_⟩⟩⟩⟩
  · refine ⟨by unfold i64ok; omega, ?_⟩
    simp [oneR, h, h1]
  · refine vcCall_at (rAbs_c a ha ha2) ?_
    simp [oneR, h, g, h2]
  · simp [oneR, h, g, h3]; simp [signI, q]
  · simp [oneR, h, g, h3]; unfold signI; rw [if_neg (by omega), if_pos z]
  · simp [oneR, h, g, h3]; unfold signI; rw [if_neg (by omega), if_neg (by omega)]
theorem two_known {op : ByteArray} (h : knownB op 2 = true) : op = ⟨#[43]⟩ ∨ op = ⟨#[45]⟩ ∨ op = ⟨#[42]⟩ ∨ op = ⟨#[109, 105, 110]⟩ ∨ op = ⟨#[109, 97, 120]⟩ ∨ op = ⟨#[47, 47]⟩ ∨ op = ⟨#[114, 101, 109]⟩ ∨ op = ⟨#[109, 111, 100]⟩ := by
  unfold knownB at h
  split at h
  · rename_i g; rcases g with g | g | g | g | g | g | g <;> simp [g]
  · split at h
    · rename_i g; simp [g]
    · split at h
      · simp at h
      · simp at h
set_option maxRecDepth 100000 in
theorem rTwo_c (op : ByteArray) (a b : Int) (hk : knownB op 2 = true) (ha : -9007199254740991 ≤ a) (ha2 : a ≤ 9007199254740991) (hb : -9007199254740991 ≤ b) (hb2 : b ≤ 9007199254740991) : PureCall T Try.prog 47 [.sc (.string op), .sc (.int .i64 a), .sc (.int .i64 b)] (resT (twoR op a b)) := by
  have hop := two_known hk
  refine PureCall.of_vc hT [9] [] follows Try.call47 Try.func47 rfl (by kernel_rfl) (by simp [AV.pure, AV.pureL]) (by simp [AV.pure, AV.pureL, resT]) ?_
  unfold Try.f47
  have hm := tmod_abs a b
  have hd := tdiv_abs a b
  rcases hop with rfl | rfl | rfl | rfl | rfl | rfl | rfl | rfl
  · simp
    refine ⟨by unfold i64ok; omega, vcCall_at (rOver_c _) ?_⟩
    simp [resT, twoR]
  · simp
    refine ⟨by unfold i64ok; omega, vcCall_at (rOver_c _) ?_⟩
    simp [resT, twoR]
  · simp
    refine vcCall_at (rTimes_c a b ha ha2 hb hb2) ?_
    simp [resT, twoR]
  · have e := numR_in (n := min a b) (by omega) (by omega)
    simp
    refine ⟨fun h => ?_, fun h => ?_⟩
    · rw [Int.min_eq_right (by omega)] at e
      simp [resT, twoR, e, Int.min_eq_right (by omega : b ≤ a), Tm.zero, Tm.cells]; rfl
    · rw [Int.min_eq_left (by omega)] at e
      simp [resT, twoR, e, Int.min_eq_left (by omega : a ≤ b), Tm.zero, Tm.cells]; rfl
  · have e := numR_in (n := max a b) (by omega) (by omega)
    simp
    refine ⟨fun h => ?_, fun h => ?_⟩
    · rw [Int.max_eq_right (by omega)] at e
      simp [resT, twoR, e, Int.max_eq_right (by omega : a ≤ b), Tm.zero, Tm.cells]; rfl
    · rw [Int.max_eq_left (by omega)] at e
      simp [resT, twoR, e, Int.max_eq_left (by omega : b ≤ a), Tm.zero, Tm.cells]; rfl
  · simp
    refine ⟨fun h => ?_, fun h => ?_⟩
    · refine vcCall_at (rEvalB_c _) ?_
      simp [resT, twoR, divideR, h, noughtT, failR]
    · refine ⟨⟨h, by unfold i64ok; omega⟩, vcCall_at (rOver_c _) ?_⟩
      simp [resT, twoR, divideR, h]
  · simp
    refine ⟨fun h => ?_, fun h => ?_⟩
    · refine vcCall_at (rEvalB_c _) ?_
      simp [resT, twoR, divideR, h, noughtT, failR]
    · refine ⟨h, vcCall_at (rOver_c _) ?_⟩
      simp [resT, twoR, divideR, h]
  · simp
    refine ⟨fun h => ?_, fun h => ?_⟩
    · refine vcCall_at (rEvalB_c _) ?_
      simp [resT, twoR, divideR, h, noughtT, failR]
    · refine ⟨h, fun h1 h2 => ⟨by have := hm h; unfold i64ok; omega, ?_⟩, fun h1 => ?_⟩
      · refine vcCall_at (rOver_c _) ?_
        simp [resT, twoR, divideR, h, moduloI, h1, h2]
      · refine vcCall_at (rOver_c _) ?_
        have e : moduloI a b = a.tmod b := by unfold moduloI; rw [if_neg (fun q => q.2 (h1 q.1))]
        simp [resT, twoR, divideR, h, e]
end Go.T1
end

section
open Go Go.Ab Go.Proofs
namespace Go.T1
set_option maxRecDepth 100000 in
theorem rKnown_c (s : ByteArray) (n : Int) : PureCall T Try.prog 45 [.sc (.string s), .sc (.int .i64 n)] (.sc (.bool (knownB s n))) := by
  refine PureCall.of_vc hT [] [] follows Try.call45 Try.func45 rfl (by kernel_rfl) (by simp [AV.pure, AV.pureL]) (by simp [AV.pure]) ?_
  unfold Try.f45
  simp
  by_cases e0 : s = ⟨#[43]⟩
  · subst e0; simp [knownB]
  by_cases e1 : s = ⟨#[42]⟩
  · subst e1; simp [knownB]
  by_cases e2 : s = ⟨#[47, 47]⟩
  · subst e2; simp [knownB]
  by_cases e3 : s = ⟨#[109, 111, 100]⟩
  · subst e3; simp [knownB]
  by_cases e4 : s = ⟨#[114, 101, 109]⟩
  · subst e4; simp [knownB]
  by_cases e5 : s = ⟨#[109, 105, 110]⟩
  · subst e5; simp [knownB]
  by_cases e6 : s = ⟨#[109, 97, 120]⟩
  · subst e6; simp [knownB]
  by_cases e7 : s = ⟨#[45]⟩
  · subst e7; simp [knownB]
  by_cases e8 : s = ⟨#[97, 98, 115]⟩
  · subst e8; simp [knownB]
  by_cases e9 : s = ⟨#[115, 105, 103, 110]⟩
  · subst e9; simp [knownB]
  simp [knownB, e0, e1, e2, e3, e4, e5, e6, e7, e8, e9]
theorem oneR_in (op : ByteArray) (a : Int) (ha : -9007199254740991 ≤ a) (ha2 : a ≤ 9007199254740991) : (oneR op a).bad = false ∧ (oneR op a).ball = Tm.zero := by
  unfold oneR
  split
  · rw [numR_in (by omega) (by omega)]; exact ⟨rfl, rfl⟩
  split
  · rw [numR_in (by unfold absI; omega) (by unfold absI; omega)]; exact ⟨rfl, rfl⟩
  · rw [numR_in (by unfold signI; split; omega; split; omega; omega) (by unfold signI; split; omega; split; omega; omega)]; exact ⟨rfl, rfl⟩
theorem check_int {n : Int} {s : ByteArray} {l : List Tm} (h : (Tm.mk 2 n s l).check = 0) : -9007199254740991 ≤ n ∧ n ≤ 9007199254740991 := by
  have := ((check_iff _).1 h).1
  simp [Tm.right, partB] at this
  exact this.1.1.1
theorem rReck_c : ∀ t : Tm, t.small → t.check = 0 → PureCall T Try.prog 32 [t.av 24] (resT t.reck) := by
  intro t
  induction t using Tm.ind with
  | _ k n s l ih =>
  intro ht hc
  have hsm : ∀ t ∈ l, t.small := fun t htl => by
    obtain ⟨i, hi, rfl⟩ := List.getElem_of_mem htl
    have := Tm.size_mem hi
    unfold Tm.small at ht ⊢
    simp only [Tm.size] at ht
    omega
  have hck := check_child hc
  refine PureCall.of_vc hT [6] [(9, 2), (14, 2)] follows Try.call32 Try.func32 rfl (by kernel_rfl) (by simp [AV.pure, AV.pureL]) (by simp [AV.pure, AV.pureL, resT]) ?_
  unfold Try.f32
  simp [Tm.cells]
  refine ⟨fun h => ?_, fun h => ⟨fun h1 => ?_, fun h1 hb hi => ?_⟩⟩
  · subst h
    have hn := check_int hc
    simp [Tm.reck, numR_in hn.1 hn.2, resT, Tm.zero, Tm.cells]
    rfl
  · subst h1
    refine vcCall_at rInst_c ?_
    simp [Tm.reck, resT, failR]
  · refine vcCall_at (rKnown_c s l.length) ?_
    simp
    refine ⟨fun h2 => ?_, fun h2 => ?_⟩
    · refine vcCall_at (rInd_c (.mk k n s l) ht) ?_
      simp
      refine vcCall_at (rType_c _ _) ?_
      simp [Tm.reck, h, h1, h2, resT, failR]
    · rcases knownB_len h2 with h3 | h3
      · obtain ⟨x, rfl⟩ : ∃ x, l = [x] := List.length_eq_one_iff.1 (by omega)
        have hr := x.reck_ok
        simp at h2
        simp [Tm.cells, Tm.cellsL]
        refine vcCall_at (ih x (by simp) (hsm x (by simp)) (hck x (by simp))) ?_
        simp [resT]
        refine ⟨fun g => ?_, fun g => ?_⟩
        · refine ⟨fun _ st' => st' = [.cells (x.reck.ball.cells 24), .cells (x.reck.ball.cells 24)], ?_⟩
          simp (decide := true) [vcThen, vcI]
          have hn := hr.1 g
          simp [Tm.reck, Tm.reckL, h, h1, h2, g, hn]
        · have e := oneR_in s x.reck.n (hr.2 g).2.1 (hr.2 g).2.2
          refine vcCall_at (rOne_c s x.reck.n (hr.2 g).2.1 (hr.2 g).2.2) ?_
          simp [Tm.reck, Tm.reckL, h, h1, h2, g, e, Tm.zero, Tm.cells]
          rfl
      · obtain ⟨x, y, rfl⟩ := Tm.len2 (by omega : l.length = 2)
        have hr := x.reck_ok
        simp at h2
        have hq := y.reck_ok
        simp [Tm.cells, Tm.cellsL]
        refine vcCall_at (ih x (by simp) (hsm x (by simp)) (hck x (by simp))) ?_
        simp [resT]
        refine ⟨fun g => ?_, fun g => ?_⟩
        · refine ⟨fun _ st' => st' = [.cells (x.reck.ball.cells 24), .cells (x.reck.ball.cells 24)], ?_⟩
          simp (decide := true) [vcThen, vcI]
          have hn := hr.1 g
          simp [Tm.reck, Tm.reckL, h, h1, h2, g, hn]
        · refine vcCall_at (ih y (by simp) (hsm y (by simp)) (hck y (by simp))) ?_
          simp [resT]
          refine ⟨fun g2 => ?_, fun g2 => ?_⟩
          · refine ⟨fun _ st' => st' = [.cells (y.reck.ball.cells 24), .cells (y.reck.ball.cells 24)], ?_⟩
            simp (decide := true) [vcThen, vcI]
            have hn := hq.1 g2
            simp [Tm.reck, Tm.reckL, h, h1, h2, g, g2, hn]
          · refine vcCall_at (rTwo_c s x.reck.n y.reck.n h2 (hr.2 g).2.1 (hr.2 g).2.2 (hq.2 g2).2.1 (hq.2 g2).2.2) ?_
            simp [Tm.reck, Tm.reckL, h, h1, h2, g, g2, resT]
theorem rEval_c (t : Tm) (ht : t.small) : PureCall T Try.prog 11 [t.av 24] (resT (evalR t)) := by
  refine PureCall.of_vc hT [] [] follows Try.call11 Try.func11 rfl (by kernel_rfl) (by simp [AV.pure, AV.pureL]) (by simp [AV.pure, AV.pureL, resT]) ?_
  unfold Try.f11
  simp
  refine vcCall_at (rCheck_c t ht) ?_
  simp
  refine ⟨fun h => ?_, fun h => ?_⟩
  · refine vcCall_at rSizeB_c ?_
    simp [evalR, h, failR, resT]
  · refine vcCall_at (rReck_c t ht h) ?_
    simp [evalR, h, resT]
set_option maxRecDepth 100000 in
theorem rCmp_c (op : ByteArray) : PureCall T Try.prog 14 [.sc (.string op)] (.sc (.bool (cmpB op))) := by
  refine PureCall.of_vc hT [] [] follows Try.call14 Try.func14 rfl (by kernel_rfl) (by simp [AV.pure, AV.pureL]) (by simp [AV.pure]) ?_
  unfold Try.f14
  simp [cmpB, Bool.or_assoc]
theorem rHolds_c (op : ByteArray) (a b : Int) : PureCall T Try.prog 15 [.sc (.string op), .sc (.int .i64 a), .sc (.int .i64 b)] (.sc (.bool (cmpI op (a - b)))) := by
  refine PureCall.of_vc hT [] [] follows Try.call15 Try.func15 rfl (by kernel_rfl) (by simp [AV.pure, AV.pureL]) (by simp [AV.pure]) ?_
  unfold Try.f15
  simp
  have q1 : (a - b = 0) ↔ a = b := by omega
  have q2 : (a - b < 0) ↔ a < b := by omega
  have q3 : (0 < a - b) ↔ b < a := by omega
  have q4 : (a - b ≤ 0) ↔ a ≤ b := by omega
  have q5 : (0 ≤ a - b) ↔ b ≤ a := by omega
  refine ⟨fun h1 => ?_, fun h1 => ⟨fun h2 => ?_, fun h2 => ⟨fun h3 => ?_, fun h3 => ⟨fun h4 => ?_, fun h4 => ⟨fun h5 => ?_, fun h5 => ⟨fun h6 => ?_, fun h6 => ?_⟩⟩⟩⟩⟩⟩
  · simp [cmpI, h1, q1]
  · simp [cmpI, h2, q1]
  · simp [cmpI, h3, q2]
  · simp [cmpI, h4, q3]
  · simp [cmpI, h5, q4]
  · simp [cmpI, h6, q5]
  · simp [cmpI, h1, h2, h3, h4, h5, h6]
theorem cmpI_sign (op : ByteArray) (n : Int) : cmpI op (signI n) = cmpI op n := by
  have h1 : (signI n = 0) ↔ n = 0 := by unfold signI; split; omega; split; omega; omega
  have h2 : (signI n < 0) ↔ n < 0 := by unfold signI; split; omega; split; omega; omega
  have h3 : (0 < signI n) ↔ 0 < n := by unfold signI; split; omega; split; omega; omega
  have h4 : (signI n ≤ 0) ↔ n ≤ 0 := by omega
  have h5 : (0 ≤ signI n) ↔ 0 ≤ n := by omega
  unfold cmpI
  simp only [h1, h2, h3, h4, h5]
def cmpA (op : ByteArray) (a b : Tm) : Bool × Tm × Bool :=
  if cmpB op = false then (false, Tm.zero, true)
  else if (evalR a).bad = true then (false, (evalR a).ball, false)
  else if (evalR b).bad = true then (false, (evalR b).ball, false)
  else (cmpI op ((evalR a).n - (evalR b).n), Tm.zero, true)
theorem Compare_c (op : ByteArray) (a b : Tm) (ha : a.small) (hb : b.small) : PureCall T Try.prog 13 [.sc (.string op), a.av 24, b.av 24]
    (.tup [.sc (.bool (cmpA op a b).1), (cmpA op a b).2.1.av 24, .sc (.bool (cmpA op a b).2.2)]) := by
  refine PureCall.of_vc hT [12] [(6, 2), (9, 2)] follows Try.call13 Try.func13 rfl (by kernel_rfl) (by simp [AV.pure, AV.pureL]) (by simp [AV.pure, AV.pureL]) ?_
  unfold Try.f13
  simp
  refine vcCall_at (holds_c op 0) ?_
  simp
  have hra := evalR_ok a
  have hrb := evalR_ok b
  refine ⟨fun h => ?_, fun h => ?_⟩
  · simp [cmpA, h, Tm.zero, Tm.cells]; rfl
  · refine vcCall_at (Eval_c a ha) ?_
    simp
    refine ⟨fun g => ?_, fun g => ?_⟩
    · refine ⟨fun _ st' => st' = [.cells ((evalR a).ball.cells 24), .cells ((evalR a).ball.cells 24)], ?_⟩
      simp (decide := true) [vcThen, vcI]
      simp [cmpA, h, g]
    · refine vcCall_at (Eval_c b hb) ?_
      simp
      refine ⟨fun g2 => ?_, fun g2 => ?_⟩
      · refine ⟨fun _ st' => st' = [.cells ((evalR b).ball.cells 24), .cells ((evalR b).ball.cells 24)], ?_⟩
        simp (decide := true) [vcThen, vcI]
        simp [cmpA, h, g, g2]
      · have h1 := hra.2 g
        have h2 := hrb.2 g2
        refine ⟨by unfold i64ok; omega, vcCall_at (sign_c _) ?_⟩
        simp
        refine vcCall_at (holds_c op _) ?_
        simp [cmpA, h, g, g2, Tm.zero, Tm.cells, cmpI_sign]
        rfl
end Go.T1
end
