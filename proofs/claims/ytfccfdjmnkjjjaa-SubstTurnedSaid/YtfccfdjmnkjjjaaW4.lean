/- Contracts of the functions of package subst and of what it asks of package term: each at every term of a size that is bounded. -/
import Derived.Test.YtfccfdjmnkjjjaaW3
import Derived.Test.YtfccfdjmnkjjjaaRows
import Derived.KernelRfl
import Derived.SizedLaws
import Derived.Carry
import Derived.ProofKit
import Derived.OpenShut
import Derived.JoinedOf
import Derived.ChangeSame
set_option linter.unusedSimpArgs false
set_option linter.unusedVariables false
set_option linter.unusedSectionVars false
set_option linter.unnecessarySimpa false
section
open Go Go.Ab Go.Proofs
namespace Go.T1
noncomputable abbrev T : Tab := tabOf Try.prog
theorem hT : TabOk T Try.prog := tabOf_ok _
@[simp] theorem ty3 : T 3 = some ⟨1, 8, .int .i64, [], some (.int .i64 0)⟩ := by kernel_rfl
@[simp] theorem ty50 : T 50 = some ⟨1, 8, .int .i64, [], some (.int .i64 0)⟩ := by kernel_rfl
@[simp] theorem ty4 : T 4 = some ⟨1, 1, .bool, [], some (.bool false)⟩ := by kernel_rfl
@[simp] theorem ty9 : T 9 = some ⟨1, 16, .str, [], some (.string .empty)⟩ := by kernel_rfl
@[simp] theorem ty30 : T 30 = some ⟨1, 24, .slice 32, [], some (.slice none 0 0)⟩ := by kernel_rfl
@[simp] theorem ty32 : T 32 = some ⟨4, 56, .strct, [(0,1),(1,1),(2,1),(3,1)], some (.agg #[.int .i64 0, .int .i64 0, .string .empty, .slice none 0 0])⟩ := by kernel_rfl
@[simp] theorem ty91 : T 91 = some ⟨3, 24, .strct, [(0,1),(1,1),(2,1)], some (.agg #[.int .i64 0, .int .i64 0, .bool false])⟩ := by kernel_rfl
theorem follows : Try.prog.follows .mixedOrders = true := by kernel_rfl
end Go.T1
end

section
open Go Go.Ab Go.Proofs
namespace Go.T1
set_option maxRecDepth 100000 in
theorem bare_c (k n : Int) (s : ByteArray) (l : List Tm) : PureCall T Try.prog 71 [(Tm.mk k n s l).av 32] (.sc (.bool (decide (s = ⟨#[]⟩) && decide (l.length = 0)))) := by
  refine PureCall.of_vc hT [] [] follows Try.call71 Try.func71 rfl (by kernel_rfl) (by simp [AV.pure, AV.pureL]) rfl ?_
  unfold Try.f71
  simp [Tm.cells]

set_option maxRecDepth 100000 in
theorem refpart_c (k n : Int) (s : ByteArray) (l : List Tm) : PureCall T Try.prog 59 [(Tm.mk k n s l).av 32] (.sc (.bool (partB k n s l.length))) := by
  generalize hr : partB k n s l.length = r
  refine PureCall.of_vc hT [] [] follows Try.call59 Try.func59 rfl (by kernel_rfl) (by simp [AV.pure, AV.pureL]) rfl ?_
  unfold Try.f59
  simp [Tm.cells]
  subst hr
  unfold partB
  refine ⟨fun h _ => by simp [h], fun h1 => ⟨fun h _ => by simp [h], fun h2 => ⟨fun h _ => by simp [h], fun h3 => ⟨fun h _ _ => by simp [h], fun h4 => by simp [*]⟩⟩⟩⟩

set_option maxRecDepth 100000 in
theorem part_c (k n : Int) (s : ByteArray) (l : List Tm) : PureCall T Try.prog 68 [(Tm.mk k n s l).av 32] (.sc (.bool (partB k n s l.length))) := by
  generalize hr : partB k n s l.length = r
  refine PureCall.of_vc hT [] [] follows Try.call68 Try.func68 rfl (by kernel_rfl) (by simp [AV.pure, AV.pureL]) rfl ?_
  unfold Try.f68
  simp [Tm.cells]
  refine ⟨fun h => vcCall_at (bare_c k n s l) ?_, fun h1 => ⟨fun h => vcCall_at (bare_c k n s l) ?_, fun h2 => ⟨fun h _ => by subst hr; simp [h, partB], fun h3 => ⟨fun h _ _ => by subst hr; simp [h, partB], fun h4 => by subst hr; simp [partB, *]⟩⟩⟩⟩
  · simp
    subst hr; simp [h, partB, Bool.and_assoc]
  · simp
    subst hr; simp [h, partB, Bool.and_assoc]

/-- What is counted. -/
def cntB (p d : Int) (b : Bool) : Blk := .cells [.sc (.int .i64 p), .sc (.int .i64 d), .sc (.bool b)]

set_option maxRecDepth 100000 in
theorem count_c : ∀ (t : Tm) (p d dep : Int) (b : Bool) (id : Nat) (st : St), st[id]? = some (cntB p d b) → 0 ≤ p → p + t.size ≤ 1000000000 → 0 ≤ dep → dep + t.depth ≤ 1000000000 →
    ICall T Try.prog 65 [.ptr id 0, t.av 32, .sc (.int .i64 dep)] st (fun r st' => r = .tup [] ∧ st' = st.set id (cntB (p + t.size) (max d (dep + t.depth - 1)) (b || !t.right))) := by
  refine Tm.ind fun k n s l ih => ?_
  intro p d dep b id st hid hp hps hdep hdd
  have hidl : id < st.length := (List.getElem?_eq_some_iff.1 hid).1
  refine ICall.of_vc hT [] [(7, 4)] follows Try.call65 Try.func65 rfl (by kernel_rfl) fun hfix => ?_
  unfold Try.f65
  have hset : ∀ b, (st.set id b)[id]? = some b := fun b => by simp [hidl]
  unfold cntB at hid
  clear hidl
  simp [Tm.cells, hid, hset, cntB]
  simp only [Tm.size, Tm.depth] at hps hdd
  have hb1 := Tm.depthL_le_sizeL l
  refine ⟨by unfold i64ok; omega, vcCall_at (part_c k n s l) ?_⟩
  simp [hid, hset]
  intro hl1 hl2
  refine vcC_loop [] (fun m σ st' => ∃ i : Nat, m = l.length - i ∧ i ≤ l.length ∧ σ 0 = .ptr id 0 ∧ σ 2 = .sc (.int .i64 dep) ∧ σ 37 = .lst 32 (Tm.cellsL 32 l) ∧ σ 38 = .sc (.int .i64 l.length) ∧ σ 39 = .sc (.int .i64 i) ∧
    st' = st.set id (cntB (p + 1 + Tm.sizeL (l.take i)) (max (max d dep) (dep + Tm.depthL (l.take i))) ((b || !partB k n s l.length) || !Tm.rightL (l.take i)))) l.length ⟨0, by simp, by simp, by simp, by simp, by simp, by simp, by simp, ?_⟩ ?_
  · simp [Tm.sizeL, Tm.depthL, Tm.rightL, cntB]
  rintro m σ st' ⟨i, rfl, hi, s0, s2, s37, s38, s39, rfl⟩
  rcases Nat.lt_or_ge i l.length with hlt | hge
  · have h1 := Tm.size_get hlt
    have h2 := Tm.sizeL_take_le l i
    have h3 := Tm.depthL_take_le l (i + 1)
    rw [Tm.depthL_take hlt] at h3
    have h4 := Tm.depth_le_size l[i]
    simp [s0, s2, s37, s38, s39, hlt]
    refine ⟨by unfold i64ok; omega, vcICall_of (ih l[i] (List.getElem_mem hlt) _ _ _ _ id _ (hset _) (by omega) (by omega) (by omega) (by omega)) ?_⟩
    rintro r st' ⟨rfl, rfl⟩ _
    simp [s0, s2, s37, s38, s39]
    refine ⟨by unfold i64ok; omega, l.length - (i + 1), by omega, i + 1, rfl, by omega, by omega, ?_⟩
    rw [Tm.sizeL_take hlt, Tm.depthL_take hlt, Tm.rightL_take hlt]
    congr 2
    · omega
    · omega
    · simp [Bool.or_assoc]
  · simp [s0, s2, s37, s38, s39, Nat.not_lt.2 hge]
    refine endP_mk (.tup []) (by simp) (by simp) ⟨rfl, ?_⟩
    have hi : i = l.length := by omega
    subst hi
    rw [cutSt_set0 hfix]
    have e1 : p + 1 + (Tm.sizeL l : Int) = p + (1 + Tm.sizeL l) := by omega
    have e2 : max d (max dep (dep + (Tm.depthL l : Int))) = max d (dep + (Tm.depthL l + 1) - 1) := by omega
    simp [cntB, Tm.size, Tm.depth, Tm.right, e1, e2, Bool.or_assoc]

set_option maxRecDepth 100000 in
theorem measure_c (t : Tm) (ht : t.small) : PureCall T Try.prog 58 [t.av 32] (.agg [.sc (.int .i64 t.size), .sc (.int .i64 t.depth), .sc (.bool (!t.right))]) := by
  unfold Tm.small at ht
  refine PureCall.of_vc hT [] [(2, 1)] follows Try.call58 Try.func58 rfl (by kernel_rfl) (by simp [AV.pure, AV.pureL]) rfl ?_
  unfold Try.f58
  have h1 := Tm.depth_le_size t
  have h2 := Tm.depth_pos t
  simp
  refine vcICall_of (count_c t 0 0 1 false 1 _ (by simp [cntB]) (by omega) (by omega) (by omega) (by omega)) ?_
  rintro r st' ⟨rfl, rfl⟩ _
  simp [cntB]
  omega

set_option maxRecDepth 100000 in
theorem check_c (t : Tm) (ht : t.small) : PureCall T Try.prog 43 [t.av 32] (.sc (.int .i64 t.check)) := by
  generalize hr : t.check = r
  refine PureCall.of_vc hT [] [] follows Try.call43 Try.func43 rfl (by kernel_rfl) (by simp [AV.pure, AV.pureL]) rfl ?_
  unfold Try.f43
  simp
  refine vcCall_at (measure_c t ht) ?_
  simp
  unfold Tm.check at hr
  refine ⟨fun h => by rw [if_pos h] at hr; exact hr, fun h => ?_⟩
  rw [if_neg (by simp [h])] at hr
  refine ⟨fun h1 => by rw [if_pos (by omega)] at hr; exact hr, fun h1 => ?_⟩
  rw [if_neg (by omega)] at hr
  exact ⟨fun h2 => by rw [if_pos (by omega)] at hr; exact hr, fun h2 => by rw [if_neg (by omega)] at hr; exact hr⟩

set_option maxRecDepth 100000 in
theorem may_c (t : Tm) (ht : t.small) : PureCall T Try.prog 55 [t.av 32] (.sc (.bool (decide (t.check = 0)))) := by
  refine PureCall.of_vc hT [] [] follows Try.call55 Try.func55 rfl (by kernel_rfl) (by simp [AV.pure, AV.pureL]) rfl ?_
  unfold Try.f55
  simp
  refine vcCall_at (check_c t ht) ?_
  simp

set_option maxRecDepth 100000 in
theorem exact_c : ∀ a b : Tm, PureCall T Try.prog 17 [a.av 32, b.av 32] (.sc (.bool (decide (a = b)))) := by
  refine Tm.ind fun k n s l ih => ?_
  rintro ⟨k', n', s', l'⟩
  generalize hr : decide (Tm.mk k n s l = Tm.mk k' n' s' l') = r
  refine PureCall.of_vc hT [] [] follows Try.call17 Try.func17 rfl (by kernel_rfl) (by simp [AV.pure, AV.pureL]) rfl ?_
  unfold Try.f17
  simp [Tm.cells]
  intro hb1 hb2
  refine ⟨fun h => ?_, fun h1 h2 h3 h4 => ?_⟩
  · subst hr; simp; rintro rfl rfl rfl rfl; simp at h
  · subst h1 h2 h3
    have hb1 := hb1 rfl rfl rfl
    have hlen : l.length = l'.length := by omega
    refine vcC_loop [] (fun m σ st => ∃ i : Nat, m = l.length - i ∧ i ≤ l.length ∧ l.take i = l'.take i ∧ σ 2 = .eptr [.sc (.int .i64 k), .sc (.int .i64 n), .sc (.string s), .lst 32 (Tm.cellsL 32 l)] ∧
      σ 3 = .eptr [.sc (.int .i64 k), .sc (.int .i64 n), .sc (.string s), .lst 32 (Tm.cellsL 32 l')] ∧ σ 5 = .sc (.int .i64 i) ∧ st = []) l.length ⟨0, by simp⟩ ?_
    rintro m σ st ⟨i, rfl, hi, htk, s2, s3, s5, rfl⟩
    rcases Nat.lt_or_ge i l.length with hlt | hge
    · have hlt' : i < l'.length := hlen ▸ hlt
      simp [s2, s3, s5, hlt, hlt']
      refine fun _ _ => vcCall_at (ih l[i] (List.getElem_mem hlt) l'[i]) ?_
      simp [s2, s3, s5]
      refine ⟨fun hne => ?_, fun he => ⟨by simp [i64ok]; omega, l.length - (i + 1), by omega, i + 1, rfl, by omega, ?_, by simp⟩⟩
      · subst hr; simp; rintro rfl; exact hne rfl
      · rw [List.take_add_one, List.take_add_one, htk]; simp [hlt, hlt', he]
    · simp [s2, s3, s5, Nat.not_lt.2 hge]
      subst hr
      have : i = l.length := by omega
      subst this
      simp
      rw [List.take_of_length_le (by omega), List.take_of_length_le (by omega)] at htk
      exact fun _ _ => htk
end Go.T1
end

section
open Go Go.Ab Go.Proofs
namespace Go.T1
set_option maxRecDepth 100000 in
theorem Var_c (n : Int) : PureCall T Try.prog 57 [.sc (.int .i64 n)] ((Tm.mk 1 n ⟨#[]⟩ []).av 32) := by
  refine PureCall.of_vc hT [] [] follows Try.call57 Try.func57 rfl (by kernel_rfl) rfl rfl ?_
  unfold Try.f57
  simp [Tm.cells, Tm.cellsL]
  rfl
set_option maxRecDepth 100000 in
theorem rVar_c (n : Int) : PureCall T Try.prog 32 [.sc (.int .i64 n)] ((Tm.mk 1 n ⟨#[]⟩ []).av 32) := by
  refine PureCall.of_vc hT [] [] follows Try.call32 Try.func32 rfl (by kernel_rfl) rfl rfl ?_
  unfold Try.f32
  simp [Tm.cells, Tm.cellsL]
  rfl
set_option maxRecDepth 100000 in
theorem rInt_c (n : Int) : PureCall T Try.prog 34 [.sc (.int .i64 n)] ((Tm.mk 2 n ⟨#[]⟩ []).av 32) := by
  refine PureCall.of_vc hT [] [] follows Try.call34 Try.func34 rfl (by kernel_rfl) rfl rfl ?_
  unfold Try.f34
  simp [Tm.cells, Tm.cellsL]
  rfl
set_option maxRecDepth 100000 in
theorem rAtom_c (s : ByteArray) : PureCall T Try.prog 33 [.sc (.string s)] ((Tm.mk 3 0 s []).av 32) := by
  refine PureCall.of_vc hT [] [] follows Try.call33 Try.func33 rfl (by kernel_rfl) rfl rfl ?_
  unfold Try.f33
  simp [Tm.cells, Tm.cellsL]

/-- A compound, or an atom. -/
def compT (s : ByteArray) (l : List Tm) : Tm := if l = [] then .mk 3 0 s [] else .mk 4 0 s l

set_option maxRecDepth 100000 in
theorem rComp_c (s : ByteArray) (l : List Tm) : PureCall T Try.prog 31 [.sc (.string s), .lst 32 (Tm.cellsL 32 l)] ((compT s l).av 32) := by
  unfold compT
  refine PureCall.of_vc hT [] [] follows Try.call31 Try.func31 rfl (by kernel_rfl) (by simp [AV.pure, AV.pureL]) (by simp [AV.pure]) ?_
  unfold Try.f31
  simp
  intro h1 h2
  refine ⟨fun h => ?_, fun h => ?_⟩
  · subst h
    refine vcCall_at (rAtom_c s) ?_
    simp
  · rw [if_neg h]
    simp [Tm.cells, h1]

end Go.T1
end

section
open Go Go.Ab Go.Proofs
namespace Go.T1
set_option maxRecDepth 100000 in
theorem build_c (fn : FuncId) (fs cs : List AV) (hF : (AV.fn (.func fn) fs cs).pure = true) (f : Int → Tm) :
    ∀ t : Tm, (∀ n ∈ t.occ, PureCall T Try.prog fn (fs ++ .sc (.int .i64 n) :: cs) ((f n).av 32)) → PureCall T Try.prog 56 [t.av 32, .fn (.func fn) fs cs] ((t.sub f).av 32) := by
  refine Tm.ind fun k n s l ih => ?_
  intro hx
  refine PureCall.of_vc hT [5] [] follows Try.call56 Try.func56 rfl (by kernel_rfl) (by simp [AV.pure, AV.pureL]; simpa [AV.pure] using hF) (by simp [AV.pure]) ?_
  unfold Try.f56
  simp [Tm.cells]
  refine ⟨fun h => ?_, fun h => ?_⟩
  · refine vcCall_at (hx n (by simp [Tm.occ, h])) ?_
    simp [h, Tm.sub]
  · intro hl1 hl2
    refine vcC_loop [(32, .cell 1 3)] (fun m σ st => ∃ (i : Nat) (al : Bool), m = l.length - i ∧ i ≤ l.length ∧ σ 1 = .fn (.func fn) fs cs ∧ σ 4 = .ptr 0 0 ∧ σ 5 = .ptr 1 0 ∧ σ 23 = .lst 32 (Tm.cellsL 32 l) ∧
      σ 24 = .sc (.int .i64 l.length) ∧ σ 25 = .sc (.int .i64 i) ∧
      st = [.cells [.sc (.int .i64 0), .sc (.int .i64 0), .sc (.string .empty), .nils], .cells [.sc (.int .i64 k), .sc (.int .i64 n), .sc (.string s), .own 2 i], .row 32 i al (Tm.cellsL 32 (Tm.subL f (l.take i)))]) l.length ?_ ?_
    · simp [Tm.subL, Tm.cellsL]
      exact ⟨0, by simp, by simp, by simp, rfl, by simp [Tm.subL]⟩
    rintro m σ st ⟨i, al, rfl, hi, s1, s4, s5, s23, s24, s25, rfl⟩
    rcases Nat.lt_or_ge i l.length with hlt | hge
    · simp [s1, s4, s5, s23, s24, s25, hlt]
      refine vcCall_at (ih l[i] (List.getElem_mem hlt) fun m hm => hx m (by simp only [Tm.occ, if_neg h]; exact Tm.occ_mem (List.getElem_mem hlt) hm)) ?_
      simp [s1, s4, s5, s23, s24, s25]
      refine ⟨by rw [Nat.min_eq_left hi]; omega, by unfold i64ok; omega, l.length - (i + 1), by omega, i + 1, rfl, by omega, by omega, rfl, ?_⟩
      rw [Tm.subL_take hlt]
      simp [Tm.cellsL]
    · have hi : i = l.length := by omega
      subst hi
      simp [s1, s4, s5, s23, s24, s25]
      simp [Tm.sub, h, Tm.cells]
end Go.T1
end

section
open Go Go.Ab Go.Proofs
namespace Go.T1
set_option maxRecDepth 100000 in
theorem rright_c : ∀ t : Tm, PureCall T Try.prog 45 [t.av 32] (.sc (.bool t.right)) := by
  refine Tm.ind fun k n s l ih => ?_
  generalize hr : (Tm.mk k n s l).right = r
  simp only [Tm.right] at hr
  refine PureCall.of_vc hT [] [] follows Try.call45 Try.func45 rfl (by kernel_rfl) (by simp [AV.pure, AV.pureL]) rfl ?_
  unfold Try.f45
  simp [Tm.cells]
  refine vcCall_at (refpart_c k n s l) ?_
  simp
  refine ⟨fun h => by simp [h] at hr; exact hr.symm ▸ rfl, fun h => ?_⟩
  rw [h, Bool.true_and] at hr
  refine vcC_loop [] (fun m σ st => ∃ i : Nat, m = l.length - i ∧ i ≤ l.length ∧ Tm.rightL (l.take i) = true ∧ σ 1 = .eptr [.sc (.int .i64 k), .sc (.int .i64 n), .sc (.string s), .lst 32 (Tm.cellsL 32 l)] ∧
    σ 3 = .sc (.int .i64 i) ∧ st = []) l.length ⟨0, by simp [Tm.rightL]⟩ ?_
  rintro m σ st ⟨i, rfl, hi, htk, s1, s3, rfl⟩
  rcases Nat.lt_or_ge i l.length with hlt | hge
  · simp [s1, s3, hlt]
    refine fun hb1 hb2 => vcCall_at (ih l[i] (List.getElem_mem hlt)) ?_
    simp [s1, s3]
    have h2 : Tm.rightL (l.take (i + 1)) = l[i].right := by rw [Tm.rightL_take hlt, htk, Bool.true_and]
    refine ⟨fun hf => ?_, fun ht => ⟨by unfold i64ok; omega, l.length - (i + 1), by omega, i + 1, rfl, by omega, by rw [h2]; exact ht, by omega⟩⟩
    rw [← hr, ← List.take_append_drop (i + 1) l, Tm.rightL_append, h2, hf]; rfl
  · have hi : i = l.length := by omega
    subst hi
    simp [s1, s3]
    rw [List.take_length] at htk
    rw [← hr, htk]
    exact fun _ _ => rfl

set_option maxRecDepth 100000 in
theorem rDepth_c : ∀ t : Tm, t.small → PureCall T Try.prog 46 [t.av 32] (.sc (.int .i64 t.depth)) := by
  refine Tm.ind fun k n s l ih => ?_
  intro hs
  have hsm : 1 + Tm.sizeL l ≤ 900000000 := hs
  have hds := Tm.depthL_le_sizeL l
  refine PureCall.of_vc hT [] [] follows Try.call46 Try.func46 rfl (by kernel_rfl) (by simp [AV.pure, AV.pureL]) rfl ?_
  unfold Try.f46
  simp [Tm.cells]
  refine vcC_loop [] (fun m σ st => ∃ i : Nat, m = l.length - i ∧ i ≤ l.length ∧ σ 1 = .eptr [.sc (.int .i64 k), .sc (.int .i64 n), .sc (.string s), .lst 32 (Tm.cellsL 32 l)] ∧
    σ 4 = .sc (.int .i64 i) ∧ σ 3 = .sc (.int .i64 (Tm.depthL (l.take i))) ∧ st = []) l.length ⟨0, by simp [Tm.depthL]⟩ ?_
  rintro m σ st ⟨i, rfl, hi, s1, s4, s3, rfl⟩
  rcases Nat.lt_or_ge i l.length with hlt | hge
  · have h1 := Tm.size_get hlt
    simp [s1, s3, s4, hlt]
    refine fun hb1 hb2 => vcCall_at (ih l[i] (List.getElem_mem hlt) (by unfold Tm.small; omega)) ?_
    simp [s1, s3, s4]
    have h2 := Tm.depthL_take hlt
    exact ⟨fun hf => ⟨by unfold i64ok; omega, l.length - (i + 1), by omega, i + 1, rfl, by omega, by omega, by omega⟩, fun hf => ⟨by unfold i64ok; omega, l.length - (i + 1), by omega, i + 1, rfl, by omega, by omega, by omega⟩⟩
  · have hi : i = l.length := by omega
    subst hi
    simp [s1, s3, s4, Tm.depth]
    intro _ _
    unfold i64ok; omega

set_option maxRecDepth 100000 in
theorem rSize_c : ∀ t : Tm, t.small → PureCall T Try.prog 24 [t.av 32] (.sc (.int .i64 t.size)) := by
  refine Tm.ind fun k n s l ih => ?_
  intro hs
  have hsm : 1 + Tm.sizeL l ≤ 900000000 := hs
  refine PureCall.of_vc hT [] [] follows Try.call24 Try.func24 rfl (by kernel_rfl) (by simp [AV.pure, AV.pureL]) rfl ?_
  unfold Try.f24
  simp [Tm.cells]
  refine vcC_loop [] (fun m σ st => ∃ i : Nat, m = l.length - i ∧ i ≤ l.length ∧ σ 1 = .eptr [.sc (.int .i64 k), .sc (.int .i64 n), .sc (.string s), .lst 32 (Tm.cellsL 32 l)] ∧
    σ 4 = .sc (.int .i64 i) ∧ σ 3 = .sc (.int .i64 (1 + Tm.sizeL (l.take i))) ∧ st = []) l.length ⟨0, by simp [Tm.sizeL]⟩ ?_
  rintro m σ st ⟨i, rfl, hi, s1, s4, s3, rfl⟩
  rcases Nat.lt_or_ge i l.length with hlt | hge
  · have h1 := Tm.size_get hlt
    simp [s1, s3, s4, hlt]
    refine fun hb1 hb2 => vcCall_at (ih l[i] (List.getElem_mem hlt) (by unfold Tm.small; omega)) ?_
    simp [s1, s3, s4]
    have h2 := Tm.sizeL_take hlt
    exact ⟨by unfold i64ok; omega, by unfold i64ok; omega, l.length - (i + 1), by omega, i + 1, rfl, by omega, by omega, by omega⟩
  · have hi : i = l.length := by omega
    subst hi
    simp [s1, s3, s4, Tm.size]

set_option maxRecDepth 100000 in
theorem rCheck_c (t : Tm) (ht : t.small) : PureCall T Try.prog 22 [t.av 32] (.sc (.int .i64 t.check)) := by
  generalize hr : t.check = r
  unfold Tm.check at hr
  refine PureCall.of_vc hT [] [] follows Try.call22 Try.func22 rfl (by kernel_rfl) (by simp [AV.pure, AV.pureL]) rfl ?_
  unfold Try.f22
  simp
  refine vcCall_at (rright_c t) ?_
  simp
  refine ⟨fun h => by rw [if_pos h] at hr; exact hr, fun h => ?_⟩
  rw [if_neg (by simp [h])] at hr
  refine vcCall_at (rDepth_c t ht) ?_
  simp
  refine ⟨fun h1 => by rw [if_pos (by omega)] at hr; exact hr, fun h1 => ?_⟩
  rw [if_neg (by omega)] at hr
  refine vcCall_at (rSize_c t ht) ?_
  simp
  exact ⟨fun h2 => by rw [if_pos (by omega)] at hr; exact hr, fun h2 => by rw [if_neg (by omega)] at hr; exact hr⟩
end Go.T1
end

section
open Go Go.Ab Go.Proofs
namespace Go.T1
set_option maxRecDepth 100000 in
theorem equalFunc_c (F : FuncId) (a b : List Tm) (ih : ∀ x ∈ a, ∀ y, PureCall T Try.prog F [x.av 32, y.av 32] (.sc (.bool (decide (x = y))))) :
    PureCall T Try.prog 63 [.lst 32 (Tm.cellsL 32 a), .lst 32 (Tm.cellsL 32 b), .fn (.func F) [] []] (.sc (.bool (decide (a = b)))) := by
  generalize hr : decide (a = b) = r
  refine PureCall.of_vc hT [] [] follows Try.call63 Try.func63 rfl (by kernel_rfl) (by simp [AV.pure, AV.pureL]) rfl ?_
  unfold Try.f63
  simp
  intro hb1 hb2 hb3 hb4
  refine ⟨fun h => by subst hr; simp; rintro rfl; exact h rfl, fun h => ?_⟩
  have hlen : a.length = b.length := by omega
  intro _ _
  refine vcC_loop [] (fun m σ st => ∃ i : Nat, m = a.length - i ∧ i ≤ a.length ∧ a.take i = b.take i ∧ σ 15 = .lst 32 (Tm.cellsL 32 a) ∧ σ 1 = .lst 32 (Tm.cellsL 32 b) ∧ σ 2 = .fn (.func F) [] [] ∧ σ 16 = .sc (.int .i64 a.length) ∧ σ 17 = .sc (.int .i64 i)) a.length ⟨0, by simp⟩ ?_
  rintro m σ st ⟨i, rfl, hi, htk, s15, s1, s2, s16, s17⟩
  rcases Nat.lt_or_ge i a.length with hlt | hge
  · have hlt' : i < b.length := hlen ▸ hlt
    simp [s15, s1, s2, s16, s17, hlt, hlt']
    refine vcCall_at (ih a[i] (List.getElem_mem hlt) b[i]) ?_
    simp [s15, s1, s2, s16, s17]
    refine ⟨fun hne => ?_, fun he => ⟨by unfold i64ok; omega, a.length - (i + 1), by omega, i + 1, rfl, by omega, ?_, by omega⟩⟩
    · subst hr; simp; rintro rfl; exact hne rfl
    · rw [Tm.take_succ hlt, Tm.take_succ hlt', htk, he]
  · have hi : i = a.length := by omega
    subst hi
    simp [s15, s1, s2, s16, s17]
    rw [List.take_length, hlen, List.take_length] at htk
    subst hr; simpa using htk

set_option maxRecDepth 100000 in
theorem indexFunc_c (F : FuncId) (fs cs : List AV) (hF : (AV.fn (.func F) fs cs).pure = true) (p : Tm → Bool) (l : List Tm) (ih : ∀ x ∈ l, PureCall T Try.prog F (fs ++ x.av 32 :: cs) (.sc (.bool (p x)))) :
    PureCall T Try.prog 72 [.lst 32 (Tm.cellsL 32 l), .fn (.func F) fs cs] (.sc (.int .i64 (Tm.fi p l 0))) := by
  generalize hr : Tm.fi p l 0 = r
  refine PureCall.of_vc hT [] [] follows Try.call72 Try.func72 rfl (by kernel_rfl) (by simp [AV.pureL, hF]; simp [AV.pure]) rfl ?_
  unfold Try.f72
  simp
  intro hb1 hb2
  refine vcC_loop [] (fun m σ st => ∃ i : Nat, m = l.length - i ∧ i ≤ l.length ∧ Tm.fi p (l.drop i) i = r ∧ σ 0 = .lst 32 (Tm.cellsL 32 l) ∧ σ 1 = .fn (.func F) fs cs ∧ σ 7 = .sc (.int .i64 l.length) ∧ σ 8 = .sc (.int .i64 i)) l.length ⟨0, by simp [hr]⟩ ?_
  rintro m σ st ⟨i, rfl, hi, htk, s0, s1, s7, s8⟩
  rcases Nat.lt_or_ge i l.length with hlt | hge
  · simp [s0, s1, s7, s8, hlt]
    refine vcCall_at (ih l[i] (List.getElem_mem hlt)) ?_
    simp [s0, s1, s7, s8]
    rw [List.drop_eq_getElem_cons hlt] at htk
    simp only [Tm.fi] at htk
    refine ⟨fun hp => ?_, fun hp => ⟨by unfold i64ok; omega, l.length - (i + 1), by omega, i + 1, rfl, by omega, ?_, by omega⟩⟩
    · rw [if_pos hp] at htk; exact htk
    · rw [if_neg (by simp [hp])] at htk; exact htk
  · have hi : i = l.length := by omega
    subst hi
    simp [s0, s1, s7, s8]
    rw [List.drop_length] at htk
    exact htk

set_option maxRecDepth 100000 in
theorem containsFunc_c (F : FuncId) (fs cs : List AV) (hF : (AV.fn (.func F) fs cs).pure = true) (p : Tm → Bool) (l : List Tm) (ih : ∀ x ∈ l, PureCall T Try.prog F (fs ++ x.av 32 :: cs) (.sc (.bool (p x)))) :
    PureCall T Try.prog 69 [.lst 32 (Tm.cellsL 32 l), .fn (.func F) fs cs] (.sc (.bool (l.any p))) := by
  refine PureCall.of_vc hT [] [] follows Try.call69 Try.func69 rfl (by kernel_rfl) (by simp [AV.pureL, hF]; simp [AV.pure]) rfl ?_
  unfold Try.f69
  simp
  refine vcCall_at (indexFunc_c F fs cs hF p l ih) ?_
  simp
  rw [Bool.eq_iff_iff, ← Tm.fi_iff p l 0]; simp

set_option maxRecDepth 100000 in
theorem Clone_c (t : Tm) (ht : t.small) : PureCall T Try.prog 41 [t.av 32] ((if t.check = 0 then t else Tm.zero).av 32) := by
  refine PureCall.of_vc hT [] [] follows Try.call41 Try.func41 rfl (by kernel_rfl) (by simp [AV.pure, AV.pureL]) (by simp [AV.pure]) ?_
  unfold Try.f41
  simp
  refine vcCall_at (may_c t ht) ?_
  simp
  refine ⟨fun h => ?_, fun h => ?_⟩
  · rw [if_neg h]; simp [Tm.zero, Tm.cells, Tm.cellsL]; rfl
  · refine vcCall_at (build_c 57 [] [] rfl Tm.var t fun n _ => Var_c n) ?_
    simp [h, Tm.sub_var t (Tm.right_of_check h)]

/-- What a variable is replaced by. -/
def repF (l : List Tm) (n : Int) : Tm := if h : n.toNat < l.length then l[n.toNat] else Tm.var n

end Go.T1
end

section
open Go Go.Ab Go.Proofs
namespace Go.T1
/-- What Replace hands back. -/
def replT (t : Tm) (l : List Tm) : Tm :=
  if t.check = 0 ∧ (∀ x ∈ l, x.check = 0) ∧ (t.sub (repF l)).check = 0 then t.sub (repF l) else Tm.zero

theorem rightL_mem {l : List Tm} (h : Tm.rightL l = true) : ∀ x ∈ l, x.right = true := by
  induction l with
  | nil => intro x hx; cases hx
  | cons y ys ih =>
    simp only [Tm.rightL, Bool.and_eq_true] at h
    intro x hx
    rcases List.mem_cons.1 hx with rfl | hx
    · exact h.1
    · exact ih h.2 x hx

set_option maxRecDepth 100000 in
theorem rReplace_c (w : List Tm) : ∀ t : Tm, t.right = true → PureCall T Try.prog 25 [t.av 32, .lst 32 (Tm.cellsL 32 w)] ((t.sub (repF w)).av 32) := by
  refine Tm.ind fun k n s l ih => ?_
  intro hrt
  simp only [Tm.right, Bool.and_eq_true] at hrt
  refine PureCall.of_vc hT [5] [] follows Try.call25 Try.func25 rfl (by kernel_rfl) (by simp [AV.pure, AV.pureL]) (by simp [AV.pure]) ?_
  unfold Try.f25
  simp [Tm.cells]
  refine ⟨fun h hb1 hb2 => ?_, fun h => ?_⟩
  · subst h
    obtain ⟨p1, p2, p3, p4⟩ := partB_one hrt.1
    have hl := List.eq_nil_of_length_eq_zero p4
    obtain ⟨m, rfl⟩ := Int.eq_ofNat_of_zero_le p1
    simp [Tm.sub, repF]
    refine ⟨fun hm => ?_, fun hm => ?_⟩
    · simp [hm]
    · rw [dif_neg (by omega)]
      simp [Tm.var, Tm.cells, p3, hl]
  · refine vcC_loop [(32, .cell 1 3)] (fun m σ st => ∃ (i : Nat) (al : Bool), m = l.length - i ∧ i ≤ l.length ∧ σ 2 = .eptr [.sc (.int .i64 k), .sc (.int .i64 n), .sc (.string s), .lst 32 (Tm.cellsL 32 l)] ∧
      σ 1 = .lst 32 (Tm.cellsL 32 w) ∧ σ 4 = .ptr 0 0 ∧ σ 5 = .ptr 1 0 ∧ σ 6 = .sc (.int .i64 i) ∧
      st = [.cells [.sc (.int .i64 0), .sc (.int .i64 0), .sc (.string .empty), .nils], .cells [.sc (.int .i64 k), .sc (.int .i64 n), .sc (.string s), .own 2 i], .row 32 i al (Tm.cellsL 32 (Tm.subL (repF w) (l.take i)))]) l.length ?_ ?_
    · simp [Tm.subL, Tm.cellsL]
      exact ⟨0, by simp, by simp, by simp, rfl, by simp [Tm.subL]⟩
    rintro m σ st ⟨i, al, rfl, hi, s2, s1, s4, s5, s6, rfl⟩
    rcases Nat.lt_or_ge i l.length with hlt | hge
    · simp [s2, s1, s4, s5, s6, hlt]
      refine fun hb1 hb2 => vcCall_at (ih l[i] (List.getElem_mem hlt) (rightL_mem hrt.2 _ (List.getElem_mem hlt))) ?_
      simp [s2, s1, s4, s5, s6]
      refine ⟨by rw [Nat.min_eq_left hi]; omega, by unfold i64ok; omega, l.length - (i + 1), by omega, i + 1, rfl, by omega, by omega, rfl, ?_⟩
      rw [Tm.subL_take hlt]
      simp [Tm.cellsL]
    · have hi : i = l.length := by omega
      subst hi
      simp [s2, s1, s4, s5, s6]
      simp [Tm.sub, h, Tm.cells]
end Go.T1
end

section
open Go Go.Ab Go.Proofs
namespace Go.T1
@[simp] theorem ty40 : T 40 = some ⟨1, 24, .slice 3, [], some (.slice none 0 0)⟩ := by kernel_rfl
theorem set_same {st : St} {id : Nat} {b : Blk} (h : st[id]? = some b) : st.set id b = st := by
  obtain ⟨h1, h2⟩ := List.getElem?_eq_some_iff.1 h
  rw [← h2]; exact List.set_getElem_self h1

/-- The row of numbers that is left. -/
def rowIs (st : St) (id : Nat) (out : List Int) (r : AV) (st' : St) : Prop := ∃ g' al', (out ≠ [] → al' = true) ∧ r = .own id g' ∧ st' = st.set id (.row 3 g' al' (intsL out))

set_option maxRecDepth 100000 in
theorem rvars_c : ∀ (t : Tm) (out : List Int) (id g : Nat) (al : Bool) (st : St), t.size + out.length ≤ 1000000000 → st[id]? = some (.row 3 g al (intsL out)) → (out ≠ [] → al = true) →
    ICall T Try.prog 47 [t.av 32, .own id g] st (rowIs st id (t.vars out)) := by
  refine Tm.ind fun k n s l ih => ?_
  intro out id g al st hsz hid hal
  have hidl : id < st.length := (List.getElem?_eq_some_iff.1 hid).1
  have hset : ∀ b, (st.set id b)[id]? = some b := fun b => by simp [hidl]
  have hidl' := hidl
  clear hidl
  simp only [Tm.size] at hsz
  refine ICall.of_vc hT [] [(11, 6)] follows Try.call47 Try.func47 rfl (by kernel_rfl) fun hfix => ?_
  unfold Try.f47
  simp [Tm.cells, hid]
  refine ⟨fun h => ?_, fun h => ?_⟩
  · refine vcC_loop [] (fun m σ st' => ∃ i : Nat, m = out.length - i ∧ i ≤ out.length ∧ n ∉ out.take i ∧ σ 1 = .own id g ∧ σ 2 = .eptr [.sc (.int .i64 k), .sc (.int .i64 n), .sc (.string s), .lst 32 (Tm.cellsL 32 l)] ∧
      σ 5 = .sc (.int .i64 i) ∧ st' = st) out.length ⟨0, by simp⟩ ?_
    rintro m σ st' ⟨i, rfl, hi, htk, s1, s2, s5, rfl⟩
    rcases Nat.lt_or_ge i out.length with hlt | hge
    · have hne : out ≠ [] := fun e => by subst e; simp at hlt
      simp [s1, s2, s5, hid, hlt]
      refine fun hb1 hb2 => ⟨hal hne, fun he => ?_, fun he => ⟨by unfold i64ok; omega, out.length - (i + 1), by omega, i + 1, rfl, by omega, ?_, by omega⟩⟩
      · refine endP_mk (.own id g) (by simp) (by simp [hidl']) ⟨g, al, fun _ => hal hne, rfl, ?_⟩
        have : Tm.vars (.mk k n s l) out = out := by simp only [Tm.vars, if_pos h, addV]; rw [if_pos (he ▸ List.getElem_mem hlt)]
        rw [cutSt_same hfix, this, set_same hid]
      · intro hm
        have e0 : out.take (i + 1) = out.take i ++ [out[i]] := by rw [List.take_add_one]; simp [hlt]
        rw [e0, List.mem_append] at hm
        rcases hm with hm | hm
        · exact htk hm
        · simp at hm; exact he hm.symm
    · have hi : i = out.length := by omega
      subst hi
      rw [List.take_length] at htk
      simp [s1, s2, s5, hid]
      refine fun hb1 hb2 => ⟨by omega, endP_mk (.own id (g + 1)) (by simp) (by simp [hidl']) ⟨g + 1, true, fun _ => rfl, rfl, ?_⟩⟩
      have : Tm.vars (.mk k n s l) out = out ++ [n] := by simp only [Tm.vars, if_pos h, addV]; rw [if_neg htk]
      have e1 : intsL out ++ [[AV.sc (.int .i64 n)]] = intsL (out ++ [n]) := by simp [intsL]
      rw [cutSt_set0 hfix, this, e1]
      simp only [Blk.cut, intsL_cut]
  · have hv : Tm.vars (.mk k n s l) out = Tm.varsL l out := by simp only [Tm.vars, if_neg h]
    refine vcC_loop [] (fun m σ st' => ∃ i : Nat, m = l.length - i ∧ i ≤ l.length ∧ rowIs st id (Tm.varsL (l.take i) out) (σ 1) st' ∧ σ 2 = .eptr [.sc (.int .i64 k), .sc (.int .i64 n), .sc (.string s), .lst 32 (Tm.cellsL 32 l)] ∧
      σ 6 = .sc (.int .i64 i)) l.length ⟨0, by simp, by simp, ⟨g, al, by simpa [Tm.varsL] using hal, by simp, by simp [Tm.varsL, set_same hid]⟩, by simp⟩ ?_
    rintro m σ st' ⟨i, rfl, hi, ⟨g', al', hal', s1, rfl⟩, s2, s6⟩
    rcases Nat.lt_or_ge i l.length with hlt | hge
    · have h1 := Tm.size_get hlt
      have h2 := Tm.varsL_len (l.take i) out
      simp [s1, s2, s6, hset, hlt]
      refine fun hb1 hb2 => vcICall_of (ih l[i] (List.getElem_mem hlt) _ id g' al' _ (by omega) (hset _) hal') ?_
      rintro r st' ⟨g2, al2, hal2, rfl, rfl⟩ _
      simp [s1, s2, s6, hset]
      refine ⟨by unfold i64ok; omega, l.length - (i + 1), by omega, i + 1, rfl, by omega, ?_, by omega⟩
      rw [Tm.varsL_take hlt]
      exact ⟨g2, al2, hal2, rfl, rfl⟩
    · have hi : i = l.length := by omega
      subst hi
      rw [List.take_length] at hal'
      simp [s1, s2, s6, hset]
      refine fun hb1 hb2 => endP_mk (.own id g') (by simp) (by simp [hidl']) ⟨g', al', ?_, rfl, ?_⟩
      · rw [hv]; exact hal'
      · rw [cutSt_set0 hfix, hv]; simp only [Blk.cut, intsL_cut]

set_option maxRecDepth 100000 in
theorem rVars_c (t : Tm) (ht : t.small) : PureCall T Try.prog 23 [t.av 32] (.lst 3 (intsL (t.vars []))) := by
  have hsz : t.size + 0 ≤ 1000000000 := by unfold Tm.small at ht; omega
  have h0 := ICall.nils (st := []) (pre := [t.av 32]) (post := []) 3 (rvars_c t [] 0 0 false [.row 3 0 false []] hsz rfl (by simp))
  have h1 : PureCall T Try.prog 47 [t.av 32, .nils] (.lst 3 (intsL (t.vars []))) := by
    refine PureCall.of_ICall h0 (by simp [AV.pure, AV.pureL]) (by simp [AV.pure]) ?_
    rintro r st' ⟨r0, st0, ⟨g', al', _, rfl, rfl⟩, rfl, rfl⟩
    simp
  refine PureCall.of_vc hT [] [] follows Try.call23 Try.func23 rfl (by kernel_rfl) (by simp [AV.pure, AV.pureL]) (by simp [AV.pure]) ?_
  unfold Try.f23
  simp
  refine vcCall_at h1 ?_
  simp

set_option maxRecDepth 100000 in
theorem place_c (l : List Int) (n : Int) : PureCall T Try.prog 60 [.lst 3 (intsL l), .sc (.int .i64 n)] (.sc (.int .i64 (placeI l n 0))) := by
  generalize hr : placeI l n 0 = r
  refine PureCall.of_vc hT [] [] follows Try.call60 Try.func60 rfl (by kernel_rfl) (by simp [AV.pure, AV.pureL]) (by simp [AV.pure]) ?_
  unfold Try.f60
  simp
  refine vcC_loop [] (fun m σ st => ∃ i : Nat, m = l.length - i ∧ i ≤ l.length ∧ placeI (l.drop i) n i = r ∧ σ 0 = .lst 3 (intsL l) ∧ σ 1 = .sc (.int .i64 n) ∧ σ 5 = .sc (.int .i64 i)) l.length ⟨0, by simp [hr]⟩ ?_
  rintro m σ st ⟨i, rfl, hi, htk, s0, s1, s5⟩
  rcases Nat.lt_or_ge i l.length with hlt | hge
  · simp [s0, s1, s5, hlt]
    rw [List.drop_eq_getElem_cons hlt] at htk
    simp only [placeI] at htk
    refine fun _ _ => ⟨fun hp => ?_, fun hp => ⟨by unfold i64ok; omega, l.length - (i + 1), by omega, i + 1, rfl, by omega, ?_, by omega⟩⟩
    · rw [if_pos hp] at htk; exact htk
    · rw [if_neg hp] at htk; exact htk
  · have hi : i = l.length := by omega
    subst hi
    simp [s0, s1, s5]
    rw [List.drop_length] at htk
    exact fun _ _ => htk
end Go.T1
end

section
open Go Go.Ab Go.Proofs
namespace Go.T1
set_option maxRecDepth 100000 in
theorem renamed_c (w : List Int) : ∀ t : Tm, PureCall T Try.prog 48 [t.av 32, .lst 3 (intsL w)] ((t.sub fun n => Tm.var (placeI w n 0)).av 32) := by
  refine Tm.ind fun k n s l ih => ?_
  refine PureCall.of_vc hT [5] [] follows Try.call48 Try.func48 rfl (by kernel_rfl) (by simp [AV.pure, AV.pureL]) (by simp [AV.pure]) ?_
  unfold Try.f48
  simp [Tm.cells]
  refine ⟨fun h => ?_, fun h => ?_⟩
  · refine vcCall_at (place_c w n) ?_
    simp
    refine vcCall_at (rVar_c _) ?_
    simp [Tm.sub, h, Tm.var]
  · refine vcC_loop [(32, .cell 1 3)] (fun m σ st => ∃ (i : Nat) (al : Bool), m = l.length - i ∧ i ≤ l.length ∧ σ 2 = .eptr [.sc (.int .i64 k), .sc (.int .i64 n), .sc (.string s), .lst 32 (Tm.cellsL 32 l)] ∧
      σ 1 = .lst 3 (intsL w) ∧ σ 4 = .ptr 0 0 ∧ σ 5 = .ptr 1 0 ∧ σ 6 = .sc (.int .i64 i) ∧
      st = [.cells [.sc (.int .i64 0), .sc (.int .i64 0), .sc (.string .empty), .nils], .cells [.sc (.int .i64 k), .sc (.int .i64 n), .sc (.string s), .own 2 i], .row 32 i al (Tm.cellsL 32 (Tm.subL (fun n => Tm.var (placeI w n 0)) (l.take i)))]) l.length ?_ ?_
    · simp [Tm.subL, Tm.cellsL]
      exact ⟨0, by simp, by simp, by simp, rfl, by simp [Tm.subL]⟩
    rintro m σ st ⟨i, al, rfl, hi, s2, s1, s4, s5, s6, rfl⟩
    rcases Nat.lt_or_ge i l.length with hlt | hge
    · simp [s2, s1, s4, s5, s6, hlt]
      refine fun hb1 hb2 => vcCall_at (ih l[i] (List.getElem_mem hlt)) ?_
      simp [s2, s1, s4, s5, s6]
      refine ⟨by rw [Nat.min_eq_left hi]; omega, by unfold i64ok; omega, l.length - (i + 1), by omega, i + 1, rfl, by omega, by omega, rfl, ?_⟩
      rw [Tm.subL_take hlt]
      simp [Tm.cellsL]
    · have hi : i = l.length := by omega
      subst hi
      simp [s2, s1, s4, s5, s6]
      simp [Tm.sub, h, Tm.cells]

/-- A term with its variables numbered. -/
def renT (t : Tm) : Tm := t.sub fun n => Tm.var (placeI (t.vars []) n 0)

set_option maxRecDepth 100000 in
theorem rRename_c (t : Tm) (ht : t.small) : PureCall T Try.prog 27 [t.av 32] (.tup [(renT t).av 32, .sc (.int .i64 (t.vars []).length)]) := by
  refine PureCall.of_vc hT [] [] follows Try.call27 Try.func27 rfl (by kernel_rfl) (by simp [AV.pure, AV.pureL]) (by simp [AV.pure, AV.pureL]) ?_
  unfold Try.f27
  simp
  refine vcCall_at (rVars_c t ht) ?_
  simp
  refine vcCall_at (renamed_c _ t) ?_
  simp [renT]
end Go.T1
end

section
open Go Go.Ab Go.Proofs
namespace Go.T1
@[simp] theorem ty37 : T 37 = some ⟨1, 8, .map 3 3, [], some (.map none)⟩ := by kernel_rfl
/-- The namer's state: blocks 1 to 3. -/
def namSt (b0 : Blk) (L : List Int) (g : Nat) (al : Bool) (ex : St) : St := b0 :: .map (mapOf L 0) :: .cells [.mp 1, .own 3 g] :: .row 3 g al (intsL L) :: ex
/-- What is left of it. -/
def namIs (b0 : Blk) (L : List Int) (ex : St) (st' : St) : Prop := ∃ g al, (L ≠ [] → al = true) ∧ st' = namSt b0 L g al ex

@[simp] theorem mapOf_cut (N : Nat) (S : St) : ∀ (L : List Int) (i : Nat), (mapOf L i).map (fun p => (p.1, p.2.cut N S)) = mapOf L i
  | [], _ => rfl
  | x :: xs, i => by simp only [mapOf, List.map_cons, mapOf_cut N S xs, AV.cut]
theorem cut_cells (N : Nat) (S : St) (cs : List AV) : Blk.cut N S (.cells cs) = .cells (AV.cutL N S cs) := rfl
theorem cut_row (N : Nat) (S : St) (e g : Nat) (al : Bool) (l : List (List AV)) : Blk.cut N S (.row e g al l) = .row e g al (AV.cutM N S l) := rfl
theorem cut_map (N : Nat) (S : St) (es : List (Value × AV)) : Blk.cut N S (.map es) = .map (es.map fun p => (p.1, p.2.cut N S)) := rfl
theorem intsL_snoc (L : List Int) (n : Int) : intsL L ++ [[.sc (.int .i64 n)]] = intsL (L ++ [n]) := by simp [intsL]
theorem namSt_cut {b0 b1 b2 b3 : Blk} {ex : St} (h : Fix (b0 :: b1 :: b2 :: b3 :: ex)) (L : List Int) (g : Nat) (al : Bool) (X : St) : cutSt (ex.length + 4) (namSt b0 L g al ex ++ X) = namSt b0 L g al ex := by
  unfold cutSt
  rw [List.take_left' (by simp [namSt])]
  generalize namSt b0 L g al ex ++ X = S
  have h' := h (ex.length + 4) S (by simp)
  simp only [List.map_cons, List.cons.injEq] at h'
  simp only [namSt, List.map_cons, h'.1, h'.2.2.2.2, cut_cells, cut_row, cut_map, AV.cutL, AV.cut, mapOf_cut, intsL_cut]
  simp

end Go.T1
end

section
open Go Go.Ab Go.Proofs
namespace Go.T1
/-- Some state of a namer's. -/
def NS (b0 : Blk) (ex : St) (L : List Int) (st : St) : Prop := ∃ g al, (L ≠ [] → al = true) ∧ st = namSt b0 L g al ex
theorem NS.len {b0 : Blk} {ex : St} {L : List Int} {st : St} (h : NS b0 ex L st) : st.length = ex.length + 4 := by
  obtain ⟨g, al, _, rfl⟩ := h; simp [namSt]
theorem NS.app {b0 : Blk} {ex : St} {L : List Int} {st : St} (h : NS b0 ex L st) (l : St) : NS b0 (ex ++ l) L (st ++ l) := by
  obtain ⟨g, al, h1, rfl⟩ := h; exact ⟨g, al, h1, by simp [namSt]⟩
theorem NS.unapp {b0 : Blk} {ex l : St} {L : List Int} {st : St} (h : NS b0 (ex ++ l) L st) : ∃ X, NS b0 ex L X ∧ st = X ++ l := by
  obtain ⟨g, al, h1, rfl⟩ := h; exact ⟨namSt b0 L g al ex, ⟨g, al, h1, rfl⟩, by simp [namSt]⟩
theorem NS.cut {b0 : Blk} {ex : St} {L0 L : List Int} {st0 st : St} (hf : Fix st0) (h0 : NS b0 ex L0 st0) (h : NS b0 ex L st) (l : St) : cutSt (ex.length + 4) (st ++ l) = st := by
  obtain ⟨g0, al0, _, rfl⟩ := h0
  obtain ⟨g, al, _, rfl⟩ := h
  exact namSt_cut hf L g al l

/-- The loop of build: the frame behind a namer's state. -/
def bFr (N : Nat) (W : List Int) (k n : Int) (s : ByteArray) (i : Nat) (al : Bool) (l : List Tm) : St :=
  [.cells [.sc (.int .i64 0), .sc (.int .i64 0), .sc (.string .empty), .nils], .cells [.sc (.int .i64 k), .sc (.int .i64 n), .sc (.string s), .own (N + 2) i],
   .row 32 i al (Tm.cellsL 32 (Tm.subL (fun n => Tm.var (placeI W n 0)) l))]
def bInv (b0 : Blk) (ex : St) (N : Nat) (L : List Int) (k n : Int) (s : ByteArray) (l : List Tm) (i : Nat) (st' : St) : Prop :=
  ∃ al X, NS b0 ex (Tm.varsL (l.take i) L) X ∧ st' = X ++ bFr N (Tm.varsL (l.take i) L) k n s i al (l.take i)
def bCall (b0 : Blk) (ex : St) (N : Nat) (L : List Int) (k n : Int) (s : ByteArray) (l : List Tm) (t : Tm) (i : Nat) (al : Bool) (r : AV) (st' : St) : Prop :=
  r = (numT (t.vars (Tm.varsL (l.take i) L)) t).av 32 ∧ ∃ X, NS b0 ex (t.vars (Tm.varsL (l.take i) L)) X ∧ st' = X ++ bFr N (Tm.varsL (l.take i) L) k n s i al (l.take i)
end Go.T1
end

section
open Go Go.Ab Go.Proofs
namespace Go.T1

end Go.T1
end

section
open Go Go.Ab Go.Proofs
namespace Go.T1
end Go.T1
end

section
open Go Go.Ab Go.Proofs
namespace Go.T1
set_option maxRecDepth 100000 in
theorem large_c : ∀ (t : Tm) (d n : Int) (id : Nat) (st : St), t.nice → st[id]? = some (.cells [.sc (.int .i64 n)]) → 0 ≤ n → n ≤ 6000 → 0 ≤ d → d ≤ 301 →
    ICall T Try.prog 42 [t.av 32, .sc (.int .i64 d), .ptr id 0] st (fun r st' => r = .sc (.bool (t.lg d n).1) ∧ st' = st.set id (.cells [.sc (.int .i64 (t.lg d n).2)])) := by
  refine Tm.ind fun k n0 s l ih => ?_
  intro d n id st hnice hid hn hn2 hd hd2
  have hidl : id < st.length := (List.getElem?_eq_some_iff.1 hid).1
  refine ICall.of_vc hT [] [(7, 8)] follows Try.call42 Try.func42 rfl (by kernel_rfl) fun hfix => ?_
  unfold Try.f42
  have hset : ∀ b, (st.set id b)[id]? = some b := fun b => by simp [hidl]
  clear hidl
  simp [Tm.cells, hid, hset]
  have hs := hnice.1
  have hq0 : (0 : Int) ≤ (s.size : Int) / 16 := Int.ediv_nonneg (Int.natCast_nonneg _) (by decide)
  have hq1 : (s.size : Int) / 16 ≤ 140737488355328 := Int.le_trans (Int.ediv_le_self _ (Int.natCast_nonneg _)) (by omega)
  refine ⟨by unfold i64ok; omega, by unfold i64ok; omega, by unfold i64ok; omega, ?_⟩
  intro _
  refine ⟨fun h => ?_, fun h1 h2 h3 => ?_⟩
  · have e : Tm.lg (.mk k n0 s l) d n = (true, n + 1 + (s.size : Int) / 16) := by simp only [Tm.lg]; rw [if_pos]; omega
    rw [e]
    refine endP_mk (.sc (.bool true)) (by simp) (by simp) ⟨rfl, ?_⟩
    rw [cutSt_set0 hfix]; simp
  · have e : Tm.lg (.mk k n0 s l) d n = Tm.lgL l (d + 1) (n + 1 + (s.size : Int) / 16) := by simp only [Tm.lg]; rw [if_neg]; omega
    rw [e]
    obtain ⟨m, hm⟩ : ∃ m, m = n + 1 + (s.size : Int) / 16 := ⟨_, rfl⟩
    rw [← hm]
    refine vcC_loop [] (fun M σ st' => ∃ i : Nat, M = l.length - i ∧ i ≤ l.length ∧ (Tm.lgL (l.take i) (d + 1) m).1 = false ∧ σ 1 = .sc (.int .i64 d) ∧ σ 2 = .ptr id 0 ∧ σ 3 = .eptr [.sc (.int .i64 k), .sc (.int .i64 n0), .sc (.string s), .lst 32 (Tm.cellsL 32 l)] ∧ σ 7 = .sc (.int .i64 i) ∧
      st' = st.set id (.cells [.sc (.int .i64 (Tm.lgL (l.take i) (d + 1) m).2)])) l.length ⟨0, by simp, by simp, by simp [Tm.lgL], by simp, by simp, by simp, by simp, by simp [Tm.lgL, hm]⟩ ?_
    rintro M σ st' ⟨i, rfl, hi, hf, s1, s2, s3, s7, rfl⟩
    rcases Nat.lt_or_ge i l.length with hlt | hge
    · have hsz := Tm.lgL_size (l.take i) (d + 1) m (by omega) (by omega) hf
      simp [s1, s2, s3, s7, hlt]
      refine fun hb1 hb2 => ⟨by unfold i64ok; omega, vcICall_of (ih l[i] (List.getElem_mem hlt) _ _ id _ (Tm.niceL_mem hnice.2 _ (List.getElem_mem hlt)) (hset _) (by omega) (by omega) (by omega) (by omega)) ?_⟩
      rintro r st' ⟨rfl, rfl⟩ _
      have e2 := Tm.lgL_take hlt (d + 1) m hf
      rw [← e2]
      simp [s1, s2, s3, s7]
      refine ⟨fun h4 => ?_, fun h4 => ⟨by unfold i64ok; omega, l.length - (i + 1), by omega, i + 1, rfl, by omega, h4, by omega, rfl⟩⟩
      have e3 := Tm.lgL_true (d + 1) m h4
      rw [e3]
      refine endP_mk (.sc (.bool true)) (by simp) (by simp) ⟨rfl, ?_⟩
      rw [cutSt_set0 hfix]; simp
    · have hi : i = l.length := by omega
      subst hi
      rw [List.take_length] at hf
      simp [s1, s2, s3, s7]
      refine fun hb1 hb2 => endP_mk (.sc (.bool false)) (by simp) (by simp) ⟨by rw [hf], ?_⟩
      rw [cutSt_set0 hfix]; simp

set_option maxRecDepth 100000 in
theorem Large_c (t : Tm) (ht : t.nice) : PureCall T Try.prog 18 [t.av 32] (.sc (.bool t.large)) := by
  have h : ICall T Try.prog 18 [t.av 32] [] (fun r _ => r = .sc (.bool t.large)) := by
    refine ICall.of_vc hT [3] [(2, 1)] follows Try.call18 Try.func18 rfl (by kernel_rfl) fun hfix => ?_
    unfold Try.f18
    simp [Tm.cells]
    refine vcICall_of (large_c t 0 0 0 _ ht rfl (by omega) (by omega) (by omega) (by omega)) ?_
    rintro r st' ⟨rfl, rfl⟩ _
    simp
    exact endP_mk (.sc (.bool t.large)) (by simp [Tm.large]) (by simp [Tm.large]) rfl
  exact PureCall.of_ICall h (by simp [AV.pure, AV.pureL]) (by simp [AV.pure]) (by rintro r st' rfl; simp)
end Go.T1
end

section
open Go Go.Ab Go.Proofs
namespace Go.T1
end Go.T1
end

section
open Go Go.Ab Go.Proofs
namespace Go.T1
end Go.T1
end

section
open Go Go.Ab Go.Proofs
namespace Go.T1
theorem sizeL_small {l : List Tm} (h : Tm.sizeL l ≤ 900000000) {i : Nat} (hlt : i < l.length) : l[i].small := by
  have := Tm.size_get hlt
  unfold Tm.small; omega

theorem take_ne {a b : List Tm} {i : Nat} (h1 : i < a.length) (h2 : i < b.length) (h : a[i] ≠ b[i]) : a ≠ b := by
  rintro rfl; exact h rfl

end Go.T1
end

section
open Go Go.Ab Go.Proofs
namespace Go.T1
def t0 : Tm := .mk 4 0 ⟨#[102]⟩ [Tm.mk 1 7 ⟨#[]⟩ [], Tm.mk 1 3 ⟨#[]⟩ [], Tm.mk 1 7 ⟨#[]⟩ []]
def u0 : Tm := .mk 4 0 ⟨#[102]⟩ [Tm.mk 1 0 ⟨#[]⟩ [], Tm.mk 1 1 ⟨#[]⟩ [], Tm.mk 1 0 ⟨#[]⟩ []]
def v0 : Tm := .mk 4 0 ⟨#[102]⟩ [Tm.mk 2 5 ⟨#[]⟩ [], Tm.mk 1 1 ⟨#[]⟩ [], Tm.mk 2 5 ⟨#[]⟩ []]
theorem t0_small : t0.small := by simp [t0, Tm.small, Tm.size, Tm.sizeL]
theorem t0_check : t0.check = 0 := by simp [t0, Tm.check, Tm.size, Tm.sizeL, Tm.depth, Tm.depthL, Tm.right, Tm.rightL, partB, ByteArray.size]
theorem t0_vars : t0.vars [] = [7, 3] := by simp [t0, Tm.vars, Tm.varsL, addV]
theorem t0_ren : renT t0 = u0 := by simp [renT, t0_vars]; simp [t0, u0, Tm.sub, Tm.subL, placeI, Tm.var]
theorem u0_small : u0.small := by simp [u0, Tm.small, Tm.size, Tm.sizeL]
theorem u0_check : u0.check = 0 := by simp [u0, Tm.check, Tm.size, Tm.sizeL, Tm.depth, Tm.depthL, Tm.right, Tm.rightL, partB, ByteArray.size]
theorem u0_vars : u0.vars [] = [0, 1] := by simp [u0, Tm.vars, Tm.varsL, addV]
theorem u0_ren : renT u0 = u0 := by simp [renT, u0_vars]; simp [u0, Tm.sub, Tm.subL, placeI, Tm.var]
theorem u0_sub : u0.sub (repF [Tm.mk 2 5 ⟨#[]⟩ []]) = v0 := by simp [u0, v0, Tm.sub, Tm.subL, repF, Tm.var]
theorem v0_check : v0.check = 0 := by simp [v0, Tm.check, Tm.size, Tm.sizeL, Tm.depth, Tm.depthL, Tm.right, Tm.rightL, partB, ByteArray.size]
theorem v0_small : v0.small := by simp [v0, Tm.small, Tm.size, Tm.sizeL]
theorem t0_size : t0.size = 4 := by simp [t0, Tm.size, Tm.sizeL]
theorem t0_depth : t0.depth = 2 := by simp [t0, Tm.depth, Tm.depthL]
def l0 : Tm := Tm.list (.mk 3 0 ⟨#[91, 93]⟩ []) [.mk 2 1 ⟨#[]⟩ [], .mk 3 0 ⟨#[97]⟩ []]
theorem l0_small : l0.small := by simp [l0, Tm.list, Tm.small, Tm.size, Tm.sizeL]
theorem l0_check : l0.check = 0 := by simp [l0, Tm.list, Tm.check, Tm.size, Tm.sizeL, Tm.depth, Tm.depthL, Tm.right, Tm.rightL, partB, ByteArray.size]
theorem l0_items : l0.items = ([.mk 2 1 ⟨#[]⟩ [], .mk 3 0 ⟨#[97]⟩ []], .mk 3 0 ⟨#[91, 93]⟩ []) := by
  simp only [l0, Tm.list, Tm.items_two]
  rw [Tm.items_end (by simp)]
theorem zero_check : Tm.zero.check = 60 := by simp [Tm.zero, Tm.check, Tm.right, Tm.rightL, partB, ByteArray.size]
theorem zero_small : Tm.zero.small := by simp [Tm.zero, Tm.small, Tm.size, Tm.sizeL]

end Go.T1
end

section
open Go Go.Ab Go.Proofs Go.RowKit
namespace Go.T1
/-- A world as it is handed in. -/
def E0 (W : World) : Env := ⟨W, [], fun _ => 0, fun _ => False⟩
theorem relX_of {W : World} {b : Nat} : ∀ (xs : List AV) (cs : List Value) (o : Nat), (∀ i, i < cs.length → W.cell? ⟨b, o + i, none⟩ = cs[i]?) → RelC T (E0 W) xs cs → RelX T (E0 W) b o xs
  | [], _, _, _, _ => by simp only [RelX]
  | x :: xs, cs, o, h, hr => by
    simp only [RelC] at hr
    obtain ⟨v, r, rfl, h1, h2, h3⟩ := hr
    simp only [RelX]
    refine ⟨⟨v, by show W.cell? _ = _; simpa using h 0 (by simp), h1, h2⟩, relX_of xs r (o + 1) (fun i hi => ?_) h3⟩
    have := h (i + 1) (by simp; omega)
    rw [show o + 1 + i = o + (i + 1) by omega, this]; simp
theorem relM_of {W : World} {b k : Nat} : ∀ (L : List (List AV)) (o : Nat), (∀ i (h : i < L.length), L[i].length = k ∧ RelX T (E0 W) b (o + i * k) L[i]) → RelM T (E0 W) b k o L
  | [], _, _ => by simp only [RelM]
  | e :: L, o, h => by
    simp only [RelM]
    have h0 := h 0 (by simp)
    refine ⟨h0.1, by simpa using h0.2, relM_of L (o + k) fun i hi => ?_⟩
    have := h (i + 1) (by simp; omega)
    simp only [List.getElem_cons_succ] at this
    rw [show o + k + i * k = o + (i + 1) * k by rw [Nat.add_mul]; omega]
    exact this
theorem weightsAll_mem {H : Type} {P : Program} {e : TypeId} : ∀ {l : List (DataW H)} {d : DataW H}, d ∈ l → ∀ n ∈ d.weights P e, n ∈ DataW.weightsAll P e l
  | x :: xs, d, hd, n, hn => by
    simp only [DataW.weightsAll, List.mem_append]
    rcases List.mem_cons.1 hd with rfl | hd
    · exact .inl hn
    · exact .inr (weightsAll_mem hd n hn)
theorem cellsOf32 : Try.prog.cellsOf 32 = 4 := by kernel_rfl
theorem cellsOf30 : Try.prog.cellsOf 30 = 1 := by kernel_rfl
theorem cellsOf3 : Try.prog.cellsOf 3 = 1 := by kernel_rfl
theorem cellsOf9 : Try.prog.cellsOf 9 = 1 := by kernel_rfl
theorem bytesOf32 : Try.prog.bytesOf 32 = 56 := by kernel_rfl
theorem add_add (b off i j : Nat) : ((⟨b, off, none⟩ : Addr).add i).add j = ⟨b, off + i + j, none⟩ := by
  unfold Addr.add
  by_cases hi : i = 0
  · subst hi
    by_cases hj : j = 0
    · subst hj; rfl
    · simp [hj]
  · by_cases hj : j = 0
    · subst hj; simp [hi]
    · simp [hi, hj]
theorem cell_lt {W : World} {a : Addr} {v : Value} (h : W.cell? a = some v) : a.block < W.heap.size ∧ a.spot = none := by
  unfold World.cell? at h
  split at h
  · rename_i c _ _ hb
    refine ⟨(Array.getElem?_eq_some_iff.1 hb).1, ?_⟩
    split at h
    · cases h
    · rename_i hs; cases hsp : a.spot with
      | none => rfl
      | some _ => rw [hsp] at hs; exact absurd rfl hs
  · cases h

section
variable {H : Type} {enc : TypeId × Value → H} {W : World} {sp : Nat → Bool}

theorem niceL_of : ∀ {l : List Tm}, (∀ t ∈ l, t.nice) → Tm.niceL l
  | [], _ => trivial
  | t :: ts, h => ⟨h t (by simp), niceL_of fun x hx => h x (by simp [hx])⟩

theorem open_sl {n : Nat} (ih : ∀ m, m ≤ n → ∀ cs (d : DataW H) ps, DataW.trod enc Try.prog W 0 sp true m 32 cs = some (d, ps) → (∀ k ∈ d.weights Try.prog 32, k ≤ reachBytes) → ∃ t : Tm, RelC T (E0 W) (t.cells 32) cs ∧ t.nice)
    {fuel : Nat} (hf : fuel ≤ n + 1) {cs : List Value} {d : DataW H} {ps : List MemPlace} (h : DataW.trod enc Try.prog W 0 sp true fuel 30 cs = some (d, ps)) (hw : ∀ k ∈ d.weights Try.prog 30, k ≤ reachBytes) :
    ∃ (l : List Tm) (v : Value), cs = [v] ∧ v.oneCell' = true ∧ Rel T (E0 W) (.lst 32 (Tm.cellsL 32 l)) v ∧ Tm.niceL l := by
  rcases DataW.trod_slice Try.underlying30 h with ⟨rfl, hx⟩ | ⟨a, len, cap, elems, rest, m, rfl, rfl, hx, hb, hl, hm, hlen, hel, _, _⟩
  · refine ⟨[], _, rfl, rfl, ?_, trivial⟩
    simp only [Rel, Tm.cellsL]
    exact ⟨by simp, by simp, _, _, rfl, by simp, .inl trivial⟩
  · cases hx
    simp only [DataW.weights, Try.underlying30, List.mem_cons, List.mem_append, bytesOf32] at hw
    have hw0 := hw _ (.inl rfl)
    simp only [List.length_map] at hw0
    have hreach : reachBytes = 140737488351232 := by decide
    rw [hreach] at hw0
    rw [cellsOf32] at hel
    have key : ∀ i, i < len → ∃ t : Tm, (∃ cs', W.cells? 0 (a.add (i * 4)) 4 = some cs' ∧ RelC T (E0 W) (t.cells 32) cs') ∧ t.nice := by
      intro i hi
      have := hel i hi
      rw [List.getElem?_eq_getElem (by omega)] at this
      obtain ⟨cs', h1, h2⟩ := Option.bind_eq_some_iff.1 this
      obtain ⟨t, h3, h4⟩ := ih m (by omega) cs' elems[i].1 elems[i].2 h2 (fun k hk => hw k (.inr (.inl (weightsAll_mem (List.mem_map.2 ⟨_, List.getElem_mem (by omega), rfl⟩) k hk))))
      exact ⟨t, ⟨cs', h1, h3⟩, h4⟩
    have hch : ∃ f : Nat → Tm, ∀ i, i < len → (∃ cs', W.cells? 0 (a.add (i * 4)) 4 = some cs' ∧ RelC T (E0 W) ((f i).cells 32) cs') ∧ (f i).nice :=
      ⟨fun i => if hi : i < len then (key i hi).choose else Tm.zero, fun i hi => by simp only [dif_pos hi]; exact (key i hi).choose_spec⟩
    obtain ⟨f, hf'⟩ := hch
    refine ⟨(List.range len).map f, _, rfl, rfl, ?_, niceL_of fun t ht => ?_⟩
    · simp only [Rel]
      have h56 : T.bytes 32 = 56 := by simp [Tab.bytes]
      have h4 : T.cells 32 = 4 := by simp [Tab.cells]
      refine ⟨by simp [h56]; omega, by simp; unfold maxLen; omega, some a, cap, by simp, by simpa using hl, ?_⟩
      rcases Nat.eq_zero_or_pos len with h0 | h0
      · left; subst h0; rfl
      · right
        obtain ⟨⟨cs', k1, k2⟩, _⟩ := hf' 0 h0
        obtain ⟨_, k3, k4⟩ := World.cells?_some k1
        have k5 := k4 0 (by omega)
        rw [List.getElem?_eq_getElem (by omega)] at k5
        have k6 := cell_lt k5
        obtain ⟨b, off, spot⟩ := a
        have hs : spot = none := by simpa [Addr.add] using k6.2
        subst hs
        have hbl : b < W.heap.size := by simpa [Addr.add] using k6.1
        refine ⟨b, off, rfl, ⟨hbl, ?_⟩, ?_⟩
        · rintro (hm | ⟨id, blk, hm, _⟩)
          · exact hm
          · simp [E0] at hm
        · rw [h4]
          refine relM_of _ _ fun i hi => ?_
          simp only [Tm.cellsL_len, List.length_map, List.length_range] at hi
          obtain ⟨⟨cs', k1, k2⟩, _⟩ := hf' i hi
          obtain ⟨_, k3, k4⟩ := World.cells?_some k1
          simp only [Tm.cellsL_getElem, List.getElem_map, List.getElem_range]
          refine ⟨by simp, relX_of _ cs' _ (fun j hj => ?_) k2⟩
          rw [← k4 j (by omega), add_add]
    · obtain ⟨i, hi, rfl⟩ := List.mem_map.1 ht
      exact (hf' i (List.mem_range.1 hi)).2

set_option maxRecDepth 100000 in
theorem open_tm : ∀ fuel cs (d : DataW H) ps, DataW.trod enc Try.prog W 0 sp true fuel 32 cs = some (d, ps) → (∀ k ∈ d.weights Try.prog 32, k ≤ reachBytes) → ∃ t : Tm, RelC T (E0 W) (t.cells 32) cs ∧ t.nice := by
  intro fuel
  induction fuel using Nat.strongRecOn with
  | _ fuel ih =>
    intro cs d ps h hw
    obtain ⟨xs, n, rfl, hx, hlen, hxs, hf⟩ := DataW.trod_struct Try.underlying32 h
    cases hx
    rw [cellsOf32] at hlen
    match cs, hlen with
    | [c0, c1, c2, c3], _ =>
    match xs, hxs with
    | [x0, x1, x2, x3], _ =>
    have f0 := hf 0 _ rfl
    have f1 := hf 1 _ rfl
    have f2 := hf 2 _ rfl
    have f3 := hf 3 _ rfl
    simp [cellsOf3, cellsOf9, cellsOf30] at f0 f1 f2 f3
    simp only [DataW.weights, Try.underlying32] at hw
    simp [DataW.weightsEach] at hw
    obtain ⟨k, e0, rfl, _⟩ := DataW.trod_int Try.underlying3 f0
    obtain ⟨m, e1, rfl, _⟩ := DataW.trod_int Try.underlying3 f1
    obtain ⟨s, e2, rfl, hs⟩ := DataW.trod_string Try.underlying9 f2
    cases e0; cases e1; cases e2
    obtain ⟨l, v, e3, hv1, hv2, hv3⟩ := open_sl (n := n) (fun m hm => ih m (by omega)) (fuel := n) (by omega) f3 (fun q hq => hw q (by simp [hq]))
    cases e3
    refine ⟨.mk k m s l, ?_, ?_⟩
    · simp only [Tm.cells, RelC, Rel]
      exact ⟨_, _, rfl, ⟨rfl, rfl⟩, rfl, _, _, rfl, ⟨rfl, rfl⟩, rfl, _, _, rfl, ⟨rfl, rfl⟩, rfl, _, _, rfl, by simpa only [Rel] using hv2, hv1, rfl⟩
    · have : s.data.toList.length ≤ reachBytes := hw _ (by simp [DataW.weights])
      have hreach : reachBytes = 140737488351232 := by decide
      have e : s.data.toList.length = s.size := by rw [Array.length_toList]; rfl
      exact ⟨by omega, hv3⟩
end
end Go.T1
end

section
open Go Go.Ab Go.Proofs Go.RowKit Go.ChangeShapes Go.WideShapes Go.ChangeAt
namespace Go.T1
section
variable {H : Type} {enc : TypeId × Value → H} {W : World} {sp : Nat → Bool}
set_option maxRecDepth 100000 in
theorem trod_tm {v : Value} {d : DataW H} {p : List MemPlace} (h : DataW.Trod enc Try.prog W 0 sp true 32 v d p) (hw : ∀ k ∈ d.weights Try.prog 32, k ≤ reachBytes) : ∃ t : Tm, Rel T (E0 W) (t.av 32) v ∧ t.nice := by
  obtain ⟨fuel, h⟩ := h
  obtain ⟨t, h1, h2⟩ := open_tm fuel _ _ _ h hw
  refine ⟨t, ?_, h2⟩
  have hl := RelC.len _ _ h1
  rw [Tm.cells_len] at hl
  cases v with
  | agg cs => simp only [Rel]; exact ⟨cs.toList, by simp, h1⟩
  | _ => simp [Value.cells] at hl
set_option maxRecDepth 100000 in
theorem trod_sl {v : Value} {d : DataW H} {p : List MemPlace} {base : Nat} (hok : Value.okWide Try.prog W .any base 30 v) (h : DataW.Trod enc Try.prog W 0 sp true 30 v d p) (hw : ∀ k ∈ d.weights Try.prog 30, k ≤ reachBytes) : ∃ l : List Tm, Rel T (E0 W) (.lst 32 (Tm.cellsL 32 l)) v ∧ Tm.niceL l := by
  obtain ⟨fuel, h⟩ := h
  obtain ⟨l, v', h1, h2, h3, h4⟩ := open_sl (n := fuel) (fun m _ => open_tm m) (fuel := fuel) (by omega) h hw
  refine ⟨l, ?_, h4⟩
  have hv : v.cells = #[v] := by
    unfold Value.okWide at hok
    rw [Try.underlying30] at hok
    cases v with
    | agg cs => simp [Cell.okWide, Cell.ok, Try.underlying30] at hok
    | _ => rfl
  rw [hv] at h1
  simp at h1
  rw [h1]; exact h3
set_option maxRecDepth 100000 in
theorem trod_it {v : Value} {d : DataW H} {p : List MemPlace} (hok : Value.okWide Try.prog W .any 0 3 v) (h : DataW.Trod enc Try.prog W 0 sp true 3 v d p) : ∃ n : Int, Rel T (E0 W) (.sc (.int .i64 n)) v ∧ (Lit.int .i64 n).wf = true := by
  obtain ⟨n, rfl, rfl, rfl, h2⟩ := open_int Try.underlying3 hok h
  exact ⟨n, by simp only [Rel]; exact ⟨trivial, rfl⟩, h2⟩
set_option maxRecDepth 100000 in
theorem trod_st {v : Value} {d : DataW H} {p : List MemPlace} {base : Nat} (hok : Value.okWide Try.prog W .any base 9 v) (h : DataW.Trod enc Try.prog W 0 sp true 9 v d p) : ∃ s : ByteArray, Rel T (E0 W) (.sc (.string s)) v := by
  obtain ⟨s, rfl, rfl, rfl, h2⟩ := Go.ChangeMaps.open_string Try.underlying9 hok h
  exact ⟨s, by simp only [Rel]; exact ⟨trivial, rfl⟩⟩
theorem own : ownKnob Try.prog.godebug = none := by kernel_rfl
theorem laidOut : laidOutB Try.prog = true := by kernel_rfl
/-- A call that needs no memory of the caller's. -/
theorem callW {f : FuncId} {args : List AV} (h : PureCall T Try.prog f args (.sc (.bool true))) {vs : List Value} (hr : RelL T (E0 W) args vs) :
    Calls Try.prog f vs.toArray W fun e W' => e = .returned (.bool true) ∧ Below W.heap.size W W' := by
  refine (h.call W (fun _ => False) vs (fun _ h => h.elim) hr).mono ?_
  rintro e W' ⟨u, rfl, h1, h2⟩
  simp only [Rel] at h2
  rw [h2.1]; exact ⟨rfl, h1⟩
theorem wEach {ts : List TypeId} {ds : List (DataW H)} (hz : (DataW.weightsEach Try.prog ts ds).all (· ≤ reachBytes) = true) {j : Nat} {t : TypeId} {d : DataW H} (ht : ts[j]? = some t) (hd : ds[j]? = some d) : ∀ k ∈ d.weights Try.prog t, k ≤ reachBytes := by
  intro k hk
  have := List.all_eq_true.1 hz _ (DataW.weights_mem_each ht hd k hk)
  simpa using this
/-- An argument reads as it did. -/
theorem argW {t : TypeId} {W' : World} {v : Value} {d : DataW H} {ps : List MemPlace} (hr : Try.prog.readableRec t = true) (ht : t < Try.prog.types.size)
    (h : DataW.Trod enc Try.prog W 0 (fun _ => true) true t v d ps) (hb : Below W.heap.size W W') (hlt : ∀ x ∈ ps, x.block < W.heap.size) : DataW.Trod enc Try.prog W' 0 (fun b => decide (b < W.heap.size)) true t v d ps :=
  Below.trod laidOut hr ht h hb hlt
end
end Go.T1
end

section
open Go Go.Ab Go.Proofs
namespace Go.T1
@[simp] theorem ty72 : T 72 = some ⟨1, 8, .map 3 32, [], some (.map none)⟩ := by kernel_rfl
@[simp] theorem ty74 : T 74 = some ⟨2, 32, .strct, [(0,1),(1,1)], some (.agg #[.map none, .slice none 0 0])⟩ := by kernel_rfl
@[simp] theorem ty25 : T 25 = some ⟨1, 8, .ptr 74, [], some (.pointer none)⟩ := by kernel_rfl
@[simp] theorem ty100 : T 100 = some ⟨1, 8, .map 3 4, [], some (.map none)⟩ := by kernel_rfl
@[simp] theorem ty96 : T 96 = some ⟨2, 16, .arr 2 3, [], some (.agg #[.int .i64 0, .int .i64 0])⟩ := by kernel_rfl
@[simp] theorem ty84 : T 84 = some ⟨1, 8, .map 96 4, [], some (.map none)⟩ := by kernel_rfl
@[simp] theorem ty86 : T 86 = some ⟨2, 16, .strct, [(0,1),(1,1)], some (.agg #[.pointer none, .map none])⟩ := by kernel_rfl
@[simp] theorem ty80 : T 80 = some ⟨2, 16, .strct, [(0,1),(1,1)], some (.agg #[.pointer none, .int .i64 0])⟩ := by kernel_rfl
@[simp] theorem ty39 : T 39 = some ⟨2, 32, .strct, [(0,1),(1,1)], some (.agg #[.slice none 0 0, .map none])⟩ := by kernel_rfl
@[simp] theorem ty36 : T 36 = some ⟨1, 24, .slice 45, [], some (.slice none 0 0)⟩ := by kernel_rfl
@[simp] theorem ty45 : T 45 = some ⟨5, 64, .strct, [(0,1),(1,4)], some (.agg #[.int .i64 0, .int .i64 0, .int .i64 0, .string .empty, .slice none 0 0])⟩ := by kernel_rfl
@[simp] theorem ty27 : T 27 = some ⟨1, 8, .ptr 39, [], some (.pointer none)⟩ := by kernel_rfl
/-- What the map holds. -/
def bsMap (B : Bs) : List (Value × AV) := B.map fun p => (.int .i64 p.1, p.2.av 32)
@[simp] theorem bsMap_keys : ∀ B : Bs, intKeys (bsMap B) = true
  | [] => rfl
  | x :: xs => by have := bsMap_keys xs; simp only [intKeys, bsMap, List.map_cons, List.all_cons, Bool.true_and] at this ⊢; exact this
theorem isK_ne {m n : Int} (h : m ≠ n) : isK n (.int .i64 m) = false := by simp [isK, h]
theorem isK_eq (n : Int) : isK n (.int .i64 n) = true := by simp [isK]
theorem bsMap_cons (m : Int) (t : Tm) (B : Bs) : bsMap ((m, t) :: B) = (.int .i64 m, t.av 32) :: bsMap B := rfl
theorem bsMap_get : ∀ (B : Bs) (n : Int), mget (bsMap B) n = (lookB B n).map (Tm.av 32)
  | [], _ => rfl
  | (m, t) :: B, n => by
    have ih := bsMap_get B n
    by_cases h : m = n
    · subst h; simp [bsMap_cons, mget, lookB, isK_eq]
    · simp [bsMap_cons, mget, lookB, isK_ne h, h, ih]
theorem bsMap_put : ∀ (B : Bs) (n : Int) (t : Tm), n ∉ keys B → mput (bsMap B) n (t.av 32) = bsMap (B ++ [(n, t)])
  | [], _, _, _ => rfl
  | (m, u) :: B, n, t, h => by
    simp only [keys_cons, List.mem_cons, not_or] at h
    have ih := bsMap_put B n t h.2
    simp [bsMap_cons, mput, isK_ne (fun e => h.1 e.symm), ih]
theorem bsMap_del : ∀ (A C : Bs) (n : Int) (t : Tm), n ∉ keys A → mdel (bsMap (A ++ (n, t) :: C)) n = bsMap (A ++ C)
  | [], C, n, t, _ => by simp [bsMap_cons, mdel, isK_eq]
  | (m, u) :: A, C, n, t, h => by
    simp only [keys_cons, List.mem_cons, not_or] at h
    have ih := bsMap_del A C n t h.2
    simp [bsMap_cons, mdel, isK_ne (fun e => h.1 e.symm), ih]
theorem bsMap_cut (N : Nat) (S : St) : ∀ B : Bs, (bsMap B).map (fun p => (p.1, p.2.cut N S)) = bsMap B
  | [] => rfl
  | (m, t) :: B => by
    have ih := bsMap_cut N S B
    unfold bsMap at ih
    simp only [bsMap, List.map_cons, AV.cut, Tm.cut_cells]
    rw [ih]
theorem cut_bs (N : Nat) (S : St) (B : Bs) : Blk.cut N S (.map (bsMap B)) = .map (bsMap B) := by simp only [Blk.cut, bsMap_cut]
theorem vn_eq (k n : Int) (s : ByteArray) (l : List Tm) : (Tm.mk k n s l).vn = if k = 1 then some n else none := rfl

set_option maxRecDepth 100000 in
theorem walk_c {B : Bs} (hB : OkB B) (t : Tm) (st : St) (s m : Nat) (X : AV) (hs : st[s]? = some (.cells [.mp m, X])) (hm : st[m]? = some (.map (bsMap B))) :
    ICall T Try.prog 50 [.ptr s 0, t.av 32] st (fun r st' => r = (wk B t).av 32 ∧ st' = st) := by
  refine ICall.of_vc hT [3] [(2,10),(2,11)] follows Try.call50 Try.func50 rfl (by kernel_rfl) fun hfix => ?_
  unfold Try.f50
  simp
  refine vcC_loop [] (fun w σ Y => ∃ u : Tm, w = wkn B u ∧ wk B u = wk B t ∧ Pre st Y ∧ Y[st.length]? = some (.cells (u.cells 32)) ∧ (∃ z, z.length = 4 ∧ Y[st.length + 1]? = some (.cells z)) ∧ σ 0 = .ptr s 0 ∧ σ 3 = .ptr st.length 0 ∧ σ 4 = .ptr (st.length + 1) 0) (wkn B t) ?_ ?_
  · simp
    exact ⟨t, rfl, rfl, (Pre.refl st).app _, by simp⟩
  rintro w σ Y ⟨⟨k, n, sn, l⟩, rfl, hw, hP, h1, ⟨z, hz, h2⟩, s0, s3, s4⟩
  have k1 := hP.get hs
  have k2 := hP.get hm
  have g1 := get_app k1
  have g2 := get_app k2
  have g3 := get_app h1
  simp [s0, s3, s4, h1, Tm.cells]
  refine ⟨fun hk => ?_, fun hk => ?_⟩
  · subst hk
    cases hl : lookB B n with
    | none =>
      refine ⟨fun i r Z => (i = 10 → r = .ptr Y.length 0) ∧ Z = Y ++ [.cells (if i = 10 then [.sc (.int .i64 0), .sc (.int .i64 0), .sc (.string .empty), .nils] else [.sc (.int .i64 0), .sc (.int .i64 0), .sc (.string .empty), .nils])], ?_⟩
      simp (decide := true) [s0, s3, s4, k1, k2, h1, g1, g2, g3, bsMap_get, hl, Tm.cells]
      refine ⟨by simp (decide := true) [s0, s3, s4, k1, k2, h1, g1, g2, g3, bsMap_get, hl, Tm.cells], ?_⟩; simp (decide := true) [s0, s3, s4, k1, k2, h1, g1, g2, g3, bsMap_get, hl, Tm.cells]
      refine ⟨by simp (decide := true) [s0, s3, s4, k1, k2, h1, g1, g2, g3, bsMap_get, hl, Tm.cells], ?_⟩; simp (decide := true) [s0, s3, s4, k1, k2, h1, g1, g2, g3, bsMap_get, hl, Tm.cells]
      refine ⟨by simp (decide := true) [s0, s3, s4, k1, k2, h1, g1, g2, g3, bsMap_get, hl, Tm.cells], ?_⟩; simp (decide := true) [s0, s3, s4, k1, k2, h1, g1, g2, g3, bsMap_get, hl, Tm.cells]
      refine ⟨by simp (decide := true) [s0, s3, s4, k1, k2, h1, g1, g2, g3, bsMap_get, hl, Tm.cells], ?_⟩; simp (decide := true) [s0, s3, s4, k1, k2, h1, g1, g2, g3, bsMap_get, hl, Tm.cells]
      refine ⟨by simp (decide := true) [s0, s3, s4, k1, k2, h1, g1, g2, g3, bsMap_get, hl, Tm.cells], ?_⟩; simp (decide := true) [s0, s3, s4, k1, k2, h1, g1, g2, g3, bsMap_get, hl, Tm.cells]
      refine ⟨by simp (decide := true) [s0, s3, s4, k1, k2, h1, g1, g2, g3, bsMap_get, hl, Tm.cells], ?_⟩; simp (decide := true) [s0, s3, s4, k1, k2, h1, g1, g2, g3, bsMap_get, hl, Tm.cells]
      refine ⟨by simp (decide := true) [s0, s3, s4, k1, k2, h1, g1, g2, g3, bsMap_get, hl, Tm.cells], ?_⟩; simp (decide := true) [s0, s3, s4, k1, k2, h1, g1, g2, g3, bsMap_get, hl, Tm.cells]
      refine ⟨by simp (decide := true) [s0, s3, s4, k1, k2, h1, g1, g2, g3, bsMap_get, hl, Tm.cells], ?_⟩; simp (decide := true) [s0, s3, s4, k1, k2, h1, g1, g2, g3, bsMap_get, hl, Tm.cells]
      refine ⟨by simp (decide := true) [s0, s3, s4, k1, k2, h1, g1, g2, g3, bsMap_get, hl, Tm.cells], ?_⟩; simp (decide := true) [s0, s3, s4, k1, k2, h1, g1, g2, g3, bsMap_get, hl, Tm.cells]
      refine ⟨by simp (decide := true) [s0, s3, s4, k1, k2, h1, g1, g2, g3, bsMap_get, hl, Tm.cells], ?_⟩; simp (decide := true) [s0, s3, s4, k1, k2, h1, g1, g2, g3, bsMap_get, hl, Tm.cells]
      refine ⟨by simp, rfl, by simp [vcI, s0, s3, s4, k1, k2, h1, g1, g2, g3, bsMap_get, hl, Tm.cells], ?_⟩
      simp (decide := true) [s0, s3, s4, k1, k2, h1, g1, g2, g3, bsMap_get, hl, Tm.cells]; try intro _
      try simp (decide := true) [s0, s3, s4, k1, k2, h1, g1, g2, g3, bsMap_get, hl, Tm.cells]
      refine ⟨by simp, rfl, by simp [vcI, s0, s3, s4, k1, k2, h1, g1, g2, g3, bsMap_get, hl, Tm.cells], ?_⟩
      simp (decide := true) [s0, s3, s4, k1, k2, h1, g1, g2, g3, bsMap_get, hl, Tm.cells]; try intro _
      try simp (decide := true) [s0, s3, s4, k1, k2, h1, g1, g2, g3, bsMap_get, hl, Tm.cells]
      refine ⟨by simp (decide := true) [s0, s3, s4, k1, k2, h1, g1, g2, g3, bsMap_get, hl, Tm.cells], ?_⟩; simp (decide := true) [s0, s3, s4, k1, k2, h1, g1, g2, g3, bsMap_get, hl, Tm.cells]
      have g4 := get_app h2
      have e : wk B t = .mk 1 n sn l := by rw [← hw]; exact (wk_none fun q hq => by simp [Tm.vn] at hq; rw [← hq]; exact hl).1
      simp [g4, hz, List.drop_of_length_le (Nat.le_of_eq hz)]
      have hP' := (hP.app [.cells [.sc (.int .i64 0), .sc (.int .i64 0), .sc (.string .empty), .nils]]).set (i := st.length + 1) (by omega) (.cells [.sc (.int .i64 1), .sc (.int .i64 n), .sc (.string sn), .lst 32 (Tm.cellsL 32 l)])
      rw [e]
      refine endP_mk ((Tm.mk 1 n sn l).av 32) ?_ ?_ ⟨rfl, hP'.cut hfix rfl⟩
      · simp [s4, get_set (g4 _)]
      · simp [s4, get_set (g4 _), Tm.cells]
    | some u =>
      refine ⟨fun i r Z => (i = 10 → r = .ptr Y.length 0) ∧ Z = Y ++ [.cells (if i = 10 then [.sc (.int .i64 0), .sc (.int .i64 0), .sc (.string .empty), .nils] else u.cells 32)], ?_⟩
      simp (decide := true) [s0, s3, s4, k1, k2, h1, g1, g2, g3, bsMap_get, hl, Tm.cells]
      refine ⟨by simp (decide := true) [s0, s3, s4, k1, k2, h1, g1, g2, g3, bsMap_get, hl, Tm.cells], ?_⟩; simp (decide := true) [s0, s3, s4, k1, k2, h1, g1, g2, g3, bsMap_get, hl, Tm.cells]
      refine ⟨by simp (decide := true) [s0, s3, s4, k1, k2, h1, g1, g2, g3, bsMap_get, hl, Tm.cells], ?_⟩; simp (decide := true) [s0, s3, s4, k1, k2, h1, g1, g2, g3, bsMap_get, hl, Tm.cells]
      refine ⟨by simp (decide := true) [s0, s3, s4, k1, k2, h1, g1, g2, g3, bsMap_get, hl, Tm.cells], ?_⟩; simp (decide := true) [s0, s3, s4, k1, k2, h1, g1, g2, g3, bsMap_get, hl, Tm.cells]
      refine ⟨by simp (decide := true) [s0, s3, s4, k1, k2, h1, g1, g2, g3, bsMap_get, hl, Tm.cells], ?_⟩; simp (decide := true) [s0, s3, s4, k1, k2, h1, g1, g2, g3, bsMap_get, hl, Tm.cells]
      refine ⟨by simp (decide := true) [s0, s3, s4, k1, k2, h1, g1, g2, g3, bsMap_get, hl, Tm.cells], ?_⟩; simp (decide := true) [s0, s3, s4, k1, k2, h1, g1, g2, g3, bsMap_get, hl, Tm.cells]
      refine ⟨by simp (decide := true) [s0, s3, s4, k1, k2, h1, g1, g2, g3, bsMap_get, hl, Tm.cells], ?_⟩; simp (decide := true) [s0, s3, s4, k1, k2, h1, g1, g2, g3, bsMap_get, hl, Tm.cells]
      refine ⟨by simp (decide := true) [s0, s3, s4, k1, k2, h1, g1, g2, g3, bsMap_get, hl, Tm.cells], ?_⟩; simp (decide := true) [s0, s3, s4, k1, k2, h1, g1, g2, g3, bsMap_get, hl, Tm.cells]
      refine ⟨by simp (decide := true) [s0, s3, s4, k1, k2, h1, g1, g2, g3, bsMap_get, hl, Tm.cells], ?_⟩; simp (decide := true) [s0, s3, s4, k1, k2, h1, g1, g2, g3, bsMap_get, hl, Tm.cells]
      refine ⟨by simp (decide := true) [s0, s3, s4, k1, k2, h1, g1, g2, g3, bsMap_get, hl, Tm.cells], ?_⟩; simp (decide := true) [s0, s3, s4, k1, k2, h1, g1, g2, g3, bsMap_get, hl, Tm.cells]
      refine ⟨by simp (decide := true) [s0, s3, s4, k1, k2, h1, g1, g2, g3, bsMap_get, hl, Tm.cells], ?_⟩; simp (decide := true) [s0, s3, s4, k1, k2, h1, g1, g2, g3, bsMap_get, hl, Tm.cells]
      refine ⟨by simp, rfl, by simp [vcI, s0, s3, s4, k1, k2, h1, g1, g2, g3, bsMap_get, hl, Tm.cells], ?_⟩
      simp (decide := true) [s0, s3, s4, k1, k2, h1, g1, g2, g3, bsMap_get, hl, Tm.cells]; try intro _
      try simp (decide := true) [s0, s3, s4, k1, k2, h1, g1, g2, g3, bsMap_get, hl, Tm.cells]
      refine ⟨by simp, rfl, by simp [vcI, s0, s3, s4, k1, k2, h1, g1, g2, g3, bsMap_get, hl, Tm.cells], ?_⟩
      simp (decide := true) [s0, s3, s4, k1, k2, h1, g1, g2, g3, bsMap_get, hl, Tm.cells]; try intro _
      try simp (decide := true) [s0, s3, s4, k1, k2, h1, g1, g2, g3, bsMap_get, hl, Tm.cells]
      refine ⟨by simp (decide := true) [s0, s3, s4, k1, k2, h1, g1, g2, g3, bsMap_get, hl, Tm.cells], ?_⟩; simp (decide := true) [s0, s3, s4, k1, k2, h1, g1, g2, g3, bsMap_get, hl, Tm.cells]
      have g4 := get_app h2
      obtain ⟨e1, e2⟩ := wk_step hB (t := .mk 1 n sn l) (by simp [Tm.vn]) hl
      refine ⟨wkn B u, by omega, u, rfl, by rw [← e1, hw], (hP.app _).set (Nat.le_refl _) _, get_set (g3 _), z, hz, g4 _⟩
  · have e : wk B t = .mk k n sn l := by rw [← hw]; exact (wk_none fun q hq => by simp [Tm.vn, hk] at hq).1
    simp [h2, hz, List.drop_of_length_le (Nat.le_of_eq hz)]
    have hP' := hP.set (i := st.length + 1) (by omega) (.cells [.sc (.int .i64 k), .sc (.int .i64 n), .sc (.string sn), .lst 32 (Tm.cellsL 32 l)])
    rw [e]
    refine endP_mk ((Tm.mk k n sn l).av 32) ?_ ?_ ⟨rfl, hP'.cut hfix rfl⟩
    · simp [s4, get_set h2]
    · simp [s4, get_set h2, Tm.cells]
end Go.T1
end

section
open Go Go.Ab Go.Proofs
namespace Go.T1
/-- What is noted of variables. -/
def boolMap (S : List Int) : List (Value × AV) := S.map fun n => (.int .i64 n, .sc (.bool true))
theorem boolMap_cons (m : Int) (S : List Int) : boolMap (m :: S) = (.int .i64 m, .sc (.bool true)) :: boolMap S := rfl
@[simp] theorem boolMap_keys : ∀ S : List Int, intKeys (boolMap S) = true
  | [] => rfl
  | x :: xs => by have := boolMap_keys xs; simp only [intKeys, boolMap_cons, List.all_cons, Bool.true_and] at this ⊢; exact this
theorem boolMap_get : ∀ (S : List Int) (n : Int), mget (boolMap S) n = if n ∈ S then some (.sc (.bool true)) else none
  | [], _ => rfl
  | m :: S, n => by
    have ih := boolMap_get S n
    by_cases h : m = n
    · subst h; simp [boolMap_cons, mget, isK_eq]
    · have h' : ¬ n = m := fun e => h e.symm
      simp [boolMap_cons, mget, isK_ne h, h', ih]
theorem boolMap_put : ∀ (S : List Int) (n : Int), n ∉ S → mput (boolMap S) n (.sc (.bool true)) = boolMap (S ++ [n])
  | [], _, _ => rfl
  | m :: S, n, h => by
    simp only [List.mem_cons, not_or] at h
    have ih := boolMap_put S n h.2
    simp [boolMap_cons, mput, isK_ne (fun e => h.1 e.symm), ih]
theorem boolMap_cut (N : Nat) (Z : St) : ∀ S : List Int, (boolMap S).map (fun p => (p.1, p.2.cut N Z)) = boolMap S
  | [] => rfl
  | m :: S => by have ih := boolMap_cut N Z S; simp only [boolMap_cons, List.map_cons, AV.cut, ih]
theorem cut_bool (N : Nat) (Z : St) (S : List Int) : Blk.cut N Z (.map (boolMap S)) = .map (boolMap S) := by simp only [Blk.cut, boolMap_cut]
theorem fix_bool {st : St} (h : Fix st) (q : Nat) (S : List Int) : Fix (st.set q (.map (boolMap S))) := fix_set h q fun N Z _ => cut_bool N Z S
/-- What a search leaves. -/
def WQ (B : Bs) (n : Int) (b : Bool) (q : Nat) (st : St) (S : List Int) (v : Value) (r : AV) (st' : St) : Prop := ∃ S', r = .sc v ∧ st' = st.set q (.map (boolMap S')) ∧ (b = false → Seen2 B n S S')
theorem Seen2.refl (B : Bs) (n : Int) (S : List Int) : Seen2 B n S S := fun v hv => .inl hv
theorem Seen2.trans {B : Bs} {n : Int} {S S' S'' : List Int} (h : Seen2 B n S S') (k : Seen2 B n S' S'') : Seen2 B n S S'' := fun v hv => by
  rcases k v hv with h1 | h1
  · exact h v h1
  · exact .inr h1
theorem any_take {p : Tm → Bool} {l : List Tm} {i : Nat} (h : i < l.length) : (l.take (i + 1)).any p = ((l.take i).any p || p l[i]) := by
  rw [Tm.take_succ h, List.any_append]; simp
set_option maxRecDepth 100000 in
/-- A search through arguments, that notes what it goes through. -/
theorem indexW_c (F : FuncId) (cs : List AV) (B : Bs) (n : Int) (l : List Tm) (q : Nat) (st : St) (S : List Int) (hq : st[q]? = some (.map (boolMap S)))
    (ih : ∀ x ∈ l, ∀ S', Seen2 B n S S' → ICall T Try.prog F (x.av 32 :: cs) (st.set q (.map (boolMap S'))) (WQ B n (lies B n x) q (st.set q (.map (boolMap S'))) S' (.bool (lies B n x)))) :
    ICall T Try.prog 72 [.lst 32 (Tm.cellsL 32 l), .fn (.func F) [] cs] st (WQ B n (l.any (lies B n)) q st S (.int .i64 (Tm.fi (lies B n) l 0))) := by
  generalize hr : Tm.fi (lies B n) l 0 = r
  refine ICall.of_vc hT [] [(4, 5)] follows Try.call72 Try.func72 rfl (by kernel_rfl) fun hfix => ?_
  unfold Try.f72
  simp
  intro hb1 hb2
  refine vcC_loop [] (fun w σ Y => ∃ (i : Nat) (S' : List Int), w = l.length - i ∧ i ≤ l.length ∧ Tm.fi (lies B n) (l.drop i) i = r ∧ Seen2 B n S S' ∧ (l.take i).any (lies B n) = false ∧ Y = st.set q (.map (boolMap S')) ∧ σ 0 = .lst 32 (Tm.cellsL 32 l) ∧ σ 1 = .fn (.func F) [] cs ∧ σ 7 = .sc (.int .i64 l.length) ∧ σ 8 = .sc (.int .i64 i)) l.length ⟨0, S, ?_⟩ ?_
  · simp [hr, Seen2.refl, set_same hq]
  rintro w σ Y ⟨i, S', rfl, hi, htk, hS, hany, rfl, s0, s1, s7, s8⟩
  rcases Nat.lt_or_ge i l.length with hlt | hge
  · simp [s0, s1, s7, s8, hlt]
    refine vcICall_of (ih l[i] (List.getElem_mem hlt) S' hS) ?_
    rintro r' st' ⟨S2, rfl, rfl, hS2⟩ hf
    simp [s0, s1, s7, s8]
    rw [List.drop_eq_getElem_cons hlt] at htk
    simp only [Tm.fi] at htk
    refine ⟨fun hp => ?_, fun hp => ⟨by unfold i64ok; omega, l.length - (i + 1), by omega, i + 1, rfl, by omega, ?_⟩⟩
    · rw [if_pos hp] at htk
      refine endP_mk (.sc (.int .i64 r)) (by simp) (by simp [htk]) ⟨S2, rfl, ?_, fun h => ?_⟩
      · exact (Pre.refl _).cut (fix_bool hfix q S2) (by simp)
      · have := List.any_eq_false.1 h l[i] (List.getElem_mem hlt)
        rw [hp] at this; exact absurd rfl this
    · rw [if_neg (by simp [hp])] at htk
      refine ⟨htk, S2, Seen2.trans hS (hS2 hp), ?_, by simp, by omega⟩
      have : (l.take (i + 1)).any (lies B n) = false := by rw [any_take hlt, hany, hp]; rfl
      simpa using this
  · have hi : i = l.length := by omega
    subst hi
    simp [s0, s1, s7, s8]
    rw [List.drop_length] at htk
    refine endP_mk (.sc (.int .i64 r)) (by simp) (by simpa [Tm.fi] using htk) ⟨S', rfl, ?_, fun _ => hS⟩
    exact (Pre.refl _).cut (fix_bool hfix q S') (by simp)
set_option maxRecDepth 100000 in
theorem containsW_c (F : FuncId) (cs : List AV) (B : Bs) (n : Int) (l : List Tm) (q : Nat) (st : St) (S : List Int) (hq : st[q]? = some (.map (boolMap S)))
    (ih : ∀ x ∈ l, ∀ S', Seen2 B n S S' → ICall T Try.prog F (x.av 32 :: cs) (st.set q (.map (boolMap S'))) (WQ B n (lies B n x) q (st.set q (.map (boolMap S'))) S' (.bool (lies B n x)))) :
    ICall T Try.prog 69 [.lst 32 (Tm.cellsL 32 l), .fn (.func F) [] cs] st (WQ B n (l.any (lies B n)) q st S (.bool (l.any (lies B n)))) := by
  refine ICall.of_vc hT [] [(1, 2)] follows Try.call69 Try.func69 rfl (by kernel_rfl) fun hfix => ?_
  unfold Try.f69
  simp
  refine vcICall_of (indexW_c F cs B n l q st S hq ih) ?_
  rintro r st' ⟨S', rfl, rfl, hS⟩ hf
  simp
  refine endP_mk (.sc (.bool (l.any (lies B n)))) (by simp) ?_ ⟨S', rfl, (Pre.refl _).cut (fix_bool hfix q S') (by simp), hS⟩
  simp
  rw [Bool.eq_iff_iff, ← Tm.fi_iff (lies B n) l 0]; simp
set_option maxRecDepth 100000 in
theorem withinF_c (B : Bs) (n : Int) (x : Tm) (q s : Nat) (st : St) (S : List Int) (hf : Fix st → ∀ S', Fix (st.set q (.map (boolMap S'))))
    (h : ICall T Try.prog 66 [.ptr s 0, .sc (.int .i64 n), x.av 32, .mp q] st (WQ B n (lies B n x) q st S (.bool (lies B n x)))) :
    ICall T Try.prog 70 [x.av 32, .eptr [.ptr s 0], .eptr [.sc (.int .i64 n)], .eptr [.mp q]] st (WQ B n (lies B n x) q st S (.bool (lies B n x))) := by
  refine ICall.of_vc hT [] [(1, 4)] follows Try.call70 Try.func70 rfl (by kernel_rfl) fun hfix => ?_
  unfold Try.f70
  simp
  refine vcICall_of h ?_
  rintro r st' ⟨S', rfl, rfl, hS⟩ _
  simp
  exact endP_mk (.sc (.bool (lies B n x))) (by simp) (by simp) ⟨S', rfl, (Pre.refl _).cut (hf hfix S') (by simp), hS⟩
set_option maxRecDepth 100000 in
/-- The search for a variable. -/
theorem within_c {B : Bs} (hB : OkB B) (n : Int) (hn : n ∉ keys B) : ∀ (M : Nat) (t : Tm), far B t = M → t.right = true → ∀ (st : St) (s m q : Nat) (X : AV) (S : List Int), st[s]? = some (.cells [.mp m, X]) → st[m]? = some (.map (bsMap B)) → st[q]? = some (.map (boolMap S)) → q ≠ s → q ≠ m → Seen B n t S →
    ICall T Try.prog 66 [.ptr s 0, .sc (.int .i64 n), t.av 32, .mp q] st (WQ B n (lies B n t) q st S (.bool (lies B n t))) := by
  intro M
  induction M using Nat.strongRecOn with
  | _ M ih =>
    rintro ⟨k, w, sn, l⟩ hM hr st s m q X S hs hm hq hqs hqm hS
    have r2 := hr
    simp only [Tm.right, Bool.and_eq_true] at r2
    refine ICall.of_vc hT [] [(2, 3), (3, 10), (3, 11), (9, 4)] follows Try.call66 Try.func66 rfl (by kernel_rfl) fun hfix => ?_
    unfold Try.f66
    simp [Tm.cells, hs, hm, hq]
    refine ⟨fun hk => ?_, fun hk => ?_⟩
    · refine vcICall_of (containsW_c 70 [.eptr [.ptr s 0], .eptr [.sc (.int .i64 n)], .eptr [.mp q]] B n l q st S hq fun x hx S' hS' => ?_) ?_
      · refine withinF_c B n x q s _ S' (fun h S2 => by simpa using fix_bool hfix q S2) ?_
        have hfar := far_arg (B := B) (n := w) (s := sn) hk hx
        refine ih (far B x) (by omega) x rfl (rightL_mem r2.2 x hx) _ s m q X S' (get_ne hs hqs) (get_ne hm hqm) (get_set hq) hqs hqm fun v hv => ?_
        rcases hS' v hv with h | ⟨h1, h2⟩
        · obtain ⟨h1, h2⟩ := hS v h
          exact ⟨h1, h2.imp id fun h => by omega⟩
        · exact ⟨h1, .inl h2⟩
      · rintro r st' ⟨S', rfl, rfl, hS'⟩ _
        simp
        rw [lies_args hk]
        exact endP_mk (.sc (.bool (l.any (lies B n)))) (by simp) (by simp) ⟨S', rfl, (Pre.refl _).cut (fix_bool hfix q S') (by simp), hS'⟩
    · subst hk
      have hv : (Tm.mk 1 w sn l).vn = some w := by simp [Tm.vn]
      have et : Tm.mk 1 w sn l = Tm.var w := (Tm.vn_some hv hr).1
      have g1 := get_app hs
      have g2 := get_app hm
      have g3 := get_app hq
      cases hl : lookB B w with
      | none =>
        have e := lies_unb (n := n) hv hl
        rw [e]
        refine ⟨fun i r Z => (i = 10 → r = .ptr st.length 0) ∧ Z = st ++ [.cells (if i = 10 then [.sc (.int .i64 0), .sc (.int .i64 0), .sc (.string .empty), .nils] else [.sc (.int .i64 0), .sc (.int .i64 0), .sc (.string .empty), .nils])], ?_⟩
        simp (decide := true) [hs, hm, hq, g1, g2, g3, bsMap_get, hl]
        refine ⟨by simp (decide := true) [hs, hm, hq, g1, g2, g3, bsMap_get, hl], ?_⟩; simp (decide := true) [hs, hm, hq, g1, g2, g3, bsMap_get, hl]
        refine ⟨by simp (decide := true) [hs, hm, hq, g1, g2, g3, bsMap_get, hl], ?_⟩; simp (decide := true) [hs, hm, hq, g1, g2, g3, bsMap_get, hl]
        refine ⟨by simp (decide := true) [hs, hm, hq, g1, g2, g3, bsMap_get, hl], ?_⟩; simp (decide := true) [hs, hm, hq, g1, g2, g3, bsMap_get, hl]
        refine ⟨by simp (decide := true) [hs, hm, hq, g1, g2, g3, bsMap_get, hl], ?_⟩; simp (decide := true) [hs, hm, hq, g1, g2, g3, bsMap_get, hl]
        refine ⟨by simp (decide := true) [hs, hm, hq, g1, g2, g3, bsMap_get, hl], ?_⟩; simp (decide := true) [hs, hm, hq, g1, g2, g3, bsMap_get, hl]
        refine ⟨by simp (decide := true) [hs, hm, hq, g1, g2, g3, bsMap_get, hl], ?_⟩; simp (decide := true) [hs, hm, hq, g1, g2, g3, bsMap_get, hl]
        refine ⟨by simp (decide := true) [hs, hm, hq, g1, g2, g3, bsMap_get, hl], ?_⟩; simp (decide := true) [hs, hm, hq, g1, g2, g3, bsMap_get, hl]
        refine ⟨by simp (decide := true) [hs, hm, hq, g1, g2, g3, bsMap_get, hl], ?_⟩; simp (decide := true) [hs, hm, hq, g1, g2, g3, bsMap_get, hl]
        refine ⟨by simp (decide := true) [hs, hm, hq, g1, g2, g3, bsMap_get, hl], ?_⟩; simp (decide := true) [hs, hm, hq, g1, g2, g3, bsMap_get, hl]
        refine ⟨by simp (decide := true) [hs, hm, hq, g1, g2, g3, bsMap_get, hl], ?_⟩; simp (decide := true) [hs, hm, hq, g1, g2, g3, bsMap_get, hl]
        refine ⟨by simp, rfl, by simp [vcI, hs, hm, hq, g1, g2, g3, bsMap_get, hl], ?_⟩
        simp (decide := true) [hs, hm, hq, g1, g2, g3, bsMap_get, hl]; try intro _
        try simp (decide := true) [hs, hm, hq, g1, g2, g3, bsMap_get, hl]
        refine ⟨by simp, rfl, by simp [vcI, hs, hm, hq, g1, g2, g3, bsMap_get, hl], ?_⟩
        simp (decide := true) [hs, hm, hq, g1, g2, g3, bsMap_get, hl]; try intro _
        try simp (decide := true) [hs, hm, hq, g1, g2, g3, bsMap_get, hl]
        refine ⟨by simp (decide := true) [hs, hm, hq, g1, g2, g3, bsMap_get, hl], ?_⟩; simp (decide := true) [hs, hm, hq, g1, g2, g3, bsMap_get, hl]
        have done : ∀ (σ : Slots) b, σ 8 = .sc (.bool b) → b = decide (n = w) → endP T [ResultVar.tmp 8] st.length (WQ B n (decide (n = w)) q st S (.bool (decide (n = w)))) σ (st ++ [.cells [.sc (.int .i64 0), .sc (.int .i64 0), .sc (.string .empty), .nils]]) := fun σ b h8 hb => by
          refine endP_mk (.sc (.bool (decide (n = w)))) (by simp) (by simp [h8, hb]) ⟨S, rfl, ?_, fun _ => Seen2.refl B n S⟩
          rw [set_same hq]; exact ((Pre.refl st).app _).cut hfix rfl
        refine ⟨fun h => done _ true rfl (by simp [h]), fun h => ?_⟩
        by_cases hw : w ∈ S <;> simp [boolMap_get, hw] <;> exact done _ false rfl (by simp; exact fun e => h e.symm)
      | some u =>
        have e := lies_step (n := n) hB hv hl hr
        rw [e]
        refine ⟨fun i r Z => (i = 10 → r = .ptr st.length 0) ∧ Z = st ++ [.cells (if i = 10 then [.sc (.int .i64 0), .sc (.int .i64 0), .sc (.string .empty), .nils] else u.cells 32)], ?_⟩
        simp (decide := true) [hs, hm, hq, g1, g2, g3, bsMap_get, hl]
        refine ⟨by simp (decide := true) [hs, hm, hq, g1, g2, g3, bsMap_get, hl], ?_⟩; simp (decide := true) [hs, hm, hq, g1, g2, g3, bsMap_get, hl]
        refine ⟨by simp (decide := true) [hs, hm, hq, g1, g2, g3, bsMap_get, hl], ?_⟩; simp (decide := true) [hs, hm, hq, g1, g2, g3, bsMap_get, hl]
        refine ⟨by simp (decide := true) [hs, hm, hq, g1, g2, g3, bsMap_get, hl], ?_⟩; simp (decide := true) [hs, hm, hq, g1, g2, g3, bsMap_get, hl]
        refine ⟨by simp (decide := true) [hs, hm, hq, g1, g2, g3, bsMap_get, hl], ?_⟩; simp (decide := true) [hs, hm, hq, g1, g2, g3, bsMap_get, hl]
        refine ⟨by simp (decide := true) [hs, hm, hq, g1, g2, g3, bsMap_get, hl], ?_⟩; simp (decide := true) [hs, hm, hq, g1, g2, g3, bsMap_get, hl]
        refine ⟨by simp (decide := true) [hs, hm, hq, g1, g2, g3, bsMap_get, hl], ?_⟩; simp (decide := true) [hs, hm, hq, g1, g2, g3, bsMap_get, hl]
        refine ⟨by simp (decide := true) [hs, hm, hq, g1, g2, g3, bsMap_get, hl], ?_⟩; simp (decide := true) [hs, hm, hq, g1, g2, g3, bsMap_get, hl]
        refine ⟨by simp (decide := true) [hs, hm, hq, g1, g2, g3, bsMap_get, hl], ?_⟩; simp (decide := true) [hs, hm, hq, g1, g2, g3, bsMap_get, hl]
        refine ⟨by simp (decide := true) [hs, hm, hq, g1, g2, g3, bsMap_get, hl], ?_⟩; simp (decide := true) [hs, hm, hq, g1, g2, g3, bsMap_get, hl]
        refine ⟨by simp (decide := true) [hs, hm, hq, g1, g2, g3, bsMap_get, hl], ?_⟩; simp (decide := true) [hs, hm, hq, g1, g2, g3, bsMap_get, hl]
        refine ⟨by simp, rfl, by simp [vcI, hs, hm, hq, g1, g2, g3, bsMap_get, hl], ?_⟩
        simp (decide := true) [hs, hm, hq, g1, g2, g3, bsMap_get, hl]; try intro _
        try simp (decide := true) [hs, hm, hq, g1, g2, g3, bsMap_get, hl]
        refine ⟨by simp, rfl, by simp [vcI, hs, hm, hq, g1, g2, g3, bsMap_get, hl], ?_⟩
        simp (decide := true) [hs, hm, hq, g1, g2, g3, bsMap_get, hl]; try intro _
        try simp (decide := true) [hs, hm, hq, g1, g2, g3, bsMap_get, hl]
        refine ⟨by simp (decide := true) [hs, hm, hq, g1, g2, g3, bsMap_get, hl], ?_⟩; simp (decide := true) [hs, hm, hq, g1, g2, g3, bsMap_get, hl]
        have hwn : ¬ w = n := fun e => hn (by rw [← e]; exact Classical.not_not.1 fun h => by rw [look_none.2 h] at hl; cases hl)
        have hwk : w ∈ keys B := Classical.not_not.1 fun h => by rw [look_none.2 h] at hl; cases hl
        refine ⟨fun h => absurd h hwn, fun _ => ?_⟩
        by_cases hw : w ∈ S
        · simp [boolMap_get, hw]
          have hlf : lies B n u = false := by
            rw [← e, et]
            rcases (hS w hw).2 with h | h
            · exact h
            · rw [et] at h; omega
          rw [hlf]
          refine endP_mk (.sc (.bool false)) (by simp) (by simp) ⟨S, rfl, ?_, fun _ => Seen2.refl B n S⟩
          rw [set_same hq]; exact ((Pre.refl st).app _).cut hfix rfl
        · have hfar := far_step hB hv hl hr
          simp [boolMap_get, hw, g1, g2, g3, boolMap_put, set_app hq, Tm.cells]
          refine vcICall_of (ih (far B u) (by omega) u rfl (OkB_look hB hl) _ s m q X (S ++ [w]) (get_app (get_ne hs hqs) _) (get_app (get_ne hm hqm) _) (get_app (get_set hq) _) hqs hqm fun v hv => ?_) ?_
          · rcases List.mem_append.1 hv with h | h
            · obtain ⟨h1, h2⟩ := hS v h
              exact ⟨h1, h2.imp id fun h => by omega⟩
            · simp at h; subst h
              rw [et] at hfar
              exact ⟨hwk, .inr hfar⟩
          · rintro r st' ⟨S', rfl, rfl, hS'⟩ _
            simp
            refine endP_mk (.sc (.bool (lies B n u))) (by simp) (by simp) ⟨S', rfl, ?_, fun h v hv => ?_⟩
            · have := (((Pre.refl st).set2 q (.map (boolMap (S ++ [w])))).app [.cells (u.cells 32)]).set2 q (.map (boolMap S'))
              rw [List.set_set] at this
              exact this.cut (fix_bool hfix q S') (by simp)
            · rcases hS' h v hv with h1 | h1
              · rcases List.mem_append.1 h1 with h1 | h1
                · exact .inl h1
                · simp at h1; subst h1
                  exact .inr ⟨hwk, by rw [← et, e]; exact h⟩
              · exact .inr h1
end Go.T1
end

section
open Go Go.Ab Go.Proofs
namespace Go.T1
/-- Where the bindings lie: the struct, its map, its row. -/
structure SS (st : St) (s m o g : Nat) (al : Bool) (B : Bs) : Prop where
  hs : st[s]? = some (.cells [.mp m, .own o g])
  hm : st[m]? = some (.map (bsMap B))
  ho : st[o]? = some (.row 3 g al (intsL (keys B)))
  hal : B ≠ [] → al = true
  sm : s ≠ m
  so : s ≠ o
  mo : m ≠ o
/-- The same with other bindings. -/
def sST (st : St) (s m o g : Nat) (al : Bool) (B : Bs) : St := ((st.set m (.map (bsMap B))).set o (.row 3 g al (intsL (keys B)))).set s (.cells [.mp m, .own o g])
section
variable {st : St} {s m o g g' : Nat} {al al' : Bool} {B B' : Bs}
theorem SS.same (h : SS st s m o g al B) : sST st s m o g al B = st := by
  unfold sST; rw [set_same h.hm, set_same h.ho, set_same h.hs]
theorem SS.put (h : SS st s m o g al B) (h' : B' ≠ [] → al' = true) : SS (sST st s m o g' al' B') s m o g' al' B' := by
  refine ⟨?_, ?_, ?_, h', h.sm, h.so, h.mo⟩
  · unfold sST; exact get_set (get_ne (get_ne h.hs (Ne.symm h.sm)) (Ne.symm h.so))
  · unfold sST; exact get_ne (get_ne (get_set h.hm) (Ne.symm h.mo)) h.sm
  · unfold sST; exact get_ne (get_set (get_ne h.ho h.mo)) h.so
theorem sST_other {i : Nat} {b : Blk} (h : st[i]? = some b) (h1 : s ≠ i) (h2 : m ≠ i) (h3 : o ≠ i) : (sST st s m o g al B)[i]? = some b := get_ne (get_ne (get_ne h h2) h3) h1
theorem sST_app (h : SS st s m o g al B) (l : St) : sST (st ++ l) s m o g' al' B' = sST st s m o g' al' B' ++ l := by
  unfold sST; rw [set_app h.hm, set_app (get_ne h.ho h.mo), set_app (get_ne (get_ne h.hs (Ne.symm h.sm)) (Ne.symm h.so))]
theorem SS.app (h : SS st s m o g al B) (l : St) : SS (st ++ l) s m o g al B := ⟨get_app h.hs l, get_app h.hm l, get_app h.ho l, h.hal, h.sm, h.so, h.mo⟩
theorem set_comm (st : St) {i j : Nat} (h : i ≠ j) (a b : Blk) : (st.set i a).set j b = (st.set j b).set i a := by rw [List.set_comm _ _ h]
theorem sST_sST (hsm : s ≠ m) (hso : s ≠ o) (hmo : m ≠ o) (st : St) (g g' : Nat) (al al' : Bool) (B B' : Bs) : sST (sST st s m o g al B) s m o g' al' B' = sST st s m o g' al' B' := by
  unfold sST
  rw [set_comm _ hsm, set_comm _ hso, List.set_set, set_comm (st.set m _) (Ne.symm hmo), List.set_set, List.set_set]
theorem sST_pre {X Y : St} (h : Pre X Y) : Pre (sST X s m o g al B) (sST Y s m o g al B) := ((h.set2 _ _).set2 _ _).set2 _ _
theorem sST_len : (sST st s m o g al B).length = st.length := by simp [sST]
theorem fix_SS (h : Fix st) (hS : SS st s m o g al B) (g' : Nat) (al' : Bool) (B' : Bs) : Fix (sST st s m o g' al' B') := by
  have h1 := lt_of_get hS.hm
  have h2 := lt_of_get hS.ho
  unfold sST
  refine fix_set (fix_set (fix_set h m fun N S _ => cut_bs N S B') o fun N S _ => by rw [cut_row, intsL_cut]) s fun N S hN => ?_
  simp at hN
  simp [cut_cells, AV.cutL, AV.cut]; omega
theorem SS.lts (h : SS st s m o g al B) : s < st.length ∧ m < st.length ∧ o < st.length := ⟨lt_of_get h.hs, lt_of_get h.hm, lt_of_get h.ho⟩
end
/-- What comes of binding. -/
def BQ (B : Bs) (n : Int) (t : Tm) (st : St) (s m o g : Nat) (r : AV) (st' : St) : Prop :=
  (lies B n t = true ∧ r = .sc (.bool false) ∧ st' = st) ∨ (lies B n t = false ∧ r = .sc (.bool true) ∧ st' = sST st s m o (g + 1) true (B ++ [(n, t)]))
set_option maxRecDepth 100000 in
theorem bind_c {B : Bs} (hB : OkB B) (n : Int) (t : Tm) (hn : n ∉ keys B) (hr : t.right = true) (hsz : B.length ≤ 1000000000) (st : St) (s m o g : Nat) (al : Bool) (h : SS st s m o g al B) :
    ICall T Try.prog 62 [.ptr s 0, .sc (.int .i64 n), t.av 32] st (BQ B n t st s m o g) := by
  obtain ⟨l1, l2, l3⟩ := h.lts
  refine ICall.of_vc hT [] [(1, 4), (4, 7)] follows Try.call62 Try.func62 rfl (by kernel_rfl) fun hfix => ?_
  unfold Try.f62
  simp
  refine vcICall_of (within_c hB n hn _ t rfl hr (st ++ [.map []]) s m st.length (.own o g) [] (get_app h.hs _) (get_app h.hm _) (get_last _ _) (by omega) (by omega) fun v hv => by cases hv) ?_
  rintro r st' ⟨S', rfl, rfl, _⟩ _
  have hS := h.app [.map (boolMap S')]
  have e0 : ∀ b, (st ++ [Blk.map []]).set st.length b = st ++ [b] := fun b => by simp
  rw [e0]
  simp [hS.hs, hS.hm, hS.ho]
  refine ⟨fun hl => ?_, fun hl => ?_⟩
  · exact endP_mk (.sc (.bool false)) (by simp) (by simp) (.inl ⟨hl, rfl, ((Pre.refl st).app _).cut hfix rfl⟩)
  · simp [get_ne hS.hs (Ne.symm h.sm), get_ne hS.ho h.mo]
    have q1 := fun a b => get_ne (i := o) (b := b) (get_ne (i := m) (b := a) hS.hs (Ne.symm h.sm)) (Ne.symm h.so)
    have q2 := fun a b => get_set (b := b) (get_ne (i := m) (b := a) hS.ho h.mo)
    simp [q1, q2]
    refine ⟨by omega, ?_⟩
    refine endP_mk (.sc (.bool true)) (by simp) (by simp) (.inr ⟨hl, rfl, ?_⟩)
    have := sST_pre (s := s) (m := m) (o := o) (g := g + 1) (al := true) (B := B ++ [(n, t)]) ((Pre.refl st).app [.map (boolMap S')])
    have e1 := bsMap_put B n t hn
    have e2 : intsL (keys (B ++ [(n, t)])) = intsL (keys B) ++ [[.sc (.int .i64 n)]] := by rw [keys_append, intsL_append]; rfl
    rw [e1, ← e2]
    exact this.cut (fix_SS hfix h _ _ _) (by rw [sST_len])
end Go.T1
end

section
open Go Go.Ab Go.Proofs
namespace Go.T1
/-- Pairs that were held against each other. -/
abbrev Ps := List (Int × Int)
def pairMap (P : Ps) : List (Value × AV) := P.map fun p => (.agg #[.int .i64 p.1, .int .i64 p.2], .sc (.bool true))
theorem pairMap_cons (p : Int × Int) (P : Ps) : pairMap (p :: P) = (.agg #[.int .i64 p.1, .int .i64 p.2], .sc (.bool true)) :: pairMap P := rfl
@[simp] theorem pairMap_keys : ∀ P : Ps, pairKeys (pairMap P) = true
  | [] => rfl
  | x :: xs => by have := pairMap_keys xs; simp only [pairKeys, pairMap_cons, List.all_cons, Bool.and_eq_true] at this ⊢; exact ⟨rfl, this⟩
theorem isKP_eq (a b : Int) : isKP a b (.agg #[.int .i64 a, .int .i64 b]) = true := by simp [isKP]
theorem isKP_ne {a b x y : Int} (h : ¬ (x = a ∧ y = b)) : isKP a b (.agg #[.int .i64 x, .int .i64 y]) = false := by simp [isKP]; exact fun h1 h2 => h ⟨h1, h2⟩
theorem pairMap_get : ∀ (P : Ps) (a b : Int), mgetP (pairMap P) a b = if (a, b) ∈ P then some (.sc (.bool true)) else none
  | [], _, _ => rfl
  | (x, y) :: P, a, b => by
    have ih := pairMap_get P a b
    by_cases h : x = a ∧ y = b
    · obtain ⟨rfl, rfl⟩ := h
      simp [pairMap_cons, mgetP, isKP_eq]
    · have h' : ¬ (a = x ∧ b = y) := fun e => h ⟨e.1.symm, e.2.symm⟩
      simp [pairMap_cons, mgetP, isKP_ne h, h', ih]
theorem pairMap_put : ∀ (P : Ps) (a b : Int), (a, b) ∉ P → mputP (pairMap P) a b (.sc (.bool true)) = pairMap (P ++ [(a, b)])
  | [], _, _, _ => rfl
  | (x, y) :: P, a, b, h => by
    simp only [List.mem_cons, not_or, Prod.mk.injEq] at h
    have ih := pairMap_put P a b h.2
    have h' : ¬ (x = a ∧ y = b) := fun e => h.1 ⟨e.1.symm, e.2.symm⟩
    simp [pairMap_cons, mputP, isKP_ne h', ih]
theorem pairMap_cut (N : Nat) (Z : St) : ∀ P : Ps, (pairMap P).map (fun p => (p.1, p.2.cut N Z)) = pairMap P
  | [] => rfl
  | m :: S => by have ih := pairMap_cut N Z S; simp only [pairMap_cons, List.map_cons, AV.cut, ih]
theorem fix_pair {st : St} (h : Fix st) (q : Nat) (P : Ps) : Fix (st.set q (.map (pairMap P))) := fix_set h q fun N Z _ => by simp only [Blk.cut, pairMap_cut]
/-- Two bound variables? -/
def bothV (B : Bs) (a b : Tm) : Option (Int × Int) :=
  match a.vn, b.vn with
  | some x, some y => if x ∈ keys B ∧ y ∈ keys B then some (x, y) else none
  | _, _ => none
def againB (B : Bs) (P : Ps) (a b : Tm) : Bool := match bothV B a b with | some p => decide (p ∈ P) | none => false
def againP (B : Bs) (P : Ps) (a b : Tm) : Ps := match bothV B a b with | some p => if p ∈ P then P else P ++ [p] | none => P
set_option maxRecDepth 100000 in
theorem again_c {B : Bs} (P : Ps) (a b : Tm) (st : St) (M s m o g q : Nat) (al : Bool) (h : SS st s m o g al B) (hM : st[M]? = some (.cells [.ptr s 0, .mp q])) (hq : st[q]? = some (.map (pairMap P))) :
    ICall T Try.prog 61 [.ptr M 0, a.av 32, b.av 32] st (fun r st' => r = .sc (.bool (againB B P a b)) ∧ st' = st.set q (.map (pairMap (againP B P a b)))) := by
  obtain ⟨l1, l2, l3⟩ := h.lts
  have hs := h.hs
  have hm := h.hm
  have g1 := get_app hs
  have g2 := get_app hm
  have g3 := get_app hM
  have g4 := get_app hq
  obtain ⟨k, x, sx, l⟩ := a
  obtain ⟨k', y, sy, l'⟩ := b
  refine ICall.of_vc hT [] [(3, 13), (3, 14), (4, 13), (4, 14)] follows Try.call61 Try.func61 rfl (by kernel_rfl) fun hfix => ?_
  unfold Try.f61
  simp [Tm.cells]
  have stay : ∀ (σ : Slots) (Y : St), σ 6 = .sc (.bool false) → Pre st Y → bothV B (.mk k x sx l) (.mk k' y sy l') = none → endP T [ResultVar.tmp 6] st.length (fun r st' => r = .sc (.bool (againB B P (.mk k x sx l) (.mk k' y sy l'))) ∧ st' = st.set q (.map (pairMap (againP B P (.mk k x sx l) (.mk k' y sy l'))))) σ Y := by
    intro σ Y h6 hY hb
    refine endP_mk (.sc (.bool false)) (by simp) (by simp [h6]) ⟨by simp [againB, hb], ?_⟩
    simp only [againP, hb]
    rw [set_same hq]; exact hY.cut hfix rfl
  refine ⟨fun hk => stay _ _ rfl (Pre.refl st) ?_, fun hk hk' => ?_⟩
  · unfold bothV
    simp only [vn_eq]
    rcases hk with hk | hk
    · rw [if_neg hk]
    · rw [if_neg hk]; split <;> simp_all
  subst hk
  subst hk'
  have hv1 : (Tm.mk 1 x sx l).vn = some x := by simp [Tm.vn]
  have hv2 : (Tm.mk 1 y sy l').vn = some y := by simp [Tm.vn]
  cases hl1 : lookB B x with
  | none =>
    cases hl2 : lookB B y with
    | none =>
      refine ⟨fun i r Z => (i = 13 → r = .ptr st.length 0) ∧ Z = st ++ [.cells (if i = 13 then [.sc (.int .i64 0), .sc (.int .i64 0), .sc (.string .empty), .nils] else [.sc (.int .i64 0), .sc (.int .i64 0), .sc (.string .empty), .nils])], ?_⟩
      simp (decide := true) [hs, hm, hM, hq, g1, g2, g3, g4, bsMap_get, hl1, hl2, List.append_assoc]
      refine ⟨by simp (decide := true) [hs, hm, hM, hq, g1, g2, g3, g4, bsMap_get, hl1, hl2, List.append_assoc], ?_⟩; simp (decide := true) [hs, hm, hM, hq, g1, g2, g3, g4, bsMap_get, hl1, hl2, List.append_assoc]
      refine ⟨by simp (decide := true) [hs, hm, hM, hq, g1, g2, g3, g4, bsMap_get, hl1, hl2, List.append_assoc], ?_⟩; simp (decide := true) [hs, hm, hM, hq, g1, g2, g3, g4, bsMap_get, hl1, hl2, List.append_assoc]
      refine ⟨by simp (decide := true) [hs, hm, hM, hq, g1, g2, g3, g4, bsMap_get, hl1, hl2, List.append_assoc], ?_⟩; simp (decide := true) [hs, hm, hM, hq, g1, g2, g3, g4, bsMap_get, hl1, hl2, List.append_assoc]
      refine ⟨by simp (decide := true) [hs, hm, hM, hq, g1, g2, g3, g4, bsMap_get, hl1, hl2, List.append_assoc], ?_⟩; simp (decide := true) [hs, hm, hM, hq, g1, g2, g3, g4, bsMap_get, hl1, hl2, List.append_assoc]
      refine ⟨by simp (decide := true) [hs, hm, hM, hq, g1, g2, g3, g4, bsMap_get, hl1, hl2, List.append_assoc], ?_⟩; simp (decide := true) [hs, hm, hM, hq, g1, g2, g3, g4, bsMap_get, hl1, hl2, List.append_assoc]
      refine ⟨by simp (decide := true) [hs, hm, hM, hq, g1, g2, g3, g4, bsMap_get, hl1, hl2, List.append_assoc], ?_⟩; simp (decide := true) [hs, hm, hM, hq, g1, g2, g3, g4, bsMap_get, hl1, hl2, List.append_assoc]
      refine ⟨by simp (decide := true) [hs, hm, hM, hq, g1, g2, g3, g4, bsMap_get, hl1, hl2, List.append_assoc], ?_⟩; simp (decide := true) [hs, hm, hM, hq, g1, g2, g3, g4, bsMap_get, hl1, hl2, List.append_assoc]
      refine ⟨by simp (decide := true) [hs, hm, hM, hq, g1, g2, g3, g4, bsMap_get, hl1, hl2, List.append_assoc], ?_⟩; simp (decide := true) [hs, hm, hM, hq, g1, g2, g3, g4, bsMap_get, hl1, hl2, List.append_assoc]
      refine ⟨by simp (decide := true) [hs, hm, hM, hq, g1, g2, g3, g4, bsMap_get, hl1, hl2, List.append_assoc], ?_⟩; simp (decide := true) [hs, hm, hM, hq, g1, g2, g3, g4, bsMap_get, hl1, hl2, List.append_assoc]
      refine ⟨by simp (decide := true) [hs, hm, hM, hq, g1, g2, g3, g4, bsMap_get, hl1, hl2, List.append_assoc], ?_⟩; simp (decide := true) [hs, hm, hM, hq, g1, g2, g3, g4, bsMap_get, hl1, hl2, List.append_assoc]
      refine ⟨by simp (decide := true) [hs, hm, hM, hq, g1, g2, g3, g4, bsMap_get, hl1, hl2, List.append_assoc], ?_⟩; simp (decide := true) [hs, hm, hM, hq, g1, g2, g3, g4, bsMap_get, hl1, hl2, List.append_assoc]
      refine ⟨by simp (decide := true) [hs, hm, hM, hq, g1, g2, g3, g4, bsMap_get, hl1, hl2, List.append_assoc], ?_⟩; simp (decide := true) [hs, hm, hM, hq, g1, g2, g3, g4, bsMap_get, hl1, hl2, List.append_assoc]
      refine ⟨by simp (decide := true) [hs, hm, hM, hq, g1, g2, g3, g4, bsMap_get, hl1, hl2, List.append_assoc], ?_⟩; simp (decide := true) [hs, hm, hM, hq, g1, g2, g3, g4, bsMap_get, hl1, hl2, List.append_assoc]
      refine ⟨by simp, rfl, by simp [vcI, hs, hm, hM, hq, g1, g2, g3, g4, bsMap_get, hl1, hl2, List.append_assoc], ?_⟩
      simp (decide := true) [hs, hm, hM, hq, g1, g2, g3, g4, bsMap_get, hl1, hl2, List.append_assoc]; try intro _
      try simp (decide := true) [hs, hm, hM, hq, g1, g2, g3, g4, bsMap_get, hl1, hl2, List.append_assoc]
      refine ⟨by simp, rfl, by simp [vcI, hs, hm, hM, hq, g1, g2, g3, g4, bsMap_get, hl1, hl2, List.append_assoc], ?_⟩
      simp (decide := true) [hs, hm, hM, hq, g1, g2, g3, g4, bsMap_get, hl1, hl2, List.append_assoc]; try intro _
      try simp (decide := true) [hs, hm, hM, hq, g1, g2, g3, g4, bsMap_get, hl1, hl2, List.append_assoc]
      refine ⟨by simp (decide := true) [hs, hm, hM, hq, g1, g2, g3, g4, bsMap_get, hl1, hl2, List.append_assoc], ?_⟩; simp (decide := true) [hs, hm, hM, hq, g1, g2, g3, g4, bsMap_get, hl1, hl2, List.append_assoc]
      refine ⟨fun i r Z => (i = 13 → r = .ptr (st.length + 1) 0) ∧ Z = st ++ [.cells ([.sc (.int .i64 0), .sc (.int .i64 0), .sc (.string .empty), .nils]), .cells (if i = 13 then [.sc (.int .i64 0), .sc (.int .i64 0), .sc (.string .empty), .nils] else [.sc (.int .i64 0), .sc (.int .i64 0), .sc (.string .empty), .nils])], ?_⟩
      simp (decide := true) [hs, hm, hM, hq, g1, g2, g3, g4, bsMap_get, hl1, hl2, List.append_assoc]
      refine ⟨by simp (decide := true) [hs, hm, hM, hq, g1, g2, g3, g4, bsMap_get, hl1, hl2, List.append_assoc], ?_⟩; simp (decide := true) [hs, hm, hM, hq, g1, g2, g3, g4, bsMap_get, hl1, hl2, List.append_assoc]
      refine ⟨by simp (decide := true) [hs, hm, hM, hq, g1, g2, g3, g4, bsMap_get, hl1, hl2, List.append_assoc], ?_⟩; simp (decide := true) [hs, hm, hM, hq, g1, g2, g3, g4, bsMap_get, hl1, hl2, List.append_assoc]
      refine ⟨by simp (decide := true) [hs, hm, hM, hq, g1, g2, g3, g4, bsMap_get, hl1, hl2, List.append_assoc], ?_⟩; simp (decide := true) [hs, hm, hM, hq, g1, g2, g3, g4, bsMap_get, hl1, hl2, List.append_assoc]
      refine ⟨by simp (decide := true) [hs, hm, hM, hq, g1, g2, g3, g4, bsMap_get, hl1, hl2, List.append_assoc], ?_⟩; simp (decide := true) [hs, hm, hM, hq, g1, g2, g3, g4, bsMap_get, hl1, hl2, List.append_assoc]
      refine ⟨by simp (decide := true) [hs, hm, hM, hq, g1, g2, g3, g4, bsMap_get, hl1, hl2, List.append_assoc], ?_⟩; simp (decide := true) [hs, hm, hM, hq, g1, g2, g3, g4, bsMap_get, hl1, hl2, List.append_assoc]
      refine ⟨by simp (decide := true) [hs, hm, hM, hq, g1, g2, g3, g4, bsMap_get, hl1, hl2, List.append_assoc], ?_⟩; simp (decide := true) [hs, hm, hM, hq, g1, g2, g3, g4, bsMap_get, hl1, hl2, List.append_assoc]
      refine ⟨by simp (decide := true) [hs, hm, hM, hq, g1, g2, g3, g4, bsMap_get, hl1, hl2, List.append_assoc], ?_⟩; simp (decide := true) [hs, hm, hM, hq, g1, g2, g3, g4, bsMap_get, hl1, hl2, List.append_assoc]
      refine ⟨by simp (decide := true) [hs, hm, hM, hq, g1, g2, g3, g4, bsMap_get, hl1, hl2, List.append_assoc], ?_⟩; simp (decide := true) [hs, hm, hM, hq, g1, g2, g3, g4, bsMap_get, hl1, hl2, List.append_assoc]
      refine ⟨by simp (decide := true) [hs, hm, hM, hq, g1, g2, g3, g4, bsMap_get, hl1, hl2, List.append_assoc], ?_⟩; simp (decide := true) [hs, hm, hM, hq, g1, g2, g3, g4, bsMap_get, hl1, hl2, List.append_assoc]
      refine ⟨by simp (decide := true) [hs, hm, hM, hq, g1, g2, g3, g4, bsMap_get, hl1, hl2, List.append_assoc], ?_⟩; simp (decide := true) [hs, hm, hM, hq, g1, g2, g3, g4, bsMap_get, hl1, hl2, List.append_assoc]
      refine ⟨by simp (decide := true) [hs, hm, hM, hq, g1, g2, g3, g4, bsMap_get, hl1, hl2, List.append_assoc], ?_⟩; simp (decide := true) [hs, hm, hM, hq, g1, g2, g3, g4, bsMap_get, hl1, hl2, List.append_assoc]
      refine ⟨by simp (decide := true) [hs, hm, hM, hq, g1, g2, g3, g4, bsMap_get, hl1, hl2, List.append_assoc], ?_⟩; simp (decide := true) [hs, hm, hM, hq, g1, g2, g3, g4, bsMap_get, hl1, hl2, List.append_assoc]
      refine ⟨by simp (decide := true) [hs, hm, hM, hq, g1, g2, g3, g4, bsMap_get, hl1, hl2, List.append_assoc], ?_⟩; simp (decide := true) [hs, hm, hM, hq, g1, g2, g3, g4, bsMap_get, hl1, hl2, List.append_assoc]
      refine ⟨by simp, rfl, by simp [vcI, hs, hm, hM, hq, g1, g2, g3, g4, bsMap_get, hl1, hl2, List.append_assoc], ?_⟩
      simp (decide := true) [hs, hm, hM, hq, g1, g2, g3, g4, bsMap_get, hl1, hl2, List.append_assoc]; try intro _
      try simp (decide := true) [hs, hm, hM, hq, g1, g2, g3, g4, bsMap_get, hl1, hl2, List.append_assoc]
      refine ⟨by simp, rfl, by simp [vcI, hs, hm, hM, hq, g1, g2, g3, g4, bsMap_get, hl1, hl2, List.append_assoc], ?_⟩
      simp (decide := true) [hs, hm, hM, hq, g1, g2, g3, g4, bsMap_get, hl1, hl2, List.append_assoc]; try intro _
      try simp (decide := true) [hs, hm, hM, hq, g1, g2, g3, g4, bsMap_get, hl1, hl2, List.append_assoc]
      refine ⟨by simp (decide := true) [hs, hm, hM, hq, g1, g2, g3, g4, bsMap_get, hl1, hl2, List.append_assoc], ?_⟩; simp (decide := true) [hs, hm, hM, hq, g1, g2, g3, g4, bsMap_get, hl1, hl2, List.append_assoc]
      have hb : bothV B (.mk 1 x sx l) (.mk 1 y sy l') = none := by simp [bothV, hv1, hv2, look_none.1 hl1]
      by_cases hp : (x, y) ∈ P <;> simp [pairMap_get, hp] <;> exact stay _ _ rfl ((Pre.refl st).app _) hb
    | some v =>
      refine ⟨fun i r Z => (i = 13 → r = .ptr st.length 0) ∧ Z = st ++ [.cells (if i = 13 then [.sc (.int .i64 0), .sc (.int .i64 0), .sc (.string .empty), .nils] else [.sc (.int .i64 0), .sc (.int .i64 0), .sc (.string .empty), .nils])], ?_⟩
      simp (decide := true) [hs, hm, hM, hq, g1, g2, g3, g4, bsMap_get, hl1, hl2, List.append_assoc]
      refine ⟨by simp (decide := true) [hs, hm, hM, hq, g1, g2, g3, g4, bsMap_get, hl1, hl2, List.append_assoc], ?_⟩; simp (decide := true) [hs, hm, hM, hq, g1, g2, g3, g4, bsMap_get, hl1, hl2, List.append_assoc]
      refine ⟨by simp (decide := true) [hs, hm, hM, hq, g1, g2, g3, g4, bsMap_get, hl1, hl2, List.append_assoc], ?_⟩; simp (decide := true) [hs, hm, hM, hq, g1, g2, g3, g4, bsMap_get, hl1, hl2, List.append_assoc]
      refine ⟨by simp (decide := true) [hs, hm, hM, hq, g1, g2, g3, g4, bsMap_get, hl1, hl2, List.append_assoc], ?_⟩; simp (decide := true) [hs, hm, hM, hq, g1, g2, g3, g4, bsMap_get, hl1, hl2, List.append_assoc]
      refine ⟨by simp (decide := true) [hs, hm, hM, hq, g1, g2, g3, g4, bsMap_get, hl1, hl2, List.append_assoc], ?_⟩; simp (decide := true) [hs, hm, hM, hq, g1, g2, g3, g4, bsMap_get, hl1, hl2, List.append_assoc]
      refine ⟨by simp (decide := true) [hs, hm, hM, hq, g1, g2, g3, g4, bsMap_get, hl1, hl2, List.append_assoc], ?_⟩; simp (decide := true) [hs, hm, hM, hq, g1, g2, g3, g4, bsMap_get, hl1, hl2, List.append_assoc]
      refine ⟨by simp (decide := true) [hs, hm, hM, hq, g1, g2, g3, g4, bsMap_get, hl1, hl2, List.append_assoc], ?_⟩; simp (decide := true) [hs, hm, hM, hq, g1, g2, g3, g4, bsMap_get, hl1, hl2, List.append_assoc]
      refine ⟨by simp (decide := true) [hs, hm, hM, hq, g1, g2, g3, g4, bsMap_get, hl1, hl2, List.append_assoc], ?_⟩; simp (decide := true) [hs, hm, hM, hq, g1, g2, g3, g4, bsMap_get, hl1, hl2, List.append_assoc]
      refine ⟨by simp (decide := true) [hs, hm, hM, hq, g1, g2, g3, g4, bsMap_get, hl1, hl2, List.append_assoc], ?_⟩; simp (decide := true) [hs, hm, hM, hq, g1, g2, g3, g4, bsMap_get, hl1, hl2, List.append_assoc]
      refine ⟨by simp (decide := true) [hs, hm, hM, hq, g1, g2, g3, g4, bsMap_get, hl1, hl2, List.append_assoc], ?_⟩; simp (decide := true) [hs, hm, hM, hq, g1, g2, g3, g4, bsMap_get, hl1, hl2, List.append_assoc]
      refine ⟨by simp (decide := true) [hs, hm, hM, hq, g1, g2, g3, g4, bsMap_get, hl1, hl2, List.append_assoc], ?_⟩; simp (decide := true) [hs, hm, hM, hq, g1, g2, g3, g4, bsMap_get, hl1, hl2, List.append_assoc]
      refine ⟨by simp (decide := true) [hs, hm, hM, hq, g1, g2, g3, g4, bsMap_get, hl1, hl2, List.append_assoc], ?_⟩; simp (decide := true) [hs, hm, hM, hq, g1, g2, g3, g4, bsMap_get, hl1, hl2, List.append_assoc]
      refine ⟨by simp (decide := true) [hs, hm, hM, hq, g1, g2, g3, g4, bsMap_get, hl1, hl2, List.append_assoc], ?_⟩; simp (decide := true) [hs, hm, hM, hq, g1, g2, g3, g4, bsMap_get, hl1, hl2, List.append_assoc]
      refine ⟨by simp (decide := true) [hs, hm, hM, hq, g1, g2, g3, g4, bsMap_get, hl1, hl2, List.append_assoc], ?_⟩; simp (decide := true) [hs, hm, hM, hq, g1, g2, g3, g4, bsMap_get, hl1, hl2, List.append_assoc]
      refine ⟨by simp, rfl, by simp [vcI, hs, hm, hM, hq, g1, g2, g3, g4, bsMap_get, hl1, hl2, List.append_assoc], ?_⟩
      simp (decide := true) [hs, hm, hM, hq, g1, g2, g3, g4, bsMap_get, hl1, hl2, List.append_assoc]; try intro _
      try simp (decide := true) [hs, hm, hM, hq, g1, g2, g3, g4, bsMap_get, hl1, hl2, List.append_assoc]
      refine ⟨by simp, rfl, by simp [vcI, hs, hm, hM, hq, g1, g2, g3, g4, bsMap_get, hl1, hl2, List.append_assoc], ?_⟩
      simp (decide := true) [hs, hm, hM, hq, g1, g2, g3, g4, bsMap_get, hl1, hl2, List.append_assoc]; try intro _
      try simp (decide := true) [hs, hm, hM, hq, g1, g2, g3, g4, bsMap_get, hl1, hl2, List.append_assoc]
      refine ⟨by simp (decide := true) [hs, hm, hM, hq, g1, g2, g3, g4, bsMap_get, hl1, hl2, List.append_assoc], ?_⟩; simp (decide := true) [hs, hm, hM, hq, g1, g2, g3, g4, bsMap_get, hl1, hl2, List.append_assoc]
      refine ⟨fun i r Z => (i = 13 → r = .ptr (st.length + 1) 0) ∧ Z = st ++ [.cells ([.sc (.int .i64 0), .sc (.int .i64 0), .sc (.string .empty), .nils]), .cells (if i = 13 then [.sc (.int .i64 0), .sc (.int .i64 0), .sc (.string .empty), .nils] else v.cells 32)], ?_⟩
      simp (decide := true) [hs, hm, hM, hq, g1, g2, g3, g4, bsMap_get, hl1, hl2, List.append_assoc]
      refine ⟨by simp (decide := true) [hs, hm, hM, hq, g1, g2, g3, g4, bsMap_get, hl1, hl2, List.append_assoc], ?_⟩; simp (decide := true) [hs, hm, hM, hq, g1, g2, g3, g4, bsMap_get, hl1, hl2, List.append_assoc]
      refine ⟨by simp (decide := true) [hs, hm, hM, hq, g1, g2, g3, g4, bsMap_get, hl1, hl2, List.append_assoc], ?_⟩; simp (decide := true) [hs, hm, hM, hq, g1, g2, g3, g4, bsMap_get, hl1, hl2, List.append_assoc]
      refine ⟨by simp (decide := true) [hs, hm, hM, hq, g1, g2, g3, g4, bsMap_get, hl1, hl2, List.append_assoc], ?_⟩; simp (decide := true) [hs, hm, hM, hq, g1, g2, g3, g4, bsMap_get, hl1, hl2, List.append_assoc]
      refine ⟨by simp (decide := true) [hs, hm, hM, hq, g1, g2, g3, g4, bsMap_get, hl1, hl2, List.append_assoc], ?_⟩; simp (decide := true) [hs, hm, hM, hq, g1, g2, g3, g4, bsMap_get, hl1, hl2, List.append_assoc]
      refine ⟨by simp (decide := true) [hs, hm, hM, hq, g1, g2, g3, g4, bsMap_get, hl1, hl2, List.append_assoc], ?_⟩; simp (decide := true) [hs, hm, hM, hq, g1, g2, g3, g4, bsMap_get, hl1, hl2, List.append_assoc]
      refine ⟨by simp (decide := true) [hs, hm, hM, hq, g1, g2, g3, g4, bsMap_get, hl1, hl2, List.append_assoc], ?_⟩; simp (decide := true) [hs, hm, hM, hq, g1, g2, g3, g4, bsMap_get, hl1, hl2, List.append_assoc]
      refine ⟨by simp (decide := true) [hs, hm, hM, hq, g1, g2, g3, g4, bsMap_get, hl1, hl2, List.append_assoc], ?_⟩; simp (decide := true) [hs, hm, hM, hq, g1, g2, g3, g4, bsMap_get, hl1, hl2, List.append_assoc]
      refine ⟨by simp (decide := true) [hs, hm, hM, hq, g1, g2, g3, g4, bsMap_get, hl1, hl2, List.append_assoc], ?_⟩; simp (decide := true) [hs, hm, hM, hq, g1, g2, g3, g4, bsMap_get, hl1, hl2, List.append_assoc]
      refine ⟨by simp (decide := true) [hs, hm, hM, hq, g1, g2, g3, g4, bsMap_get, hl1, hl2, List.append_assoc], ?_⟩; simp (decide := true) [hs, hm, hM, hq, g1, g2, g3, g4, bsMap_get, hl1, hl2, List.append_assoc]
      refine ⟨by simp (decide := true) [hs, hm, hM, hq, g1, g2, g3, g4, bsMap_get, hl1, hl2, List.append_assoc], ?_⟩; simp (decide := true) [hs, hm, hM, hq, g1, g2, g3, g4, bsMap_get, hl1, hl2, List.append_assoc]
      refine ⟨by simp (decide := true) [hs, hm, hM, hq, g1, g2, g3, g4, bsMap_get, hl1, hl2, List.append_assoc], ?_⟩; simp (decide := true) [hs, hm, hM, hq, g1, g2, g3, g4, bsMap_get, hl1, hl2, List.append_assoc]
      refine ⟨by simp (decide := true) [hs, hm, hM, hq, g1, g2, g3, g4, bsMap_get, hl1, hl2, List.append_assoc], ?_⟩; simp (decide := true) [hs, hm, hM, hq, g1, g2, g3, g4, bsMap_get, hl1, hl2, List.append_assoc]
      refine ⟨by simp (decide := true) [hs, hm, hM, hq, g1, g2, g3, g4, bsMap_get, hl1, hl2, List.append_assoc], ?_⟩; simp (decide := true) [hs, hm, hM, hq, g1, g2, g3, g4, bsMap_get, hl1, hl2, List.append_assoc]
      refine ⟨by simp, rfl, by simp [vcI, hs, hm, hM, hq, g1, g2, g3, g4, bsMap_get, hl1, hl2, List.append_assoc], ?_⟩
      simp (decide := true) [hs, hm, hM, hq, g1, g2, g3, g4, bsMap_get, hl1, hl2, List.append_assoc]; try intro _
      try simp (decide := true) [hs, hm, hM, hq, g1, g2, g3, g4, bsMap_get, hl1, hl2, List.append_assoc]
      refine ⟨by simp, rfl, by simp [vcI, hs, hm, hM, hq, g1, g2, g3, g4, bsMap_get, hl1, hl2, List.append_assoc], ?_⟩
      simp (decide := true) [hs, hm, hM, hq, g1, g2, g3, g4, bsMap_get, hl1, hl2, List.append_assoc]; try intro _
      try simp (decide := true) [hs, hm, hM, hq, g1, g2, g3, g4, bsMap_get, hl1, hl2, List.append_assoc]
      refine ⟨by simp (decide := true) [hs, hm, hM, hq, g1, g2, g3, g4, bsMap_get, hl1, hl2, List.append_assoc], ?_⟩; simp (decide := true) [hs, hm, hM, hq, g1, g2, g3, g4, bsMap_get, hl1, hl2, List.append_assoc]
      have hb : bothV B (.mk 1 x sx l) (.mk 1 y sy l') = none := by simp [bothV, hv1, hv2, look_none.1 hl1]
      by_cases hp : (x, y) ∈ P <;> simp [pairMap_get, hp] <;> exact stay _ _ rfl ((Pre.refl st).app _) hb
  | some u =>
    cases hl2 : lookB B y with
    | none =>
      refine ⟨fun i r Z => (i = 13 → r = .ptr st.length 0) ∧ Z = st ++ [.cells (if i = 13 then [.sc (.int .i64 0), .sc (.int .i64 0), .sc (.string .empty), .nils] else u.cells 32)], ?_⟩
      simp (decide := true) [hs, hm, hM, hq, g1, g2, g3, g4, bsMap_get, hl1, hl2, List.append_assoc]
      refine ⟨by simp (decide := true) [hs, hm, hM, hq, g1, g2, g3, g4, bsMap_get, hl1, hl2, List.append_assoc], ?_⟩; simp (decide := true) [hs, hm, hM, hq, g1, g2, g3, g4, bsMap_get, hl1, hl2, List.append_assoc]
      refine ⟨by simp (decide := true) [hs, hm, hM, hq, g1, g2, g3, g4, bsMap_get, hl1, hl2, List.append_assoc], ?_⟩; simp (decide := true) [hs, hm, hM, hq, g1, g2, g3, g4, bsMap_get, hl1, hl2, List.append_assoc]
      refine ⟨by simp (decide := true) [hs, hm, hM, hq, g1, g2, g3, g4, bsMap_get, hl1, hl2, List.append_assoc], ?_⟩; simp (decide := true) [hs, hm, hM, hq, g1, g2, g3, g4, bsMap_get, hl1, hl2, List.append_assoc]
      refine ⟨by simp (decide := true) [hs, hm, hM, hq, g1, g2, g3, g4, bsMap_get, hl1, hl2, List.append_assoc], ?_⟩; simp (decide := true) [hs, hm, hM, hq, g1, g2, g3, g4, bsMap_get, hl1, hl2, List.append_assoc]
      refine ⟨by simp (decide := true) [hs, hm, hM, hq, g1, g2, g3, g4, bsMap_get, hl1, hl2, List.append_assoc], ?_⟩; simp (decide := true) [hs, hm, hM, hq, g1, g2, g3, g4, bsMap_get, hl1, hl2, List.append_assoc]
      refine ⟨by simp (decide := true) [hs, hm, hM, hq, g1, g2, g3, g4, bsMap_get, hl1, hl2, List.append_assoc], ?_⟩; simp (decide := true) [hs, hm, hM, hq, g1, g2, g3, g4, bsMap_get, hl1, hl2, List.append_assoc]
      refine ⟨by simp (decide := true) [hs, hm, hM, hq, g1, g2, g3, g4, bsMap_get, hl1, hl2, List.append_assoc], ?_⟩; simp (decide := true) [hs, hm, hM, hq, g1, g2, g3, g4, bsMap_get, hl1, hl2, List.append_assoc]
      refine ⟨by simp (decide := true) [hs, hm, hM, hq, g1, g2, g3, g4, bsMap_get, hl1, hl2, List.append_assoc], ?_⟩; simp (decide := true) [hs, hm, hM, hq, g1, g2, g3, g4, bsMap_get, hl1, hl2, List.append_assoc]
      refine ⟨by simp (decide := true) [hs, hm, hM, hq, g1, g2, g3, g4, bsMap_get, hl1, hl2, List.append_assoc], ?_⟩; simp (decide := true) [hs, hm, hM, hq, g1, g2, g3, g4, bsMap_get, hl1, hl2, List.append_assoc]
      refine ⟨by simp (decide := true) [hs, hm, hM, hq, g1, g2, g3, g4, bsMap_get, hl1, hl2, List.append_assoc], ?_⟩; simp (decide := true) [hs, hm, hM, hq, g1, g2, g3, g4, bsMap_get, hl1, hl2, List.append_assoc]
      refine ⟨by simp (decide := true) [hs, hm, hM, hq, g1, g2, g3, g4, bsMap_get, hl1, hl2, List.append_assoc], ?_⟩; simp (decide := true) [hs, hm, hM, hq, g1, g2, g3, g4, bsMap_get, hl1, hl2, List.append_assoc]
      refine ⟨by simp (decide := true) [hs, hm, hM, hq, g1, g2, g3, g4, bsMap_get, hl1, hl2, List.append_assoc], ?_⟩; simp (decide := true) [hs, hm, hM, hq, g1, g2, g3, g4, bsMap_get, hl1, hl2, List.append_assoc]
      refine ⟨by simp (decide := true) [hs, hm, hM, hq, g1, g2, g3, g4, bsMap_get, hl1, hl2, List.append_assoc], ?_⟩; simp (decide := true) [hs, hm, hM, hq, g1, g2, g3, g4, bsMap_get, hl1, hl2, List.append_assoc]
      refine ⟨by simp, rfl, by simp [vcI, hs, hm, hM, hq, g1, g2, g3, g4, bsMap_get, hl1, hl2, List.append_assoc], ?_⟩
      simp (decide := true) [hs, hm, hM, hq, g1, g2, g3, g4, bsMap_get, hl1, hl2, List.append_assoc]; try intro _
      try simp (decide := true) [hs, hm, hM, hq, g1, g2, g3, g4, bsMap_get, hl1, hl2, List.append_assoc]
      refine ⟨by simp, rfl, by simp [vcI, hs, hm, hM, hq, g1, g2, g3, g4, bsMap_get, hl1, hl2, List.append_assoc], ?_⟩
      simp (decide := true) [hs, hm, hM, hq, g1, g2, g3, g4, bsMap_get, hl1, hl2, List.append_assoc]; try intro _
      try simp (decide := true) [hs, hm, hM, hq, g1, g2, g3, g4, bsMap_get, hl1, hl2, List.append_assoc]
      refine ⟨by simp (decide := true) [hs, hm, hM, hq, g1, g2, g3, g4, bsMap_get, hl1, hl2, List.append_assoc], ?_⟩; simp (decide := true) [hs, hm, hM, hq, g1, g2, g3, g4, bsMap_get, hl1, hl2, List.append_assoc]
      refine ⟨fun i r Z => (i = 13 → r = .ptr (st.length + 1) 0) ∧ Z = st ++ [.cells (u.cells 32), .cells (if i = 13 then [.sc (.int .i64 0), .sc (.int .i64 0), .sc (.string .empty), .nils] else [.sc (.int .i64 0), .sc (.int .i64 0), .sc (.string .empty), .nils])], ?_⟩
      simp (decide := true) [hs, hm, hM, hq, g1, g2, g3, g4, bsMap_get, hl1, hl2, List.append_assoc]
      refine ⟨by simp (decide := true) [hs, hm, hM, hq, g1, g2, g3, g4, bsMap_get, hl1, hl2, List.append_assoc], ?_⟩; simp (decide := true) [hs, hm, hM, hq, g1, g2, g3, g4, bsMap_get, hl1, hl2, List.append_assoc]
      refine ⟨by simp (decide := true) [hs, hm, hM, hq, g1, g2, g3, g4, bsMap_get, hl1, hl2, List.append_assoc], ?_⟩; simp (decide := true) [hs, hm, hM, hq, g1, g2, g3, g4, bsMap_get, hl1, hl2, List.append_assoc]
      refine ⟨by simp (decide := true) [hs, hm, hM, hq, g1, g2, g3, g4, bsMap_get, hl1, hl2, List.append_assoc], ?_⟩; simp (decide := true) [hs, hm, hM, hq, g1, g2, g3, g4, bsMap_get, hl1, hl2, List.append_assoc]
      refine ⟨by simp (decide := true) [hs, hm, hM, hq, g1, g2, g3, g4, bsMap_get, hl1, hl2, List.append_assoc], ?_⟩; simp (decide := true) [hs, hm, hM, hq, g1, g2, g3, g4, bsMap_get, hl1, hl2, List.append_assoc]
      refine ⟨by simp (decide := true) [hs, hm, hM, hq, g1, g2, g3, g4, bsMap_get, hl1, hl2, List.append_assoc], ?_⟩; simp (decide := true) [hs, hm, hM, hq, g1, g2, g3, g4, bsMap_get, hl1, hl2, List.append_assoc]
      refine ⟨by simp (decide := true) [hs, hm, hM, hq, g1, g2, g3, g4, bsMap_get, hl1, hl2, List.append_assoc], ?_⟩; simp (decide := true) [hs, hm, hM, hq, g1, g2, g3, g4, bsMap_get, hl1, hl2, List.append_assoc]
      refine ⟨by simp (decide := true) [hs, hm, hM, hq, g1, g2, g3, g4, bsMap_get, hl1, hl2, List.append_assoc], ?_⟩; simp (decide := true) [hs, hm, hM, hq, g1, g2, g3, g4, bsMap_get, hl1, hl2, List.append_assoc]
      refine ⟨by simp (decide := true) [hs, hm, hM, hq, g1, g2, g3, g4, bsMap_get, hl1, hl2, List.append_assoc], ?_⟩; simp (decide := true) [hs, hm, hM, hq, g1, g2, g3, g4, bsMap_get, hl1, hl2, List.append_assoc]
      refine ⟨by simp (decide := true) [hs, hm, hM, hq, g1, g2, g3, g4, bsMap_get, hl1, hl2, List.append_assoc], ?_⟩; simp (decide := true) [hs, hm, hM, hq, g1, g2, g3, g4, bsMap_get, hl1, hl2, List.append_assoc]
      refine ⟨by simp (decide := true) [hs, hm, hM, hq, g1, g2, g3, g4, bsMap_get, hl1, hl2, List.append_assoc], ?_⟩; simp (decide := true) [hs, hm, hM, hq, g1, g2, g3, g4, bsMap_get, hl1, hl2, List.append_assoc]
      refine ⟨by simp (decide := true) [hs, hm, hM, hq, g1, g2, g3, g4, bsMap_get, hl1, hl2, List.append_assoc], ?_⟩; simp (decide := true) [hs, hm, hM, hq, g1, g2, g3, g4, bsMap_get, hl1, hl2, List.append_assoc]
      refine ⟨by simp (decide := true) [hs, hm, hM, hq, g1, g2, g3, g4, bsMap_get, hl1, hl2, List.append_assoc], ?_⟩; simp (decide := true) [hs, hm, hM, hq, g1, g2, g3, g4, bsMap_get, hl1, hl2, List.append_assoc]
      refine ⟨by simp (decide := true) [hs, hm, hM, hq, g1, g2, g3, g4, bsMap_get, hl1, hl2, List.append_assoc], ?_⟩; simp (decide := true) [hs, hm, hM, hq, g1, g2, g3, g4, bsMap_get, hl1, hl2, List.append_assoc]
      refine ⟨by simp, rfl, by simp [vcI, hs, hm, hM, hq, g1, g2, g3, g4, bsMap_get, hl1, hl2, List.append_assoc], ?_⟩
      simp (decide := true) [hs, hm, hM, hq, g1, g2, g3, g4, bsMap_get, hl1, hl2, List.append_assoc]; try intro _
      try simp (decide := true) [hs, hm, hM, hq, g1, g2, g3, g4, bsMap_get, hl1, hl2, List.append_assoc]
      refine ⟨by simp, rfl, by simp [vcI, hs, hm, hM, hq, g1, g2, g3, g4, bsMap_get, hl1, hl2, List.append_assoc], ?_⟩
      simp (decide := true) [hs, hm, hM, hq, g1, g2, g3, g4, bsMap_get, hl1, hl2, List.append_assoc]; try intro _
      try simp (decide := true) [hs, hm, hM, hq, g1, g2, g3, g4, bsMap_get, hl1, hl2, List.append_assoc]
      refine ⟨by simp (decide := true) [hs, hm, hM, hq, g1, g2, g3, g4, bsMap_get, hl1, hl2, List.append_assoc], ?_⟩; simp (decide := true) [hs, hm, hM, hq, g1, g2, g3, g4, bsMap_get, hl1, hl2, List.append_assoc]
      have hb : bothV B (.mk 1 x sx l) (.mk 1 y sy l') = none := by simp [bothV, hv1, hv2, look_none.1 hl2]
      by_cases hp : (x, y) ∈ P <;> simp [pairMap_get, hp] <;> exact stay _ _ rfl ((Pre.refl st).app _) hb
    | some v =>
      refine ⟨fun i r Z => (i = 13 → r = .ptr st.length 0) ∧ Z = st ++ [.cells (if i = 13 then [.sc (.int .i64 0), .sc (.int .i64 0), .sc (.string .empty), .nils] else u.cells 32)], ?_⟩
      simp (decide := true) [hs, hm, hM, hq, g1, g2, g3, g4, bsMap_get, hl1, hl2, List.append_assoc]
      refine ⟨by simp (decide := true) [hs, hm, hM, hq, g1, g2, g3, g4, bsMap_get, hl1, hl2, List.append_assoc], ?_⟩; simp (decide := true) [hs, hm, hM, hq, g1, g2, g3, g4, bsMap_get, hl1, hl2, List.append_assoc]
      refine ⟨by simp (decide := true) [hs, hm, hM, hq, g1, g2, g3, g4, bsMap_get, hl1, hl2, List.append_assoc], ?_⟩; simp (decide := true) [hs, hm, hM, hq, g1, g2, g3, g4, bsMap_get, hl1, hl2, List.append_assoc]
      refine ⟨by simp (decide := true) [hs, hm, hM, hq, g1, g2, g3, g4, bsMap_get, hl1, hl2, List.append_assoc], ?_⟩; simp (decide := true) [hs, hm, hM, hq, g1, g2, g3, g4, bsMap_get, hl1, hl2, List.append_assoc]
      refine ⟨by simp (decide := true) [hs, hm, hM, hq, g1, g2, g3, g4, bsMap_get, hl1, hl2, List.append_assoc], ?_⟩; simp (decide := true) [hs, hm, hM, hq, g1, g2, g3, g4, bsMap_get, hl1, hl2, List.append_assoc]
      refine ⟨by simp (decide := true) [hs, hm, hM, hq, g1, g2, g3, g4, bsMap_get, hl1, hl2, List.append_assoc], ?_⟩; simp (decide := true) [hs, hm, hM, hq, g1, g2, g3, g4, bsMap_get, hl1, hl2, List.append_assoc]
      refine ⟨by simp (decide := true) [hs, hm, hM, hq, g1, g2, g3, g4, bsMap_get, hl1, hl2, List.append_assoc], ?_⟩; simp (decide := true) [hs, hm, hM, hq, g1, g2, g3, g4, bsMap_get, hl1, hl2, List.append_assoc]
      refine ⟨by simp (decide := true) [hs, hm, hM, hq, g1, g2, g3, g4, bsMap_get, hl1, hl2, List.append_assoc], ?_⟩; simp (decide := true) [hs, hm, hM, hq, g1, g2, g3, g4, bsMap_get, hl1, hl2, List.append_assoc]
      refine ⟨by simp (decide := true) [hs, hm, hM, hq, g1, g2, g3, g4, bsMap_get, hl1, hl2, List.append_assoc], ?_⟩; simp (decide := true) [hs, hm, hM, hq, g1, g2, g3, g4, bsMap_get, hl1, hl2, List.append_assoc]
      refine ⟨by simp (decide := true) [hs, hm, hM, hq, g1, g2, g3, g4, bsMap_get, hl1, hl2, List.append_assoc], ?_⟩; simp (decide := true) [hs, hm, hM, hq, g1, g2, g3, g4, bsMap_get, hl1, hl2, List.append_assoc]
      refine ⟨by simp (decide := true) [hs, hm, hM, hq, g1, g2, g3, g4, bsMap_get, hl1, hl2, List.append_assoc], ?_⟩; simp (decide := true) [hs, hm, hM, hq, g1, g2, g3, g4, bsMap_get, hl1, hl2, List.append_assoc]
      refine ⟨by simp (decide := true) [hs, hm, hM, hq, g1, g2, g3, g4, bsMap_get, hl1, hl2, List.append_assoc], ?_⟩; simp (decide := true) [hs, hm, hM, hq, g1, g2, g3, g4, bsMap_get, hl1, hl2, List.append_assoc]
      refine ⟨by simp (decide := true) [hs, hm, hM, hq, g1, g2, g3, g4, bsMap_get, hl1, hl2, List.append_assoc], ?_⟩; simp (decide := true) [hs, hm, hM, hq, g1, g2, g3, g4, bsMap_get, hl1, hl2, List.append_assoc]
      refine ⟨by simp (decide := true) [hs, hm, hM, hq, g1, g2, g3, g4, bsMap_get, hl1, hl2, List.append_assoc], ?_⟩; simp (decide := true) [hs, hm, hM, hq, g1, g2, g3, g4, bsMap_get, hl1, hl2, List.append_assoc]
      refine ⟨by simp, rfl, by simp [vcI, hs, hm, hM, hq, g1, g2, g3, g4, bsMap_get, hl1, hl2, List.append_assoc], ?_⟩
      simp (decide := true) [hs, hm, hM, hq, g1, g2, g3, g4, bsMap_get, hl1, hl2, List.append_assoc]; try intro _
      try simp (decide := true) [hs, hm, hM, hq, g1, g2, g3, g4, bsMap_get, hl1, hl2, List.append_assoc]
      refine ⟨by simp, rfl, by simp [vcI, hs, hm, hM, hq, g1, g2, g3, g4, bsMap_get, hl1, hl2, List.append_assoc], ?_⟩
      simp (decide := true) [hs, hm, hM, hq, g1, g2, g3, g4, bsMap_get, hl1, hl2, List.append_assoc]; try intro _
      try simp (decide := true) [hs, hm, hM, hq, g1, g2, g3, g4, bsMap_get, hl1, hl2, List.append_assoc]
      refine ⟨by simp (decide := true) [hs, hm, hM, hq, g1, g2, g3, g4, bsMap_get, hl1, hl2, List.append_assoc], ?_⟩; simp (decide := true) [hs, hm, hM, hq, g1, g2, g3, g4, bsMap_get, hl1, hl2, List.append_assoc]
      refine ⟨fun i r Z => (i = 13 → r = .ptr (st.length + 1) 0) ∧ Z = st ++ [.cells (u.cells 32), .cells (if i = 13 then [.sc (.int .i64 0), .sc (.int .i64 0), .sc (.string .empty), .nils] else v.cells 32)], ?_⟩
      simp (decide := true) [hs, hm, hM, hq, g1, g2, g3, g4, bsMap_get, hl1, hl2, List.append_assoc]
      refine ⟨by simp (decide := true) [hs, hm, hM, hq, g1, g2, g3, g4, bsMap_get, hl1, hl2, List.append_assoc], ?_⟩; simp (decide := true) [hs, hm, hM, hq, g1, g2, g3, g4, bsMap_get, hl1, hl2, List.append_assoc]
      refine ⟨by simp (decide := true) [hs, hm, hM, hq, g1, g2, g3, g4, bsMap_get, hl1, hl2, List.append_assoc], ?_⟩; simp (decide := true) [hs, hm, hM, hq, g1, g2, g3, g4, bsMap_get, hl1, hl2, List.append_assoc]
      refine ⟨by simp (decide := true) [hs, hm, hM, hq, g1, g2, g3, g4, bsMap_get, hl1, hl2, List.append_assoc], ?_⟩; simp (decide := true) [hs, hm, hM, hq, g1, g2, g3, g4, bsMap_get, hl1, hl2, List.append_assoc]
      refine ⟨by simp (decide := true) [hs, hm, hM, hq, g1, g2, g3, g4, bsMap_get, hl1, hl2, List.append_assoc], ?_⟩; simp (decide := true) [hs, hm, hM, hq, g1, g2, g3, g4, bsMap_get, hl1, hl2, List.append_assoc]
      refine ⟨by simp (decide := true) [hs, hm, hM, hq, g1, g2, g3, g4, bsMap_get, hl1, hl2, List.append_assoc], ?_⟩; simp (decide := true) [hs, hm, hM, hq, g1, g2, g3, g4, bsMap_get, hl1, hl2, List.append_assoc]
      refine ⟨by simp (decide := true) [hs, hm, hM, hq, g1, g2, g3, g4, bsMap_get, hl1, hl2, List.append_assoc], ?_⟩; simp (decide := true) [hs, hm, hM, hq, g1, g2, g3, g4, bsMap_get, hl1, hl2, List.append_assoc]
      refine ⟨by simp (decide := true) [hs, hm, hM, hq, g1, g2, g3, g4, bsMap_get, hl1, hl2, List.append_assoc], ?_⟩; simp (decide := true) [hs, hm, hM, hq, g1, g2, g3, g4, bsMap_get, hl1, hl2, List.append_assoc]
      refine ⟨by simp (decide := true) [hs, hm, hM, hq, g1, g2, g3, g4, bsMap_get, hl1, hl2, List.append_assoc], ?_⟩; simp (decide := true) [hs, hm, hM, hq, g1, g2, g3, g4, bsMap_get, hl1, hl2, List.append_assoc]
      refine ⟨by simp (decide := true) [hs, hm, hM, hq, g1, g2, g3, g4, bsMap_get, hl1, hl2, List.append_assoc], ?_⟩; simp (decide := true) [hs, hm, hM, hq, g1, g2, g3, g4, bsMap_get, hl1, hl2, List.append_assoc]
      refine ⟨by simp (decide := true) [hs, hm, hM, hq, g1, g2, g3, g4, bsMap_get, hl1, hl2, List.append_assoc], ?_⟩; simp (decide := true) [hs, hm, hM, hq, g1, g2, g3, g4, bsMap_get, hl1, hl2, List.append_assoc]
      refine ⟨by simp (decide := true) [hs, hm, hM, hq, g1, g2, g3, g4, bsMap_get, hl1, hl2, List.append_assoc], ?_⟩; simp (decide := true) [hs, hm, hM, hq, g1, g2, g3, g4, bsMap_get, hl1, hl2, List.append_assoc]
      refine ⟨by simp (decide := true) [hs, hm, hM, hq, g1, g2, g3, g4, bsMap_get, hl1, hl2, List.append_assoc], ?_⟩; simp (decide := true) [hs, hm, hM, hq, g1, g2, g3, g4, bsMap_get, hl1, hl2, List.append_assoc]
      refine ⟨by simp (decide := true) [hs, hm, hM, hq, g1, g2, g3, g4, bsMap_get, hl1, hl2, List.append_assoc], ?_⟩; simp (decide := true) [hs, hm, hM, hq, g1, g2, g3, g4, bsMap_get, hl1, hl2, List.append_assoc]
      refine ⟨by simp, rfl, by simp [vcI, hs, hm, hM, hq, g1, g2, g3, g4, bsMap_get, hl1, hl2, List.append_assoc], ?_⟩
      simp (decide := true) [hs, hm, hM, hq, g1, g2, g3, g4, bsMap_get, hl1, hl2, List.append_assoc]; try intro _
      try simp (decide := true) [hs, hm, hM, hq, g1, g2, g3, g4, bsMap_get, hl1, hl2, List.append_assoc]
      refine ⟨by simp, rfl, by simp [vcI, hs, hm, hM, hq, g1, g2, g3, g4, bsMap_get, hl1, hl2, List.append_assoc], ?_⟩
      simp (decide := true) [hs, hm, hM, hq, g1, g2, g3, g4, bsMap_get, hl1, hl2, List.append_assoc]; try intro _
      try simp (decide := true) [hs, hm, hM, hq, g1, g2, g3, g4, bsMap_get, hl1, hl2, List.append_assoc]
      refine ⟨by simp (decide := true) [hs, hm, hM, hq, g1, g2, g3, g4, bsMap_get, hl1, hl2, List.append_assoc], ?_⟩; simp (decide := true) [hs, hm, hM, hq, g1, g2, g3, g4, bsMap_get, hl1, hl2, List.append_assoc]
      have k1 : x ∈ keys B := Classical.not_not.1 fun h => by rw [look_none.2 h] at hl1; cases hl1
      have k2 : y ∈ keys B := Classical.not_not.1 fun h => by rw [look_none.2 h] at hl2; cases hl2
      have hb : bothV B (.mk 1 x sx l) (.mk 1 y sy l') = some (x, y) := by simp [bothV, hv1, hv2, k1, k2]
      by_cases hp : (x, y) ∈ P
      · simp [pairMap_get, hp]
        refine endP_mk (.sc (.bool true)) (by simp) (by simp) ⟨by simp [againB, hb, hp], ?_⟩
        simp only [againP, hb, if_pos hp]
        rw [set_same hq]; exact ((Pre.refl st).app _).cut hfix rfl
      · simp [pairMap_get, hp]
        refine endP_mk (.sc (.bool false)) (by simp) (by simp) ⟨by simp [againB, hb, hp], ?_⟩
        simp only [againP, hb, if_neg hp]
        rw [pairMap_put P x y hp]
        exact (((Pre.refl st).app _).set2 q _).cut (fix_pair hfix q _) (by simp)
end Go.T1
end

section
open Go Go.Ab Go.Proofs
namespace Go.T1
/-- Where a matcher lies: its struct, the bindings, the pairs. -/
structure US (st : St) (M s m o q g : Nat) (al : Bool) (B : Bs) (P : Ps) : Prop where
  ss : SS st s m o g al B
  hM : st[M]? = some (.cells [.ptr s 0, .mp q])
  hq : st[q]? = some (.map (pairMap P))
  qm : q ≠ m
def uST (st : St) (s m o q g : Nat) (al : Bool) (B : Bs) (P : Ps) : St := (sST st s m o g al B).set q (.map (pairMap P))
section
variable {st : St} {M s m o q g g' : Nat} {al al' : Bool} {B B' : Bs} {P P' : Ps}
theorem US.ne (h : US st M s m o q g al B P) : M ≠ s ∧ M ≠ m ∧ M ≠ o ∧ M ≠ q ∧ q ≠ s ∧ q ≠ o := by
  refine ⟨?_, ?_, ?_, ?_, ?_, ?_⟩
  · rintro rfl; have := h.hM; rw [h.ss.hs] at this; simp at this
  · rintro rfl; have := h.hM; rw [h.ss.hm] at this; simp at this
  · rintro rfl; have := h.hM; rw [h.ss.ho] at this; simp at this
  · rintro rfl; have := h.hM; rw [h.hq] at this; simp at this
  · rintro rfl; have := h.hq; rw [h.ss.hs] at this; simp at this
  · rintro rfl; have := h.hq; rw [h.ss.ho] at this; simp at this
theorem US.same (h : US st M s m o q g al B P) : uST st s m o q g al B P = st := by unfold uST; rw [h.ss.same, set_same h.hq]
theorem US.put (h : US st M s m o q g al B P) (h' : B' ≠ [] → al' = true) : US (uST st s m o q g' al' B' P') M s m o q g' al' B' P' := by
  obtain ⟨n1, n2, n3, n4, n5, n6⟩ := h.ne
  have k := h.ss.put (g' := g') (al' := al') h'
  refine ⟨⟨get_ne k.hs n5, get_ne k.hm h.qm, get_ne k.ho n6, h', k.sm, k.so, k.mo⟩, ?_, ?_, h.qm⟩
  · exact get_ne (sST_other h.hM n1.symm n2.symm n3.symm) n4.symm
  · exact get_set (sST_other h.hq n5.symm h.qm.symm n6.symm)
theorem US.app (h : US st M s m o q g al B P) (l : St) : US (st ++ l) M s m o q g al B P := ⟨h.ss.app l, get_app h.hM l, get_app h.hq l, h.qm⟩
theorem uST_app (h : US st M s m o q g al B P) (l : St) : uST (st ++ l) s m o q g' al' B' P' = uST st s m o q g' al' B' P' ++ l := by
  obtain ⟨n1, n2, n3, n4, n5, n6⟩ := h.ne
  unfold uST; rw [sST_app h.ss, set_app (sST_other h.hq n5.symm h.qm.symm n6.symm)]
theorem uST_uST (h : US st M s m o q g al B P) (X : St) (g1 g2 : Nat) (a1 a2 : Bool) (B1 B2 : Bs) (P1 P2 : Ps) : uST (uST X s m o q g1 a1 B1 P1) s m o q g2 a2 B2 P2 = uST X s m o q g2 a2 B2 P2 := by
  obtain ⟨n1, n2, n3, n4, n5, n6⟩ := h.ne
  unfold uST
  have e : ∀ (X : St) (b : Blk), sST (X.set q b) s m o g2 a2 B2 = (sST X s m o g2 a2 B2).set q b := fun X b => by
    unfold sST; rw [set_comm X h.qm, set_comm _ n6, set_comm _ n5]
  rw [e, sST_sST h.ss.sm h.ss.so h.ss.mo, List.set_set]
theorem uST_set (h : US st M s m o q g al B P) (X : St) (P1 P2 : Ps) (g2 : Nat) (a2 : Bool) (B2 : Bs) : uST (X.set q (.map (pairMap P1))) s m o q g2 a2 B2 P2 = uST X s m o q g2 a2 B2 P2 := by
  obtain ⟨n1, n2, n3, n4, n5, n6⟩ := h.ne
  unfold uST sST; rw [set_comm X h.qm, set_comm _ n6, set_comm _ n5, List.set_set]
theorem uST_pre {X Y : St} (h : Pre X Y) : Pre (uST X s m o q g al B P) (uST Y s m o q g al B P) := (sST_pre h).set2 _ _
theorem uST_len : (uST st s m o q g al B P).length = st.length := by simp [uST, sST]
theorem fix_US (h : Fix st) (hS : US st M s m o q g al B P) (g' : Nat) (al' : Bool) (B' : Bs) (P' : Ps) : Fix (uST st s m o q g' al' B' P') := by
  unfold uST; exact fix_pair (fix_SS h hS.ss g' al' B') q P'
theorem US.of_pre {Y : St} (h : US st M s m o q g al B P) (hY : Pre st Y) : US Y M s m o q g al B P :=
  ⟨⟨hY.get h.ss.hs, hY.get h.ss.hm, hY.get h.ss.ho, h.ss.hal, h.ss.sm, h.ss.so, h.ss.mo⟩, hY.get h.hM, hY.get h.hq, h.qm⟩
end
/-- What comes of a pair. -/
def UQ (V : List Int) (B : Bs) (P : Ps) (a b : Tm) (st : St) (s m o q : Nat) (r : AV) (st' : St) : Prop :=
  ∃ rb B' P' g' al', r = .sc (.bool rb) ∧ st' = uST st s m o q g' al' B' P' ∧ (B' ≠ [] → al' = true) ∧ Does V B a b rb B' ∧ (rb = true → PNew B' P P')
def ULQ (V : List Int) (B : Bs) (P : Ps) (qs : List (Tm × Tm)) (st : St) (s m o q : Nat) (r : AV) (st' : St) : Prop :=
  ∃ rb B' P' g' al', r = .sc (.bool rb) ∧ st' = uST st s m o q g' al' B' P' ∧ (B' ≠ [] → al' = true) ∧ DoesL V B qs rb B' ∧ (rb = true → PNew B' P P')
theorem zip_drop {l l' : List Tm} {i : Nat} (h : i < l.length) (h' : i < l'.length) : (l.zip l').drop i = (l[i], l'[i]) :: (l.zip l').drop (i + 1) := by
  rw [List.drop_eq_getElem_cons (by simp; omega)]; simp
/-- Where a row of pairs has come. -/
def EInv (V : List Int) (B : Bs) (P : Ps) (l l' : List Tm) (st : St) (s m o q i : Nat) (Y : St) : Prop :=
  ∃ D P1 g1 al1, Pre (uST st s m o q g1 al1 (B ++ D) P1) Y ∧ (B ++ D ≠ [] → al1 = true) ∧ OkB (B ++ D) ∧ BsV V (B ++ D) ∧ PNew (B ++ D) P P1 ∧ ∀ ps R, Un (B ++ D) ((l.zip l').drop i ++ ps) R → Un B (l.zip l' ++ ps) R
set_option maxRecDepth 100000 in
theorem equalU_c (V : List Int) (B : Bs) (hB : OkB B) (hV : BsV V B) (P : Ps) (l l' : List Tm) (hlen : l.length = l'.length) (st : St) (M s m o q g : Nat) (al : Bool) (h : US st M s m o q g al B P)
    (ih : ∀ (i : Nat) (h1 : i < l.length) (h2 : i < l'.length) (D : Bs) (P1 : Ps) (Y : St) (g1 : Nat) (al1 : Bool), OkB (B ++ D) → BsV V (B ++ D) → PNew (B ++ D) P P1 → US Y M s m o q g1 al1 (B ++ D) P1 →
      ICall T Try.prog 49 [.ptr M 0, l[i].av 32, l'[i].av 32] Y (UQ V (B ++ D) P1 l[i] l'[i] Y s m o q)) :
    ICall T Try.prog 63 [.lst 32 (Tm.cellsL 32 l), .lst 32 (Tm.cellsL 32 l'), .fn (.func 49) [.ptr M 0] []] st (ULQ V B P (l.zip l') st s m o q) := by
  refine ICall.of_vc hT [] [(7, 3)] follows Try.call63 Try.func63 rfl (by kernel_rfl) fun hfix => ?_
  unfold Try.f63
  simp
  intro hb1 hb2 hb3 hb4
  rw [hlen]
  simp
  intro _ _
  refine vcC_loop [] (fun w σ Y => ∃ (i : Nat), w = l.length - i ∧ i ≤ l.length ∧ EInv V B P l l' st s m o q i Y ∧
      σ 15 = .lst 32 (Tm.cellsL 32 l) ∧ σ 1 = .lst 32 (Tm.cellsL 32 l') ∧ σ 2 = .fn (.func 49) [.ptr M 0] [] ∧ σ 16 = .sc (.int .i64 l.length) ∧ σ 17 = .sc (.int .i64 i)) l.length ?_ ?_
  · refine ⟨0, by simp, by simp, ⟨[], P, g, al, ?_, ?_⟩, by simp [hlen]⟩
    · simp only [List.append_nil]; rw [h.same]; exact Pre.refl st
    · simp [hB, hV, PNew.refl]
      exact h.ss.hal
  rintro w σ Y ⟨i, rfl, hi, ⟨D, P1, g1, al1, hY, hal1, hD, hVD, hP1, hun⟩, s15, s1, s2, s16, s17⟩
  have hX := h.put (g' := g1) (al' := al1) (B' := B ++ D) (P' := P1) hal1
  rcases Nat.lt_or_ge i l.length with hlt | hge
  · have hlt' : i < l'.length := hlen ▸ hlt
    simp [s15, s1, s2, s16, s17, hlt, hlt']
    refine vcICall_of (ih i hlt hlt' D P1 _ g1 al1 hD hVD hP1 ((hX.of_pre hY).app _)) ?_
    rintro r st' ⟨rb, B', P', g', al', rfl, rfl, hal', hdo, hnew⟩ _
    obtain ⟨D', hD'⟩ := hdo.ext
    rw [uST_app (hX.of_pre hY)]
    have hpre : Pre (uST st s m o q g' al' B' P') (uST Y s m o q g' al' B' P') := by
      have := uST_pre (s := s) (m := m) (o := o) (q := q) (g := g') (al := al') (B := B') (P := P') hY
      rwa [uST_uST h] at this
    rw [zip_drop hlt hlt'] at hun
    have hD2 : B' = B ++ (D ++ D') := by rw [hD', List.append_assoc]
    simp [s15, s1, s2, s16, s17]
    refine ⟨fun hr => ?_, fun hr => ⟨by unfold i64ok; omega, l.length - (i + 1), by omega, i + 1, rfl, by omega, ?_, by simp⟩⟩
    · subst hr
      refine endP_mk (.sc (.bool false)) (by simp) (by simp) ⟨false, B', P', g', al', rfl, (hpre.app _).cut (fix_US hfix h _ _ _ _) (by rw [uST_len]), hal', ⟨hdo.ok, ⟨_, hD2⟩, hdo.inV, (by simp), fun _ ps => hun ps none (hdo.no rfl _)⟩, by simp⟩
    · subst hr
      refine ⟨D ++ D', P', g', al', ?_, ?_, ?_, ?_, ?_, fun ps R hR => ?_⟩
      · rw [← hD2]; exact hpre.app _
      · rw [← hD2]; exact hal'
      · rw [← hD2]; exact hdo.ok
      · rw [← hD2]; exact hdo.inV
      · rw [← hD2]; exact PNew.trans hD' hdo.ok hP1 (hnew rfl)
      · rw [← hD2] at hR; exact hun ps R (hdo.yes rfl _ R hR)
  · have hi : i = l.length := by omega
    subst hi
    simp [s15, s1, s2, s16, s17]
    refine endP_mk (.sc (.bool true)) (by simp) (by simp) ⟨true, B ++ D, P1, g1, al1, rfl, hY.cut (fix_US hfix h _ _ _ _) (by rw [uST_len]), hal1, ⟨hD, ⟨D, rfl⟩, hVD, fun _ ps R hR => ?_, by simp⟩, fun _ => hP1⟩
    refine hun ps R ?_
    rw [List.drop_of_length_le (by simp; omega)]; exact hR
end Go.T1
end

section
open Go Go.Ab Go.Proofs
namespace Go.T1
@[simp] theorem drop_cells (t : Tm) : List.drop 4 (t.cells 32) = [] := by cases t; rfl
set_option maxRecDepth 100000 in
theorem equalNe_c (l l' : List Tm) (hlen : ¬ l.length = l'.length) (f : AV) (st : St) :
    ICall T Try.prog 63 [.lst 32 (Tm.cellsL 32 l), .lst 32 (Tm.cellsL 32 l'), f] st (fun r st' => r = .sc (.bool false) ∧ st' = st) := by
  refine ICall.of_vc hT [] [(7, 3)] follows Try.call63 Try.func63 rfl (by kernel_rfl) fun hfix => ?_
  unfold Try.f63
  simp
  intro hb1 hb2 hb3 hb4
  refine ⟨fun _ => ?_, fun h => absurd (by omega) hlen⟩
  exact endP_mk (.sc (.bool false)) (by simp) (by simp) ⟨rfl, (Pre.refl st).cut hfix rfl⟩
theorem againP_new {B : Bs} {P : Ps} {a b : Tm} (ra : a.right = true) (rb : b.right = true) {p : Int × Int} (hp : p ∈ againP B P a b) : p ∈ P ∨ (a = Tm.var p.1 ∧ b = Tm.var p.2) := by
  unfold againP bothV at hp
  cases ha : a.vn with
  | none => simp [ha] at hp; exact .inl hp
  | some x =>
    cases hb : b.vn with
    | none => simp [ha, hb] at hp; exact .inl hp
    | some y =>
      simp only [ha, hb] at hp
      split at hp
      · rename_i p' hp'
        split at hp'
        · cases hp'
          split at hp
          · exact .inl hp
          · rcases List.mem_append.1 hp with h | h
            · exact .inl h
            · simp at h; subst h; exact .inr ⟨(Tm.vn_some ha ra).1, (Tm.vn_some hb rb).1⟩
        · cases hp'
      · exact .inl hp
theorem againB_spec {B : Bs} {P : Ps} {a b : Tm} (ra : a.right = true) (rb : b.right = true) (h : againB B P a b = true) : ∃ p ∈ P, a = Tm.var p.1 ∧ b = Tm.var p.2 := by
  unfold againB bothV at h
  cases ha : a.vn with
  | none => simp [ha] at h
  | some x =>
    cases hb : b.vn with
    | none => simp [ha, hb] at h
    | some y =>
      simp only [ha, hb] at h
      split at h
      · rename_i p' hp'
        split at hp'
        · cases hp'
          exact ⟨(x, y), by simpa using h, (Tm.vn_some ha ra).1, (Tm.vn_some hb rb).1⟩
        · cases hp'
      · cases h
/-- The pair itself, once it is unified. -/
theorem again_new {V : List Int} {B B' : Bs} {P : Ps} {a b : Tm} (hB : OkB B) (ra : a.right = true) (rb : b.right = true) (h : Does V B a b true B') : PNew B' P (againP B P a b) := fun p hp => by
  rcases againP_new ra rb hp with h1 | ⟨h1, h2⟩
  · exact .inl h1
  · have := h.same hB ra rb
    rw [h1, h2] at this
    exact .inr (by simpa using this)
theorem pinv_arg {B D : Bs} {a b x : Tm} {P P' : Ps} (ra : a.right = true) (rb : b.right = true) (h : PInv B a P) (hD : OkB (B ++ D)) (hx : Part (x.sub (sg B)) (a.sub (sg B))) (hP : PNew (B ++ D) (againP B P a b) P') : PInv (B ++ D) x P' := fun p hp => by
  rcases hP p hp with h1 | h1
  · have key : sg B p.1 = sg B p.2 ∨ Part (x.sub (sg B)) (sg B p.1) := by
      rcases againP_new ra rb h1 with h2 | ⟨h2, _⟩
      · rcases h p h2 with h3 | h3
        · exact .inl h3
        · exact .inr (hx.trans h3)
      · rw [h2, Tm.var_sub] at hx
        exact .inr hx
    rcases key with h2 | h2
    · exact .inl (pair_ext hD h2)
    · refine .inr ?_
      have := h2.sub (sg (B ++ D))
      rwa [sg_ext hD, sg_ext_var hD] at this
  · exact .inl h1
theorem sST_setq {st : St} {M s m o q g : Nat} {al : Bool} {B : Bs} {P : Ps} (h : US st M s m o q g al B P) (X : St) (b : Blk) (g' : Nat) (al' : Bool) (B' : Bs) : sST (X.set q b) s m o g' al' B' = (sST X s m o g' al' B').set q b := by
  obtain ⟨n1, n2, n3, n4, n5, n6⟩ := h.ne
  unfold sST; rw [set_comm X h.qm, set_comm _ n6, set_comm _ n5]
theorem stepU_none {B : Bs} {a b : Tm} {V : List Int} (hB : OkB B) (hV : BsV V B) (h : stepU B a b = none) : Does V B a b false B := ⟨hB, ⟨[], by simp⟩, hV, by simp, fun _ ps => .fail h⟩
theorem stepU_bind {B : Bs} {a b t : Tm} {n : Int} {V : List Int} (hV : BsV V (B ++ [(n, t)])) (hB : OkB (B ++ [(n, t)])) (h : stepU B a b = some (B ++ [(n, t)], [])) : Does V B a b true (B ++ [(n, t)]) := ⟨hB, ⟨_, rfl⟩, hV, fun _ ps R hR => .go h hR, by simp⟩
set_option maxRecDepth 100000 in
theorem unify_c (V : List Int) (hVs : V.length ≤ 1000000000) : ∀ (N K : Nat) (B : Bs) (a b : Tm), free V B = N → (a.sub (sg B)).size = K → OkB B → BsV V B → a.right = true → b.right = true → inV V a → inV V b → ∀ P : Ps, PInv B a P →
    ∀ (st : St) (M s m o q g : Nat) (al : Bool), US st M s m o q g al B P → ICall T Try.prog 49 [.ptr M 0, a.av 32, b.av 32] st (UQ V B P a b st s m o q) := by
  intro N
  induction N using Nat.strongRecOn with
  | _ N ihN =>
  intro K
  induction K using Nat.strongRecOn with
  | _ K ihK =>
  intro B a b hN hK hB hV ra rb va vb P hP st M s m o q g al h
  obtain ⟨l1, l2, l3⟩ := h.ss.lts
  obtain ⟨n1, n2, n3, n4, n5, n6⟩ := h.ne
  have hsz : B.length ≤ 1000000000 := Nat.le_trans (hV.len hB) hVs
  refine ICall.of_vc hT [4, 5] [(1, 3), (3, 5), (3, 11), (200003, 0), (200003, 1), (200003, 2), (200003, 3), (200003, 4), (200003, 6), (200003, 7), (200003, 8), (200003, 9), (200003, 10), (200003, 5), (200003, 11), (200003, 12), (200003, 13), (7, 7), (9, 7), (12, 6)] follows Try.call49 Try.func49 rfl (by kernel_rfl) fun hfix => ?_
  unfold Try.f49
  simp
  refine vcICall_of (again_c P a b _ M s m o g q al (h.ss.app _) (get_app h.hM _) (get_app h.hq _)) ?_
  rintro r st' ⟨rfl, rfl⟩ _
  rw [set_app h.hq]
  simp
  refine ⟨fun hag => ?_, fun hag => ?_⟩
  · obtain ⟨p, hp, rfl, rfl⟩ := againB_spec ra rb hag
    have he : sg B p.1 = sg B p.2 := by
      rcases hP p hp with h1 | h1
      · exact h1
      · have := h1.size
        rw [Tm.var_sub] at this; omega
    have hP2 : againP B P (Tm.var p.1) (Tm.var p.2) = P := by
      unfold againP
      unfold againB at hag
      cases hb : bothV B (Tm.var p.1) (Tm.var p.2) with
      | none => rfl
      | some p' => rw [hb] at hag; simp only [decide_eq_true_eq] at hag; simp only [if_pos hag]
    refine endP_mk (.sc (.bool true)) (by simp) (by simp) ⟨true, B, P, g, al, rfl, ?_, h.ss.hal, ⟨hB, ⟨[], by simp⟩, hV, fun _ ps R hR => ?_, by simp⟩, fun _ => PNew.refl B P⟩
    · rw [hP2, set_same h.hq, h.same]; exact ((Pre.refl st).app _).cut hfix rfl
    · exact Un.skip hB _ rfl ra rb (by simpa using he) ps R hR
  have hU : US (st.set q (.map (pairMap (againP B P a b)))) M s m o q g al B (againP B P a b) := by
    have := h.put (g' := g) (al' := al) (B' := B) (P' := againP B P a b) h.ss.hal
    unfold uST at this
    rwa [h.ss.same] at this
  have hU2 := hU.app [.cells (a.cells 32), .cells (b.cells 32)]
  have G1 := hU2.hM
  have G2 := hU2.ss.hs
  have G3 := hU2.ss.hm
  have ca : (st.set q (.map (pairMap (againP B P a b))) ++ [.cells (a.cells 32), .cells (b.cells 32)])[st.length]? = some (.cells (a.cells 32)) := by simp
  have cb : (st.set q (.map (pairMap (againP B P a b))) ++ [.cells (a.cells 32), .cells (b.cells 32)])[st.length + 1]? = some (.cells (b.cells 32)) := by simp
  refine ⟨fun i r Z => Z = st.set q (.map (pairMap (againP B P a b))) ++ [.cells (a.cells 32), .cells (b.cells 32)], ?_⟩
  simp (decide := true) [G1, G2, G3, ca, cb]
  refine ⟨by simp (decide := true) [G1, G2, G3, ca, cb], ?_⟩; simp (decide := true) [G1, G2, G3, ca, cb]
  refine ⟨by simp (decide := true) [G1, G2, G3, ca, cb], ?_⟩; simp (decide := true) [G1, G2, G3, ca, cb]
  refine ⟨by simp (decide := true) [G1, G2, G3, ca, cb], ?_⟩; simp (decide := true) [G1, G2, G3, ca, cb]
  refine ⟨by simp (decide := true) [G1, G2, G3, ca, cb], ?_⟩; simp (decide := true) [G1, G2, G3, ca, cb]
  refine ⟨by simp (decide := true) [G1, G2, G3, ca, cb], ?_⟩; simp (decide := true) [G1, G2, G3, ca, cb]
  refine ⟨by simp (decide := true) [G1, G2, G3, ca, cb], ?_⟩; simp (decide := true) [G1, G2, G3, ca, cb]
  refine ⟨by simp (decide := true) [G1, G2, G3, ca, cb], ?_⟩; simp (decide := true) [G1, G2, G3, ca, cb]
  refine ⟨by simp (decide := true) [G1, G2, G3, ca, cb], ?_⟩; simp (decide := true) [G1, G2, G3, ca, cb]
  refine ⟨by simp (decide := true) [G1, G2, G3, ca, cb], ?_⟩; simp (decide := true) [G1, G2, G3, ca, cb]
  refine ⟨by simp (decide := true) [G1, G2, G3, ca, cb], ?_⟩; simp (decide := true) [G1, G2, G3, ca, cb]
  refine vcThenQ_of (fun r st' => r = (wk B a).av 32 ∧ st' = st.set q (.map (pairMap (againP B P a b))) ++ [.cells (a.cells 32), .cells (b.cells 32)]) rfl (by simp) rfl (by simp [vcI, G1, G2, G3, ca, cb]; exact walk_c hB a _ s m (.own o g) G2 G3) (fun r st' h => by simp_all) ?_
  rintro r st' ⟨rfl, rfl⟩ _
  simp (decide := true) [G1, G2, G3, ca, cb]
  refine vcThenQ_of (fun r st' => r = (wk B b).av 32 ∧ st' = st.set q (.map (pairMap (againP B P a b))) ++ [.cells (a.cells 32), .cells (b.cells 32)]) rfl (by simp) rfl (by simp [vcI, G1, G2, G3, ca, cb]; exact walk_c hB b _ s m (.own o g) G2 G3) (fun r st' h => by simp_all) ?_
  rintro r st' ⟨rfl, rfl⟩ _
  simp (decide := true) [G1, G2, G3, ca, cb]
  refine ⟨by simp (decide := true) [G1, G2, G3, ca, cb], ?_⟩; simp (decide := true) [G1, G2, G3, ca, cb]
  refine ⟨by simp (decide := true) [G1, G2, G3, ca, cb], ?_⟩; simp (decide := true) [G1, G2, G3, ca, cb]
  clear G1 G2 G3 ca cb hU2
  generalize hst1 : st.set q (.map (pairMap (againP B P a b))) = st1 at hU ⊢
  obtain ⟨ka, na, sa, la, hwa⟩ : ∃ k n s l, wk B a = .mk k n s l := by rcases wk B a with ⟨k, n, s, l⟩; exact ⟨k, n, s, l, rfl⟩
  obtain ⟨kb, nb, sb, lb, hwb⟩ : ∃ k n s l, wk B b = .mk k n s l := by rcases wk B b with ⟨k, n, s, l⟩; exact ⟨k, n, s, l, rfl⟩
  rw [hwa, hwb]
  have hU2 := hU.app [.cells ((Tm.mk ka na sa la).cells 32), .cells ((Tm.mk kb nb sb lb).cells 32)]
  have G1 := fun l => get_app hU.hM l
  have hl1 : st1.length = st.length := by subst hst1; simp
  have ca := fun x l => ap0 hl1 x l
  have cb := fun x y l => ap1 hl1 x y l
  simp [ca, cb, G1, Tm.cells]
  have eX : ∀ l, uST st s m o q g al B (againP B P a b) = st1 ∧ Pre (uST st s m o q g al B (againP B P a b)) (st1 ++ l) := fun l => by
    have : uST st s m o q g al B (againP B P a b) = st1 := by unfold uST; rw [h.ss.same, hst1]
    exact ⟨this, by rw [this]; exact (Pre.refl _).app l⟩
  have fin : ∀ (σ : Slots) (Y : St) (rv : Bool) (B' : Bs) (P' : Ps) (g' : Nat) (al' : Bool), σ 6 = .sc (.bool rv) → Pre (uST st s m o q g' al' B' P') Y → (B' ≠ [] → al' = true) → Does V B a b rv B' → (rv = true → PNew B' P P') → endP T [ResultVar.tmp 6] st.length (UQ V B P a b st s m o q) σ Y := by
    intro σ Y rv B' P' g' al' h6 hY h1 h2 h3
    exact endP_mk (.sc (.bool rv)) (by simp) (by simp [h6]) ⟨rv, B', P', g', al', rfl, hY.cut (fix_US hfix h _ _ _ _) (by rw [uST_len]), h1, h2, h3⟩
  have rwa := wk_right hB a ra
  have rwb := wk_right hB b rb
  have vwa := wk_inV hV va
  have vwb := wk_inV hV vb
  have wwa := wk_walked hB a
  have wwb := wk_walked hB b
  have hua : ∀ n, (wk B a).vn = some n → n ∈ V := fun n hn => wk_vn_V hV va hn
  have hub : ∀ n, (wk B b).vn = some n → n ∈ V := fun n hn => wk_vn_V hV vb hn
  rw [hwa] at rwa vwa wwa hua
  rw [hwb] at rwb vwb wwb hub
  refine ⟨fun h1 h2 h3 => ?_, fun hne => ⟨fun h1 => ?_, fun h1 => ⟨fun h2 => ?_, fun h2 => ?_⟩⟩⟩
  · have hst : stepU B a b = some (B, []) := by simp [stepU, hwa, hwb, vn_eq, h1, h2, h3]
    have hdo : Does V B a b true B := ⟨hB, ⟨[], by simp⟩, hV, fun _ ps R hR => .go hst hR, by simp⟩
    exact fin _ _ true B _ g al rfl (eX _).2 h.ss.hal hdo fun _ => again_new hB ra rb hdo
  · have hv : (Tm.mk ka na sa la).vn = some na := by simp [Tm.vn, h1]
    have hst : stepU B a b = bindS B na (.mk kb nb sb lb) := by
      unfold stepU
      rw [hwa, hwb, hv]
      by_cases hk : kb = 1
      · have : ¬ na = nb := fun e => hne h1 hk e
        simp [vn_eq, hk, this]
      · simp [vn_eq, hk]
    have e1 : (.sc (.int .i64 na) : AV) = .sc (.int .i64 na) := rfl
    refine ⟨BQ B na (.mk kb nb sb lb) (st1 ++ [.cells ((Tm.mk ka na sa la).cells 32), .cells ((Tm.mk kb nb sb lb).cells 32)]) s m o g, ?_⟩
    simp (decide := true) [ca, cb, G1]
    refine ⟨by simp, rfl, by simp [vcI, ca, cb, G1]; exact bind_c hB na (.mk kb nb sb lb) (wwa na hv) rwb hsz _ s m o g al hU2.ss, ?_⟩
    rintro r st' (⟨hl, rfl, rfl⟩ | ⟨hl, rfl, rfl⟩) _
    · simp
      refine fin _ _ false B _ g al rfl (eX _).2 h.ss.hal (stepU_none hB hV ?_) (by simp)
      rw [hst]; unfold bindS; rw [if_pos (by simpa [lies] using hl)]
    · simp
      have ho : na ∉ ((Tm.mk kb nb sb lb).sub (sg B)).occ := by simpa [lies] using hl
      have hst2 : stepU B a b = some (B ++ [(na, .mk kb nb sb lb)], []) := by rw [hst]; unfold bindS; rw [if_neg ho]
      have hdo := stepU_bind (BsV_snoc hV (hua na hv) vwb) (by have := (bind_ok hB ra rb (n := na) (by rw [hwa]; exact hv) (by rw [hwb]; exact ho)).1; rwa [hwb] at this) hst2
      refine fin _ _ true _ (againP B P a b) (g + 1) true rfl ?_ (fun _ => rfl) hdo fun _ => again_new hB ra rb hdo
      rw [sST_app hU.ss]
      have : uST st s m o q (g + 1) true (B ++ [(na, .mk kb nb sb lb)]) (againP B P a b) = sST st1 s m o (g + 1) true (B ++ [(na, .mk kb nb sb lb)]) := by subst hst1; rw [sST_setq h]; rfl
      rw [this]; exact (Pre.refl _).app _
  · have hv : (Tm.mk kb nb sb lb).vn = some nb := by simp [Tm.vn, h2]
    have hst : stepU B a b = bindS B nb (.mk ka na sa la) := by
      unfold stepU
      rw [hwa, hwb, hv]
      simp [vn_eq, h1]
    refine ⟨BQ B nb (.mk ka na sa la) (st1 ++ [.cells ((Tm.mk ka na sa la).cells 32), .cells ((Tm.mk kb nb sb lb).cells 32)]) s m o g, ?_⟩
    simp (decide := true) [ca, cb, G1]
    refine ⟨by simp, rfl, by simp [vcI, ca, cb, G1]; exact bind_c hB nb (.mk ka na sa la) (wwb nb hv) rwa hsz _ s m o g al hU2.ss, ?_⟩
    rintro r st' (⟨hl, rfl, rfl⟩ | ⟨hl, rfl, rfl⟩) _
    · simp
      refine fin _ _ false B _ g al rfl (eX _).2 h.ss.hal (stepU_none hB hV ?_) (by simp)
      rw [hst]; unfold bindS; rw [if_pos (by simpa [lies] using hl)]
    · simp
      have ho : nb ∉ ((Tm.mk ka na sa la).sub (sg B)).occ := by simpa [lies] using hl
      have hst2 : stepU B a b = some (B ++ [(nb, .mk ka na sa la)], []) := by rw [hst]; unfold bindS; rw [if_neg ho]
      have hdo := stepU_bind (BsV_snoc hV (hub nb hv) vwa) (by have := (bind_ok hB rb ra (n := nb) (by rw [hwb]; exact hv) (by rw [hwa]; exact ho)).1; rwa [hwa] at this) hst2
      refine fin _ _ true _ (againP B P a b) (g + 1) true rfl ?_ (fun _ => rfl) hdo fun _ => again_new hB ra rb hdo
      rw [sST_app hU.ss]
      have : uST st s m o q (g + 1) true (B ++ [(nb, .mk ka na sa la)]) (againP B P a b) = sST st1 s m o (g + 1) true (B ++ [(nb, .mk ka na sa la)]) := by subst hst1; rw [sST_setq h]; rfl
      rw [this]; exact (Pre.refl _).app _
  · have hst : stepU B a b = argsS B (.mk ka na sa la) (.mk kb nb sb lb) := by
      unfold stepU
      rw [hwa, hwb]
      simp [vn_eq, h1, h2]
    refine ⟨fun hx => ?_, ?_⟩
    · refine fin _ _ false B _ g al rfl (eX _).2 h.ss.hal (stepU_none hB hV ?_) (by simp)
      rw [hst]; simp only [argsS]; rw [if_neg]
      rintro ⟨e1, e2, e3, _⟩
      rcases hx with (hx | hx) | hx
      · exact hx e1
      · exact hx e2
      · exact hx e3
    intro e1 e2 e3
    subst e1
    subst e2
    subst e3
    by_cases hlen : la.length = lb.length
    · have hst2 : stepU B a b = some (B, la.zip lb) := by rw [hst]; simp [argsS, hlen]
      simp only [Tm.right, Bool.and_eq_true] at rwa rwb
      refine vcICall_of (equalU_c V B hB hV (againP B P a b) la lb hlen _ M s m o q g al hU2 fun i h3 h4 D P1 Y g1 al1 hD hVD hP1 hY => ?_) ?_
      · have hpt := Part.of_wk hB ra hwa h1 (List.getElem_mem h3)
        have rx := rightL_mem rwa.2 _ (List.getElem_mem h3)
        have ry := rightL_mem rwb.2 _ (List.getElem_mem h4)
        have vx := inV_arg vwa h1 _ (List.getElem_mem h3)
        have vy := inV_arg vwb h1 _ (List.getElem_mem h4)
        have hpi := pinv_arg ra rb hP hD hpt hP1
        rcases ext_cases hD hVD with hd | hd
        · subst hd
          simp only [List.append_nil] at *
          exact ihK _ (by have := hpt.size; omega) B la[i] lb[i] hN rfl hB hV rx ry vx vy P1 hpi Y M s m o q g1 al1 hY
        · exact ihN _ (by omega) _ (B ++ D) la[i] lb[i] rfl rfl hD hVD rx ry vx vy P1 hpi Y M s m o q g1 al1 hY
      · rintro r st' ⟨rv, B', P', g', al', rfl, rfl, hal', hdo, hnew⟩ _
        have hdo2 : Does V B a b rv B' := ⟨hdo.ok, hdo.ext, hdo.inV, fun hr ps R hR => .go hst2 (hdo.yes hr ps R hR), fun hr ps => .go hst2 (hdo.no hr ps)⟩
        simp
        refine fin _ _ rv B' P' g' al' rfl ?_ hal' hdo2 fun hr => ?_
        · rw [uST_app hU, ← hst1, uST_set h]
          exact (Pre.refl _).app _
        · subst hr
          intro p hp
          rcases hnew rfl p hp with h5 | h5
          · exact again_new hB ra rb hdo2 p h5
          · exact .inr h5
    · refine vcICall_of (equalNe_c la lb hlen _ _) ?_
      rintro r st' ⟨rfl, rfl⟩ _
      simp
      refine fin _ _ false B _ g al rfl (eX _).2 h.ss.hal (stepU_none hB hV ?_) (by simp)
      rw [hst]; simp only [argsS]; rw [if_neg]
      rintro ⟨_, _, _, e⟩
      exact hlen e
end Go.T1
end

section
open Go Go.Ab Go.Proofs
namespace Go.T1
set_option maxRecDepth 100000 in
theorem made_c (st : St) (s m : Nat) (X : AV) (es : List (Value × AV)) (hs : st[s]? = some (.cells [.mp m, X])) (hm : st[m]? = some (.map es)) :
    ICall T Try.prog 39 [.ptr s 0] st (fun r st' => r = .sc (.bool true) ∧ st' = st) := by
  refine ICall.of_vc hT [] [] follows Try.call39 Try.func39 rfl (by kernel_rfl) fun hfix => ?_
  unfold Try.f39
  simp [hs, hm]
  exact endP_mk (.sc (.bool true)) (by simp) (by simp) ⟨rfl, (Pre.refl st).cut hfix rfl⟩
set_option maxRecDepth 100000 in
theorem madeN_c : PureCall T Try.prog 39 [.sc (.pointer none)] (.sc (.bool false)) := by
  refine PureCall.of_vc hT [] [] follows Try.call39 Try.func39 rfl (by kernel_rfl) (by simp [AV.pure, AV.pureL]) (by simp [AV.pure]) ?_
  unfold Try.f39
  simp
/-- What New makes. -/
def newSt (N : Nat) : St := [.map (bsMap []), .cells [.mp N, .own (N + 2) 0], .row 3 0 false (intsL (keys []))]
theorem SS.new (st : St) : SS (st ++ newSt st.length) (st.length + 1) st.length (st.length + 2) 0 false [] := by
  refine ⟨?_, ?_, ?_, by simp, by omega, by omega, by omega⟩ <;> simp [newSt]
set_option maxRecDepth 100000 in
theorem New_c (st : St) : ICall T Try.prog 11 [] st (fun r st' => r = .ptr (st.length + 1) 0 ∧ st' = st ++ newSt st.length) := by
  refine ICall.adoptR (Q := fun r st' => r = .ptr (st.length + 1) 0 ∧ st' = st ++ [.map [], .cells [.mp st.length, .nils]]) 3 ?_ ?_
  · refine ICall.of_vcU hT [3] [] follows Try.call11 Try.func11 rfl (by kernel_rfl) fun hfix => ?_
    unfold Try.f11
    simp
  · rintro r st' ⟨rfl, rfl⟩
    refine ⟨st.length + 1, 1, [.mp st.length, .nils], by simp, rfl, rfl, ?_⟩
    simp [newSt, bsMap, intsL]
set_option maxRecDepth 100000 in
theorem Len_c {B : Bs} (st : St) (s m o g : Nat) (al : Bool) (h : SS st s m o g al B) : ICall T Try.prog 14 [.ptr s 0] st (fun r st' => r = .sc (.int .i64 B.length) ∧ st' = st) := by
  refine ICall.of_vc hT [] [(1, 1)] follows Try.call14 Try.func14 rfl (by kernel_rfl) fun hfix => ?_
  unfold Try.f14
  simp
  refine vcICall_of (made_c st s m _ _ h.hs h.hm) ?_
  rintro r st' ⟨rfl, rfl⟩ _
  simp [h.hs, h.ho]
  intro _ _
  exact endP_mk (.sc (.int .i64 B.length)) (by simp) (by simp) ⟨rfl, (Pre.refl _).cut hfix rfl⟩
set_option maxRecDepth 100000 in
theorem LenN_c : PureCall T Try.prog 14 [.sc (.pointer none)] (.sc (.int .i64 0)) := by
  refine PureCall.of_vc hT [] [] follows Try.call14 Try.func14 rfl (by kernel_rfl) (by simp [AV.pure, AV.pureL]) (by simp [AV.pure]) ?_
  unfold Try.f14
  simp
  refine vcCall_at madeN_c ?_
  simp
set_option maxRecDepth 100000 in
theorem cloneI_c {l : List Int} (st : St) (o g : Nat) (al : Bool) (ho : st[o]? = some (.row 3 g al (intsL l))) (hl : l.length ≤ 1000000000) : ICall T Try.prog 40 [.own o g] st (fun r st' => r = .lst 3 (intsL l) ∧ st' = st) := by
  refine ICall.of_vc hT [] [] follows Try.call40 Try.func40 rfl (by kernel_rfl) fun hfix => ?_
  unfold Try.f40
  simp [ho]
  refine ⟨⟨by omega, ?_⟩, fun h => ?_⟩
  · refine endP_mk (.lst 3 (intsL l)) (by simp) (by simp) ⟨rfl, ((Pre.refl st).app _).cut hfix rfl⟩
  · subst h
    exact endP_mk (.lst 3 []) (by simp) (by simp) ⟨rfl, (Pre.refl st).cut hfix rfl⟩
set_option maxRecDepth 100000 in
theorem Order_c {B : Bs} (st : St) (s m o g : Nat) (al : Bool) (h : SS st s m o g al B) (hl : B.length ≤ 1000000000) : ICall T Try.prog 15 [.ptr s 0] st (fun r st' => r = .lst 3 (intsL (keys B)) ∧ st' = st) := by
  refine ICall.of_vc hT [] [(1, 1), (3, 4)] follows Try.call15 Try.func15 rfl (by kernel_rfl) fun hfix => ?_
  unfold Try.f15
  simp
  refine vcICall_of (made_c st s m _ _ h.hs h.hm) ?_
  rintro r st' ⟨rfl, rfl⟩ _
  simp [h.hs]
  refine vcICall_of (cloneI_c _ o g al h.ho (by simpa using hl)) ?_
  rintro r st' ⟨rfl, rfl⟩ _
  simp
  exact endP_mk (.lst 3 (intsL (keys B))) (by simp) (by simp) ⟨rfl, (Pre.refl _).cut hfix rfl⟩
set_option maxRecDepth 100000 in
theorem OrderN_c : PureCall T Try.prog 15 [.sc (.pointer none)] (.lst 3 []) := by
  refine PureCall.of_vc hT [] [] follows Try.call15 Try.func15 rfl (by kernel_rfl) (by simp [AV.pure, AV.pureL]) (by simp [AV.pure, AV.pureM]) ?_
  unfold Try.f15
  simp
  refine vcCall_at madeN_c ?_
  simp
/-- What a variable is bound to; or nothing. -/
def boundV (B : Bs) (n : Int) : AV := match lookB B n with | some u => .tup [u.av 32, .sc (.bool true)] | none => .tup [Tm.zero.av 32, .sc (.bool false)]
set_option maxRecDepth 100000 in
theorem Bound_c {B : Bs} (hsm : ∀ n t, lookB B n = some t → t.small ∧ t.check = 0) (n : Int) (st : St) (s m o g : Nat) (al : Bool) (h : SS st s m o g al B) :
    ICall T Try.prog 16 [.ptr s 0, .sc (.int .i64 n)] st (fun r st' => r = boundV B n ∧ st' = st) := by
  have hs := h.hs
  have hm := h.hm
  have g1 := get_app hs
  have g2 := get_app hm
  have g3 := fun x l => ap0 (X := st) rfl x l
  refine ICall.of_vc hT [] [(1, 1)] follows Try.call16 Try.func16 rfl (by kernel_rfl) fun hfix => ?_
  unfold Try.f16
  simp
  refine vcICall_of (made_c _ s m _ _ (g1 _) (g2 _)) ?_
  rintro r st' ⟨rfl, rfl⟩ _
  simp [g1, g2, bsMap_get]
  cases hl : lookB B n with
  | none =>
    simp
    refine endP_mk (boundV B n) (by simp) (by simp [boundV, hl, Tm.zero, Tm.cells, Tm.cellsL]; rfl) ⟨rfl, ?_⟩
    exact ((Pre.refl st).app _).cut hfix rfl
  | some u =>
    obtain ⟨k1, k2⟩ := hsm n u hl
    simp
    refine vcCall_at (Clone_c _ k1) ?_
    simp [k2]
    refine endP_mk (boundV B n) (by simp) (by simp [boundV, hl]) ⟨rfl, ?_⟩
    exact ((Pre.refl st).app _).cut hfix rfl
set_option maxRecDepth 100000 in
theorem BoundN_c (n : Int) : PureCall T Try.prog 16 [.sc (.pointer none), .sc (.int .i64 n)] (.tup [Tm.zero.av 32, .sc (.bool false)]) := by
  refine PureCall.of_vc hT [] [] follows Try.call16 Try.func16 rfl (by kernel_rfl) (by simp [AV.pure, AV.pureL]) (by simp [AV.pure, AV.pureL]) ?_
  unfold Try.f16
  simp
  refine vcCall_at madeN_c ?_
  simp [Tm.zero, Tm.cells, Tm.cellsL]; rfl
set_option maxRecDepth 100000 in
theorem Walk_c {B : Bs} (hB : OkB B) (t : Tm) (ht : (wk B t).small) (hc : (wk B t).check = 0) (st : St) (s m o g : Nat) (al : Bool) (h : SS st s m o g al B) : ICall T Try.prog 29 [.ptr s 0, t.av 32] st (fun r st' => r = (wk B t).av 32 ∧ st' = st) := by
  have hs := h.hs
  have hm := h.hm
  have g1 := get_app hs
  have g2 := get_app hm
  refine ICall.of_vc hT [] [(1, 1), (3, 2)] follows Try.call29 Try.func29 rfl (by kernel_rfl) fun hfix => ?_
  unfold Try.f29
  simp
  refine vcICall_of (made_c _ s m _ _ (g1 _) (g2 _)) ?_
  rintro r st' ⟨rfl, rfl⟩ _
  simp
  refine vcICall_of (walk_c hB t _ s m _ (g1 _) (g2 _)) ?_
  rintro r st' ⟨rfl, rfl⟩ _
  simp
  refine vcCall_at (Clone_c _ ht) ?_
  simp [hc]
  refine endP_mk ((wk B t).av 32) (by simp) (by simp) ⟨rfl, ?_⟩
  exact ((Pre.refl st).app _).cut hfix rfl
set_option maxRecDepth 100000 in
theorem WalkN_c (t : Tm) : PureCall T Try.prog 29 [.sc (.pointer none), t.av 32] (Tm.zero.av 32) := by
  refine PureCall.of_vc hT [] [] follows Try.call29 Try.func29 rfl (by kernel_rfl) (by simp [AV.pure, AV.pureL]) (by simp [AV.pure]) ?_
  unfold Try.f29
  simp
  refine vcCall_at madeN_c ?_
  simp [Tm.zero, Tm.cells, Tm.cellsL]; rfl
end Go.T1
end

section
open Go Go.Ab Go.Proofs
namespace Go.T1
@[simp] theorem ty50' : T 50 = some ⟨1, 8, .int .i64, [], some (.int .i64 0)⟩ := by kernel_rfl
theorem take_drop_ok {B : Bs} {i j : Nat} (h : i + j < B.length) : B.take i ++ B.drop (i + j) = B.take i ++ (B[i + j].1, B[i + j].2) :: B.drop (i + j + 1) := by
  rw [List.drop_eq_getElem_cons h]
theorem key_not {B : Bs} (hB : OkB B) {i j : Nat} (h : i + j < B.length) : B[i + j].1 ∉ keys (B.take i) := by
  have hn := OkB_nodup hB
  have e : keys B = keys (B.take i) ++ keys (B.drop i) := by rw [← keys_append, List.take_append_drop]
  rw [e] at hn
  unfold List.Nodup at hn
  rw [List.pairwise_append] at hn
  intro hm
  refine hn.2.2 _ hm _ ?_ rfl
  refine List.mem_map.2 ⟨B[i + j], ?_, rfl⟩
  rw [List.mem_iff_getElem]
  exact ⟨j, by simp; omega, by simp⟩
/-- What Undo leaves. -/
def undoR (B : Bs) (i : Int) : Int := if i < 0 ∨ (B.length : Int) < i then 1 else 0
set_option maxRecDepth 100000 in
theorem Undo_c {B : Bs} (hB : OkB B) (i : Int) (st : St) (s m o g : Nat) (al : Bool) (h : SS st s m o g al B) :
    ICall T Try.prog 30 [.ptr s 0, .sc (.int .i64 i)] st (fun r st' => (undoR B i = 1 ∧ r = .sc (.int .i64 1) ∧ st' = st) ∨ (undoR B i = 0 ∧ 0 ≤ i ∧ i ≤ B.length ∧ r = .sc (.int .i64 0) ∧ st' = sST st s m o (g + 1) al (B.take i.toNat))) := by
  have hs := h.hs
  have hm := h.hm
  have ho := h.ho
  refine ICall.of_vc hT [] [(1, 1), (10, 6)] follows Try.call30 Try.func30 rfl (by kernel_rfl) fun hfix => ?_
  unfold Try.f30
  simp
  refine vcICall_of (made_c _ s m _ _ hs hm) ?_
  rintro r st' ⟨rfl, hst'⟩ _
  subst hst'
  simp [hs, hm, ho]
  intro hb
  refine ⟨fun hbad => ?_, fun h1 h2 => ?_⟩
  · refine endP_mk (.sc (.int .i64 1)) (by simp) (by simp) (.inl ⟨by unfold undoR; rw [if_pos hbad], rfl, (Pre.refl _).cut hfix rfl⟩)
  obtain ⟨n, rfl⟩ := Int.eq_ofNat_of_zero_le h1
  have hn : n ≤ B.length := by omega
  simp [hs, hm, ho, hn]
  refine vcC_loop [] (fun w σ Y => ∃ j : Nat, w = B.length - n - j ∧ n + j ≤ B.length ∧ Y = st'.set m (.map (bsMap (B.take n ++ B.drop (n + j)))) ∧ σ 0 = .ptr s 0 ∧ σ 1 = .sc (.int .i64 n) ∧ σ 28 = .sub o g n (B.length - n) ∧ σ 29 = .sc (.int .i64 (B.length - n : Nat)) ∧ σ 30 = .sc (.int .i64 j)) (B.length - n) ⟨0, ?_⟩ ?_
  · simp [set_same hm, hn]
    omega
  rintro w σ Y ⟨j, rfl, hj, rfl, s0, s1, s28, s29, s30⟩
  rcases Nat.lt_or_ge (n + j) B.length with hlt | hge
  · have ks := get_ne (b := .map (bsMap (B.take n ++ B.drop (n + j)))) hs (Ne.symm h.sm)
    have km := get_set (b := .map (bsMap (B.take n ++ B.drop (n + j)))) hm
    have ko := get_ne (b := .map (bsMap (B.take n ++ B.drop (n + j)))) ho h.mo
    have hlt2 : j < B.length - n := by omega
    have hal : al = true := h.hal (by rintro rfl; simp at hlt)
    have hrow : (intsL (keys B))[n + j]? = some [.sc (.int .i64 B[n + j].1)] := by simp [intsL, keys, hlt]
    simp [s0, s1, s28, s29, s30, ks, km, ko, hlt2, hrow, hal]
    have e1 := bsMap_del (B.take n) (B.drop (n + j + 1)) B[n + j].1 B[n + j].2 (key_not hB hlt)
    rw [← take_drop_ok hlt] at e1
    rw [e1]
    have hb' := hb h1
    refine ⟨by unfold i64ok; omega, B.length - n - (j + 1), by omega, j + 1, rfl, by omega, ?_, by omega⟩
    rw [Nat.add_assoc]
  · obtain rfl : j = B.length - n := by omega
    have e : n + (B.length - n) = B.length := by omega
    rw [e, List.drop_length, List.append_nil]
    have ks := get_ne (b := .map (bsMap (B.take n))) hs (Ne.symm h.sm)
    have ko := get_ne (b := .map (bsMap (B.take n))) ho h.mo
    have q1 := fun b => get_ne (i := o) (b := b) ks (Ne.symm h.so)
    have q2 := fun b => get_set (b := b) ko
    simp [s0, s1, s28, s29, s30, ks, ko, q1, q2]
    refine ⟨hn, endP_mk (.sc (.int .i64 0)) (by simp) (by simp) (.inr ⟨?_, rfl, ?_⟩)⟩
    · unfold undoR; rw [if_neg (by omega)]
    · have e2 : intsL (keys (B.take n)) = (intsL (keys B)).take n := by simp [intsL, keys, List.map_take]
      rw [← e2]
      exact (Pre.refl _).cut (fix_SS hfix h (g + 1) al (B.take n)) (by rw [sST_len])
end Go.T1
end

section
open Go Go.Ab Go.Proofs
namespace Go.T1
/-- Both may be? -/
def mayE (a b : Tm) : Int := if a.check ≠ 0 then a.check else b.check
/-- What Unify leaves. -/
def MQ (V : List Int) (B : Bs) (a b : Tm) (st : St) (s m o : Nat) (r : AV) (st' : St) : Prop :=
  (mayE a b ≠ 0 ∧ r = .tup [.sc (.bool false), .sc (.int .i64 (mayE a b))] ∧ st' = st) ∨
  (mayE a b = 0 ∧ ∃ rb B' g' al', r = .tup [.sc (.bool rb), .sc (.int .i64 0)] ∧ st' = sST st s m o g' al' B' ∧ (B' ≠ [] → al' = true) ∧ OkB B' ∧ BsV V B' ∧ (rb = true → Un B [(a, b)] (some B')) ∧ (rb = false → Un B [(a, b)] none ∧ B' = B))
theorem mayE_zero {a b : Tm} (h : mayE a b = 0) : a.check = 0 ∧ b.check = 0 := by
  unfold mayE at h
  split at h
  · rename_i h1; exact absurd h h1
  · rename_i h1; exact ⟨Classical.not_not.1 h1, h⟩
theorem BsV_take {V : List Int} {B : Bs} (h : BsV V B) (i : Nat) : BsV V (B.take i) := fun n t hm => h n t (List.mem_of_mem_take hm)
set_option maxRecDepth 100000 in
theorem Unify_c (V : List Int) (hVs : V.length ≤ 1000000000) {B : Bs} (hB : OkB B) (hV : BsV V B) (a b : Tm) (sa : a.small) (sb : b.small) (va : inV V a) (vb : inV V b) (st : St) (s m o g : Nat) (al : Bool) (h : SS st s m o g al B) :
    ICall T Try.prog 28 [.ptr s 0, a.av 32, b.av 32] st (MQ V B a b st s m o) := by
  obtain ⟨l1, l2, l3⟩ := h.lts
  refine ICall.of_vc hT [38] [(1, 1), (12, 5), (14, 2)] follows Try.call28 Try.func28 rfl (by kernel_rfl) fun hfix => ?_
  unfold Try.f28
  simp
  refine vcICall_of (made_c _ s m _ _ h.hs h.hm) ?_
  rintro r st' ⟨rfl, hst'⟩ _
  subst hst'
  simp
  refine ⟨rfl, ?_⟩
  refine vcC_loop [] (fun w σ Y => ∃ i : Nat, w = 2 - i ∧ i ≤ 2 ∧ (1 ≤ i → a.check = 0) ∧ (2 ≤ i → b.check = 0) ∧ Y = st' ∧ σ 0 = .ptr s 0 ∧ σ 4 = .eptr (a.cells 32) ∧ σ 5 = .eptr (b.cells 32) ∧ σ 18 = .lst 32 [a.cells 32, b.cells 32] ∧ σ 19 = .sc (.int .i64 2) ∧ σ 20 = .sc (.int .i64 i)) 2 ⟨0, ?_⟩ ?_
  · simp
  rintro w σ Y ⟨i, rfl, hi, hca, hcb, rfl, s0, s4, s5, s18, s19, s20⟩
  rcases Nat.lt_or_ge i 2 with hlt | hge
  · have hi2 : i = 0 ∨ i = 1 := by omega
    rcases hi2 with rfl | rfl
    · simp [s0, s4, s5, s18, s19, s20]
      refine vcCall_at (check_c a sa) ?_
      simp [s0, s4, s5, s18, s19, s20]
      refine ⟨fun hc => ?_, fun hc => ⟨by unfold i64ok; omega, 1, by omega, 1, by simp [hc]⟩⟩
      exact endP_mk (.tup [.sc (.bool false), .sc (.int .i64 a.check)]) (by simp) (by simp) (.inl ⟨by simp [mayE, hc], by simp [mayE, hc], (Pre.refl _).cut hfix rfl⟩)
    · simp [s0, s4, s5, s18, s19, s20]
      refine vcCall_at (check_c b sb) ?_
      simp [s0, s4, s5, s18, s19, s20]
      refine ⟨fun hc => ?_, fun hc => ⟨by unfold i64ok; omega, 2, by simp [hc]; exact hca (by omega)⟩⟩
      have hca' := hca (by omega)
      exact endP_mk (.tup [.sc (.bool false), .sc (.int .i64 b.check)]) (by simp) (by simp) (.inl ⟨by simp [mayE, hc, hca'], by simp [mayE, hca'], (Pre.refl _).cut hfix rfl⟩)
  · obtain rfl : i = 2 := by omega
    have ca := hca (by omega)
    have cb := hcb (by omega)
    simp [s0, s4, s5, s18, s19, s20, h.hs, h.ho]
    intro hb1 hb2
    have hS := h.app [.map [], .cells [.ptr s 0, .mp Y.length]]
    have hU : US (Y ++ [.map [], .cells [.ptr s 0, .mp Y.length]]) (Y.length + 1) s m o Y.length g al B [] := ⟨hS, by simp, by simp [pairMap], by omega⟩
    have G := hS.hs
    have G2 := get_app h.hs [.map []]
    simp [G2]
    refine ⟨UQ V B [] a b (Y ++ [.map [], .cells [.ptr s 0, .mp Y.length]]) s m o Y.length, ?_⟩
    simp (decide := true) [s4, s5]
    refine vcCall_at (Clone_c a sa) ?_
    simp (decide := true) [s4, s5, ca]
    refine vcCall_at (Clone_c b sb) ?_
    simp (decide := true) [s4, s5, cb]
    refine ⟨by simp, rfl, by simp [vcI, ca, cb]; exact unify_c V hVs _ _ B a b rfl rfl hB hV (Tm.right_of_check ca) (Tm.right_of_check cb) va vb [] (fun p hp => by cases hp) _ _ s m o Y.length g al hU, ?_⟩
    rintro r st' ⟨rb, B', P', g', al', rfl, rfl, hal', hdo, hnew⟩ _
    simp (decide := true)
    have hS' := h.put (g' := g') (al' := al') hal'
    have e1 : uST (Y ++ [.map [], .cells [.ptr s 0, .mp Y.length]]) s m o Y.length g' al' B' P' = sST Y s m o g' al' B' ++ [.map (pairMap P'), .cells [.ptr s 0, .mp Y.length]] := by
      unfold uST
      rw [sST_app h, List.set_append_right _ _ (by rw [sST_len]; exact Nat.le_refl _), sST_len]
      simp
    rw [e1]
    refine ⟨fun hr => ?_, fun hr => ?_⟩
    · subst hr
      refine endP_mk (.tup [.sc (.bool true), .sc (.int .i64 0)]) (by simp) (by simp) (.inr ⟨by simp [mayE, ca, cb], true, B', g', al', rfl, ?_, hal', hdo.ok, hdo.inV, fun _ => hdo.yes rfl [] _ (.nil B'), by simp⟩)
      exact ((Pre.refl _).app _).cut (fix_SS hfix h _ _ _) (by rw [sST_len])
    · subst hr
      obtain ⟨D, hD⟩ := hdo.ext
      have hle : B.length ≤ B'.length := by rw [hD]; simp
      simp [s0]
      refine vcICall_of (Undo_c hdo.ok B.length _ s m o g' al' (hS'.app _)) ?_
      rintro r st' (⟨hu, rfl, rfl⟩ | ⟨hu, _, _, rfl, rfl⟩) _
      · unfold undoR at hu; rw [if_neg (by omega)] at hu; cases hu
      have hB2 : B'.take B.length = B := by rw [hD]; simp
      simp [hB2]
      refine endP_mk (.tup [.sc (.bool false), .sc (.int .i64 0)]) (by simp) (by simp) (.inr ⟨by simp [mayE, ca, cb], false, B, g' + 1, al', rfl, ?_, ?_, hB, hV, by simp, fun _ => ⟨hdo.no rfl [], rfl⟩⟩)
      · rw [sST_app hS', sST_sST h.sm h.so h.mo]
        exact ((Pre.refl _).app _).cut (fix_SS hfix h _ _ _) (by rw [sST_len])
      · intro hb; exact hal' (by rintro rfl; simp at hD; exact hb hD.1)
end Go.T1
end

section
open Go Go.Ab Go.Proofs
namespace Go.T1
/-- A builder's struct. -/
def oSt (st : St) (bb s : Nat) (p : Int) : St := st.set bb (.cells [.ptr s 0, .sc (.int .i64 p)])
def oP (p : Int) (n : Nat) : Int := min (p + n) 4097
def oQ (B : Bs) (t : Tm) (p : Int) (st : St) (bb s : Nat) (r : AV) (st' : St) : Prop := ∃ u : Tm, r = u.av 32 ∧ st' = oSt st bb s (oP p (t.sub (sg B)).size) ∧ (p + (t.sub (sg B)).size ≤ 4096 → u = t.sub (sg B))
def oFr (N : Nat) (w : Tm) (k n : Int) (s : ByteArray) (i : Nat) (al : Bool) (us : List Tm) : St :=
  [.cells (w.cells 32), .cells [.sc (.int .i64 0), .sc (.int .i64 0), .sc (.string .empty), .nils], .cells [.sc (.int .i64 k), .sc (.int .i64 n), .sc (.string s), .own (N + 3) i], .row 32 i al (Tm.cellsL 32 us)]
def oInv (B : Bs) (st : St) (bb s : Nat) (p : Int) (N : Nat) (w : Tm) (k n : Int) (sn : ByteArray) (l : List Tm) (i : Nat) (Y : St) : Prop :=
  ∃ al us, us.length = i ∧ (p + 1 + Tm.sizeL (Tm.subL (sg B) (l.take i)) ≤ 4096 → us = Tm.subL (sg B) (l.take i)) ∧ Y = oSt st bb s (oP (p + 1) (Tm.sizeL (Tm.subL (sg B) (l.take i)))) ++ oFr N w k n sn i al us
theorem sizeL_sub_take {f : Int → Tm} {l : List Tm} {i : Nat} (h : i < l.length) : Tm.sizeL (Tm.subL f (l.take (i + 1))) = Tm.sizeL (Tm.subL f (l.take i)) + (l[i].sub f).size := by
  rw [Tm.subL_take h, Tm.sizeL_append]; simp [Tm.sizeL]
set_option maxRecDepth 100000 in
theorem of_c {B : Bs} (hB : OkB B) : ∀ (K : Nat) (t : Tm), (t.sub (sg B)).size = K → t.right = true → ∀ (p : Int), 0 ≤ p → p ≤ 4096 → ∀ (st : St) (bb s m o g : Nat) (al : Bool), SS st s m o g al B → st[bb]? = some (.cells [.ptr s 0, .sc (.int .i64 p)]) → bb ≠ s →
    ICall T Try.prog 44 [.ptr bb 0, t.av 32] st (oQ B t p st bb s) := by
  intro K
  induction K using Nat.strongRecOn with
  | _ K ih =>
  intro t hK hr p hp0 hp1 st bb s m o g al h hbb hbs
  have hbm : bb ≠ m := by rintro rfl; rw [h.hm] at hbb; cases hbb
  have hbo : bb ≠ o := by rintro rfl; rw [h.ho] at hbb; cases hbb
  obtain ⟨N, hN⟩ : ∃ N, N = st.length := ⟨_, rfl⟩
  refine ICall.of_vc hT [3, 5] [(2, 5), (8, 4)] follows Try.call44 Try.func44 rfl (by kernel_rfl) fun hfix => ?_
  unfold Try.f44
  have g1 := get_app hbb
  simp [g1, set_app hbb]
  refine ⟨by unfold i64ok; omega, ?_⟩
  have hbs' : ∀ q, SS (oSt st bb s q) s m o g al B := fun q => ⟨get_ne h.hs hbs, get_ne h.hm hbm, get_ne h.ho hbo, h.hal, h.sm, h.so, h.mo⟩
  have hbb' : ∀ q, (oSt st bb s q)[bb]? = some (.cells [.ptr s 0, .sc (.int .i64 q)]) := fun q => get_set hbb
  have eo : ∀ q, st.set bb (.cells [.ptr s 0, .sc (.int .i64 q)]) = oSt st bb s q := fun q => rfl
  rw [eo]
  have hX : ∀ q, (oSt st bb s q).length = N := fun q => by simp [oSt, hN]
  have q0 := fun (q : Int) x l => ap0 (hX q) x l
  have q1 := fun (q : Int) x y l => ap1 (hX q) x y l
  have q2 := fun (q : Int) x y z l => ap2 (hX q) x y z l
  have q3 := fun (q : Int) x y z w l => ap3 (hX q) x y z w l
  have z0 := fun (q : Int) x y l => as0 (hX q) x y l
  have z1 := fun (q : Int) x y z l => as1 (hX q) x y z l
  have z2 := fun (q : Int) x y z w l => as2 (hX q) x y z w l
  have z3 := fun (q : Int) x y z w v l => as3 (hX q) x y z w v l
  have gb := fun (q : Int) l => get_app (hbb' q) l
  have sb := fun (q : Int) b l => set_app (b := b) (hbb' q) l
  have eo2 : ∀ q r, (oSt st bb s q).set bb (.cells [.ptr s 0, .sc (.int .i64 r)]) = oSt st bb s r := fun q r => by unfold oSt; rw [List.set_set]
  rw [← hN]
  refine ⟨fun r Z => r = (wk B t).av 32 ∧ Z = oSt st bb s (p + 1) ++ [.cells (t.cells 32), .cells [.sc (.int .i64 0), .sc (.int .i64 0), .sc (.string .empty), .nils]], ?_⟩
  simp (decide := true) [gb, q0]
  refine ⟨by simp, rfl, by simp [vcI]; exact walk_c hB t _ s m (.own o g) ((hbs' _).app _).hs ((hbs' _).app _).hm, ?_⟩
  rintro r st' ⟨rfl, rfl⟩ _
  rcases hw : wk B t with ⟨k, n, sn, l⟩
  have hσ := wk_sg hB t hr
  have hrw := wk_right hB t hr
  rw [hw] at hσ hrw
  simp (decide := true) [gb, q0, q1, z0, hw, Tm.cells]
  have hsub : t.sub (sg B) = .mk k n sn (Tm.subL (sg B) l) := by
    rw [← hσ]
    by_cases hk : k = 1
    · subst hk
      have hv : (wk B t).vn = some n := by rw [hw]; simp [Tm.vn]
      obtain ⟨e1, e2, e3, _⟩ := wk_var hB hr hv
      rw [hw] at e1
      cases e1
      rw [hσ, e3]; rfl
    · simp only [Tm.sub, if_neg hk]
  have hrl := hrw
  simp only [Tm.right, Bool.and_eq_true] at hrl
  have hsz : (t.sub (sg B)).size = 1 + Tm.sizeL (Tm.subL (sg B) l) := by rw [hsub]; rfl
  intro hl1 hl2
  refine vcC_loop [(32, .cell (N + 2) 3)] (fun w σ Y => ∃ i : Nat, w = l.length - i ∧ i ≤ l.length ∧ oInv B st bb s p N (.mk k n sn l) k n sn l i Y ∧ σ 0 = .ptr bb 0 ∧ σ 4 = .ptr (N + 1) 0 ∧ σ 5 = .ptr (N + 2) 0 ∧ σ 29 = .lst 32 (Tm.cellsL 32 l) ∧ σ 30 = .sc (.int .i64 l.length) ∧ σ 31 = .sc (.int .i64 i)) l.length ?_ ?_
  · simp [hX, q2, z2, Nat.add_assoc]
    refine ⟨0, by simp, by simp, ⟨false, [], rfl, fun _ => by simp [Tm.subL], ?_⟩, by simp⟩
    simp [oFr, Tm.subL, Tm.sizeL, oP, Tm.cells, Tm.cellsL]
    rw [Int.min_eq_left (by omega)]
  have fin : ∀ (σ : Slots) (Pv : Int) (c0 c1 c2 : Blk) (i : Nat) (al' : Bool) (us : List Tm), σ 4 = .ptr (N + 1) 0 → Pv = oP p (t.sub (sg B)).size → (p + (t.sub (sg B)).size ≤ 4096 → Tm.mk k n sn us = t.sub (sg B)) →
      endP T [ResultVar.cell 4 32] N (oQ B t p st bb s) σ ((oSt st bb s Pv ++ [c0, c1, c2, .row 32 i al' (Tm.cellsL 32 us)]).set (N + 1) (.cells [.sc (.int .i64 k), .sc (.int .i64 n), .sc (.string sn), .own (N + 3) i])) := by
    intro σ Pv c0 c1 c2 i al' us h4 hP hu
    rw [z1]
    refine endP_mk ((Tm.mk k n sn us).av 32) ?_ ?_ ⟨.mk k n sn us, rfl, ?_, hu⟩
    · simp [h4, q1]
    · simp [h4, q1, q3, Tm.cells]; rw [if_neg (by omega)]; simp
    · rw [← hP]
      refine ((Pre.refl _).app _).cut ?_ (hX Pv).symm
      unfold oSt
      refine fix_set hfix bb fun M S hM => ?_
      have := h.lts.1
      simp [cut_cells, AV.cutL, AV.cut]; omega
  rintro w σ Y ⟨i, rfl, hi, ⟨al', us, hus, hus2, rfl⟩, s0, s4, s5, s29, s30, s31⟩
  rcases Nat.lt_or_ge i l.length with hlt | hge
  · simp [s0, s4, s5, s29, s30, s31, hlt, gb, q0, q1, q2, q3, oFr]
    have hpos : ∀ x : Tm, 1 ≤ (x.sub (sg B)).size := fun x => Tm.size_pos _
    have hsum : Tm.sizeL (Tm.subL (sg B) (l.take i)) + (l[i].sub (sg B)).size ≤ Tm.sizeL (Tm.subL (sg B) l) := by
      rw [← sizeL_sub_take hlt]
      conv => rhs; rw [← List.take_append_drop (i + 1) l, Tm.subL_map, List.map_append, Tm.sizeL_append, ← Tm.subL_map]
      omega
    refine ⟨fun hbig => ?_, fun hsm => ?_⟩
    · have := hpos l[i]
      have hb2 : 4096 < p + 1 + Tm.sizeL (Tm.subL (sg B) (l.take i)) := by unfold oP at hbig; omega
      refine fin _ _ _ _ _ i al' us s4 ?_ fun hc => ?_
      · unfold oP; rw [hsz]; omega
      · rw [hsz] at hc; omega
    · have hsm2 : p + 1 + Tm.sizeL (Tm.subL (sg B) (l.take i)) ≤ 4096 := by unfold oP at hsm; omega
      have eP : oP (p + 1) (Tm.sizeL (Tm.subL (sg B) (l.take i))) = p + 1 + Tm.sizeL (Tm.subL (sg B) (l.take i)) := by unfold oP; omega
      rw [eP]
      have hus3 := hus2 hsm2
      refine ⟨fun r Z => ∃ u : Tm, r = u.av 32 ∧ Z = oSt st bb s (oP (p + 1 + Tm.sizeL (Tm.subL (sg B) (l.take i))) (l[i].sub (sg B)).size) ++ oFr N (.mk k n sn l) k n sn i al' us ∧ (p + 1 + Tm.sizeL (Tm.subL (sg B) (l.take i)) + (l[i].sub (sg B)).size ≤ 4096 → u = l[i].sub (sg B)), ?_⟩
      simp (decide := true) [s0, s4, s5, s29, s30, s31, hlt, gb, q0, q1, q2, q3, oFr]
      refine ⟨by rintro r st' ⟨u, rfl, rfl, _⟩; simp (decide := true) [s0, s4, s5, s29, s30, s31, hlt, gb, q0, q1, q2, q3, oFr], ?_⟩; simp (decide := true) [s0, s4, s5, s29, s30, s31, hlt, gb, q0, q1, q2, q3, oFr]
      refine ⟨by rintro r st' ⟨u, rfl, rfl, _⟩; simp (decide := true) [s0, s4, s5, s29, s30, s31, hlt, gb, q0, q1, q2, q3, oFr], ?_⟩; simp (decide := true) [s0, s4, s5, s29, s30, s31, hlt, gb, q0, q1, q2, q3, oFr]
      have hcall := ih (l[i].sub (sg B)).size (by rw [← hK, hsz]; have := size_le_mem (mem_subL (sg B) (List.getElem_mem hlt)); omega) l[i] rfl (rightL_mem hrl.2 _ (List.getElem_mem hlt)) (p + 1 + Tm.sizeL (Tm.subL (sg B) (l.take i))) (by omega) hsm2
        (oSt st bb s (p + 1 + Tm.sizeL (Tm.subL (sg B) (l.take i))) ++ oFr N (.mk k n sn l) k n sn i al' us) bb s m o g al ((hbs' _).app _) (gb _ _) hbs
      refine ⟨by simp, rfl, by simp [vcI]; exact hcall.mono fun r st' ⟨u, h1, h2, h3⟩ => ⟨u, h1, by rw [h2]; show (oSt st bb s _ ++ _).set bb _ = _; rw [sb, eo2]; rfl, h3⟩, ?_⟩
      rintro r st' ⟨u, rfl, rfl, hu⟩ _
      simp (decide := true) [s0, s4, s5, s29, s30, s31, hlt, gb, q0, q1, q2, q3, oFr, z2, z3]
      refine ⟨by rw [hus]; omega, by unfold i64ok; omega, l.length - (i + 1), by omega, i + 1, rfl, by omega, ⟨true, us ++ [u], by simp [hus], fun hc => ?_, ?_⟩, by omega⟩
      · rw [sizeL_sub_take hlt] at hc
        rw [Tm.subL_take hlt, hus3, hu (by omega)]
      · rw [sizeL_sub_take hlt]
        have e : oP (p + 1 + Tm.sizeL (Tm.subL (sg B) (l.take i))) (l[i].sub (sg B)).size = oP (p + 1) (Tm.sizeL (Tm.subL (sg B) (l.take i)) + (l[i].sub (sg B)).size) := by unfold oP; push_cast; congr 1; omega
        rw [e]
        simp [oFr, Tm.cellsL]
  · obtain rfl : i = l.length := by omega
    simp [s0, s4, s5, s29, s30, s31, gb, q0, q1, q2, q3, oFr]
    rw [List.take_length] at hus2
    refine fin _ _ _ _ _ l.length al' us s4 ?_ fun hc => ?_
    · unfold oP; rw [hsz]; omega
    · rw [hsz] at hc
      rw [hus2 (by omega), hsub]
end Go.T1
end

section
open Go Go.Ab Go.Proofs
namespace Go.T1
/-- What a term comes to; or what is wrong with that. -/
def appR (B : Bs) (t : Tm) : Tm × Int := if 4096 < (t.sub (sg B)).size then (Tm.zero, 62) else if 200 < (t.sub (sg B)).depth then (Tm.zero, 61) else (t.sub (sg B), 0)
def appC (B : Bs) (t : Tm) : Tm × Int := if t.check ≠ 0 then (Tm.zero, t.check) else appR B t
def appV (p : Tm × Int) : AV := .tup [p.1.av 32, .sc (.int .i64 p.2)]
theorem zero_av : Tm.zero.av 32 = .agg [.sc (.int .i64 0), .sc (.int .i64 0), .sc (.string .empty), .lst 32 []] := rfl
theorem check_right {u : Tm} (h : u.right = true) (hs : ¬ 4096 < u.size) : u.check = if 200 < u.depth then 61 else 0 := by
  unfold Tm.check
  rw [if_neg (by simp [h]), if_neg hs]
set_option maxRecDepth 100000 in
theorem Apply_c {B : Bs} (hB : OkB B) (t : Tm) (ht : t.small) (st : St) (s m o g : Nat) (al : Bool) (h : SS st s m o g al B) :
    ICall T Try.prog 21 [.ptr s 0, t.av 32] st (fun r st' => r = appV (appC B t) ∧ st' = st) := by
  have hs := h.hs
  have hm := h.hm
  have g1 := get_app hs
  have g2 := get_app hm
  refine ICall.of_vc hT [22] [(1, 1), (7, 2)] follows Try.call21 Try.func21 rfl (by kernel_rfl) fun hfix => ?_
  unfold Try.f21
  simp
  refine vcICall_of (made_c _ s m _ _ (g1 _) (g2 _)) ?_
  rintro r st' ⟨rfl, rfl⟩ _
  simp
  refine vcCall_at (check_c t ht) ?_
  simp
  have fin : ∀ (σ : Slots) (c : List AV) (l : St) (u : Tm) (e : Int), σ 4 = .ptr st.length 0 → σ 5 = .sc (.int .i64 e) → c.length = 4 → leV (.agg c) (u.av 32) → AV.cutL st.length (st ++ .cells c :: l) c = c → appC B t = (u, e) → endP T [ResultVar.cell 4 32, ResultVar.tmp 5] st.length (fun r st' => r = appV (appC B t) ∧ st' = st) σ (st ++ .cells c :: l) := by
    intro σ c l u e h4 h5 hc hu hcut ha
    refine endP_mk (appV (u, e)) ?_ ?_ ⟨by rw [ha], ((Pre.refl st).app _).cut hfix rfl⟩
    · simp [h4, ap0 rfl, hc]
    · have : c.take 4 = c := by rw [List.take_of_length_le (by omega)]
      simp [h4, h5, ap0 rfl, this, appV, hcut]
      simpa using hu
  refine ⟨fun hc => ?_, fun hc => ?_⟩
  · exact fin _ _ [] Tm.zero t.check rfl rfl rfl (by simp [Tm.zero, Tm.cells, Tm.cellsL]; rfl) (by simp [AV.cutL, AV.cut]) (by simp [appC, hc])
  simp [g1]
  have hr := Tm.right_of_check hc
  have ha : appC B t = appR B t := by simp [appC, hc]
  have hbb : ∀ q : Int, (st ++ [.cells [.sc (.int .i64 0), .sc (.int .i64 0), .sc (.string .empty), .nils], .cells [.ptr s 0, .sc (.int .i64 q)]])[st.length + 1]? = some (.cells [.ptr s 0, .sc (.int .i64 q)]) := fun q => by simp
  refine vcICall_of (of_c hB _ t rfl hr 0 (by omega) (by omega) _ (st.length + 1) s m o g al (h.app _) (hbb 0) (by have := h.lts.1; omega)) ?_
  rintro r st' ⟨u, rfl, rfl, hu⟩ _
  have e1 : oSt (st ++ [.cells [.sc (.int .i64 0), .sc (.int .i64 0), .sc (.string .empty), .nils], .cells [.ptr s 0, .sc (.int .i64 0)]]) (st.length + 1) s (oP 0 (t.sub (sg B)).size) = st ++ [.cells [.sc (.int .i64 0), .sc (.int .i64 0), .sc (.string .empty), .nils], .cells [.ptr s 0, .sc (.int .i64 (oP 0 (t.sub (sg B)).size))]] := by
    unfold oSt; exact as1 rfl _ _ _ _
  rw [e1]
  simp
  refine ⟨fun hbig => ?_, fun hsm => ?_⟩
  · have hb : 4096 < (t.sub (sg B)).size := by unfold oP at hbig; omega
    exact fin _ _ _ Tm.zero 62 rfl rfl rfl (by simp [Tm.zero, Tm.cells, Tm.cellsL]; rfl) (by simp [AV.cutL, AV.cut]) (by rw [ha, appR, if_pos hb])
  have hb : ¬ 4096 < (t.sub (sg B)).size := by unfold oP at hsm; omega
  have hu' := hu (by omega)
  subst hu'
  have hck := check_right (sg_right hB hr) hb
  by_cases hd : 200 < (t.sub (sg B)).depth
  · rw [if_pos hd] at hck
    refine vcCall_at (check_c _ (by unfold Tm.small; omega)) ?_
    rw [hck]
    simp
    exact fin _ _ _ Tm.zero 61 rfl rfl rfl (by simp [Tm.zero, Tm.cells, Tm.cellsL]; rfl) (by simp [AV.cutL, AV.cut]) (by rw [ha, appR, if_neg hb, if_pos hd])
  · rw [if_neg hd] at hck
    refine vcCall_at (check_c _ (by unfold Tm.small; omega)) ?_
    rw [hck]
    simp
    exact fin _ _ _ (t.sub (sg B)) 0 rfl rfl (by simp) (by simp) (by simp) (by rw [ha, appR, if_neg hb, if_neg hd])
set_option maxRecDepth 100000 in
theorem ApplyN_c (t : Tm) : PureCall T Try.prog 21 [.sc (.pointer none), t.av 32] (.tup [Tm.zero.av 32, .sc (.int .i64 6)]) := by
  refine PureCall.of_vc hT [22] [(7, 2)] follows Try.call21 Try.func21 rfl (by kernel_rfl) (by simp [AV.pure, AV.pureL]) (by simp [AV.pure, AV.pureL]) ?_
  unfold Try.f21
  simp
  refine vcCall_at madeN_c ?_
  simp [Tm.zero, Tm.cells, Tm.cellsL]; rfl
set_option maxRecDepth 100000 in
theorem UnifyN_c (a b : Tm) : PureCall T Try.prog 28 [.sc (.pointer none), a.av 32, b.av 32] (.tup [.sc (.bool false), .sc (.int .i64 6)]) := by
  refine PureCall.of_vc hT [38] [(12, 5), (14, 2)] follows Try.call28 Try.func28 rfl (by kernel_rfl) (by simp [AV.pure, AV.pureL]) (by simp [AV.pure, AV.pureL]) ?_
  unfold Try.f28
  simp
  refine vcCall_at madeN_c ?_
  simp
set_option maxRecDepth 100000 in
theorem UndoN_c (i : Int) : PureCall T Try.prog 30 [.sc (.pointer none), .sc (.int .i64 i)] (.sc (.int .i64 6)) := by
  refine PureCall.of_vc hT [] [(10, 6)] follows Try.call30 Try.func30 rfl (by kernel_rfl) (by simp [AV.pure, AV.pureL]) (by simp [AV.pure, AV.pureL]) ?_
  unfold Try.f30
  simp
  refine vcCall_at madeN_c ?_
  simp
/-- What the package's Unify leaves. -/
def PQ (V : List Int) (a b : Tm) (st : St) (r : AV) (st' : St) : Prop :=
  (mayE a b ≠ 0 ∧ r = .tup [.sc (.pointer none), .sc (.bool false)] ∧ st' = st ++ newSt st.length) ∨
  (mayE a b = 0 ∧ ∃ rb B' g' al', r = .tup [bif rb then .ptr (st.length + 1) 0 else .sc (.pointer none), .sc (.bool rb)] ∧ st' = sST (st ++ newSt st.length) (st.length + 1) st.length (st.length + 2) g' al' B' ∧ (B' ≠ [] → al' = true) ∧ OkB B' ∧ BsV V B' ∧ (rb = true → Un [] [(a, b)] (some B')) ∧ (rb = false → Un [] [(a, b)] none ∧ B' = []))
set_option maxRecDepth 100000 in
theorem PUnify_c (V : List Int) (hVs : V.length ≤ 1000000000) (a b : Tm) (sa : a.small) (sb : b.small) (va : inV V a) (vb : inV V b) (st : St) :
    ICall T Try.prog 19 [a.av 32, b.av 32] st (PQ V a b st) := by
  refine ICall.of_vcU hT [] [(1, 0), (2, 3)] follows Try.call19 Try.func19 rfl (by kernel_rfl) fun hfix => ?_
  unfold Try.f19
  simp
  refine vcICall_of (New_c st) ?_
  rintro r st' ⟨rfl, rfl⟩ _
  simp
  refine vcICall_of (Unify_c V hVs OkB_nil (fun n t h => by cases h) a b sa sb va vb _ (st.length + 1) st.length (st.length + 2) 0 false (SS.new st)) ?_
  rintro r st' (⟨hm, rfl, rfl⟩ | ⟨hm, rb, B', g', al', rfl, rfl, hal', hok, hV, h1, h2⟩) _
  · simp [hm]
    exact ⟨_, leV_refl _, .inl ⟨hm, rfl, rfl⟩⟩
  · cases rb
    · simp
      exact ⟨_, leV_refl _, .inr ⟨hm, false, B', g', al', rfl, rfl, hal', hok, hV, h1, h2⟩⟩
    · simp
      exact ⟨_, leV_refl _, .inr ⟨hm, true, B', g', al', rfl, rfl, hal', hok, hV, h1, h2⟩⟩
end Go.T1
end
