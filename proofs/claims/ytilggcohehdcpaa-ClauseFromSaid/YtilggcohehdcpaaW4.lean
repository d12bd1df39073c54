/- Contracts of the functions of package clause, of what it asks of package term, and of its answer: each at every term of a size that is bounded. -/
import Derived.Test.YtilggcohehdcpaaW3
import Derived.Test.YtilggcohehdcpaaRows
import Derived.KernelRfl
import Derived.RangeFuncNested
import Derived.RangeFuncBound
import Derived.RangeFuncCalls
import Derived.RangeFuncLeaves
import Derived.Shelf.Abstract
import Derived.Shelf.RegionOpen
import Derived.WalkKit
import Derived.OwnWalkIn
import Derived.TacticsInMore
import Derived.LoopNIn
import Derived.LoopIn
import Derived.SizedLaws
import Derived.Carry
import Derived.ProofKit
import Derived.OpenShut
import Derived.JoinedOf
import Derived.ChangeSame
set_option linter.unusedSimpArgs false
set_option linter.unusedVariables false
set_option linter.unusedSectionVars false
set_option linter.unnecessarySimpa false
section
open Go Go.Ab Go.Proofs
namespace Go.T1
noncomputable abbrev T : Tab := tabOf Try.prog
theorem hT : TabOk T Try.prog := tabOf_ok _
@[simp] theorem ty3 : T 3 = some ⟨1, 8, .int .i64, [], some (.int .i64 0)⟩ := by kernel_rfl
@[simp] theorem ty37 : T 37 = some ⟨1, 8, .int .i64, [], some (.int .i64 0)⟩ := by kernel_rfl
@[simp] theorem ty4 : T 4 = some ⟨1, 1, .bool, [], some (.bool false)⟩ := by kernel_rfl
@[simp] theorem ty9 : T 9 = some ⟨1, 16, .str, [], some (.string .empty)⟩ := by kernel_rfl
@[simp] theorem ty22 : T 22 = some ⟨1, 24, .slice 24, [], some (.slice none 0 0)⟩ := by kernel_rfl
@[simp] theorem ty24 : T 24 = some ⟨4, 56, .strct, [(0,1),(1,1),(2,1),(3,1)], some (.agg #[.int .i64 0, .int .i64 0, .string .empty, .slice none 0 0])⟩ := by kernel_rfl
@[simp] theorem ty72 : T 72 = some ⟨3, 24, .strct, [(0,1),(1,1),(2,1)], some (.agg #[.int .i64 0, .int .i64 0, .bool false])⟩ := by kernel_rfl
theorem follows : Try.prog.follows .mixedOrders = true := by kernel_rfl
end Go.T1
end

section
open Go Go.Ab Go.Proofs
namespace Go.T1
set_option maxRecDepth 100000 in
theorem bare_c (k n : Int) (s : ByteArray) (l : List Tm) : PureCall T Try.prog 77 [(Tm.mk k n s l).av 24] (.sc (.bool (decide (s = ⟨#[]⟩) && decide (l.length = 0)))) := by
  refine PureCall.of_vc hT [] [] follows Try.call77 Try.func77 rfl (by kernel_rfl) (by simp [AV.pure, AV.pureL]) rfl ?_
  unfold Try.f77
  simp [Tm.cells]

set_option maxRecDepth 100000 in
theorem refpart_c (k n : Int) (s : ByteArray) (l : List Tm) : PureCall T Try.prog 67 [(Tm.mk k n s l).av 24] (.sc (.bool (partB k n s l.length))) := by
  generalize hr : partB k n s l.length = r
  refine PureCall.of_vc hT [] [] follows Try.call67 Try.func67 rfl (by kernel_rfl) (by simp [AV.pure, AV.pureL]) rfl ?_
  unfold Try.f67
  simp [Tm.cells]
  subst hr
  unfold partB
  refine ⟨fun h _ => by simp [h], fun h1 => ⟨fun h _ => by simp [h], fun h2 => ⟨fun h _ => by simp [h], fun h3 => ⟨fun h _ _ => by simp [h], fun h4 => by simp [*]⟩⟩⟩⟩

set_option maxRecDepth 100000 in
theorem part_c (k n : Int) (s : ByteArray) (l : List Tm) : PureCall T Try.prog 76 [(Tm.mk k n s l).av 24] (.sc (.bool (partB k n s l.length))) := by
  generalize hr : partB k n s l.length = r
  refine PureCall.of_vc hT [] [] follows Try.call76 Try.func76 rfl (by kernel_rfl) (by simp [AV.pure, AV.pureL]) rfl ?_
  unfold Try.f76
  simp [Tm.cells]
  refine ⟨fun h => vcCall_at (bare_c k n s l) ?_, fun h1 => ⟨fun h => vcCall_at (bare_c k n s l) ?_, fun h2 => ⟨fun h _ => by subst hr; simp [h, partB], fun h3 => ⟨fun h _ _ => by subst hr; simp [h, partB], fun h4 => by subst hr; simp [partB, *]⟩⟩⟩⟩
  · simp
    subst hr; simp [h, partB, Bool.and_assoc]
  · simp
    subst hr; simp [h, partB, Bool.and_assoc]

/-- What is counted. -/
def cntB (p d : Int) (b : Bool) : Blk := .cells [.sc (.int .i64 p), .sc (.int .i64 d), .sc (.bool b)]

set_option maxRecDepth 100000 in
theorem count_c : ∀ (t : Tm) (p d dep : Int) (b : Bool) (id : Nat) (st : St), st[id]? = some (cntB p d b) → 0 ≤ p → p + t.size ≤ 1000000000 → 0 ≤ dep → dep + t.depth ≤ 1000000000 →
    ICall T Try.prog 71 [.ptr id 0, t.av 24, .sc (.int .i64 dep)] st (fun r st' => r = .tup [] ∧ st' = st.set id (cntB (p + t.size) (max d (dep + t.depth - 1)) (b || !t.right))) := by
  refine Tm.ind fun k n s l ih => ?_
  intro p d dep b id st hid hp hps hdep hdd
  have hidl : id < st.length := (List.getElem?_eq_some_iff.1 hid).1
  refine ICall.of_vc hT [] [(7, 4)] follows Try.call71 Try.func71 rfl (by kernel_rfl) fun hfix => ?_
  unfold Try.f71
  have hset : ∀ b, (st.set id b)[id]? = some b := fun b => by simp [hidl]
  unfold cntB at hid
  clear hidl
  simp [Tm.cells, hid, hset, cntB]
  simp only [Tm.size, Tm.depth] at hps hdd
  have hb1 := Tm.depthL_le_sizeL l
  refine ⟨by unfold i64ok; omega, vcCall_at (part_c k n s l) ?_⟩
  simp [hid, hset]
  intro hl1 hl2
  refine vcC_loop [] (fun m σ st' => ∃ i : Nat, m = l.length - i ∧ i ≤ l.length ∧ σ 0 = .ptr id 0 ∧ σ 2 = .sc (.int .i64 dep) ∧ σ 37 = .lst 24 (Tm.cellsL 24 l) ∧ σ 38 = .sc (.int .i64 l.length) ∧ σ 39 = .sc (.int .i64 i) ∧
    st' = st.set id (cntB (p + 1 + Tm.sizeL (l.take i)) (max (max d dep) (dep + Tm.depthL (l.take i))) ((b || !partB k n s l.length) || !Tm.rightL (l.take i)))) l.length ⟨0, by simp, by simp, by simp, by simp, by simp, by simp, by simp, ?_⟩ ?_
  · simp [Tm.sizeL, Tm.depthL, Tm.rightL, cntB]
  rintro m σ st' ⟨i, rfl, hi, s0, s2, s37, s38, s39, rfl⟩
  rcases Nat.lt_or_ge i l.length with hlt | hge
  · have h1 := Tm.size_get hlt
    have h2 := Tm.sizeL_take_le l i
    have h3 := Tm.depthL_take_le l (i + 1)
    rw [Tm.depthL_take hlt] at h3
    have h4 := Tm.depth_le_size l[i]
    simp [s0, s2, s37, s38, s39, hlt]
    refine ⟨by unfold i64ok; omega, vcICall_of (ih l[i] (List.getElem_mem hlt) _ _ _ _ id _ (hset _) (by omega) (by omega) (by omega) (by omega)) ?_⟩
    rintro r st' ⟨rfl, rfl⟩ _
    simp [s0, s2, s37, s38, s39]
    refine ⟨by unfold i64ok; omega, l.length - (i + 1), by omega, i + 1, rfl, by omega, by omega, ?_⟩
    rw [Tm.sizeL_take hlt, Tm.depthL_take hlt, Tm.rightL_take hlt]
    congr 2
    · omega
    · omega
    · simp [Bool.or_assoc]
  · simp [s0, s2, s37, s38, s39, Nat.not_lt.2 hge]
    refine endP_mk (.tup []) (by simp) (by simp) ⟨rfl, ?_⟩
    have hi : i = l.length := by omega
    subst hi
    rw [cutSt_set0 hfix]
    have e1 : p + 1 + (Tm.sizeL l : Int) = p + (1 + Tm.sizeL l) := by omega
    have e2 : max d (max dep (dep + (Tm.depthL l : Int))) = max d (dep + (Tm.depthL l + 1) - 1) := by omega
    simp [cntB, Tm.size, Tm.depth, Tm.right, e1, e2, Bool.or_assoc]

set_option maxRecDepth 100000 in
theorem measure_c (t : Tm) (ht : t.small) : PureCall T Try.prog 59 [t.av 24] (.agg [.sc (.int .i64 t.size), .sc (.int .i64 t.depth), .sc (.bool (!t.right))]) := by
  unfold Tm.small at ht
  refine PureCall.of_vc hT [] [(2, 1)] follows Try.call59 Try.func59 rfl (by kernel_rfl) (by simp [AV.pure, AV.pureL]) rfl ?_
  unfold Try.f59
  have h1 := Tm.depth_le_size t
  have h2 := Tm.depth_pos t
  simp
  refine vcICall_of (count_c t 0 0 1 false 1 _ (by simp [cntB]) (by omega) (by omega) (by omega) (by omega)) ?_
  rintro r st' ⟨rfl, rfl⟩ _
  simp [cntB]
  omega

set_option maxRecDepth 100000 in
theorem check_c (t : Tm) (ht : t.small) : PureCall T Try.prog 32 [t.av 24] (.sc (.int .i64 t.check)) := by
  generalize hr : t.check = r
  refine PureCall.of_vc hT [] [] follows Try.call32 Try.func32 rfl (by kernel_rfl) (by simp [AV.pure, AV.pureL]) rfl ?_
  unfold Try.f32
  simp
  refine vcCall_at (measure_c t ht) ?_
  simp
  unfold Tm.check at hr
  refine ⟨fun h => by rw [if_pos h] at hr; exact hr, fun h => ?_⟩
  rw [if_neg (by simp [h])] at hr
  refine ⟨fun h1 => by rw [if_pos (by omega)] at hr; exact hr, fun h1 => ?_⟩
  rw [if_neg (by omega)] at hr
  exact ⟨fun h2 => by rw [if_pos (by omega)] at hr; exact hr, fun h2 => by rw [if_neg (by omega)] at hr; exact hr⟩

set_option maxRecDepth 100000 in
theorem may_c (t : Tm) (ht : t.small) : PureCall T Try.prog 60 [t.av 24] (.sc (.bool (decide (t.check = 0)))) := by
  refine PureCall.of_vc hT [] [] follows Try.call60 Try.func60 rfl (by kernel_rfl) (by simp [AV.pure, AV.pureL]) rfl ?_
  unfold Try.f60
  simp
  refine vcCall_at (check_c t ht) ?_
  simp

set_option maxRecDepth 100000 in
theorem exact_c : ∀ a b : Tm, PureCall T Try.prog 14 [a.av 24, b.av 24] (.sc (.bool (decide (a = b)))) := by
  refine Tm.ind fun k n s l ih => ?_
  rintro ⟨k', n', s', l'⟩
  generalize hr : decide (Tm.mk k n s l = Tm.mk k' n' s' l') = r
  refine PureCall.of_vc hT [] [] follows Try.call14 Try.func14 rfl (by kernel_rfl) (by simp [AV.pure, AV.pureL]) rfl ?_
  unfold Try.f14
  simp [Tm.cells]
  intro hb1 hb2
  refine ⟨fun h => ?_, fun h1 h2 h3 h4 => ?_⟩
  · subst hr; simp; rintro rfl rfl rfl rfl; simp at h
  · subst h1 h2 h3
    have hb1 := hb1 rfl rfl rfl
    have hlen : l.length = l'.length := by omega
    refine vcC_loop [] (fun m σ st => ∃ i : Nat, m = l.length - i ∧ i ≤ l.length ∧ l.take i = l'.take i ∧ σ 2 = .eptr [.sc (.int .i64 k), .sc (.int .i64 n), .sc (.string s), .lst 24 (Tm.cellsL 24 l)] ∧
      σ 3 = .eptr [.sc (.int .i64 k), .sc (.int .i64 n), .sc (.string s), .lst 24 (Tm.cellsL 24 l')] ∧ σ 5 = .sc (.int .i64 i) ∧ st = []) l.length ⟨0, by simp⟩ ?_
    rintro m σ st ⟨i, rfl, hi, htk, s2, s3, s5, rfl⟩
    rcases Nat.lt_or_ge i l.length with hlt | hge
    · have hlt' : i < l'.length := hlen ▸ hlt
      simp [s2, s3, s5, hlt, hlt']
      refine fun _ _ => vcCall_at (ih l[i] (List.getElem_mem hlt) l'[i]) ?_
      simp [s2, s3, s5]
      refine ⟨fun hne => ?_, fun he => ⟨by simp [i64ok]; omega, l.length - (i + 1), by omega, i + 1, rfl, by omega, ?_, by simp⟩⟩
      · subst hr; simp; rintro rfl; exact hne rfl
      · rw [List.take_add_one, List.take_add_one, htk]; simp [hlt, hlt', he]
    · simp [s2, s3, s5, Nat.not_lt.2 hge]
      subst hr
      have : i = l.length := by omega
      subst this
      simp
      rw [List.take_of_length_le (by omega), List.take_of_length_le (by omega)] at htk
      exact fun _ _ => htk
end Go.T1
end

section
open Go Go.Ab Go.Proofs
namespace Go.T1
set_option maxRecDepth 100000 in
theorem Var_c (n : Int) : PureCall T Try.prog 66 [.sc (.int .i64 n)] ((Tm.mk 1 n ⟨#[]⟩ []).av 24) := by
  refine PureCall.of_vc hT [] [] follows Try.call66 Try.func66 rfl (by kernel_rfl) rfl rfl ?_
  unfold Try.f66
  simp [Tm.cells, Tm.cellsL]
  rfl
set_option maxRecDepth 100000 in
theorem rVar_c (n : Int) : PureCall T Try.prog 27 [.sc (.int .i64 n)] ((Tm.mk 1 n ⟨#[]⟩ []).av 24) := by
  refine PureCall.of_vc hT [] [] follows Try.call27 Try.func27 rfl (by kernel_rfl) rfl rfl ?_
  unfold Try.f27
  simp [Tm.cells, Tm.cellsL]
  rfl
set_option maxRecDepth 100000 in
theorem Int_c (n : Int) : PureCall T Try.prog 73 [.sc (.int .i64 n)] ((Tm.mk 2 n ⟨#[]⟩ []).av 24) := by
  refine PureCall.of_vc hT [] [] follows Try.call73 Try.func73 rfl (by kernel_rfl) rfl rfl ?_
  unfold Try.f73
  simp [Tm.cells, Tm.cellsL]
  rfl
set_option maxRecDepth 100000 in
theorem rInt_c (n : Int) : PureCall T Try.prog 31 [.sc (.int .i64 n)] ((Tm.mk 2 n ⟨#[]⟩ []).av 24) := by
  refine PureCall.of_vc hT [] [] follows Try.call31 Try.func31 rfl (by kernel_rfl) rfl rfl ?_
  unfold Try.f31
  simp [Tm.cells, Tm.cellsL]
  rfl
set_option maxRecDepth 100000 in
theorem Atom_c (s : ByteArray) : PureCall T Try.prog 35 [.sc (.string s)] ((Tm.mk 3 0 s []).av 24) := by
  refine PureCall.of_vc hT [] [] follows Try.call35 Try.func35 rfl (by kernel_rfl) rfl rfl ?_
  unfold Try.f35
  simp [Tm.cells, Tm.cellsL]
set_option maxRecDepth 100000 in
theorem rAtom_c (s : ByteArray) : PureCall T Try.prog 30 [.sc (.string s)] ((Tm.mk 3 0 s []).av 24) := by
  refine PureCall.of_vc hT [] [] follows Try.call30 Try.func30 rfl (by kernel_rfl) rfl rfl ?_
  unfold Try.f30
  simp [Tm.cells, Tm.cellsL]

set_option maxRecDepth 100000 in
theorem slClone_c (l : List Tm) (hl : l.length * 56 ≤ 140737488355328) : PureCall T Try.prog 69 [.lst 24 (Tm.cellsL 24 l)] (.lst 24 (Tm.cellsL 24 l)) := by
  refine PureCall.of_vc hT [] [] follows Try.call69 Try.func69 rfl (by kernel_rfl) (by simp [AV.pure, AV.pureL]) (by simp [AV.pure]) ?_
  unfold Try.f69
  simp [hl]

/-- A compound, or an atom. -/
def compT (s : ByteArray) (l : List Tm) : Tm := if l = [] then .mk 3 0 s [] else .mk 4 0 s l

set_option maxRecDepth 100000 in
theorem Comp_c (s : ByteArray) (l : List Tm) : PureCall T Try.prog 55 [.sc (.string s), .lst 24 (Tm.cellsL 24 l)] ((compT s l).av 24) := by
  unfold compT
  refine PureCall.of_vc hT [] [] follows Try.call55 Try.func55 rfl (by kernel_rfl) (by simp [AV.pure, AV.pureL]) (by simp [AV.pure]) ?_
  unfold Try.f55
  simp
  intro h1 h2
  refine ⟨fun h => ?_, fun h => ?_⟩
  · subst h
    refine vcCall_at (Atom_c s) ?_
    simp
  · rw [if_neg h]
    refine vcCall_at (slClone_c l h1) ?_
    simp [Tm.cells]

set_option maxRecDepth 100000 in
theorem rComp_c (s : ByteArray) (l : List Tm) : PureCall T Try.prog 28 [.sc (.string s), .lst 24 (Tm.cellsL 24 l)] ((compT s l).av 24) := by
  unfold compT
  refine PureCall.of_vc hT [] [] follows Try.call28 Try.func28 rfl (by kernel_rfl) (by simp [AV.pure, AV.pureL]) (by simp [AV.pure]) ?_
  unfold Try.f28
  simp
  intro h1 h2
  refine ⟨fun h => ?_, fun h => ?_⟩
  · subst h
    refine vcCall_at (rAtom_c s) ?_
    simp
  · rw [if_neg h]
    simp [Tm.cells, h1]

end Go.T1
end

section
open Go Go.Ab Go.Proofs
namespace Go.T1
set_option maxRecDepth 100000 in
theorem build_c (fn : FuncId) (fs cs : List AV) (hF : (AV.fn (.func fn) fs cs).pure = true) (f : Int → Tm) :
    ∀ t : Tm, (∀ n ∈ t.occ, PureCall T Try.prog fn (fs ++ .sc (.int .i64 n) :: cs) ((f n).av 24)) → PureCall T Try.prog 65 [t.av 24, .fn (.func fn) fs cs] ((t.sub f).av 24) := by
  refine Tm.ind fun k n s l ih => ?_
  intro hx
  refine PureCall.of_vc hT [5] [] follows Try.call65 Try.func65 rfl (by kernel_rfl) (by simp [AV.pure, AV.pureL]; simpa [AV.pure] using hF) (by simp [AV.pure]) ?_
  unfold Try.f65
  simp [Tm.cells]
  refine ⟨fun h => ?_, fun h => ?_⟩
  · refine vcCall_at (hx n (by simp [Tm.occ, h])) ?_
    simp [h, Tm.sub]
  · intro hl1 hl2
    refine vcC_loop [(24, .cell 1 3)] (fun m σ st => ∃ (i : Nat) (al : Bool), m = l.length - i ∧ i ≤ l.length ∧ σ 1 = .fn (.func fn) fs cs ∧ σ 4 = .ptr 0 0 ∧ σ 5 = .ptr 1 0 ∧ σ 23 = .lst 24 (Tm.cellsL 24 l) ∧
      σ 24 = .sc (.int .i64 l.length) ∧ σ 25 = .sc (.int .i64 i) ∧
      st = [.cells [.sc (.int .i64 0), .sc (.int .i64 0), .sc (.string .empty), .nils], .cells [.sc (.int .i64 k), .sc (.int .i64 n), .sc (.string s), .own 2 i], .row 24 i al (Tm.cellsL 24 (Tm.subL f (l.take i)))]) l.length ?_ ?_
    · simp [Tm.subL, Tm.cellsL]
      exact ⟨0, by simp, by simp, by simp, rfl, by simp [Tm.subL]⟩
    rintro m σ st ⟨i, al, rfl, hi, s1, s4, s5, s23, s24, s25, rfl⟩
    rcases Nat.lt_or_ge i l.length with hlt | hge
    · simp [s1, s4, s5, s23, s24, s25, hlt]
      refine vcCall_at (ih l[i] (List.getElem_mem hlt) fun m hm => hx m (by simp only [Tm.occ, if_neg h]; exact Tm.occ_mem (List.getElem_mem hlt) hm)) ?_
      simp [s1, s4, s5, s23, s24, s25]
      refine ⟨by rw [Nat.min_eq_left hi]; omega, by unfold i64ok; omega, l.length - (i + 1), by omega, i + 1, rfl, by omega, by omega, rfl, ?_⟩
      rw [Tm.subL_take hlt]
      simp [Tm.cellsL]
    · have hi : i = l.length := by omega
      subst hi
      simp [s1, s4, s5, s23, s24, s25]
      simp [Tm.sub, h, Tm.cells]
end Go.T1
end

section
open Go Go.Ab Go.Proofs
namespace Go.T1
set_option maxRecDepth 100000 in
theorem rright_c : ∀ t : Tm, PureCall T Try.prog 51 [t.av 24] (.sc (.bool t.right)) := by
  refine Tm.ind fun k n s l ih => ?_
  generalize hr : (Tm.mk k n s l).right = r
  simp only [Tm.right] at hr
  refine PureCall.of_vc hT [] [] follows Try.call51 Try.func51 rfl (by kernel_rfl) (by simp [AV.pure, AV.pureL]) rfl ?_
  unfold Try.f51
  simp [Tm.cells]
  refine vcCall_at (refpart_c k n s l) ?_
  simp
  refine ⟨fun h => by simp [h] at hr; exact hr.symm ▸ rfl, fun h => ?_⟩
  rw [h, Bool.true_and] at hr
  refine vcC_loop [] (fun m σ st => ∃ i : Nat, m = l.length - i ∧ i ≤ l.length ∧ Tm.rightL (l.take i) = true ∧ σ 1 = .eptr [.sc (.int .i64 k), .sc (.int .i64 n), .sc (.string s), .lst 24 (Tm.cellsL 24 l)] ∧
    σ 3 = .sc (.int .i64 i) ∧ st = []) l.length ⟨0, by simp [Tm.rightL]⟩ ?_
  rintro m σ st ⟨i, rfl, hi, htk, s1, s3, rfl⟩
  rcases Nat.lt_or_ge i l.length with hlt | hge
  · simp [s1, s3, hlt]
    refine fun hb1 hb2 => vcCall_at (ih l[i] (List.getElem_mem hlt)) ?_
    simp [s1, s3]
    have h2 : Tm.rightL (l.take (i + 1)) = l[i].right := by rw [Tm.rightL_take hlt, htk, Bool.true_and]
    refine ⟨fun hf => ?_, fun ht => ⟨by unfold i64ok; omega, l.length - (i + 1), by omega, i + 1, rfl, by omega, by rw [h2]; exact ht, by omega⟩⟩
    rw [← hr, ← List.take_append_drop (i + 1) l, Tm.rightL_append, h2, hf]; rfl
  · have hi : i = l.length := by omega
    subst hi
    simp [s1, s3]
    rw [List.take_length] at htk
    rw [← hr, htk]
    exact fun _ _ => rfl

set_option maxRecDepth 100000 in
theorem rDepth_c : ∀ t : Tm, t.small → PureCall T Try.prog 52 [t.av 24] (.sc (.int .i64 t.depth)) := by
  refine Tm.ind fun k n s l ih => ?_
  intro hs
  have hsm : 1 + Tm.sizeL l ≤ 900000000 := hs
  have hds := Tm.depthL_le_sizeL l
  refine PureCall.of_vc hT [] [] follows Try.call52 Try.func52 rfl (by kernel_rfl) (by simp [AV.pure, AV.pureL]) rfl ?_
  unfold Try.f52
  simp [Tm.cells]
  refine vcC_loop [] (fun m σ st => ∃ i : Nat, m = l.length - i ∧ i ≤ l.length ∧ σ 1 = .eptr [.sc (.int .i64 k), .sc (.int .i64 n), .sc (.string s), .lst 24 (Tm.cellsL 24 l)] ∧
    σ 4 = .sc (.int .i64 i) ∧ σ 3 = .sc (.int .i64 (Tm.depthL (l.take i))) ∧ st = []) l.length ⟨0, by simp [Tm.depthL]⟩ ?_
  rintro m σ st ⟨i, rfl, hi, s1, s4, s3, rfl⟩
  rcases Nat.lt_or_ge i l.length with hlt | hge
  · have h1 := Tm.size_get hlt
    simp [s1, s3, s4, hlt]
    refine fun hb1 hb2 => vcCall_at (ih l[i] (List.getElem_mem hlt) (by unfold Tm.small; omega)) ?_
    simp [s1, s3, s4]
    have h2 := Tm.depthL_take hlt
    exact ⟨fun hf => ⟨by unfold i64ok; omega, l.length - (i + 1), by omega, i + 1, rfl, by omega, by omega, by omega⟩, fun hf => ⟨by unfold i64ok; omega, l.length - (i + 1), by omega, i + 1, rfl, by omega, by omega, by omega⟩⟩
  · have hi : i = l.length := by omega
    subst hi
    simp [s1, s3, s4, Tm.depth]
    intro _ _
    unfold i64ok; omega

set_option maxRecDepth 100000 in
theorem rSize_c : ∀ t : Tm, t.small → PureCall T Try.prog 22 [t.av 24] (.sc (.int .i64 t.size)) := by
  refine Tm.ind fun k n s l ih => ?_
  intro hs
  have hsm : 1 + Tm.sizeL l ≤ 900000000 := hs
  refine PureCall.of_vc hT [] [] follows Try.call22 Try.func22 rfl (by kernel_rfl) (by simp [AV.pure, AV.pureL]) rfl ?_
  unfold Try.f22
  simp [Tm.cells]
  refine vcC_loop [] (fun m σ st => ∃ i : Nat, m = l.length - i ∧ i ≤ l.length ∧ σ 1 = .eptr [.sc (.int .i64 k), .sc (.int .i64 n), .sc (.string s), .lst 24 (Tm.cellsL 24 l)] ∧
    σ 4 = .sc (.int .i64 i) ∧ σ 3 = .sc (.int .i64 (1 + Tm.sizeL (l.take i))) ∧ st = []) l.length ⟨0, by simp [Tm.sizeL]⟩ ?_
  rintro m σ st ⟨i, rfl, hi, s1, s4, s3, rfl⟩
  rcases Nat.lt_or_ge i l.length with hlt | hge
  · have h1 := Tm.size_get hlt
    simp [s1, s3, s4, hlt]
    refine fun hb1 hb2 => vcCall_at (ih l[i] (List.getElem_mem hlt) (by unfold Tm.small; omega)) ?_
    simp [s1, s3, s4]
    have h2 := Tm.sizeL_take hlt
    exact ⟨by unfold i64ok; omega, by unfold i64ok; omega, l.length - (i + 1), by omega, i + 1, rfl, by omega, by omega, by omega⟩
  · have hi : i = l.length := by omega
    subst hi
    simp [s1, s3, s4, Tm.size]

set_option maxRecDepth 100000 in
theorem rCheck_c (t : Tm) (ht : t.small) : PureCall T Try.prog 19 [t.av 24] (.sc (.int .i64 t.check)) := by
  generalize hr : t.check = r
  unfold Tm.check at hr
  refine PureCall.of_vc hT [] [] follows Try.call19 Try.func19 rfl (by kernel_rfl) (by simp [AV.pure, AV.pureL]) rfl ?_
  unfold Try.f19
  simp
  refine vcCall_at (rright_c t) ?_
  simp
  refine ⟨fun h => by rw [if_pos h] at hr; exact hr, fun h => ?_⟩
  rw [if_neg (by simp [h])] at hr
  refine vcCall_at (rDepth_c t ht) ?_
  simp
  refine ⟨fun h1 => by rw [if_pos (by omega)] at hr; exact hr, fun h1 => ?_⟩
  rw [if_neg (by omega)] at hr
  refine vcCall_at (rSize_c t ht) ?_
  simp
  exact ⟨fun h2 => by rw [if_pos (by omega)] at hr; exact hr, fun h2 => by rw [if_neg (by omega)] at hr; exact hr⟩
end Go.T1
end

section
open Go Go.Ab Go.Proofs
namespace Go.T1
set_option maxRecDepth 100000 in
theorem Clone_c (t : Tm) (ht : t.small) : PureCall T Try.prog 47 [t.av 24] ((if t.check = 0 then t else Tm.zero).av 24) := by
  refine PureCall.of_vc hT [] [] follows Try.call47 Try.func47 rfl (by kernel_rfl) (by simp [AV.pure, AV.pureL]) (by simp [AV.pure]) ?_
  unfold Try.f47
  simp
  refine vcCall_at (may_c t ht) ?_
  simp
  refine ⟨fun h => ?_, fun h => ?_⟩
  · rw [if_neg h]; simp [Tm.zero, Tm.cells, Tm.cellsL]; rfl
  · refine vcCall_at (build_c 66 [] [] rfl Tm.var t fun n _ => Var_c n) ?_
    simp [h, Tm.sub_var t (Tm.right_of_check h)]

/-- What a variable is replaced by. -/
def repF (l : List Tm) (n : Int) : Tm := if h : n.toNat < l.length then l[n.toNat] else Tm.var n

end Go.T1
end

section
open Go Go.Ab Go.Proofs
namespace Go.T1
/-- What Replace hands back. -/
def replT (t : Tm) (l : List Tm) : Tm :=
  if t.check = 0 ∧ (∀ x ∈ l, x.check = 0) ∧ (t.sub (repF l)).check = 0 then t.sub (repF l) else Tm.zero

theorem rightL_mem {l : List Tm} (h : Tm.rightL l = true) : ∀ x ∈ l, x.right = true := by
  induction l with
  | nil => intro x hx; cases hx
  | cons y ys ih =>
    simp only [Tm.rightL, Bool.and_eq_true] at h
    intro x hx
    rcases List.mem_cons.1 hx with rfl | hx
    · exact h.1
    · exact ih h.2 x hx

end Go.T1
end

section
open Go Go.Ab Go.Proofs
namespace Go.T1
@[simp] theorem ty74 : T 74 = some ⟨1, 24, .slice 3, [], some (.slice none 0 0)⟩ := by kernel_rfl
theorem set_same {st : St} {id : Nat} {b : Blk} (h : st[id]? = some b) : st.set id b = st := by
  obtain ⟨h1, h2⟩ := List.getElem?_eq_some_iff.1 h
  rw [← h2]; exact List.set_getElem_self h1

/-- The row of numbers that is left. -/
def rowIs (st : St) (id : Nat) (out : List Int) (r : AV) (st' : St) : Prop := ∃ g' al', (out ≠ [] → al' = true) ∧ r = .own id g' ∧ st' = st.set id (.row 3 g' al' (intsL out))

set_option maxRecDepth 100000 in
theorem rvars_c : ∀ (t : Tm) (out : List Int) (id g : Nat) (al : Bool) (st : St), t.size + out.length ≤ 1000000000 → st[id]? = some (.row 3 g al (intsL out)) → (out ≠ [] → al = true) →
    ICall T Try.prog 74 [t.av 24, .own id g] st (rowIs st id (t.vars out)) := by
  refine Tm.ind fun k n s l ih => ?_
  intro out id g al st hsz hid hal
  have hidl : id < st.length := (List.getElem?_eq_some_iff.1 hid).1
  have hset : ∀ b, (st.set id b)[id]? = some b := fun b => by simp [hidl]
  have hidl' := hidl
  clear hidl
  simp only [Tm.size] at hsz
  refine ICall.of_vc hT [] [(11, 6)] follows Try.call74 Try.func74 rfl (by kernel_rfl) fun hfix => ?_
  unfold Try.f74
  simp [Tm.cells, hid]
  refine ⟨fun h => ?_, fun h => ?_⟩
  · refine vcC_loop [] (fun m σ st' => ∃ i : Nat, m = out.length - i ∧ i ≤ out.length ∧ n ∉ out.take i ∧ σ 1 = .own id g ∧ σ 2 = .eptr [.sc (.int .i64 k), .sc (.int .i64 n), .sc (.string s), .lst 24 (Tm.cellsL 24 l)] ∧
      σ 5 = .sc (.int .i64 i) ∧ st' = st) out.length ⟨0, by simp⟩ ?_
    rintro m σ st' ⟨i, rfl, hi, htk, s1, s2, s5, rfl⟩
    rcases Nat.lt_or_ge i out.length with hlt | hge
    · have hne : out ≠ [] := fun e => by subst e; simp at hlt
      simp [s1, s2, s5, hid, hlt]
      refine fun hb1 hb2 => ⟨hal hne, fun he => ?_, fun he => ⟨by unfold i64ok; omega, out.length - (i + 1), by omega, i + 1, rfl, by omega, ?_, by omega⟩⟩
      · refine endP_mk (.own id g) (by simp) (by simp [hidl']) ⟨g, al, fun _ => hal hne, rfl, ?_⟩
        have : Tm.vars (.mk k n s l) out = out := by simp only [Tm.vars, if_pos h, addV]; rw [if_pos (he ▸ List.getElem_mem hlt)]
        rw [cutSt_same hfix, this, set_same hid]
      · intro hm
        have e0 : out.take (i + 1) = out.take i ++ [out[i]] := by rw [List.take_add_one]; simp [hlt]
        rw [e0, List.mem_append] at hm
        rcases hm with hm | hm
        · exact htk hm
        · simp at hm; exact he hm.symm
    · have hi : i = out.length := by omega
      subst hi
      rw [List.take_length] at htk
      simp [s1, s2, s5, hid]
      refine fun hb1 hb2 => ⟨by omega, endP_mk (.own id (g + 1)) (by simp) (by simp [hidl']) ⟨g + 1, true, fun _ => rfl, rfl, ?_⟩⟩
      have : Tm.vars (.mk k n s l) out = out ++ [n] := by simp only [Tm.vars, if_pos h, addV]; rw [if_neg htk]
      have e1 : intsL out ++ [[AV.sc (.int .i64 n)]] = intsL (out ++ [n]) := by simp [intsL]
      rw [cutSt_set0 hfix, this, e1]
      simp only [Blk.cut, intsL_cut]
  · have hv : Tm.vars (.mk k n s l) out = Tm.varsL l out := by simp only [Tm.vars, if_neg h]
    refine vcC_loop [] (fun m σ st' => ∃ i : Nat, m = l.length - i ∧ i ≤ l.length ∧ rowIs st id (Tm.varsL (l.take i) out) (σ 1) st' ∧ σ 2 = .eptr [.sc (.int .i64 k), .sc (.int .i64 n), .sc (.string s), .lst 24 (Tm.cellsL 24 l)] ∧
      σ 6 = .sc (.int .i64 i)) l.length ⟨0, by simp, by simp, ⟨g, al, by simpa [Tm.varsL] using hal, by simp, by simp [Tm.varsL, set_same hid]⟩, by simp⟩ ?_
    rintro m σ st' ⟨i, rfl, hi, ⟨g', al', hal', s1, rfl⟩, s2, s6⟩
    rcases Nat.lt_or_ge i l.length with hlt | hge
    · have h1 := Tm.size_get hlt
      have h2 := Tm.varsL_len (l.take i) out
      simp [s1, s2, s6, hset, hlt]
      refine fun hb1 hb2 => vcICall_of (ih l[i] (List.getElem_mem hlt) _ id g' al' _ (by omega) (hset _) hal') ?_
      rintro r st' ⟨g2, al2, hal2, rfl, rfl⟩ _
      simp [s1, s2, s6, hset]
      refine ⟨by unfold i64ok; omega, l.length - (i + 1), by omega, i + 1, rfl, by omega, ?_, by omega⟩
      rw [Tm.varsL_take hlt]
      exact ⟨g2, al2, hal2, rfl, rfl⟩
    · have hi : i = l.length := by omega
      subst hi
      rw [List.take_length] at hal'
      simp [s1, s2, s6, hset]
      refine fun hb1 hb2 => endP_mk (.own id g') (by simp) (by simp [hidl']) ⟨g', al', ?_, rfl, ?_⟩
      · rw [hv]; exact hal'
      · rw [cutSt_set0 hfix, hv]; simp only [Blk.cut, intsL_cut]

set_option maxRecDepth 100000 in
theorem rVars_c (t : Tm) (ht : t.small) : PureCall T Try.prog 63 [t.av 24] (.lst 3 (intsL (t.vars []))) := by
  have hsz : t.size + 0 ≤ 1000000000 := by unfold Tm.small at ht; omega
  have h0 := ICall.nils (st := []) (pre := [t.av 24]) (post := []) 3 (rvars_c t [] 0 0 false [.row 3 0 false []] hsz rfl (by simp))
  have h1 : PureCall T Try.prog 74 [t.av 24, .nils] (.lst 3 (intsL (t.vars []))) := by
    refine PureCall.of_ICall h0 (by simp [AV.pure, AV.pureL]) (by simp [AV.pure]) ?_
    rintro r st' ⟨r0, st0, ⟨g', al', _, rfl, rfl⟩, rfl, rfl⟩
    simp
  refine PureCall.of_vc hT [] [] follows Try.call63 Try.func63 rfl (by kernel_rfl) (by simp [AV.pure, AV.pureL]) (by simp [AV.pure]) ?_
  unfold Try.f63
  simp
  refine vcCall_at h1 ?_
  simp

set_option maxRecDepth 100000 in
theorem place_c (l : List Int) (n : Int) : PureCall T Try.prog 75 [.lst 3 (intsL l), .sc (.int .i64 n)] (.sc (.int .i64 (placeI l n 0))) := by
  generalize hr : placeI l n 0 = r
  refine PureCall.of_vc hT [] [] follows Try.call75 Try.func75 rfl (by kernel_rfl) (by simp [AV.pure, AV.pureL]) (by simp [AV.pure]) ?_
  unfold Try.f75
  simp
  refine vcC_loop [] (fun m σ st => ∃ i : Nat, m = l.length - i ∧ i ≤ l.length ∧ placeI (l.drop i) n i = r ∧ σ 0 = .lst 3 (intsL l) ∧ σ 1 = .sc (.int .i64 n) ∧ σ 5 = .sc (.int .i64 i)) l.length ⟨0, by simp [hr]⟩ ?_
  rintro m σ st ⟨i, rfl, hi, htk, s0, s1, s5⟩
  rcases Nat.lt_or_ge i l.length with hlt | hge
  · simp [s0, s1, s5, hlt]
    rw [List.drop_eq_getElem_cons hlt] at htk
    simp only [placeI] at htk
    refine fun _ _ => ⟨fun hp => ?_, fun hp => ⟨by unfold i64ok; omega, l.length - (i + 1), by omega, i + 1, rfl, by omega, ?_, by omega⟩⟩
    · rw [if_pos hp] at htk; exact htk
    · rw [if_neg hp] at htk; exact htk
  · have hi : i = l.length := by omega
    subst hi
    simp [s0, s1, s5]
    rw [List.drop_length] at htk
    exact fun _ _ => htk
end Go.T1
end

section
open Go Go.Ab Go.Proofs
namespace Go.T1
set_option maxRecDepth 100000 in
theorem renamed_c (w : List Int) : ∀ t : Tm, PureCall T Try.prog 64 [t.av 24, .lst 3 (intsL w)] ((t.sub fun n => Tm.var (placeI w n 0)).av 24) := by
  refine Tm.ind fun k n s l ih => ?_
  refine PureCall.of_vc hT [5] [] follows Try.call64 Try.func64 rfl (by kernel_rfl) (by simp [AV.pure, AV.pureL]) (by simp [AV.pure]) ?_
  unfold Try.f64
  simp [Tm.cells]
  refine ⟨fun h => ?_, fun h => ?_⟩
  · refine vcCall_at (place_c w n) ?_
    simp
    refine vcCall_at (rVar_c _) ?_
    simp [Tm.sub, h, Tm.var]
  · refine vcC_loop [(24, .cell 1 3)] (fun m σ st => ∃ (i : Nat) (al : Bool), m = l.length - i ∧ i ≤ l.length ∧ σ 2 = .eptr [.sc (.int .i64 k), .sc (.int .i64 n), .sc (.string s), .lst 24 (Tm.cellsL 24 l)] ∧
      σ 1 = .lst 3 (intsL w) ∧ σ 4 = .ptr 0 0 ∧ σ 5 = .ptr 1 0 ∧ σ 6 = .sc (.int .i64 i) ∧
      st = [.cells [.sc (.int .i64 0), .sc (.int .i64 0), .sc (.string .empty), .nils], .cells [.sc (.int .i64 k), .sc (.int .i64 n), .sc (.string s), .own 2 i], .row 24 i al (Tm.cellsL 24 (Tm.subL (fun n => Tm.var (placeI w n 0)) (l.take i)))]) l.length ?_ ?_
    · simp [Tm.subL, Tm.cellsL]
      exact ⟨0, by simp, by simp, by simp, rfl, by simp [Tm.subL]⟩
    rintro m σ st ⟨i, al, rfl, hi, s2, s1, s4, s5, s6, rfl⟩
    rcases Nat.lt_or_ge i l.length with hlt | hge
    · simp [s2, s1, s4, s5, s6, hlt]
      refine fun hb1 hb2 => vcCall_at (ih l[i] (List.getElem_mem hlt)) ?_
      simp [s2, s1, s4, s5, s6]
      refine ⟨by rw [Nat.min_eq_left hi]; omega, by unfold i64ok; omega, l.length - (i + 1), by omega, i + 1, rfl, by omega, by omega, rfl, ?_⟩
      rw [Tm.subL_take hlt]
      simp [Tm.cellsL]
    · have hi : i = l.length := by omega
      subst hi
      simp [s2, s1, s4, s5, s6]
      simp [Tm.sub, h, Tm.cells]

/-- A term with its variables numbered. -/
def renT (t : Tm) : Tm := t.sub fun n => Tm.var (placeI (t.vars []) n 0)

set_option maxRecDepth 100000 in
theorem rRename_c (t : Tm) (ht : t.small) : PureCall T Try.prog 40 [t.av 24] (.tup [(renT t).av 24, .sc (.int .i64 (t.vars []).length)]) := by
  refine PureCall.of_vc hT [] [] follows Try.call40 Try.func40 rfl (by kernel_rfl) (by simp [AV.pure, AV.pureL]) (by simp [AV.pure, AV.pureL]) ?_
  unfold Try.f40
  simp
  refine vcCall_at (rVars_c t ht) ?_
  simp
  refine vcCall_at (renamed_c _ t) ?_
  simp [renT]
end Go.T1
end

section
open Go Go.Ab Go.Proofs
namespace Go.T1
@[simp] theorem ty86 : T 86 = some ⟨1, 8, .map 3 3, [], some (.map none)⟩ := by kernel_rfl
@[simp] theorem ty88 : T 88 = some ⟨2, 32, .strct, [(0,1),(1,1)], some (.agg #[.map none, .slice none 0 0])⟩ := by kernel_rfl
/-- The namer's state: blocks 1 to 3. -/
def namSt (b0 : Blk) (L : List Int) (g : Nat) (al : Bool) (ex : St) : St := b0 :: .map (mapOf L 0) :: .cells [.mp 1, .own 3 g] :: .row 3 g al (intsL L) :: ex
/-- What is left of it. -/
def namIs (b0 : Blk) (L : List Int) (ex : St) (st' : St) : Prop := ∃ g al, (L ≠ [] → al = true) ∧ st' = namSt b0 L g al ex

@[simp] theorem mapOf_cut (N : Nat) (S : St) : ∀ (L : List Int) (i : Nat), (mapOf L i).map (fun p => (p.1, p.2.cut N S)) = mapOf L i
  | [], _ => rfl
  | x :: xs, i => by simp only [mapOf, List.map_cons, mapOf_cut N S xs, AV.cut]
theorem cut_cells (N : Nat) (S : St) (cs : List AV) : Blk.cut N S (.cells cs) = .cells (AV.cutL N S cs) := rfl
theorem cut_row (N : Nat) (S : St) (e g : Nat) (al : Bool) (l : List (List AV)) : Blk.cut N S (.row e g al l) = .row e g al (AV.cutM N S l) := rfl
theorem cut_map (N : Nat) (S : St) (es : List (Value × AV)) : Blk.cut N S (.map es) = .map (es.map fun p => (p.1, p.2.cut N S)) := rfl
theorem intsL_snoc (L : List Int) (n : Int) : intsL L ++ [[.sc (.int .i64 n)]] = intsL (L ++ [n]) := by simp [intsL]
theorem namSt_cut {b0 b1 b2 b3 : Blk} {ex : St} (h : Fix (b0 :: b1 :: b2 :: b3 :: ex)) (L : List Int) (g : Nat) (al : Bool) (X : St) : cutSt (ex.length + 4) (namSt b0 L g al ex ++ X) = namSt b0 L g al ex := by
  unfold cutSt
  rw [List.take_left' (by simp [namSt])]
  generalize namSt b0 L g al ex ++ X = S
  have h' := h (ex.length + 4) S (by simp)
  simp only [List.map_cons, List.cons.injEq] at h'
  simp only [namSt, List.map_cons, h'.1, h'.2.2.2.2, cut_cells, cut_row, cut_map, AV.cutL, AV.cut, mapOf_cut, intsL_cut]
  simp

set_option maxRecDepth 100000 in
theorem namer_c (n : Int) (b0 : Blk) (L : List Int) (g : Nat) (al : Bool) (ex : St) (hL : L.length ≤ 1000000000) (hal : L ≠ [] → al = true) :
    ICall T Try.prog 72 [.ptr 2 0, .sc (.int .i64 n)] (namSt b0 L g al ex) (fun r st' => r = (Tm.var (placeI (addV L n) n 0)).av 24 ∧ namIs b0 (addV L n) ex st') := by
  refine ICall.of_vc hT [] [] follows Try.call72 Try.func72 rfl (by kernel_rfl) fun hfix => ?_
  unfold Try.f72
  by_cases hn : n ∈ L
  · have h1 : addV L n = L := by simp [addV, hn]
    rw [h1]
    simp [namSt, mapOf_get, hn]
    refine vcCall_at (Var_c _) ?_
    simp
    refine endP_mk ((Tm.var (placeI L n 0)).av 24) (by simp) (by simp [Tm.var]) ⟨rfl, g, al, hal, ?_⟩
    exact cutSt_keep hfix [_]
  · have h1 : addV L n = L ++ [n] := by simp [addV, hn]
    have h2 := placeI_last L n 0 hn
    have h3 := mapOf_put L n 0 hn
    simp only [Nat.zero_add] at h2 h3
    rw [h1, h2]
    simp [namSt, mapOf_get, hn]
    intro hb1 hb2
    refine ⟨by omega, vcCall_at (Var_c _) ?_⟩
    simp [h3]
    refine endP_mk ((Tm.var L.length).av 24) (by simp) (by simp [Tm.var]) ⟨rfl, g + 1, true, fun _ => rfl, ?_⟩
    have e := namSt_cut hfix (L ++ [n]) (g + 1) true
    rw [intsL_snoc]
    exact e _
end Go.T1
end

section
open Go Go.Ab Go.Proofs
namespace Go.T1
/-- Some state of a namer's. -/
def NS (b0 : Blk) (ex : St) (L : List Int) (st : St) : Prop := ∃ g al, (L ≠ [] → al = true) ∧ st = namSt b0 L g al ex
theorem NS.len {b0 : Blk} {ex : St} {L : List Int} {st : St} (h : NS b0 ex L st) : st.length = ex.length + 4 := by
  obtain ⟨g, al, _, rfl⟩ := h; simp [namSt]
theorem NS.app {b0 : Blk} {ex : St} {L : List Int} {st : St} (h : NS b0 ex L st) (l : St) : NS b0 (ex ++ l) L (st ++ l) := by
  obtain ⟨g, al, h1, rfl⟩ := h; exact ⟨g, al, h1, by simp [namSt]⟩
theorem NS.unapp {b0 : Blk} {ex l : St} {L : List Int} {st : St} (h : NS b0 (ex ++ l) L st) : ∃ X, NS b0 ex L X ∧ st = X ++ l := by
  obtain ⟨g, al, h1, rfl⟩ := h; exact ⟨namSt b0 L g al ex, ⟨g, al, h1, rfl⟩, by simp [namSt]⟩
theorem NS.cut {b0 : Blk} {ex : St} {L0 L : List Int} {st0 st : St} (hf : Fix st0) (h0 : NS b0 ex L0 st0) (h : NS b0 ex L st) (l : St) : cutSt (ex.length + 4) (st ++ l) = st := by
  obtain ⟨g0, al0, _, rfl⟩ := h0
  obtain ⟨g, al, _, rfl⟩ := h
  exact namSt_cut hf L g al l

/-- The loop of build: the frame behind a namer's state. -/
def bFr (N : Nat) (W : List Int) (k n : Int) (s : ByteArray) (i : Nat) (al : Bool) (l : List Tm) : St :=
  [.cells [.sc (.int .i64 0), .sc (.int .i64 0), .sc (.string .empty), .nils], .cells [.sc (.int .i64 k), .sc (.int .i64 n), .sc (.string s), .own (N + 2) i],
   .row 24 i al (Tm.cellsL 24 (Tm.subL (fun n => Tm.var (placeI W n 0)) l))]
def bInv (b0 : Blk) (ex : St) (N : Nat) (L : List Int) (k n : Int) (s : ByteArray) (l : List Tm) (i : Nat) (st' : St) : Prop :=
  ∃ al X, NS b0 ex (Tm.varsL (l.take i) L) X ∧ st' = X ++ bFr N (Tm.varsL (l.take i) L) k n s i al (l.take i)
def bCall (b0 : Blk) (ex : St) (N : Nat) (L : List Int) (k n : Int) (s : ByteArray) (l : List Tm) (t : Tm) (i : Nat) (al : Bool) (r : AV) (st' : St) : Prop :=
  r = (numT (t.vars (Tm.varsL (l.take i) L)) t).av 24 ∧ ∃ X, NS b0 ex (t.vars (Tm.varsL (l.take i) L)) X ∧ st' = X ++ bFr N (Tm.varsL (l.take i) L) k n s i al (l.take i)
theorem namerN_c (n : Int) (b0 : Blk) (ex : St) (L : List Int) (st : St) (hL : L.length ≤ 1000000000) (h : NS b0 ex L st) :
    ICall T Try.prog 72 [.ptr 2 0, .sc (.int .i64 n)] st (fun r st' => r = (Tm.var (placeI (addV L n) n 0)).av 24 ∧ NS b0 ex (addV L n) st') := by
  obtain ⟨g, al, hal, rfl⟩ := h
  exact namer_c n b0 L g al ex hL hal

set_option maxRecDepth 100000 in
theorem buildN_c (b0 : Blk) : ∀ (t : Tm) (ex : St) (L : List Int) (st : St), t.size + L.length ≤ 1000000000 → NS b0 ex L st →
    ICall T Try.prog 65 [t.av 24, .fn (.func 72) [.ptr 2 0] []] st (fun r st' => r = (numT (t.vars L) t).av 24 ∧ NS b0 ex (t.vars L) st') := by
  refine Tm.ind fun k n s l ih => ?_
  intro ex L st hsz hst
  simp only [Tm.size] at hsz
  obtain ⟨N, hN⟩ : ∃ N, N = ex.length + 4 := ⟨_, rfl⟩
  have hX := hst.len
  rw [← hN] at hX
  refine ICall.of_vc hT [5] [(2,3),(7,4)] follows Try.call65 Try.func65 rfl (by kernel_rfl) fun hfix => ?_
  unfold Try.f65
  simp [Tm.cells, hX, ap0 hX, ap1 hX, as0 hX, as1 hX, Nat.add_assoc]
  refine ⟨fun h => ?_, fun h => ?_⟩
  · refine vcICall_of (namerN_c n b0 _ L _ (by omega) (hst.app _)) ?_
    rintro r st' ⟨rfl, h2⟩ _
    obtain ⟨X, h3, rfl⟩ := h2.unapp
    have hX' := h3.len
    rw [← hN] at hX'
    simp [ap0 hX', as0 hX', hX']
    have e : Tm.vars (.mk k n s l) L = addV L n := by simp only [Tm.vars, if_pos h]
    rw [e]
    refine endP_mk (numT (addV L n) (.mk k n s l) |>.av 24) ?_ ?_ ⟨rfl, ?_⟩
    · simp [ap0 hX']
    · simp [ap0 hX', numT, Tm.sub, h, Tm.var]
    · rw [hN, NS.cut hfix hst h3]; exact h3
  · intro hl1 hl2
    refine vcC_loop [(24, .cell (N + 1) 3)] (fun m σ st' => ∃ (i : Nat), m = l.length - i ∧ i ≤ l.length ∧ bInv b0 ex N L k n s l i st' ∧ σ 1 = .fn (.func 72) [.ptr 2 0] [] ∧ σ 4 = .ptr N 0 ∧ σ 5 = .ptr (N + 1) 0 ∧ σ 23 = .lst 24 (Tm.cellsL 24 l) ∧
      σ 24 = .sc (.int .i64 l.length) ∧ σ 25 = .sc (.int .i64 i)) l.length ?_ ?_
    · simp [hX, ap0 hX, ap1 hX, as0 hX, as1 hX, Nat.add_assoc]
      exact ⟨0, by simp, by simp, ⟨false, st, by simpa [Tm.varsL] using hst, by simp [bFr, Tm.subL, Tm.cellsL]⟩, by simp⟩
    rintro m σ st' ⟨i, rfl, hi, ⟨al, X, hNX, rfl⟩, s1, s4, s5, s23, s24, s25⟩
    have hX' := hNX.len
    rw [← hN] at hX'
    rcases Nat.lt_or_ge i l.length with hlt | hge
    · have h1 := Tm.size_get hlt
      have h2 := Tm.varsL_len (l.take i) L
      simp [s1, s4, s5, s23, s24, s25, hlt, hX', ap0 hX', ap1 hX', ap2 hX', bFr]
      refine ⟨bCall b0 ex N L k n s l l[i] i al, ?_⟩
      simp (decide := true) [s1, s4, s5, s23, s24, s25, hlt, hX', ap0 hX', ap1 hX', ap2 hX']
      refine ⟨?_, ?_⟩
      · rintro r st' ⟨rfl, X2, hX2, rfl⟩
        have hX2' := hX2.len
        rw [← hN] at hX2'
        simp [bFr, s1, s4, s5, hX2', ap1 hX2']
        done
      simp (decide := true) [s1, s4, s5, s23, s24, s25, hlt, hX', ap0 hX', ap1 hX', ap2 hX']
      refine ⟨?_, ?_⟩
      · rintro r st' ⟨rfl, X2, hX2, rfl⟩
        have hX2' := hX2.len
        rw [← hN] at hX2'
        simp [bFr, s1, s4, s5, hX2', ap1 hX2']
        done
      simp (decide := true) [s1, s4, s5, s23, s24, s25, hlt, hX', ap0 hX', ap1 hX', ap2 hX', vcThen]
      refine ⟨?_, ?_⟩
      · refine (ih l[i] (List.getElem_mem hlt) _ (Tm.varsL (l.take i) L) _ (by omega) (hNX.app _)).mono ?_
        rintro r st' ⟨rfl, h4⟩
        obtain ⟨X2, h5, rfl⟩ := h4.unapp
        exact ⟨rfl, X2, h5, rfl⟩
      rintro r st' ⟨rfl, X2, hX2, rfl⟩ _
      have hX2' := hX2.len
      rw [← hN] at hX2'
      simp [bFr, s1, s4, s5, s23, s24, s25, hX2', ap1 hX2', ap2 hX2', as1 hX2', as2 hX2']
      refine ⟨by rw [Nat.min_eq_left hi]; omega, by unfold i64ok; omega, l.length - (i + 1), by omega, i + 1, rfl, by omega, ?_, by omega⟩
      refine ⟨true, X2, by rw [Tm.varsL_take hlt]; exact hX2, ?_⟩
      unfold bFr
      rw [numL_take hlt]
      simp [Tm.cellsL]
    · have hi : i = l.length := by omega
      subst hi
      simp [s1, s4, s5, s23, s24, s25, hX', ap0 hX', ap1 hX', ap2 hX', as0 hX', bFr]
      rw [List.take_length] at hNX
      have e : Tm.vars (.mk k n s l) L = Tm.varsL l L := by simp only [Tm.vars, if_neg h]
      rw [e]
      refine endP_mk (numT (Tm.varsL l L) (.mk k n s l) |>.av 24) ?_ ?_ ⟨rfl, ?_⟩
      · simp [s4, ap0 hX']
      · simp [s4, ap0 hX', numT, Tm.sub, h, ap2 hX', Tm.cells]; rw [if_neg (by omega)]; simp
      · rw [hN, NS.cut hfix hst hNX]; exact hNX
end Go.T1
end

section
open Go Go.Ab Go.Proofs
namespace Go.T1

set_option maxRecDepth 100000 in
theorem rename_c (t : Tm) (ht : t.small) : PureCall T Try.prog 61 [t.av 24] (.tup [(numT (t.vars []) t).av 24, .lst 3 (intsL (t.vars []))]) := by
  have h : ICall T Try.prog 61 [t.av 24] [] (fun r _ => r = .tup [(numT (t.vars []) t).av 24, .lst 3 (intsL (t.vars []))]) := by
    refine ICall.of_vc hT [8] [(2,3),(3,5)] follows Try.call61 Try.func61 rfl (by kernel_rfl) fun hfix => ?_
    unfold Try.f61
    simp [Tm.cells]
    refine vcICall_of (ICall.adoptC 3 2 1 [.mp 1, .nils] rfl rfl (buildN_c _ t [] [] _ (by unfold Tm.small at ht; simp; omega) ⟨0, false, by simp, rfl⟩)) ?_
    rintro r st' ⟨rfl, g, al, hal, rfl⟩ _
    simp [namSt]
    refine ⟨fun _ st' => st' = namSt (.cells (Tm.cells 24 (numT (t.vars []) t))) (t.vars []) g al [], ?_⟩
    simp (decide := true)
    repeat (refine ⟨(by rintro r st' rfl; simp [namSt]), ?_⟩; simp (decide := true))
    simp (decide := true) [vcThen, vcI]
    exact ⟨rfl, fun _ => endP_mk _ (by simp [namSt]) (by simp [namSt]) rfl⟩
  exact PureCall.of_ICall h (by simp [AV.pure, AV.pureL]) (by simp [AV.pure, AV.pureL]) (by rintro r st' rfl; simp)
end Go.T1
end

section
open Go Go.Ab Go.Proofs
namespace Go.T1
set_option maxRecDepth 100000 in
theorem Rename_c (t : Tm) (ht : t.small) : PureCall T Try.prog 34 [t.av 24] (.tup [(if t.check = 0 then renT t else Tm.zero).av 24, .sc (.int .i64 (if t.check = 0 then (t.vars []).length else 0))]) := by
  refine PureCall.of_vc hT [] [] follows Try.call34 Try.func34 rfl (by kernel_rfl) (by simp [AV.pure, AV.pureL]) (by simp [AV.pure, AV.pureL]) ?_
  unfold Try.f34
  simp [Tm.cells]
  refine vcCall_at (may_c t ht) ?_
  simp
  refine ⟨fun h => ?_, fun h => ?_⟩
  · simp [h, Tm.zero, Tm.cells]; rfl
  · refine vcCall_at (rename_c t ht) ?_
    simp [h, renT, numT]

end Go.T1
end

section
open Go Go.Ab Go.Proofs
namespace Go.T1
set_option maxRecDepth 100000 in
theorem large_c : ∀ (t : Tm) (d n : Int) (id : Nat) (st : St), t.nice → st[id]? = some (.cells [.sc (.int .i64 n)]) → 0 ≤ n → n ≤ 6000 → 0 ≤ d → d ≤ 301 →
    ICall T Try.prog 29 [t.av 24, .sc (.int .i64 d), .ptr id 0] st (fun r st' => r = .sc (.bool (t.lg d n).1) ∧ st' = st.set id (.cells [.sc (.int .i64 (t.lg d n).2)])) := by
  refine Tm.ind fun k n0 s l ih => ?_
  intro d n id st hnice hid hn hn2 hd hd2
  have hidl : id < st.length := (List.getElem?_eq_some_iff.1 hid).1
  refine ICall.of_vc hT [] [(7, 8)] follows Try.call29 Try.func29 rfl (by kernel_rfl) fun hfix => ?_
  unfold Try.f29
  have hset : ∀ b, (st.set id b)[id]? = some b := fun b => by simp [hidl]
  clear hidl
  simp [Tm.cells, hid, hset]
  have hs := hnice.1
  have hq0 : (0 : Int) ≤ (s.size : Int) / 16 := Int.ediv_nonneg (Int.natCast_nonneg _) (by decide)
  have hq1 : (s.size : Int) / 16 ≤ 140737488355328 := Int.le_trans (Int.ediv_le_self _ (Int.natCast_nonneg _)) (by omega)
  refine ⟨by unfold i64ok; omega, by unfold i64ok; omega, by unfold i64ok; omega, ?_⟩
  intro _
  refine ⟨fun h => ?_, fun h1 h2 h3 => ?_⟩
  · have e : Tm.lg (.mk k n0 s l) d n = (true, n + 1 + (s.size : Int) / 16) := by simp only [Tm.lg]; rw [if_pos]; omega
    rw [e]
    refine endP_mk (.sc (.bool true)) (by simp) (by simp) ⟨rfl, ?_⟩
    rw [cutSt_set0 hfix]; simp
  · have e : Tm.lg (.mk k n0 s l) d n = Tm.lgL l (d + 1) (n + 1 + (s.size : Int) / 16) := by simp only [Tm.lg]; rw [if_neg]; omega
    rw [e]
    obtain ⟨m, hm⟩ : ∃ m, m = n + 1 + (s.size : Int) / 16 := ⟨_, rfl⟩
    rw [← hm]
    refine vcC_loop [] (fun M σ st' => ∃ i : Nat, M = l.length - i ∧ i ≤ l.length ∧ (Tm.lgL (l.take i) (d + 1) m).1 = false ∧ σ 1 = .sc (.int .i64 d) ∧ σ 2 = .ptr id 0 ∧ σ 3 = .eptr [.sc (.int .i64 k), .sc (.int .i64 n0), .sc (.string s), .lst 24 (Tm.cellsL 24 l)] ∧ σ 7 = .sc (.int .i64 i) ∧
      st' = st.set id (.cells [.sc (.int .i64 (Tm.lgL (l.take i) (d + 1) m).2)])) l.length ⟨0, by simp, by simp, by simp [Tm.lgL], by simp, by simp, by simp, by simp, by simp [Tm.lgL, hm]⟩ ?_
    rintro M σ st' ⟨i, rfl, hi, hf, s1, s2, s3, s7, rfl⟩
    rcases Nat.lt_or_ge i l.length with hlt | hge
    · have hsz := Tm.lgL_size (l.take i) (d + 1) m (by omega) (by omega) hf
      simp [s1, s2, s3, s7, hlt]
      refine fun hb1 hb2 => ⟨by unfold i64ok; omega, vcICall_of (ih l[i] (List.getElem_mem hlt) _ _ id _ (Tm.niceL_mem hnice.2 _ (List.getElem_mem hlt)) (hset _) (by omega) (by omega) (by omega) (by omega)) ?_⟩
      rintro r st' ⟨rfl, rfl⟩ _
      have e2 := Tm.lgL_take hlt (d + 1) m hf
      rw [← e2]
      simp [s1, s2, s3, s7]
      refine ⟨fun h4 => ?_, fun h4 => ⟨by unfold i64ok; omega, l.length - (i + 1), by omega, i + 1, rfl, by omega, h4, by omega, rfl⟩⟩
      have e3 := Tm.lgL_true (d + 1) m h4
      rw [e3]
      refine endP_mk (.sc (.bool true)) (by simp) (by simp) ⟨rfl, ?_⟩
      rw [cutSt_set0 hfix]; simp
    · have hi : i = l.length := by omega
      subst hi
      rw [List.take_length] at hf
      simp [s1, s2, s3, s7]
      refine fun hb1 hb2 => endP_mk (.sc (.bool false)) (by simp) (by simp) ⟨by rw [hf], ?_⟩
      rw [cutSt_set0 hfix]; simp

set_option maxRecDepth 100000 in
theorem Large_c (t : Tm) (ht : t.nice) : PureCall T Try.prog 9 [t.av 24] (.sc (.bool t.large)) := by
  have h : ICall T Try.prog 9 [t.av 24] [] (fun r _ => r = .sc (.bool t.large)) := by
    refine ICall.of_vc hT [3] [(2, 1)] follows Try.call9 Try.func9 rfl (by kernel_rfl) fun hfix => ?_
    unfold Try.f9
    simp [Tm.cells]
    refine vcICall_of (large_c t 0 0 0 _ ht rfl (by omega) (by omega) (by omega) (by omega)) ?_
    rintro r st' ⟨rfl, rfl⟩ _
    simp
    exact endP_mk (.sc (.bool t.large)) (by simp [Tm.large]) (by simp [Tm.large]) rfl
  exact PureCall.of_ICall h (by simp [AV.pure, AV.pureL]) (by simp [AV.pure]) (by rintro r st' rfl; simp)
end Go.T1
end

section
open Go Go.Ab Go.Proofs
namespace Go.T1
end Go.T1
end

section
open Go Go.Ab Go.Proofs
namespace Go.T1
end Go.T1
end

section
open Go Go.Ab Go.Proofs Go.RowKit Go.Shelf
namespace Go.T1
attribute [local go_sem] Oper.semAt_some
/-- What a walk from behind has told when k rounds are over. -/
def down (n k : Nat) : List Nat := (List.range k).map fun j => n - 1 - j
theorem down_succ (n k : Nat) : down n (k + 1) = down n k ++ [n - 1 - k] := by simp [down, List.range_succ]
theorem down_len (n k : Nat) : (down n k).length = k := by simp [down]
/-- What the iterator reads between two rounds. -/
def Kb (b Bs : Nat) (W W' : World) : Prop := W'.heap[b]? = W.heap[b]? ∧ W'.heap[Bs]? = W.heap[Bs]?

theorem relM_get {E : Env} {b k : Nat} : ∀ (L : List (List AV)) (o x : Nat) (h : x < L.length), RelM T E b k o L → RelX T E b (o + x * k) L[x]
  | [], _, _, h, _ => by simp at h
  | e :: L, o, 0, _, hr => by simp only [RelM] at hr; simpa using hr.2.1
  | e :: L, o, x + 1, h, hr => by
    simp only [RelM] at hr
    have := relM_get L (o + k) x (by simpa using h) hr.2.2
    rw [show o + (x + 1) * k = o + k + x * k by rw [Nat.add_mul]; omega]
    simpa using this

end Go.T1
end

section
open Go Go.Ab Go.Proofs Go.RowKit
namespace Go.T1
mutual
theorem Tm.cells_solid (e : Nat) : ∀ t : Tm, AV.solidL (t.cells e)
  | .mk k n s l => by simp only [Tm.cells, AV.solidL, AV.solid]; exact ⟨trivial, trivial, trivial, Tm.cellsL_solid e l, trivial⟩
theorem Tm.cellsL_solid (e : Nat) : ∀ l : List Tm, AV.solidM (Tm.cellsL e l)
  | [] => by simp only [Tm.cellsL, AV.solidM]
  | t :: ts => by
    simp only [Tm.cellsL, AV.solidM]
    exact ⟨by cases t; simp [Tm.cells], Tm.cells_solid e t, Tm.cellsL_solid e ts⟩
end

/-- The slots that a round of List knows. -/
def sigL (x : AV) : Slots := fun i => if i = 3 then .ptr 0 0 else if i = 4 then .ptr 1 0 else if i = 6 then x else .any
theorem sigL_solid (x : AV) (h : x.solid) (i : Nat) : (sigL x i).solid := by
  unfold sigL; split
  · trivial
  · split
    · trivial
    · split
      · exact h
      · trivial
def zeroT : List AV := [.sc (.int .i64 0), .sc (.int .i64 0), .sc (.string .empty), .nils]
theorem zeroT_solid : AV.solidL zeroT := by simp [zeroT, AV.solidL, AV.solid]

theorem rev_of_down (l : List Tm) (xs : List {x : Nat // x < l.length}) (h : xs.map (·.1) = down l.length l.length) : (xs.map (fun x => l[x.1])).reverse = l := by
  have h1 : xs.length = l.length := by have := congrArg List.length h; simpa [down_len] using this
  rw [List.reverse_eq_iff]
  refine List.ext_getElem (by simp [h1]) fun i h2 h3 => ?_
  have h4 : (xs.map (·.1))[i]? = (down l.length l.length)[i]? := by rw [h]
  have h5 : i < xs.length := by simpa using h2
  have h6 : i < l.length := by omega
  simp [down, h5, h6] at h4
  simp [h4]

end Go.T1
end

section
open Go Go.Ab Go.Proofs
namespace Go.T1
theorem sizeL_small {l : List Tm} (h : Tm.sizeL l ≤ 900000000) {i : Nat} (hlt : i < l.length) : l[i].small := by
  have := Tm.size_get hlt
  unfold Tm.small; omega

theorem take_ne {a b : List Tm} {i : Nat} (h1 : i < a.length) (h2 : i < b.length) (h : a[i] ≠ b[i]) : a ≠ b := by
  rintro rfl; exact h rfl

end Go.T1
end

section
open Go Go.Ab Go.Proofs
namespace Go.T1
def t0 : Tm := .mk 4 0 ⟨#[102]⟩ [Tm.mk 1 7 ⟨#[]⟩ [], Tm.mk 1 3 ⟨#[]⟩ [], Tm.mk 1 7 ⟨#[]⟩ []]
def u0 : Tm := .mk 4 0 ⟨#[102]⟩ [Tm.mk 1 0 ⟨#[]⟩ [], Tm.mk 1 1 ⟨#[]⟩ [], Tm.mk 1 0 ⟨#[]⟩ []]
def v0 : Tm := .mk 4 0 ⟨#[102]⟩ [Tm.mk 2 5 ⟨#[]⟩ [], Tm.mk 1 1 ⟨#[]⟩ [], Tm.mk 2 5 ⟨#[]⟩ []]
theorem t0_small : t0.small := by simp [t0, Tm.small, Tm.size, Tm.sizeL]
theorem t0_check : t0.check = 0 := by simp [t0, Tm.check, Tm.size, Tm.sizeL, Tm.depth, Tm.depthL, Tm.right, Tm.rightL, partB, ByteArray.size]
theorem t0_vars : t0.vars [] = [7, 3] := by simp [t0, Tm.vars, Tm.varsL, addV]
theorem t0_ren : renT t0 = u0 := by simp [renT, t0_vars]; simp [t0, u0, Tm.sub, Tm.subL, placeI, Tm.var]
theorem u0_small : u0.small := by simp [u0, Tm.small, Tm.size, Tm.sizeL]
theorem u0_check : u0.check = 0 := by simp [u0, Tm.check, Tm.size, Tm.sizeL, Tm.depth, Tm.depthL, Tm.right, Tm.rightL, partB, ByteArray.size]
theorem u0_vars : u0.vars [] = [0, 1] := by simp [u0, Tm.vars, Tm.varsL, addV]
theorem u0_ren : renT u0 = u0 := by simp [renT, u0_vars]; simp [u0, Tm.sub, Tm.subL, placeI, Tm.var]
theorem u0_sub : u0.sub (repF [Tm.mk 2 5 ⟨#[]⟩ []]) = v0 := by simp [u0, v0, Tm.sub, Tm.subL, repF, Tm.var]
theorem v0_check : v0.check = 0 := by simp [v0, Tm.check, Tm.size, Tm.sizeL, Tm.depth, Tm.depthL, Tm.right, Tm.rightL, partB, ByteArray.size]
theorem v0_small : v0.small := by simp [v0, Tm.small, Tm.size, Tm.sizeL]
theorem t0_size : t0.size = 4 := by simp [t0, Tm.size, Tm.sizeL]
theorem t0_depth : t0.depth = 2 := by simp [t0, Tm.depth, Tm.depthL]
def l0 : Tm := Tm.list (.mk 3 0 ⟨#[91, 93]⟩ []) [.mk 2 1 ⟨#[]⟩ [], .mk 3 0 ⟨#[97]⟩ []]
theorem l0_small : l0.small := by simp [l0, Tm.list, Tm.small, Tm.size, Tm.sizeL]
theorem l0_check : l0.check = 0 := by simp [l0, Tm.list, Tm.check, Tm.size, Tm.sizeL, Tm.depth, Tm.depthL, Tm.right, Tm.rightL, partB, ByteArray.size]
theorem l0_items : l0.items = ([.mk 2 1 ⟨#[]⟩ [], .mk 3 0 ⟨#[97]⟩ []], .mk 3 0 ⟨#[91, 93]⟩ []) := by
  simp only [l0, Tm.list, Tm.items_two]
  rw [Tm.items_end (by simp)]
theorem zero_check : Tm.zero.check = 60 := by simp [Tm.zero, Tm.check, Tm.right, Tm.rightL, partB, ByteArray.size]
theorem zero_small : Tm.zero.small := by simp [Tm.zero, Tm.small, Tm.size, Tm.sizeL]

end Go.T1
end

section
open Go Go.Ab Go.Proofs Go.RowKit
namespace Go.T1
/-- A world as it is handed in. -/
def E0 (W : World) : Env := ⟨W, [], fun _ => 0, fun _ => False⟩
theorem relX_of {W : World} {b : Nat} : ∀ (xs : List AV) (cs : List Value) (o : Nat), (∀ i, i < cs.length → W.cell? ⟨b, o + i, none⟩ = cs[i]?) → RelC T (E0 W) xs cs → RelX T (E0 W) b o xs
  | [], _, _, _, _ => by simp only [RelX]
  | x :: xs, cs, o, h, hr => by
    simp only [RelC] at hr
    obtain ⟨v, r, rfl, h1, h2, h3⟩ := hr
    simp only [RelX]
    refine ⟨⟨v, by show W.cell? _ = _; simpa using h 0 (by simp), h1, h2⟩, relX_of xs r (o + 1) (fun i hi => ?_) h3⟩
    have := h (i + 1) (by simp; omega)
    rw [show o + 1 + i = o + (i + 1) by omega, this]; simp
theorem relM_of {W : World} {b k : Nat} : ∀ (L : List (List AV)) (o : Nat), (∀ i (h : i < L.length), L[i].length = k ∧ RelX T (E0 W) b (o + i * k) L[i]) → RelM T (E0 W) b k o L
  | [], _, _ => by simp only [RelM]
  | e :: L, o, h => by
    simp only [RelM]
    have h0 := h 0 (by simp)
    refine ⟨h0.1, by simpa using h0.2, relM_of L (o + k) fun i hi => ?_⟩
    have := h (i + 1) (by simp; omega)
    simp only [List.getElem_cons_succ] at this
    rw [show o + k + i * k = o + (i + 1) * k by rw [Nat.add_mul]; omega]
    exact this
theorem weightsAll_mem {H : Type} {P : Program} {e : TypeId} : ∀ {l : List (DataW H)} {d : DataW H}, d ∈ l → ∀ n ∈ d.weights P e, n ∈ DataW.weightsAll P e l
  | x :: xs, d, hd, n, hn => by
    simp only [DataW.weightsAll, List.mem_append]
    rcases List.mem_cons.1 hd with rfl | hd
    · exact .inl hn
    · exact .inr (weightsAll_mem hd n hn)
theorem cellsOf24 : Try.prog.cellsOf 24 = 4 := by kernel_rfl
theorem cellsOf22 : Try.prog.cellsOf 22 = 1 := by kernel_rfl
theorem cellsOf3 : Try.prog.cellsOf 3 = 1 := by kernel_rfl
theorem cellsOf9 : Try.prog.cellsOf 9 = 1 := by kernel_rfl
theorem bytesOf24 : Try.prog.bytesOf 24 = 56 := by kernel_rfl
theorem add_add (b off i j : Nat) : ((⟨b, off, none⟩ : Addr).add i).add j = ⟨b, off + i + j, none⟩ := by
  unfold Addr.add
  by_cases hi : i = 0
  · subst hi
    by_cases hj : j = 0
    · subst hj; rfl
    · simp [hj]
  · by_cases hj : j = 0
    · subst hj; simp [hi]
    · simp [hi, hj]
theorem cell_lt {W : World} {a : Addr} {v : Value} (h : W.cell? a = some v) : a.block < W.heap.size ∧ a.spot = none := by
  unfold World.cell? at h
  split at h
  · rename_i c _ _ hb
    refine ⟨(Array.getElem?_eq_some_iff.1 hb).1, ?_⟩
    split at h
    · cases h
    · rename_i hs; cases hsp : a.spot with
      | none => rfl
      | some _ => rw [hsp] at hs; exact absurd rfl hs
  · cases h

section
variable {H : Type} {enc : TypeId × Value → H} {W : World} {sp : Nat → Bool}

theorem niceL_of : ∀ {l : List Tm}, (∀ t ∈ l, t.nice) → Tm.niceL l
  | [], _ => trivial
  | t :: ts, h => ⟨h t (by simp), niceL_of fun x hx => h x (by simp [hx])⟩

theorem open_sl {n : Nat} (ih : ∀ m, m ≤ n → ∀ cs (d : DataW H) ps, DataW.trod enc Try.prog W 0 sp true m 24 cs = some (d, ps) → (∀ k ∈ d.weights Try.prog 24, k ≤ reachBytes) → ∃ t : Tm, RelC T (E0 W) (t.cells 24) cs ∧ t.nice)
    {fuel : Nat} (hf : fuel ≤ n + 1) {cs : List Value} {d : DataW H} {ps : List MemPlace} (h : DataW.trod enc Try.prog W 0 sp true fuel 22 cs = some (d, ps)) (hw : ∀ k ∈ d.weights Try.prog 22, k ≤ reachBytes) :
    ∃ (l : List Tm) (v : Value), cs = [v] ∧ v.oneCell' = true ∧ Rel T (E0 W) (.lst 24 (Tm.cellsL 24 l)) v ∧ Tm.niceL l := by
  rcases DataW.trod_slice Try.underlying22 h with ⟨rfl, hx⟩ | ⟨a, len, cap, elems, rest, m, rfl, rfl, hx, hb, hl, hm, hlen, hel, _, _⟩
  · refine ⟨[], _, rfl, rfl, ?_, trivial⟩
    simp only [Rel, Tm.cellsL]
    exact ⟨by simp, by simp, _, _, rfl, by simp, .inl trivial⟩
  · cases hx
    simp only [DataW.weights, Try.underlying22, List.mem_cons, List.mem_append, bytesOf24] at hw
    have hw0 := hw _ (.inl rfl)
    simp only [List.length_map] at hw0
    have hreach : reachBytes = 140737488351232 := by decide
    rw [hreach] at hw0
    rw [cellsOf24] at hel
    have key : ∀ i, i < len → ∃ t : Tm, (∃ cs', W.cells? 0 (a.add (i * 4)) 4 = some cs' ∧ RelC T (E0 W) (t.cells 24) cs') ∧ t.nice := by
      intro i hi
      have := hel i hi
      rw [List.getElem?_eq_getElem (by omega)] at this
      obtain ⟨cs', h1, h2⟩ := Option.bind_eq_some_iff.1 this
      obtain ⟨t, h3, h4⟩ := ih m (by omega) cs' elems[i].1 elems[i].2 h2 (fun k hk => hw k (.inr (.inl (weightsAll_mem (List.mem_map.2 ⟨_, List.getElem_mem (by omega), rfl⟩) k hk))))
      exact ⟨t, ⟨cs', h1, h3⟩, h4⟩
    have hch : ∃ f : Nat → Tm, ∀ i, i < len → (∃ cs', W.cells? 0 (a.add (i * 4)) 4 = some cs' ∧ RelC T (E0 W) ((f i).cells 24) cs') ∧ (f i).nice :=
      ⟨fun i => if hi : i < len then (key i hi).choose else Tm.zero, fun i hi => by simp only [dif_pos hi]; exact (key i hi).choose_spec⟩
    obtain ⟨f, hf'⟩ := hch
    refine ⟨(List.range len).map f, _, rfl, rfl, ?_, niceL_of fun t ht => ?_⟩
    · simp only [Rel]
      have h56 : T.bytes 24 = 56 := by simp [Tab.bytes]
      have h4 : T.cells 24 = 4 := by simp [Tab.cells]
      refine ⟨by simp [h56]; omega, by simp; unfold maxLen; omega, some a, cap, by simp, by simpa using hl, ?_⟩
      rcases Nat.eq_zero_or_pos len with h0 | h0
      · left; subst h0; rfl
      · right
        obtain ⟨⟨cs', k1, k2⟩, _⟩ := hf' 0 h0
        obtain ⟨_, k3, k4⟩ := World.cells?_some k1
        have k5 := k4 0 (by omega)
        rw [List.getElem?_eq_getElem (by omega)] at k5
        have k6 := cell_lt k5
        obtain ⟨b, off, spot⟩ := a
        have hs : spot = none := by simpa [Addr.add] using k6.2
        subst hs
        have hbl : b < W.heap.size := by simpa [Addr.add] using k6.1
        refine ⟨b, off, rfl, ⟨hbl, ?_⟩, ?_⟩
        · rintro (hm | ⟨id, blk, hm, _⟩)
          · exact hm
          · simp [E0] at hm
        · rw [h4]
          refine relM_of _ _ fun i hi => ?_
          simp only [Tm.cellsL_len, List.length_map, List.length_range] at hi
          obtain ⟨⟨cs', k1, k2⟩, _⟩ := hf' i hi
          obtain ⟨_, k3, k4⟩ := World.cells?_some k1
          simp only [Tm.cellsL_getElem, List.getElem_map, List.getElem_range]
          refine ⟨by simp, relX_of _ cs' _ (fun j hj => ?_) k2⟩
          rw [← k4 j (by omega), add_add]
    · obtain ⟨i, hi, rfl⟩ := List.mem_map.1 ht
      exact (hf' i (List.mem_range.1 hi)).2

theorem open_tm : ∀ fuel cs (d : DataW H) ps, DataW.trod enc Try.prog W 0 sp true fuel 24 cs = some (d, ps) → (∀ k ∈ d.weights Try.prog 24, k ≤ reachBytes) → ∃ t : Tm, RelC T (E0 W) (t.cells 24) cs ∧ t.nice := by
  intro fuel
  induction fuel using Nat.strongRecOn with
  | _ fuel ih =>
    intro cs d ps h hw
    obtain ⟨xs, n, rfl, hx, hlen, hxs, hf⟩ := DataW.trod_struct Try.underlying24 h
    cases hx
    rw [cellsOf24] at hlen
    match cs, hlen with
    | [c0, c1, c2, c3], _ =>
    match xs, hxs with
    | [x0, x1, x2, x3], _ =>
    have f0 := hf 0 _ rfl
    have f1 := hf 1 _ rfl
    have f2 := hf 2 _ rfl
    have f3 := hf 3 _ rfl
    simp [cellsOf3, cellsOf9, cellsOf22] at f0 f1 f2 f3
    simp only [DataW.weights, Try.underlying24] at hw
    simp [DataW.weightsEach] at hw
    obtain ⟨k, e0, rfl, _⟩ := DataW.trod_int Try.underlying3 f0
    obtain ⟨m, e1, rfl, _⟩ := DataW.trod_int Try.underlying3 f1
    obtain ⟨s, e2, rfl, hs⟩ := DataW.trod_string Try.underlying9 f2
    cases e0; cases e1; cases e2
    obtain ⟨l, v, e3, hv1, hv2, hv3⟩ := open_sl (n := n) (fun m hm => ih m (by omega)) (fuel := n) (by omega) f3 (fun q hq => hw q (by simp [hq]))
    cases e3
    refine ⟨.mk k m s l, ?_, ?_⟩
    · simp only [Tm.cells, RelC, Rel]
      exact ⟨_, _, rfl, ⟨rfl, rfl⟩, rfl, _, _, rfl, ⟨rfl, rfl⟩, rfl, _, _, rfl, ⟨rfl, rfl⟩, rfl, _, _, rfl, by simpa only [Rel] using hv2, hv1, rfl⟩
    · have : s.data.toList.length ≤ reachBytes := hw _ (by simp [DataW.weights])
      have hreach : reachBytes = 140737488351232 := by decide
      have e : s.data.toList.length = s.size := by rw [Array.length_toList]; rfl
      exact ⟨by omega, hv3⟩
end
end Go.T1
end

section
open Go Go.Ab Go.Proofs Go.RowKit Go.ChangeShapes Go.WideShapes Go.ChangeAt
namespace Go.T1
section
variable {H : Type} {enc : TypeId × Value → H} {W : World} {sp : Nat → Bool}
theorem trod_tm {v : Value} {d : DataW H} {p : List MemPlace} (h : DataW.Trod enc Try.prog W 0 sp true 24 v d p) (hw : ∀ k ∈ d.weights Try.prog 24, k ≤ reachBytes) : ∃ t : Tm, Rel T (E0 W) (t.av 24) v ∧ t.nice := by
  obtain ⟨fuel, h⟩ := h
  obtain ⟨t, h1, h2⟩ := open_tm fuel _ _ _ h hw
  refine ⟨t, ?_, h2⟩
  have hl := RelC.len _ _ h1
  rw [Tm.cells_len] at hl
  cases v with
  | agg cs => simp only [Rel]; exact ⟨cs.toList, by simp, h1⟩
  | _ => simp [Value.cells] at hl
theorem trod_sl {v : Value} {d : DataW H} {p : List MemPlace} {base : Nat} (hok : Value.okWide Try.prog W .any base 22 v) (h : DataW.Trod enc Try.prog W 0 sp true 22 v d p) (hw : ∀ k ∈ d.weights Try.prog 22, k ≤ reachBytes) : ∃ l : List Tm, Rel T (E0 W) (.lst 24 (Tm.cellsL 24 l)) v ∧ Tm.niceL l := by
  obtain ⟨fuel, h⟩ := h
  obtain ⟨l, v', h1, h2, h3, h4⟩ := open_sl (n := fuel) (fun m _ => open_tm m) (fuel := fuel) (by omega) h hw
  refine ⟨l, ?_, h4⟩
  have hv : v.cells = #[v] := by
    unfold Value.okWide at hok
    rw [Try.underlying22] at hok
    cases v with
    | agg cs => simp [Cell.okWide, Cell.ok, Try.underlying22] at hok
    | _ => rfl
  rw [hv] at h1
  simp at h1
  rw [h1]; exact h3
theorem trod_it {v : Value} {d : DataW H} {p : List MemPlace} (hok : Value.okWide Try.prog W .any 0 3 v) (h : DataW.Trod enc Try.prog W 0 sp true 3 v d p) : ∃ n : Int, Rel T (E0 W) (.sc (.int .i64 n)) v ∧ (Lit.int .i64 n).wf = true := by
  obtain ⟨n, rfl, rfl, rfl, h2⟩ := open_int Try.underlying3 hok h
  exact ⟨n, by simp only [Rel]; exact ⟨trivial, rfl⟩, h2⟩
theorem trod_st {v : Value} {d : DataW H} {p : List MemPlace} {base : Nat} (hok : Value.okWide Try.prog W .any base 9 v) (h : DataW.Trod enc Try.prog W 0 sp true 9 v d p) : ∃ s : ByteArray, Rel T (E0 W) (.sc (.string s)) v := by
  obtain ⟨s, rfl, rfl, rfl, h2⟩ := Go.ChangeMaps.open_string Try.underlying9 hok h
  exact ⟨s, by simp only [Rel]; exact ⟨trivial, rfl⟩⟩
theorem own : ownKnob Try.prog.godebug = none := by kernel_rfl
theorem laidOut : laidOutB Try.prog = true := by kernel_rfl
/-- A call that needs no memory of the caller's. -/
theorem callW {f : FuncId} {args : List AV} (h : PureCall T Try.prog f args (.sc (.bool true))) {vs : List Value} (hr : RelL T (E0 W) args vs) :
    Calls Try.prog f vs.toArray W fun e W' => e = .returned (.bool true) ∧ Below W.heap.size W W' := by
  refine (h.call W (fun _ => False) vs (fun _ h => h.elim) hr).mono ?_
  rintro e W' ⟨u, rfl, h1, h2⟩
  simp only [Rel] at h2
  rw [h2.1]; exact ⟨rfl, h1⟩
theorem wEach {ts : List TypeId} {ds : List (DataW H)} (hz : (DataW.weightsEach Try.prog ts ds).all (· ≤ reachBytes) = true) {j : Nat} {t : TypeId} {d : DataW H} (ht : ts[j]? = some t) (hd : ds[j]? = some d) : ∀ k ∈ d.weights Try.prog t, k ≤ reachBytes := by
  intro k hk
  have := List.all_eq_true.1 hz _ (DataW.weights_mem_each ht hd k hk)
  simpa using this
/-- An argument reads as it did. -/
theorem argW {t : TypeId} {W' : World} {v : Value} {d : DataW H} {ps : List MemPlace} (hr : Try.prog.readableRec t = true) (ht : t < Try.prog.types.size)
    (h : DataW.Trod enc Try.prog W 0 (fun _ => true) true t v d ps) (hb : Below W.heap.size W W') (hlt : ∀ x ∈ ps, x.block < W.heap.size) : DataW.Trod enc Try.prog W' 0 (fun b => decide (b < W.heap.size)) true t v d ps :=
  Below.trod laidOut hr ht h hb hlt
end
end Go.T1
end

section
open Go Go.Ab Go.Proofs
namespace Go.T1
theorem error1_c (t : Tm) : PureCall T Try.prog 56 [.lst 24 [t.cells 24]] ((errT t).av 24) := by
  refine PureCall.of_vc hT [] [] follows Try.call56 Try.func56 rfl (by kernel_rfl) (by simp [AV.pure, AV.pureL, AV.pureM]) (by simp [AV.pure]) ?_
  unfold Try.f56
  simp
  refine vcCall_at (Comp_c _ [t]) ?_
  simp [compT, errT]
theorem error0_c : PureCall T Try.prog 56 [.lst 24 []] (instT.av 24) := by
  refine PureCall.of_vc hT [] [] follows Try.call56 Try.func56 rfl (by kernel_rfl) (by simp [AV.pure, AV.pureL, AV.pureM]) (by simp [AV.pure]) ?_
  unfold Try.f56
  simp
  refine vcCall_at (Atom_c _) ?_
  simp
  refine vcCall_at (Comp_c _ [Tm.mk 3 0 ⟨#[105, 110, 115, 116]⟩ []]) ?_
  simp [compT, instT, errT, atomT]
theorem type_c (s : ByteArray) (t : Tm) : PureCall T Try.prog 48 [.sc (.string s), t.av 24] ((typeT s t).av 24) := by
  refine PureCall.of_vc hT [] [] follows Try.call48 Try.func48 rfl (by kernel_rfl) (by simp [AV.pure, AV.pureL, AV.pureM]) (by simp [AV.pure]) ?_
  unfold Try.f48
  simp
  refine vcCall_at (Atom_c s) ?_
  simp
  refine ⟨rfl, vcCall_at (Comp_c _ [Tm.mk 3 0 s [], t]) ?_⟩
  simp [compT]
  refine vcCall_at (error1_c _) ?_
  simp [typeT, atomT]
theorem ind_c (t : Tm) (ht : t.small) : PureCall T Try.prog 62 [t.av 24] ((indT t).av 24) := by
  obtain ⟨k, n, s, l⟩ := t
  refine PureCall.of_vc hT [] [] follows Try.call62 Try.func62 rfl (by kernel_rfl) (by simp [AV.pure, AV.pureL]) (by simp [AV.pure]) ?_
  unfold Try.f62
  simp [Tm.cells]
  refine vcCall_at (check_c _ ht) ?_
  simp
  refine ⟨fun h => ?_, fun hc hk => ?_⟩
  · have e : indT (.mk k n s l) = Tm.zero := by
      show (if (Tm.mk k n s l).check = 0 ∧ 3 ≤ k then Tm.mk 4 0 ⟨#[47]⟩ [atomT s, intT l.length] else Tm.zero) = _
      rw [if_neg (fun q => by rcases h with h | h; exact h q.1; omega)]
    rw [e]
    simp [Tm.zero, Tm.cells]
    rfl
  · have e : indT (.mk k n s l) = .mk 4 0 ⟨#[47]⟩ [atomT s, intT l.length] := by
      show (if (Tm.mk k n s l).check = 0 ∧ 3 ≤ k then Tm.mk 4 0 ⟨#[47]⟩ [atomT s, intT l.length] else Tm.zero) = _
      rw [if_pos ⟨hc, hk⟩]
    rw [e]
    refine vcCall_at (Atom_c s) ?_
    simp
    refine vcCall_at (Int_c _) ?_
    simp
    refine ⟨rfl, vcCall_at (Comp_c _ [Tm.mk 3 0 s [], Tm.mk 2 l.length ⟨#[]⟩ []]) ?_⟩
    simp [compT, atomT, intT]
theorem rErr_c (t : Tm) : PureCall T Try.prog 45 [t.av 24] ((errT t).av 24) := by
  refine PureCall.of_vc hT [] [] follows Try.call45 Try.func45 rfl (by kernel_rfl) (by simp [AV.pure, AV.pureL, AV.pureM]) (by simp [AV.pure]) ?_
  unfold Try.f45
  simp
  refine vcCall_at (rComp_c _ [t]) ?_
  simp [compT, errT]
theorem rInst_c : PureCall T Try.prog 43 [] (instT.av 24) := by
  refine PureCall.of_vc hT [] [] follows Try.call43 Try.func43 rfl (by kernel_rfl) (by simp [AV.pure, AV.pureL, AV.pureM]) (by simp [AV.pure]) ?_
  unfold Try.f43
  simp
  refine vcCall_at (rAtom_c _) ?_
  simp
  refine vcCall_at (rErr_c (Tm.mk 3 0 ⟨#[105, 110, 115, 116]⟩ [])) ?_
  simp [instT, atomT]
theorem rSizeB_c : PureCall T Try.prog 39 [] (sizeT.av 24) := by
  refine PureCall.of_vc hT [] [] follows Try.call39 Try.func39 rfl (by kernel_rfl) (by simp [AV.pure, AV.pureL, AV.pureM]) (by simp [AV.pure]) ?_
  unfold Try.f39
  simp
  refine vcCall_at (rAtom_c _) ?_
  simp
  refine vcCall_at (rErr_c (Tm.mk 3 0 ⟨#[115, 105, 122, 101]⟩ [])) ?_
  simp [sizeT, atomT]
theorem rType_c (s : ByteArray) (t : Tm) : PureCall T Try.prog 44 [.sc (.string s), t.av 24] ((typeT s t).av 24) := by
  refine PureCall.of_vc hT [] [] follows Try.call44 Try.func44 rfl (by kernel_rfl) (by simp [AV.pure, AV.pureL, AV.pureM]) (by simp [AV.pure]) ?_
  unfold Try.f44
  simp
  refine vcCall_at (rAtom_c _) ?_
  simp
  refine ⟨rfl, vcCall_at (rComp_c _ [Tm.mk 3 0 s [], t]) ?_⟩
  simp [compT]
  refine vcCall_at (rErr_c _) ?_
  simp [typeT, atomT]
theorem check_kind {k n : Int} {s : ByteArray} {l : List Tm} (h : (Tm.mk k n s l).check = 0) : 1 ≤ k ∧ k ≤ 4 := by
  have := ((check_iff _).1 h).1
  simp [Tm.right, partB] at this
  obtain ⟨h1, _⟩ := this
  by_cases a : k = 1; omega
  by_cases b : k = 2; omega
  by_cases c : k = 3; omega
  rw [if_neg a, if_neg b, if_neg c] at h1
  omega
theorem rInd_c (t : Tm) (ht : t.small) : PureCall T Try.prog 46 [t.av 24] ((indT t).av 24) := by
  obtain ⟨k, n, s, l⟩ := t
  refine PureCall.of_vc hT [] [] follows Try.call46 Try.func46 rfl (by kernel_rfl) (by simp [AV.pure, AV.pureL]) (by simp [AV.pure]) ?_
  unfold Try.f46
  simp [Tm.cells]
  refine vcCall_at (rCheck_c _ ht) ?_
  simp
  refine ⟨fun h => ⟨h, fun g => ⟨h, g⟩⟩, fun h => ?_, fun hc hk => ?_⟩
  · have e : indT (.mk k n s l) = Tm.zero := by
      show (if (Tm.mk k n s l).check = 0 ∧ 3 ≤ k then Tm.mk 4 0 ⟨#[47]⟩ [atomT s, intT l.length] else Tm.zero) = _
      rw [if_neg (fun q => by have := check_kind q.1; rcases h with h | h; exact h q.1; omega)]
    rw [e]
    simp [Tm.zero, Tm.cells]
    rfl
  · have e : indT (.mk k n s l) = .mk 4 0 ⟨#[47]⟩ [atomT s, intT l.length] := by
      show (if (Tm.mk k n s l).check = 0 ∧ 3 ≤ k then Tm.mk 4 0 ⟨#[47]⟩ [atomT s, intT l.length] else Tm.zero) = _
      rw [if_pos ⟨hc, by omega⟩]
    rw [e]
    refine vcCall_at (rAtom_c s) ?_
    simp
    refine vcCall_at (rInt_c _) ?_
    simp
    refine ⟨rfl, vcCall_at (rComp_c _ [Tm.mk 3 0 s [], Tm.mk 2 l.length ⟨#[]⟩ []]) ?_⟩
    simp [compT, atomT, intT]
theorem check_int {n : Int} {s : ByteArray} {l : List Tm} (h : (Tm.mk 2 n s l).check = 0) : -9007199254740991 ≤ n ∧ n ≤ 9007199254740991 := by
  have := ((check_iff _).1 h).1
  simp [Tm.right, partB] at this
  exact this.1.1.1
end Go.T1
end

section
open Go Go.Ab Go.Proofs
namespace Go.T1
@[simp] theorem ty51 : T 51 = some ⟨5, 64, .strct, [(0,1),(1,4)], some (.agg #[.int .i64 0, .int .i64 0, .int .i64 0, .string .empty, .slice none 0 0])⟩ := by kernel_rfl
@[simp] theorem ty27 : T 27 = some ⟨1, 24, .slice 51, [], some (.slice none 0 0)⟩ := by kernel_rfl
@[simp] theorem ty29 : T 29 = some ⟨6, 88, .strct, [(0,4),(4,1),(5,1)], some (.agg #[.int .i64 0, .int .i64 0, .string .empty, .slice none 0 0, .slice none 0 0, .int .i64 0])⟩ := by kernel_rfl
@[simp] theorem ty82 : T 82 = some ⟨1, 24, .slice 22, [], some (.slice none 0 0)⟩ := by kernel_rfl
@[simp] theorem drop_cells (t : Tm) : List.drop 4 (t.cells 24) = [] := by cases t; rfl
@[simp] theorem take_cells (t : Tm) : List.take 4 (t.cells 24) = t.cells 24 := by cases t; rfl
set_option maxRecDepth 100000 in
theorem is_c (t : Tm) (s : ByteArray) (m : Int) : PureCall T Try.prog 36 [t.av 24, .sc (.string s), .sc (.int .i64 m)] (.sc (.bool (isT s m t))) := by
  obtain ⟨k, n, s', l⟩ := t
  refine PureCall.of_vc hT [] [] follows Try.call36 Try.func36 rfl (by kernel_rfl) (by simp [AV.pure, AV.pureL]) (by simp [AV.pure]) ?_
  unfold Try.f36
  simp [Tm.cells, isT]
  intro _; by_cases h1 : k = 4 <;> by_cases h2 : s' = s <;> simp [h1, h2]
set_option maxRecDepth 100000 in
theorem rcomp_c (t : Tm) (s : ByteArray) (m : Int) : PureCall T Try.prog 41 [t.av 24, .sc (.string s), .sc (.int .i64 m)] (.sc (.bool (isT s m t))) := by
  obtain ⟨k, n, s', l⟩ := t
  refine PureCall.of_vc hT [] [] follows Try.call41 Try.func41 rfl (by kernel_rfl) (by simp [AV.pure, AV.pureL]) (by simp [AV.pure]) ?_
  unfold Try.f41
  simp [Tm.cells, isT]
  intro _; by_cases h1 : k = 4 <;> by_cases h2 : s' = s <;> simp [h1, h2]
set_option maxRecDepth 100000 in
theorem size_c : PureCall T Try.prog 33 [] (sizeT.av 24) := by
  refine PureCall.of_vc hT [] [] follows Try.call33 Try.func33 rfl (by kernel_rfl) (by simp [AV.pure, AV.pureL, AV.pureM]) (by simp [AV.pure]) ?_
  unfold Try.f33
  simp
  refine vcCall_at (Atom_c _) ?_
  simp
  refine vcCall_at (error1_c (Tm.mk 3 0 ⟨#[115, 105, 122, 101]⟩ [])) ?_
  simp [sizeT, atomT]
set_option maxRecDepth 100000 in
theorem kind_c (t : Tm) : PureCall T Try.prog 49 [t.av 24] (.sc (.int .i64 (kindG t))) := by
  obtain ⟨k, n, s', l⟩ := t
  generalize hr : kindG (.mk k n s' l) = r
  refine PureCall.of_vc hT [] [] follows Try.call49 Try.func49 rfl (by kernel_rfl) (by simp [AV.pure, AV.pureL]) (by simp [AV.pure]) ?_
  unfold Try.f49
  simp [Tm.cells]
  refine ⟨fun h => ?_, fun h1 => ⟨fun h2 h3 => ?_, fun h2 => ?_⟩⟩
  · subst hr; simp [kindG, h]
  · subst hr; simp [kindG, h2, h3]
  · refine vcCall_at (is_c (.mk k n s' l) _ _) ?_
    simp
    refine vcCall_at (is_c (.mk k n s' l) _ _) ?_
    simp
    refine vcCall_at (is_c (.mk k n s' l) _ _) ?_
    simp
    have h2' : ¬ (k = 3 ∧ s' = ⟨#[33]⟩) := fun q => h2 q.1 q.2
    subst hr
    simp only [kindG, if_neg h1, if_neg h2']
    refine ⟨fun h => ?_, fun a b c => ?_⟩
    · rw [if_pos (by simpa [or_assoc] using h)]
    · rw [if_neg (by simp [a, b, c])]
set_option maxRecDepth 100000 in
theorem goal_c (t : Tm) : PureCall T Try.prog 50 [t.av 24] (.agg (goalG t).cells) := by
  obtain ⟨k, n, s', l⟩ := t
  generalize hr : goalG (.mk k n s' l) = r
  refine PureCall.of_vc hT [] [] follows Try.call50 Try.func50 rfl (by kernel_rfl) (by simp [AV.pure, AV.pureL]) (by simp [AV.pure]) ?_
  unfold Try.f50
  simp [Tm.cells]
  refine ⟨fun h => ?_, fun h1 => ⟨fun h2 h3 => ?_, fun h2 => ?_⟩⟩
  · subst hr; simp [goalG, Gl.cells, kindG, h, Tm.cells]
  · subst hr; simp [goalG, Gl.cells, kindG, h2, h3, Tm.cells]
  · refine vcCall_at (rcomp_c (.mk k n s' l) _ _) ?_
    simp
    refine vcCall_at (rcomp_c (.mk k n s' l) _ _) ?_
    simp
    refine vcCall_at (rcomp_c (.mk k n s' l) _ _) ?_
    simp
    have h2' : ¬ (k = 3 ∧ s' = ⟨#[33]⟩) := fun q => h2 q.1 q.2
    subst hr
    simp only [goalG, Gl.cells, kindG, if_neg h1, if_neg h2']
    refine ⟨fun h => ?_, fun a b c => ?_⟩
    · rw [if_pos (by simpa [or_assoc] using h)]; simp [Tm.cells]
    · rw [if_neg (by simp [a, b, c])]; simp [Tm.cells]
set_option maxRecDepth 100000 in
theorem of_c (g : Gl) : PureCall T Try.prog 53 [.agg g.cells] ((ofG g).av 24) := by
  obtain ⟨k, t⟩ := g
  generalize hr : ofG ⟨k, t⟩ = r
  refine PureCall.of_vc hT [] [] follows Try.call53 Try.func53 rfl (by kernel_rfl) (by simp [AV.pure, AV.pureL]) (by simp [AV.pure]) ?_
  unfold Try.f53
  simp [Gl.cells]
  refine ⟨fun h => ?_, fun h => ?_⟩
  · refine vcCall_at (Atom_c _) ?_
    subst hr
    simp [ofG, h]
  · subst hr
    simp [ofG, h]
/-- What texts are kept as. -/
def strL (l : List ByteArray) : List (List AV) := l.map fun s => [.sc (.string s)]
@[simp] theorem strL_len (l : List ByteArray) : (strL l).length = l.length := by simp [strL]
@[simp] theorem strL_pure : ∀ l : List ByteArray, AV.pureM (strL l) = true
  | [] => rfl
  | s :: l => by have := strL_pure l; unfold strL at this ⊢; simp [AV.pureM, AV.pureL, AV.pure, this]
@[simp] theorem strL_getElem (l : List ByteArray) (i : Nat) (h : i < (strL l).length) : (strL l)[i] = [.sc (.string (l[i]'(by simpa using h)))] := by simp [strL]
theorem inL_take (s : ByteArray) : ∀ (l : List ByteArray) (i : Nat) (h : i < l.length), inL s (l.take i) = false → inL s (l.take (i + 1)) = decide (l[i] = s)
  | [], _, h, _ => by simp at h
  | x :: l, 0, _, _ => by simp [inL]
  | x :: l, i + 1, h, hn => by
    simp only [List.take_succ_cons, inL, Bool.or_eq_false_iff] at hn
    simp only [List.take_succ_cons, inL, List.getElem_cons_succ, hn.1, Bool.false_or]
    exact inL_take s l i (by simpa using h) hn.2
theorem inL_get (s : ByteArray) : ∀ (l : List ByteArray) (i : Nat) (h : i < l.length), l[i] = s → inL s l = true
  | [], _, h, _ => by simp at h
  | x :: l, 0, _, e => by simp at e; simp [inL, e]
  | x :: l, i + 1, h, e => by simp only [inL, inL_get s l i (by simpa using h) (by simpa using e), Bool.or_true]
@[simp] theorem ty70 : T 70 = some ⟨1, 24, .slice 9, [], some (.slice none 0 0)⟩ := by kernel_rfl
set_option maxRecDepth 100000 in
theorem in_c (s : ByteArray) (l : List ByteArray) : PureCall T Try.prog 58 [.sc (.string s), .lst 9 (strL l)] (.sc (.bool (inL s l))) := by
  generalize hr : inL s l = r
  refine PureCall.of_vc hT [] [] follows Try.call58 Try.func58 rfl (by kernel_rfl) (by simp [AV.pure, AV.pureL]) (by simp [AV.pure]) ?_
  unfold Try.f58
  simp
  refine vcC_loop [] (fun m σ st => ∃ i : Nat, m = l.length - i ∧ i ≤ l.length ∧ inL s (l.take i) = false ∧ σ 0 = .sc (.string s) ∧ σ 1 = .lst 9 (strL l) ∧ σ 5 = .sc (.int .i64 i) ∧ st = []) l.length ⟨0, by simp [inL]⟩ ?_
  rintro m σ st ⟨i, rfl, hi, hn, s0, s1, s5, rfl⟩
  rcases Nat.lt_or_ge i l.length with hlt | hge
  · simp [s0, s1, s5, hlt]
    refine fun _ _ => ⟨fun h => ?_, fun h => ⟨by unfold i64ok; omega, l.length - (i + 1), by omega, i + 1, rfl, by omega, ?_, by simp⟩⟩
    · rw [← hr]; exact inL_get s l i hlt h
    · rw [inL_take s l i hlt hn]; simpa using h
  · simp [s0, s1, s5, Nat.not_lt.2 hge]
    rw [List.take_of_length_le hge] at hn
    rw [hn] at hr
    exact fun _ _ => hr.symm
end Go.T1
end

section
open Go Go.Ab Go.Proofs
namespace Go.T1
section
variable {T : Tab} {P : Program} {n : Nat} {mu : List Nat} {im : List (Nat × Nat)} {K : Slots → St → Prop} {X : Nat → Slots → St → Prop} {R : Slots → St → Prop} {σ : Slots} {st : St}
theorem cond_t {c : Operand} {x y : Code} (h : ev σ c = .sc (.bool true)) : vcC T P n mu im (.cond c x y) K X R σ st ↔ vcC T P n mu im x K X R σ st := by
  rw [vcC_cond, h]; simp
theorem cond_f {c : Operand} {x y : Code} (h : ev σ c = .sc (.bool false)) : vcC T P n mu im (.cond c x y) K X R σ st ↔ vcC T P n mu im y K X R σ st := by
  rw [vcC_cond, h]; simp
end
set_option maxRecDepth 100000 in
set_option maxHeartbeats 8000000 in
theorem Builtin_c (s : ByteArray) (n : Int) : PureCall T Try.prog 25 [.sc (.string s), .sc (.int .i64 n)] (.sc (.bool (builtB s n))) := by
  refine PureCall.of_vc hT [] [] follows Try.call25 Try.func25 rfl (by kernel_rfl) (by simp [AV.pure, AV.pureL]) (by simp [AV.pure]) ?_
  unfold Try.f25
  by_cases e0 : s = ⟨#[116, 114, 117, 101]⟩
  · subst e0; simp [cond_t, cond_f, -vcC_cond, builtB, inL, b0, b1, b2, b3]
  by_cases e1 : s = ⟨#[102, 97, 105, 108]⟩
  · subst e1; simp [cond_t, cond_f, -vcC_cond, builtB, inL, b0, b1, b2, b3]
  by_cases e2 : s = ⟨#[33]⟩
  · subst e2; simp [cond_t, cond_f, -vcC_cond, builtB, inL, b0, b1, b2, b3]
  by_cases e3 : s = ⟨#[104, 97, 108, 116]⟩
  · subst e3; simp [cond_t, cond_f, -vcC_cond, builtB, inL, b0, b1, b2, b3]
  by_cases e4 : s = ⟨#[110, 108]⟩
  · subst e4; simp [cond_t, cond_f, -vcC_cond, builtB, inL, b0, b1, b2, b3]
  by_cases e5 : s = ⟨#[92, 43]⟩
  · subst e5; simp [cond_t, cond_f, -vcC_cond, builtB, inL, b0, b1, b2, b3]
  by_cases e6 : s = ⟨#[116, 104, 114, 111, 119]⟩
  · subst e6; simp [cond_t, cond_f, -vcC_cond, builtB, inL, b0, b1, b2, b3]
  by_cases e7 : s = ⟨#[118, 97, 114]⟩
  · subst e7; simp [cond_t, cond_f, -vcC_cond, builtB, inL, b0, b1, b2, b3]
  by_cases e8 : s = ⟨#[110, 111, 110, 118, 97, 114]⟩
  · subst e8; simp [cond_t, cond_f, -vcC_cond, builtB, inL, b0, b1, b2, b3]
  by_cases e9 : s = ⟨#[97, 116, 111, 109]⟩
  · subst e9; simp [cond_t, cond_f, -vcC_cond, builtB, inL, b0, b1, b2, b3]
  by_cases e10 : s = ⟨#[105, 110, 116, 101, 103, 101, 114]⟩
  · subst e10; simp [cond_t, cond_f, -vcC_cond, builtB, inL, b0, b1, b2, b3]
  by_cases e11 : s = ⟨#[99, 111, 109, 112, 111, 117, 110, 100]⟩
  · subst e11; simp [cond_t, cond_f, -vcC_cond, builtB, inL, b0, b1, b2, b3]
  by_cases e12 : s = ⟨#[97, 115, 115, 101, 114, 116, 122]⟩
  · subst e12; simp [cond_t, cond_f, -vcC_cond, builtB, inL, b0, b1, b2, b3]
  by_cases e13 : s = ⟨#[97, 115, 115, 101, 114, 116, 97]⟩
  · subst e13; simp [cond_t, cond_f, -vcC_cond, builtB, inL, b0, b1, b2, b3]
  by_cases e14 : s = ⟨#[114, 101, 116, 114, 97, 99, 116]⟩
  · subst e14; simp [cond_t, cond_f, -vcC_cond, builtB, inL, b0, b1, b2, b3]
  by_cases e15 : s = ⟨#[119, 114, 105, 116, 101]⟩
  · subst e15; simp [cond_t, cond_f, -vcC_cond, builtB, inL, b0, b1, b2, b3]
  by_cases e16 : s = ⟨#[44]⟩
  · subst e16; simp [cond_t, cond_f, -vcC_cond, builtB, inL, b0, b1, b2, b3]
  by_cases e17 : s = ⟨#[59]⟩
  · subst e17; simp [cond_t, cond_f, -vcC_cond, builtB, inL, b0, b1, b2, b3]
  by_cases e18 : s = ⟨#[45, 62]⟩
  · subst e18; simp [cond_t, cond_f, -vcC_cond, builtB, inL, b0, b1, b2, b3]
  by_cases e19 : s = ⟨#[61]⟩
  · subst e19; simp [cond_t, cond_f, -vcC_cond, builtB, inL, b0, b1, b2, b3]
  by_cases e20 : s = ⟨#[92, 61]⟩
  · subst e20; simp [cond_t, cond_f, -vcC_cond, builtB, inL, b0, b1, b2, b3]
  by_cases e21 : s = ⟨#[61, 61]⟩
  · subst e21; simp [cond_t, cond_f, -vcC_cond, builtB, inL, b0, b1, b2, b3]
  by_cases e22 : s = ⟨#[92, 61, 61]⟩
  · subst e22; simp [cond_t, cond_f, -vcC_cond, builtB, inL, b0, b1, b2, b3]
  by_cases e23 : s = ⟨#[64, 60]⟩
  · subst e23; simp [cond_t, cond_f, -vcC_cond, builtB, inL, b0, b1, b2, b3]
  by_cases e24 : s = ⟨#[64, 62]⟩
  · subst e24; simp [cond_t, cond_f, -vcC_cond, builtB, inL, b0, b1, b2, b3]
  by_cases e25 : s = ⟨#[64, 61, 60]⟩
  · subst e25; simp [cond_t, cond_f, -vcC_cond, builtB, inL, b0, b1, b2, b3]
  by_cases e26 : s = ⟨#[64, 62, 61]⟩
  · subst e26; simp [cond_t, cond_f, -vcC_cond, builtB, inL, b0, b1, b2, b3]
  by_cases e27 : s = ⟨#[61, 46, 46]⟩
  · subst e27; simp [cond_t, cond_f, -vcC_cond, builtB, inL, b0, b1, b2, b3]
  by_cases e28 : s = ⟨#[99, 111, 112, 121, 95, 116, 101, 114, 109]⟩
  · subst e28; simp [cond_t, cond_f, -vcC_cond, builtB, inL, b0, b1, b2, b3]
  by_cases e29 : s = ⟨#[105, 115]⟩
  · subst e29; simp [cond_t, cond_f, -vcC_cond, builtB, inL, b0, b1, b2, b3]
  by_cases e30 : s = ⟨#[61, 58, 61]⟩
  · subst e30; simp [cond_t, cond_f, -vcC_cond, builtB, inL, b0, b1, b2, b3]
  by_cases e31 : s = ⟨#[61, 92, 61]⟩
  · subst e31; simp [cond_t, cond_f, -vcC_cond, builtB, inL, b0, b1, b2, b3]
  by_cases e32 : s = ⟨#[60]⟩
  · subst e32; simp [cond_t, cond_f, -vcC_cond, builtB, inL, b0, b1, b2, b3]
  by_cases e33 : s = ⟨#[62]⟩
  · subst e33; simp [cond_t, cond_f, -vcC_cond, builtB, inL, b0, b1, b2, b3]
  by_cases e34 : s = ⟨#[61, 60]⟩
  · subst e34; simp [cond_t, cond_f, -vcC_cond, builtB, inL, b0, b1, b2, b3]
  by_cases e35 : s = ⟨#[62, 61]⟩
  · subst e35; simp [cond_t, cond_f, -vcC_cond, builtB, inL, b0, b1, b2, b3]
  by_cases e36 : s = ⟨#[97, 116, 111, 109, 95, 108, 101, 110, 103, 116, 104]⟩
  · subst e36; simp [cond_t, cond_f, -vcC_cond, builtB, inL, b0, b1, b2, b3]
  by_cases e37 : s = ⟨#[99, 97, 116, 99, 104]⟩
  · subst e37; simp [cond_t, cond_f, -vcC_cond, builtB, inL, b0, b1, b2, b3]
  by_cases e38 : s = ⟨#[102, 105, 110, 100, 97, 108, 108]⟩
  · subst e38; simp [cond_t, cond_f, -vcC_cond, builtB, inL, b0, b1, b2, b3]
  by_cases e39 : s = ⟨#[99, 111, 109, 112, 97, 114, 101]⟩
  · subst e39; simp [cond_t, cond_f, -vcC_cond, builtB, inL, b0, b1, b2, b3]
  by_cases e40 : s = ⟨#[102, 117, 110, 99, 116, 111, 114]⟩
  · subst e40; simp [cond_t, cond_f, -vcC_cond, builtB, inL, b0, b1, b2, b3]
  by_cases e41 : s = ⟨#[97, 114, 103]⟩
  · subst e41; simp [cond_t, cond_f, -vcC_cond, builtB, inL, b0, b1, b2, b3]
  by_cases e42 : s = ⟨#[99, 97, 108, 108]⟩
  · subst e42; simp [cond_t, cond_f, -vcC_cond, builtB, inL, b0, b1, b2, b3]
  by_cases e43 : s = ⟨#[58, 45]⟩
  · subst e43; simp [cond_t, cond_f, -vcC_cond, builtB, inL, b0, b1, b2, b3]
  simp [cond_t, cond_f, -vcC_cond, builtB, inL, b0, b1, b2, b3, e0, e1, e2, e3, e4, e5, e6, e7, e8, e9, e10, e11, e12, e13, e14, e15, e16, e17, e18, e19, e20, e21, e22, e23, e24, e25, e26, e27, e28, e29, e30, e31, e32, e33, e34, e35, e36, e37, e38, e39, e40, e41, e42, e43, Ne.symm e0, Ne.symm e1, Ne.symm e2, Ne.symm e3, Ne.symm e4, Ne.symm e5, Ne.symm e6, Ne.symm e7, Ne.symm e8, Ne.symm e9, Ne.symm e10, Ne.symm e11, Ne.symm e12, Ne.symm e13, Ne.symm e14, Ne.symm e15, Ne.symm e16, Ne.symm e17, Ne.symm e18, Ne.symm e19, Ne.symm e20, Ne.symm e21, Ne.symm e22, Ne.symm e23, Ne.symm e24, Ne.symm e25, Ne.symm e26, Ne.symm e27, Ne.symm e28, Ne.symm e29, Ne.symm e30, Ne.symm e31, Ne.symm e32, Ne.symm e33, Ne.symm e34, Ne.symm e35, Ne.symm e36, Ne.symm e37, Ne.symm e38, Ne.symm e39, Ne.symm e40, Ne.symm e41, Ne.symm e42, Ne.symm e43]
end Go.T1
end

section
open Go Go.Ab Go.Proofs
namespace Go.T1
def r1 : List ByteArray := [⟨#[92, 43]⟩, ⟨#[99, 97, 108, 108]⟩, ⟨#[116, 104, 114, 111, 119]⟩, ⟨#[118, 97, 114]⟩, ⟨#[110, 111, 110, 118, 97, 114]⟩, ⟨#[97, 116, 111, 109]⟩, ⟨#[105, 110, 116, 101, 103, 101, 114]⟩, ⟨#[99, 111, 109, 112, 111, 117, 110, 100]⟩, ⟨#[97, 115, 115, 101, 114, 116, 122]⟩, ⟨#[97, 115, 115, 101, 114, 116, 97]⟩, ⟨#[114, 101, 116, 114, 97, 99, 116]⟩, ⟨#[119, 114, 105, 116, 101]⟩, ⟨#[58, 45]⟩]
def r2 : List ByteArray := [⟨#[44]⟩, ⟨#[59]⟩, ⟨#[45, 62]⟩, ⟨#[99, 97, 108, 108]⟩, ⟨#[61]⟩, ⟨#[92, 61]⟩, ⟨#[61, 61]⟩, ⟨#[92, 61, 61]⟩, ⟨#[64, 60]⟩, ⟨#[64, 62]⟩, ⟨#[64, 61, 60]⟩, ⟨#[64, 62, 61]⟩, ⟨#[61, 46, 46]⟩, ⟨#[99, 111, 112, 121, 95, 116, 101, 114, 109]⟩, ⟨#[105, 115]⟩, ⟨#[61, 58, 61]⟩, ⟨#[61, 92, 61]⟩, ⟨#[60]⟩, ⟨#[62]⟩, ⟨#[61, 60]⟩, ⟨#[62, 61]⟩, ⟨#[97, 116, 111, 109, 95, 108, 101, 110, 103, 116, 104]⟩, ⟨#[58, 45]⟩]
def r3 : List ByteArray := [⟨#[99, 97, 108, 108]⟩, ⟨#[99, 97, 116, 99, 104]⟩, ⟨#[102, 105, 110, 100, 97, 108, 108]⟩, ⟨#[99, 111, 109, 112, 97, 114, 101]⟩, ⟨#[102, 117, 110, 99, 116, 111, 114]⟩, ⟨#[97, 114, 103]⟩]
theorem inL_mem (s : ByteArray) : ∀ l : List ByteArray, inL s l = true ↔ s ∈ l
  | [] => by simp [inL]
  | x :: l => by simp only [inL, Bool.or_eq_true, decide_eq_true_eq, List.mem_cons, inL_mem s l]; exact or_congr ⟨Eq.symm, Eq.symm⟩ Iff.rfl
instance memDec (s : ByteArray) (l : List ByteArray) : Decidable (s ∈ l) := decidable_of_iff _ (inL_mem s l)
def rB (s : ByteArray) (n : Int) : Bool := if n = 0 then inL s b0 else if n = 1 then inL s r1 else if n = 2 then inL s r2 else if n = 3 then inL s r3 else decide (n = 4) && decide (s = ⟨#[99, 97, 108, 108]⟩)
def cAll : ByteArray := ⟨#[99, 97, 108, 108]⟩
def cNeck : ByteArray := ⟨#[58, 45]⟩
theorem r1_iff (s : ByteArray) : s ∈ r1 ↔ s ∈ b1 ∨ s = cAll ∨ s = cNeck := by
  have h1 : ∀ s ∈ r1, s ∈ b1 ∨ s = cAll ∨ s = cNeck := by decide +kernel
  have h2 : ∀ s ∈ b1, s ∈ r1 := by decide +kernel
  have h3 : cAll ∈ r1 := by decide +kernel
  have h4 : cNeck ∈ r1 := by decide +kernel
  exact ⟨h1 s, fun h => h.elim (h2 s) fun h => h.elim (fun e => e ▸ h3) (fun e => e ▸ h4)⟩
theorem r2_iff (s : ByteArray) : s ∈ r2 ↔ s ∈ b2 ∨ s = cAll ∨ s = cNeck := by
  have h1 : ∀ s ∈ r2, s ∈ b2 ∨ s = cAll ∨ s = cNeck := by decide +kernel
  have h2 : ∀ s ∈ b2, s ∈ r2 := by decide +kernel
  have h3 : cAll ∈ r2 := by decide +kernel
  have h4 : cNeck ∈ r2 := by decide +kernel
  exact ⟨h1 s, fun h => h.elim (h2 s) fun h => h.elim (fun e => e ▸ h3) (fun e => e ▸ h4)⟩
theorem r3_iff (s : ByteArray) : s ∈ r3 ↔ s ∈ b3 ∨ s = cAll := by
  have h1 : ∀ s ∈ r3, s ∈ b3 ∨ s = cAll := by decide +kernel
  have h2 : ∀ s ∈ b3, s ∈ r3 := by decide +kernel
  have h3 : cAll ∈ r3 := by decide +kernel
  exact ⟨h1 s, fun h => h.elim (h2 s) fun e => e ▸ h3⟩
theorem b0_not : ∀ x ∈ b0, x ∉ b1 ∧ x ∉ b2 ∧ x ∉ b3 ∧ x ≠ cAll ∧ x ≠ cNeck := by decide +kernel
theorem b1_not : ∀ x ∈ b1, x ∉ b0 ∧ x ∉ b2 ∧ x ∉ b3 ∧ x ≠ cAll ∧ x ≠ cNeck := by decide +kernel
theorem b2_not : ∀ x ∈ b2, x ∉ b0 ∧ x ∉ b1 ∧ x ∉ b3 ∧ x ≠ cAll ∧ x ≠ cNeck := by decide +kernel
theorem b3_not : ∀ x ∈ b3, x ∉ b0 ∧ x ∉ b1 ∧ x ∉ b2 ∧ x ≠ cAll ∧ x ≠ cNeck := by decide +kernel
theorem inL_d (s : ByteArray) (l : List ByteArray) : inL s l = decide (s ∈ l) := by rw [Bool.eq_iff_iff, inL_mem]; simp
theorem rB_eq (s : ByteArray) (n : Int) : rB s n = builtB s n := by
  have hc : cAll ∉ b0 ∧ cAll ∉ b1 ∧ cAll ∉ b2 ∧ cAll ∉ b3 ∧ cAll ≠ cNeck := by decide +kernel
  have hn : cNeck ∉ b0 ∧ cNeck ∉ b1 ∧ cNeck ∉ b2 ∧ cNeck ∉ b3 ∧ cNeck ≠ cAll := by decide +kernel
  unfold rB builtB
  rw [show (⟨#[99, 97, 108, 108]⟩ : ByteArray) = cAll from rfl, show (⟨#[58, 45]⟩ : ByteArray) = cNeck from rfl]
  simp only [inL_d, r1_iff, r2_iff, r3_iff]
  by_cases h0 : s ∈ b0
  · obtain ⟨a, b, c, d, e⟩ := b0_not s h0
    by_cases n0 : n = 0
    · simp [h0, n0]
    · simp [h0, n0, a, b, c, d, e]
  by_cases h1 : s ∈ b1
  · obtain ⟨a, b, c, d, e⟩ := b1_not s h1
    by_cases n0 : n = 0
    · subst n0; simp [h0, h1]
    by_cases n1 : n = 1
    · simp [h0, h1, n1]
    · simp [h0, h1, n0, n1, a, b, c, d, e]
  by_cases h2 : s ∈ b2
  · obtain ⟨a, b, c, d, e⟩ := b2_not s h2
    by_cases n0 : n = 0
    · subst n0; simp [h0, h1, h2]
    by_cases n1 : n = 1
    · subst n1; simp [h0, h1, h2, d, e]
    by_cases n2 : n = 2
    · simp [h0, h1, h2, n2]
    · simp [h0, h1, h2, n0, n1, n2, a, b, c, d, e]
  by_cases h3 : s ∈ b3
  · obtain ⟨a, b, c, d, e⟩ := b3_not s h3
    by_cases n0 : n = 0
    · subst n0; simp [h0, h1, h2, h3]
    by_cases n1 : n = 1
    · subst n1; simp [h0, h1, h2, h3, d, e]
    by_cases n2 : n = 2
    · subst n2; simp [h0, h1, h2, h3, d, e]
    by_cases n3 : n = 3
    · simp [h0, h1, h2, h3, n3]
    · simp [h0, h1, h2, h3, n0, n1, n2, n3, a, b, c, d, e]
  by_cases h4 : s = cAll
  · subst h4
    by_cases n0 : n = 0
    · subst n0; simp [h0, h1, h2, h3]
    by_cases n1 : n = 1
    · subst n1; simp [h0, h1, h2, h3]
    by_cases n2 : n = 2
    · subst n2; simp [h0, h1, h2, h3]
    by_cases n3 : n = 3
    · subst n3; simp [h0, h1, h2, h3]
    · simp [h0, h1, h2, h3, n0, n1, n2, n3]
      rw [Bool.eq_iff_iff]; simp; omega
  by_cases h5 : s = cNeck
  · subst h5
    by_cases n0 : n = 0
    · subst n0; simp [h0, h1, h2, h3, h4]
    by_cases n1 : n = 1
    · subst n1; simp [h0, h1, h2, h3, h4]
    by_cases n2 : n = 2
    · subst n2; simp [h0, h1, h2, h3, h4]
    by_cases n3 : n = 3
    · subst n3; simp [h0, h1, h2, h3, h4]
    · simp [h0, h1, h2, h3, h4, n0, n1, n2, n3]
  simp [h0, h1, h2, h3, h4, h5]
set_option maxRecDepth 100000 in
set_option maxHeartbeats 8000000 in
theorem rBuiltin_c (s : ByteArray) (n : Int) : PureCall T Try.prog 26 [.sc (.string s), .sc (.int .i64 n)] (.sc (.bool (builtB s n))) := by
  rw [← rB_eq]
  refine PureCall.of_vc hT [] [] follows Try.call26 Try.func26 rfl (by kernel_rfl) (by simp [AV.pure, AV.pureL]) (by simp [AV.pure]) ?_
  unfold Try.f26
  simp [cond_t, cond_f]
  unfold rB
  refine ⟨fun n0 => ⟨rfl, vcCall_at (in_c s b0) ?_⟩, fun n0 => ⟨fun n1 => ⟨rfl, vcCall_at (in_c s r1) ?_⟩, fun n1 => ⟨fun n2 => ⟨rfl, vcCall_at (in_c s r2) ?_⟩, fun n2 => ⟨fun n3 => ⟨rfl, vcCall_at (in_c s r3) ?_⟩, fun n3 => ?_⟩⟩⟩⟩
  · simp [n0]
  · simp [n1]
  · simp [n2]
  · simp [n3]
  · simp [n0, n1, n2, n3]
end Go.T1
end

section
open Go Go.Ab Go.Proofs
namespace Go.T1
theorem isT_comma {t : Tm} (h : isT ⟨#[44]⟩ 2 t = true) : ∃ n a b, t = .mk 4 n ⟨#[44]⟩ [a, b] := by
  obtain ⟨k, n, s, l⟩ := t
  simp only [isT, Bool.and_eq_true, decide_eq_true_eq] at h
  obtain ⟨rfl, rfl, h⟩ := h
  obtain ⟨a, b, rfl⟩ := Tm.len2 (by omega : l.length = 2)
  exact ⟨n, a, b, rfl⟩
theorem flat_comma (n : Int) (a b : Tm) : (Tm.mk 4 n ⟨#[44]⟩ [a, b]).flat = a.flat ++ b.flat := by simp [Tm.flat, Tm.flatL]
theorem flat_true {k n : Int} {s : ByteArray} {l : List Tm} (h : k = 3) (h2 : s = ⟨#[116, 114, 117, 101]⟩) : (Tm.mk k n s l).flat = [] := by
  subst h h2; simp [Tm.flat]
theorem flat_one {k n : Int} {s : ByteArray} {l : List Tm} (h : isT ⟨#[44]⟩ 2 (.mk k n s l) = false) (h2 : k = 3 → ¬ s = ⟨#[116, 114, 117, 101]⟩) : (Tm.mk k n s l).flat = [.mk k n s l] := by
  unfold Tm.flat
  rw [if_neg, if_neg (fun q => h2 q.1 q.2)]
  rintro ⟨rfl, rfl, h3⟩
  simp only [isT, h3] at h
  simp at h
theorem cut_trow (N : Nat) (S : St) (g : Nat) (al : Bool) (l : List Tm) : Blk.cut N S (.row 24 g al (Tm.cellsL 24 l)) = .row 24 g al (Tm.cellsL 24 l) := by simp [Blk.cut]
/-- A body's terms, behind others. -/
def flatQ (st : St) (id : Nat) (L : List Tm) (r : AV) (st' : St) : Prop := ∃ g' al', r = .own id g' ∧ st' = st.set id (.row 24 g' al' (Tm.cellsL 24 L))
def flatI (t : Tm) (L : List Tm) (id : Nat) (st : St) (m : Nat) (σ : Slots) (st' : St) : Prop := ∃ (t' : Tm) (pre : List Tm) (g' : Nat) (al' : Bool), m = t'.size ∧ t'.size ≤ t.size ∧ pre.length + t'.size ≤ t.size ∧ pre ++ t'.flat = t.flat ∧ σ 1 = .own id g' ∧ σ 2 = .ptr st.length 0 ∧ st' = st.set id (.row 24 g' al' (Tm.cellsL 24 (L ++ pre))) ++ [.cells (t'.cells 24)]
set_option maxRecDepth 100000 in
theorem flat_c (N : Nat) : ∀ (t : Tm) (id g : Nat) (al : Bool) (L : List Tm) (st : St), t.size ≤ N → st[id]? = some (.row 24 g al (Tm.cellsL 24 L)) → (L.length + t.size) * 56 ≤ 140737488355328 →
    ICall T Try.prog 37 [t.av 24, .own id g] st (flatQ st id (L ++ t.flat)) := by
  induction N with
  | zero => intro t id g al L st h; have := Tm.size_pos t; omega
  | succ N ih =>
  intro t id g al L st hN hid hbd
  have hidl : id < st.length := (List.getElem?_eq_some_iff.1 hid).1
  have h0 : st.set id (.row 24 g al (Tm.cellsL 24 L)) = st := by
    apply List.ext_getElem?
    intro i
    by_cases hi : i = id
    · subst hi; rw [List.getElem?_set_self hidl, hid]
    · rw [List.getElem?_set_ne (Ne.symm hi)]
  have h1 : ∀ b c, (st.set id b ++ [c])[id]? = some b := fun b c => by rw [List.getElem?_append_left (by simpa using hidl), List.getElem?_set_self hidl]
  have h2 : ∀ b c, (st.set id b ++ [c])[st.length]? = some c := fun b c => by rw [List.getElem?_append_right (by simp)]; simp
  have h3 : ∀ b c d, (st.set id b ++ [c]).set id d = st.set id d ++ [c] := fun b c d => by rw [List.set_append_left _ _ (by simpa using hidl), List.set_set]
  have h4 : ∀ b c d, (st.set id b ++ [c]).set st.length d = st.set id b ++ [d] := fun b c d => by rw [List.set_append_right _ _ (by simp)]; simp
  refine ICall.of_vc hT [2] [(2, 5)] follows Try.call37 Try.func37 rfl (by kernel_rfl) fun hfix => ?_
  unfold Try.f37
  simp
  refine vcC_loop [] (flatI t L id st) t.size ⟨t, [], g, al, rfl, Nat.le_refl _, by simp, by simp, by simp, by simp, by simp [h0]⟩ ?_
  rintro m σ st' ⟨t', pre, g', al', rfl, hle, hpl, hfl, s1, s2, rfl⟩
  simp [s1, s2, h1, h2, h3, h4]
  refine vcCall_at (is_c t' _ _) ?_
  simp [s1, s2, h1, h2, h3, h4]
  refine ⟨fun h => ?_, fun h => ?_⟩
  · obtain ⟨n, a, b, rfl⟩ := isT_comma h
    rw [flat_comma] at hfl
    simp only [Tm.size, Tm.sizeL] at hle hpl
    simp [Tm.cells, Tm.cellsL, h1, h2, h3, h4]
    refine vcICall_of (ih a id g' al' (L ++ pre) _ (by omega) (by simpa using h1 _ _) (by simp; omega)) ?_
    rintro r st' ⟨g2, al2, rfl, rfl⟩ _
    have hap := Tm.flat_size a
    have := length_le_sizeL a.flat
    simp [s1, s2, h1, h2, h3, h4, Tm.cells, Tm.cellsL]
    exact ⟨b.size, by simp [Tm.size, Tm.sizeL]; omega, b, pre ++ a.flat, g2, al2, rfl, by omega, by simp; omega, by simp [hfl], by simp, by simp [s2], by simp⟩
  · obtain ⟨k, n, s, l⟩ := t'
    simp [Tm.cells, h1, h2, h3, h4, s1, s2]
    refine ⟨fun e1 e2 => ?_, fun e => ⟨?_, ?_⟩⟩
    · rw [flat_true e1 e2] at hfl
      refine endP_mk (.own id g') (by simp) (by simp [hidl]) ⟨g', al', rfl, ?_⟩
      rw [← Tm.cellsL_append, cutSt_set hfix, cut_trow, ← hfl]
      simp
    · simp only [Tm.size] at hpl; omega
    · rw [flat_one h e] at hfl
      refine endP_mk (.own id (g' + 1)) (by simp) (by simp [hidl]) ⟨g' + 1, true, rfl, ?_⟩
      rw [show (Tm.cellsL 24 L ++ (Tm.cellsL 24 pre ++ [[AV.sc (.int .i64 k), .sc (.int .i64 n), .sc (.string s), .lst 24 (Tm.cellsL 24 l)]])) = Tm.cellsL 24 (L ++ (pre ++ [.mk k n s l])) by simp [Tm.cellsL, Tm.cells]]
      rw [cutSt_set hfix, cut_trow, ← hfl]

/-- A body's terms. -/
theorem flat0_c (t : Tm) (ht : t.small) : PureCall T Try.prog 37 [t.av 24, .nils] (.lst 24 (Tm.cellsL 24 t.flat)) := by
  unfold Tm.small at ht
  have h := ICall.nils (pre := [t.av 24]) (post := []) (st := []) 24 (flat_c t.size t 0 0 false [] [.row 24 0 false []] (Nat.le_refl _) (by simp [Tm.cellsL]) (by simp; omega))
  refine PureCall.of_ICall h (by simp [AV.pure, AV.pureL]) (by simp [AV.pure]) ?_
  rintro r' st' ⟨r0, st0, ⟨g', al', rfl, rfl⟩, rfl, rfl⟩
  simp [AV.cut]
end Go.T1
end

section
open Go Go.Ab Go.Proofs
namespace Go.T1
def rowOf (l : List Tm) : Blk := .row 24 0 (!l.isEmpty) (Tm.cellsL 24 l)
def rflatR (st : St) (l1 l2 : List Tm) (i : Nat) (r : AV) (st' : St) : Prop :=
  if i = 4 then r = .own st.length 0 ∧ st' = st ++ [rowOf l1] else r = .own (st.length + 1) 0 ∧ st' = st ++ [rowOf l1, rowOf l2]
set_option maxRecDepth 100000 in
theorem rflat_i : ∀ (t : Tm), t.small → ∀ st : St, ICall T Try.prog 42 [t.av 24] st (fun r st' => r = .own st.length 0 ∧ st' = st ++ [rowOf t.flat]) := by
  refine Tm.ind fun k n s l ih => ?_
  intro ht st
  refine ICall.renum (by simp) (ICall.ownR (Q' := fun r st' => ∃ id g, st.length ≤ id ∧ r = .own id g ∧ st'[id]? = some (.row 24 g (!(Tm.mk k n s l).flat.isEmpty) (Tm.cellsL 24 (Tm.mk k n s l).flat)) ∧ st'.take st.length = st) 24
    (ICall.of_vcU (Q := fun r st' => (∃ id g, st.length ≤ id ∧ r = .own id g ∧ st'[id]? = some (.row 24 g (!(Tm.mk k n s l).flat.isEmpty) (Tm.cellsL 24 (Tm.mk k n s l).flat)) ∧ st'.take st.length = st) ∨ (r = .nils ∧ (Tm.mk k n s l).flat = [] ∧ st' = st)) hT []
      [(2, 4), (2, 9), (200002, 0), (200002, 1), (200002, 2), (200002, 3), (200002, 5), (200002, 6), (200002, 7), (200002, 8), (200002, 4), (200002, 9), (200002, 10), (200002, 11), (5, 1)] follows Try.call42 Try.func42 rfl (by kernel_rfl) fun hfix => ?_) ?_) (fun r st' h => h)
  · unfold Try.f42
    simp [Tm.cells]
    refine vcCall_at (rcomp_c (.mk k n s l) _ _) ?_
    simp
    refine ⟨fun h => ?_, fun h => ?_⟩
    · obtain ⟨n, a, b, e⟩ := isT_comma h
      cases e
      refine ⟨rflatR st a.flat b.flat, ?_⟩
      have ha : a.small := by unfold Tm.small at ht ⊢; simp only [Tm.size, Tm.sizeL] at ht; omega
      have hb : b.small := by unfold Tm.small at ht ⊢; simp only [Tm.size, Tm.sizeL] at ht; omega
      simp (decide := true) [Tm.cells, Tm.cellsL]
      refine ⟨by simp (decide := true) [Tm.cells, Tm.cellsL], ?_⟩; simp (decide := true) [Tm.cells, Tm.cellsL]
      refine ⟨by simp (decide := true) [Tm.cells, Tm.cellsL], ?_⟩; simp (decide := true) [Tm.cells, Tm.cellsL]
      refine ⟨by simp (decide := true) [Tm.cells, Tm.cellsL], ?_⟩; simp (decide := true) [Tm.cells, Tm.cellsL]
      refine ⟨by simp (decide := true) [Tm.cells, Tm.cellsL], ?_⟩; simp (decide := true) [Tm.cells, Tm.cellsL]
      refine ⟨by simp (decide := true) [Tm.cells, Tm.cellsL], ?_⟩; simp (decide := true) [Tm.cells, Tm.cellsL]
      refine ⟨by simp (decide := true) [Tm.cells, Tm.cellsL], ?_⟩; simp (decide := true) [Tm.cells, Tm.cellsL]
      refine ⟨by simp (decide := true) [Tm.cells, Tm.cellsL], ?_⟩; simp (decide := true) [Tm.cells, Tm.cellsL]
      refine ⟨by simp (decide := true) [Tm.cells, Tm.cellsL], ?_⟩; simp (decide := true) [Tm.cells, Tm.cellsL]
      refine vcThenQ_of (fun r st' => r = .own st.length 0 ∧ st' = st ++ [rowOf a.flat]) rfl (by simp) rfl (by simp [vcI]; exact ih a (by simp) ha st) (fun r st' h => by simpa [rflatR] using h) ?_
      rintro r st' ⟨rfl, rfl⟩ _
      simp (decide := true) [Tm.cells, Tm.cellsL]
      refine vcThenQ_of (fun r st' => r = .own (st.length + 1) 0 ∧ st' = st ++ [rowOf a.flat, rowOf b.flat]) rfl (by simp) rfl (by simp [vcI]; exact (ih b (by simp) hb _).mono fun r st' h => by simpa using h) (fun r st' h => by simpa [rflatR] using h) ?_
      rintro r st' ⟨rfl, rfl⟩ _
      have i0 : (st ++ [rowOf a.flat, rowOf b.flat])[st.length]? = some (rowOf a.flat) := by simp
      have i1 : (st ++ [rowOf a.flat, rowOf b.flat])[st.length + 1]? = some (rowOf b.flat) := by simp
      simp (decide := true) [Tm.cells, Tm.cellsL, i0, i1, rowOf]
      have f1 := Tm.flat_size a
      have f2 := Tm.flat_size b
      have f3 := length_le_sizeL a.flat
      have f4 := length_le_sizeL b.flat
      unfold Tm.small at ha hb
      refine ⟨by omega, ?_⟩
      refine ⟨by simp (decide := true), ?_⟩; simp (decide := true)
      refine ⟨by simp (decide := true), ?_⟩; simp (decide := true)
      refine ⟨st.length, Nat.le_refl _, 1, ⟨rfl, rfl⟩, ?_⟩
      rw [flat_comma]
      cases hx : a.flat <;> cases hy : b.flat <;> simp [Tm.cellsL]
    · refine ⟨fun e1 e2 => ⟨.nils, by simp, .inr ⟨rfl, flat_true e1 e2⟩⟩, fun e => ⟨st.length, Nat.le_refl _, 0, ⟨rfl, rfl⟩, ?_⟩⟩
      rw [flat_one h e]
      simp [Tm.cellsL, Tm.cells]
  · rintro r st' (h | ⟨rfl, h, rfl⟩)
    · exact .inl h
    · refine .inr ⟨rfl, st'.length, 0, Nat.le_refl _, rfl, ?_, ?_⟩
      · rw [h]; simp [Tm.cellsL]
      · simp
theorem rflat_c (t : Tm) (ht : t.small) : PureCall T Try.prog 42 [t.av 24] (.lst 24 (Tm.cellsL 24 t.flat)) := by
  refine PureCall.of_ICall (ICall.cutR (rflat_i t ht [])) (by simp [AV.pure, AV.pureL]) (by simp [AV.pure]) ?_
  rintro r' st' ⟨r0, st0, ⟨rfl, rfl⟩, rfl, rfl⟩
  simp [AV.cut, rowOf]
end Go.T1
end

section
open Go Go.Ab Go.Proofs
namespace Go.T1
@[simp] theorem cells_head (t : Tm) : (t.cells 24).head? = some (.sc (.int .i64 t.kind)) := by cases t; rfl
@[simp] theorem cells_ne (t : Tm) : ¬ t.cells 24 = [] := by cases t; simp [Tm.cells]
def bodyA (b : BR) : AV := .tup [.lst 51 (glsL b.goals), b.ball.av 24, .sc (.bool b.ok)]
@[simp] theorem bodyA_pure (b : BR) : (bodyA b).pure = true := by simp [bodyA, AV.pure, AV.pureL]
def zT : List AV := [.sc (.int .i64 0), .sc (.int .i64 0), .sc (.string .empty), .nils]
theorem zeroT_frz (st : St) : leV.leL (AV.frzL st zT) (Tm.zero.cells 24) := by simp [zT, Tm.zero, Tm.cells, Tm.cellsL]; rfl
def bodyI (l : List Tm) (a b c d e : Nat) (m : Nat) (σ : Slots) (st : St) : Prop := ∃ (i g : Nat) (al : Bool), m = l.length - i ∧ i ≤ l.length ∧ (l.take i).find? (fun x => decide (x.kind = 2)) = none ∧ σ a = .lst 24 (Tm.cellsL 24 l) ∧ (b = 99 ∨ σ b = .sc (.int .i64 l.length)) ∧ σ c = .sc (.int .i64 i) ∧ σ d = .ptr 0 0 ∧ σ e = .own 1 g ∧
  st = [.cells zT, .row 51 g al (glsL ((l.take i).map goalG))]
theorem goalsR_bad {l : List Tm} {i : Nat} (hi : i < l.length) (h : (l.take i).find? (fun x => decide (x.kind = 2)) = none) (hk : l[i].kind = 2) : goalsR l = ⟨[], callableT l[i], false⟩ := by
  have e : l.find? (fun x => decide (x.kind = 2)) = some l[i] := by
    conv => lhs; rw [← List.take_append_drop i l]
    rw [List.find?_append, h, List.drop_eq_getElem_cons hi, List.find?_cons]
    simp [hk]
  unfold goalsR
  rw [e]
theorem goalsR_good {l : List Tm} (h : l.find? (fun x => decide (x.kind = 2)) = none) : goalsR l = ⟨l.map goalG, Tm.zero, true⟩ := by
  unfold goalsR
  rw [h]
theorem find_take {l : List Tm} {i : Nat} (hi : i < l.length) (h : (l.take i).find? (fun x => decide (x.kind = 2)) = none) (hk : l[i].kind ≠ 2) : (l.take (i + 1)).find? (fun x => decide (x.kind = 2)) = none := by
  rw [List.take_add_one, List.find?_append, h]
  simp [hi, hk]
theorem kind_eq (k n : Int) (s : ByteArray) (l : List Tm) : (Tm.mk k n s l).kind = k := rfl
set_option maxRecDepth 100000 in
theorem Body_c (t : Tm) (ht : t.small) : PureCall T Try.prog 15 [t.av 24] (bodyA (bodyR t)) := by
  have hfs := Tm.flat_size t
  have hfl := length_le_sizeL t.flat
  have hsm : t.size ≤ 900000000 := ht
  refine PureCall.of_vc hT [] [] follows Try.call15 Try.func15 rfl (by kernel_rfl) (by simp [AV.pure, AV.pureL]) (by simp) ?_
  unfold Try.f15
  simp
  refine vcCall_at (check_c t ht) ?_
  simp
  refine ⟨fun h => ?_, fun h => ?_⟩
  · refine vcCall_at size_c ?_
    simp [bodyA, bodyR, h]
  refine vcCall_at (Clone_c t ht) ?_
  rw [if_pos h]
  simp
  refine vcCall_at (flat0_c t ht) ?_
  simp
  intro hb1 hb2
  refine ⟨fun h64 => ?_, fun h64 => ?_⟩
  · refine vcCall_at size_c ?_
    have e0 : bodyR t = ⟨[], sizeT, false⟩ := by unfold bodyR; rw [if_neg (by simp [h]), if_pos (by omega)]
    rw [e0]
    simp [bodyA]
  intro _ _
  have e0 : bodyR t = goalsR t.flat := by unfold bodyR; rw [if_neg (by simp [h]), if_neg (by omega)]
  rw [e0]
  generalize t.flat = l at *
  refine vcC_loop [(51, .slot 6)] (bodyI l 20 21 22 3 6) l.length ?_ ?_
  · simp
    exact ⟨0, 0, false, by simp [zT, glsL]⟩
  rintro m σ st ⟨i, g, al, rfl, hi, hn, s20, s21, s22, s3, s6, rfl⟩
  simp at s21
  rcases Nat.lt_or_ge i l.length with hlt | hge
  · simp [s20, s21, s22, s3, s6, hlt]
    refine ⟨fun hk => ?_, fun hk => ?_⟩
    · refine vcCall_at (type_c _ _) ?_
      rw [goalsR_bad hlt hn hk]
      simp [s20, s21, s22, s3, s6, zT, bodyA, callableT]
    · refine vcCall_at (kind_c _) ?_
      simp [s20, s21, s22, s3, s6, zT]
      refine ⟨by omega, by unfold i64ok; omega, l.length - (i + 1), by omega, i + 1, g + 1, true, rfl, by omega, find_take hlt hn hk, by simp [s20], .inr (by simp [s21]), by simp, by simp [s3], by simp, ?_⟩
      simp [hlt, glsL, zT]
      rw [List.take_add_one]
      simp [hlt, goalG, Gl.cells]
  · simp [s20, s21, s22, s3, s6, Nat.not_lt.2 hge]
    rw [List.take_of_length_le hge] at hn
    refine ⟨by simp [zT], ?_⟩
    rw [goalsR_good hn, List.take_of_length_le (by simpa using hge)]
    simp [bodyA, Tm.zero, Tm.cells, Tm.cellsL]
    rfl
set_option maxRecDepth 100000 in
theorem rBody_c (t : Tm) (ht : t.small) : PureCall T Try.prog 16 [t.av 24] (bodyA (bodyR t)) := by
  have hfs := Tm.flat_size t
  have hfl := length_le_sizeL t.flat
  have hsm : t.size ≤ 900000000 := ht
  refine PureCall.of_vc hT [] [] follows Try.call16 Try.func16 rfl (by kernel_rfl) (by simp [AV.pure, AV.pureL]) (by simp) ?_
  unfold Try.f16
  simp
  refine vcCall_at (rCheck_c t ht) ?_
  simp
  refine ⟨fun h => ?_, fun h => ?_⟩
  · refine vcCall_at rSizeB_c ?_
    simp [bodyA, bodyR, h]
  refine vcCall_at (rflat_c t ht) ?_
  simp
  intro hb1 hb2
  refine ⟨fun h64 => ?_, fun h64 => ?_⟩
  · refine vcCall_at rSizeB_c ?_
    have e0 : bodyR t = ⟨[], sizeT, false⟩ := by unfold bodyR; rw [if_neg (by simp [h]), if_pos (by omega)]
    rw [e0]
    simp [bodyA]
  have e0 : bodyR t = goalsR t.flat := by unfold bodyR; rw [if_neg (by simp [h]), if_neg (by omega)]
  rw [e0]
  generalize t.flat = l at *
  refine vcC_loop [(51, .slot 6)] (bodyI l 5 99 7 3 6) l.length ?_ ?_
  · simp
    exact ⟨0, 0, false, by simp [zT, glsL]⟩
  rintro m σ st ⟨i, g, al, rfl, hi, hn, s5, s21, s7, s3, s6, rfl⟩
  rcases Nat.lt_or_ge i l.length with hlt | hge
  · simp [s5, s7, s3, s6, hlt]
    refine fun _ _ => ⟨fun hk => ?_, fun hk => ?_⟩
    · refine vcCall_at (rType_c _ _) ?_
      rw [goalsR_bad hlt hn hk]
      simp [s5, s7, s3, s6, zT, bodyA, callableT]
    · refine vcCall_at (goal_c _) ?_
      simp [s5, s7, s3, s6, zT]
      refine ⟨by omega, by unfold i64ok; omega, l.length - (i + 1), by omega, i + 1, g + 1, true, rfl, by omega, find_take hlt hn hk, by simp [s5], .inl rfl, by simp, by simp [s3], by simp, ?_⟩
      simp [hlt, glsL, zT]
      rw [List.take_add_one]
      simp [hlt, goalG, Gl.cells]
  · simp [s5, s7, s3, s6, Nat.not_lt.2 hge]
    rw [List.take_of_length_le hge] at hn
    intro _ _
    refine ⟨by simp [zT], ?_⟩
    rw [goalsR_good hn, List.take_of_length_le (by simpa using hge)]
    simp [bodyA, Tm.zero, Tm.cells, Tm.cellsL]
    rfl
end Go.T1
end

section
open Go Go.Ab Go.Proofs
namespace Go.T1
set_option maxRecDepth 100000 in
theorem callable_c (t : Tm) (ht : t.small) : PureCall T Try.prog 18 [t.av 24] (.sc (.bool (decide (t.check = 0) && decide (3 ≤ t.kind)))) := by
  refine PureCall.of_vc hT [] [] follows Try.call18 Try.func18 rfl (by kernel_rfl) (by simp [AV.pure, AV.pureL]) (by simp [AV.pure]) ?_
  unfold Try.f18
  simp
  refine vcCall_at (check_c t ht) ?_
  simp
set_option maxRecDepth 100000 in
theorem head_c (t : Tm) (ht : t.small) : PureCall T Try.prog 38 [t.av 24] (.tup [(headR t).1.av 24, .sc (.bool (headR t).2)]) := by
  obtain ⟨k, n, s, l⟩ := t
  refine PureCall.of_vc hT [] [] follows Try.call38 Try.func38 rfl (by kernel_rfl) (by simp [AV.pure, AV.pureL]) (by simp [AV.pure, AV.pureL]) ?_
  unfold Try.f38
  simp [Tm.cells]
  refine ⟨fun h => vcCall_of error0_c (by simp) ?_, fun h1 => ⟨fun h => vcCall_at (type_c _ (.mk k n s l)) ?_, fun h2 hb1 hb2 => vcCall_at (Builtin_c s l.length) ?_⟩⟩
  · simp [headR, h]
  · subst h; simp [headR, callableT]
  · simp
    refine ⟨fun h => vcCall_at (ind_c (.mk k n s l) ht) ?_, fun h => ?_⟩
    · simp
      refine vcCall_at (Comp_c _ [indT (.mk k n s l)]) ?_
      simp [compT]
      refine vcCall_at (error1_c (.mk 4 0 _ [indT (.mk k n s l)])) ?_
      simp [headR, h, h1, h2, permT]
    · simp [headR, h, h1, h2, Tm.zero, Tm.cells, Tm.cellsL]
      rfl
theorem zero_empty : (ByteArray.empty : ByteArray) = ⟨#[]⟩ := rfl
@[simp] theorem take_app5 (t : Tm) (l : List AV) : List.take 5 (t.cells 24 ++ l) = t.cells 24 ++ l.take 1 := by cases t; rfl
@[simp] theorem take_app4 (t : Tm) (l : List AV) : List.take 4 (t.cells 24 ++ l) = t.cells 24 := by cases t; rfl
@[simp] theorem drop_app6 (t : Tm) (l : List AV) : List.drop 6 (t.cells 24 ++ l) = l.drop 2 := by cases t; rfl
@[simp] theorem drop_app5 (t : Tm) (l : List AV) : List.drop 5 (t.cells 24 ++ l) = l.drop 1 := by cases t; rfl
@[simp] theorem drop_app4 (t : Tm) (l : List AV) : List.drop 4 (t.cells 24 ++ l) = l := by cases t; rfl
@[simp] theorem take_app6 (t : Tm) (l : List AV) : List.take 6 (t.cells 24 ++ l) = t.cells 24 ++ l.take 2 := by cases t; rfl
def clsC (c : Cls) : List AV := c.head.cells 24 ++ [.lst 51 (glsL c.goals), .sc (.int .i64 c.vars)]
@[simp] theorem clsC_len (c : Cls) : (clsC c).length = 6 := by simp [clsC]
def fromA (r : FR) : AV := .tup [.agg (clsC r.c), r.ball.av 24, .sc (.bool r.ok)]
theorem pureL_append : ∀ a b : List AV, AV.pureL (a ++ b) = (AV.pureL a && AV.pureL b)
  | [], b => by simp [AV.pureL]
  | x :: a, b => by simp [AV.pureL, pureL_append a b, Bool.and_assoc]
@[simp] theorem clsC_pure (c : Cls) : AV.pureL (clsC c) = true := by simp [clsC, pureL_append, AV.pureL, AV.pure]
@[simp] theorem fromA_pure (r : FR) : (fromA r).pure = true := by simp [fromA, AV.pure, AV.pureL]
set_option maxRecDepth 100000 in
theorem From_c (t : Tm) (ht : t.small) : PureCall T Try.prog 11 [t.av 24] (fromA (fromR t)) := by
  refine PureCall.of_vc hT [7, 8] [(7, 9), (7, 10), (12, 2), (12, 3), (15, 2), (15, 3)] follows Try.call11 Try.func11 rfl (by kernel_rfl) (by simp [AV.pure, AV.pureL]) (by simp) ?_
  unfold Try.f11
  simp
  refine vcCall_at (check_c t ht) ?_
  simp
  refine ⟨fun h => ?_, fun h => ?_⟩
  · refine vcCall_at size_c ?_
    simp [fromA, fromR, h, noCls, clsC, Tm.zero, Tm.cells, Tm.cellsL]
    rfl
  refine vcCall_at (Rename_c t ht) ?_
  rw [if_pos h, if_pos h]
  simp
  refine vcCall_at (Atom_c _) ?_
  simp
  have hR := Tm.num_like (Tm.right_of_check h) ht
  have hRs : (renT t).small := Tm.num_small ht h
  have e0 : fromR t = fromU (renT t) (t.vars []).length := by unfold fromR; rw [if_neg (by simp [h])]; rfl
  rw [e0]
  generalize renT t = U at *
  generalize (t.vars []).length = n at *
  refine vcCall_at (is_c U _ _) ?_
  simp
  refine ⟨fun hi => ?_, fun hi => ?_⟩
  · obtain ⟨k, m, s, l⟩ := U
    have hi' := hi
    simp only [isT, Bool.and_eq_true, decide_eq_true_eq] at hi'
    obtain ⟨rfl, rfl, hl⟩ := hi'
    obtain ⟨a, b, rfl⟩ := Tm.len2 (by omega : l.length = 2)
    simp [Tm.cells, Tm.cellsL]
    refine ⟨fun i r st' => if i = 9 then st' = [.cells [.sc (.int .i64 0), .sc (.int .i64 0), .sc (.string .empty), .nils, .nils, .sc (.int .i64 0)], .cells zT, .cells (a.cells 24 ++ [.nils, .sc (.int .i64 n)]), .cells (trueT.cells 24)] else st' = [.cells [.sc (.int .i64 0), .sc (.int .i64 0), .sc (.string .empty), .nils, .nils, .sc (.int .i64 0)], .cells zT, .cells (a.cells 24 ++ [.nils, .sc (.int .i64 n)]), .cells (b.cells 24)], ?_⟩
    simp (decide := true) [Tm.cells, Tm.cellsL]
    refine ⟨by simp (decide := true) [Tm.cells, Tm.cellsL], ?_⟩; simp (decide := true) [Tm.cells, Tm.cellsL]
    refine ⟨by simp (decide := true) [Tm.cells, Tm.cellsL], ?_⟩; simp (decide := true) [Tm.cells, Tm.cellsL]
    refine ⟨by simp (decide := true) [Tm.cells, Tm.cellsL], ?_⟩; simp (decide := true) [Tm.cells, Tm.cellsL]
    refine ⟨by simp (decide := true) [Tm.cells, Tm.cellsL], ?_⟩; simp (decide := true) [Tm.cells, Tm.cellsL]
    refine ⟨by simp (decide := true) [Tm.cells, Tm.cellsL], ?_⟩; simp (decide := true) [Tm.cells, Tm.cellsL]
    refine ⟨by simp (decide := true) [Tm.cells, Tm.cellsL], ?_⟩; simp (decide := true) [Tm.cells, Tm.cellsL]
    refine ⟨by simp (decide := true) [Tm.cells, Tm.cellsL], ?_⟩; simp (decide := true) [Tm.cells, Tm.cellsL]
    refine ⟨by simp (decide := true) [Tm.cells, Tm.cellsL], ?_⟩; simp (decide := true) [Tm.cells, Tm.cellsL]
    refine ⟨by simp (decide := true) [Tm.cells, Tm.cellsL], ?_⟩; simp (decide := true) [Tm.cells, Tm.cellsL]
    refine ⟨by simp, rfl, by simp [vcI, Tm.cells, Tm.cellsL, zT, trueT], ?_⟩
    simp (decide := true) [Tm.cells, Tm.cellsL]; try intro _
    refine ⟨by simp, rfl, by simp [vcI, Tm.cells, Tm.cellsL, zT, trueT], ?_⟩
    simp (decide := true) [Tm.cells, Tm.cellsL]; try intro _
    have hp : partsT (Tm.mk 4 m ⟨#[58, 45]⟩ [a, b]) = (a, b) := by simp [partsT, hi]
    have hHs : a.small := by unfold Tm.small at hRs ⊢; simp only [Tm.size, Tm.sizeL] at hRs; omega
    have hBs : b.small := by unfold Tm.small at hRs ⊢; simp only [Tm.size, Tm.sizeL] at hRs; omega
    refine vcCall_at (flat0_c b hBs) ?_
    simp
    intro hb1 hb2
    refine ⟨fun h64 => ?_, fun h64 => ?_⟩
    · refine vcCall_at size_c ?_
      have e1 : fromU (Tm.mk 4 m ⟨#[58, 45]⟩ [a, b]) n = ⟨noCls, sizeT, false⟩ := by unfold fromU; rw [hp]; dsimp only; rw [if_pos (by omega)]
      rw [e1]
      simp [fromA, noCls, clsC, Tm.zero, Tm.cells, Tm.cellsL, zT]
      rfl
    refine vcCall_at (head_c a hHs) ?_
    simp
    refine ⟨fun hw => ?_, fun hw => ?_⟩
    · have e1 : fromU (Tm.mk 4 m ⟨#[58, 45]⟩ [a, b]) n = ⟨noCls, (headR a).1, false⟩ := by unfold fromU; rw [hp]; dsimp only; rw [if_neg (by omega), if_pos hw]
      rw [e1]
      refine ⟨fun i r st' => if i = 2 then st' = [.cells [.sc (.int .i64 0), .sc (.int .i64 0), .sc (.string .empty), .nils, .nils, .sc (.int .i64 0)], .cells zT, .cells (a.cells 24 ++ [.nils, .sc (.int .i64 n)]), .cells (b.cells 24)] else st' = [.cells [.sc (.int .i64 0), .sc (.int .i64 0), .sc (.string .empty), .nils, .nils, .sc (.int .i64 0)], .cells ((headR a).1.cells 24), .cells (a.cells 24 ++ [.nils, .sc (.int .i64 n)]), .cells (b.cells 24)], ?_⟩
      simp (decide := true)
      refine ⟨by simp (decide := true), ?_⟩; simp (decide := true)
      refine ⟨by simp (decide := true), ?_⟩; simp (decide := true)
      refine ⟨by simp, rfl, by simp [vcI, zT, Tm.cells, Tm.cellsL], ?_⟩
      simp (decide := true); try intro _
      refine ⟨by simp, rfl, by simp [vcI, zT, Tm.cells, Tm.cellsL], ?_⟩
      simp (decide := true); try intro _
      refine ⟨by simp (decide := true), ?_⟩; simp (decide := true) [fromA, noCls, clsC, Tm.zero, Tm.cells, Tm.cellsL, zero_empty]
    refine vcCall_at (Body_c b hBs) ?_
    simp [bodyA]
    refine ⟨fun hok => ?_, fun hok => ?_⟩
    · have e1 : fromU (Tm.mk 4 m ⟨#[58, 45]⟩ [a, b]) n = ⟨noCls, (bodyR b).ball, false⟩ := by unfold fromU; rw [hp]; dsimp only; rw [if_neg (by omega), if_neg (by simp [hw]), if_pos hok]
      rw [e1]
      refine ⟨fun i r st' => if i = 2 then st' = [.cells [.sc (.int .i64 0), .sc (.int .i64 0), .sc (.string .empty), .nils, .nils, .sc (.int .i64 0)], .cells zT, .cells (a.cells 24 ++ [.nils, .sc (.int .i64 n)]), .cells (b.cells 24), .cells ((bodyR b).ball.cells 24)] else st' = [.cells [.sc (.int .i64 0), .sc (.int .i64 0), .sc (.string .empty), .nils, .nils, .sc (.int .i64 0)], .cells ((bodyR b).ball.cells 24), .cells (a.cells 24 ++ [.nils, .sc (.int .i64 n)]), .cells (b.cells 24), .cells ((bodyR b).ball.cells 24)], ?_⟩
      simp (decide := true)
      refine ⟨by simp (decide := true), ?_⟩; simp (decide := true)
      refine ⟨by simp (decide := true), ?_⟩; simp (decide := true)
      refine ⟨by simp, rfl, by simp [vcI, zT, Tm.cells, Tm.cellsL], ?_⟩
      simp (decide := true); try intro _
      refine ⟨by simp, rfl, by simp [vcI, zT, Tm.cells, Tm.cellsL], ?_⟩
      simp (decide := true); try intro _
      refine ⟨by simp (decide := true), ?_⟩; simp (decide := true) [fromA, noCls, clsC, Tm.zero, Tm.cells, Tm.cellsL, zero_empty]
    · have e1 : fromU (Tm.mk 4 m ⟨#[58, 45]⟩ [a, b]) n = ⟨⟨a, (bodyR b).goals, n⟩, Tm.zero, true⟩ := by unfold fromU; rw [hp]; dsimp only; rw [if_neg (by omega), if_neg (by simp [hw]), if_neg (by simp [hok])]
      rw [e1]
      simp [fromA, clsC, Tm.zero, Tm.cells, Tm.cellsL, zT]
      refine ⟨?_, rfl⟩
      generalize (bodyR b).goals = gs
      obtain ⟨ka, na, sa, la⟩ := a
      simp [Tm.cells]
  · have hp : partsT U = (U, trueT) := by obtain ⟨k, m, s, l⟩ := U; simp [partsT, hi]
    have hHs : U.small := hRs
    have hBs : trueT.small := by simp [trueT, Tm.small, Tm.size, Tm.sizeL]
    refine vcCall_at (flat0_c trueT hBs) ?_
    simp
    intro hb1 hb2
    refine ⟨fun h64 => ?_, fun h64 => ?_⟩
    · refine vcCall_at size_c ?_
      have e1 : fromU U n = ⟨noCls, sizeT, false⟩ := by unfold fromU; rw [hp]; dsimp only; rw [if_pos (by omega)]
      rw [e1]
      simp [fromA, noCls, clsC, Tm.zero, Tm.cells, Tm.cellsL, zT]
      rfl
    refine vcCall_at (head_c U hHs) ?_
    simp
    refine ⟨fun hw => ?_, fun hw => ?_⟩
    · have e1 : fromU U n = ⟨noCls, (headR U).1, false⟩ := by unfold fromU; rw [hp]; dsimp only; rw [if_neg (by omega), if_pos hw]
      rw [e1]
      refine ⟨fun i r st' => if i = 2 then st' = [.cells [.sc (.int .i64 0), .sc (.int .i64 0), .sc (.string .empty), .nils, .nils, .sc (.int .i64 0)], .cells zT, .cells (U.cells 24 ++ [.nils, .sc (.int .i64 n)]), .cells (trueT.cells 24)] else st' = [.cells [.sc (.int .i64 0), .sc (.int .i64 0), .sc (.string .empty), .nils, .nils, .sc (.int .i64 0)], .cells ((headR U).1.cells 24), .cells (U.cells 24 ++ [.nils, .sc (.int .i64 n)]), .cells (trueT.cells 24)], ?_⟩
      simp (decide := true)
      refine ⟨by simp (decide := true), ?_⟩; simp (decide := true)
      refine ⟨by simp (decide := true), ?_⟩; simp (decide := true)
      refine ⟨by simp, rfl, by simp [vcI, zT, trueT, Tm.cells, Tm.cellsL], ?_⟩
      simp (decide := true); try intro _
      refine ⟨by simp, rfl, by simp [vcI, zT, trueT, Tm.cells, Tm.cellsL], ?_⟩
      simp (decide := true); try intro _
      refine ⟨by simp (decide := true), ?_⟩; simp (decide := true) [fromA, noCls, clsC, Tm.zero, Tm.cells, Tm.cellsL, zero_empty]
    refine vcCall_at (Body_c trueT hBs) ?_
    simp [bodyA]
    refine ⟨fun hok => ?_, fun hok => ?_⟩
    · have e1 : fromU U n = ⟨noCls, (bodyR trueT).ball, false⟩ := by unfold fromU; rw [hp]; dsimp only; rw [if_neg (by omega), if_neg (by simp [hw]), if_pos hok]
      rw [e1]
      refine ⟨fun i r st' => if i = 2 then st' = [.cells [.sc (.int .i64 0), .sc (.int .i64 0), .sc (.string .empty), .nils, .nils, .sc (.int .i64 0)], .cells zT, .cells (U.cells 24 ++ [.nils, .sc (.int .i64 n)]), .cells (trueT.cells 24), .cells ((bodyR trueT).ball.cells 24)] else st' = [.cells [.sc (.int .i64 0), .sc (.int .i64 0), .sc (.string .empty), .nils, .nils, .sc (.int .i64 0)], .cells ((bodyR trueT).ball.cells 24), .cells (U.cells 24 ++ [.nils, .sc (.int .i64 n)]), .cells (trueT.cells 24), .cells ((bodyR trueT).ball.cells 24)], ?_⟩
      simp (decide := true)
      refine ⟨by simp (decide := true), ?_⟩; simp (decide := true)
      refine ⟨by simp (decide := true), ?_⟩; simp (decide := true)
      refine ⟨by simp, rfl, by simp [vcI, zT, trueT, Tm.cells, Tm.cellsL], ?_⟩
      simp (decide := true); try intro _
      refine ⟨by simp, rfl, by simp [vcI, zT, trueT, Tm.cells, Tm.cellsL], ?_⟩
      simp (decide := true); try intro _
      refine ⟨by simp (decide := true), ?_⟩; simp (decide := true) [fromA, noCls, clsC, Tm.zero, Tm.cells, Tm.cellsL, zero_empty]
    · have e1 : fromU U n = ⟨⟨U, (bodyR trueT).goals, n⟩, Tm.zero, true⟩ := by unfold fromU; rw [hp]; dsimp only; rw [if_neg (by omega), if_neg (by simp [hw]), if_neg (by simp [hok])]
      rw [e1]
      simp [fromA, clsC, Tm.zero, Tm.cells, Tm.cellsL, zT]
      refine ⟨?_, rfl⟩
      generalize (bodyR trueT).goals = gs
      obtain ⟨ka, na, sa, la⟩ := U
      simp [Tm.cells]
end Go.T1
end

section
open Go Go.Ab Go.Proofs
namespace Go.T1
set_option maxRecDepth 100000 in
set_option maxHeartbeats 4000000 in
theorem rFrom_c (t : Tm) (ht : t.small) : PureCall T Try.prog 12 [t.av 24] (fromA (fromR t)) := by
  refine PureCall.of_vc hT [7, 8] [(4, 2), (4, 3), (4, 4), (4, 5), (200004, 0), (200004, 1), (200004, 3003), (200004, 2), (200004, 4), (200004, 5), (6, 8), (6, 9), (17, 2), (17, 3)] follows Try.call12 Try.func12 rfl (by kernel_rfl) (by simp [AV.pure, AV.pureL]) (by simp) ?_
  unfold Try.f12
  simp
  refine vcCall_at (rCheck_c t ht) ?_
  simp
  refine ⟨fun h => ?_, fun h => ?_⟩
  · refine vcCall_at rSizeB_c ?_
    simp [fromA, fromR, h, noCls, clsC, Tm.zero, Tm.cells, Tm.cellsL, zero_empty]
  refine vcCall_at (rRename_c t ht) ?_
  have hRs : (renT t).small := Tm.num_small ht h
  have e0 : fromR t = fromU (renT t) (t.vars []).length := by unfold fromR; rw [if_neg (by simp [h])]; rfl
  rw [e0]
  generalize renT t = U at *
  generalize (t.vars []).length = n at *
  simp (decide := true)
  refine ⟨fun _ _ _ => True, ?_⟩
  simp (decide := true)
  refine ⟨by simp (decide := true), ?_⟩; simp (decide := true)
  refine vcCall_at (rAtom_c _) ?_; simp (decide := true)
  refine ⟨by simp (decide := true); (repeat' apply And.intro) <;> (intros; refine vcCall_at (rAtom_c _) ?_; simp), ?_⟩; simp (decide := true)
  refine ⟨?_, ?_⟩
  · refine vcThenQ_of (fun r st' => r = .ptr 2 0 ∧ st' = [.cells [.sc (.int .i64 0), .sc (.int .i64 0), .sc (.string .empty), .nils, .nils, .sc (.int .i64 0)], .cells zT, .cells zT]) rfl (by simp) rfl (by simp [vcI, zT]) (fun _ _ _ => trivial) ?_
    rintro r st' ⟨rfl, rfl⟩ _
    
    refine vcThenQ_of (fun r st' => r = .ptr 3 0 ∧ st' = [.cells [.sc (.int .i64 0), .sc (.int .i64 0), .sc (.string .empty), .nils, .nils, .sc (.int .i64 0)], .cells zT, .cells zT, .cells zT]) rfl (by simp) rfl (by simp [vcI, zT]) (fun _ _ _ => trivial) ?_
    rintro r st' ⟨rfl, rfl⟩ _
    simp (decide := true)
    refine vcThenQ_of (fun r st' => r = .any ∧ st' = [.cells [.sc (.int .i64 0), .sc (.int .i64 0), .sc (.string .empty), .nils, .nils, .sc (.int .i64 0)], .cells zT, .cells (U.cells 24), .cells zT]) rfl (by simp) rfl (by simp [vcI, zT, trueT, Tm.cells, Tm.cellsL]) (fun _ _ _ => trivial) ?_
    rintro r st' ⟨rfl, rfl⟩ _
    simp (decide := true)
    refine vcThenQ_of (fun r st' => r = .any ∧ st' = [.cells [.sc (.int .i64 0), .sc (.int .i64 0), .sc (.string .empty), .nils, .nils, .sc (.int .i64 0)], .cells zT, .cells (U.cells 24), .cells (trueT.cells 24)]) rfl (by simp) rfl (by simp [vcI, zT, trueT, Tm.cells, Tm.cellsL]) (fun _ _ _ => trivial) ?_
    rintro r st' ⟨rfl, rfl⟩ _
    simp (decide := true)
    refine vcCall_at (rcomp_c U _ _) ?_
    simp
    refine ⟨fun hi => ?_, fun hi => ?_⟩
    · obtain ⟨k, m, s, l⟩ := U
      have hi' := hi
      simp only [isT, Bool.and_eq_true, decide_eq_true_eq] at hi'
      obtain ⟨rfl, rfl, hl⟩ := hi'
      obtain ⟨a, b, rfl⟩ := Tm.len2 (by omega : l.length = 2)
      simp [Tm.cells, Tm.cellsL]
      refine ⟨fun i r st' => if i = 8 then st' = [.cells [.sc (.int .i64 0), .sc (.int .i64 0), .sc (.string .empty), .nils, .nils, .sc (.int .i64 0)], .cells zT, .cells (a.cells 24), .cells (trueT.cells 24)] else st' = [.cells [.sc (.int .i64 0), .sc (.int .i64 0), .sc (.string .empty), .nils, .nils, .sc (.int .i64 0)], .cells zT, .cells (a.cells 24), .cells (b.cells 24)], ?_⟩
      simp (decide := true) [Tm.cells, Tm.cellsL]
      refine ⟨by simp (decide := true) [Tm.cells, Tm.cellsL], ?_⟩; simp (decide := true) [Tm.cells, Tm.cellsL]
      refine ⟨by simp (decide := true) [Tm.cells, Tm.cellsL], ?_⟩; simp (decide := true) [Tm.cells, Tm.cellsL]
      refine ⟨by simp (decide := true) [Tm.cells, Tm.cellsL], ?_⟩; simp (decide := true) [Tm.cells, Tm.cellsL]
      refine ⟨by simp (decide := true) [Tm.cells, Tm.cellsL], ?_⟩; simp (decide := true) [Tm.cells, Tm.cellsL]
      refine ⟨by simp (decide := true) [Tm.cells, Tm.cellsL], ?_⟩; simp (decide := true) [Tm.cells, Tm.cellsL]
      refine ⟨by simp (decide := true) [Tm.cells, Tm.cellsL], ?_⟩; simp (decide := true) [Tm.cells, Tm.cellsL]
      refine ⟨by simp (decide := true) [Tm.cells, Tm.cellsL], ?_⟩; simp (decide := true) [Tm.cells, Tm.cellsL]
      refine ⟨by simp (decide := true) [Tm.cells, Tm.cellsL], ?_⟩; simp (decide := true) [Tm.cells, Tm.cellsL]
      refine ⟨by simp, rfl, by simp [vcI, Tm.cells, Tm.cellsL, zT, trueT], ?_⟩
      simp (decide := true) [Tm.cells, Tm.cellsL]; try intro _
      refine ⟨by simp, rfl, by simp [vcI, Tm.cells, Tm.cellsL, zT, trueT], ?_⟩
      simp (decide := true) [Tm.cells, Tm.cellsL]; try intro _
      have hp : partsT (Tm.mk 4 m ⟨#[58, 45]⟩ [a, b]) = (a, b) := by simp [partsT, hi]
      have hHs : a.small := by unfold Tm.small at hRs ⊢; simp only [Tm.size, Tm.sizeL] at hRs; omega
      have hBs : b.small := by unfold Tm.small at hRs ⊢; simp only [Tm.size, Tm.sizeL] at hRs; omega
      obtain ⟨ka, na, sa, la⟩ := a
      refine vcCall_at (rflat_c b hBs) ?_
      simp
      intro hb1 hb2
      refine ⟨fun h64 => ?_, fun h64 => ?_⟩
      · refine vcCall_at rSizeB_c ?_
        have e1 : fromU (Tm.mk 4 m ⟨#[58, 45]⟩ [Tm.mk ka na sa la, b]) n = ⟨noCls, sizeT, false⟩ := by unfold fromU; rw [hp]; dsimp only; rw [if_pos (by omega)]
        rw [e1]
        simp [fromA, noCls, clsC, Tm.zero, Tm.cells, Tm.cellsL, zT, zero_empty]
      have e2 : ∀ ball : Tm, headR (Tm.mk ka na sa la) = (ball, true) → fromU (Tm.mk 4 m ⟨#[58, 45]⟩ [Tm.mk ka na sa la, b]) n = ⟨noCls, ball, false⟩ := fun ball hb => by unfold fromU; rw [hp]; dsimp only; rw [if_neg (by omega), hb, if_pos rfl]
      simp [Tm.cells, kind_eq]
      refine ⟨fun hk => ?_, fun hk => ⟨fun hk2 => ?_, fun hk2 hc1 hc2 => ?_⟩⟩
      · refine vcCall_at rInst_c ?_
        rw [e2 instT (by simp [headR, hk])]
        simp [fromA, noCls, clsC, Tm.zero, Tm.cells, Tm.cellsL, zT, zero_empty]
      · refine vcCall_at (rType_c _ (Tm.mk ka na sa la)) ?_
        rw [e2 (callableT (Tm.mk ka na sa la)) (by simp [headR, hk2])]
        simp [fromA, noCls, clsC, Tm.zero, Tm.cells, Tm.cellsL, zT, zero_empty, callableT]
      refine vcCall_at (rBuiltin_c _ _) ?_
      simp
      refine ⟨fun hb => ?_, fun hb => ?_⟩
      · refine vcCall_at (rInd_c (Tm.mk ka na sa la) hHs) ?_
        simp
        refine vcCall_at (rComp_c _ [indT (Tm.mk ka na sa la)]) ?_
        simp [compT]
        refine vcCall_at (rErr_c (.mk 4 0 _ [indT (Tm.mk ka na sa la)])) ?_
        rw [e2 (permT (Tm.mk ka na sa la)) (by simp [headR, hk, hk2, hb])]
        simp [fromA, noCls, clsC, Tm.zero, Tm.cells, Tm.cellsL, zT, zero_empty, permT]
      have hw : (headR (Tm.mk ka na sa la)).2 = false := by simp [headR, hk, hk2, hb]
      refine vcCall_at (rBody_c b hBs) ?_
      simp [bodyA]
      refine ⟨fun hok => ?_, fun hok => ?_⟩
      · have e1 : fromU (Tm.mk 4 m ⟨#[58, 45]⟩ [Tm.mk ka na sa la, b]) n = ⟨noCls, (bodyR b).ball, false⟩ := by unfold fromU; rw [hp]; dsimp only; rw [if_neg (by omega), if_neg (by simp [hw]), if_pos hok]
        rw [e1]
        refine ⟨fun i r st' => if i = 2 then st' = [.cells [.sc (.int .i64 0), .sc (.int .i64 0), .sc (.string .empty), .nils, .nils, .sc (.int .i64 0)], .cells zT, .cells ((Tm.mk ka na sa la).cells 24), .cells (b.cells 24), .cells ((bodyR b).ball.cells 24)] else st' = [.cells [.sc (.int .i64 0), .sc (.int .i64 0), .sc (.string .empty), .nils, .nils, .sc (.int .i64 0)], .cells ((bodyR b).ball.cells 24), .cells ((Tm.mk ka na sa la).cells 24), .cells (b.cells 24), .cells ((bodyR b).ball.cells 24)], ?_⟩
        simp (decide := true)
        refine ⟨by simp (decide := true), ?_⟩; simp (decide := true)
        refine ⟨by simp (decide := true), ?_⟩; simp (decide := true)
        refine ⟨by simp, rfl, by simp [vcI, zT, trueT, Tm.cells, Tm.cellsL], ?_⟩
        simp (decide := true); try intro _
        refine ⟨by simp, rfl, by simp [vcI, zT, trueT, Tm.cells, Tm.cellsL], ?_⟩
        simp (decide := true); try intro _
        refine ⟨by simp (decide := true), ?_⟩; simp (decide := true) [fromA, noCls, clsC, Tm.zero, Tm.cells, Tm.cellsL, zero_empty]
      · have e1 : fromU (Tm.mk 4 m ⟨#[58, 45]⟩ [Tm.mk ka na sa la, b]) n = ⟨⟨(Tm.mk ka na sa la), (bodyR b).goals, n⟩, Tm.zero, true⟩ := by unfold fromU; rw [hp]; dsimp only; rw [if_neg (by omega), if_neg (by simp [hw]), if_neg (by simp [hok])]
        rw [e1]
        simp [fromA, clsC, Tm.zero, Tm.cells, Tm.cellsL, zT, zero_empty]
    · have hp : partsT U = (U, trueT) := by obtain ⟨k, m, s, l⟩ := U; simp [partsT, hi]
      have hHs : U.small := hRs
      have hBs : trueT.small := by simp [trueT, Tm.small, Tm.size, Tm.sizeL]
      obtain ⟨ku, nu, su, lu⟩ := U
      refine vcCall_at (rflat_c trueT hBs) ?_
      simp
      intro hb1 hb2
      refine ⟨fun h64 => ?_, fun h64 => ?_⟩
      · refine vcCall_at rSizeB_c ?_
        have e1 : fromU (Tm.mk ku nu su lu) n = ⟨noCls, sizeT, false⟩ := by unfold fromU; rw [hp]; dsimp only; rw [if_pos (by omega)]
        rw [e1]
        simp [fromA, noCls, clsC, Tm.zero, Tm.cells, Tm.cellsL, zT, zero_empty]
      have e2 : ∀ ball : Tm, headR (Tm.mk ku nu su lu) = (ball, true) → fromU (Tm.mk ku nu su lu) n = ⟨noCls, ball, false⟩ := fun ball hb => by unfold fromU; rw [hp]; dsimp only; rw [if_neg (by omega), hb, if_pos rfl]
      simp [Tm.cells, kind_eq]
      refine ⟨fun hk => ?_, fun hk => ⟨fun hk2 => ?_, fun hk2 hc1 hc2 => ?_⟩⟩
      · refine vcCall_at rInst_c ?_
        rw [e2 instT (by simp [headR, hk])]
        simp [fromA, noCls, clsC, Tm.zero, Tm.cells, Tm.cellsL, zT, zero_empty]
      · refine vcCall_at (rType_c _ (Tm.mk ku nu su lu)) ?_
        rw [e2 (callableT (Tm.mk ku nu su lu)) (by simp [headR, hk2])]
        simp [fromA, noCls, clsC, Tm.zero, Tm.cells, Tm.cellsL, zT, zero_empty, callableT]
      refine vcCall_at (rBuiltin_c _ _) ?_
      simp
      refine ⟨fun hb => ?_, fun hb => ?_⟩
      · refine vcCall_at (rInd_c (Tm.mk ku nu su lu) hHs) ?_
        simp
        refine vcCall_at (rComp_c _ [indT (Tm.mk ku nu su lu)]) ?_
        simp [compT]
        refine vcCall_at (rErr_c (.mk 4 0 _ [indT (Tm.mk ku nu su lu)])) ?_
        rw [e2 (permT (Tm.mk ku nu su lu)) (by simp [headR, hk, hk2, hb])]
        simp [fromA, noCls, clsC, Tm.zero, Tm.cells, Tm.cellsL, zT, zero_empty, permT]
      have hw : (headR (Tm.mk ku nu su lu)).2 = false := by simp [headR, hk, hk2, hb]
      refine vcCall_at (rBody_c trueT hBs) ?_
      simp [bodyA]
      refine ⟨fun hok => ?_, fun hok => ?_⟩
      · have e1 : fromU (Tm.mk ku nu su lu) n = ⟨noCls, (bodyR trueT).ball, false⟩ := by unfold fromU; rw [hp]; dsimp only; rw [if_neg (by omega), if_neg (by simp [hw]), if_pos hok]
        rw [e1]
        refine ⟨fun i r st' => if i = 2 then st' = [.cells [.sc (.int .i64 0), .sc (.int .i64 0), .sc (.string .empty), .nils, .nils, .sc (.int .i64 0)], .cells zT, .cells ((Tm.mk ku nu su lu).cells 24), .cells (trueT.cells 24), .cells ((bodyR trueT).ball.cells 24)] else st' = [.cells [.sc (.int .i64 0), .sc (.int .i64 0), .sc (.string .empty), .nils, .nils, .sc (.int .i64 0)], .cells ((bodyR trueT).ball.cells 24), .cells ((Tm.mk ku nu su lu).cells 24), .cells (trueT.cells 24), .cells ((bodyR trueT).ball.cells 24)], ?_⟩
        simp (decide := true)
        refine ⟨by simp (decide := true), ?_⟩; simp (decide := true)
        refine ⟨by simp (decide := true), ?_⟩; simp (decide := true)
        refine ⟨by simp, rfl, by simp [vcI, zT, trueT, Tm.cells, Tm.cellsL], ?_⟩
        simp (decide := true); try intro _
        refine ⟨by simp, rfl, by simp [vcI, zT, trueT, Tm.cells, Tm.cellsL], ?_⟩
        simp (decide := true); try intro _
        refine ⟨by simp (decide := true), ?_⟩; simp (decide := true) [fromA, noCls, clsC, Tm.zero, Tm.cells, Tm.cellsL, zero_empty]
      · have e1 : fromU (Tm.mk ku nu su lu) n = ⟨⟨(Tm.mk ku nu su lu), (bodyR trueT).goals, n⟩, Tm.zero, true⟩ := by unfold fromU; rw [hp]; dsimp only; rw [if_neg (by omega), if_neg (by simp [hw]), if_neg (by simp [hok])]
        rw [e1]
        simp [fromA, clsC, Tm.zero, Tm.cells, Tm.cellsL, zT, zero_empty]
  · refine vcThenQ_of (fun r st' => r = .ptr 2 0 ∧ st' = [.cells [.sc (.int .i64 0), .sc (.int .i64 0), .sc (.string .empty), .nils, .nils, .sc (.int .i64 0)], .cells zT, .cells zT]) rfl (by simp) rfl (by simp [vcI, zT]) (fun _ _ _ => trivial) ?_
    rintro r st' ⟨rfl, rfl⟩ _
    simp (decide := true)
    refine vcThenQ_of (fun r st' => r = .ptr 3 0 ∧ st' = [.cells [.sc (.int .i64 0), .sc (.int .i64 0), .sc (.string .empty), .nils, .nils, .sc (.int .i64 0)], .cells zT, .cells zT, .cells zT]) rfl (by simp) rfl (by simp [vcI, zT]) (fun _ _ _ => trivial) ?_
    rintro r st' ⟨rfl, rfl⟩ _
    simp (decide := true)
    refine vcThenQ_of (fun r st' => r = .any ∧ st' = [.cells [.sc (.int .i64 0), .sc (.int .i64 0), .sc (.string .empty), .nils, .nils, .sc (.int .i64 0)], .cells zT, .cells zT, .cells (U.cells 24)]) rfl (by simp) rfl (by simp [vcI, zT, trueT, Tm.cells, Tm.cellsL]) (fun _ _ _ => trivial) ?_
    rintro r st' ⟨rfl, rfl⟩ _
    simp (decide := true)
    refine vcThenQ_of (fun r st' => r = .any ∧ st' = [.cells [.sc (.int .i64 0), .sc (.int .i64 0), .sc (.string .empty), .nils, .nils, .sc (.int .i64 0)], .cells zT, .cells (trueT.cells 24), .cells (U.cells 24)]) rfl (by simp) rfl (by simp [vcI, zT, trueT, Tm.cells, Tm.cellsL]) (fun _ _ _ => trivial) ?_
    rintro r st' ⟨rfl, rfl⟩ _
    simp (decide := true)
    refine vcCall_at (rcomp_c U _ _) ?_
    simp
    refine ⟨fun hi => ?_, fun hi => ?_⟩
    · obtain ⟨k, m, s, l⟩ := U
      have hi' := hi
      simp only [isT, Bool.and_eq_true, decide_eq_true_eq] at hi'
      obtain ⟨rfl, rfl, hl⟩ := hi'
      obtain ⟨a, b, rfl⟩ := Tm.len2 (by omega : l.length = 2)
      simp [Tm.cells, Tm.cellsL]
      refine ⟨fun i r st' => if i = 8 then st' = [.cells [.sc (.int .i64 0), .sc (.int .i64 0), .sc (.string .empty), .nils, .nils, .sc (.int .i64 0)], .cells zT, .cells (trueT.cells 24), .cells (a.cells 24)] else st' = [.cells [.sc (.int .i64 0), .sc (.int .i64 0), .sc (.string .empty), .nils, .nils, .sc (.int .i64 0)], .cells zT, .cells (b.cells 24), .cells (a.cells 24)], ?_⟩
      simp (decide := true) [Tm.cells, Tm.cellsL]
      refine ⟨by simp (decide := true) [Tm.cells, Tm.cellsL], ?_⟩; simp (decide := true) [Tm.cells, Tm.cellsL]
      refine ⟨by simp (decide := true) [Tm.cells, Tm.cellsL], ?_⟩; simp (decide := true) [Tm.cells, Tm.cellsL]
      refine ⟨by simp (decide := true) [Tm.cells, Tm.cellsL], ?_⟩; simp (decide := true) [Tm.cells, Tm.cellsL]
      refine ⟨by simp (decide := true) [Tm.cells, Tm.cellsL], ?_⟩; simp (decide := true) [Tm.cells, Tm.cellsL]
      refine ⟨by simp (decide := true) [Tm.cells, Tm.cellsL], ?_⟩; simp (decide := true) [Tm.cells, Tm.cellsL]
      refine ⟨by simp (decide := true) [Tm.cells, Tm.cellsL], ?_⟩; simp (decide := true) [Tm.cells, Tm.cellsL]
      refine ⟨by simp (decide := true) [Tm.cells, Tm.cellsL], ?_⟩; simp (decide := true) [Tm.cells, Tm.cellsL]
      refine ⟨by simp (decide := true) [Tm.cells, Tm.cellsL], ?_⟩; simp (decide := true) [Tm.cells, Tm.cellsL]
      refine ⟨by simp, rfl, by simp [vcI, Tm.cells, Tm.cellsL, zT, trueT], ?_⟩
      simp (decide := true) [Tm.cells, Tm.cellsL]; try intro _
      refine ⟨by simp, rfl, by simp [vcI, Tm.cells, Tm.cellsL, zT, trueT], ?_⟩
      simp (decide := true) [Tm.cells, Tm.cellsL]; try intro _
      have hp : partsT (Tm.mk 4 m ⟨#[58, 45]⟩ [a, b]) = (a, b) := by simp [partsT, hi]
      have hHs : a.small := by unfold Tm.small at hRs ⊢; simp only [Tm.size, Tm.sizeL] at hRs; omega
      have hBs : b.small := by unfold Tm.small at hRs ⊢; simp only [Tm.size, Tm.sizeL] at hRs; omega
      obtain ⟨ka, na, sa, la⟩ := a
      refine vcCall_at (rflat_c b hBs) ?_
      simp
      intro hb1 hb2
      refine ⟨fun h64 => ?_, fun h64 => ?_⟩
      · refine vcCall_at rSizeB_c ?_
        have e1 : fromU (Tm.mk 4 m ⟨#[58, 45]⟩ [Tm.mk ka na sa la, b]) n = ⟨noCls, sizeT, false⟩ := by unfold fromU; rw [hp]; dsimp only; rw [if_pos (by omega)]
        rw [e1]
        simp [fromA, noCls, clsC, Tm.zero, Tm.cells, Tm.cellsL, zT, zero_empty]
      have e2 : ∀ ball : Tm, headR (Tm.mk ka na sa la) = (ball, true) → fromU (Tm.mk 4 m ⟨#[58, 45]⟩ [Tm.mk ka na sa la, b]) n = ⟨noCls, ball, false⟩ := fun ball hb => by unfold fromU; rw [hp]; dsimp only; rw [if_neg (by omega), hb, if_pos rfl]
      simp [Tm.cells, kind_eq]
      refine ⟨fun hk => ?_, fun hk => ⟨fun hk2 => ?_, fun hk2 hc1 hc2 => ?_⟩⟩
      · refine vcCall_at rInst_c ?_
        rw [e2 instT (by simp [headR, hk])]
        simp [fromA, noCls, clsC, Tm.zero, Tm.cells, Tm.cellsL, zT, zero_empty]
      · refine vcCall_at (rType_c _ (Tm.mk ka na sa la)) ?_
        rw [e2 (callableT (Tm.mk ka na sa la)) (by simp [headR, hk2])]
        simp [fromA, noCls, clsC, Tm.zero, Tm.cells, Tm.cellsL, zT, zero_empty, callableT]
      refine vcCall_at (rBuiltin_c _ _) ?_
      simp
      refine ⟨fun hb => ?_, fun hb => ?_⟩
      · refine vcCall_at (rInd_c (Tm.mk ka na sa la) hHs) ?_
        simp
        refine vcCall_at (rComp_c _ [indT (Tm.mk ka na sa la)]) ?_
        simp [compT]
        refine vcCall_at (rErr_c (.mk 4 0 _ [indT (Tm.mk ka na sa la)])) ?_
        rw [e2 (permT (Tm.mk ka na sa la)) (by simp [headR, hk, hk2, hb])]
        simp [fromA, noCls, clsC, Tm.zero, Tm.cells, Tm.cellsL, zT, zero_empty, permT]
      have hw : (headR (Tm.mk ka na sa la)).2 = false := by simp [headR, hk, hk2, hb]
      refine vcCall_at (rBody_c b hBs) ?_
      simp [bodyA]
      refine ⟨fun hok => ?_, fun hok => ?_⟩
      · have e1 : fromU (Tm.mk 4 m ⟨#[58, 45]⟩ [Tm.mk ka na sa la, b]) n = ⟨noCls, (bodyR b).ball, false⟩ := by unfold fromU; rw [hp]; dsimp only; rw [if_neg (by omega), if_neg (by simp [hw]), if_pos hok]
        rw [e1]
        refine ⟨fun i r st' => if i = 2 then st' = [.cells [.sc (.int .i64 0), .sc (.int .i64 0), .sc (.string .empty), .nils, .nils, .sc (.int .i64 0)], .cells zT, .cells (b.cells 24), .cells ((Tm.mk ka na sa la).cells 24), .cells ((bodyR b).ball.cells 24)] else st' = [.cells [.sc (.int .i64 0), .sc (.int .i64 0), .sc (.string .empty), .nils, .nils, .sc (.int .i64 0)], .cells ((bodyR b).ball.cells 24), .cells (b.cells 24), .cells ((Tm.mk ka na sa la).cells 24), .cells ((bodyR b).ball.cells 24)], ?_⟩
        simp (decide := true)
        refine ⟨by simp (decide := true), ?_⟩; simp (decide := true)
        refine ⟨by simp (decide := true), ?_⟩; simp (decide := true)
        refine ⟨by simp, rfl, by simp [vcI, zT, trueT, Tm.cells, Tm.cellsL], ?_⟩
        simp (decide := true); try intro _
        refine ⟨by simp, rfl, by simp [vcI, zT, trueT, Tm.cells, Tm.cellsL], ?_⟩
        simp (decide := true); try intro _
        refine ⟨by simp (decide := true), ?_⟩; simp (decide := true) [fromA, noCls, clsC, Tm.zero, Tm.cells, Tm.cellsL, zero_empty]
      · have e1 : fromU (Tm.mk 4 m ⟨#[58, 45]⟩ [Tm.mk ka na sa la, b]) n = ⟨⟨(Tm.mk ka na sa la), (bodyR b).goals, n⟩, Tm.zero, true⟩ := by unfold fromU; rw [hp]; dsimp only; rw [if_neg (by omega), if_neg (by simp [hw]), if_neg (by simp [hok])]
        rw [e1]
        simp [fromA, clsC, Tm.zero, Tm.cells, Tm.cellsL, zT, zero_empty]
    · have hp : partsT U = (U, trueT) := by obtain ⟨k, m, s, l⟩ := U; simp [partsT, hi]
      have hHs : U.small := hRs
      have hBs : trueT.small := by simp [trueT, Tm.small, Tm.size, Tm.sizeL]
      obtain ⟨ku, nu, su, lu⟩ := U
      refine vcCall_at (rflat_c trueT hBs) ?_
      simp
      intro hb1 hb2
      refine ⟨fun h64 => ?_, fun h64 => ?_⟩
      · refine vcCall_at rSizeB_c ?_
        have e1 : fromU (Tm.mk ku nu su lu) n = ⟨noCls, sizeT, false⟩ := by unfold fromU; rw [hp]; dsimp only; rw [if_pos (by omega)]
        rw [e1]
        simp [fromA, noCls, clsC, Tm.zero, Tm.cells, Tm.cellsL, zT, zero_empty]
      have e2 : ∀ ball : Tm, headR (Tm.mk ku nu su lu) = (ball, true) → fromU (Tm.mk ku nu su lu) n = ⟨noCls, ball, false⟩ := fun ball hb => by unfold fromU; rw [hp]; dsimp only; rw [if_neg (by omega), hb, if_pos rfl]
      simp [Tm.cells, kind_eq]
      refine ⟨fun hk => ?_, fun hk => ⟨fun hk2 => ?_, fun hk2 hc1 hc2 => ?_⟩⟩
      · refine vcCall_at rInst_c ?_
        rw [e2 instT (by simp [headR, hk])]
        simp [fromA, noCls, clsC, Tm.zero, Tm.cells, Tm.cellsL, zT, zero_empty]
      · refine vcCall_at (rType_c _ (Tm.mk ku nu su lu)) ?_
        rw [e2 (callableT (Tm.mk ku nu su lu)) (by simp [headR, hk2])]
        simp [fromA, noCls, clsC, Tm.zero, Tm.cells, Tm.cellsL, zT, zero_empty, callableT]
      refine vcCall_at (rBuiltin_c _ _) ?_
      simp
      refine ⟨fun hb => ?_, fun hb => ?_⟩
      · refine vcCall_at (rInd_c (Tm.mk ku nu su lu) hHs) ?_
        simp
        refine vcCall_at (rComp_c _ [indT (Tm.mk ku nu su lu)]) ?_
        simp [compT]
        refine vcCall_at (rErr_c (.mk 4 0 _ [indT (Tm.mk ku nu su lu)])) ?_
        rw [e2 (permT (Tm.mk ku nu su lu)) (by simp [headR, hk, hk2, hb])]
        simp [fromA, noCls, clsC, Tm.zero, Tm.cells, Tm.cellsL, zT, zero_empty, permT]
      have hw : (headR (Tm.mk ku nu su lu)).2 = false := by simp [headR, hk, hk2, hb]
      refine vcCall_at (rBody_c trueT hBs) ?_
      simp [bodyA]
      refine ⟨fun hok => ?_, fun hok => ?_⟩
      · have e1 : fromU (Tm.mk ku nu su lu) n = ⟨noCls, (bodyR trueT).ball, false⟩ := by unfold fromU; rw [hp]; dsimp only; rw [if_neg (by omega), if_neg (by simp [hw]), if_pos hok]
        rw [e1]
        refine ⟨fun i r st' => if i = 2 then st' = [.cells [.sc (.int .i64 0), .sc (.int .i64 0), .sc (.string .empty), .nils, .nils, .sc (.int .i64 0)], .cells zT, .cells (trueT.cells 24), .cells ((Tm.mk ku nu su lu).cells 24), .cells ((bodyR trueT).ball.cells 24)] else st' = [.cells [.sc (.int .i64 0), .sc (.int .i64 0), .sc (.string .empty), .nils, .nils, .sc (.int .i64 0)], .cells ((bodyR trueT).ball.cells 24), .cells (trueT.cells 24), .cells ((Tm.mk ku nu su lu).cells 24), .cells ((bodyR trueT).ball.cells 24)], ?_⟩
        simp (decide := true)
        refine ⟨by simp (decide := true), ?_⟩; simp (decide := true)
        refine ⟨by simp (decide := true), ?_⟩; simp (decide := true)
        refine ⟨by simp, rfl, by simp [vcI, zT, trueT, Tm.cells, Tm.cellsL], ?_⟩
        simp (decide := true); try intro _
        refine ⟨by simp, rfl, by simp [vcI, zT, trueT, Tm.cells, Tm.cellsL], ?_⟩
        simp (decide := true); try intro _
        refine ⟨by simp (decide := true), ?_⟩; simp (decide := true) [fromA, noCls, clsC, Tm.zero, Tm.cells, Tm.cellsL, zero_empty]
      · have e1 : fromU (Tm.mk ku nu su lu) n = ⟨⟨(Tm.mk ku nu su lu), (bodyR trueT).goals, n⟩, Tm.zero, true⟩ := by unfold fromU; rw [hp]; dsimp only; rw [if_neg (by omega), if_neg (by simp [hw]), if_neg (by simp [hok])]
        rw [e1]
        simp [fromA, clsC, Tm.zero, Tm.cells, Tm.cellsL, zT, zero_empty]
end Go.T1
end

section
open Go Go.Ab Go.Proofs
namespace Go.T1
def growQ (st : St) (r : AV) (st' : St) : Prop := ∃ g al, r = .own st.length g ∧ st' = st ++ [.row 24 g al []]
set_option maxRecDepth 100000 in
theorem grow_i (n : Nat) (hn : n * 56 ≤ 140737488355328) (st : St) : ICall T Try.prog 70 [.nils, .sc (.int .i64 n)] st (growQ st) := by
  refine ICall.ownR (Q := fun r st' => (r = .nils ∧ st' = st) ∨ (r = .own st.length 1 ∧ st' = st ++ [.row 24 1 true []])) 24 (ICall.of_vcU hT [] [(5, 5), (5, 8)] follows Try.call70 Try.func70 rfl (by kernel_rfl) fun hfix => ?_) ?_
  · have i0 : ∀ b : Blk, (st ++ [b])[st.length]? = some b := fun b => by simp
    have i1 : ∀ b c : Blk, (st ++ [b]).set st.length c = st ++ [c] := fun b c => by simp
    unfold Try.f70
    simp [i0, i1]
    exact ⟨by unfold i64ok; omega, by unfold i64ok; omega, fun h => ⟨h, hn⟩⟩
  · rintro r st' (⟨rfl, rfl⟩ | ⟨rfl, rfl⟩)
    · exact .inr ⟨rfl, 0, false, rfl, rfl⟩
    · exact .inl ⟨1, true, rfl, rfl⟩
/-- What lists of terms are kept as. -/
def llL (ls : List (List Tm)) : List (List AV) := ls.map fun l => [.lst 24 (Tm.cellsL 24 l)]
@[simp] theorem llL_len (l : List (List Tm)) : (llL l).length = l.length := by simp [llL]
@[simp] theorem llL_pure : ∀ l : List (List Tm), AV.pureM (llL l) = true
  | [] => rfl
  | s :: l => by have := llL_pure l; unfold llL at this ⊢; simp [AV.pureM, AV.pureL, AV.pure, this]
@[simp] theorem llL_getElem (l : List (List Tm)) (i : Nat) (h : i < (llL l).length) : (llL l)[i] = [.lst 24 (Tm.cellsL 24 (l[i]'(by simpa using h)))] := by simp [llL]
def lenS : List (List Tm) → Nat
  | [] => 0
  | l :: ls => l.length + lenS ls
theorem lenS_flat : ∀ ls : List (List Tm), ls.flatten.length = lenS ls
  | [] => rfl
  | l :: ls => by simp [lenS, lenS_flat ls]
theorem lenS_sum : ∀ ls : List (List Tm), lenS ls = (ls.map List.length).sum
  | [] => rfl
  | l :: ls => by simp [lenS, lenS_sum ls]
theorem lenS_take : ∀ (ls : List (List Tm)) (i : Nat) (h : i < ls.length), lenS (ls.take (i + 1)) = lenS (ls.take i) + ls[i].length
  | [], _, h => by simp at h
  | l :: ls, 0, _ => by simp [lenS]
  | l :: ls, i + 1, h => by
    have := lenS_take ls i (by simpa using h)
    simp only [List.take_succ_cons, lenS, this, List.getElem_cons_succ]; omega
theorem lenS_le : ∀ (ls : List (List Tm)) (i : Nat), lenS (ls.take i) ≤ lenS ls
  | [], i => by simp
  | l :: ls, 0 => by simp [lenS]
  | l :: ls, i + 1 => by have := lenS_le ls i; simp only [List.take_succ_cons, lenS]; omega
def catI1 (ls : List (List Tm)) (m : Nat) (σ : Slots) (st : St) : Prop := ∃ i : Nat, m = ls.length - i ∧ i ≤ ls.length ∧ σ 0 = .lst 22 (llL ls) ∧ σ 3 = .sc (.int .i64 (lenS (ls.take i))) ∧ σ 9 = .lst 22 (llL ls) ∧ σ 10 = .sc (.int .i64 ls.length) ∧ σ 11 = .sc (.int .i64 i) ∧ st = []
def catI2 (ls : List (List Tm)) (m : Nat) (σ : Slots) (st : St) : Prop := ∃ (i g : Nat) (al : Bool), m = ls.length - i ∧ i ≤ ls.length ∧ σ 6 = .own 0 g ∧ σ 25 = .lst 22 (llL ls) ∧ σ 26 = .sc (.int .i64 ls.length) ∧ σ 27 = .sc (.int .i64 i) ∧ st = [.row 24 g al (Tm.cellsL 24 (ls.take i).flatten)]
set_option maxRecDepth 100000 in
theorem Concat_c (ls : List (List Tm)) (hn : lenS ls * 56 ≤ 140737488355328) : PureCall T Try.prog 57 [.lst 22 (llL ls)] (.lst 24 (Tm.cellsL 24 ls.flatten)) := by
  refine PureCall.of_vc hT [] [(9, 1)] follows Try.call57 Try.func57 rfl (by kernel_rfl) (by simp [AV.pure, AV.pureL]) (by simp [AV.pure]) ?_
  unfold Try.f57
  simp
  intro hb1 hb2
  refine vcC_loop [] (catI1 ls) ls.length ⟨0, by simp [lenS]⟩ ?_
  rintro m σ st ⟨i, rfl, hi, s0, s3, s9, s10, s11, rfl⟩
  have hle := lenS_le ls i
  rcases Nat.lt_or_ge i ls.length with hlt | hge
  · have ht := lenS_take ls i hlt
    have hle1 := lenS_le ls (i + 1)
    simp [s0, s3, s9, s10, s11, hlt]
    refine fun _ _ => ⟨by unfold i64ok; omega, by omega, fun _ => ⟨by unfold i64ok; omega, ls.length - (i + 1), by omega, i + 1, rfl, by omega, by simp [s0], by simp [ht], by simp [s9], by simp [s10], by simp, rfl⟩⟩
  · have hi' : i = ls.length := by omega
    subst hi'
    simp [s0, s3, s9, s10, s11]
    refine vcICall_of (grow_i (lenS ls) hn []) ?_
    rintro r st' ⟨g, al, rfl, rfl⟩ _
    simp [s0, s3, s9, s10, s11]
    intro _ _
    refine vcC_loop [] (catI2 ls) ls.length ⟨0, g, al, by simp [Tm.cellsL]⟩ ?_
    rintro m σ' st ⟨i, g, al, rfl, hi, s6, s25, s26, s27, rfl⟩
    have hle := lenS_le ls i
    rcases Nat.lt_or_ge i ls.length with hlt | hge
    · have ht := lenS_take ls i hlt
      have hle1 := lenS_le ls (i + 1)
      simp [s6, s25, s26, s27, hlt]
      have e1 : (List.take i (List.map List.length ls)).sum = lenS (ls.take i) := by rw [← List.map_take, lenS_sum]
      rw [e1]
      refine ⟨by omega, by unfold i64ok; omega, ls.length - (i + 1), by omega, i + 1, g + 1, al || !(Tm.cellsL 24 ls[i]).isEmpty, rfl, by omega, by simp, by simp [s25], by simp [s26], by simp, ?_⟩
      have e2 : (ls.take (i + 1)).flatten = (ls.take i).flatten ++ ls[i] := by
        rw [List.take_add_one, List.getElem?_eq_getElem hlt, List.flatten_append]
        simp only [Option.toList_some, List.flatten_cons, List.flatten_nil, List.append_nil]
      rw [e2, Tm.cellsL_append]
    · have hi' : i = ls.length := by omega
      subst hi'
      simp [s6, s25, s26, s27]
end Go.T1
end

section
open Go Go.Ab Go.Proofs
namespace Go.T1
def addA (r : AR) : AV := .tup [r.t.av 24, r.ball.av 24, .sc (.bool r.ok)]
@[simp] theorem addA_pure (r : AR) : (addA r).pure = true := by simp [addA, AV.pure, AV.pureL]
theorem compT_def (s : ByteArray) (l : List Tm) : compT s l = if l = [] then Tm.mk 3 0 s [] else .mk 4 0 s l := by cases l <;> rfl
theorem compT_small {s : ByteArray} {l : List Tm} (h : (Tm.mk 4 0 s l).small) : (compT s l).small := by
  rw [compT_def]; split
  · simp [Tm.small, Tm.size, Tm.sizeL]
  · exact h
theorem zero_kind : Tm.zero.kind = 0 := rfl
set_option maxRecDepth 100000 in
theorem Add_c (k n : Int) (s : ByteArray) (L l : List Tm) (ht : (Tm.mk k n s L).small) (hl : (Tm.mk 4 0 s (L ++ l)).small) : PureCall T Try.prog 23 [(Tm.mk k n s L).av 24, .lst 24 (Tm.cellsL 24 l)] (addA (addR (Tm.mk k n s L) l)) := by
  have hlen : (L.length + l.length) * 56 ≤ 140737488355328 := by
    have := length_le_sizeL (L ++ l)
    unfold Tm.small at hl
    simp only [Tm.size, List.length_append] at hl this
    omega
  refine PureCall.of_vc hT [] [(7, 9)] follows Try.call23 Try.func23 rfl (by kernel_rfl) (by simp [AV.pure, AV.pureL]) (by simp) ?_
  unfold Try.f23
  simp [Tm.cells]
  refine vcCall_at (check_c _ ht) ?_
  simp
  refine ⟨fun h => ?_, fun h => ⟨fun hk => ?_, fun hk => ⟨fun hk2 => ?_, fun hk2 => ?_⟩⟩⟩
  · refine vcCall_at size_c ?_
    simp [addA, addR, h, Tm.zero, Tm.cells, Tm.cellsL, zero_empty]
  · refine vcCall_of error0_c (by simp) ?_
    subst hk
    simp [addA, addR, h, Tm.zero, Tm.cells, Tm.cellsL, zero_empty]
  · refine vcCall_at (type_c _ (.mk k n s L)) ?_
    subst hk2
    simp [addA, addR, h, Tm.zero, Tm.cells, Tm.cellsL, zero_empty, callableT]
  have e0 : addR (Tm.mk k n s L) l = if (compT s (L ++ l)).check ≠ 0 then ⟨Tm.zero, sizeT, false⟩ else ⟨compT s (L ++ l), Tm.zero, true⟩ := by
    simp only [addR, if_neg (show ¬ (Tm.mk k n s L).check ≠ 0 by simp [h]), if_neg hk, if_neg hk2, compT_def]
  have hcs := compT_small hl
  rw [e0]
  have hcat : PureCall T Try.prog 57 [.lst 22 [[.lst 24 (Tm.cellsL 24 L)], [.lst 24 (Tm.cellsL 24 l)]]] (.lst 24 (Tm.cellsL 24 (L ++ l))) := by
    have := Concat_c [L, l] (by simpa [lenS] using hlen)
    simpa [llL] using this
  generalize L ++ l = M at *
  refine ⟨fun r st' => r = .ptr 2 0 ∧ st' = [.cells zT, .cells zT, .cells zT], ?_⟩
  simp (decide := true)
  refine ⟨by rintro r st' ⟨rfl, rfl⟩; simp (decide := true), ?_⟩; simp (decide := true)
  refine ⟨by rintro r st' ⟨rfl, rfl⟩; simp (decide := true), ?_⟩; simp (decide := true)
  refine ⟨by rintro r st' ⟨rfl, rfl⟩; simp (decide := true), ?_⟩; simp (decide := true)
  refine ⟨by rintro r st' ⟨rfl, rfl⟩; simp (decide := true), ?_⟩; simp (decide := true)
  refine ⟨by rintro r st' ⟨rfl, rfl⟩; simp (decide := true), ?_⟩; simp (decide := true)
  refine ⟨by rintro r st' ⟨rfl, rfl⟩; simp (decide := true), ?_⟩; simp (decide := true)
  refine vcCall_at hcat ?_; simp (decide := true)
  refine ⟨by rintro r st' ⟨rfl, rfl⟩; simp (decide := true); refine vcCall_at hcat ?_; simp, ?_⟩; simp (decide := true)
  refine vcCall_at (Comp_c s M) ?_; simp (decide := true)
  refine ⟨by rintro r st' ⟨rfl, rfl⟩; simp (decide := true); refine vcCall_at (Comp_c s M) ?_; simp, ?_⟩; simp (decide := true)
  refine vcCall_at (Clone_c _ hcs) ?_; simp (decide := true)
  refine ⟨by rintro r st' ⟨rfl, rfl⟩; simp (decide := true); refine vcCall_at (Clone_c _ hcs) ?_; simp, ?_⟩; simp (decide := true)
  refine ⟨by simp, rfl, by simp [vcI, zT], ?_⟩
  rintro r st' ⟨rfl, rfl⟩ _; simp (decide := true) [zT]
  by_cases hc : (compT s M).check = 0
  · have hk0 : (compT s M).kind ≠ 0 := by rw [compT_def]; split <;> simp [kind_eq]
    simp [hc, hk0, addA, Tm.zero, Tm.cells, Tm.cellsL, zero_empty]
  · simp [hc, zero_kind]
    refine vcCall_at size_c ?_
    simp [addA, Tm.zero, Tm.cells, Tm.cellsL, zero_empty]
set_option maxRecDepth 100000 in
set_option maxHeartbeats 4000000 in
theorem rAdd_c (k n : Int) (s : ByteArray) (L l : List Tm) (ht : (Tm.mk k n s L).small) (hl : (Tm.mk 4 0 s (L ++ l)).small) : PureCall T Try.prog 24 [(Tm.mk k n s L).av 24, .lst 24 (Tm.cellsL 24 l)] (addA (addR (Tm.mk k n s L) l)) := by
  have hlen : (L.length + l.length) * 56 ≤ 140737488355328 := by
    have := length_le_sizeL (L ++ l)
    unfold Tm.small at hl
    simp only [Tm.size, List.length_append] at hl this
    omega
  have hb1 : L.length * 56 ≤ 140737488355328 := by omega
  refine PureCall.of_vc hT [] [(7, 5), (7, 7), (7, 8), (7, 9), (7, 10), (200007, 0), (200007, 1), (200007, 2), (200007, 3), (200007, 4), (200007, 6), (200007, 10005), (200007, 10007), (200007, 10008), (200007, 9), (200007, 10)] follows Try.call24 Try.func24 rfl (by kernel_rfl) (by simp [AV.pure, AV.pureL]) (by simp) ?_
  unfold Try.f24
  simp [Tm.cells]
  refine vcCall_at (rCheck_c _ ht) ?_
  simp
  refine ⟨fun h => ?_, fun h => ⟨fun hk => ?_, fun hk => ⟨fun hk2 => ?_, fun hk2 => ?_⟩⟩⟩
  · refine vcCall_at rSizeB_c ?_
    simp [addA, addR, h, Tm.zero, Tm.cells, Tm.cellsL, zero_empty]
  · refine vcCall_of rInst_c (by simp) ?_
    subst hk
    simp [addA, addR, h, Tm.zero, Tm.cells, Tm.cellsL, zero_empty]
  · refine vcCall_at (rType_c _ (.mk k n s L)) ?_
    subst hk2
    simp [addA, addR, h, Tm.zero, Tm.cells, Tm.cellsL, zero_empty, callableT]
  have e0 : addR (Tm.mk k n s L) l = if (compT s (L ++ l)).check ≠ 0 then ⟨Tm.zero, sizeT, false⟩ else ⟨compT s (L ++ l), Tm.zero, true⟩ := by
    simp only [addR, if_neg (show ¬ (Tm.mk k n s L).check ≠ 0 by simp [h]), if_neg hk, if_neg hk2, compT_def]
  have hcs := compT_small hl
  have hcomp : PureCall T Try.prog 28 [.sc (.string s), .lst 24 (Tm.cellsL 24 L ++ Tm.cellsL 24 l)] ((compT s (L ++ l)).av 24) := by simpa using rComp_c s (L ++ l)
  rw [e0]
  refine ⟨fun _ _ _ => True, ?_⟩
  simp (decide := true)
  refine ⟨by simp (decide := true), ?_⟩; simp (decide := true)
  refine ⟨by simp (decide := true), ?_⟩; simp (decide := true)
  refine ⟨by simp (decide := true), ?_⟩; simp (decide := true)
  refine ⟨by simp (decide := true), ?_⟩; simp (decide := true)
  refine ⟨by simp (decide := true), ?_⟩; simp (decide := true)
  refine ⟨by simp (decide := true), ?_⟩; simp (decide := true)
  refine ⟨?_, ?_⟩
  · refine vcThenQ_of (fun r st' => r = .ptr 2 0 ∧ st' = [.cells zT, .cells zT, .cells zT]) rfl (by simp) rfl (by simp [vcI, zT]) (fun _ _ _ => trivial) ?_
    rintro r st' ⟨rfl, rfl⟩ _
    refine vcThenQ_of (fun r st' => r = .own 3 1 ∧ st' = [.cells zT, .cells zT, .cells zT, .row 24 1 (!(Tm.cellsL 24 L).isEmpty) (Tm.cellsL 24 L)]) rfl (by simp) rfl (by simp [vcI, zT, hb1]) (fun _ _ _ => trivial) ?_
    rintro r st' ⟨rfl, rfl⟩ _
    simp (decide := true)
    refine vcThenQ_of (fun r st' => r = .own 3 2 ∧ st' = [.cells zT, .cells zT, .cells zT, .row 24 2 (!(Tm.cellsL 24 L).isEmpty || !(Tm.cellsL 24 l).isEmpty) (Tm.cellsL 24 (L ++ l))]) rfl (by simp) rfl (by simp [vcI, zT, hlen]) (fun _ _ _ => trivial) ?_
    rintro r st' ⟨rfl, rfl⟩ _
    simp (decide := true)
    refine vcThenQ_of (fun r st' => r = (compT s (L ++ l)).av 24 ∧ st' = [.cells zT, .cells zT, .cells zT, .dead]) rfl (by simp) rfl (by simp [vcI]; exact ICall.freeze (pre := [.sc (.string s)]) (post := []) rfl (ICall.of_pure hcomp _)) (fun _ _ _ => trivial) ?_
    rintro r st' ⟨rfl, rfl⟩ _
    simp (decide := true)
    refine vcThenQ_of (fun r st' => r = .any ∧ st' = [.cells zT, .cells zT, .cells ((compT s (L ++ l)).cells 24), .dead]) rfl (by simp) rfl (by simp [vcI, zT]) (fun _ _ _ => trivial) ?_
    rintro r st' ⟨rfl, rfl⟩ _
    simp (decide := true) [zT]
    refine vcCall_at (rCheck_c _ hcs) ?_
    simp
    refine ⟨fun hc => ?_, fun hc => ?_⟩
    · refine vcCall_at rSizeB_c ?_
      simp [hc, addA, Tm.zero, Tm.cells, Tm.cellsL, zero_empty]
    · simp [hc, addA, Tm.zero, Tm.cells, Tm.cellsL, zero_empty]
  · refine vcThenQ_of (fun r st' => r = .own 2 1 ∧ st' = [.cells zT, .cells zT, .row 24 1 (!(Tm.cellsL 24 L).isEmpty) (Tm.cellsL 24 L)]) rfl (by simp) rfl (by simp [vcI, zT, hb1]) (fun _ _ _ => trivial) ?_
    rintro r st' ⟨rfl, rfl⟩ _
    simp (decide := true)
    refine ⟨?_, ?_⟩
    · refine vcThenQ_of (fun r st' => r = .ptr 3 0 ∧ st' = [.cells zT, .cells zT, .row 24 1 (!(Tm.cellsL 24 L).isEmpty) (Tm.cellsL 24 L), .cells zT]) rfl (by simp) rfl (by simp [vcI, zT]) (fun _ _ _ => trivial) ?_
      rintro r st' ⟨rfl, rfl⟩ _
      refine vcThenQ_of (fun r st' => r = .own 2 2 ∧ st' = [.cells zT, .cells zT, .row 24 2 (!(Tm.cellsL 24 L).isEmpty || !(Tm.cellsL 24 l).isEmpty) (Tm.cellsL 24 (L ++ l)), .cells zT]) rfl (by simp) rfl (by simp [vcI, zT, hlen]) (fun _ _ _ => trivial) ?_
      rintro r st' ⟨rfl, rfl⟩ _
      simp (decide := true)
      refine vcThenQ_of (fun r st' => r = (compT s (L ++ l)).av 24 ∧ st' = [.cells zT, .cells zT, .dead, .cells zT]) rfl (by simp) rfl (by simp [vcI]; exact ICall.freeze (pre := [.sc (.string s)]) (post := []) rfl (ICall.of_pure hcomp _)) (fun _ _ _ => trivial) ?_
      rintro r st' ⟨rfl, rfl⟩ _
      simp (decide := true)
      refine vcThenQ_of (fun r st' => r = .any ∧ st' = [.cells zT, .cells zT, .dead, .cells ((compT s (L ++ l)).cells 24)]) rfl (by simp) rfl (by simp [vcI, zT]) (fun _ _ _ => trivial) ?_
      rintro r st' ⟨rfl, rfl⟩ _
      simp (decide := true) [zT]
      refine vcCall_at (rCheck_c _ hcs) ?_
      simp
      refine ⟨fun hc => ?_, fun hc => ?_⟩
      · refine vcCall_at rSizeB_c ?_
        simp [hc, addA, Tm.zero, Tm.cells, Tm.cellsL, zero_empty]
      · simp [hc, addA, Tm.zero, Tm.cells, Tm.cellsL, zero_empty]
    · refine vcThenQ_of (fun r st' => r = .own 2 2 ∧ st' = [.cells zT, .cells zT, .row 24 2 (!(Tm.cellsL 24 L).isEmpty || !(Tm.cellsL 24 l).isEmpty) (Tm.cellsL 24 (L ++ l))]) rfl (by simp) rfl (by simp [vcI, zT, hlen]) (fun _ _ _ => trivial) ?_
      rintro r st' ⟨rfl, rfl⟩ _
      simp (decide := true)
      refine ⟨?_, ?_⟩
      · refine vcThenQ_of (fun r st' => r = .ptr 3 0 ∧ st' = [.cells zT, .cells zT, .row 24 2 (!(Tm.cellsL 24 L).isEmpty || !(Tm.cellsL 24 l).isEmpty) (Tm.cellsL 24 (L ++ l)), .cells zT]) rfl (by simp) rfl (by simp [vcI, zT]) (fun _ _ _ => trivial) ?_
        rintro r st' ⟨rfl, rfl⟩ _
        refine vcThenQ_of (fun r st' => r = (compT s (L ++ l)).av 24 ∧ st' = [.cells zT, .cells zT, .dead, .cells zT]) rfl (by simp) rfl (by simp [vcI]; exact ICall.freeze (pre := [.sc (.string s)]) (post := []) rfl (ICall.of_pure hcomp _)) (fun _ _ _ => trivial) ?_
        rintro r st' ⟨rfl, rfl⟩ _
        simp (decide := true)
        refine vcThenQ_of (fun r st' => r = .any ∧ st' = [.cells zT, .cells zT, .dead, .cells ((compT s (L ++ l)).cells 24)]) rfl (by simp) rfl (by simp [vcI, zT]) (fun _ _ _ => trivial) ?_
        rintro r st' ⟨rfl, rfl⟩ _
        simp (decide := true) [zT]
        refine vcCall_at (rCheck_c _ hcs) ?_
        simp
        refine ⟨fun hc => ?_, fun hc => ?_⟩
        · refine vcCall_at rSizeB_c ?_
          simp [hc, addA, Tm.zero, Tm.cells, Tm.cellsL, zero_empty]
        · simp [hc, addA, Tm.zero, Tm.cells, Tm.cellsL, zero_empty]
      · refine vcThenQ_of (fun r st' => r = (compT s (L ++ l)).av 24 ∧ st' = [.cells zT, .cells zT, .dead]) rfl (by simp) rfl (by simp [vcI]; exact ICall.freeze (pre := [.sc (.string s)]) (post := []) rfl (ICall.of_pure hcomp _)) (fun _ _ _ => trivial) ?_
        rintro r st' ⟨rfl, rfl⟩ _
        simp (decide := true)
        refine vcThenQ_of (fun r st' => r = .ptr 3 0 ∧ st' = [.cells zT, .cells zT, .dead, .cells zT]) rfl (by simp) rfl (by simp [vcI, zT]) (fun _ _ _ => trivial) ?_
        rintro r st' ⟨rfl, rfl⟩ _
        simp (decide := true)
        refine vcThenQ_of (fun r st' => r = .any ∧ st' = [.cells zT, .cells zT, .dead, .cells ((compT s (L ++ l)).cells 24)]) rfl (by simp) rfl (by simp [vcI, zT]) (fun _ _ _ => trivial) ?_
        rintro r st' ⟨rfl, rfl⟩ _
        simp (decide := true) [zT]
        refine vcCall_at (rCheck_c _ hcs) ?_
        simp
        refine ⟨fun hc => ?_, fun hc => ?_⟩
        · refine vcCall_at rSizeB_c ?_
          simp [hc, addA, Tm.zero, Tm.cells, Tm.cellsL, zero_empty]
        · simp [hc, addA, Tm.zero, Tm.cells, Tm.cellsL, zero_empty]
end Go.T1
end
