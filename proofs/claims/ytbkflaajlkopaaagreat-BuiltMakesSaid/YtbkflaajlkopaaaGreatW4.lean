/- Contracts of the functions that package built asks of packages term, order, arith and subst, and of their answers: each at every term of a size that is bounded. -/
import Derived.Test.YtbkflaajlkopaaaGreatW3
import Derived.Test.YtbkflaajlkopaaaGreatRows
import Derived.KernelRfl
import Derived.RangeFuncNested
import Derived.RangeFuncBound
import Derived.RangeFuncCalls
import Derived.RangeFuncLeaves
import Derived.Shelf.Abstract
import Derived.Shelf.RegionOpen
import Derived.WalkKit
import Derived.OwnWalkIn
import Derived.TacticsInMore
import Derived.LoopNIn
import Derived.LoopIn
import Derived.SizedLaws
import Derived.Carry
import Derived.ProofKit
import Derived.OpenShut
import Derived.JoinedOf
import Derived.ChangeSame
set_option linter.unusedSimpArgs false
set_option linter.unusedVariables false
set_option linter.unusedSectionVars false
set_option linter.unnecessarySimpa false
section
open Go Go.Ab Go.Proofs
namespace Go.T1
noncomputable abbrev T : Tab := tabOf Tryz.prog
theorem hT : TabOk T Tryz.prog := tabOf_ok _
@[simp] theorem ty3 : T 3 = some ⟨1, 8, .int .i64, [], some (.int .i64 0)⟩ := by kernel_rfl
@[simp] theorem ty35 : T 35 = some ⟨1, 8, .int .i64, [], some (.int .i64 0)⟩ := by kernel_rfl
@[simp] theorem ty4 : T 4 = some ⟨1, 1, .bool, [], some (.bool false)⟩ := by kernel_rfl
@[simp] theorem ty9 : T 9 = some ⟨1, 16, .str, [], some (.string .empty)⟩ := by kernel_rfl
@[simp] theorem ty22 : T 22 = some ⟨1, 24, .slice 26, [], some (.slice none 0 0)⟩ := by kernel_rfl
@[simp] theorem ty26 : T 26 = some ⟨4, 56, .strct, [(0,1),(1,1),(2,1),(3,1)], some (.agg #[.int .i64 0, .int .i64 0, .string .empty, .slice none 0 0])⟩ := by kernel_rfl
@[simp] theorem ty83 : T 83 = some ⟨3, 24, .strct, [(0,1),(1,1),(2,1)], some (.agg #[.int .i64 0, .int .i64 0, .bool false])⟩ := by kernel_rfl
theorem follows : Tryz.prog.follows .mixedOrders = true := by kernel_rfl
end Go.T1
end

section
open Go Go.Ab Go.Proofs
namespace Go.T1
set_option maxRecDepth 100000 in
theorem bare_c (k n : Int) (s : ByteArray) (l : List Tm) : PureCall T Tryz.prog 150 [(Tm.mk k n s l).av 26] (.sc (.bool (decide (s = ⟨#[]⟩) && decide (l.length = 0)))) := by
  refine PureCall.of_vc hT [] [] follows Tryz.call150 Tryz.func150 rfl (by kernel_rfl) (by simp [AV.pure, AV.pureL]) rfl ?_
  unfold Tryz.f150
  simp [Tm.cells]

set_option maxRecDepth 100000 in
theorem refpart_c (k n : Int) (s : ByteArray) (l : List Tm) : PureCall T Tryz.prog 61 [(Tm.mk k n s l).av 26] (.sc (.bool (partB k n s l.length))) := by
  generalize hr : partB k n s l.length = r
  refine PureCall.of_vc hT [] [] follows Tryz.call61 Tryz.func61 rfl (by kernel_rfl) (by simp [AV.pure, AV.pureL]) rfl ?_
  unfold Tryz.f61
  simp [Tm.cells]
  subst hr
  unfold partB
  refine ⟨fun h _ => by simp [h], fun h1 => ⟨fun h _ => by simp [h], fun h2 => ⟨fun h _ => by simp [h], fun h3 => ⟨fun h _ _ => by simp [h], fun h4 => by simp [*]⟩⟩⟩⟩

set_option maxRecDepth 100000 in
theorem part_c (k n : Int) (s : ByteArray) (l : List Tm) : PureCall T Tryz.prog 127 [(Tm.mk k n s l).av 26] (.sc (.bool (partB k n s l.length))) := by
  generalize hr : partB k n s l.length = r
  refine PureCall.of_vc hT [] [] follows Tryz.call127 Tryz.func127 rfl (by kernel_rfl) (by simp [AV.pure, AV.pureL]) rfl ?_
  unfold Tryz.f127
  simp [Tm.cells]
  refine ⟨fun h => vcCall_at (bare_c k n s l) ?_, fun h1 => ⟨fun h => vcCall_at (bare_c k n s l) ?_, fun h2 => ⟨fun h _ => by subst hr; simp [h, partB], fun h3 => ⟨fun h _ _ => by subst hr; simp [h, partB], fun h4 => by subst hr; simp [partB, *]⟩⟩⟩⟩
  · simp
    subst hr; simp [h, partB, Bool.and_assoc]
  · simp
    subst hr; simp [h, partB, Bool.and_assoc]

/-- What is counted. -/
def cntB (p d : Int) (b : Bool) : Blk := .cells [.sc (.int .i64 p), .sc (.int .i64 d), .sc (.bool b)]

set_option maxRecDepth 100000 in
theorem count_c : ∀ (t : Tm) (p d dep : Int) (b : Bool) (id : Nat) (st : St), st[id]? = some (cntB p d b) → 0 ≤ p → p + t.size ≤ 1000000000 → 0 ≤ dep → dep + t.depth ≤ 1000000000 →
    ICall T Tryz.prog 100 [.ptr id 0, t.av 26, .sc (.int .i64 dep)] st (fun r st' => r = .tup [] ∧ st' = st.set id (cntB (p + t.size) (max d (dep + t.depth - 1)) (b || !t.right))) := by
  refine Tm.ind fun k n s l ih => ?_
  intro p d dep b id st hid hp hps hdep hdd
  have hidl : id < st.length := (List.getElem?_eq_some_iff.1 hid).1
  refine ICall.of_vc hT [] [(7, 4)] follows Tryz.call100 Tryz.func100 rfl (by kernel_rfl) fun hfix => ?_
  unfold Tryz.f100
  have hset : ∀ b, (st.set id b)[id]? = some b := fun b => by simp [hidl]
  unfold cntB at hid
  clear hidl
  simp [Tm.cells, hid, hset, cntB]
  simp only [Tm.size, Tm.depth] at hps hdd
  have hb1 := Tm.depthL_le_sizeL l
  refine ⟨by unfold i64ok; omega, vcCall_at (part_c k n s l) ?_⟩
  simp [hid, hset]
  intro hl1 hl2
  refine vcC_loop [] (fun m σ st' => ∃ i : Nat, m = l.length - i ∧ i ≤ l.length ∧ σ 0 = .ptr id 0 ∧ σ 2 = .sc (.int .i64 dep) ∧ σ 37 = .lst 26 (Tm.cellsL 26 l) ∧ σ 38 = .sc (.int .i64 l.length) ∧ σ 39 = .sc (.int .i64 i) ∧
    st' = st.set id (cntB (p + 1 + Tm.sizeL (l.take i)) (max (max d dep) (dep + Tm.depthL (l.take i))) ((b || !partB k n s l.length) || !Tm.rightL (l.take i)))) l.length ⟨0, by simp, by simp, by simp, by simp, by simp, by simp, by simp, ?_⟩ ?_
  · simp [Tm.sizeL, Tm.depthL, Tm.rightL, cntB]
  rintro m σ st' ⟨i, rfl, hi, s0, s2, s37, s38, s39, rfl⟩
  rcases Nat.lt_or_ge i l.length with hlt | hge
  · have h1 := Tm.size_get hlt
    have h2 := Tm.sizeL_take_le l i
    have h3 := Tm.depthL_take_le l (i + 1)
    rw [Tm.depthL_take hlt] at h3
    have h4 := Tm.depth_le_size l[i]
    simp [s0, s2, s37, s38, s39, hlt]
    refine ⟨by unfold i64ok; omega, vcICall_of (ih l[i] (List.getElem_mem hlt) _ _ _ _ id _ (hset _) (by omega) (by omega) (by omega) (by omega)) ?_⟩
    rintro r st' ⟨rfl, rfl⟩ _
    simp [s0, s2, s37, s38, s39]
    refine ⟨by unfold i64ok; omega, l.length - (i + 1), by omega, i + 1, rfl, by omega, by omega, ?_⟩
    rw [Tm.sizeL_take hlt, Tm.depthL_take hlt, Tm.rightL_take hlt]
    congr 2
    · omega
    · omega
    · simp [Bool.or_assoc]
  · simp [s0, s2, s37, s38, s39, Nat.not_lt.2 hge]
    refine endP_mk (.tup []) (by simp) (by simp) ⟨rfl, ?_⟩
    have hi : i = l.length := by omega
    subst hi
    rw [cutSt_set0 hfix]
    have e1 : p + 1 + (Tm.sizeL l : Int) = p + (1 + Tm.sizeL l) := by omega
    have e2 : max d (max dep (dep + (Tm.depthL l : Int))) = max d (dep + (Tm.depthL l + 1) - 1) := by omega
    simp [cntB, Tm.size, Tm.depth, Tm.right, e1, e2, Bool.or_assoc]

set_option maxRecDepth 100000 in
theorem measure_c (t : Tm) (ht : t.small) : PureCall T Tryz.prog 68 [t.av 26] (.agg [.sc (.int .i64 t.size), .sc (.int .i64 t.depth), .sc (.bool (!t.right))]) := by
  unfold Tm.small at ht
  refine PureCall.of_vc hT [] [(2, 1)] follows Tryz.call68 Tryz.func68 rfl (by kernel_rfl) (by simp [AV.pure, AV.pureL]) rfl ?_
  unfold Tryz.f68
  have h1 := Tm.depth_le_size t
  have h2 := Tm.depth_pos t
  simp
  refine vcICall_of (count_c t 0 0 1 false 1 _ (by simp [cntB]) (by omega) (by omega) (by omega) (by omega)) ?_
  rintro r st' ⟨rfl, rfl⟩ _
  simp [cntB]
  omega

set_option maxRecDepth 100000 in
theorem check_c (t : Tm) (ht : t.small) : PureCall T Tryz.prog 47 [t.av 26] (.sc (.int .i64 t.check)) := by
  generalize hr : t.check = r
  refine PureCall.of_vc hT [] [] follows Tryz.call47 Tryz.func47 rfl (by kernel_rfl) (by simp [AV.pure, AV.pureL]) rfl ?_
  unfold Tryz.f47
  simp
  refine vcCall_at (measure_c t ht) ?_
  simp
  unfold Tm.check at hr
  refine ⟨fun h => by rw [if_pos h] at hr; exact hr, fun h => ?_⟩
  rw [if_neg (by simp [h])] at hr
  refine ⟨fun h1 => by rw [if_pos (by omega)] at hr; exact hr, fun h1 => ?_⟩
  rw [if_neg (by omega)] at hr
  exact ⟨fun h2 => by rw [if_pos (by omega)] at hr; exact hr, fun h2 => by rw [if_neg (by omega)] at hr; exact hr⟩

set_option maxRecDepth 100000 in
theorem may_c (t : Tm) (ht : t.small) : PureCall T Tryz.prog 105 [t.av 26] (.sc (.bool (decide (t.check = 0)))) := by
  refine PureCall.of_vc hT [] [] follows Tryz.call105 Tryz.func105 rfl (by kernel_rfl) (by simp [AV.pure, AV.pureL]) rfl ?_
  unfold Tryz.f105
  simp
  refine vcCall_at (check_c t ht) ?_
  simp

set_option maxRecDepth 100000 in
theorem exact_c : ∀ a b : Tm, PureCall T Tryz.prog 23 [a.av 26, b.av 26] (.sc (.bool (decide (a = b)))) := by
  refine Tm.ind fun k n s l ih => ?_
  rintro ⟨k', n', s', l'⟩
  generalize hr : decide (Tm.mk k n s l = Tm.mk k' n' s' l') = r
  refine PureCall.of_vc hT [] [] follows Tryz.call23 Tryz.func23 rfl (by kernel_rfl) (by simp [AV.pure, AV.pureL]) rfl ?_
  unfold Tryz.f23
  simp [Tm.cells]
  intro hb1 hb2
  refine ⟨fun h => ?_, fun h1 h2 h3 h4 => ?_⟩
  · subst hr; simp; rintro rfl rfl rfl rfl; simp at h
  · subst h1 h2 h3
    have hb1 := hb1 rfl rfl rfl
    have hlen : l.length = l'.length := by omega
    refine vcC_loop [] (fun m σ st => ∃ i : Nat, m = l.length - i ∧ i ≤ l.length ∧ l.take i = l'.take i ∧ σ 2 = .eptr [.sc (.int .i64 k), .sc (.int .i64 n), .sc (.string s), .lst 26 (Tm.cellsL 26 l)] ∧
      σ 3 = .eptr [.sc (.int .i64 k), .sc (.int .i64 n), .sc (.string s), .lst 26 (Tm.cellsL 26 l')] ∧ σ 5 = .sc (.int .i64 i) ∧ st = []) l.length ⟨0, by simp⟩ ?_
    rintro m σ st ⟨i, rfl, hi, htk, s2, s3, s5, rfl⟩
    rcases Nat.lt_or_ge i l.length with hlt | hge
    · have hlt' : i < l'.length := hlen ▸ hlt
      simp [s2, s3, s5, hlt, hlt']
      refine fun _ _ => vcCall_at (ih l[i] (List.getElem_mem hlt) l'[i]) ?_
      simp [s2, s3, s5]
      refine ⟨fun hne => ?_, fun he => ⟨by simp [i64ok]; omega, l.length - (i + 1), by omega, i + 1, rfl, by omega, ?_, by simp⟩⟩
      · subst hr; simp; rintro rfl; exact hne rfl
      · rw [List.take_add_one, List.take_add_one, htk]; simp [hlt, hlt', he]
    · simp [s2, s3, s5, Nat.not_lt.2 hge]
      subst hr
      have : i = l.length := by omega
      subst this
      simp
      rw [List.take_of_length_le (by omega), List.take_of_length_le (by omega)] at htk
      exact fun _ _ => htk
end Go.T1
end

section
open Go Go.Ab Go.Proofs
namespace Go.T1
set_option maxRecDepth 100000 in
theorem Var_c (n : Int) : PureCall T Tryz.prog 118 [.sc (.int .i64 n)] ((Tm.mk 1 n ⟨#[]⟩ []).av 26) := by
  refine PureCall.of_vc hT [] [] follows Tryz.call118 Tryz.func118 rfl (by kernel_rfl) rfl rfl ?_
  unfold Tryz.f118
  simp [Tm.cells, Tm.cellsL]
  rfl
set_option maxRecDepth 100000 in
theorem rVar_c (n : Int) : PureCall T Tryz.prog 19 [.sc (.int .i64 n)] ((Tm.mk 1 n ⟨#[]⟩ []).av 26) := by
  refine PureCall.of_vc hT [] [] follows Tryz.call19 Tryz.func19 rfl (by kernel_rfl) rfl rfl ?_
  unfold Tryz.f19
  simp [Tm.cells, Tm.cellsL]
  rfl
set_option maxRecDepth 100000 in
theorem Int_c (n : Int) : PureCall T Tryz.prog 84 [.sc (.int .i64 n)] ((Tm.mk 2 n ⟨#[]⟩ []).av 26) := by
  refine PureCall.of_vc hT [] [] follows Tryz.call84 Tryz.func84 rfl (by kernel_rfl) rfl rfl ?_
  unfold Tryz.f84
  simp [Tm.cells, Tm.cellsL]
  rfl
set_option maxRecDepth 100000 in
theorem rInt_c (n : Int) : PureCall T Tryz.prog 24 [.sc (.int .i64 n)] ((Tm.mk 2 n ⟨#[]⟩ []).av 26) := by
  refine PureCall.of_vc hT [] [] follows Tryz.call24 Tryz.func24 rfl (by kernel_rfl) rfl rfl ?_
  unfold Tryz.f24
  simp [Tm.cells, Tm.cellsL]
  rfl
set_option maxRecDepth 100000 in
theorem Atom_c (s : ByteArray) : PureCall T Tryz.prog 50 [.sc (.string s)] ((Tm.mk 3 0 s []).av 26) := by
  refine PureCall.of_vc hT [] [] follows Tryz.call50 Tryz.func50 rfl (by kernel_rfl) rfl rfl ?_
  unfold Tryz.f50
  simp [Tm.cells, Tm.cellsL]
set_option maxRecDepth 100000 in
theorem rAtom_c (s : ByteArray) : PureCall T Tryz.prog 25 [.sc (.string s)] ((Tm.mk 3 0 s []).av 26) := by
  refine PureCall.of_vc hT [] [] follows Tryz.call25 Tryz.func25 rfl (by kernel_rfl) rfl rfl ?_
  unfold Tryz.f25
  simp [Tm.cells, Tm.cellsL]

set_option maxRecDepth 100000 in
theorem slClone_c (l : List Tm) (hl : l.length * 56 ≤ 140737488355328) : PureCall T Tryz.prog 101 [.lst 26 (Tm.cellsL 26 l)] (.lst 26 (Tm.cellsL 26 l)) := by
  refine PureCall.of_vc hT [] [] follows Tryz.call101 Tryz.func101 rfl (by kernel_rfl) (by simp [AV.pure, AV.pureL]) (by simp [AV.pure]) ?_
  unfold Tryz.f101
  simp [hl]

/-- A compound, or an atom. -/
def compT (s : ByteArray) (l : List Tm) : Tm := if l = [] then .mk 3 0 s [] else .mk 4 0 s l

set_option maxRecDepth 100000 in
theorem Comp_c (s : ByteArray) (l : List Tm) : PureCall T Tryz.prog 69 [.sc (.string s), .lst 26 (Tm.cellsL 26 l)] ((compT s l).av 26) := by
  unfold compT
  refine PureCall.of_vc hT [] [] follows Tryz.call69 Tryz.func69 rfl (by kernel_rfl) (by simp [AV.pure, AV.pureL]) (by simp [AV.pure]) ?_
  unfold Tryz.f69
  simp
  intro h1 h2
  refine ⟨fun h => ?_, fun h => ?_⟩
  · subst h
    refine vcCall_at (Atom_c s) ?_
    simp
  · rw [if_neg h]
    refine vcCall_at (slClone_c l h1) ?_
    simp [Tm.cells]

set_option maxRecDepth 100000 in
theorem rComp_c (s : ByteArray) (l : List Tm) : PureCall T Tryz.prog 21 [.sc (.string s), .lst 26 (Tm.cellsL 26 l)] ((compT s l).av 26) := by
  unfold compT
  refine PureCall.of_vc hT [] [] follows Tryz.call21 Tryz.func21 rfl (by kernel_rfl) (by simp [AV.pure, AV.pureL]) (by simp [AV.pure]) ?_
  unfold Tryz.f21
  simp
  intro h1 h2
  refine ⟨fun h => ?_, fun h => ?_⟩
  · subst h
    refine vcCall_at (rAtom_c s) ?_
    simp
  · rw [if_neg h]
    simp [Tm.cells, h1]

@[simp] theorem pf57_0 : plainField Tryz.prog 83 0 = some 0 := by kernel_rfl
@[simp] theorem pf57_1 : plainField Tryz.prog 83 1 = some 1 := by kernel_rfl
end Go.T1
end

section
open Go Go.Ab Go.Proofs
namespace Go.T1
set_option maxRecDepth 100000 in
theorem build_c (fn : FuncId) (fs cs : List AV) (hF : (AV.fn (.func fn) fs cs).pure = true) (f : Int → Tm) :
    ∀ t : Tm, (∀ n ∈ t.occ, PureCall T Tryz.prog fn (fs ++ .sc (.int .i64 n) :: cs) ((f n).av 26)) → PureCall T Tryz.prog 138 [t.av 26, .fn (.func fn) fs cs] ((t.sub f).av 26) := by
  refine Tm.ind fun k n s l ih => ?_
  intro hx
  refine PureCall.of_vc hT [5] [] follows Tryz.call138 Tryz.func138 rfl (by kernel_rfl) (by simp [AV.pure, AV.pureL]; simpa [AV.pure] using hF) (by simp [AV.pure]) ?_
  unfold Tryz.f138
  simp [Tm.cells]
  refine ⟨fun h => ?_, fun h => ?_⟩
  · refine vcCall_at (hx n (by simp [Tm.occ, h])) ?_
    simp [h, Tm.sub]
  · intro hl1 hl2
    refine vcC_loop [(26, .cell 1 3)] (fun m σ st => ∃ (i : Nat) (al : Bool), m = l.length - i ∧ i ≤ l.length ∧ σ 1 = .fn (.func fn) fs cs ∧ σ 4 = .ptr 0 0 ∧ σ 5 = .ptr 1 0 ∧ σ 23 = .lst 26 (Tm.cellsL 26 l) ∧
      σ 24 = .sc (.int .i64 l.length) ∧ σ 25 = .sc (.int .i64 i) ∧
      st = [.cells [.sc (.int .i64 0), .sc (.int .i64 0), .sc (.string .empty), .nils], .cells [.sc (.int .i64 k), .sc (.int .i64 n), .sc (.string s), .own 2 i], .row 26 i al (Tm.cellsL 26 (Tm.subL f (l.take i)))]) l.length ?_ ?_
    · simp [Tm.subL, Tm.cellsL]
      exact ⟨0, by simp, by simp, by simp, rfl, by simp [Tm.subL]⟩
    rintro m σ st ⟨i, al, rfl, hi, s1, s4, s5, s23, s24, s25, rfl⟩
    rcases Nat.lt_or_ge i l.length with hlt | hge
    · simp [s1, s4, s5, s23, s24, s25, hlt]
      refine vcCall_at (ih l[i] (List.getElem_mem hlt) fun m hm => hx m (by simp only [Tm.occ, if_neg h]; exact Tm.occ_mem (List.getElem_mem hlt) hm)) ?_
      simp [s1, s4, s5, s23, s24, s25]
      refine ⟨by rw [Nat.min_eq_left hi]; omega, by unfold i64ok; omega, l.length - (i + 1), by omega, i + 1, rfl, by omega, by omega, rfl, ?_⟩
      rw [Tm.subL_take hlt]
      simp [Tm.cellsL]
    · have hi : i = l.length := by omega
      subst hi
      simp [s1, s4, s5, s23, s24, s25]
      simp [Tm.sub, h, Tm.cells]
end Go.T1
end

section
open Go Go.Ab Go.Proofs
namespace Go.T1
set_option maxRecDepth 100000 in
theorem rright_c : ∀ t : Tm, PureCall T Tryz.prog 38 [t.av 26] (.sc (.bool t.right)) := by
  refine Tm.ind fun k n s l ih => ?_
  generalize hr : (Tm.mk k n s l).right = r
  simp only [Tm.right] at hr
  refine PureCall.of_vc hT [] [] follows Tryz.call38 Tryz.func38 rfl (by kernel_rfl) (by simp [AV.pure, AV.pureL]) rfl ?_
  unfold Tryz.f38
  simp [Tm.cells]
  refine vcCall_at (refpart_c k n s l) ?_
  simp
  refine ⟨fun h => by simp [h] at hr; exact hr.symm ▸ rfl, fun h => ?_⟩
  rw [h, Bool.true_and] at hr
  refine vcC_loop [] (fun m σ st => ∃ i : Nat, m = l.length - i ∧ i ≤ l.length ∧ Tm.rightL (l.take i) = true ∧ σ 1 = .eptr [.sc (.int .i64 k), .sc (.int .i64 n), .sc (.string s), .lst 26 (Tm.cellsL 26 l)] ∧
    σ 3 = .sc (.int .i64 i) ∧ st = []) l.length ⟨0, by simp [Tm.rightL]⟩ ?_
  rintro m σ st ⟨i, rfl, hi, htk, s1, s3, rfl⟩
  rcases Nat.lt_or_ge i l.length with hlt | hge
  · simp [s1, s3, hlt]
    refine fun hb1 hb2 => vcCall_at (ih l[i] (List.getElem_mem hlt)) ?_
    simp [s1, s3]
    have h2 : Tm.rightL (l.take (i + 1)) = l[i].right := by rw [Tm.rightL_take hlt, htk, Bool.true_and]
    refine ⟨fun hf => ?_, fun ht => ⟨by unfold i64ok; omega, l.length - (i + 1), by omega, i + 1, rfl, by omega, by rw [h2]; exact ht, by omega⟩⟩
    rw [← hr, ← List.take_append_drop (i + 1) l, Tm.rightL_append, h2, hf]; rfl
  · have hi : i = l.length := by omega
    subst hi
    simp [s1, s3]
    rw [List.take_length] at htk
    rw [← hr, htk]
    exact fun _ _ => rfl

set_option maxRecDepth 100000 in
theorem rDepth_c : ∀ t : Tm, t.small → PureCall T Tryz.prog 18 [t.av 26] (.sc (.int .i64 t.depth)) := by
  refine Tm.ind fun k n s l ih => ?_
  intro hs
  have hsm : 1 + Tm.sizeL l ≤ 900000000 := hs
  have hds := Tm.depthL_le_sizeL l
  refine PureCall.of_vc hT [] [] follows Tryz.call18 Tryz.func18 rfl (by kernel_rfl) (by simp [AV.pure, AV.pureL]) rfl ?_
  unfold Tryz.f18
  simp [Tm.cells]
  refine vcC_loop [] (fun m σ st => ∃ i : Nat, m = l.length - i ∧ i ≤ l.length ∧ σ 1 = .eptr [.sc (.int .i64 k), .sc (.int .i64 n), .sc (.string s), .lst 26 (Tm.cellsL 26 l)] ∧
    σ 4 = .sc (.int .i64 i) ∧ σ 3 = .sc (.int .i64 (Tm.depthL (l.take i))) ∧ st = []) l.length ⟨0, by simp [Tm.depthL]⟩ ?_
  rintro m σ st ⟨i, rfl, hi, s1, s4, s3, rfl⟩
  rcases Nat.lt_or_ge i l.length with hlt | hge
  · have h1 := Tm.size_get hlt
    simp [s1, s3, s4, hlt]
    refine fun hb1 hb2 => vcCall_at (ih l[i] (List.getElem_mem hlt) (by unfold Tm.small; omega)) ?_
    simp [s1, s3, s4]
    have h2 := Tm.depthL_take hlt
    exact ⟨fun hf => ⟨by unfold i64ok; omega, l.length - (i + 1), by omega, i + 1, rfl, by omega, by omega, by omega⟩, fun hf => ⟨by unfold i64ok; omega, l.length - (i + 1), by omega, i + 1, rfl, by omega, by omega, by omega⟩⟩
  · have hi : i = l.length := by omega
    subst hi
    simp [s1, s3, s4, Tm.depth]
    intro _ _
    unfold i64ok; omega

set_option maxRecDepth 100000 in
theorem rSize_c : ∀ t : Tm, t.small → PureCall T Tryz.prog 17 [t.av 26] (.sc (.int .i64 t.size)) := by
  refine Tm.ind fun k n s l ih => ?_
  intro hs
  have hsm : 1 + Tm.sizeL l ≤ 900000000 := hs
  refine PureCall.of_vc hT [] [] follows Tryz.call17 Tryz.func17 rfl (by kernel_rfl) (by simp [AV.pure, AV.pureL]) rfl ?_
  unfold Tryz.f17
  simp [Tm.cells]
  refine vcC_loop [] (fun m σ st => ∃ i : Nat, m = l.length - i ∧ i ≤ l.length ∧ σ 1 = .eptr [.sc (.int .i64 k), .sc (.int .i64 n), .sc (.string s), .lst 26 (Tm.cellsL 26 l)] ∧
    σ 4 = .sc (.int .i64 i) ∧ σ 3 = .sc (.int .i64 (1 + Tm.sizeL (l.take i))) ∧ st = []) l.length ⟨0, by simp [Tm.sizeL]⟩ ?_
  rintro m σ st ⟨i, rfl, hi, s1, s4, s3, rfl⟩
  rcases Nat.lt_or_ge i l.length with hlt | hge
  · have h1 := Tm.size_get hlt
    simp [s1, s3, s4, hlt]
    refine fun hb1 hb2 => vcCall_at (ih l[i] (List.getElem_mem hlt) (by unfold Tm.small; omega)) ?_
    simp [s1, s3, s4]
    have h2 := Tm.sizeL_take hlt
    exact ⟨by unfold i64ok; omega, by unfold i64ok; omega, l.length - (i + 1), by omega, i + 1, rfl, by omega, by omega, by omega⟩
  · have hi : i = l.length := by omega
    subst hi
    simp [s1, s3, s4, Tm.size]

set_option maxRecDepth 100000 in
theorem rCheck_c (t : Tm) (ht : t.small) : PureCall T Tryz.prog 16 [t.av 26] (.sc (.int .i64 t.check)) := by
  generalize hr : t.check = r
  unfold Tm.check at hr
  refine PureCall.of_vc hT [] [] follows Tryz.call16 Tryz.func16 rfl (by kernel_rfl) (by simp [AV.pure, AV.pureL]) rfl ?_
  unfold Tryz.f16
  simp
  refine vcCall_at (rright_c t) ?_
  simp
  refine ⟨fun h => by rw [if_pos h] at hr; exact hr, fun h => ?_⟩
  rw [if_neg (by simp [h])] at hr
  refine vcCall_at (rDepth_c t ht) ?_
  simp
  refine ⟨fun h1 => by rw [if_pos (by omega)] at hr; exact hr, fun h1 => ?_⟩
  rw [if_neg (by omega)] at hr
  refine vcCall_at (rSize_c t ht) ?_
  simp
  exact ⟨fun h2 => by rw [if_pos (by omega)] at hr; exact hr, fun h2 => by rw [if_neg (by omega)] at hr; exact hr⟩
end Go.T1
end

section
open Go Go.Ab Go.Proofs
namespace Go.T1
set_option maxRecDepth 100000 in
theorem equalFunc_c (F : FuncId) (a b : List Tm) (ih : ∀ x ∈ a, ∀ y, PureCall T Tryz.prog F [x.av 26, y.av 26] (.sc (.bool (decide (x = y))))) :
    PureCall T Tryz.prog 133 [.lst 26 (Tm.cellsL 26 a), .lst 26 (Tm.cellsL 26 b), .fn (.func F) [] []] (.sc (.bool (decide (a = b)))) := by
  generalize hr : decide (a = b) = r
  refine PureCall.of_vc hT [] [] follows Tryz.call133 Tryz.func133 rfl (by kernel_rfl) (by simp [AV.pure, AV.pureL]) rfl ?_
  unfold Tryz.f133
  simp
  intro hb1 hb2 hb3 hb4
  refine ⟨fun h => by subst hr; simp; rintro rfl; exact h rfl, fun h => ?_⟩
  have hlen : a.length = b.length := by omega
  intro _ _
  refine vcC_loop [] (fun m σ st => ∃ i : Nat, m = a.length - i ∧ i ≤ a.length ∧ a.take i = b.take i ∧ σ 15 = .lst 26 (Tm.cellsL 26 a) ∧ σ 1 = .lst 26 (Tm.cellsL 26 b) ∧ σ 2 = .fn (.func F) [] [] ∧ σ 16 = .sc (.int .i64 a.length) ∧ σ 17 = .sc (.int .i64 i)) a.length ⟨0, by simp⟩ ?_
  rintro m σ st ⟨i, rfl, hi, htk, s15, s1, s2, s16, s17⟩
  rcases Nat.lt_or_ge i a.length with hlt | hge
  · have hlt' : i < b.length := hlen ▸ hlt
    simp [s15, s1, s2, s16, s17, hlt, hlt']
    refine vcCall_at (ih a[i] (List.getElem_mem hlt) b[i]) ?_
    simp [s15, s1, s2, s16, s17]
    refine ⟨fun hne => ?_, fun he => ⟨by unfold i64ok; omega, a.length - (i + 1), by omega, i + 1, rfl, by omega, ?_, by omega⟩⟩
    · subst hr; simp; rintro rfl; exact hne rfl
    · rw [Tm.take_succ hlt, Tm.take_succ hlt', htk, he]
  · have hi : i = a.length := by omega
    subst hi
    simp [s15, s1, s2, s16, s17]
    rw [List.take_length, hlen, List.take_length] at htk
    subst hr; simpa using htk

set_option maxRecDepth 100000 in
theorem same_c : ∀ a b : Tm, PureCall T Tryz.prog 106 [a.av 26, b.av 26] (.sc (.bool (decide (a = b)))) := by
  refine Tm.ind fun k n s l ih => ?_
  rintro ⟨k', n', s', l'⟩
  generalize hr : decide (Tm.mk k n s l = Tm.mk k' n' s' l') = r
  refine PureCall.of_vc hT [] [] follows Tryz.call106 Tryz.func106 rfl (by kernel_rfl) (by simp [AV.pure, AV.pureL]) rfl ?_
  unfold Tryz.f106
  simp [Tm.cells]
  refine vcCall_at (equalFunc_c 106 l l' ih) ?_
  simp
  rw [← hr]; simp [Bool.and_assoc]

set_option maxRecDepth 100000 in
theorem Same_c (a b : Tm) (ha : a.small) (hb : b.small) : PureCall T Tryz.prog 74 [a.av 26, b.av 26] (.sc (.bool (decide (a.check = 0) && decide (b.check = 0) && decide (a = b)))) := by
  refine PureCall.of_vc hT [] [] follows Tryz.call74 Tryz.func74 rfl (by kernel_rfl) (by simp [AV.pure, AV.pureL]) rfl ?_
  unfold Tryz.f74
  simp
  refine vcCall_at (may_c a ha) ?_
  simp
  refine vcCall_at (may_c b hb) ?_
  simp
  refine vcCall_at (same_c a b) ?_
  simp

set_option maxRecDepth 100000 in
theorem indexFunc_c (F : FuncId) (fs cs : List AV) (hF : (AV.fn (.func F) fs cs).pure = true) (p : Tm → Bool) (l : List Tm) (ih : ∀ x ∈ l, PureCall T Tryz.prog F (fs ++ x.av 26 :: cs) (.sc (.bool (p x)))) :
    PureCall T Tryz.prog 67 [.lst 26 (Tm.cellsL 26 l), .fn (.func F) fs cs] (.sc (.int .i64 (Tm.fi p l 0))) := by
  generalize hr : Tm.fi p l 0 = r
  refine PureCall.of_vc hT [] [] follows Tryz.call67 Tryz.func67 rfl (by kernel_rfl) (by simp [AV.pureL, hF]; simp [AV.pure]) rfl ?_
  unfold Tryz.f67
  simp
  intro hb1 hb2
  refine vcC_loop [] (fun m σ st => ∃ i : Nat, m = l.length - i ∧ i ≤ l.length ∧ Tm.fi p (l.drop i) i = r ∧ σ 0 = .lst 26 (Tm.cellsL 26 l) ∧ σ 1 = .fn (.func F) fs cs ∧ σ 7 = .sc (.int .i64 l.length) ∧ σ 8 = .sc (.int .i64 i)) l.length ⟨0, by simp [hr]⟩ ?_
  rintro m σ st ⟨i, rfl, hi, htk, s0, s1, s7, s8⟩
  rcases Nat.lt_or_ge i l.length with hlt | hge
  · simp [s0, s1, s7, s8, hlt]
    refine vcCall_at (ih l[i] (List.getElem_mem hlt)) ?_
    simp [s0, s1, s7, s8]
    rw [List.drop_eq_getElem_cons hlt] at htk
    simp only [Tm.fi] at htk
    refine ⟨fun hp => ?_, fun hp => ⟨by unfold i64ok; omega, l.length - (i + 1), by omega, i + 1, rfl, by omega, ?_, by omega⟩⟩
    · rw [if_pos hp] at htk; exact htk
    · rw [if_neg (by simp [hp])] at htk; exact htk
  · have hi : i = l.length := by omega
    subst hi
    simp [s0, s1, s7, s8]
    rw [List.drop_length] at htk
    exact htk

set_option maxRecDepth 100000 in
theorem containsFunc_c (F : FuncId) (fs cs : List AV) (hF : (AV.fn (.func F) fs cs).pure = true) (p : Tm → Bool) (l : List Tm) (ih : ∀ x ∈ l, PureCall T Tryz.prog F (fs ++ x.av 26 :: cs) (.sc (.bool (p x)))) :
    PureCall T Tryz.prog 45 [.lst 26 (Tm.cellsL 26 l), .fn (.func F) fs cs] (.sc (.bool (l.any p))) := by
  refine PureCall.of_vc hT [] [] follows Tryz.call45 Tryz.func45 rfl (by kernel_rfl) (by simp [AV.pureL, hF]; simp [AV.pure]) rfl ?_
  unfold Tryz.f45
  simp
  refine vcCall_at (indexFunc_c F fs cs hF p l ih) ?_
  simp
  rw [Bool.eq_iff_iff, ← Tm.fi_iff p l 0]; simp

set_option maxRecDepth 100000 in
theorem replace1_c (t : Tm) (ht : t.small) : PureCall T Tryz.prog 137 [t.av 26] (.sc (.bool (!decide (t.check = 0)))) := by
  refine PureCall.of_vc hT [] [] follows Tryz.call137 Tryz.func137 rfl (by kernel_rfl) (by simp [AV.pure, AV.pureL]) rfl ?_
  unfold Tryz.f137
  simp
  refine vcCall_at (may_c t ht) ?_
  simp

set_option maxRecDepth 100000 in
theorem Clone_c (t : Tm) (ht : t.small) : PureCall T Tryz.prog 131 [t.av 26] ((if t.check = 0 then t else Tm.zero).av 26) := by
  refine PureCall.of_vc hT [] [] follows Tryz.call131 Tryz.func131 rfl (by kernel_rfl) (by simp [AV.pure, AV.pureL]) (by simp [AV.pure]) ?_
  unfold Tryz.f131
  simp
  refine vcCall_at (may_c t ht) ?_
  simp
  refine ⟨fun h => ?_, fun h => ?_⟩
  · rw [if_neg h]; simp [Tm.zero, Tm.cells, Tm.cellsL]; rfl
  · refine vcCall_at (build_c 118 [] [] rfl Tm.var t fun n _ => Var_c n) ?_
    simp [h, Tm.sub_var t (Tm.right_of_check h)]

/-- What a variable is replaced by. -/
def repF (l : List Tm) (n : Int) : Tm := if h : n.toNat < l.length then l[n.toNat] else Tm.var n

set_option maxRecDepth 100000 in
theorem replace2_c (l : List Tm) (n : Int) (hn : 0 ≤ n) (hl : ∀ x ∈ l, x.small ∧ x.check = 0) : PureCall T Tryz.prog 139 [.sc (.int .i64 n), .eptr [.lst 26 (Tm.cellsL 26 l)]] ((repF l n).av 26) := by
  refine PureCall.of_vc hT [] [] follows Tryz.call139 Tryz.func139 rfl (by kernel_rfl) (by simp [AV.pure, AV.pureL]) (by simp [AV.pure]) ?_
  unfold Tryz.f139
  obtain ⟨m, rfl⟩ := Int.eq_ofNat_of_zero_le hn
  simp
  intro hb1 hb2
  unfold repF
  refine ⟨fun h => ?_, fun h => ?_⟩
  · simp [h]
    obtain ⟨k1, k2⟩ := hl l[m] (List.getElem_mem h)
    refine vcCall_at (Clone_c l[m] k1) ?_
    simp [k2]
  · refine vcCall_at (Var_c m) ?_
    rw [dif_neg (by simp; omega)]
    simp [Tm.var]

end Go.T1
end

section
open Go Go.Ab Go.Proofs
namespace Go.T1
/-- What Replace hands back. -/
def replT (t : Tm) (l : List Tm) : Tm :=
  if t.check = 0 ∧ (∀ x ∈ l, x.check = 0) ∧ (t.sub (repF l)).check = 0 then t.sub (repF l) else Tm.zero

set_option maxRecDepth 100000 in
theorem Replace_c (t : Tm) (l : List Tm) (ht : t.small) (hl : ∀ x ∈ l, x.small) (hu : t.check = 0 → (∀ x ∈ l, x.check = 0) → (t.sub (repF l)).small) :
    PureCall T Tryz.prog 113 [t.av 26, .lst 26 (Tm.cellsL 26 l)] ((replT t l).av 26) := by
  unfold replT
  refine PureCall.of_vc hT [] [] follows Tryz.call113 Tryz.func113 rfl (by kernel_rfl) (by simp [AV.pure, AV.pureL]) (by simp [AV.pure]) ?_
  unfold Tryz.f113
  simp
  refine vcCall_at (may_c t ht) ?_
  simp
  refine vcCall_if (xs' := [.lst 26 (Tm.cellsL 26 l), .fn (.func 137) [] []]) (r := .sc (.bool (l.any fun x => !decide (x.check = 0)))) (fun _ => ⟨containsFunc_c 137 [] [] rfl (fun x => !decide (x.check = 0)) l fun x hx => replace1_c x (hl x hx), by simp⟩) ?_
  simp
  refine ⟨fun h => ?_, fun h1 h2 => ?_⟩
  · rw [if_neg]
    · simp [Tm.zero, Tm.cells, Tm.cellsL]; rfl
    · rintro ⟨k1, k2, _⟩
      rcases h with h | ⟨x, hx, hc⟩
      · exact h k1
      · exact hc (k2 x hx)
  · refine vcCall_at (build_c 139 [] [.eptr [.lst 26 (Tm.cellsL 26 l)]] (by simp [AV.pure, AV.pureL]) (repF l) t fun n hn => replace2_c l n (Tm.occ_pos t (Tm.right_of_check h1) n hn).1 fun x hx => ⟨hl x hx, h2 x hx⟩) ?_
    simp
    refine vcCall_at (may_c _ (hu h1 h2)) ?_
    simp
    refine ⟨fun h => ?_, fun h => ?_⟩
    · rw [if_neg (fun k => h k.2.2)]; simp [Tm.zero, Tm.cells, Tm.cellsL]; rfl
    · rw [if_pos ⟨h1, h2, h⟩]; simp

theorem rightL_mem {l : List Tm} (h : Tm.rightL l = true) : ∀ x ∈ l, x.right = true := by
  induction l with
  | nil => intro x hx; cases hx
  | cons y ys ih =>
    simp only [Tm.rightL, Bool.and_eq_true] at h
    intro x hx
    rcases List.mem_cons.1 hx with rfl | hx
    · exact h.1
    · exact ih h.2 x hx

set_option maxRecDepth 100000 in
theorem rReplace_c (w : List Tm) : ∀ t : Tm, t.right = true → PureCall T Tryz.prog 121 [t.av 26, .lst 26 (Tm.cellsL 26 w)] ((t.sub (repF w)).av 26) := by
  refine Tm.ind fun k n s l ih => ?_
  intro hrt
  simp only [Tm.right, Bool.and_eq_true] at hrt
  refine PureCall.of_vc hT [5] [] follows Tryz.call121 Tryz.func121 rfl (by kernel_rfl) (by simp [AV.pure, AV.pureL]) (by simp [AV.pure]) ?_
  unfold Tryz.f121
  simp [Tm.cells]
  refine ⟨fun h hb1 hb2 => ?_, fun h => ?_⟩
  · subst h
    obtain ⟨p1, p2, p3, p4⟩ := partB_one hrt.1
    have hl := List.eq_nil_of_length_eq_zero p4
    obtain ⟨m, rfl⟩ := Int.eq_ofNat_of_zero_le p1
    simp [Tm.sub, repF]
    refine ⟨fun hm => ?_, fun hm => ?_⟩
    · simp [hm]
    · rw [dif_neg (by omega)]
      simp [Tm.var, Tm.cells, p3, hl]
  · refine vcC_loop [(26, .cell 1 3)] (fun m σ st => ∃ (i : Nat) (al : Bool), m = l.length - i ∧ i ≤ l.length ∧ σ 2 = .eptr [.sc (.int .i64 k), .sc (.int .i64 n), .sc (.string s), .lst 26 (Tm.cellsL 26 l)] ∧
      σ 1 = .lst 26 (Tm.cellsL 26 w) ∧ σ 4 = .ptr 0 0 ∧ σ 5 = .ptr 1 0 ∧ σ 6 = .sc (.int .i64 i) ∧
      st = [.cells [.sc (.int .i64 0), .sc (.int .i64 0), .sc (.string .empty), .nils], .cells [.sc (.int .i64 k), .sc (.int .i64 n), .sc (.string s), .own 2 i], .row 26 i al (Tm.cellsL 26 (Tm.subL (repF w) (l.take i)))]) l.length ?_ ?_
    · simp [Tm.subL, Tm.cellsL]
      exact ⟨0, by simp, by simp, by simp, rfl, by simp [Tm.subL]⟩
    rintro m σ st ⟨i, al, rfl, hi, s2, s1, s4, s5, s6, rfl⟩
    rcases Nat.lt_or_ge i l.length with hlt | hge
    · simp [s2, s1, s4, s5, s6, hlt]
      refine fun hb1 hb2 => vcCall_at (ih l[i] (List.getElem_mem hlt) (rightL_mem hrt.2 _ (List.getElem_mem hlt))) ?_
      simp [s2, s1, s4, s5, s6]
      refine ⟨by rw [Nat.min_eq_left hi]; omega, by unfold i64ok; omega, l.length - (i + 1), by omega, i + 1, rfl, by omega, by omega, rfl, ?_⟩
      rw [Tm.subL_take hlt]
      simp [Tm.cellsL]
    · have hi : i = l.length := by omega
      subst hi
      simp [s2, s1, s4, s5, s6]
      simp [Tm.sub, h, Tm.cells]
end Go.T1
end

section
open Go Go.Ab Go.Proofs
namespace Go.T1
@[simp] theorem ty39 : T 39 = some ⟨1, 24, .slice 3, [], some (.slice none 0 0)⟩ := by kernel_rfl
theorem set_same {st : St} {id : Nat} {b : Blk} (h : st[id]? = some b) : st.set id b = st := by
  obtain ⟨h1, h2⟩ := List.getElem?_eq_some_iff.1 h
  rw [← h2]; exact List.set_getElem_self h1

/-- The row of numbers that is left. -/
def rowIs (st : St) (id : Nat) (out : List Int) (r : AV) (st' : St) : Prop := ∃ g' al', (out ≠ [] → al' = true) ∧ r = .own id g' ∧ st' = st.set id (.row 3 g' al' (intsL out))

set_option maxRecDepth 100000 in
theorem rvars_c : ∀ (t : Tm) (out : List Int) (id g : Nat) (al : Bool) (st : St), t.size + out.length ≤ 1000000000 → st[id]? = some (.row 3 g al (intsL out)) → (out ≠ [] → al = true) →
    ICall T Tryz.prog 39 [t.av 26, .own id g] st (rowIs st id (t.vars out)) := by
  refine Tm.ind fun k n s l ih => ?_
  intro out id g al st hsz hid hal
  have hidl : id < st.length := (List.getElem?_eq_some_iff.1 hid).1
  have hset : ∀ b, (st.set id b)[id]? = some b := fun b => by simp [hidl]
  have hidl' := hidl
  clear hidl
  simp only [Tm.size] at hsz
  refine ICall.of_vc hT [] [(11, 6)] follows Tryz.call39 Tryz.func39 rfl (by kernel_rfl) fun hfix => ?_
  unfold Tryz.f39
  simp [Tm.cells, hid]
  refine ⟨fun h => ?_, fun h => ?_⟩
  · refine vcC_loop [] (fun m σ st' => ∃ i : Nat, m = out.length - i ∧ i ≤ out.length ∧ n ∉ out.take i ∧ σ 1 = .own id g ∧ σ 2 = .eptr [.sc (.int .i64 k), .sc (.int .i64 n), .sc (.string s), .lst 26 (Tm.cellsL 26 l)] ∧
      σ 5 = .sc (.int .i64 i) ∧ st' = st) out.length ⟨0, by simp⟩ ?_
    rintro m σ st' ⟨i, rfl, hi, htk, s1, s2, s5, rfl⟩
    rcases Nat.lt_or_ge i out.length with hlt | hge
    · have hne : out ≠ [] := fun e => by subst e; simp at hlt
      simp [s1, s2, s5, hid, hlt]
      refine fun hb1 hb2 => ⟨hal hne, fun he => ?_, fun he => ⟨by unfold i64ok; omega, out.length - (i + 1), by omega, i + 1, rfl, by omega, ?_, by omega⟩⟩
      · refine endP_mk (.own id g) (by simp) (by simp [hidl']) ⟨g, al, fun _ => hal hne, rfl, ?_⟩
        have : Tm.vars (.mk k n s l) out = out := by simp only [Tm.vars, if_pos h, addV]; rw [if_pos (he ▸ List.getElem_mem hlt)]
        rw [cutSt_same hfix, this, set_same hid]
      · intro hm
        have e0 : out.take (i + 1) = out.take i ++ [out[i]] := by rw [List.take_add_one]; simp [hlt]
        rw [e0, List.mem_append] at hm
        rcases hm with hm | hm
        · exact htk hm
        · simp at hm; exact he hm.symm
    · have hi : i = out.length := by omega
      subst hi
      rw [List.take_length] at htk
      simp [s1, s2, s5, hid]
      refine fun hb1 hb2 => ⟨by omega, endP_mk (.own id (g + 1)) (by simp) (by simp [hidl']) ⟨g + 1, true, fun _ => rfl, rfl, ?_⟩⟩
      have : Tm.vars (.mk k n s l) out = out ++ [n] := by simp only [Tm.vars, if_pos h, addV]; rw [if_neg htk]
      have e1 : intsL out ++ [[AV.sc (.int .i64 n)]] = intsL (out ++ [n]) := by simp [intsL]
      rw [cutSt_set0 hfix, this, e1]
      simp only [Blk.cut, intsL_cut]
  · have hv : Tm.vars (.mk k n s l) out = Tm.varsL l out := by simp only [Tm.vars, if_neg h]
    refine vcC_loop [] (fun m σ st' => ∃ i : Nat, m = l.length - i ∧ i ≤ l.length ∧ rowIs st id (Tm.varsL (l.take i) out) (σ 1) st' ∧ σ 2 = .eptr [.sc (.int .i64 k), .sc (.int .i64 n), .sc (.string s), .lst 26 (Tm.cellsL 26 l)] ∧
      σ 6 = .sc (.int .i64 i)) l.length ⟨0, by simp, by simp, ⟨g, al, by simpa [Tm.varsL] using hal, by simp, by simp [Tm.varsL, set_same hid]⟩, by simp⟩ ?_
    rintro m σ st' ⟨i, rfl, hi, ⟨g', al', hal', s1, rfl⟩, s2, s6⟩
    rcases Nat.lt_or_ge i l.length with hlt | hge
    · have h1 := Tm.size_get hlt
      have h2 := Tm.varsL_len (l.take i) out
      simp [s1, s2, s6, hset, hlt]
      refine fun hb1 hb2 => vcICall_of (ih l[i] (List.getElem_mem hlt) _ id g' al' _ (by omega) (hset _) hal') ?_
      rintro r st' ⟨g2, al2, hal2, rfl, rfl⟩ _
      simp [s1, s2, s6, hset]
      refine ⟨by unfold i64ok; omega, l.length - (i + 1), by omega, i + 1, rfl, by omega, ?_, by omega⟩
      rw [Tm.varsL_take hlt]
      exact ⟨g2, al2, hal2, rfl, rfl⟩
    · have hi : i = l.length := by omega
      subst hi
      rw [List.take_length] at hal'
      simp [s1, s2, s6, hset]
      refine fun hb1 hb2 => endP_mk (.own id g') (by simp) (by simp [hidl']) ⟨g', al', ?_, rfl, ?_⟩
      · rw [hv]; exact hal'
      · rw [cutSt_set0 hfix, hv]; simp only [Blk.cut, intsL_cut]

set_option maxRecDepth 100000 in
theorem rVars_c (t : Tm) (ht : t.small) : PureCall T Tryz.prog 20 [t.av 26] (.lst 3 (intsL (t.vars []))) := by
  have hsz : t.size + 0 ≤ 1000000000 := by unfold Tm.small at ht; omega
  have h0 := ICall.nils (st := []) (pre := [t.av 26]) (post := []) 3 (rvars_c t [] 0 0 false [.row 3 0 false []] hsz rfl (by simp))
  have h1 : PureCall T Tryz.prog 39 [t.av 26, .nils] (.lst 3 (intsL (t.vars []))) := by
    refine PureCall.of_ICall h0 (by simp [AV.pure, AV.pureL]) (by simp [AV.pure]) ?_
    rintro r st' ⟨r0, st0, ⟨g', al', _, rfl, rfl⟩, rfl, rfl⟩
    simp
  refine PureCall.of_vc hT [] [] follows Tryz.call20 Tryz.func20 rfl (by kernel_rfl) (by simp [AV.pure, AV.pureL]) (by simp [AV.pure]) ?_
  unfold Tryz.f20
  simp
  refine vcCall_at h1 ?_
  simp

set_option maxRecDepth 100000 in
theorem place_c (l : List Int) (n : Int) : PureCall T Tryz.prog 66 [.lst 3 (intsL l), .sc (.int .i64 n)] (.sc (.int .i64 (placeI l n 0))) := by
  generalize hr : placeI l n 0 = r
  refine PureCall.of_vc hT [] [] follows Tryz.call66 Tryz.func66 rfl (by kernel_rfl) (by simp [AV.pure, AV.pureL]) (by simp [AV.pure]) ?_
  unfold Tryz.f66
  simp
  refine vcC_loop [] (fun m σ st => ∃ i : Nat, m = l.length - i ∧ i ≤ l.length ∧ placeI (l.drop i) n i = r ∧ σ 0 = .lst 3 (intsL l) ∧ σ 1 = .sc (.int .i64 n) ∧ σ 5 = .sc (.int .i64 i)) l.length ⟨0, by simp [hr]⟩ ?_
  rintro m σ st ⟨i, rfl, hi, htk, s0, s1, s5⟩
  rcases Nat.lt_or_ge i l.length with hlt | hge
  · simp [s0, s1, s5, hlt]
    rw [List.drop_eq_getElem_cons hlt] at htk
    simp only [placeI] at htk
    refine fun _ _ => ⟨fun hp => ?_, fun hp => ⟨by unfold i64ok; omega, l.length - (i + 1), by omega, i + 1, rfl, by omega, ?_, by omega⟩⟩
    · rw [if_pos hp] at htk; exact htk
    · rw [if_neg hp] at htk; exact htk
  · have hi : i = l.length := by omega
    subst hi
    simp [s0, s1, s5]
    rw [List.drop_length] at htk
    exact fun _ _ => htk
end Go.T1
end

section
open Go Go.Ab Go.Proofs
namespace Go.T1
set_option maxRecDepth 100000 in
theorem renamed_c (w : List Int) : ∀ t : Tm, PureCall T Tryz.prog 43 [t.av 26, .lst 3 (intsL w)] ((t.sub fun n => Tm.var (placeI w n 0)).av 26) := by
  refine Tm.ind fun k n s l ih => ?_
  refine PureCall.of_vc hT [5] [] follows Tryz.call43 Tryz.func43 rfl (by kernel_rfl) (by simp [AV.pure, AV.pureL]) (by simp [AV.pure]) ?_
  unfold Tryz.f43
  simp [Tm.cells]
  refine ⟨fun h => ?_, fun h => ?_⟩
  · refine vcCall_at (place_c w n) ?_
    simp
    refine vcCall_at (rVar_c _) ?_
    simp [Tm.sub, h, Tm.var]
  · refine vcC_loop [(26, .cell 1 3)] (fun m σ st => ∃ (i : Nat) (al : Bool), m = l.length - i ∧ i ≤ l.length ∧ σ 2 = .eptr [.sc (.int .i64 k), .sc (.int .i64 n), .sc (.string s), .lst 26 (Tm.cellsL 26 l)] ∧
      σ 1 = .lst 3 (intsL w) ∧ σ 4 = .ptr 0 0 ∧ σ 5 = .ptr 1 0 ∧ σ 6 = .sc (.int .i64 i) ∧
      st = [.cells [.sc (.int .i64 0), .sc (.int .i64 0), .sc (.string .empty), .nils], .cells [.sc (.int .i64 k), .sc (.int .i64 n), .sc (.string s), .own 2 i], .row 26 i al (Tm.cellsL 26 (Tm.subL (fun n => Tm.var (placeI w n 0)) (l.take i)))]) l.length ?_ ?_
    · simp [Tm.subL, Tm.cellsL]
      exact ⟨0, by simp, by simp, by simp, rfl, by simp [Tm.subL]⟩
    rintro m σ st ⟨i, al, rfl, hi, s2, s1, s4, s5, s6, rfl⟩
    rcases Nat.lt_or_ge i l.length with hlt | hge
    · simp [s2, s1, s4, s5, s6, hlt]
      refine fun hb1 hb2 => vcCall_at (ih l[i] (List.getElem_mem hlt)) ?_
      simp [s2, s1, s4, s5, s6]
      refine ⟨by rw [Nat.min_eq_left hi]; omega, by unfold i64ok; omega, l.length - (i + 1), by omega, i + 1, rfl, by omega, by omega, rfl, ?_⟩
      rw [Tm.subL_take hlt]
      simp [Tm.cellsL]
    · have hi : i = l.length := by omega
      subst hi
      simp [s2, s1, s4, s5, s6]
      simp [Tm.sub, h, Tm.cells]

/-- A term with its variables numbered. -/
def renT (t : Tm) : Tm := t.sub fun n => Tm.var (placeI (t.vars []) n 0)

set_option maxRecDepth 100000 in
theorem rRename_c (t : Tm) (ht : t.small) : PureCall T Tryz.prog 26 [t.av 26] (.tup [(renT t).av 26, .sc (.int .i64 (t.vars []).length)]) := by
  refine PureCall.of_vc hT [] [] follows Tryz.call26 Tryz.func26 rfl (by kernel_rfl) (by simp [AV.pure, AV.pureL]) (by simp [AV.pure, AV.pureL]) ?_
  unfold Tryz.f26
  simp
  refine vcCall_at (rVars_c t ht) ?_
  simp
  refine vcCall_at (renamed_c _ t) ?_
  simp [renT]
end Go.T1
end

section
open Go Go.Ab Go.Proofs
namespace Go.T1
@[simp] theorem ty72 : T 72 = some ⟨1, 8, .map 3 3, [], some (.map none)⟩ := by kernel_rfl
@[simp] theorem ty154 : T 154 = some ⟨2, 32, .strct, [(0,1),(1,1)], some (.agg #[.map none, .slice none 0 0])⟩ := by kernel_rfl
/-- The namer's state: blocks 1 to 3. -/
def namSt (b0 : Blk) (L : List Int) (g : Nat) (al : Bool) (ex : St) : St := b0 :: .map (mapOf L 0) :: .cells [.mp 1, .own 3 g] :: .row 3 g al (intsL L) :: ex
/-- What is left of it. -/
def namIs (b0 : Blk) (L : List Int) (ex : St) (st' : St) : Prop := ∃ g al, (L ≠ [] → al = true) ∧ st' = namSt b0 L g al ex

@[simp] theorem mapOf_cut (N : Nat) (S : St) : ∀ (L : List Int) (i : Nat), (mapOf L i).map (fun p => (p.1, p.2.cut N S)) = mapOf L i
  | [], _ => rfl
  | x :: xs, i => by simp only [mapOf, List.map_cons, mapOf_cut N S xs, AV.cut]
theorem cut_cells (N : Nat) (S : St) (cs : List AV) : Blk.cut N S (.cells cs) = .cells (AV.cutL N S cs) := rfl
theorem cut_row (N : Nat) (S : St) (e g : Nat) (al : Bool) (l : List (List AV)) : Blk.cut N S (.row e g al l) = .row e g al (AV.cutM N S l) := rfl
theorem cut_map (N : Nat) (S : St) (es : List (Value × AV)) : Blk.cut N S (.map es) = .map (es.map fun p => (p.1, p.2.cut N S)) := rfl
theorem intsL_snoc (L : List Int) (n : Int) : intsL L ++ [[.sc (.int .i64 n)]] = intsL (L ++ [n]) := by simp [intsL]
theorem namSt_cut {b0 b1 b2 b3 : Blk} {ex : St} (h : Fix (b0 :: b1 :: b2 :: b3 :: ex)) (L : List Int) (g : Nat) (al : Bool) (X : St) : cutSt (ex.length + 4) (namSt b0 L g al ex ++ X) = namSt b0 L g al ex := by
  unfold cutSt
  rw [List.take_left' (by simp [namSt])]
  generalize namSt b0 L g al ex ++ X = S
  have h' := h (ex.length + 4) S (by simp)
  simp only [List.map_cons, List.cons.injEq] at h'
  simp only [namSt, List.map_cons, h'.1, h'.2.2.2.2, cut_cells, cut_row, cut_map, AV.cutL, AV.cut, mapOf_cut, intsL_cut]
  simp

set_option maxRecDepth 100000 in
theorem namer_c (n : Int) (b0 : Blk) (L : List Int) (g : Nat) (al : Bool) (ex : St) (hL : L.length ≤ 1000000000) (hal : L ≠ [] → al = true) :
    ICall T Tryz.prog 155 [.ptr 2 0, .sc (.int .i64 n)] (namSt b0 L g al ex) (fun r st' => r = (Tm.var (placeI (addV L n) n 0)).av 26 ∧ namIs b0 (addV L n) ex st') := by
  refine ICall.of_vc hT [] [] follows Tryz.call155 Tryz.func155 rfl (by kernel_rfl) fun hfix => ?_
  unfold Tryz.f155
  by_cases hn : n ∈ L
  · have h1 : addV L n = L := by simp [addV, hn]
    rw [h1]
    simp [namSt, mapOf_get, hn]
    refine vcCall_at (Var_c _) ?_
    simp
    refine endP_mk ((Tm.var (placeI L n 0)).av 26) (by simp) (by simp [Tm.var]) ⟨rfl, g, al, hal, ?_⟩
    exact cutSt_keep hfix [_]
  · have h1 : addV L n = L ++ [n] := by simp [addV, hn]
    have h2 := placeI_last L n 0 hn
    have h3 := mapOf_put L n 0 hn
    simp only [Nat.zero_add] at h2 h3
    rw [h1, h2]
    simp [namSt, mapOf_get, hn]
    intro hb1 hb2
    refine ⟨by omega, vcCall_at (Var_c _) ?_⟩
    simp [h3]
    refine endP_mk ((Tm.var L.length).av 26) (by simp) (by simp [Tm.var]) ⟨rfl, g + 1, true, fun _ => rfl, ?_⟩
    have e := namSt_cut hfix (L ++ [n]) (g + 1) true
    rw [intsL_snoc]
    exact e _
end Go.T1
end

section
open Go Go.Ab Go.Proofs
namespace Go.T1
/-- Some state of a namer's. -/
def NS (b0 : Blk) (ex : St) (L : List Int) (st : St) : Prop := ∃ g al, (L ≠ [] → al = true) ∧ st = namSt b0 L g al ex
theorem NS.len {b0 : Blk} {ex : St} {L : List Int} {st : St} (h : NS b0 ex L st) : st.length = ex.length + 4 := by
  obtain ⟨g, al, _, rfl⟩ := h; simp [namSt]
theorem NS.app {b0 : Blk} {ex : St} {L : List Int} {st : St} (h : NS b0 ex L st) (l : St) : NS b0 (ex ++ l) L (st ++ l) := by
  obtain ⟨g, al, h1, rfl⟩ := h; exact ⟨g, al, h1, by simp [namSt]⟩
theorem NS.unapp {b0 : Blk} {ex l : St} {L : List Int} {st : St} (h : NS b0 (ex ++ l) L st) : ∃ X, NS b0 ex L X ∧ st = X ++ l := by
  obtain ⟨g, al, h1, rfl⟩ := h; exact ⟨namSt b0 L g al ex, ⟨g, al, h1, rfl⟩, by simp [namSt]⟩
theorem NS.cut {b0 : Blk} {ex : St} {L0 L : List Int} {st0 st : St} (hf : Fix st0) (h0 : NS b0 ex L0 st0) (h : NS b0 ex L st) (l : St) : cutSt (ex.length + 4) (st ++ l) = st := by
  obtain ⟨g0, al0, _, rfl⟩ := h0
  obtain ⟨g, al, _, rfl⟩ := h
  exact namSt_cut hf L g al l

/-- The loop of build: the frame behind a namer's state. -/
def bFr (N : Nat) (W : List Int) (k n : Int) (s : ByteArray) (i : Nat) (al : Bool) (l : List Tm) : St :=
  [.cells [.sc (.int .i64 0), .sc (.int .i64 0), .sc (.string .empty), .nils], .cells [.sc (.int .i64 k), .sc (.int .i64 n), .sc (.string s), .own (N + 2) i],
   .row 26 i al (Tm.cellsL 26 (Tm.subL (fun n => Tm.var (placeI W n 0)) l))]
def bInv (b0 : Blk) (ex : St) (N : Nat) (L : List Int) (k n : Int) (s : ByteArray) (l : List Tm) (i : Nat) (st' : St) : Prop :=
  ∃ al X, NS b0 ex (Tm.varsL (l.take i) L) X ∧ st' = X ++ bFr N (Tm.varsL (l.take i) L) k n s i al (l.take i)
def bCall (b0 : Blk) (ex : St) (N : Nat) (L : List Int) (k n : Int) (s : ByteArray) (l : List Tm) (t : Tm) (i : Nat) (al : Bool) (r : AV) (st' : St) : Prop :=
  r = (numT (t.vars (Tm.varsL (l.take i) L)) t).av 26 ∧ ∃ X, NS b0 ex (t.vars (Tm.varsL (l.take i) L)) X ∧ st' = X ++ bFr N (Tm.varsL (l.take i) L) k n s i al (l.take i)
theorem namerN_c (n : Int) (b0 : Blk) (ex : St) (L : List Int) (st : St) (hL : L.length ≤ 1000000000) (h : NS b0 ex L st) :
    ICall T Tryz.prog 155 [.ptr 2 0, .sc (.int .i64 n)] st (fun r st' => r = (Tm.var (placeI (addV L n) n 0)).av 26 ∧ NS b0 ex (addV L n) st') := by
  obtain ⟨g, al, hal, rfl⟩ := h
  exact namer_c n b0 L g al ex hL hal

set_option maxRecDepth 100000 in
theorem buildN_c (b0 : Blk) : ∀ (t : Tm) (ex : St) (L : List Int) (st : St), t.size + L.length ≤ 1000000000 → NS b0 ex L st →
    ICall T Tryz.prog 138 [t.av 26, .fn (.func 155) [.ptr 2 0] []] st (fun r st' => r = (numT (t.vars L) t).av 26 ∧ NS b0 ex (t.vars L) st') := by
  refine Tm.ind fun k n s l ih => ?_
  intro ex L st hsz hst
  simp only [Tm.size] at hsz
  obtain ⟨N, hN⟩ : ∃ N, N = ex.length + 4 := ⟨_, rfl⟩
  have hX := hst.len
  rw [← hN] at hX
  refine ICall.of_vc hT [5] [(2,3),(7,4)] follows Tryz.call138 Tryz.func138 rfl (by kernel_rfl) fun hfix => ?_
  unfold Tryz.f138
  simp [Tm.cells, hX, ap0 hX, ap1 hX, as0 hX, as1 hX, Nat.add_assoc]
  refine ⟨fun h => ?_, fun h => ?_⟩
  · refine vcICall_of (namerN_c n b0 _ L _ (by omega) (hst.app _)) ?_
    rintro r st' ⟨rfl, h2⟩ _
    obtain ⟨X, h3, rfl⟩ := h2.unapp
    have hX' := h3.len
    rw [← hN] at hX'
    simp [ap0 hX', as0 hX', hX']
    have e : Tm.vars (.mk k n s l) L = addV L n := by simp only [Tm.vars, if_pos h]
    rw [e]
    refine endP_mk (numT (addV L n) (.mk k n s l) |>.av 26) ?_ ?_ ⟨rfl, ?_⟩
    · simp [ap0 hX']
    · simp [ap0 hX', numT, Tm.sub, h, Tm.var]
    · rw [hN, NS.cut hfix hst h3]; exact h3
  · intro hl1 hl2
    refine vcC_loop [(26, .cell (N + 1) 3)] (fun m σ st' => ∃ (i : Nat), m = l.length - i ∧ i ≤ l.length ∧ bInv b0 ex N L k n s l i st' ∧ σ 1 = .fn (.func 155) [.ptr 2 0] [] ∧ σ 4 = .ptr N 0 ∧ σ 5 = .ptr (N + 1) 0 ∧ σ 23 = .lst 26 (Tm.cellsL 26 l) ∧
      σ 24 = .sc (.int .i64 l.length) ∧ σ 25 = .sc (.int .i64 i)) l.length ?_ ?_
    · simp [hX, ap0 hX, ap1 hX, as0 hX, as1 hX, Nat.add_assoc]
      exact ⟨0, by simp, by simp, ⟨false, st, by simpa [Tm.varsL] using hst, by simp [bFr, Tm.subL, Tm.cellsL]⟩, by simp⟩
    rintro m σ st' ⟨i, rfl, hi, ⟨al, X, hNX, rfl⟩, s1, s4, s5, s23, s24, s25⟩
    have hX' := hNX.len
    rw [← hN] at hX'
    rcases Nat.lt_or_ge i l.length with hlt | hge
    · have h1 := Tm.size_get hlt
      have h2 := Tm.varsL_len (l.take i) L
      simp [s1, s4, s5, s23, s24, s25, hlt, hX', ap0 hX', ap1 hX', ap2 hX', bFr]
      refine ⟨bCall b0 ex N L k n s l l[i] i al, ?_⟩
      simp (decide := true) [s1, s4, s5, s23, s24, s25, hlt, hX', ap0 hX', ap1 hX', ap2 hX']
      refine ⟨?_, ?_⟩
      · rintro r st' ⟨rfl, X2, hX2, rfl⟩
        have hX2' := hX2.len
        rw [← hN] at hX2'
        simp [bFr, s1, s4, s5, hX2', ap1 hX2']
        done
      simp (decide := true) [s1, s4, s5, s23, s24, s25, hlt, hX', ap0 hX', ap1 hX', ap2 hX']
      refine ⟨?_, ?_⟩
      · rintro r st' ⟨rfl, X2, hX2, rfl⟩
        have hX2' := hX2.len
        rw [← hN] at hX2'
        simp [bFr, s1, s4, s5, hX2', ap1 hX2']
        done
      simp (decide := true) [s1, s4, s5, s23, s24, s25, hlt, hX', ap0 hX', ap1 hX', ap2 hX', vcThen]
      refine ⟨?_, ?_⟩
      · refine (ih l[i] (List.getElem_mem hlt) _ (Tm.varsL (l.take i) L) _ (by omega) (hNX.app _)).mono ?_
        rintro r st' ⟨rfl, h4⟩
        obtain ⟨X2, h5, rfl⟩ := h4.unapp
        exact ⟨rfl, X2, h5, rfl⟩
      rintro r st' ⟨rfl, X2, hX2, rfl⟩ _
      have hX2' := hX2.len
      rw [← hN] at hX2'
      simp [bFr, s1, s4, s5, s23, s24, s25, hX2', ap1 hX2', ap2 hX2', as1 hX2', as2 hX2']
      refine ⟨by rw [Nat.min_eq_left hi]; omega, by unfold i64ok; omega, l.length - (i + 1), by omega, i + 1, rfl, by omega, ?_, by omega⟩
      refine ⟨true, X2, by rw [Tm.varsL_take hlt]; exact hX2, ?_⟩
      unfold bFr
      rw [numL_take hlt]
      simp [Tm.cellsL]
    · have hi : i = l.length := by omega
      subst hi
      simp [s1, s4, s5, s23, s24, s25, hX', ap0 hX', ap1 hX', ap2 hX', as0 hX', bFr]
      rw [List.take_length] at hNX
      have e : Tm.vars (.mk k n s l) L = Tm.varsL l L := by simp only [Tm.vars, if_neg h]
      rw [e]
      refine endP_mk (numT (Tm.varsL l L) (.mk k n s l) |>.av 26) ?_ ?_ ⟨rfl, ?_⟩
      · simp [s4, ap0 hX']
      · simp [s4, ap0 hX', numT, Tm.sub, h, ap2 hX', Tm.cells]; rw [if_neg (by omega)]; simp
      · rw [hN, NS.cut hfix hst hNX]; exact hNX
end Go.T1
end

section
open Go Go.Ab Go.Proofs
namespace Go.T1

set_option maxRecDepth 100000 in
theorem rename_c (t : Tm) (ht : t.small) : PureCall T Tryz.prog 136 [t.av 26] (.tup [(numT (t.vars []) t).av 26, .lst 3 (intsL (t.vars []))]) := by
  have h : ICall T Tryz.prog 136 [t.av 26] [] (fun r _ => r = .tup [(numT (t.vars []) t).av 26, .lst 3 (intsL (t.vars []))]) := by
    refine ICall.of_vc hT [8] [(2,3),(3,5)] follows Tryz.call136 Tryz.func136 rfl (by kernel_rfl) fun hfix => ?_
    unfold Tryz.f136
    simp [Tm.cells]
    refine vcICall_of (ICall.adoptC 3 2 1 [.mp 1, .nils] rfl rfl (buildN_c _ t [] [] _ (by unfold Tm.small at ht; simp; omega) ⟨0, false, by simp, rfl⟩)) ?_
    rintro r st' ⟨rfl, g, al, hal, rfl⟩ _
    simp [namSt]
    refine ⟨fun _ st' => st' = namSt (.cells (Tm.cells 26 (numT (t.vars []) t))) (t.vars []) g al [], ?_⟩
    simp (decide := true)
    repeat (refine ⟨(by rintro r st' rfl; simp [namSt]), ?_⟩; simp (decide := true))
    simp (decide := true) [vcThen, vcI]
    exact ⟨rfl, fun _ => endP_mk _ (by simp [namSt]) (by simp [namSt]) rfl⟩
  exact PureCall.of_ICall h (by simp [AV.pure, AV.pureL]) (by simp [AV.pure, AV.pureL]) (by rintro r st' rfl; simp)
end Go.T1
end

section
open Go Go.Ab Go.Proofs
namespace Go.T1
set_option maxRecDepth 100000 in
theorem Rename_c (t : Tm) (ht : t.small) : PureCall T Tryz.prog 111 [t.av 26] (.tup [(if t.check = 0 then renT t else Tm.zero).av 26, .sc (.int .i64 (if t.check = 0 then (t.vars []).length else 0))]) := by
  refine PureCall.of_vc hT [] [] follows Tryz.call111 Tryz.func111 rfl (by kernel_rfl) (by simp [AV.pure, AV.pureL]) (by simp [AV.pure, AV.pureL]) ?_
  unfold Tryz.f111
  simp [Tm.cells]
  refine vcCall_at (may_c t ht) ?_
  simp
  refine ⟨fun h => ?_, fun h => ?_⟩
  · simp [h, Tm.zero, Tm.cells]; rfl
  · refine vcCall_at (rename_c t ht) ?_
    simp [h, renT, numT]

end Go.T1
end

section
open Go Go.Ab Go.Proofs
namespace Go.T1
set_option maxRecDepth 100000 in
theorem large_c : ∀ (t : Tm) (d n : Int) (id : Nat) (st : St), t.nice → st[id]? = some (.cells [.sc (.int .i64 n)]) → 0 ≤ n → n ≤ 6000 → 0 ≤ d → d ≤ 301 →
    ICall T Tryz.prog 37 [t.av 26, .sc (.int .i64 d), .ptr id 0] st (fun r st' => r = .sc (.bool (t.lg d n).1) ∧ st' = st.set id (.cells [.sc (.int .i64 (t.lg d n).2)])) := by
  refine Tm.ind fun k n0 s l ih => ?_
  intro d n id st hnice hid hn hn2 hd hd2
  have hidl : id < st.length := (List.getElem?_eq_some_iff.1 hid).1
  refine ICall.of_vc hT [] [(7, 8)] follows Tryz.call37 Tryz.func37 rfl (by kernel_rfl) fun hfix => ?_
  unfold Tryz.f37
  have hset : ∀ b, (st.set id b)[id]? = some b := fun b => by simp [hidl]
  clear hidl
  simp [Tm.cells, hid, hset]
  have hs := hnice.1
  have hq0 : (0 : Int) ≤ (s.size : Int) / 16 := Int.ediv_nonneg (Int.natCast_nonneg _) (by decide)
  have hq1 : (s.size : Int) / 16 ≤ 140737488355328 := Int.le_trans (Int.ediv_le_self _ (Int.natCast_nonneg _)) (by omega)
  refine ⟨by unfold i64ok; omega, by unfold i64ok; omega, by unfold i64ok; omega, ?_⟩
  intro _
  refine ⟨fun h => ?_, fun h1 h2 h3 => ?_⟩
  · have e : Tm.lg (.mk k n0 s l) d n = (true, n + 1 + (s.size : Int) / 16) := by simp only [Tm.lg]; rw [if_pos]; omega
    rw [e]
    refine endP_mk (.sc (.bool true)) (by simp) (by simp) ⟨rfl, ?_⟩
    rw [cutSt_set0 hfix]; simp
  · have e : Tm.lg (.mk k n0 s l) d n = Tm.lgL l (d + 1) (n + 1 + (s.size : Int) / 16) := by simp only [Tm.lg]; rw [if_neg]; omega
    rw [e]
    obtain ⟨m, hm⟩ : ∃ m, m = n + 1 + (s.size : Int) / 16 := ⟨_, rfl⟩
    rw [← hm]
    refine vcC_loop [] (fun M σ st' => ∃ i : Nat, M = l.length - i ∧ i ≤ l.length ∧ (Tm.lgL (l.take i) (d + 1) m).1 = false ∧ σ 1 = .sc (.int .i64 d) ∧ σ 2 = .ptr id 0 ∧ σ 3 = .eptr [.sc (.int .i64 k), .sc (.int .i64 n0), .sc (.string s), .lst 26 (Tm.cellsL 26 l)] ∧ σ 7 = .sc (.int .i64 i) ∧
      st' = st.set id (.cells [.sc (.int .i64 (Tm.lgL (l.take i) (d + 1) m).2)])) l.length ⟨0, by simp, by simp, by simp [Tm.lgL], by simp, by simp, by simp, by simp, by simp [Tm.lgL, hm]⟩ ?_
    rintro M σ st' ⟨i, rfl, hi, hf, s1, s2, s3, s7, rfl⟩
    rcases Nat.lt_or_ge i l.length with hlt | hge
    · have hsz := Tm.lgL_size (l.take i) (d + 1) m (by omega) (by omega) hf
      simp [s1, s2, s3, s7, hlt]
      refine fun hb1 hb2 => ⟨by unfold i64ok; omega, vcICall_of (ih l[i] (List.getElem_mem hlt) _ _ id _ (Tm.niceL_mem hnice.2 _ (List.getElem_mem hlt)) (hset _) (by omega) (by omega) (by omega) (by omega)) ?_⟩
      rintro r st' ⟨rfl, rfl⟩ _
      have e2 := Tm.lgL_take hlt (d + 1) m hf
      rw [← e2]
      simp [s1, s2, s3, s7]
      refine ⟨fun h4 => ?_, fun h4 => ⟨by unfold i64ok; omega, l.length - (i + 1), by omega, i + 1, rfl, by omega, h4, by omega, rfl⟩⟩
      have e3 := Tm.lgL_true (d + 1) m h4
      rw [e3]
      refine endP_mk (.sc (.bool true)) (by simp) (by simp) ⟨rfl, ?_⟩
      rw [cutSt_set0 hfix]; simp
    · have hi : i = l.length := by omega
      subst hi
      rw [List.take_length] at hf
      simp [s1, s2, s3, s7]
      refine fun hb1 hb2 => endP_mk (.sc (.bool false)) (by simp) (by simp) ⟨by rw [hf], ?_⟩
      rw [cutSt_set0 hfix]; simp

set_option maxRecDepth 100000 in
theorem Large_c (t : Tm) (ht : t.nice) : PureCall T Tryz.prog 15 [t.av 26] (.sc (.bool t.large)) := by
  have h : ICall T Tryz.prog 15 [t.av 26] [] (fun r _ => r = .sc (.bool t.large)) := by
    refine ICall.of_vc hT [3] [(2, 1)] follows Tryz.call15 Tryz.func15 rfl (by kernel_rfl) fun hfix => ?_
    unfold Tryz.f15
    simp [Tm.cells]
    refine vcICall_of (large_c t 0 0 0 _ ht rfl (by omega) (by omega) (by omega) (by omega)) ?_
    rintro r st' ⟨rfl, rfl⟩ _
    simp
    exact endP_mk (.sc (.bool t.large)) (by simp [Tm.large]) (by simp [Tm.large]) rfl
  exact PureCall.of_ICall h (by simp [AV.pure, AV.pureL]) (by simp [AV.pure]) (by rintro r st' rfl; simp)
end Go.T1
end

section
open Go Go.Ab Go.Proofs
namespace Go.T1
set_option maxRecDepth 100000 in
theorem rItems_c (t : Tm) (ht : t.small) : PureCall T Tryz.prog 120 [t.av 26] (.tup [.lst 26 (Tm.cellsL 26 t.items.1), t.items.2.av 26]) := by
  refine PureCall.of_vc hT [1] [] follows Tryz.call120 Tryz.func120 rfl (by kernel_rfl) (by simp [AV.pure, AV.pureL]) (by simp [AV.pure, AV.pureL]) ?_
  unfold Tryz.f120
  simp [Tm.cells]
  refine vcC_loop [(26, .slot 4)] (fun m σ st => ∃ (i : Nat) (al : Bool) (out : List Tm) (u : Tm), m = u.size ∧ out.length + u.size ≤ t.size ∧ i = out.length ∧ out ++ u.items.1 = t.items.1 ∧ u.items.2 = t.items.2 ∧ σ 1 = .ptr 0 0 ∧ σ 3 = .ptr 1 0 ∧ σ 4 = .own 2 i ∧
    st = [.cells (Tm.cells 26 u), .cells [.sc (.int .i64 0), .sc (.int .i64 0), .sc (.string .empty), .nils], .row 26 i al (Tm.cellsL 26 out)]) t.size ?_ ?_
  · simp
    exact ⟨0, [], t, by simp [Tm.cellsL]⟩
  rintro m σ st ⟨i, al, out, ⟨k, n, s, l⟩, rfl, hsz, rfl, h1, h2, s1, s3, s4, rfl⟩
  by_cases hc : k = 4 ∧ s = ⟨#[46]⟩ ∧ l.length = 2
  · obtain ⟨rfl, rfl, hl⟩ := hc
    obtain ⟨x, y, rfl⟩ := Tm.len2 hl
    rw [Tm.items_two] at h1 h2
    simp [s1, s3, s4, Tm.cells, Tm.cellsL]
    unfold Tm.small at ht
    simp only [Tm.size, Tm.sizeL] at hsz
    refine ⟨by omega, y.size, by simp only [Tm.size, Tm.sizeL]; omega, out.length + 1, out ++ [x], y, rfl, by simp; omega, by simp, by simpa using h1, by simpa using h2, rfl, rfl, rfl, by simp [Tm.cellsL]⟩
  · rw [Tm.items_end hc] at h1 h2
    simp [s1, s3, s4, Tm.cells]
    intro _
    refine ⟨fun h4 h5 h6 => absurd ⟨h4, h5, by omega⟩ hc, fun _ => ?_⟩
    simp at h1 h2
    rw [← h1, ← h2]
    simp [Tm.cells]
set_option maxRecDepth 100000 in
theorem Items_c (t : Tm) (ht : t.small) : PureCall T Tryz.prog 109 [t.av 26] (.tup [.lst 26 (Tm.cellsL 26 (if t.check = 0 then t.items.1 else [])), (if t.check = 0 then t.items.2 else Tm.zero).av 26]) := by
  refine PureCall.of_vc hT [1] [] follows Tryz.call109 Tryz.func109 rfl (by kernel_rfl) (by simp [AV.pure, AV.pureL]) (by simp [AV.pure, AV.pureL]) ?_
  unfold Tryz.f109
  simp [Tm.cells]
  refine vcCall_at (may_c t ht) ?_
  simp
  refine ⟨fun h => ?_, fun h => ?_⟩
  · simp [h, Tm.zero, Tm.cells, Tm.cellsL]
    try rfl
  refine vcCall_at (Clone_c t ht) ?_
  simp [h]
  refine vcC_loop [(26, .slot 4)] (fun m σ st => ∃ (i : Nat) (al : Bool) (out : List Tm) (u : Tm), m = u.size ∧ out.length + u.size ≤ t.size ∧ i = out.length ∧ out ++ u.items.1 = t.items.1 ∧ u.items.2 = t.items.2 ∧ σ 1 = .ptr 0 0 ∧ σ 3 = .ptr 1 0 ∧ σ 4 = .own 2 i ∧
    st = [.cells (Tm.cells 26 u), .cells [.sc (.int .i64 0), .sc (.int .i64 0), .sc (.string .empty), .nils], .row 26 i al (Tm.cellsL 26 out)]) t.size ?_ ?_
  · simp
    exact ⟨0, [], t, by simp [Tm.cellsL]⟩
  rintro m σ st ⟨i, al, out, ⟨k, n, s, l⟩, rfl, hsz, rfl, h1, h2, s1, s3, s4, rfl⟩
  by_cases hc : k = 4 ∧ s = ⟨#[46]⟩ ∧ l.length = 2
  · obtain ⟨rfl, rfl, hl⟩ := hc
    obtain ⟨x, y, rfl⟩ := Tm.len2 hl
    rw [Tm.items_two] at h1 h2
    simp [s1, s3, s4, Tm.cells, Tm.cellsL]
    unfold Tm.small at ht
    simp only [Tm.size, Tm.sizeL] at hsz
    refine ⟨by omega, y.size, by simp only [Tm.size, Tm.sizeL]; omega, out.length + 1, out ++ [x], y, rfl, by simp; omega, by simp, by simpa using h1, by simpa using h2, rfl, rfl, rfl, by simp [Tm.cellsL]⟩
  · rw [Tm.items_end hc] at h1 h2
    simp [s1, s3, s4, Tm.cells]
    intro _
    refine ⟨fun h4 h5 h6 => absurd ⟨h4, h5, by omega⟩ hc, fun _ => ?_⟩
    simp at h1 h2
    rw [← h1, ← h2]
    simp [Tm.cells]
end Go.T1
end

section
open Go Go.Ab Go.Proofs
namespace Go.T1
set_option maxRecDepth 100000 in
theorem rList_c (l : List Tm) (tail : Tm) : PureCall T Tryz.prog 119 [.lst 26 (Tm.cellsL 26 l), tail.av 26] ((Tm.list tail l).av 26) := by
  refine PureCall.of_vc hT [5] [] follows Tryz.call119 Tryz.func119 rfl (by kernel_rfl) (by simp [AV.pure, AV.pureL]) (by simp [AV.pure, AV.pureL]) ?_
  unfold Tryz.f119
  simp [Tm.cells]
  intro hl1 hl2
  refine ⟨by unfold i64ok; omega, ?_⟩
  refine vcC_loop [] (fun m σ st => ∃ (i : Nat), m = i ∧ i ≤ l.length ∧ σ 0 = .lst 26 (Tm.cellsL 26 l) ∧ σ 4 = .ptr 0 0 ∧ σ 5 = .ptr 1 0 ∧ σ 6 = .sc (.int .i64 (i - 1)) ∧
    st = [.cells [.sc (.int .i64 0), .sc (.int .i64 0), .sc (.string .empty), .nils], .cells (Tm.cells 26 (Tm.list tail (l.drop i)))]) l.length ?_ ?_
  · simp [Tm.list]
  rintro m σ st ⟨i, rfl, hi, s0, s4, s5, s6, rfl⟩
  rcases Nat.eq_zero_or_pos m with h0 | hpos
  · subst h0
    simp [s0, s4, s5, s6]
  · obtain ⟨j, rfl⟩ : ∃ j, m = j + 1 := ⟨m - 1, by omega⟩
    have hj : j < l.length := by omega
    have e : ((j + 1 : Nat) : Int) - 1 = j := by omega
    rw [e] at s6
    simp [s0, s4, s5, s6, hj]
    refine ⟨rfl, vcCall_at (rComp_c _ [l[j], Tm.list tail (l.drop (j + 1))]) ?_⟩
    simp [s0, s4, s5, s6]
    refine ⟨by unfold i64ok; omega, j, by omega, by omega, rfl, ?_⟩
    rw [Tm.list_drop tail hj]
    simp [compT]
end Go.T1
end

section
open Go Go.Ab Go.Proofs Go.RowKit Go.Shelf
namespace Go.T1
attribute [local go_sem] Oper.semAt_some
/-- What a walk from behind has told when k rounds are over. -/
def down (n k : Nat) : List Nat := (List.range k).map fun j => n - 1 - j
theorem down_succ (n k : Nat) : down n (k + 1) = down n k ++ [n - 1 - k] := by simp [down, List.range_succ]
theorem down_len (n k : Nat) : (down n k).length = k := by simp [down]
/-- What the iterator reads between two rounds. -/
def Kb (b Bs : Nat) (W W' : World) : Prop := W'.heap[b]? = W.heap[b]? ∧ W'.heap[Bs]? = W.heap[Bs]?

set_option maxRecDepth 100000 in
set_option maxHeartbeats 4000000 in
theorem back1_in (F : Fence) (n : Nat) (h7 : F.fn 154) (hro : F.round = none) (hn : 1 ≤ n) (l Bs bo b off len cap : Nat) (zs : Nat → Nat → Value) (hreach : len ≤ 140737488355328) (J Jx : List Nat → World → Prop)
    (hY : ∀ pre x W, x < len → J pre W → pre.length < len → YieldAt F (n - 1) Tryz.prog l #[.int .i64 (x : Nat), .agg #[zs x 0, zs x 1, zs x 2, zs x 3]] W fun e W' =>
      (e = .returned (.bool true) ∧ J (pre ++ [x]) W' ∧ Kb b Bs W W') ∨ (e = .returned (.bool false) ∧ Jx (pre ++ [x]) W'))
    (W : World) (hBs : W.cell? ⟨Bs, bo, none⟩ = some (.slice (some ⟨b, off, none⟩) len cap)) (hc : ∀ j i, j < len → i < 4 → W.cell? ⟨b, off + j * 4 + i, none⟩ = some (zs j i)) (h0 : J [] W) :
    CallsIn F n Tryz.prog 154 #[.func (.yield l) #[] #[], .pointer (some ⟨Bs, bo, none⟩)] W fun e W' => (∃ v, e = .returned v) ∧
      ((∃ ys, ys = down len len ∧ J ys W') ∨ (∃ pre, (∃ k, k ≤ len ∧ pre = down len k) ∧ Jx pre W')) := by
  refine callsIn_of_wp Tryz.func154 rfl h7 ?_ hro
  simp only [Tryz.ntmps154, List.size_toArray, List.length_cons, List.length_nil, Nat.reduceAdd, Nat.reduceSub, Array.replicate_succ, Array.replicate_zero, List.push_toArray, List.append_toArray, List.nil_append, List.cons_append]
  gi_wp2
  gi_loopw [3] (fun i wr => ∃ k : Nat, k ≤ len ∧ i = .int .i64 ((len : Int) - 1 - k) ∧ J (down len k) wr ∧ Kb b Bs W wr)
    (fun i _ => (intOf i + 1).toNat)
  case atStart => exact ⟨0, Nat.zero_le _, by simp, h0, rfl, rfl⟩
  case round =>
    obtain ⟨k, hk, rfl, hJs, hnx⟩ := hrel
    have hb1 : wr.cell? ⟨Bs, bo, none⟩ = some (.slice (some ⟨b, off, none⟩) len cap) := (World.cell?_of_block (a := ⟨Bs, bo, none⟩) hnx.2).trans hBs
    by_cases hlt : k < len
    · obtain ⟨fn, tmps, assign, body, hy, hR⟩ := hY _ (len - 1 - k) wr (by omega) hJs (by rw [down_len]; exact hlt)
      have e0 : ((len - 1 - k : Nat) : Int) = (len : Int) - 1 - k := by omega
      rw [e0] at hy
      have e1 : ((len : Int) - 1 - k).toNat = len - 1 - k := by omega
      have e2 : (0 : Int) ≤ (len : Int) - 1 - k := by omega
      have e3 : ((len : Int) - 1 - k) < len := by omega
      have c0 : wr.cell? ⟨b, off + (len - 1 - k) * 4, none⟩ = some (zs (len - 1 - k) 0) := (World.cell?_of_block (a := ⟨b, _, none⟩) hnx.1).trans (hc (len - 1 - k) 0 (by omega) (by omega))
      have c1 : wr.cell? ⟨b, off + (len - 1 - k) * 4 + 1, none⟩ = some (zs (len - 1 - k) 1) := (World.cell?_of_block (a := ⟨b, _, none⟩) hnx.1).trans (hc (len - 1 - k) 1 (by omega) (by omega))
      have c2 : wr.cell? ⟨b, off + (len - 1 - k) * 4 + 2, none⟩ = some (zs (len - 1 - k) 2) := (World.cell?_of_block (a := ⟨b, _, none⟩) hnx.1).trans (hc (len - 1 - k) 2 (by omega) (by omega))
      have c3 : wr.cell? ⟨b, off + (len - 1 - k) * 4 + 3, none⟩ = some (zs (len - 1 - k) 3) := (World.cell?_of_block (a := ⟨b, _, none⟩) hnx.1).trans (hc (len - 1 - k) 3 (by omega) (by omega))
      gi_wp2
      refine hR.mono ?_
      rintro e W3 (⟨rfl, hJ3, hk3⟩ | ⟨rfl, hJx3⟩)
      · gi_wp2
        go_roundw
        case rel => exact ⟨k + 1, by omega, by simp; omega, by rw [down_succ]; exact hJ3, hk3.1.trans hnx.1, hk3.2.trans hnx.2⟩
        case measure => simp [intOf]; omega
      · gi_wp2
        refine bodyPost_ret (results_none rfl _ _ _) rfl ?_
        exact ⟨⟨_, rfl⟩, .inr ⟨down len k ++ [len - 1 - k], ⟨k + 1, by omega, (down_succ _ _).symm⟩, hJx3⟩⟩
    · obtain rfl : k = len := by omega
      gi_wp2
      go_end0
      exact ⟨⟨_, rfl⟩, .inl ⟨_, rfl, hJs⟩⟩

set_option maxRecDepth 100000 in
set_option maxHeartbeats 1000000 in
/-- .. of the nil slice, or an empty one: no round. -/
theorem back1_nil_in (F : Fence) (n : Nat) (h7 : F.fn 154) (hro : F.round = none) (l Bs bo cap : Nat) (a : Option Addr) {α : Type} (J : List α → World → Prop) (W : World) (hBs : W.cell? ⟨Bs, bo, none⟩ = some (.slice a 0 cap)) (h0 : J [] W) :
    CallsIn F n Tryz.prog 154 #[.func (.yield l) #[] #[], .pointer (some ⟨Bs, bo, none⟩)] W fun e W' => (∃ v, e = .returned v) ∧ J [] W' := by
  refine callsIn_of_wp Tryz.func154 rfl h7 ?_ hro
  simp only [Tryz.ntmps154, List.size_toArray, List.length_cons, List.length_nil, Nat.reduceAdd, Nat.reduceSub, Array.replicate_succ, Array.replicate_zero, List.push_toArray, List.append_toArray, List.nil_append, List.cons_append]
  gi_wp2
  gi_loopw [3] (fun i wr => i = .int .i64 (-1) ∧ J [] wr) (fun _ _ => 0)
  case atStart => exact ⟨rfl, h0⟩
  case round =>
    obtain ⟨rfl, hJs⟩ := hrel
    gi_wp2
    go_end0
    exact ⟨⟨_, rfl⟩, hJs⟩

theorem relM_get {E : Env} {b k : Nat} : ∀ (L : List (List AV)) (o x : Nat) (h : x < L.length), RelM T E b k o L → RelX T E b (o + x * k) L[x]
  | [], _, _, h, _ => by simp at h
  | e :: L, o, 0, _, hr => by simp only [RelM] at hr; simpa using hr.2.1
  | e :: L, o, x + 1, h, hr => by
    simp only [RelM] at hr
    have := relM_get L (o + k) x (by simpa using h) hr.2.2
    rw [show o + (x + 1) * k = o + k + x * k by rw [Nat.add_mul]; omega]
    simpa using this

theorem back_stops (E1 : Env) (n : Nat) (hn : 1 ≤ n) (l : List Tm) (p : Value) (hp : Rel T E1 (.eptr [.lst 26 (Tm.cellsL 26 l)]) p) :
    ∃ zs : Nat → Nat → Value, (∀ x (h : x < l.length), RelC T E1 (Tm.cells 26 l[x]) [zs x 0, zs x 1, zs x 2, zs x 3]) ∧
      SeqStopsK (fenceR none) n Tryz.prog 154 #[p] (fun x : {x : Nat // x < l.length} => #[.int .i64 (x.1 : Nat), .agg #[zs x.1 0, zs x.1 1, zs x.1 2, zs x.1 3]]) (fun W W' => ∀ k, E1.stable k → W'.heap[k]? = W.heap[k]?)
        (fun xs => xs.map (·.1) = down l.length l.length) (fun _ => True) l.length E1.w := by
  simp only [Rel] at hp
  obtain ⟨Bs, bo, rfl, hBs, hp⟩ := hp
  simp only [RelX] at hp
  obtain ⟨⟨v, hv, hp, _⟩, _⟩ := hp
  simp only [Rel] at hp
  obtain ⟨hm1, hm2, a, cap, rfl, _, hl⟩ := hp
  have hlen : (Tm.cellsL 26 l).length = l.length := by simp
  rw [hlen] at hv hm1 hm2
  have h56 : T.bytes 26 = 56 := by simp [Tab.bytes]
  have h48 : l.length ≤ 140737488355328 := by rw [h56] at hm1; omega
  rcases hl with hl | ⟨b, o, rfl, hb, hl⟩
  · have hl0 : l = [] := by rw [← List.length_eq_zero_iff, ← hlen, hl]; rfl
    subst hl0
    refine ⟨fun _ _ => undef, fun x h => by simp at h, ?_⟩
    intro lp J Jx W hW _ _ hY h0
    refine (back1_nil_in (fenceR none) n trivial rfl lp Bs bo cap a J W ?_ h0).mono ?_
    · exact (World.cell?_of_block (w := E1.w) (a := ⟨Bs, bo, none⟩) (hW.block Bs hBs.1)).trans hv
    · rintro e W' ⟨h1, h2⟩
      exact ⟨h1, .inl ⟨[], by simp [down], h2⟩⟩
  · have hT4 : T.cells 26 = 4 := by simp [Tab.cells]
    rw [hT4] at hl
    have hget : ∀ x (h : x < l.length), RelX T E1 b (o + x * 4) (Tm.cells 26 l[x]) := fun x h => by
      have := relM_get (Tm.cellsL 26 l) o x (by simpa using h) hl
      simpa [h] using this
    refine ⟨fun x i => (E1.w.cell? ⟨b, o + x * 4 + i, none⟩).getD undef, fun x h => ?_, ?_⟩
    · have := hget x h
      generalize l[x] = t at this ⊢
      obtain ⟨k, m, s, ll⟩ := t
      simp only [Tm.cells, RelX, RelC] at this ⊢
      obtain ⟨⟨v0, a0, b0, c0⟩, ⟨v1, a1, b1, c1⟩, ⟨v2, a2, b2, c2⟩, ⟨v3, a3, b3, c3⟩, _⟩ := this
      simp only [Nat.add_assoc] at a0 a1 a2 a3 ⊢
      refine ⟨_, _, rfl, by simpa [a0] using b0, by simpa [a0] using c0, _, _, rfl, by simpa [a1] using b1, by simpa [a1] using c1, _, _, rfl, by simpa [a2] using b2, by simpa [a2] using c2, _, _, rfl, by simpa [a3] using b3, by simpa [a3] using c3, rfl⟩
    · intro lp J Jx W hW _ _ hY h0
      refine (back1_in (fenceR none) n trivial rfl hn lp Bs bo b o l.length cap (fun x i => (E1.w.cell? ⟨b, o + x * 4 + i, none⟩).getD undef) h48
        (fun ys W => ∃ xs : List {x : Nat // x < l.length}, xs.map (·.1) = ys ∧ J xs W) (fun ys W => ∃ xs : List {x : Nat // x < l.length}, xs.map (·.1) = ys ∧ Jx xs W) ?_ W
        ((World.cell?_of_block (w := E1.w) (a := ⟨Bs, bo, none⟩) (hW.block Bs hBs.1)).trans hv) ?_ ⟨[], rfl, h0⟩).mono ?_
      · rintro pre x W1 hx ⟨xs, rfl, hJ⟩ hlt
        obtain ⟨fn, tmps, assign, body, hy, hR⟩ := hY xs ⟨x, hx⟩ W1 hJ (by simpa using hlt)
        refine ⟨fn, tmps, assign, body, hy, hR.mono ?_⟩
        rintro e W' (⟨rfl, h1, h2⟩ | ⟨rfl, h1⟩)
        · exact .inl ⟨rfl, ⟨xs ++ [⟨x, hx⟩], by simp, h1⟩, h2 b hb, h2 Bs hBs⟩
        · exact .inr ⟨rfl, xs ++ [⟨x, hx⟩], by simp, h1⟩
      · intro j i hj hi
        rw [show W.cell? ⟨b, o + j * 4 + i, none⟩ = E1.w.cell? ⟨b, o + j * 4 + i, none⟩ from World.cell?_of_block (w := E1.w) (a := ⟨b, o + j * 4 + i, none⟩) (hW.block b hb.1)]
        have := hget j hj
        generalize l[j] = t at this
        obtain ⟨k, m, s, ll⟩ := t
        simp only [Tm.cells, RelX] at this
        obtain ⟨⟨v0, a0, b0, c0⟩, ⟨v1, a1, b1, c1⟩, ⟨v2, a2, b2, c2⟩, ⟨v3, a3, b3, c3⟩, _⟩ := this
        simp only [Nat.add_assoc] at a0 a1 a2 a3 ⊢
        match i, hi with
        | 0, _ => simp [a0]
        | 1, _ => simp [a1]
        | 2, _ => simp [a2]
        | 3, _ => simp [a3]
      · rintro e W' ⟨h1, ⟨ys, rfl, xs, h2, h3⟩ | ⟨pre, _, xs, _, h3⟩⟩
        · exact ⟨h1, .inl ⟨xs, h2, h3⟩⟩
        · exact ⟨h1, .inr ⟨xs, trivial, h3⟩⟩
end Go.T1
end

section
open Go Go.Ab Go.Proofs Go.RowKit
namespace Go.T1
set_option maxRecDepth 100000 in
theorem Backward_c (l : List Tm) : PureCall T Tryz.prog 134 [.lst 26 (Tm.cellsL 26 l)] (.fn (.func 154) [] [.eptr [.lst 26 (Tm.cellsL 26 l)]]) := by
  refine PureCall.of_vc hT [] [] follows Tryz.call134 Tryz.func134 rfl (by kernel_rfl) (by simp [AV.pure, AV.pureL]) (by simp [AV.pure, AV.pureL]) ?_
  unfold Tryz.f134
  simp [AV.ofConst, AV.ofConst1]

mutual
theorem Tm.cells_solid (e : Nat) : ∀ t : Tm, AV.solidL (t.cells e)
  | .mk k n s l => by simp only [Tm.cells, AV.solidL, AV.solid]; exact ⟨trivial, trivial, trivial, Tm.cellsL_solid e l, trivial⟩
theorem Tm.cellsL_solid (e : Nat) : ∀ l : List Tm, AV.solidM (Tm.cellsL e l)
  | [] => by simp only [Tm.cellsL, AV.solidM]
  | t :: ts => by
    simp only [Tm.cellsL, AV.solidM]
    exact ⟨by cases t; simp [Tm.cells], Tm.cells_solid e t, Tm.cellsL_solid e ts⟩
end

/-- The slots that a round of List knows. -/
def sigL (x : AV) : Slots := fun i => if i = 3 then .ptr 0 0 else if i = 4 then .ptr 1 0 else if i = 6 then x else .any
theorem sigL_solid (x : AV) (h : x.solid) (i : Nat) : (sigL x i).solid := by
  unfold sigL; split
  · trivial
  · split
    · trivial
    · split
      · exact h
      · trivial
def zeroT : List AV := [.sc (.int .i64 0), .sc (.int .i64 0), .sc (.string .empty), .nils]
theorem zeroT_solid : AV.solidL zeroT := by simp [zeroT, AV.solidL, AV.solid]

theorem rev_of_down (l : List Tm) (xs : List {x : Nat // x < l.length}) (h : xs.map (·.1) = down l.length l.length) : (xs.map (fun x => l[x.1])).reverse = l := by
  have h1 : xs.length = l.length := by have := congrArg List.length h; simpa [down_len] using this
  rw [List.reverse_eq_iff]
  refine List.ext_getElem (by simp [h1]) fun i h2 h3 => ?_
  have h4 : (xs.map (·.1))[i]? = (down l.length l.length)[i]? := by rw [h]
  have h5 : i < xs.length := by simpa using h2
  have h6 : i < l.length := by omega
  simp [down, h5, h6] at h4
  simp [h4]

set_option maxRecDepth 100000 in
theorem List_c (l : List Tm) (tail : Tm) : PureCall T Tryz.prog 107 [.lst 26 (Tm.cellsL 26 l), tail.av 26] ((Tm.list tail l).av 26) := by
  refine ⟨Tryz.call107, by simp [AV.pure, AV.pureL], by simp [AV.pure], fun w M vs hM hr => ?_⟩
  let E0 : Env := ⟨w, [], fun _ => 0, M⟩
  have hi0 : Inv T E0 := ⟨fun i j bi bj h => by simp [E0] at h, fun i bi h => by simp [E0] at h, hM, fun i bi h => by simp [E0] at h⟩
  refine callsIn_wide.1 (callsIn_of_wp_marks (F := fenceR none) (n := 2) Tryz.func107 rfl trivial ?_ rfl)
  unfold Tryz.f107
  have hs0 : RelS T E0 16 (slots0 [.lst 26 (Tm.cellsL 26 l), tail.av 26]) { tmps := vs.toArray ++ Array.replicate (16 - vs.toArray.size) undef, defers := [] } := slots0_rel hr 16
  show Code.wpIn (fenceR none) 2 Tryz.prog _ _ { tmps := vs.toArray ++ Array.replicate (16 - vs.toArray.size) undef, defers := [] } E0.w
  rw [← behindA_nil { tmps := vs.toArray ++ Array.replicate (16 - vs.toArray.size) undef, defers := [] }]
  refine wpIn_seq (vcR_sound (r := none) (ds := []) (mu := [3]) (X := fun _ _ _ => False) (R := fun _ _ => False) (st := []) (K := fun σ st => σ 0 = .lst 26 (Tm.cellsL 26 l) ∧ σ 3 = .ptr 0 0 ∧ σ 4 = .ptr 1 0 ∧ st = [.cells (tail.cells 26), .cells zeroT]) hT follows _ E0 _ rfl ?_ rfl hi0 (Step.refl _) hs0 ?_)
  · simp [zeroT]
  intro Ea σa aa ia sa ra ⟨a0, a3, a4, ast⟩
  show Code.wpIn (fenceR none) 2 Tryz.prog _ _ (behindA aa []) Ea.w
  refine wpIn_seq (wpIn_seq (vcR_sound (r := none) (ds := []) (mu := [3]) (X := fun _ _ _ => False) (R := fun _ _ => False) (st := Ea.st) (σ := σa) (E0 := E0) (K := fun σ st => σ 3 = .ptr 0 0 ∧ σ 4 = .ptr 1 0 ∧ σ 8 = .fn (.func 154) [] [.eptr [.lst 26 (Tm.cellsL 26 l)]] ∧ st = [.cells (tail.cells 26), .cells zeroT]) hT follows _ Ea aa rfl ?_ rfl ia sa ra ?_))
  · simp [a0, a3, a4, ast]
    refine vcCall_at (Backward_c l) ?_
    simp [a3, a4]
  intro E1 σ1 a1 i1 s1 r1 ⟨b3, b4, b8, bst⟩
  show Code.wpIn (fenceR none) 2 Tryz.prog _ _ (behindA a1 []) E1.w
  rw [behindA_nil]
  have hac : allCells E1.st := by
    rw [bst]
    intro i b h
    match i, h with
    | 0, h => simp at h; exact ⟨_, h.symm, Tm.cells_solid 26 tail⟩
    | 1, h => simp at h; exact ⟨_, h.symm, zeroT_solid⟩
    | i + 2, h => simp at h
  have r8 := r1.val 8
  rw [b8] at r8
  simp only [Rel] at r8
  obtain ⟨fs, ws, e8, hfs, hws⟩ := r8
  simp only [RelL] at hfs hws
  subst hfs
  obtain ⟨p, _, rfl, hp, rfl⟩ := hws
  obtain ⟨zs, hz, hseq⟩ := back_stops E1 1 (by omega) l p (by simpa only [Rel] using hp)
  refine wpIn_block ?_
  refine rangeRule (mu := [3]) (α := {x : Nat // x < l.length}) hT follows E1 (sigL .any) (by omega) i1 hac (r1.forget ?_) (sigL_solid _ trivial) (gf := 154) (lb := #[p]) e8 Tryz.call154
    (xv := fun x => .sc (.int .i64 (x.1 : Nat))) (yv := fun x => .agg (l[x.1].cells 26)) ?_ hseq (by decide) (by decide)
    (fun pre st => st = [.cells ((Tm.list tail (pre.map (fun x => l[x.1])).reverse).cells 26), .cells zeroT]) ?_ (by rw [bst]; rfl)
    (fun x => sigL (.eptr (l[x.1].cells 26))) ?_ rfl rfl ?_ ?_ ?_
  · intro i
    unfold sigL
    split
    · rename_i h; subst h; exact .inr b3
    · split
      · rename_i h; subst h; exact .inr b4
      · split <;> exact .inl rfl
  · intro x
    refine ⟨_, _, rfl, by simp only [Rel]; exact ⟨trivial, rfl⟩, ?_, by simp only [AV.solid], by simp only [AV.solid]; exact Tm.cells_solid 26 _⟩
    simp only [Rel]
    exact ⟨_, rfl, hz x.1 x.2⟩
  · rintro pre st rfl
    refine ⟨?_, by rw [bst]; rfl⟩
    intro i b h
    match i, h with
    | 0, h => simp at h; exact ⟨_, h.symm, Tm.cells_solid 26 _⟩
    | 1, h => simp at h; exact ⟨_, h.symm, zeroT_solid⟩
    | i + 2, h => simp at h
  · intro x i
    refine sigL_solid _ ?_ i
    simp only [AV.solid]
    refine ⟨?_, Tm.cells_solid 26 _⟩
    cases l[x.1]; simp [Tm.cells]
  · rintro pre x st rfl
    simp [put2, sigL]
    intro i
    by_cases h3 : i = 3
    · subst h3; simp
    by_cases h4 : i = 4
    · subst h4; simp
    by_cases h6 : i = 6
    · subst h6; simp
    simp [h3, h4, h6]
  · rintro pre x st rfl hlt
    simp [sigL]
    refine ⟨rfl, vcCall_at (Comp_c _ [l[x.1], Tm.list tail (pre.map (fun x => l[x.1])).reverse]) ?_⟩
    have hd : ∀ t : Tm, List.drop 4 (t.cells 26) = [] := fun t => by cases t; rfl
    simp [bst, cutSt, zeroT, Tm.list, compT, sigL, hd]
  · rintro D xs E hD hS hI' hiE hg hK
    rw [rev_of_down l xs hS] at hI'
    refine wpIn_seq (vcR_sound (r := none) (ds := [{ target := .collected D, args := #[] }]) (mu := [3]) (X := fun _ _ _ => False) (R := fun _ _ => False) (σ := sigL .any) (st := E.st) (E0 := E) (K := fun σ st => σ 4 = .ptr 1 0 ∧ st = [.cells ((Tm.list tail l).cells 26), .cells ((Tm.list tail l).cells 26)]) hT follows _ E a1 rfl ?_ rfl hiE (Step.refl E) ((r1.forget ?_).move hg.move (sigL_solid _ trivial)) ?_)
    · simp [hI', sigL, zeroT]
    · intro i
      unfold sigL
      split
      · rename_i h; subst h; exact .inr b3
      · split
        · rename_i h; subst h; exact .inr b4
        · split <;> exact .inl rfl
    intro E' σ' a' k1 k2 k3 ⟨k4, k5⟩
    refine wpIn_ret ?_
    refine leaves_range (σ' := fun i => if i = 4 then .ptr 1 0 else .any) hT s1 rfl hg k2 k1 (by rw [k5, hI']; rfl) ?_ hD hK (k3.forget ?_) ?_ ?_ (by simp [AV.pure])
    · rw [k5]
      intro i b h
      match i, h with
      | 0, h => simp at h; exact ⟨_, h.symm, Tm.cells_solid 26 _⟩
      | 1, h => simp at h; exact ⟨_, h.symm, Tm.cells_solid 26 _⟩
      | i + 2, h => simp at h
    · intro i
      split
      · rename_i h; subst h; exact .inr k4
      · exact .inl rfl
    · intro i
      split <;> trivial
    · rw [k5]
      simp
end Go.T1
end

section
open Go Go.Ab Go.Proofs
namespace Go.T1
theorem sizeL_small {l : List Tm} (h : Tm.sizeL l ≤ 900000000) {i : Nat} (hlt : i < l.length) : l[i].small := by
  have := Tm.size_get hlt
  unfold Tm.small; omega

theorem take_ne {a b : List Tm} {i : Nat} (h1 : i < a.length) (h2 : i < b.length) (h : a[i] ≠ b[i]) : a ≠ b := by
  rintro rfl; exact h rfl

end Go.T1
end

section
open Go Go.Ab Go.Proofs Go.RowKit
namespace Go.T1
/-- A world as it is handed in. -/
def E0 (W : World) : Env := ⟨W, [], fun _ => 0, fun _ => False⟩
theorem relX_of {W : World} {b : Nat} : ∀ (xs : List AV) (cs : List Value) (o : Nat), (∀ i, i < cs.length → W.cell? ⟨b, o + i, none⟩ = cs[i]?) → RelC T (E0 W) xs cs → RelX T (E0 W) b o xs
  | [], _, _, _, _ => by simp only [RelX]
  | x :: xs, cs, o, h, hr => by
    simp only [RelC] at hr
    obtain ⟨v, r, rfl, h1, h2, h3⟩ := hr
    simp only [RelX]
    refine ⟨⟨v, by show W.cell? _ = _; simpa using h 0 (by simp), h1, h2⟩, relX_of xs r (o + 1) (fun i hi => ?_) h3⟩
    have := h (i + 1) (by simp; omega)
    rw [show o + 1 + i = o + (i + 1) by omega, this]; simp
theorem relM_of {W : World} {b k : Nat} : ∀ (L : List (List AV)) (o : Nat), (∀ i (h : i < L.length), L[i].length = k ∧ RelX T (E0 W) b (o + i * k) L[i]) → RelM T (E0 W) b k o L
  | [], _, _ => by simp only [RelM]
  | e :: L, o, h => by
    simp only [RelM]
    have h0 := h 0 (by simp)
    refine ⟨h0.1, by simpa using h0.2, relM_of L (o + k) fun i hi => ?_⟩
    have := h (i + 1) (by simp; omega)
    simp only [List.getElem_cons_succ] at this
    rw [show o + k + i * k = o + (i + 1) * k by rw [Nat.add_mul]; omega]
    exact this
theorem weightsAll_mem {H : Type} {P : Program} {e : TypeId} : ∀ {l : List (DataW H)} {d : DataW H}, d ∈ l → ∀ n ∈ d.weights P e, n ∈ DataW.weightsAll P e l
  | x :: xs, d, hd, n, hn => by
    simp only [DataW.weightsAll, List.mem_append]
    rcases List.mem_cons.1 hd with rfl | hd
    · exact .inl hn
    · exact .inr (weightsAll_mem hd n hn)
theorem cellsOf26 : Tryz.prog.cellsOf 26 = 4 := by kernel_rfl
theorem cellsOf22 : Tryz.prog.cellsOf 22 = 1 := by kernel_rfl
theorem cellsOf3 : Tryz.prog.cellsOf 3 = 1 := by kernel_rfl
theorem cellsOf9 : Tryz.prog.cellsOf 9 = 1 := by kernel_rfl
theorem bytesOf26 : Tryz.prog.bytesOf 26 = 56 := by kernel_rfl
theorem add_add (b off i j : Nat) : ((⟨b, off, none⟩ : Addr).add i).add j = ⟨b, off + i + j, none⟩ := by
  unfold Addr.add
  by_cases hi : i = 0
  · subst hi
    by_cases hj : j = 0
    · subst hj; rfl
    · simp [hj]
  · by_cases hj : j = 0
    · subst hj; simp [hi]
    · simp [hi, hj]
theorem cell_lt {W : World} {a : Addr} {v : Value} (h : W.cell? a = some v) : a.block < W.heap.size ∧ a.spot = none := by
  unfold World.cell? at h
  split at h
  · rename_i c _ _ hb
    refine ⟨(Array.getElem?_eq_some_iff.1 hb).1, ?_⟩
    split at h
    · cases h
    · rename_i hs; cases hsp : a.spot with
      | none => rfl
      | some _ => rw [hsp] at hs; exact absurd rfl hs
  · cases h

section
variable {H : Type} {enc : TypeId × Value → H} {W : World} {sp : Nat → Bool}

theorem niceL_of : ∀ {l : List Tm}, (∀ t ∈ l, t.nice) → Tm.niceL l
  | [], _ => trivial
  | t :: ts, h => ⟨h t (by simp), niceL_of fun x hx => h x (by simp [hx])⟩

theorem open_sl {n : Nat} (ih : ∀ m, m ≤ n → ∀ cs (d : DataW H) ps, DataW.trod enc Tryz.prog W 0 sp true m 26 cs = some (d, ps) → (∀ k ∈ d.weights Tryz.prog 26, k ≤ reachBytes) → ∃ t : Tm, RelC T (E0 W) (t.cells 26) cs ∧ t.nice)
    {fuel : Nat} (hf : fuel ≤ n + 1) {cs : List Value} {d : DataW H} {ps : List MemPlace} (h : DataW.trod enc Tryz.prog W 0 sp true fuel 22 cs = some (d, ps)) (hw : ∀ k ∈ d.weights Tryz.prog 22, k ≤ reachBytes) :
    ∃ (l : List Tm) (v : Value), cs = [v] ∧ v.oneCell' = true ∧ Rel T (E0 W) (.lst 26 (Tm.cellsL 26 l)) v ∧ Tm.niceL l := by
  rcases DataW.trod_slice Tryz.underlying22 h with ⟨rfl, hx⟩ | ⟨a, len, cap, elems, rest, m, rfl, rfl, hx, hb, hl, hm, hlen, hel, _, _⟩
  · refine ⟨[], _, rfl, rfl, ?_, trivial⟩
    simp only [Rel, Tm.cellsL]
    exact ⟨by simp, by simp, _, _, rfl, by simp, .inl trivial⟩
  · cases hx
    simp only [DataW.weights, Tryz.underlying22, List.mem_cons, List.mem_append, bytesOf26] at hw
    have hw0 := hw _ (.inl rfl)
    simp only [List.length_map] at hw0
    have hreach : reachBytes = 140737488351232 := by decide
    rw [hreach] at hw0
    rw [cellsOf26] at hel
    have key : ∀ i, i < len → ∃ t : Tm, (∃ cs', W.cells? 0 (a.add (i * 4)) 4 = some cs' ∧ RelC T (E0 W) (t.cells 26) cs') ∧ t.nice := by
      intro i hi
      have := hel i hi
      rw [List.getElem?_eq_getElem (by omega)] at this
      obtain ⟨cs', h1, h2⟩ := Option.bind_eq_some_iff.1 this
      obtain ⟨t, h3, h4⟩ := ih m (by omega) cs' elems[i].1 elems[i].2 h2 (fun k hk => hw k (.inr (.inl (weightsAll_mem (List.mem_map.2 ⟨_, List.getElem_mem (by omega), rfl⟩) k hk))))
      exact ⟨t, ⟨cs', h1, h3⟩, h4⟩
    have hch : ∃ f : Nat → Tm, ∀ i, i < len → (∃ cs', W.cells? 0 (a.add (i * 4)) 4 = some cs' ∧ RelC T (E0 W) ((f i).cells 26) cs') ∧ (f i).nice :=
      ⟨fun i => if hi : i < len then (key i hi).choose else Tm.zero, fun i hi => by simp only [dif_pos hi]; exact (key i hi).choose_spec⟩
    obtain ⟨f, hf'⟩ := hch
    refine ⟨(List.range len).map f, _, rfl, rfl, ?_, niceL_of fun t ht => ?_⟩
    · simp only [Rel]
      have h56 : T.bytes 26 = 56 := by simp [Tab.bytes]
      have h4 : T.cells 26 = 4 := by simp [Tab.cells]
      refine ⟨by simp [h56]; omega, by simp; unfold maxLen; omega, some a, cap, by simp, by simpa using hl, ?_⟩
      rcases Nat.eq_zero_or_pos len with h0 | h0
      · left; subst h0; rfl
      · right
        obtain ⟨⟨cs', k1, k2⟩, _⟩ := hf' 0 h0
        obtain ⟨_, k3, k4⟩ := World.cells?_some k1
        have k5 := k4 0 (by omega)
        rw [List.getElem?_eq_getElem (by omega)] at k5
        have k6 := cell_lt k5
        obtain ⟨b, off, spot⟩ := a
        have hs : spot = none := by simpa [Addr.add] using k6.2
        subst hs
        have hbl : b < W.heap.size := by simpa [Addr.add] using k6.1
        refine ⟨b, off, rfl, ⟨hbl, ?_⟩, ?_⟩
        · rintro (hm | ⟨id, blk, hm, _⟩)
          · exact hm
          · simp [E0] at hm
        · rw [h4]
          refine relM_of _ _ fun i hi => ?_
          simp only [Tm.cellsL_len, List.length_map, List.length_range] at hi
          obtain ⟨⟨cs', k1, k2⟩, _⟩ := hf' i hi
          obtain ⟨_, k3, k4⟩ := World.cells?_some k1
          simp only [Tm.cellsL_getElem, List.getElem_map, List.getElem_range]
          refine ⟨by simp, relX_of _ cs' _ (fun j hj => ?_) k2⟩
          rw [← k4 j (by omega), add_add]
    · obtain ⟨i, hi, rfl⟩ := List.mem_map.1 ht
      exact (hf' i (List.mem_range.1 hi)).2

set_option maxRecDepth 100000 in
theorem open_tm : ∀ fuel cs (d : DataW H) ps, DataW.trod enc Tryz.prog W 0 sp true fuel 26 cs = some (d, ps) → (∀ k ∈ d.weights Tryz.prog 26, k ≤ reachBytes) → ∃ t : Tm, RelC T (E0 W) (t.cells 26) cs ∧ t.nice := by
  intro fuel
  induction fuel using Nat.strongRecOn with
  | _ fuel ih =>
    intro cs d ps h hw
    obtain ⟨xs, n, rfl, hx, hlen, hxs, hf⟩ := DataW.trod_struct Tryz.underlying26 h
    cases hx
    rw [cellsOf26] at hlen
    match cs, hlen with
    | [c0, c1, c2, c3], _ =>
    match xs, hxs with
    | [x0, x1, x2, x3], _ =>
    have f0 := hf 0 _ rfl
    have f1 := hf 1 _ rfl
    have f2 := hf 2 _ rfl
    have f3 := hf 3 _ rfl
    simp [cellsOf3, cellsOf9, cellsOf22] at f0 f1 f2 f3
    simp only [DataW.weights, Tryz.underlying26] at hw
    simp [DataW.weightsEach] at hw
    obtain ⟨k, e0, rfl, _⟩ := DataW.trod_int Tryz.underlying3 f0
    obtain ⟨m, e1, rfl, _⟩ := DataW.trod_int Tryz.underlying3 f1
    obtain ⟨s, e2, rfl, hs⟩ := DataW.trod_string Tryz.underlying9 f2
    cases e0; cases e1; cases e2
    obtain ⟨l, v, e3, hv1, hv2, hv3⟩ := open_sl (n := n) (fun m hm => ih m (by omega)) (fuel := n) (by omega) f3 (fun q hq => hw q (by simp [hq]))
    cases e3
    refine ⟨.mk k m s l, ?_, ?_⟩
    · simp only [Tm.cells, RelC, Rel]
      exact ⟨_, _, rfl, ⟨rfl, rfl⟩, rfl, _, _, rfl, ⟨rfl, rfl⟩, rfl, _, _, rfl, ⟨rfl, rfl⟩, rfl, _, _, rfl, by simpa only [Rel] using hv2, hv1, rfl⟩
    · have : s.data.toList.length ≤ reachBytes := hw _ (by simp [DataW.weights])
      have hreach : reachBytes = 140737488351232 := by decide
      have e : s.data.toList.length = s.size := by rw [Array.length_toList]; rfl
      exact ⟨by omega, hv3⟩
end
end Go.T1
end

section
open Go Go.Ab Go.Proofs Go.RowKit Go.ChangeShapes Go.WideShapes Go.ChangeAt
namespace Go.T1
section
variable {H : Type} {enc : TypeId × Value → H} {W : World} {sp : Nat → Bool}
set_option maxRecDepth 100000 in
theorem trod_tm {v : Value} {d : DataW H} {p : List MemPlace} (h : DataW.Trod enc Tryz.prog W 0 sp true 26 v d p) (hw : ∀ k ∈ d.weights Tryz.prog 26, k ≤ reachBytes) : ∃ t : Tm, Rel T (E0 W) (t.av 26) v ∧ t.nice := by
  obtain ⟨fuel, h⟩ := h
  obtain ⟨t, h1, h2⟩ := open_tm fuel _ _ _ h hw
  refine ⟨t, ?_, h2⟩
  have hl := RelC.len _ _ h1
  rw [Tm.cells_len] at hl
  cases v with
  | agg cs => simp only [Rel]; exact ⟨cs.toList, by simp, h1⟩
  | _ => simp [Value.cells] at hl
set_option maxRecDepth 100000 in
theorem trod_sl {v : Value} {d : DataW H} {p : List MemPlace} {base : Nat} (hok : Value.okWide Tryz.prog W .any base 22 v) (h : DataW.Trod enc Tryz.prog W 0 sp true 22 v d p) (hw : ∀ k ∈ d.weights Tryz.prog 22, k ≤ reachBytes) : ∃ l : List Tm, Rel T (E0 W) (.lst 26 (Tm.cellsL 26 l)) v ∧ Tm.niceL l := by
  obtain ⟨fuel, h⟩ := h
  obtain ⟨l, v', h1, h2, h3, h4⟩ := open_sl (n := fuel) (fun m _ => open_tm m) (fuel := fuel) (by omega) h hw
  refine ⟨l, ?_, h4⟩
  have hv : v.cells = #[v] := by
    unfold Value.okWide at hok
    rw [Tryz.underlying22] at hok
    cases v with
    | agg cs => simp [Cell.okWide, Cell.ok, Tryz.underlying22] at hok
    | _ => rfl
  rw [hv] at h1
  simp at h1
  rw [h1]; exact h3
set_option maxRecDepth 100000 in
theorem trod_it {v : Value} {d : DataW H} {p : List MemPlace} (hok : Value.okWide Tryz.prog W .any 0 3 v) (h : DataW.Trod enc Tryz.prog W 0 sp true 3 v d p) : ∃ n : Int, Rel T (E0 W) (.sc (.int .i64 n)) v ∧ (Lit.int .i64 n).wf = true := by
  obtain ⟨n, rfl, rfl, rfl, h2⟩ := open_int Tryz.underlying3 hok h
  exact ⟨n, by simp only [Rel]; exact ⟨trivial, rfl⟩, h2⟩
set_option maxRecDepth 100000 in
theorem trod_st {v : Value} {d : DataW H} {p : List MemPlace} {base : Nat} (hok : Value.okWide Tryz.prog W .any base 9 v) (h : DataW.Trod enc Tryz.prog W 0 sp true 9 v d p) : ∃ s : ByteArray, Rel T (E0 W) (.sc (.string s)) v := by
  obtain ⟨s, rfl, rfl, rfl, h2⟩ := Go.ChangeMaps.open_string Tryz.underlying9 hok h
  exact ⟨s, by simp only [Rel]; exact ⟨trivial, rfl⟩⟩
theorem own : ownKnob Tryz.prog.godebug = none := by kernel_rfl
theorem laidOut : laidOutB Tryz.prog = true := by kernel_rfl
/-- A call that needs no memory of the caller's. -/
theorem callW {f : FuncId} {args : List AV} (h : PureCall T Tryz.prog f args (.sc (.bool true))) {vs : List Value} (hr : RelL T (E0 W) args vs) :
    Calls Tryz.prog f vs.toArray W fun e W' => e = .returned (.bool true) ∧ Below W.heap.size W W' := by
  refine (h.call W (fun _ => False) vs (fun _ h => h.elim) hr).mono ?_
  rintro e W' ⟨u, rfl, h1, h2⟩
  simp only [Rel] at h2
  rw [h2.1]; exact ⟨rfl, h1⟩
theorem wEach {ts : List TypeId} {ds : List (DataW H)} (hz : (DataW.weightsEach Tryz.prog ts ds).all (· ≤ reachBytes) = true) {j : Nat} {t : TypeId} {d : DataW H} (ht : ts[j]? = some t) (hd : ds[j]? = some d) : ∀ k ∈ d.weights Tryz.prog t, k ≤ reachBytes := by
  intro k hk
  have := List.all_eq_true.1 hz _ (DataW.weights_mem_each ht hd k hk)
  simpa using this
/-- An argument reads as it did. -/
theorem argW {t : TypeId} {W' : World} {v : Value} {d : DataW H} {ps : List MemPlace} (hr : Tryz.prog.readableRec t = true) (ht : t < Tryz.prog.types.size)
    (h : DataW.Trod enc Tryz.prog W 0 (fun _ => true) true t v d ps) (hb : Below W.heap.size W W') (hlt : ∀ x ∈ ps, x.block < W.heap.size) : DataW.Trod enc Tryz.prog W' 0 (fun b => decide (b < W.heap.size)) true t v d ps :=
  Below.trod laidOut hr ht h hb hlt
end
end Go.T1
end

section
open Go Go.Ab Go.Proofs
namespace Go.T1
theorem nanI_c (n : Int) : PureCall T Tryz.prog 161 [.sc (.int .i64 n)] (.sc (.bool false)) := by
  refine PureCall.of_vc hT [] [] follows Tryz.call161 Tryz.func161 rfl (by kernel_rfl) (by simp [AV.pure, AV.pureL]) (by simp [AV.pure]) ?_
  unfold Tryz.f161
  simp
theorem nanS_c (s : ByteArray) : PureCall T Tryz.prog 162 [.sc (.string s)] (.sc (.bool false)) := by
  refine PureCall.of_vc hT [] [] follows Tryz.call162 Tryz.func162 rfl (by kernel_rfl) (by simp [AV.pure, AV.pureL]) (by simp [AV.pure]) ?_
  unfold Tryz.f162
  simp
theorem cmpI_c (a b : Int) : PureCall T Tryz.prog 144 [.sc (.int .i64 a), .sc (.int .i64 b)] (.sc (.int .i64 (threeI a b))) := by
  refine PureCall.of_vc hT [] [] follows Tryz.call144 Tryz.func144 rfl (by kernel_rfl) (by simp [AV.pure, AV.pureL]) (by simp [AV.pure]) ?_
  unfold Tryz.f144
  simp
  refine vcCall_at (nanI_c a) ?_
  simp
  refine vcCall_at (nanI_c b) ?_
  simp [threeI]
  refine ⟨fun h => by intro h2; omega, fun h => ⟨fun h2 => ?_, fun h2 => ?_⟩⟩
  · rw [if_neg (by omega), if_pos h2]
  · rw [if_neg (by omega), if_neg (by omega)]
theorem cmpS_c (a b : ByteArray) : PureCall T Tryz.prog 145 [.sc (.string a), .sc (.string b)] (.sc (.int .i64 (nameC a b))) := by
  refine PureCall.of_vc hT [] [] follows Tryz.call145 Tryz.func145 rfl (by kernel_rfl) (by simp [AV.pure, AV.pureL]) (by simp [AV.pure]) ?_
  unfold Tryz.f145
  simp
  refine vcCall_at (nanS_c a) ?_
  simp
  refine vcCall_at (nanS_c b) ?_
  simp [nameC]
  refine ⟨fun h => by simp [h], fun h => ⟨fun h2 => ?_, fun h2 => ?_⟩⟩
  · simp [h, h2]
  · simp [h2 h, strLt_irr]
theorem threeR_c (a b : Int) : PureCall T Tryz.prog 124 [.sc (.int .i64 a), .sc (.int .i64 b)] (.sc (.int .i64 (threeI a b))) := by
  refine PureCall.of_vc hT [] [] follows Tryz.call124 Tryz.func124 rfl (by kernel_rfl) (by simp [AV.pure, AV.pureL]) (by simp [AV.pure]) ?_
  unfold Tryz.f124
  simp [threeI]
  refine ⟨fun h => by intro h2; omega, fun h => ⟨fun h2 => ?_, fun h2 => ?_⟩⟩
  · rw [if_neg (by omega), if_pos h2]
  · rw [if_neg (by omega), if_neg (by omega)]
theorem namesR_c (a b : ByteArray) : PureCall T Tryz.prog 125 [.sc (.string a), .sc (.string b)] (.sc (.int .i64 (nameC a b))) := by
  refine PureCall.of_vc hT [] [] follows Tryz.call125 Tryz.func125 rfl (by kernel_rfl) (by simp [AV.pure, AV.pureL]) (by simp [AV.pure]) ?_
  unfold Tryz.f125
  simp [nameC]
  refine ⟨fun h => by simp [h], fun h => ⟨fun h2 => ?_, fun h2 => ?_⟩⟩
  · simp [h, h2]
  · simp [h2 h, strLt_irr]
def orL : List Int → Int
  | [] => 0
  | x :: xs => if x ≠ 0 then x else orL xs
theorem or_c (l : List Int) : PureCall T Tryz.prog 143 [.lst 3 (intsL l)] (.sc (.int .i64 (orL l))) := by
  generalize hr : orL l = r
  refine PureCall.of_vc hT [] [] follows Tryz.call143 Tryz.func143 rfl (by kernel_rfl) (by simp [AV.pure, AV.pureL]) (by simp [AV.pure]) ?_
  unfold Tryz.f143
  simp
  intro _ _
  refine vcC_loop [] (fun m σ st => ∃ i : Nat, m = l.length - i ∧ i ≤ l.length ∧ orL (l.drop i) = r ∧ σ 3 = .sc (.int .i64 0) ∧ σ 6 = .lst 3 (intsL l) ∧ σ 7 = .sc (.int .i64 l.length) ∧ σ 8 = .sc (.int .i64 i) ∧ st = []) l.length ⟨0, by simp [hr]⟩ ?_
  rintro m σ st ⟨i, rfl, hi, hor, s3, s6, s7, s8, rfl⟩
  rcases Nat.lt_or_ge i l.length with hlt | hge
  · have e : l.drop i = l[i] :: l.drop (i + 1) := List.drop_eq_getElem_cons hlt
    rw [e] at hor
    simp [s3, s6, s7, s8, hlt]
    unfold orL at hor
    refine ⟨fun h => ?_, fun h => ?_⟩
    · rw [← hor, if_pos h]
    · refine ⟨by unfold i64ok; omega, l.length - (i + 1), by omega, i + 1, rfl, by omega, ?_, by omega⟩
      rw [← hor, if_neg (by simp [h])]
  · simp [s3, s6, s7, s8, Nat.not_lt.2 hge]
    rw [List.drop_of_length_le hge] at hor
    exact hor
theorem ord_or {k n : Int} {s : ByteArray} {l : List Tm} {k' n' : Int} {s' : ByteArray} {l' : List Tm} (ra : partB k n s l.length = true) (rb : partB k' n' s' l'.length = true) (hv : ¬ (k = 1 ∧ k' = 1)) :
    ordT (.mk k n s l) (.mk k' n' s' l') = if orL [threeI k k', threeI n n', threeI l.length l'.length, nameC s s'] ≠ 0 then (orL [threeI k k', threeI n n', threeI l.length l'.length, nameC s s'], true) else ordL l l' := by
  by_cases hk : k = k'
  case neg =>
    have : threeI k k' ≠ 0 := fun h => hk (threeI_zero.1 h)
    rw [ordT_diff hk]
    simp [orL, this]
  subst hk
  have hk1 : k ≠ 1 := fun e => hv ⟨e, e⟩
  have e0 : threeI k k = 0 := threeI_zero.2 rfl
  rw [ordT_same hk1]
  by_cases h2 : k = 2
  · subst h2
    simp [partB] at ra rb
    obtain ⟨⟨_, rfl⟩, rfl⟩ := ra
    obtain ⟨⟨_, rfl⟩, rfl⟩ := rb
    have e1 : threeI 0 0 = 0 := by decide
    have e2 : nameC ⟨#[]⟩ ⟨#[]⟩ = 0 := nameC_zero.2 rfl
    by_cases h3 : threeI n n' = 0
    · simp [orL, e0, e1, e2, h3, ordL]
    · simp [orL, e0, e1, e2, h3]
  · have hn : ∀ {n : Int} {s : ByteArray} {len : Nat}, partB k n s len = true → n = 0 := by
      intro n s len h
      unfold partB at h
      rw [if_neg hk1, if_neg h2] at h
      split at h
      · simp at h; exact h.1.1
      · split at h
        · simp at h; exact h.1.1.1
        · cases h
    have n1 := hn ra
    have n2 := hn rb
    subst n1 n2
    have e1 : threeI 0 0 = 0 := by decide
    simp only [h2, if_false, orL, e0, e1, ne_eq, not_true_eq_false]
    by_cases h3 : threeI l.length l'.length = 0
    · by_cases h4 : nameC s s' = 0
      · simp [h3, h4]
      · simp [h3, h4]
    · simp [h3]
theorem len16 {k n : Int} {s : ByteArray} {len : Nat} (h : partB k n s len = true) : len ≤ 16 := by
  unfold partB at h
  split at h
  · simp at h; omega
  · split at h
    · simp at h; omega
    · split at h
      · simp at h; omega
      · split at h
        · simp at h; omega
        · cases h
set_option maxRecDepth 100000 in
theorem order_c : ∀ (K : Nat) (a b : Tm), a.size = K → a.right = true → b.right = true → PureCall T Tryz.prog 116 [a.av 26, b.av 26] (.tup [.sc (.int .i64 (ordT a b).1), .sc (.bool (ordT a b).2)]) := by
  intro K
  induction K using Nat.strongRecOn with
  | _ K ih =>
  rintro ⟨k, n, s, l⟩ ⟨k', n', s', l'⟩ hK ra rb
  generalize hr : ordT (.mk k n s l) (.mk k' n' s' l') = r
  refine PureCall.of_vc hT [] [] follows Tryz.call116 Tryz.func116 rfl (drawsOk_of3 (by kernel_rfl)) (by simp [AV.pure, AV.pureL]) (by simp [AV.pure, AV.pureL]) ?_
  unfold Tryz.f116
  simp only [Tm.right, Bool.and_eq_true] at ra rb
  by_cases hv : k = 1 ∧ k' = 1
  · obtain ⟨rfl, rfl⟩ := hv
    rw [ordT_vars] at hr
    subst hr
    simp [Tm.cells]
  have hr2 := ord_or ra.1 rb.1 hv
  rw [hr] at hr2
  have hl := len16 ra.1
  have hl' := len16 rb.1
  simp [Tm.cells]
  refine ⟨fun h h' => absurd ⟨h, h'⟩ hv, fun _ => vcCall_at (cmpI_c k k') ?_⟩
  simp
  refine vcCall_at (cmpI_c n n') ?_
  simp
  refine vcCall_at (cmpI_c l.length l'.length) ?_
  simp
  refine vcCall_at (cmpS_c s s') ?_
  simp
  refine ⟨rfl, vcCall_at (or_c [threeI k k', threeI n n', threeI l.length l'.length, nameC s s']) ?_⟩
  have hlen : orL [threeI k k', threeI n n', threeI l.length l'.length, nameC s s'] = 0 → l.length = l'.length := by
    intro h
    simp only [orL] at h
    split at h
    · contradiction
    split at h
    · contradiction
    split at h
    · contradiction
    rename_i h3
    have := threeI_zero.1 (Classical.not_not.1 h3)
    omega
  generalize orL [threeI k k', threeI n n', threeI l.length l'.length, nameC s s'] = q at hr2 hlen ⊢
  simp
  refine ⟨fun hq => ?_, fun hq => ?_⟩
  · rw [hr2, if_pos hq]; simp
  · subst hq
    rw [if_neg (by simp)] at hr2
    have hlen := hlen rfl
    intro _ _
    refine vcC_loop [] (fun m σ st => ∃ i : Nat, m = l.length - i ∧ i ≤ l.length ∧ ordL (l.drop i) (l'.drop i) = r ∧ σ 2 = .eptr [.sc (.int .i64 k), .sc (.int .i64 n), .sc (.string s), .lst 26 (Tm.cellsL 26 l)] ∧
      σ 3 = .eptr [.sc (.int .i64 k'), .sc (.int .i64 n'), .sc (.string s'), .lst 26 (Tm.cellsL 26 l')] ∧ σ 52 = .sc (.int .i64 l.length) ∧ σ 53 = .sc (.int .i64 i) ∧ st = []) l.length ?_ ?_
    · simp
      exact ⟨0, by simp [hr2]⟩
    rintro m σ st ⟨i, rfl, hi, hor, s2, s3, s52, s53, rfl⟩
    rcases Nat.lt_or_ge i l.length with hlt | hge
    · have hlt' : i < l'.length := hlen ▸ hlt
      have e : l.drop i = l[i] :: l.drop (i + 1) := List.drop_eq_getElem_cons hlt
      have e' : l'.drop i = l'[i] :: l'.drop (i + 1) := List.drop_eq_getElem_cons hlt'
      rw [e, e'] at hor
      have hcall := ih l[i].size (by rw [← hK]; have := size_le_mem (List.getElem_mem hlt); simp only [Tm.size]; omega) l[i] l'[i] rfl (rightL_mem ra.2 _ (List.getElem_mem hlt)) (rightL_mem rb.2 _ (List.getElem_mem hlt'))
      simp [s2, s3, s52, s53, hlt, hlt']
      refine vcCall_at hcall ?_
      simp only [ordL] at hor
      cases hb : (ordT l[i] l'[i]).2 with
      | false =>
        rw [if_pos (.inl hb)] at hor
        simp [s2, s3, s52, s53, hb]
        rw [← hor]; exact ⟨rfl, hb⟩
      | true =>
        simp [s2, s3, s52, s53, hb]
        refine ⟨fun hz => ?_, fun hz => ?_⟩
        · rw [if_pos (.inr hz)] at hor
          rw [← hor]; exact ⟨rfl, hb⟩
        · rw [if_neg (by simp [hb, hz])] at hor
          exact ⟨by unfold i64ok; omega, l.length - (i + 1), by omega, i + 1, rfl, by omega, hor, by omega⟩
    · simp [s2, s3, s52, s53, Nat.not_lt.2 hge]
      rw [List.drop_of_length_le hge] at hor
      simp only [ordL] at hor
      rw [← hor]; simp
end Go.T1
end

section
open Go Go.Ab Go.Proofs
namespace Go.T1
set_option maxRecDepth 100000 in
theorem rOrder_c : ∀ (K : Nat) (a b : Tm), a.size = K → PureCall T Tryz.prog 95 [a.av 26, b.av 26] (.tup [.sc (.int .i64 (ordT a b).1), .sc (.bool (ordT a b).2)]) := by
  intro K
  induction K using Nat.strongRecOn with
  | _ K ih =>
  rintro ⟨k, n, s, l⟩ ⟨k', n', s', l'⟩ hK
  generalize hr : ordT (.mk k n s l) (.mk k' n' s' l') = r
  refine PureCall.of_vc hT [] [] follows Tryz.call95 Tryz.func95 rfl (drawsOk_of3 (by kernel_rfl)) (by simp [AV.pure, AV.pureL]) (by simp [AV.pure, AV.pureL]) ?_
  unfold Tryz.f95
  by_cases hv : k = 1 ∧ k' = 1
  · obtain ⟨rfl, rfl⟩ := hv
    rw [ordT_vars] at hr
    subst hr
    simp [Tm.cells]
  simp [Tm.cells]
  refine ⟨fun h h' => absurd ⟨h, h'⟩ hv, fun _ => ⟨fun hk => ?_, fun hk => ?_⟩⟩
  · refine vcCall_at (threeR_c k k') ?_
    rw [ordT_diff hk] at hr
    rw [← hr]; simp
  subst hk
  have hk1 : k ≠ 1 := fun e => hv ⟨e, e⟩
  rw [ordT_same hk1] at hr
  refine ⟨fun h2 => ?_, fun h2 => ?_⟩
  · refine vcCall_at (threeR_c n n') ?_
    rw [if_pos h2] at hr
    rw [← hr]; simp
  rw [if_neg h2] at hr
  intro hb1 hb2 hb3 hb4
  refine vcCall_at (threeR_c l.length l'.length) ?_
  simp
  refine ⟨fun h3 => ?_, fun h3 => ?_⟩
  · rw [if_pos h3] at hr; rw [← hr]; simp
  rw [if_neg (by simpa using h3)] at hr
  have hlen : l.length = l'.length := by have := threeI_zero.1 h3; omega
  refine vcCall_at (namesR_c s s') ?_
  simp
  refine ⟨fun h4 => ?_, fun h4 => ?_⟩
  · rw [if_pos h4] at hr; rw [← hr]; simp
  rw [if_neg (by simpa using h4)] at hr
  refine vcC_loop [] (fun m σ st => ∃ i : Nat, m = l.length - i ∧ i ≤ l.length ∧ ordL (l.drop i) (l'.drop i) = r ∧ σ 2 = .eptr [.sc (.int .i64 k), .sc (.int .i64 n), .sc (.string s), .lst 26 (Tm.cellsL 26 l)] ∧
    σ 3 = .eptr [.sc (.int .i64 k), .sc (.int .i64 n'), .sc (.string s'), .lst 26 (Tm.cellsL 26 l')] ∧ σ 8 = .sc (.int .i64 i) ∧ st = []) l.length ?_ ?_
  · simp
    exact ⟨0, by simp [hr]⟩
  rintro m σ st ⟨i, rfl, hi, hor, s2, s3, s8, rfl⟩
  rcases Nat.lt_or_ge i l.length with hlt | hge
  · have hlt' : i < l'.length := hlen ▸ hlt
    have e : l.drop i = l[i] :: l.drop (i + 1) := List.drop_eq_getElem_cons hlt
    have e' : l'.drop i = l'[i] :: l'.drop (i + 1) := List.drop_eq_getElem_cons hlt'
    rw [e, e'] at hor
    have hcall := ih l[i].size (by rw [← hK]; have := size_le_mem (List.getElem_mem hlt); simp only [Tm.size]; omega) l[i] l'[i] rfl
    simp [s2, s3, s8, hlt, hlt']
    intro _ _
    refine vcCall_at hcall ?_
    simp only [ordL] at hor
    cases hb : (ordT l[i] l'[i]).2 with
    | false =>
      rw [if_pos (.inl hb)] at hor
      simp [s2, s3, s8, hb]
      rw [← hor]; exact ⟨rfl, hb⟩
    | true =>
      simp [s2, s3, s8, hb]
      refine ⟨fun hz => ?_, fun hz => ?_⟩
      · rw [if_pos (.inr hz)] at hor
        rw [← hor]; exact ⟨rfl, hb⟩
      · rw [if_neg (by simp [hb, hz])] at hor
        exact ⟨by unfold i64ok; omega, l.length - (i + 1), by omega, i + 1, rfl, by omega, hor, by omega⟩
  · simp [s2, s3, s8, Nat.not_lt.2 hge]
    rw [List.drop_of_length_le hge] at hor
    simp only [ordL] at hor
    rw [← hor]; simp
def cmpR (a b : Tm) : Int × Int := if a.check ≠ 0 then (0, a.check) else if b.check ≠ 0 then (0, b.check) else if (ordT a b).2 = false then (0, 70) else ((ordT a b).1, 0)
def pairV (p : Int × Int) : AV := .tup [.sc (.int .i64 p.1), .sc (.int .i64 p.2)]
set_option maxRecDepth 100000 in
theorem ordCompare_c (a b : Tm) (sa : a.small) (sb : b.small) : PureCall T Tryz.prog 81 [a.av 26, b.av 26] (pairV (cmpR a b)) := by
  refine PureCall.of_vc hT [] [] follows Tryz.call81 Tryz.func81 rfl (by kernel_rfl) (by simp [AV.pure, AV.pureL]) (by simp [pairV, AV.pure, AV.pureL]) ?_
  unfold Tryz.f81
  simp
  refine ⟨rfl, ?_⟩
  refine vcC_loop [] (fun w σ Y => ∃ i : Nat, w = 2 - i ∧ i ≤ 2 ∧ (1 ≤ i → a.check = 0) ∧ (2 ≤ i → b.check = 0) ∧ Y = [] ∧ σ 2 = .eptr (a.cells 26) ∧ σ 3 = .eptr (b.cells 26) ∧ σ 13 = .lst 26 [a.cells 26, b.cells 26] ∧ σ 14 = .sc (.int .i64 2) ∧ σ 15 = .sc (.int .i64 i)) 2 ?_ ?_
  · simp
    exact ⟨0, by simp⟩
  rintro w σ Y ⟨i, rfl, hi, hca, hcb, rfl, s2, s3, s13, s14, s15⟩
  rcases Nat.lt_or_ge i 2 with hlt | hge
  · have hi2 : i = 0 ∨ i = 1 := by omega
    rcases hi2 with rfl | rfl
    · simp [s2, s3, s13, s14, s15]
      refine vcCall_at (check_c a sa) ?_
      simp [s2, s3, s13, s14, s15]
      refine ⟨fun hc => by simp [pairV, cmpR, hc], fun hc => ⟨by unfold i64ok; omega, 1, by omega, 1, by simp [hc]⟩⟩
    · have ha := hca (by omega)
      simp [s2, s3, s13, s14, s15]
      refine vcCall_at (check_c b sb) ?_
      simp [s2, s3, s13, s14, s15]
      refine ⟨fun hc => by simp [pairV, cmpR, hc, ha], fun hc => ⟨by unfold i64ok; omega, 2, by simp [hc, ha]⟩⟩
  · have hi2 : i = 2 := by omega
    subst hi2
    have ha := hca (by omega)
    have hb := hcb (by omega)
    simp [s2, s3, s13, s14, s15]
    refine vcCall_at (order_c _ a b rfl (Tm.right_of_check ha) (Tm.right_of_check hb)) ?_
    simp
    refine ⟨fun h => by simp [pairV, cmpR, h, ha, hb], fun h => by simp [pairV, cmpR, h, ha, hb]⟩
end Go.T1
end

section
open Go Go.Ab Go.Proofs
namespace Go.T1
theorem take_ne2 {a b : List Tm} {i : Nat} (h1 : i < a.length) (h2 : i < b.length) (h : a[i] ≠ b[i]) : a ≠ b := by
  rintro rfl; exact h rfl

set_option maxRecDepth 100000 in
theorem refSame_c (a b : List Tm) : PureCall T Tryz.prog 35 [.lst 26 (Tm.cellsL 26 a), .lst 26 (Tm.cellsL 26 b)] (.sc (.bool (decide (a = b)))) := by
  refine PureCall.of_vc hT [] [] follows Tryz.call35 Tryz.func35 rfl (by kernel_rfl) (by simp [AV.pure, AV.pureL]) (by simp [AV.pure]) ?_
  unfold Tryz.f35
  simp
  refine fun _ _ _ _ => ⟨fun h => ?_, fun h => ?_⟩
  · intro e; subst e; exact h rfl
  have hab : a.length = b.length := by omega
  refine vcC_loop [] (fun m σ st => ∃ i : Nat, m = a.length - i ∧ i ≤ a.length ∧ a.take i = b.take i ∧ σ 0 = .lst 26 (Tm.cellsL 26 a) ∧ σ 1 = .lst 26 (Tm.cellsL 26 b) ∧ σ 5 = .sc (.int .i64 i) ∧ st = []) a.length ⟨0, by simp⟩ ?_
  rintro m σ st ⟨i, rfl, hi, htk, s0, s1, s5, rfl⟩
  rcases Nat.lt_or_ge i a.length with hlt | hge
  · have hlt2 : i < b.length := by omega
    simp [s0, s1, s5, hlt, hlt2]
    refine fun _ _ => vcCall_at (exact_c a[i] b[i]) ?_
    simp [s0, s1, s5]
    refine ⟨fun he => take_ne2 hlt hlt2 he, fun he => ⟨by unfold i64ok; omega, a.length - (i + 1), by omega, i + 1, rfl, by omega, ?_, by omega⟩⟩
    rw [Tm.take_succ hlt, Tm.take_succ hlt2, htk, he]
  · have hi : i = a.length := by omega
    subst hi
    simp [s0, s1, s5]
    rw [List.take_length, hab, List.take_length] at htk
    intro _ _
    exact htk

def largeL (l : List Tm) : Bool := (List.range (min l.length 400)).any (fun i => (l.getD i Tm.zero).large || decide (20000 < Tm.sizeL (l.take (i + 1)))) || decide (300 < l.length)
theorem sizeL_take {l : List Tm} {i : Nat} (h : i < l.length) : Tm.sizeL (l.take (i + 1)) = Tm.sizeL (l.take i) + l[i].size := by
  rw [List.take_add_one, List.getElem?_eq_getElem h, Tm.sizeL_append]; simp [Tm.sizeL]
theorem largeL_false {l : List Tm} (h : largeL l = false) : (∀ x ∈ l, x.large = false) ∧ l.length ≤ 300 ∧ Tm.sizeL l ≤ 20000 := by
  unfold largeL at h
  simp only [Bool.or_eq_false_iff, decide_eq_false_iff_not, List.any_eq_false, List.mem_range, Bool.or_eq_true, decide_eq_true_eq, not_or, Bool.not_eq_true] at h
  obtain ⟨h1, h2⟩ := h
  refine ⟨fun x hx => ?_, by omega, ?_⟩
  · obtain ⟨i, hi, rfl⟩ := List.mem_iff_getElem.1 hx
    have := (h1 i (by omega)).1
    simpa [hi] using this
  · rcases Nat.eq_zero_or_pos l.length with h0 | h0
    · have : l = [] := List.eq_nil_of_length_eq_zero h0
      subst this; simp [Tm.sizeL]
    · have := (h1 (l.length - 1) (by omega)).2
      rw [show l.length - 1 + 1 = l.length by omega, List.take_length] at this
      omega
def lInv (l : List Tm) (i : Nat) : Prop := ∀ j, j < i → (l.getD j Tm.zero).large = false ∧ Tm.sizeL (l.take (j + 1)) ≤ 20000
theorem lInv_size {l : List Tm} {i : Nat} (h : lInv l i) (hi : i ≤ l.length) : Tm.sizeL (l.take i) ≤ 20000 := by
  cases i with
  | zero => simp [Tm.sizeL]
  | succ i => exact (h i (by omega)).2
theorem large_yes {l : List Tm} {i : Nat} (hi : i < l.length) (h4 : i < 400) (h : (l.getD i Tm.zero).large = true ∨ 20000 < Tm.sizeL (l.take (i + 1))) : largeL l = true := by
  unfold largeL
  simp only [Bool.or_eq_true, List.any_eq_true, List.mem_range, decide_eq_true_eq]
  exact .inl ⟨i, by omega, h⟩
theorem large_end {l : List Tm} {i : Nat} (h : lInv l i) (hi : i = min l.length 400) : largeL l = decide (300 < l.length) := by
  unfold largeL
  have : ((List.range (min l.length 400)).any fun i => (l.getD i Tm.zero).large || decide (20000 < Tm.sizeL (l.take (i + 1)))) = false := by
    simp only [List.any_eq_false, List.mem_range, Bool.or_eq_true, decide_eq_true_eq, not_or, Bool.not_eq_true]
    intro j hj
    have := h j (by omega)
    exact ⟨this.1, by omega⟩
  rw [this]; simp
set_option maxRecDepth 100000 in
theorem LargeL_c (l : List Tm) (hn : Tm.niceL l) : PureCall T Tryz.prog 27 [.lst 26 (Tm.cellsL 26 l)] (.sc (.bool (largeL l))) := by
  generalize hr : largeL l = r
  refine PureCall.of_vc hT [] [] follows Tryz.call27 Tryz.func27 rfl (drawsOk_of3 (by kernel_rfl)) (by simp [AV.pure, AV.pureL]) (by simp [AV.pure]) ?_
  unfold Tryz.f27
  simp
  refine vcC_loop [] (fun m σ st => ∃ i : Nat, m = l.length - i ∧ i ≤ l.length ∧ i ≤ 400 ∧ lInv l i ∧ σ 0 = .lst 26 (Tm.cellsL 26 l) ∧ σ 3 = .sc (.int .i64 (Tm.sizeL (l.take i))) ∧ σ 4 = .sc (.int .i64 i) ∧ st = []) l.length ⟨0, by simp, by simp, by simp, (fun j hj => by omega), by simp [Tm.sizeL]⟩ ?_
  rintro m σ st ⟨i, rfl, hi, h400, hinv, s0, s3, s4, rfl⟩
  have hsz := lInv_size hinv hi
  by_cases hlt : i < l.length
  · by_cases h4 : (i : Int) < 400
    · have nw := Tm.niceL_mem hn _ (List.getElem_mem hlt)
      have eg : l.getD i Tm.zero = l[i] := by simp [hlt]
      simp [s0, s3, s4, hlt, h4]
      intros
      refine vcCall_at (Large_c l[i] nw) ?_
      simp [s0, s3, s4, hlt]
      refine ⟨fun hb => ?_, fun hb => ?_⟩
      · rw [← hr, large_yes hlt (by omega) (.inl (by rw [eg]; exact hb))]
      · have zb := Tm.large_size hb
        refine vcCall_at (rSize_c l[i] (Tm.large_small hb)) ?_
        simp [s0, s3, s4, hlt]
        refine ⟨by unfold i64ok; omega, fun hb2 => ?_, fun hb2 => ⟨by unfold i64ok; omega, l.length - (i + 1), by omega, i + 1, rfl, by omega, by omega, ?_, ?_, by omega⟩⟩
        · rw [← hr, large_yes hlt (by omega) (.inr (by rw [sizeL_take hlt]; omega))]
        · intro j hj
          rcases Nat.lt_or_ge j i with h | h
          · exact hinv j h
          · obtain rfl : j = i := by omega
            exact ⟨by rw [eg]; exact hb, by rw [sizeL_take hlt]; omega⟩
        · rw [sizeL_take hlt]; omega
    · simp [s0, s3, s4, hlt, h4]
      intros
      rw [← hr, large_end hinv (by omega)]
      apply decide_eq_decide.2; omega
  · simp [s0, s3, s4, hlt]
    intros
    rw [← hr, large_end hinv (by omega)]
    apply decide_eq_decide.2; omega
end Go.T1
end

section
open Go Go.Ab Go.Proofs
namespace Go.T1
@[simp] theorem ty144 : T 144 = some ⟨6, 72, .strct, [(0,1),(1,4),(5,1)], some (.agg #[.int .i64 0, .int .i64 0, .int .i64 0, .string .empty, .slice none 0 0, .bool false])⟩ := by kernel_rfl
/-- A result's cells. -/
def resC (r : Res) : List AV := .sc (.int .i64 r.n) :: (r.ball.cells 26 ++ [.sc (.bool r.bad)])
@[simp] theorem resC_len (r : Res) : (resC r).length = 6 := by simp [resC]
@[simp] theorem resC_pure (r : Res) : AV.pureL (resC r) = true := by
  unfold resC
  cases r.ball
  simp [Tm.cells, AV.pureL, AV.pure]
@[simp] theorem resC_take (r : Res) : (resC r).take 6 = resC r := by rw [List.take_of_length_le (by simp)]
@[simp] theorem resC_drop (r : Res) : (resC r).drop 6 = [] := by rw [List.drop_eq_nil_of_le (by simp)]
@[simp] theorem resC_frz (S : St) (r : Res) : AV.frzL S (resC r) = resC r := frz_pureL S _ (by simp)
@[simp] theorem resC_cut (N : Nat) (S : St) (r : Res) : AV.cutL N S (resC r) = resC r := cut_pureL N S _ (by simp)
theorem abs_c (n : Int) (hn : -9007199254740991 ≤ n) (hn2 : n ≤ 9007199254740991) : PureCall T Tryz.prog 172 [.sc (.int .i64 n)] (.sc (.int .i64 (absI n))) := by
  refine PureCall.of_vc hT [] [] follows Tryz.call172 Tryz.func172 rfl (by kernel_rfl) (by simp [AV.pure, AV.pureL]) (by simp [AV.pure]) ?_
  unfold Tryz.f172
  simp [absI]
  unfold i64ok; omega
theorem sign_c (n : Int) : PureCall T Tryz.prog 142 [.sc (.int .i64 n)] (.sc (.int .i64 (signI n))) := by
  refine PureCall.of_vc hT [] [] follows Tryz.call142 Tryz.func142 rfl (by kernel_rfl) (by simp [AV.pure, AV.pureL]) (by simp [AV.pure]) ?_
  unfold Tryz.f142
  simp [signI]
  refine ⟨fun h1 h2 => by omega, fun h => ⟨fun h1 => ?_, fun h1 => ?_⟩⟩
  · rw [if_neg (by omega), if_pos h1]
  · rw [if_neg (by omega), if_neg (by omega)]
theorem fail_c (t : Tm) : PureCall T Tryz.prog 157 [t.av 26] (.agg (resC (failR t))) := by
  refine PureCall.of_vc hT [] [] follows Tryz.call157 Tryz.func157 rfl (by kernel_rfl) (by simp [AV.pure, AV.pureL]) (by simp [AV.pure]) ?_
  unfold Tryz.f157
  obtain ⟨k, n, s, l⟩ := t
  simp [resC, failR, Tm.cells]
theorem error1_c (t : Tm) : PureCall T Tryz.prog 49 [.lst 26 [t.cells 26]] ((errT t).av 26) := by
  refine PureCall.of_vc hT [] [] follows Tryz.call49 Tryz.func49 rfl (by kernel_rfl) (by simp [AV.pure, AV.pureL, AV.pureM]) (by simp [AV.pure]) ?_
  unfold Tryz.f49
  simp
  refine vcCall_at (Comp_c _ [t]) ?_
  simp [compT, errT]
theorem error0_c : PureCall T Tryz.prog 49 [.lst 26 []] (instT.av 26) := by
  refine PureCall.of_vc hT [] [] follows Tryz.call49 Tryz.func49 rfl (by kernel_rfl) (by simp [AV.pure, AV.pureL, AV.pureM]) (by simp [AV.pure]) ?_
  unfold Tryz.f49
  simp
  refine vcCall_at (Atom_c _) ?_
  simp
  refine vcCall_at (Comp_c _ [Tm.mk 3 0 ⟨#[105, 110, 115, 116]⟩ []]) ?_
  simp [compT, instT, errT, atomT]
theorem type_c (s : ByteArray) (t : Tm) : PureCall T Tryz.prog 117 [.sc (.string s), t.av 26] ((typeT s t).av 26) := by
  refine PureCall.of_vc hT [] [] follows Tryz.call117 Tryz.func117 rfl (by kernel_rfl) (by simp [AV.pure, AV.pureL, AV.pureM]) (by simp [AV.pure]) ?_
  unfold Tryz.f117
  simp
  refine vcCall_at (Atom_c s) ?_
  simp
  refine ⟨rfl, vcCall_at (Comp_c _ [Tm.mk 3 0 s [], t]) ?_⟩
  simp [compT]
  refine vcCall_at (error1_c _) ?_
  simp [typeT, atomT]
theorem bad_c (s : ByteArray) : PureCall T Tryz.prog 168 [.sc (.string s)] (.agg (resC (failR (evalT s)))) := by
  refine PureCall.of_vc hT [] [] follows Tryz.call168 Tryz.func168 rfl (by kernel_rfl) (by simp [AV.pure, AV.pureL, AV.pureM]) (by simp [AV.pure]) ?_
  unfold Tryz.f168
  simp
  refine vcCall_at (Atom_c s) ?_
  simp
  refine vcCall_at (Comp_c _ [Tm.mk 3 0 s []]) ?_
  simp [compT]
  refine vcCall_at (error1_c _) ?_
  simp
  refine vcCall_at (fail_c _) ?_
  simp [evalT, atomT]
theorem number_c (n : Int) : PureCall T Tryz.prog 156 [.sc (.int .i64 n)] (.agg (resC (numR n))) := by
  refine PureCall.of_vc hT [] [] follows Tryz.call156 Tryz.func156 rfl (by kernel_rfl) (by simp [AV.pure, AV.pureL, AV.pureM]) (by simp [AV.pure]) ?_
  unfold Tryz.f156
  simp
  refine ⟨fun h => ?_, fun h1 h2 => ?_⟩
  · refine vcCall_at (bad_c _) ?_
    simp [numR, h, overT]
  · unfold numR
    rw [if_neg (by omega)]
    simp [resC, Tm.zero, Tm.cells]
    rfl
end Go.T1
end

section
open Go Go.Ab Go.Proofs
namespace Go.T1
theorem times_c (a b : Int) (ha : -9007199254740991 ≤ a) (ha2 : a ≤ 9007199254740991) (hb : -9007199254740991 ≤ b) (hb2 : b ≤ 9007199254740991) : PureCall T Tryz.prog 173 [.sc (.int .i64 a), .sc (.int .i64 b)] (.agg (resC (timesR a b))) := by
  refine PureCall.of_vc hT [] [] follows Tryz.call173 Tryz.func173 rfl (by kernel_rfl) (by simp [AV.pure, AV.pureL]) (by simp [AV.pure]) ?_
  unfold Tryz.f173
  simp
  refine vcCall_at (abs_c b hb hb2) ?_
  simp
  refine vcCall_at (abs_c a ha ha2) ?_
  simp
  have hq := tdiv_abs 9007199254740991 (absI a)
  refine ⟨fun h0 => ⟨h0, by rw [absI_eq]; omega, by unfold i64ok; omega⟩, fun h0 h => ?_, fun h => ?_⟩
  · refine vcCall_at (bad_c _) ?_
    have e : timesR a b = failR overT := by unfold timesR; rw [if_pos ⟨h0, h⟩]
    simp [e, overT]
  · have e : timesR a b = numR (a * b) := by unfold timesR; rw [if_neg (fun q => by have := h q.1; omega)]
    have hm : (a * b).natAbs ≤ 9007199254740991 := by
      by_cases h0 : a = 0
      · subst h0; simp
      · exact mul_fits h0 (h h0)
    refine ⟨by unfold i64ok; omega, vcCall_at (number_c _) ?_⟩
    simp [e]
theorem modulo_c (a b : Int) (hb0 : b ≠ 0) (hb : -9007199254740991 ≤ b) (hb2 : b ≤ 9007199254740991) : PureCall T Tryz.prog 175 [.sc (.int .i64 a), .sc (.int .i64 b)] (.sc (.int .i64 (moduloI a b))) := by
  refine PureCall.of_vc hT [] [] follows Tryz.call175 Tryz.func175 rfl (by kernel_rfl) (by simp [AV.pure, AV.pureL]) (by simp [AV.pure]) ?_
  unfold Tryz.f175
  simp
  have hm := tmod_abs a b hb0
  refine ⟨hb0, fun h1 h2 => ⟨by unfold i64ok; omega, ?_⟩, fun h => ?_⟩
  · unfold moduloI; rw [if_pos ⟨h1, h2⟩]
  · unfold moduloI; rw [if_neg (fun q => q.2 (h q.1))]
theorem divide_c (op : ByteArray) (a b : Int) (ha : -9007199254740991 ≤ a) (ha2 : a ≤ 9007199254740991) (hb : -9007199254740991 ≤ b) (hb2 : b ≤ 9007199254740991) : PureCall T Tryz.prog 174 [.sc (.string op), .sc (.int .i64 a), .sc (.int .i64 b)] (.agg (resC (divideR op a b))) := by
  refine PureCall.of_vc hT [] [] follows Tryz.call174 Tryz.func174 rfl (by kernel_rfl) (by simp [AV.pure, AV.pureL]) (by simp [AV.pure]) ?_
  unfold Tryz.f174
  simp
  refine ⟨fun h => ?_, fun h => ⟨fun h1 => ?_, fun h1 => ⟨fun h2 => ?_, fun h2 => ?_⟩⟩⟩
  · refine vcCall_at (bad_c _) ?_
    simp [divideR, h, noughtT]
  · have := tdiv_abs a b
    refine ⟨⟨h, by unfold i64ok; omega⟩, vcCall_at (number_c _) ?_⟩
    simp [divideR, h, h1]
  · refine ⟨h, vcCall_at (number_c _) ?_⟩
    simp [divideR, h, h2]
  · refine vcCall_at (modulo_c a b h hb hb2) ?_
    simp
    refine vcCall_at (number_c _) ?_
    simp [divideR, h, h1, h2]
theorem two_c (op : ByteArray) (a b : Int) (ha : -9007199254740991 ≤ a) (ha2 : a ≤ 9007199254740991) (hb : -9007199254740991 ≤ b) (hb2 : b ≤ 9007199254740991) : PureCall T Tryz.prog 170 [.sc (.string op), .sc (.int .i64 a), .sc (.int .i64 b)] (.agg (resC (twoR op a b))) := by
  refine PureCall.of_vc hT [] [] follows Tryz.call170 Tryz.func170 rfl (by kernel_rfl) (by simp [AV.pure, AV.pureL]) (by simp [AV.pure]) ?_
  unfold Tryz.f170
  simp
  refine ⟨fun h1 => ?_, fun h1 => ⟨fun h2 => ?_, fun h2 => ⟨fun h3 => ?_, fun h3 => ⟨fun h4 => ?_, fun h4 => ⟨fun h5 => ?_, fun h5 => ?_⟩⟩⟩⟩⟩
  · refine ⟨by unfold i64ok; omega, vcCall_at (number_c _) ?_⟩
    simp [twoR, h1]
  · refine ⟨by unfold i64ok; omega, vcCall_at (number_c _) ?_⟩
    simp [twoR, h2]
  · refine vcCall_at (times_c a b ha ha2 hb hb2) ?_
    simp [twoR, h3]
  · refine vcCall_at (number_c _) ?_
    simp [twoR, h4]
  · refine vcCall_at (number_c _) ?_
    simp [twoR, h5]
  · refine vcCall_at (divide_c op a b ha ha2 hb hb2) ?_
    simp [twoR, h1, h2, h3, h4, h5]
theorem one_c (op : ByteArray) (a : Int) (ha : -9007199254740991 ≤ a) (ha2 : a ≤ 9007199254740991) : PureCall T Tryz.prog 169 [.sc (.string op), .sc (.int .i64 a)] (.agg (resC (oneR op a))) := by
  refine PureCall.of_vc hT [] [] follows Tryz.call169 Tryz.func169 rfl (by kernel_rfl) (by simp [AV.pure, AV.pureL]) (by simp [AV.pure]) ?_
  unfold Tryz.f169
  simp
  refine ⟨fun h1 => ?_, fun h1 => ⟨fun h2 => ?_, fun h2 => ?_⟩⟩
  · refine ⟨by unfold i64ok; omega, vcCall_at (number_c _) ?_⟩
    simp [oneR, h1]
  · refine vcCall_at (abs_c a ha ha2) ?_
    simp
    refine vcCall_at (number_c _) ?_
    simp [oneR, h2]
  · refine vcCall_at (sign_c a) ?_
    simp
    refine vcCall_at (number_c _) ?_
    simp [oneR, h1, h2]
set_option maxRecDepth 100000 in
theorem known_c (s : ByteArray) (n : Int) : PureCall T Tryz.prog 158 [.sc (.string s), .sc (.int .i64 n)] (.sc (.bool (knownB s n))) := by
  refine PureCall.of_vc hT [] [] follows Tryz.call158 Tryz.func158 rfl (by kernel_rfl) (by simp [AV.pure, AV.pureL]) (by simp [AV.pure]) ?_
  unfold Tryz.f158
  simp
  by_cases e0 : s = ⟨#[43]⟩
  · subst e0; simp [knownB]
  by_cases e1 : s = ⟨#[42]⟩
  · subst e1; simp [knownB]
  by_cases e2 : s = ⟨#[47, 47]⟩
  · subst e2; simp [knownB]
  by_cases e3 : s = ⟨#[109, 111, 100]⟩
  · subst e3; simp [knownB]
  by_cases e4 : s = ⟨#[114, 101, 109]⟩
  · subst e4; simp [knownB]
  by_cases e5 : s = ⟨#[109, 105, 110]⟩
  · subst e5; simp [knownB]
  by_cases e6 : s = ⟨#[109, 97, 120]⟩
  · subst e6; simp [knownB]
  by_cases e7 : s = ⟨#[45]⟩
  · subst e7; simp [knownB]
  by_cases e8 : s = ⟨#[97, 98, 115]⟩
  · subst e8; simp [knownB]
  by_cases e9 : s = ⟨#[115, 105, 103, 110]⟩
  · subst e9; simp [knownB]
  simp [knownB, e0, e1, e2, e3, e4, e5, e6, e7, e8, e9]
end Go.T1
end

section
open Go Go.Ab Go.Proofs
namespace Go.T1
theorem ind_c (t : Tm) (ht : t.small) : PureCall T Tryz.prog 159 [t.av 26] ((indT t).av 26) := by
  obtain ⟨k, n, s, l⟩ := t
  refine PureCall.of_vc hT [] [] follows Tryz.call159 Tryz.func159 rfl (by kernel_rfl) (by simp [AV.pure, AV.pureL]) (by simp [AV.pure]) ?_
  unfold Tryz.f159
  simp [Tm.cells]
  refine vcCall_at (check_c _ ht) ?_
  simp
  refine ⟨fun h => ?_, fun hc hk => ?_⟩
  · have e : indT (.mk k n s l) = Tm.zero := by
      show (if (Tm.mk k n s l).check = 0 ∧ 3 ≤ k then Tm.mk 4 0 ⟨#[47]⟩ [atomT s, intT l.length] else Tm.zero) = _
      rw [if_neg (fun q => by rcases h with h | h; exact h q.1; omega)]
    rw [e]
    simp [Tm.zero, Tm.cells]
    rfl
  · have e : indT (.mk k n s l) = .mk 4 0 ⟨#[47]⟩ [atomT s, intT l.length] := by
      show (if (Tm.mk k n s l).check = 0 ∧ 3 ≤ k then Tm.mk 4 0 ⟨#[47]⟩ [atomT s, intT l.length] else Tm.zero) = _
      rw [if_pos ⟨hc, hk⟩]
    rw [e]
    refine vcCall_at (Atom_c s) ?_
    simp
    refine vcCall_at (Int_c _) ?_
    simp
    refine ⟨rfl, vcCall_at (Comp_c _ [Tm.mk 3 0 s [], Tm.mk 2 l.length ⟨#[]⟩ []]) ?_⟩
    simp [compT, atomT, intT]

@[simp] theorem resC_zero (r : Res) : (resC r)[0]? = some (.sc (.int .i64 r.n)) := rfl
@[simp] theorem resC_zero' (r : Res) (h : 0 < (resC r).length) : (resC r)[0]'h = .sc (.int .i64 r.n) := rfl
@[simp] theorem resC_head (r : Res) : (resC r).head? = some (.sc (.int .i64 r.n)) := rfl
@[simp] theorem resC_five (r : Res) : (resC r)[5]? = some (.sc (.bool r.bad)) := by
  unfold resC
  obtain ⟨k, n, s, l⟩ := r.ball
  simp [Tm.cells]
@[simp] theorem resC_five' (r : Res) (h : 5 < (resC r).length) : (resC r)[5]'h = .sc (.bool r.bad) := by
  have := resC_five r
  rw [List.getElem?_eq_getElem h] at this
  exact Option.some.inj this
@[simp] theorem resC_ball (r : Res) : (resC r).tail.take 4 = r.ball.cells 26 := by
  unfold resC
  obtain ⟨k, n, s, l⟩ := r.ball
  simp [Tm.cells]
@[simp] theorem resC_ne (r : Res) : ¬ resC r = [] := by simp [resC]
theorem compound_c (k n : Int) (s : ByteArray) (l : List Tm) (ih : ∀ t ∈ l, PureCall T Tryz.prog 140 [t.av 26] (.agg (resC t.reck))) (hk : knownB s l.length = true) :
    PureCall T Tryz.prog 160 [(Tm.mk k n s l).av 26] (.agg (resC (match Tm.reckL l with | [] => failR Tm.zero | [r] => if r.bad = true then r else oneR s r.n | r :: q :: _ => if r.bad = true then r else if q.bad = true then q else twoR s r.n q.n))) := by
  have hlen := knownB_len hk
  rcases hlen with h1 | h1
  · obtain ⟨x, rfl⟩ : ∃ x, l = [x] := List.length_eq_one_iff.1 (by omega)
    refine PureCall.of_vc hT [3] [] follows Tryz.call160 Tryz.func160 rfl (by kernel_rfl) (by simp [AV.pure, AV.pureL]) (by simp [AV.pure]) ?_
    unfold Tryz.f160
    have hr := x.reck_ok
    simp [Tm.cells, Tm.cellsL]
    refine vcCall_at (ih x (by simp)) ?_
    simp [Tm.reckL]
    refine ⟨fun h => ?_, fun h => ?_⟩
    · refine vcCall_at (one_c s x.reck.n (hr.2 h).2.1 (hr.2 h).2.2) ?_
      simp [h]
    · simp [h]
  · obtain ⟨x, y, rfl⟩ := Tm.len2 (by omega : l.length = 2)
    refine PureCall.of_vc hT [3] [] follows Tryz.call160 Tryz.func160 rfl (by kernel_rfl) (by simp [AV.pure, AV.pureL]) (by simp [AV.pure]) ?_
    unfold Tryz.f160
    have hr := x.reck_ok
    have hq := y.reck_ok
    simp [Tm.cells, Tm.cellsL]
    refine vcCall_at (ih x (by simp)) ?_
    simp [Tm.reckL]
    refine ⟨fun h => ?_, fun h => ?_⟩
    · simp [h]
    · refine vcCall_at (ih y (by simp)) ?_
      simp [h]
      refine ⟨fun h2 => ?_, fun h2 => ?_⟩
      · simp [h2]
      · refine vcCall_at (two_c s x.reck.n y.reck.n (hr.2 h).2.1 (hr.2 h).2.2 (hq.2 h2).2.1 (hq.2 h2).2.2) ?_
        simp [h2]
theorem reckon_c : ∀ t : Tm, t.small → PureCall T Tryz.prog 140 [t.av 26] (.agg (resC t.reck)) := by
  intro t
  induction t using Tm.ind with
  | _ k n s l ih =>
  intro ht
  have hsm : ∀ t ∈ l, t.small := fun t htl => by
    obtain ⟨i, hi, rfl⟩ := List.getElem_of_mem htl
    have := Tm.size_mem hi
    unfold Tm.small at ht ⊢
    simp only [Tm.size] at ht
    omega
  refine PureCall.of_vc hT [] [] follows Tryz.call140 Tryz.func140 rfl (by kernel_rfl) (by simp [AV.pure, AV.pureL]) (by simp [AV.pure]) ?_
  unfold Tryz.f140
  simp [Tm.cells]
  refine ⟨fun h => ?_, fun h => ⟨fun h1 => ?_, fun h1 hb hi => ?_⟩⟩
  · subst h
    refine vcCall_at (number_c n) ?_
    simp [Tm.reck]
  · subst h1
    refine vcCall_of error0_c (by simp [leV.leL, leV]) ?_
    simp
    refine vcCall_at (fail_c _) ?_
    simp [Tm.reck]
  · refine vcCall_at (known_c s l.length) ?_
    simp
    refine ⟨fun h2 => ?_, fun h2 => ?_⟩
    · refine vcCall_at (ind_c (.mk k n s l) ht) ?_
      simp
      refine vcCall_at (type_c _ _) ?_
      simp
      refine vcCall_at (fail_c _) ?_
      simp [Tm.reck, h, h1, h2]
    · refine vcCall_at (compound_c k n s l (fun t ht => ih t ht (hsm t ht)) h2) ?_
      simp [Tm.reck, h, h1, h2]
      exact leL_refl _
set_option maxRecDepth 100000 in
theorem Eval_c (t : Tm) (ht : t.small) : PureCall T Tryz.prog 114 [t.av 26] (.tup [.sc (.int .i64 (evalR t).n), (evalR t).ball.av 26, .sc (.bool !(evalR t).bad)]) := by
  refine PureCall.of_vc hT [] [(4, 8)] follows Tryz.call114 Tryz.func114 rfl (by kernel_rfl) (by simp [AV.pure, AV.pureL]) (by simp [AV.pure, AV.pureL]) ?_
  unfold Tryz.f114
  simp
  refine vcCall_at (check_c t ht) ?_
  simp
  refine ⟨fun h => ?_, fun h => ?_⟩
  · refine vcCall_at (Atom_c _) ?_
    simp
    refine vcCall_at (error1_c (Tm.mk 3 0 ⟨#[115, 105, 122, 101]⟩ [])) ?_
    simp [evalR, h, failR, sizeT, atomT]
  · refine vcCall_at (reckon_c t ht) ?_
    simp
    have e : evalR t = t.reck := by unfold evalR; rw [if_pos h]
    refine ⟨fun _ st' => st' = [.cells (t.reck.ball.cells 26)], ?_⟩
    simp (decide := true)
    repeat (refine ⟨(by rintro r st' rfl; simp), ?_⟩; simp (decide := true))
    simp (decide := true) [vcThen, vcI, e]
def cmpI (op : ByteArray) (n : Int) : Bool :=
  if op = ⟨#[61, 58, 61]⟩ then decide (n = 0)
  else if op = ⟨#[61, 92, 61]⟩ then !decide (n = 0)
  else if op = ⟨#[60]⟩ then decide (n < 0)
  else if op = ⟨#[62]⟩ then decide (0 < n)
  else if op = ⟨#[61, 60]⟩ then decide (n ≤ 0)
  else if op = ⟨#[62, 61]⟩ then decide (0 ≤ n)
  else false
def cmpB (op : ByteArray) : Bool := decide (op = ⟨#[61, 58, 61]⟩) || (decide (op = ⟨#[61, 92, 61]⟩) || (decide (op = ⟨#[60]⟩) || (decide (op = ⟨#[62]⟩) || (decide (op = ⟨#[61, 60]⟩) || decide (op = ⟨#[62, 61]⟩)))))
theorem holds_c (op : ByteArray) (n : Int) : PureCall T Tryz.prog 141 [.sc (.string op), .sc (.int .i64 n)] (.tup [.sc (.bool (cmpI op n)), .sc (.bool (cmpB op))]) := by
  refine PureCall.of_vc hT [] [] follows Tryz.call141 Tryz.func141 rfl (by kernel_rfl) (by simp [AV.pure, AV.pureL]) (by simp [AV.pure, AV.pureL]) ?_
  unfold Tryz.f141
  simp
  refine ⟨fun h1 => ?_, fun h1 => ⟨fun h2 => ?_, fun h2 => ⟨fun h3 => ?_, fun h3 => ⟨fun h4 => ?_, fun h4 => ⟨fun h5 => ?_, fun h5 => ⟨fun h6 => ?_, fun h6 => ?_⟩⟩⟩⟩⟩⟩
  · simp [cmpI, cmpB, h1]
  · simp [cmpI, cmpB, h2]
  · simp [cmpI, cmpB, h3]
  · simp [cmpI, cmpB, h4]
  · simp [cmpI, cmpB, h5]
  · simp [cmpI, cmpB, h6]
  · simp [cmpI, cmpB, h1, h2, h3, h4, h5, h6]
end Go.T1
end

section
open Go Go.Ab Go.Proofs
namespace Go.T1
def resT (r : Res) : AV := .tup [.sc (.int .i64 r.n), r.ball.av 26, .sc (.bool !r.bad)]
theorem rErr_c (t : Tm) : PureCall T Tryz.prog 44 [t.av 26] ((errT t).av 26) := by
  refine PureCall.of_vc hT [] [] follows Tryz.call44 Tryz.func44 rfl (by kernel_rfl) (by simp [AV.pure, AV.pureL, AV.pureM]) (by simp [AV.pure]) ?_
  unfold Tryz.f44
  simp
  refine vcCall_at (rComp_c _ [t]) ?_
  simp [compT, errT]
theorem rInst_c : PureCall T Tryz.prog 28 [] (instT.av 26) := by
  refine PureCall.of_vc hT [] [] follows Tryz.call28 Tryz.func28 rfl (by kernel_rfl) (by simp [AV.pure, AV.pureL, AV.pureM]) (by simp [AV.pure]) ?_
  unfold Tryz.f28
  simp
  refine vcCall_at (rAtom_c _) ?_
  simp
  refine vcCall_at (rErr_c (Tm.mk 3 0 ⟨#[105, 110, 115, 116]⟩ [])) ?_
  simp [instT, atomT]
theorem rSizeB_c : PureCall T Tryz.prog 33 [] (sizeT.av 26) := by
  refine PureCall.of_vc hT [] [] follows Tryz.call33 Tryz.func33 rfl (by kernel_rfl) (by simp [AV.pure, AV.pureL, AV.pureM]) (by simp [AV.pure]) ?_
  unfold Tryz.f33
  simp
  refine vcCall_at (rAtom_c _) ?_
  simp
  refine vcCall_at (rErr_c (Tm.mk 3 0 ⟨#[115, 105, 122, 101]⟩ [])) ?_
  simp [sizeT, atomT]
theorem rEvalB_c (s : ByteArray) : PureCall T Tryz.prog 164 [.sc (.string s)] ((evalT s).av 26) := by
  refine PureCall.of_vc hT [] [] follows Tryz.call164 Tryz.func164 rfl (by kernel_rfl) (by simp [AV.pure, AV.pureL, AV.pureM]) (by simp [AV.pure]) ?_
  unfold Tryz.f164
  simp
  refine vcCall_at (rAtom_c _) ?_
  simp
  refine vcCall_at (rComp_c _ [Tm.mk 3 0 s []]) ?_
  simp [compT]
  refine vcCall_at (rErr_c _) ?_
  simp [evalT, atomT]
theorem rType_c (s : ByteArray) (t : Tm) : PureCall T Tryz.prog 123 [.sc (.string s), t.av 26] ((typeT s t).av 26) := by
  refine PureCall.of_vc hT [] [] follows Tryz.call123 Tryz.func123 rfl (by kernel_rfl) (by simp [AV.pure, AV.pureL, AV.pureM]) (by simp [AV.pure]) ?_
  unfold Tryz.f123
  simp
  refine vcCall_at (rAtom_c _) ?_
  simp
  refine ⟨rfl, vcCall_at (rComp_c _ [Tm.mk 3 0 s [], t]) ?_⟩
  simp [compT]
  refine vcCall_at (rErr_c _) ?_
  simp [typeT, atomT]
theorem check_kind {k n : Int} {s : ByteArray} {l : List Tm} (h : (Tm.mk k n s l).check = 0) : 1 ≤ k ∧ k ≤ 4 := by
  have := ((check_iff _).1 h).1
  simp [Tm.right, partB] at this
  obtain ⟨h1, _⟩ := this
  by_cases a : k = 1; omega
  by_cases b : k = 2; omega
  by_cases c : k = 3; omega
  rw [if_neg a, if_neg b, if_neg c] at h1
  omega
theorem rInd_c (t : Tm) (ht : t.small) : PureCall T Tryz.prog 147 [t.av 26] ((indT t).av 26) := by
  obtain ⟨k, n, s, l⟩ := t
  refine PureCall.of_vc hT [] [] follows Tryz.call147 Tryz.func147 rfl (by kernel_rfl) (by simp [AV.pure, AV.pureL]) (by simp [AV.pure]) ?_
  unfold Tryz.f147
  simp [Tm.cells]
  refine vcCall_at (rCheck_c _ ht) ?_
  simp
  refine ⟨fun h => ⟨h, fun g => ⟨h, g⟩⟩, fun h => ?_, fun hc hk => ?_⟩
  · have e : indT (.mk k n s l) = Tm.zero := by
      show (if (Tm.mk k n s l).check = 0 ∧ 3 ≤ k then Tm.mk 4 0 ⟨#[47]⟩ [atomT s, intT l.length] else Tm.zero) = _
      rw [if_neg (fun q => by have := check_kind q.1; rcases h with h | h; exact h q.1; omega)]
    rw [e]
    simp [Tm.zero, Tm.cells]
    rfl
  · have e : indT (.mk k n s l) = .mk 4 0 ⟨#[47]⟩ [atomT s, intT l.length] := by
      show (if (Tm.mk k n s l).check = 0 ∧ 3 ≤ k then Tm.mk 4 0 ⟨#[47]⟩ [atomT s, intT l.length] else Tm.zero) = _
      rw [if_pos ⟨hc, by omega⟩]
    rw [e]
    refine vcCall_at (rAtom_c s) ?_
    simp
    refine vcCall_at (rInt_c _) ?_
    simp
    refine ⟨rfl, vcCall_at (rComp_c _ [Tm.mk 3 0 s [], Tm.mk 2 l.length ⟨#[]⟩ []]) ?_⟩
    simp [compT, atomT, intT]
theorem rAbs_c (n : Int) (hn : -9007199254740991 ≤ n) (hn2 : n ≤ 9007199254740991) : PureCall T Tryz.prog 163 [.sc (.int .i64 n)] (.sc (.int .i64 (absI n))) := by
  refine PureCall.of_vc hT [] [] follows Tryz.call163 Tryz.func163 rfl (by kernel_rfl) (by simp [AV.pure, AV.pureL]) (by simp [AV.pure]) ?_
  unfold Tryz.f163
  simp [absI]
  unfold i64ok; omega
theorem rOver_c (n : Int) : PureCall T Tryz.prog 165 [.sc (.int .i64 n)] (resT (numR n)) := by
  refine PureCall.of_vc hT [] [] follows Tryz.call165 Tryz.func165 rfl (by kernel_rfl) (by simp [AV.pure, AV.pureL, AV.pureM]) (by simp [AV.pure, AV.pureL, resT]) ?_
  unfold Tryz.f165
  simp
  refine ⟨fun h => ?_, fun h1 h2 => ?_⟩
  · refine vcCall_at (rEvalB_c _) ?_
    simp [numR, h, overT, resT, failR]
  · unfold numR
    rw [if_neg (by omega)]
    simp [resT, Tm.zero, Tm.cells]
    rfl
theorem rTimes_c (a b : Int) (ha : -9007199254740991 ≤ a) (ha2 : a ≤ 9007199254740991) (hb : -9007199254740991 ≤ b) (hb2 : b ≤ 9007199254740991) : PureCall T Tryz.prog 166 [.sc (.int .i64 a), .sc (.int .i64 b)] (resT (timesR a b)) := by
  refine PureCall.of_vc hT [] [] follows Tryz.call166 Tryz.func166 rfl (by kernel_rfl) (by simp [AV.pure, AV.pureL]) (by simp [AV.pure, AV.pureL, resT]) ?_
  unfold Tryz.f166
  simp
  refine vcCall_at (rAbs_c b hb hb2) ?_
  simp
  refine vcCall_at (rAbs_c a ha ha2) ?_
  simp
  have hq := tdiv_abs 9007199254740991 (absI a)
  refine ⟨fun h0 => ⟨h0, by rw [absI_eq]; omega, by unfold i64ok; omega⟩, fun h0 h => ?_, fun h => ?_⟩
  · refine vcCall_at (rEvalB_c _) ?_
    have e : timesR a b = failR overT := by unfold timesR; rw [if_pos ⟨h0, h⟩]
    simp [e, overT, failR, resT]
  · have e : timesR a b = numR (a * b) := by unfold timesR; rw [if_neg (fun q => by have := h q.1; omega)]
    have hm : (a * b).natAbs ≤ 9007199254740991 := by
      by_cases h0 : a = 0
      · subst h0; simp
      · exact mul_fits h0 (h h0)
    refine ⟨by unfold i64ok; omega, ?_⟩
    rw [e]; unfold numR
    rw [if_neg (by omega)]
    simp [resT, Tm.zero, Tm.cells]
    rfl
theorem numR_in {n : Int} (h : -9007199254740991 ≤ n) (h2 : n ≤ 9007199254740991) : numR n = ⟨n, Tm.zero, false⟩ := by unfold numR; rw [if_neg (by omega)]
theorem rOne_c (op : ByteArray) (a : Int) (ha : -9007199254740991 ≤ a) (ha2 : a ≤ 9007199254740991) : PureCall T Tryz.prog 148 [.sc (.string op), .sc (.int .i64 a)] (.sc (.int .i64 (oneR op a).n)) := by
  refine PureCall.of_vc hT [] [] follows Tryz.call148 Tryz.func148 rfl (by kernel_rfl) (by simp [AV.pure, AV.pureL]) (by simp [AV.pure]) ?_
  unfold Tryz.f148
  have h1 := numR_in (n := -a) (by omega) (by omega)
  have h2 := numR_in (n := absI a) (by unfold absI; omega) (by unfold absI; omega)
  have h3 := numR_in (n := signI a) (by unfold signI; split; omega; split; omega; omega) (by unfold signI; split; omega; split; omega; omega)
  simp
  refine ⟨fun h => ?_, fun h => ⟨fun g => ?_, fun g => ⟨fun q => ?_, fun q => ⟨fun z => ?_, fun z => ?_⟩⟩⟩⟩
  · refine ⟨by unfold i64ok; omega, ?_⟩
    simp [oneR, h, h1]
  · refine vcCall_at (rAbs_c a ha ha2) ?_
    simp [oneR, h, g, h2]
  · simp [oneR, h, g, h3]; simp [signI, q]
  · simp [oneR, h, g, h3]; unfold signI; rw [if_neg (by omega), if_pos z]
  · simp [oneR, h, g, h3]; unfold signI; rw [if_neg (by omega), if_neg (by omega)]
theorem two_known {op : ByteArray} (h : knownB op 2 = true) : op = ⟨#[43]⟩ ∨ op = ⟨#[45]⟩ ∨ op = ⟨#[42]⟩ ∨ op = ⟨#[109, 105, 110]⟩ ∨ op = ⟨#[109, 97, 120]⟩ ∨ op = ⟨#[47, 47]⟩ ∨ op = ⟨#[114, 101, 109]⟩ ∨ op = ⟨#[109, 111, 100]⟩ := by
  unfold knownB at h
  split at h
  · rename_i g; rcases g with g | g | g | g | g | g | g <;> simp [g]
  · split at h
    · rename_i g; simp [g]
    · split at h
      · simp at h
      · simp at h
set_option maxRecDepth 100000 in
theorem rTwo_c (op : ByteArray) (a b : Int) (hk : knownB op 2 = true) (ha : -9007199254740991 ≤ a) (ha2 : a ≤ 9007199254740991) (hb : -9007199254740991 ≤ b) (hb2 : b ≤ 9007199254740991) : PureCall T Tryz.prog 149 [.sc (.string op), .sc (.int .i64 a), .sc (.int .i64 b)] (resT (twoR op a b)) := by
  have hop := two_known hk
  refine PureCall.of_vc hT [9] [] follows Tryz.call149 Tryz.func149 rfl (by kernel_rfl) (by simp [AV.pure, AV.pureL]) (by simp [AV.pure, AV.pureL, resT]) ?_
  unfold Tryz.f149
  have hm := tmod_abs a b
  have hd := tdiv_abs a b
  rcases hop with rfl | rfl | rfl | rfl | rfl | rfl | rfl | rfl
  · simp
    refine ⟨by unfold i64ok; omega, vcCall_at (rOver_c _) ?_⟩
    simp [resT, twoR]
  · simp
    refine ⟨by unfold i64ok; omega, vcCall_at (rOver_c _) ?_⟩
    simp [resT, twoR]
  · simp
    refine vcCall_at (rTimes_c a b ha ha2 hb hb2) ?_
    simp [resT, twoR]
  · have e := numR_in (n := min a b) (by omega) (by omega)
    simp
    refine ⟨fun h => ?_, fun h => ?_⟩
    · rw [Int.min_eq_right (by omega)] at e
      simp [resT, twoR, e, Int.min_eq_right (by omega : b ≤ a), Tm.zero, Tm.cells]; rfl
    · rw [Int.min_eq_left (by omega)] at e
      simp [resT, twoR, e, Int.min_eq_left (by omega : a ≤ b), Tm.zero, Tm.cells]; rfl
  · have e := numR_in (n := max a b) (by omega) (by omega)
    simp
    refine ⟨fun h => ?_, fun h => ?_⟩
    · rw [Int.max_eq_right (by omega)] at e
      simp [resT, twoR, e, Int.max_eq_right (by omega : a ≤ b), Tm.zero, Tm.cells]; rfl
    · rw [Int.max_eq_left (by omega)] at e
      simp [resT, twoR, e, Int.max_eq_left (by omega : b ≤ a), Tm.zero, Tm.cells]; rfl
  · simp
    refine ⟨fun h => ?_, fun h => ?_⟩
    · refine vcCall_at (rEvalB_c _) ?_
      simp [resT, twoR, divideR, h, noughtT, failR]
    · refine ⟨⟨h, by unfold i64ok; omega⟩, vcCall_at (rOver_c _) ?_⟩
      simp [resT, twoR, divideR, h]
  · simp
    refine ⟨fun h => ?_, fun h => ?_⟩
    · refine vcCall_at (rEvalB_c _) ?_
      simp [resT, twoR, divideR, h, noughtT, failR]
    · refine ⟨h, vcCall_at (rOver_c _) ?_⟩
      simp [resT, twoR, divideR, h]
  · simp
    refine ⟨fun h => ?_, fun h => ?_⟩
    · refine vcCall_at (rEvalB_c _) ?_
      simp [resT, twoR, divideR, h, noughtT, failR]
    · refine ⟨h, fun h1 h2 => ⟨by have := hm h; unfold i64ok; omega, ?_⟩, fun h1 => ?_⟩
      · refine vcCall_at (rOver_c _) ?_
        simp [resT, twoR, divideR, h, moduloI, h1, h2]
      · refine vcCall_at (rOver_c _) ?_
        have e : moduloI a b = a.tmod b := by unfold moduloI; rw [if_neg (fun q => q.2 (h1 q.1))]
        simp [resT, twoR, divideR, h, e]
end Go.T1
end

section
open Go Go.Ab Go.Proofs
namespace Go.T1
set_option maxRecDepth 100000 in
theorem rKnown_c (s : ByteArray) (n : Int) : PureCall T Tryz.prog 146 [.sc (.string s), .sc (.int .i64 n)] (.sc (.bool (knownB s n))) := by
  refine PureCall.of_vc hT [] [] follows Tryz.call146 Tryz.func146 rfl (by kernel_rfl) (by simp [AV.pure, AV.pureL]) (by simp [AV.pure]) ?_
  unfold Tryz.f146
  simp
  by_cases e0 : s = ⟨#[43]⟩
  · subst e0; simp [knownB]
  by_cases e1 : s = ⟨#[42]⟩
  · subst e1; simp [knownB]
  by_cases e2 : s = ⟨#[47, 47]⟩
  · subst e2; simp [knownB]
  by_cases e3 : s = ⟨#[109, 111, 100]⟩
  · subst e3; simp [knownB]
  by_cases e4 : s = ⟨#[114, 101, 109]⟩
  · subst e4; simp [knownB]
  by_cases e5 : s = ⟨#[109, 105, 110]⟩
  · subst e5; simp [knownB]
  by_cases e6 : s = ⟨#[109, 97, 120]⟩
  · subst e6; simp [knownB]
  by_cases e7 : s = ⟨#[45]⟩
  · subst e7; simp [knownB]
  by_cases e8 : s = ⟨#[97, 98, 115]⟩
  · subst e8; simp [knownB]
  by_cases e9 : s = ⟨#[115, 105, 103, 110]⟩
  · subst e9; simp [knownB]
  simp [knownB, e0, e1, e2, e3, e4, e5, e6, e7, e8, e9]
set_option maxRecDepth 100000 in
theorem oneR_in (op : ByteArray) (a : Int) (ha : -9007199254740991 ≤ a) (ha2 : a ≤ 9007199254740991) : (oneR op a).bad = false ∧ (oneR op a).ball = Tm.zero := by
  unfold oneR
  split
  · rw [numR_in (by omega) (by omega)]; exact ⟨rfl, rfl⟩
  split
  · rw [numR_in (by unfold absI; omega) (by unfold absI; omega)]; exact ⟨rfl, rfl⟩
  · rw [numR_in (by unfold signI; split; omega; split; omega; omega) (by unfold signI; split; omega; split; omega; omega)]; exact ⟨rfl, rfl⟩
set_option maxRecDepth 100000 in
theorem check_int {n : Int} {s : ByteArray} {l : List Tm} (h : (Tm.mk 2 n s l).check = 0) : -9007199254740991 ≤ n ∧ n ≤ 9007199254740991 := by
  have := ((check_iff _).1 h).1
  simp [Tm.right, partB] at this
  exact this.1.1.1
set_option maxRecDepth 100000 in
theorem rReck_c : ∀ t : Tm, t.small → t.check = 0 → PureCall T Tryz.prog 122 [t.av 26] (resT t.reck) := by
  intro t
  induction t using Tm.ind with
  | _ k n s l ih =>
  intro ht hc
  have hsm : ∀ t ∈ l, t.small := fun t htl => by
    obtain ⟨i, hi, rfl⟩ := List.getElem_of_mem htl
    have := Tm.size_mem hi
    unfold Tm.small at ht ⊢
    simp only [Tm.size] at ht
    omega
  have hck := check_child hc
  refine PureCall.of_vc hT [6] [(9, 2), (14, 2)] follows Tryz.call122 Tryz.func122 rfl (by kernel_rfl) (by simp [AV.pure, AV.pureL]) (by simp [AV.pure, AV.pureL, resT]) ?_
  unfold Tryz.f122
  simp [Tm.cells]
  refine ⟨fun h => ?_, fun h => ⟨fun h1 => ?_, fun h1 hb hi => ?_⟩⟩
  · subst h
    have hn := check_int hc
    simp [Tm.reck, numR_in hn.1 hn.2, resT, Tm.zero, Tm.cells]
    rfl
  · subst h1
    refine vcCall_at rInst_c ?_
    simp [Tm.reck, resT, failR]
  · refine vcCall_at (rKnown_c s l.length) ?_
    simp
    refine ⟨fun h2 => ?_, fun h2 => ?_⟩
    · refine vcCall_at (rInd_c (.mk k n s l) ht) ?_
      simp
      refine vcCall_at (rType_c _ _) ?_
      simp [Tm.reck, h, h1, h2, resT, failR]
    · rcases knownB_len h2 with h3 | h3
      · obtain ⟨x, rfl⟩ : ∃ x, l = [x] := List.length_eq_one_iff.1 (by omega)
        have hr := x.reck_ok
        simp at h2
        simp [Tm.cells, Tm.cellsL]
        refine vcCall_at (ih x (by simp) (hsm x (by simp)) (hck x (by simp))) ?_
        simp [resT]
        refine ⟨fun g => ?_, fun g => ?_⟩
        · refine ⟨fun _ st' => st' = [.cells (x.reck.ball.cells 26), .cells (x.reck.ball.cells 26)], ?_⟩
          simp (decide := true) [vcThen, vcI]
          have hn := hr.1 g
          simp [Tm.reck, Tm.reckL, h, h1, h2, g, hn]
        · have e := oneR_in s x.reck.n (hr.2 g).2.1 (hr.2 g).2.2
          refine vcCall_at (rOne_c s x.reck.n (hr.2 g).2.1 (hr.2 g).2.2) ?_
          simp [Tm.reck, Tm.reckL, h, h1, h2, g, e, Tm.zero, Tm.cells]
          rfl
      · obtain ⟨x, y, rfl⟩ := Tm.len2 (by omega : l.length = 2)
        have hr := x.reck_ok
        simp at h2
        have hq := y.reck_ok
        simp [Tm.cells, Tm.cellsL]
        refine vcCall_at (ih x (by simp) (hsm x (by simp)) (hck x (by simp))) ?_
        simp [resT]
        refine ⟨fun g => ?_, fun g => ?_⟩
        · refine ⟨fun _ st' => st' = [.cells (x.reck.ball.cells 26), .cells (x.reck.ball.cells 26)], ?_⟩
          simp (decide := true) [vcThen, vcI]
          have hn := hr.1 g
          simp [Tm.reck, Tm.reckL, h, h1, h2, g, hn]
        · refine vcCall_at (ih y (by simp) (hsm y (by simp)) (hck y (by simp))) ?_
          simp [resT]
          refine ⟨fun g2 => ?_, fun g2 => ?_⟩
          · refine ⟨fun _ st' => st' = [.cells (y.reck.ball.cells 26), .cells (y.reck.ball.cells 26)], ?_⟩
            simp (decide := true) [vcThen, vcI]
            have hn := hq.1 g2
            simp [Tm.reck, Tm.reckL, h, h1, h2, g, g2, hn]
          · refine vcCall_at (rTwo_c s x.reck.n y.reck.n h2 (hr.2 g).2.1 (hr.2 g).2.2 (hq.2 g2).2.1 (hq.2 g2).2.2) ?_
            simp [Tm.reck, Tm.reckL, h, h1, h2, g, g2, resT]
set_option maxRecDepth 100000 in
theorem rEval_c (t : Tm) (ht : t.small) : PureCall T Tryz.prog 91 [t.av 26] (resT (evalR t)) := by
  refine PureCall.of_vc hT [] [] follows Tryz.call91 Tryz.func91 rfl (by kernel_rfl) (by simp [AV.pure, AV.pureL]) (by simp [AV.pure, AV.pureL, resT]) ?_
  unfold Tryz.f91
  simp
  refine vcCall_at (rCheck_c t ht) ?_
  simp
  refine ⟨fun h => ?_, fun h => ?_⟩
  · refine vcCall_at rSizeB_c ?_
    simp [evalR, h, failR, resT]
  · refine vcCall_at (rReck_c t ht h) ?_
    simp [evalR, h, resT]
set_option maxRecDepth 100000 in
theorem rHolds_c (op : ByteArray) (a b : Int) : PureCall T Tryz.prog 94 [.sc (.string op), .sc (.int .i64 a), .sc (.int .i64 b)] (.sc (.bool (cmpI op (a - b)))) := by
  refine PureCall.of_vc hT [] [] follows Tryz.call94 Tryz.func94 rfl (by kernel_rfl) (by simp [AV.pure, AV.pureL]) (by simp [AV.pure]) ?_
  unfold Tryz.f94
  simp
  have q1 : (a - b = 0) ↔ a = b := by omega
  have q2 : (a - b < 0) ↔ a < b := by omega
  have q3 : (0 < a - b) ↔ b < a := by omega
  have q4 : (a - b ≤ 0) ↔ a ≤ b := by omega
  have q5 : (0 ≤ a - b) ↔ b ≤ a := by omega
  refine ⟨fun h1 => ?_, fun h1 => ⟨fun h2 => ?_, fun h2 => ⟨fun h3 => ?_, fun h3 => ⟨fun h4 => ?_, fun h4 => ⟨fun h5 => ?_, fun h5 => ⟨fun h6 => ?_, fun h6 => ?_⟩⟩⟩⟩⟩⟩
  · simp [cmpI, h1, q1]
  · simp [cmpI, h2, q1]
  · simp [cmpI, h3, q2]
  · simp [cmpI, h4, q3]
  · simp [cmpI, h5, q4]
  · simp [cmpI, h6, q5]
  · simp [cmpI, h1, h2, h3, h4, h5, h6]
set_option maxRecDepth 100000 in
theorem cmpI_sign (op : ByteArray) (n : Int) : cmpI op (signI n) = cmpI op n := by
  have h1 : (signI n = 0) ↔ n = 0 := by unfold signI; split; omega; split; omega; omega
  have h2 : (signI n < 0) ↔ n < 0 := by unfold signI; split; omega; split; omega; omega
  have h3 : (0 < signI n) ↔ 0 < n := by unfold signI; split; omega; split; omega; omega
  have h4 : (signI n ≤ 0) ↔ n ≤ 0 := by omega
  have h5 : (0 ≤ signI n) ↔ 0 ≤ n := by omega
  unfold cmpI
  simp only [h1, h2, h3, h4, h5]
def cmpA (op : ByteArray) (a b : Tm) : Bool × Tm × Bool :=
  if cmpB op = false then (false, Tm.zero, true)
  else if (evalR a).bad = true then (false, (evalR a).ball, false)
  else if (evalR b).bad = true then (false, (evalR b).ball, false)
  else (cmpI op ((evalR a).n - (evalR b).n), Tm.zero, true)
set_option maxRecDepth 100000 in
theorem arCompare_c (op : ByteArray) (a b : Tm) (ha : a.small) (hb : b.small) : PureCall T Tryz.prog 115 [.sc (.string op), a.av 26, b.av 26]
    (.tup [.sc (.bool (cmpA op a b).1), (cmpA op a b).2.1.av 26, .sc (.bool (cmpA op a b).2.2)]) := by
  refine PureCall.of_vc hT [12] [(6, 2), (9, 2)] follows Tryz.call115 Tryz.func115 rfl (by kernel_rfl) (by simp [AV.pure, AV.pureL]) (by simp [AV.pure, AV.pureL]) ?_
  unfold Tryz.f115
  simp
  refine vcCall_at (holds_c op 0) ?_
  simp
  have hra := evalR_ok a
  have hrb := evalR_ok b
  refine ⟨fun h => ?_, fun h => ?_⟩
  · simp [cmpA, h, Tm.zero, Tm.cells]; rfl
  · refine vcCall_at (Eval_c a ha) ?_
    simp
    refine ⟨fun g => ?_, fun g => ?_⟩
    · refine ⟨fun _ st' => st' = [.cells ((evalR a).ball.cells 26), .cells ((evalR a).ball.cells 26)], ?_⟩
      simp (decide := true) [vcThen, vcI]
      simp [cmpA, h, g]
    · refine vcCall_at (Eval_c b hb) ?_
      simp
      refine ⟨fun g2 => ?_, fun g2 => ?_⟩
      · refine ⟨fun _ st' => st' = [.cells ((evalR b).ball.cells 26), .cells ((evalR b).ball.cells 26)], ?_⟩
        simp (decide := true) [vcThen, vcI]
        simp [cmpA, h, g, g2]
      · have h1 := hra.2 g
        have h2 := hrb.2 g2
        refine ⟨by unfold i64ok; omega, vcCall_at (sign_c _) ?_⟩
        simp
        refine vcCall_at (holds_c op _) ?_
        simp [cmpA, h, g, g2, Tm.zero, Tm.cells, cmpI_sign]
        rfl
end Go.T1
end

section
open Go Go.Ab Go.Proofs
namespace Go.T1
@[simp] theorem ty127 : T 127 = some ⟨1, 8, .map 3 26, [], some (.map none)⟩ := by kernel_rfl
@[simp] theorem ty129 : T 129 = some ⟨2, 32, .strct, [(0,1),(1,1)], some (.agg #[.map none, .slice none 0 0])⟩ := by kernel_rfl
@[simp] theorem ty86 : T 86 = some ⟨1, 8, .ptr 129, [], some (.pointer none)⟩ := by kernel_rfl
@[simp] theorem ty125 : T 125 = some ⟨1, 8, .map 3 4, [], some (.map none)⟩ := by kernel_rfl
@[simp] theorem ty101 : T 101 = some ⟨2, 16, .arr 2 3, [], some (.agg #[.int .i64 0, .int .i64 0])⟩ := by kernel_rfl
@[simp] theorem ty77 : T 77 = some ⟨1, 8, .map 101 4, [], some (.map none)⟩ := by kernel_rfl
@[simp] theorem ty132 : T 132 = some ⟨2, 16, .strct, [(0,1),(1,1)], some (.agg #[.pointer none, .map none])⟩ := by kernel_rfl
@[simp] theorem ty75 : T 75 = some ⟨2, 32, .strct, [(0,1),(1,1)], some (.agg #[.slice none 0 0, .map none])⟩ := by kernel_rfl
@[simp] theorem ty73 : T 73 = some ⟨1, 24, .slice 104, [], some (.slice none 0 0)⟩ := by kernel_rfl
@[simp] theorem ty104 : T 104 = some ⟨5, 64, .strct, [(0,1),(1,4)], some (.agg #[.int .i64 0, .int .i64 0, .int .i64 0, .string .empty, .slice none 0 0])⟩ := by kernel_rfl
@[simp] theorem ty59 : T 59 = some ⟨1, 8, .ptr 75, [], some (.pointer none)⟩ := by kernel_rfl
/-- What the map holds. -/
def bsMap (B : Bs) : List (Value × AV) := B.map fun p => (.int .i64 p.1, p.2.av 26)
@[simp] theorem bsMap_keys : ∀ B : Bs, intKeys (bsMap B) = true
  | [] => rfl
  | x :: xs => by have := bsMap_keys xs; simp only [intKeys, bsMap, List.map_cons, List.all_cons, Bool.true_and] at this ⊢; exact this
theorem isK_ne {m n : Int} (h : m ≠ n) : isK n (.int .i64 m) = false := by simp [isK, h]
theorem isK_eq (n : Int) : isK n (.int .i64 n) = true := by simp [isK]
theorem bsMap_cons (m : Int) (t : Tm) (B : Bs) : bsMap ((m, t) :: B) = (.int .i64 m, t.av 26) :: bsMap B := rfl
theorem bsMap_get : ∀ (B : Bs) (n : Int), mget (bsMap B) n = (lookB B n).map (Tm.av 26)
  | [], _ => rfl
  | (m, t) :: B, n => by
    have ih := bsMap_get B n
    by_cases h : m = n
    · subst h; simp [bsMap_cons, mget, lookB, isK_eq]
    · simp [bsMap_cons, mget, lookB, isK_ne h, h, ih]
theorem bsMap_put : ∀ (B : Bs) (n : Int) (t : Tm), n ∉ keys B → mput (bsMap B) n (t.av 26) = bsMap (B ++ [(n, t)])
  | [], _, _, _ => rfl
  | (m, u) :: B, n, t, h => by
    simp only [keys_cons, List.mem_cons, not_or] at h
    have ih := bsMap_put B n t h.2
    simp [bsMap_cons, mput, isK_ne (fun e => h.1 e.symm), ih]
theorem bsMap_del : ∀ (A C : Bs) (n : Int) (t : Tm), n ∉ keys A → mdel (bsMap (A ++ (n, t) :: C)) n = bsMap (A ++ C)
  | [], C, n, t, _ => by simp [bsMap_cons, mdel, isK_eq]
  | (m, u) :: A, C, n, t, h => by
    simp only [keys_cons, List.mem_cons, not_or] at h
    have ih := bsMap_del A C n t h.2
    simp [bsMap_cons, mdel, isK_ne (fun e => h.1 e.symm), ih]
theorem bsMap_cut (N : Nat) (S : St) : ∀ B : Bs, (bsMap B).map (fun p => (p.1, p.2.cut N S)) = bsMap B
  | [] => rfl
  | (m, t) :: B => by
    have ih := bsMap_cut N S B
    unfold bsMap at ih
    simp only [bsMap, List.map_cons, AV.cut, Tm.cut_cells]
    rw [ih]
theorem cut_bs (N : Nat) (S : St) (B : Bs) : Blk.cut N S (.map (bsMap B)) = .map (bsMap B) := by simp only [Blk.cut, bsMap_cut]
theorem vn_eq (k n : Int) (s : ByteArray) (l : List Tm) : (Tm.mk k n s l).vn = if k = 1 then some n else none := rfl

set_option maxRecDepth 100000 in
theorem walk_c {B : Bs} (hB : OkB B) (t : Tm) (st : St) (s m : Nat) (X : AV) (hs : st[s]? = some (.cells [.mp m, X])) (hm : st[m]? = some (.map (bsMap B))) :
    ICall T Tryz.prog 152 [.ptr s 0, t.av 26] st (fun r st' => r = (wk B t).av 26 ∧ st' = st) := by
  refine ICall.of_vc hT [3] [(2,10),(2,11)] follows Tryz.call152 Tryz.func152 rfl (by kernel_rfl) fun hfix => ?_
  unfold Tryz.f152
  simp
  refine vcC_loop [] (fun w σ Y => ∃ u : Tm, w = wkn B u ∧ wk B u = wk B t ∧ Pre st Y ∧ Y[st.length]? = some (.cells (u.cells 26)) ∧ (∃ z, z.length = 4 ∧ Y[st.length + 1]? = some (.cells z)) ∧ σ 0 = .ptr s 0 ∧ σ 3 = .ptr st.length 0 ∧ σ 4 = .ptr (st.length + 1) 0) (wkn B t) ?_ ?_
  · simp
    exact ⟨t, rfl, rfl, (Pre.refl st).app _, by simp⟩
  rintro w σ Y ⟨⟨k, n, sn, l⟩, rfl, hw, hP, h1, ⟨z, hz, h2⟩, s0, s3, s4⟩
  have k1 := hP.get hs
  have k2 := hP.get hm
  have g1 := get_app k1
  have g2 := get_app k2
  have g3 := get_app h1
  simp [s0, s3, s4, h1, Tm.cells]
  refine ⟨fun hk => ?_, fun hk => ?_⟩
  · subst hk
    cases hl : lookB B n with
    | none =>
      refine ⟨fun i r Z => (i = 10 → r = .ptr Y.length 0) ∧ Z = Y ++ [.cells (if i = 10 then [.sc (.int .i64 0), .sc (.int .i64 0), .sc (.string .empty), .nils] else [.sc (.int .i64 0), .sc (.int .i64 0), .sc (.string .empty), .nils])], ?_⟩
      simp (decide := true) [s0, s3, s4, k1, k2, h1, g1, g2, g3, bsMap_get, hl, Tm.cells]
      refine ⟨by simp (decide := true) [s0, s3, s4, k1, k2, h1, g1, g2, g3, bsMap_get, hl, Tm.cells], ?_⟩; simp (decide := true) [s0, s3, s4, k1, k2, h1, g1, g2, g3, bsMap_get, hl, Tm.cells]
      refine ⟨by simp (decide := true) [s0, s3, s4, k1, k2, h1, g1, g2, g3, bsMap_get, hl, Tm.cells], ?_⟩; simp (decide := true) [s0, s3, s4, k1, k2, h1, g1, g2, g3, bsMap_get, hl, Tm.cells]
      refine ⟨by simp (decide := true) [s0, s3, s4, k1, k2, h1, g1, g2, g3, bsMap_get, hl, Tm.cells], ?_⟩; simp (decide := true) [s0, s3, s4, k1, k2, h1, g1, g2, g3, bsMap_get, hl, Tm.cells]
      refine ⟨by simp (decide := true) [s0, s3, s4, k1, k2, h1, g1, g2, g3, bsMap_get, hl, Tm.cells], ?_⟩; simp (decide := true) [s0, s3, s4, k1, k2, h1, g1, g2, g3, bsMap_get, hl, Tm.cells]
      refine ⟨by simp (decide := true) [s0, s3, s4, k1, k2, h1, g1, g2, g3, bsMap_get, hl, Tm.cells], ?_⟩; simp (decide := true) [s0, s3, s4, k1, k2, h1, g1, g2, g3, bsMap_get, hl, Tm.cells]
      refine ⟨by simp (decide := true) [s0, s3, s4, k1, k2, h1, g1, g2, g3, bsMap_get, hl, Tm.cells], ?_⟩; simp (decide := true) [s0, s3, s4, k1, k2, h1, g1, g2, g3, bsMap_get, hl, Tm.cells]
      refine ⟨by simp (decide := true) [s0, s3, s4, k1, k2, h1, g1, g2, g3, bsMap_get, hl, Tm.cells], ?_⟩; simp (decide := true) [s0, s3, s4, k1, k2, h1, g1, g2, g3, bsMap_get, hl, Tm.cells]
      refine ⟨by simp (decide := true) [s0, s3, s4, k1, k2, h1, g1, g2, g3, bsMap_get, hl, Tm.cells], ?_⟩; simp (decide := true) [s0, s3, s4, k1, k2, h1, g1, g2, g3, bsMap_get, hl, Tm.cells]
      refine ⟨by simp (decide := true) [s0, s3, s4, k1, k2, h1, g1, g2, g3, bsMap_get, hl, Tm.cells], ?_⟩; simp (decide := true) [s0, s3, s4, k1, k2, h1, g1, g2, g3, bsMap_get, hl, Tm.cells]
      refine ⟨by simp (decide := true) [s0, s3, s4, k1, k2, h1, g1, g2, g3, bsMap_get, hl, Tm.cells], ?_⟩; simp (decide := true) [s0, s3, s4, k1, k2, h1, g1, g2, g3, bsMap_get, hl, Tm.cells]
      refine ⟨by simp, rfl, by simp [vcI, s0, s3, s4, k1, k2, h1, g1, g2, g3, bsMap_get, hl, Tm.cells], ?_⟩
      simp (decide := true) [s0, s3, s4, k1, k2, h1, g1, g2, g3, bsMap_get, hl, Tm.cells]; try intro _
      try simp (decide := true) [s0, s3, s4, k1, k2, h1, g1, g2, g3, bsMap_get, hl, Tm.cells]
      refine ⟨by simp, rfl, by simp [vcI, s0, s3, s4, k1, k2, h1, g1, g2, g3, bsMap_get, hl, Tm.cells], ?_⟩
      simp (decide := true) [s0, s3, s4, k1, k2, h1, g1, g2, g3, bsMap_get, hl, Tm.cells]; try intro _
      try simp (decide := true) [s0, s3, s4, k1, k2, h1, g1, g2, g3, bsMap_get, hl, Tm.cells]
      refine ⟨by simp (decide := true) [s0, s3, s4, k1, k2, h1, g1, g2, g3, bsMap_get, hl, Tm.cells], ?_⟩; simp (decide := true) [s0, s3, s4, k1, k2, h1, g1, g2, g3, bsMap_get, hl, Tm.cells]
      have g4 := get_app h2
      have e : wk B t = .mk 1 n sn l := by rw [← hw]; exact (wk_none fun q hq => by simp [Tm.vn] at hq; rw [← hq]; exact hl).1
      simp [g4, hz, List.drop_of_length_le (Nat.le_of_eq hz)]
      have hP' := (hP.app [.cells [.sc (.int .i64 0), .sc (.int .i64 0), .sc (.string .empty), .nils]]).set (i := st.length + 1) (by omega) (.cells [.sc (.int .i64 1), .sc (.int .i64 n), .sc (.string sn), .lst 26 (Tm.cellsL 26 l)])
      rw [e]
      refine endP_mk ((Tm.mk 1 n sn l).av 26) ?_ ?_ ⟨rfl, hP'.cut hfix rfl⟩
      · simp [s4, get_set (g4 _)]
      · simp [s4, get_set (g4 _), Tm.cells]
    | some u =>
      refine ⟨fun i r Z => (i = 10 → r = .ptr Y.length 0) ∧ Z = Y ++ [.cells (if i = 10 then [.sc (.int .i64 0), .sc (.int .i64 0), .sc (.string .empty), .nils] else u.cells 26)], ?_⟩
      simp (decide := true) [s0, s3, s4, k1, k2, h1, g1, g2, g3, bsMap_get, hl, Tm.cells]
      refine ⟨by simp (decide := true) [s0, s3, s4, k1, k2, h1, g1, g2, g3, bsMap_get, hl, Tm.cells], ?_⟩; simp (decide := true) [s0, s3, s4, k1, k2, h1, g1, g2, g3, bsMap_get, hl, Tm.cells]
      refine ⟨by simp (decide := true) [s0, s3, s4, k1, k2, h1, g1, g2, g3, bsMap_get, hl, Tm.cells], ?_⟩; simp (decide := true) [s0, s3, s4, k1, k2, h1, g1, g2, g3, bsMap_get, hl, Tm.cells]
      refine ⟨by simp (decide := true) [s0, s3, s4, k1, k2, h1, g1, g2, g3, bsMap_get, hl, Tm.cells], ?_⟩; simp (decide := true) [s0, s3, s4, k1, k2, h1, g1, g2, g3, bsMap_get, hl, Tm.cells]
      refine ⟨by simp (decide := true) [s0, s3, s4, k1, k2, h1, g1, g2, g3, bsMap_get, hl, Tm.cells], ?_⟩; simp (decide := true) [s0, s3, s4, k1, k2, h1, g1, g2, g3, bsMap_get, hl, Tm.cells]
      refine ⟨by simp (decide := true) [s0, s3, s4, k1, k2, h1, g1, g2, g3, bsMap_get, hl, Tm.cells], ?_⟩; simp (decide := true) [s0, s3, s4, k1, k2, h1, g1, g2, g3, bsMap_get, hl, Tm.cells]
      refine ⟨by simp (decide := true) [s0, s3, s4, k1, k2, h1, g1, g2, g3, bsMap_get, hl, Tm.cells], ?_⟩; simp (decide := true) [s0, s3, s4, k1, k2, h1, g1, g2, g3, bsMap_get, hl, Tm.cells]
      refine ⟨by simp (decide := true) [s0, s3, s4, k1, k2, h1, g1, g2, g3, bsMap_get, hl, Tm.cells], ?_⟩; simp (decide := true) [s0, s3, s4, k1, k2, h1, g1, g2, g3, bsMap_get, hl, Tm.cells]
      refine ⟨by simp (decide := true) [s0, s3, s4, k1, k2, h1, g1, g2, g3, bsMap_get, hl, Tm.cells], ?_⟩; simp (decide := true) [s0, s3, s4, k1, k2, h1, g1, g2, g3, bsMap_get, hl, Tm.cells]
      refine ⟨by simp (decide := true) [s0, s3, s4, k1, k2, h1, g1, g2, g3, bsMap_get, hl, Tm.cells], ?_⟩; simp (decide := true) [s0, s3, s4, k1, k2, h1, g1, g2, g3, bsMap_get, hl, Tm.cells]
      refine ⟨by simp (decide := true) [s0, s3, s4, k1, k2, h1, g1, g2, g3, bsMap_get, hl, Tm.cells], ?_⟩; simp (decide := true) [s0, s3, s4, k1, k2, h1, g1, g2, g3, bsMap_get, hl, Tm.cells]
      refine ⟨by simp, rfl, by simp [vcI, s0, s3, s4, k1, k2, h1, g1, g2, g3, bsMap_get, hl, Tm.cells], ?_⟩
      simp (decide := true) [s0, s3, s4, k1, k2, h1, g1, g2, g3, bsMap_get, hl, Tm.cells]; try intro _
      try simp (decide := true) [s0, s3, s4, k1, k2, h1, g1, g2, g3, bsMap_get, hl, Tm.cells]
      refine ⟨by simp, rfl, by simp [vcI, s0, s3, s4, k1, k2, h1, g1, g2, g3, bsMap_get, hl, Tm.cells], ?_⟩
      simp (decide := true) [s0, s3, s4, k1, k2, h1, g1, g2, g3, bsMap_get, hl, Tm.cells]; try intro _
      try simp (decide := true) [s0, s3, s4, k1, k2, h1, g1, g2, g3, bsMap_get, hl, Tm.cells]
      refine ⟨by simp (decide := true) [s0, s3, s4, k1, k2, h1, g1, g2, g3, bsMap_get, hl, Tm.cells], ?_⟩; simp (decide := true) [s0, s3, s4, k1, k2, h1, g1, g2, g3, bsMap_get, hl, Tm.cells]
      have g4 := get_app h2
      obtain ⟨e1, e2⟩ := wk_step hB (t := .mk 1 n sn l) (by simp [Tm.vn]) hl
      refine ⟨wkn B u, by omega, u, rfl, by rw [← e1, hw], (hP.app _).set (Nat.le_refl _) _, get_set (g3 _), z, hz, g4 _⟩
  · have e : wk B t = .mk k n sn l := by rw [← hw]; exact (wk_none fun q hq => by simp [Tm.vn, hk] at hq).1
    simp [h2, hz, List.drop_of_length_le (Nat.le_of_eq hz)]
    have hP' := hP.set (i := st.length + 1) (by omega) (.cells [.sc (.int .i64 k), .sc (.int .i64 n), .sc (.string sn), .lst 26 (Tm.cellsL 26 l)])
    rw [e]
    refine endP_mk ((Tm.mk k n sn l).av 26) ?_ ?_ ⟨rfl, hP'.cut hfix rfl⟩
    · simp [s4, get_set h2]
    · simp [s4, get_set h2, Tm.cells]
end Go.T1
end

section
open Go Go.Ab Go.Proofs
namespace Go.T1
/-- What is noted of variables. -/
def boolMap (S : List Int) : List (Value × AV) := S.map fun n => (.int .i64 n, .sc (.bool true))
theorem boolMap_cons (m : Int) (S : List Int) : boolMap (m :: S) = (.int .i64 m, .sc (.bool true)) :: boolMap S := rfl
@[simp] theorem boolMap_keys : ∀ S : List Int, intKeys (boolMap S) = true
  | [] => rfl
  | x :: xs => by have := boolMap_keys xs; simp only [intKeys, boolMap_cons, List.all_cons, Bool.true_and] at this ⊢; exact this
theorem boolMap_get : ∀ (S : List Int) (n : Int), mget (boolMap S) n = if n ∈ S then some (.sc (.bool true)) else none
  | [], _ => rfl
  | m :: S, n => by
    have ih := boolMap_get S n
    by_cases h : m = n
    · subst h; simp [boolMap_cons, mget, isK_eq]
    · have h' : ¬ n = m := fun e => h e.symm
      simp [boolMap_cons, mget, isK_ne h, h', ih]
theorem boolMap_put : ∀ (S : List Int) (n : Int), n ∉ S → mput (boolMap S) n (.sc (.bool true)) = boolMap (S ++ [n])
  | [], _, _ => rfl
  | m :: S, n, h => by
    simp only [List.mem_cons, not_or] at h
    have ih := boolMap_put S n h.2
    simp [boolMap_cons, mput, isK_ne (fun e => h.1 e.symm), ih]
theorem boolMap_cut (N : Nat) (Z : St) : ∀ S : List Int, (boolMap S).map (fun p => (p.1, p.2.cut N Z)) = boolMap S
  | [] => rfl
  | m :: S => by have ih := boolMap_cut N Z S; simp only [boolMap_cons, List.map_cons, AV.cut, ih]
theorem cut_bool (N : Nat) (Z : St) (S : List Int) : Blk.cut N Z (.map (boolMap S)) = .map (boolMap S) := by simp only [Blk.cut, boolMap_cut]
theorem fix_bool {st : St} (h : Fix st) (q : Nat) (S : List Int) : Fix (st.set q (.map (boolMap S))) := fix_set h q fun N Z _ => cut_bool N Z S
/-- What a search leaves. -/
def WQ (B : Bs) (n : Int) (b : Bool) (q : Nat) (st : St) (S : List Int) (v : Value) (r : AV) (st' : St) : Prop := ∃ S', r = .sc v ∧ st' = st.set q (.map (boolMap S')) ∧ (b = false → Seen2 B n S S')
theorem Seen2.refl (B : Bs) (n : Int) (S : List Int) : Seen2 B n S S := fun v hv => .inl hv
theorem Seen2.trans {B : Bs} {n : Int} {S S' S'' : List Int} (h : Seen2 B n S S') (k : Seen2 B n S' S'') : Seen2 B n S S'' := fun v hv => by
  rcases k v hv with h1 | h1
  · exact h v h1
  · exact .inr h1
theorem any_take {p : Tm → Bool} {l : List Tm} {i : Nat} (h : i < l.length) : (l.take (i + 1)).any p = ((l.take i).any p || p l[i]) := by
  rw [Tm.take_succ h, List.any_append]; simp
set_option maxRecDepth 100000 in
/-- A search through arguments, that notes what it goes through. -/
theorem indexW_c (F : FuncId) (cs : List AV) (B : Bs) (n : Int) (l : List Tm) (q : Nat) (st : St) (S : List Int) (hq : st[q]? = some (.map (boolMap S)))
    (ih : ∀ x ∈ l, ∀ S', Seen2 B n S S' → ICall T Tryz.prog F (x.av 26 :: cs) (st.set q (.map (boolMap S'))) (WQ B n (lies B n x) q (st.set q (.map (boolMap S'))) S' (.bool (lies B n x)))) :
    ICall T Tryz.prog 67 [.lst 26 (Tm.cellsL 26 l), .fn (.func F) [] cs] st (WQ B n (l.any (lies B n)) q st S (.int .i64 (Tm.fi (lies B n) l 0))) := by
  generalize hr : Tm.fi (lies B n) l 0 = r
  refine ICall.of_vc hT [] [(4, 5)] follows Tryz.call67 Tryz.func67 rfl (by kernel_rfl) fun hfix => ?_
  unfold Tryz.f67
  simp
  intro hb1 hb2
  refine vcC_loop [] (fun w σ Y => ∃ (i : Nat) (S' : List Int), w = l.length - i ∧ i ≤ l.length ∧ Tm.fi (lies B n) (l.drop i) i = r ∧ Seen2 B n S S' ∧ (l.take i).any (lies B n) = false ∧ Y = st.set q (.map (boolMap S')) ∧ σ 0 = .lst 26 (Tm.cellsL 26 l) ∧ σ 1 = .fn (.func F) [] cs ∧ σ 7 = .sc (.int .i64 l.length) ∧ σ 8 = .sc (.int .i64 i)) l.length ⟨0, S, ?_⟩ ?_
  · simp [hr, Seen2.refl, set_same hq]
  rintro w σ Y ⟨i, S', rfl, hi, htk, hS, hany, rfl, s0, s1, s7, s8⟩
  rcases Nat.lt_or_ge i l.length with hlt | hge
  · simp [s0, s1, s7, s8, hlt]
    refine vcICall_of (ih l[i] (List.getElem_mem hlt) S' hS) ?_
    rintro r' st' ⟨S2, rfl, rfl, hS2⟩ hf
    simp [s0, s1, s7, s8]
    rw [List.drop_eq_getElem_cons hlt] at htk
    simp only [Tm.fi] at htk
    refine ⟨fun hp => ?_, fun hp => ⟨by unfold i64ok; omega, l.length - (i + 1), by omega, i + 1, rfl, by omega, ?_⟩⟩
    · rw [if_pos hp] at htk
      refine endP_mk (.sc (.int .i64 r)) (by simp) (by simp [htk]) ⟨S2, rfl, ?_, fun h => ?_⟩
      · exact (Pre.refl _).cut (fix_bool hfix q S2) (by simp)
      · have := List.any_eq_false.1 h l[i] (List.getElem_mem hlt)
        rw [hp] at this; exact absurd rfl this
    · rw [if_neg (by simp [hp])] at htk
      refine ⟨htk, S2, Seen2.trans hS (hS2 hp), ?_, by simp, by omega⟩
      have : (l.take (i + 1)).any (lies B n) = false := by rw [any_take hlt, hany, hp]; rfl
      simpa using this
  · have hi : i = l.length := by omega
    subst hi
    simp [s0, s1, s7, s8]
    rw [List.drop_length] at htk
    refine endP_mk (.sc (.int .i64 r)) (by simp) (by simpa [Tm.fi] using htk) ⟨S', rfl, ?_, fun _ => hS⟩
    exact (Pre.refl _).cut (fix_bool hfix q S') (by simp)
set_option maxRecDepth 100000 in
theorem containsW_c (F : FuncId) (cs : List AV) (B : Bs) (n : Int) (l : List Tm) (q : Nat) (st : St) (S : List Int) (hq : st[q]? = some (.map (boolMap S)))
    (ih : ∀ x ∈ l, ∀ S', Seen2 B n S S' → ICall T Tryz.prog F (x.av 26 :: cs) (st.set q (.map (boolMap S'))) (WQ B n (lies B n x) q (st.set q (.map (boolMap S'))) S' (.bool (lies B n x)))) :
    ICall T Tryz.prog 45 [.lst 26 (Tm.cellsL 26 l), .fn (.func F) [] cs] st (WQ B n (l.any (lies B n)) q st S (.bool (l.any (lies B n)))) := by
  refine ICall.of_vc hT [] [(1, 2)] follows Tryz.call45 Tryz.func45 rfl (by kernel_rfl) fun hfix => ?_
  unfold Tryz.f45
  simp
  refine vcICall_of (indexW_c F cs B n l q st S hq ih) ?_
  rintro r st' ⟨S', rfl, rfl, hS⟩ hf
  simp
  refine endP_mk (.sc (.bool (l.any (lies B n)))) (by simp) ?_ ⟨S', rfl, (Pre.refl _).cut (fix_bool hfix q S') (by simp), hS⟩
  simp
  rw [Bool.eq_iff_iff, ← Tm.fi_iff (lies B n) l 0]; simp
set_option maxRecDepth 100000 in
theorem withinF_c (B : Bs) (n : Int) (x : Tm) (q s : Nat) (st : St) (S : List Int) (hf : Fix st → ∀ S', Fix (st.set q (.map (boolMap S'))))
    (h : ICall T Tryz.prog 167 [.ptr s 0, .sc (.int .i64 n), x.av 26, .mp q] st (WQ B n (lies B n x) q st S (.bool (lies B n x)))) :
    ICall T Tryz.prog 171 [x.av 26, .eptr [.ptr s 0], .eptr [.sc (.int .i64 n)], .eptr [.mp q]] st (WQ B n (lies B n x) q st S (.bool (lies B n x))) := by
  refine ICall.of_vc hT [] [(1, 4)] follows Tryz.call171 Tryz.func171 rfl (by kernel_rfl) fun hfix => ?_
  unfold Tryz.f171
  simp
  refine vcICall_of h ?_
  rintro r st' ⟨S', rfl, rfl, hS⟩ _
  simp
  exact endP_mk (.sc (.bool (lies B n x))) (by simp) (by simp) ⟨S', rfl, (Pre.refl _).cut (hf hfix S') (by simp), hS⟩
set_option maxRecDepth 100000 in
/-- The search for a variable. -/
theorem within_c {B : Bs} (hB : OkB B) (n : Int) (hn : n ∉ keys B) : ∀ (M : Nat) (t : Tm), far B t = M → t.right = true → ∀ (st : St) (s m q : Nat) (X : AV) (S : List Int), st[s]? = some (.cells [.mp m, X]) → st[m]? = some (.map (bsMap B)) → st[q]? = some (.map (boolMap S)) → q ≠ s → q ≠ m → Seen B n t S →
    ICall T Tryz.prog 167 [.ptr s 0, .sc (.int .i64 n), t.av 26, .mp q] st (WQ B n (lies B n t) q st S (.bool (lies B n t))) := by
  intro M
  induction M using Nat.strongRecOn with
  | _ M ih =>
    rintro ⟨k, w, sn, l⟩ hM hr st s m q X S hs hm hq hqs hqm hS
    have r2 := hr
    simp only [Tm.right, Bool.and_eq_true] at r2
    refine ICall.of_vc hT [] [(2, 3), (3, 10), (3, 11), (9, 4)] follows Tryz.call167 Tryz.func167 rfl (by kernel_rfl) fun hfix => ?_
    unfold Tryz.f167
    simp [Tm.cells, hs, hm, hq]
    refine ⟨fun hk => ?_, fun hk => ?_⟩
    · refine vcICall_of (containsW_c 171 [.eptr [.ptr s 0], .eptr [.sc (.int .i64 n)], .eptr [.mp q]] B n l q st S hq fun x hx S' hS' => ?_) ?_
      · refine withinF_c B n x q s _ S' (fun h S2 => by simpa using fix_bool hfix q S2) ?_
        have hfar := far_arg (B := B) (n := w) (s := sn) hk hx
        refine ih (far B x) (by omega) x rfl (rightL_mem r2.2 x hx) _ s m q X S' (get_ne hs hqs) (get_ne hm hqm) (get_set hq) hqs hqm fun v hv => ?_
        rcases hS' v hv with h | ⟨h1, h2⟩
        · obtain ⟨h1, h2⟩ := hS v h
          exact ⟨h1, h2.imp id fun h => by omega⟩
        · exact ⟨h1, .inl h2⟩
      · rintro r st' ⟨S', rfl, rfl, hS'⟩ _
        simp
        rw [lies_args hk]
        exact endP_mk (.sc (.bool (l.any (lies B n)))) (by simp) (by simp) ⟨S', rfl, (Pre.refl _).cut (fix_bool hfix q S') (by simp), hS'⟩
    · subst hk
      have hv : (Tm.mk 1 w sn l).vn = some w := by simp [Tm.vn]
      have et : Tm.mk 1 w sn l = Tm.var w := (Tm.vn_some hv hr).1
      have g1 := get_app hs
      have g2 := get_app hm
      have g3 := get_app hq
      cases hl : lookB B w with
      | none =>
        have e := lies_unb (n := n) hv hl
        rw [e]
        refine ⟨fun i r Z => (i = 10 → r = .ptr st.length 0) ∧ Z = st ++ [.cells (if i = 10 then [.sc (.int .i64 0), .sc (.int .i64 0), .sc (.string .empty), .nils] else [.sc (.int .i64 0), .sc (.int .i64 0), .sc (.string .empty), .nils])], ?_⟩
        simp (decide := true) [hs, hm, hq, g1, g2, g3, bsMap_get, hl]
        refine ⟨by simp (decide := true) [hs, hm, hq, g1, g2, g3, bsMap_get, hl], ?_⟩; simp (decide := true) [hs, hm, hq, g1, g2, g3, bsMap_get, hl]
        refine ⟨by simp (decide := true) [hs, hm, hq, g1, g2, g3, bsMap_get, hl], ?_⟩; simp (decide := true) [hs, hm, hq, g1, g2, g3, bsMap_get, hl]
        refine ⟨by simp (decide := true) [hs, hm, hq, g1, g2, g3, bsMap_get, hl], ?_⟩; simp (decide := true) [hs, hm, hq, g1, g2, g3, bsMap_get, hl]
        refine ⟨by simp (decide := true) [hs, hm, hq, g1, g2, g3, bsMap_get, hl], ?_⟩; simp (decide := true) [hs, hm, hq, g1, g2, g3, bsMap_get, hl]
        refine ⟨by simp (decide := true) [hs, hm, hq, g1, g2, g3, bsMap_get, hl], ?_⟩; simp (decide := true) [hs, hm, hq, g1, g2, g3, bsMap_get, hl]
        refine ⟨by simp (decide := true) [hs, hm, hq, g1, g2, g3, bsMap_get, hl], ?_⟩; simp (decide := true) [hs, hm, hq, g1, g2, g3, bsMap_get, hl]
        refine ⟨by simp (decide := true) [hs, hm, hq, g1, g2, g3, bsMap_get, hl], ?_⟩; simp (decide := true) [hs, hm, hq, g1, g2, g3, bsMap_get, hl]
        refine ⟨by simp (decide := true) [hs, hm, hq, g1, g2, g3, bsMap_get, hl], ?_⟩; simp (decide := true) [hs, hm, hq, g1, g2, g3, bsMap_get, hl]
        refine ⟨by simp (decide := true) [hs, hm, hq, g1, g2, g3, bsMap_get, hl], ?_⟩; simp (decide := true) [hs, hm, hq, g1, g2, g3, bsMap_get, hl]
        refine ⟨by simp (decide := true) [hs, hm, hq, g1, g2, g3, bsMap_get, hl], ?_⟩; simp (decide := true) [hs, hm, hq, g1, g2, g3, bsMap_get, hl]
        refine ⟨by simp, rfl, by simp [vcI, hs, hm, hq, g1, g2, g3, bsMap_get, hl], ?_⟩
        simp (decide := true) [hs, hm, hq, g1, g2, g3, bsMap_get, hl]; try intro _
        try simp (decide := true) [hs, hm, hq, g1, g2, g3, bsMap_get, hl]
        refine ⟨by simp, rfl, by simp [vcI, hs, hm, hq, g1, g2, g3, bsMap_get, hl], ?_⟩
        simp (decide := true) [hs, hm, hq, g1, g2, g3, bsMap_get, hl]; try intro _
        try simp (decide := true) [hs, hm, hq, g1, g2, g3, bsMap_get, hl]
        refine ⟨by simp (decide := true) [hs, hm, hq, g1, g2, g3, bsMap_get, hl], ?_⟩; simp (decide := true) [hs, hm, hq, g1, g2, g3, bsMap_get, hl]
        have done : ∀ (σ : Slots) b, σ 8 = .sc (.bool b) → b = decide (n = w) → endP T [ResultVar.tmp 8] st.length (WQ B n (decide (n = w)) q st S (.bool (decide (n = w)))) σ (st ++ [.cells [.sc (.int .i64 0), .sc (.int .i64 0), .sc (.string .empty), .nils]]) := fun σ b h8 hb => by
          refine endP_mk (.sc (.bool (decide (n = w)))) (by simp) (by simp [h8, hb]) ⟨S, rfl, ?_, fun _ => Seen2.refl B n S⟩
          rw [set_same hq]; exact ((Pre.refl st).app _).cut hfix rfl
        refine ⟨fun h => done _ true rfl (by simp [h]), fun h => ?_⟩
        by_cases hw : w ∈ S <;> simp [boolMap_get, hw] <;> exact done _ false rfl (by simp; exact fun e => h e.symm)
      | some u =>
        have e := lies_step (n := n) hB hv hl hr
        rw [e]
        refine ⟨fun i r Z => (i = 10 → r = .ptr st.length 0) ∧ Z = st ++ [.cells (if i = 10 then [.sc (.int .i64 0), .sc (.int .i64 0), .sc (.string .empty), .nils] else u.cells 26)], ?_⟩
        simp (decide := true) [hs, hm, hq, g1, g2, g3, bsMap_get, hl]
        refine ⟨by simp (decide := true) [hs, hm, hq, g1, g2, g3, bsMap_get, hl], ?_⟩; simp (decide := true) [hs, hm, hq, g1, g2, g3, bsMap_get, hl]
        refine ⟨by simp (decide := true) [hs, hm, hq, g1, g2, g3, bsMap_get, hl], ?_⟩; simp (decide := true) [hs, hm, hq, g1, g2, g3, bsMap_get, hl]
        refine ⟨by simp (decide := true) [hs, hm, hq, g1, g2, g3, bsMap_get, hl], ?_⟩; simp (decide := true) [hs, hm, hq, g1, g2, g3, bsMap_get, hl]
        refine ⟨by simp (decide := true) [hs, hm, hq, g1, g2, g3, bsMap_get, hl], ?_⟩; simp (decide := true) [hs, hm, hq, g1, g2, g3, bsMap_get, hl]
        refine ⟨by simp (decide := true) [hs, hm, hq, g1, g2, g3, bsMap_get, hl], ?_⟩; simp (decide := true) [hs, hm, hq, g1, g2, g3, bsMap_get, hl]
        refine ⟨by simp (decide := true) [hs, hm, hq, g1, g2, g3, bsMap_get, hl], ?_⟩; simp (decide := true) [hs, hm, hq, g1, g2, g3, bsMap_get, hl]
        refine ⟨by simp (decide := true) [hs, hm, hq, g1, g2, g3, bsMap_get, hl], ?_⟩; simp (decide := true) [hs, hm, hq, g1, g2, g3, bsMap_get, hl]
        refine ⟨by simp (decide := true) [hs, hm, hq, g1, g2, g3, bsMap_get, hl], ?_⟩; simp (decide := true) [hs, hm, hq, g1, g2, g3, bsMap_get, hl]
        refine ⟨by simp (decide := true) [hs, hm, hq, g1, g2, g3, bsMap_get, hl], ?_⟩; simp (decide := true) [hs, hm, hq, g1, g2, g3, bsMap_get, hl]
        refine ⟨by simp (decide := true) [hs, hm, hq, g1, g2, g3, bsMap_get, hl], ?_⟩; simp (decide := true) [hs, hm, hq, g1, g2, g3, bsMap_get, hl]
        refine ⟨by simp, rfl, by simp [vcI, hs, hm, hq, g1, g2, g3, bsMap_get, hl], ?_⟩
        simp (decide := true) [hs, hm, hq, g1, g2, g3, bsMap_get, hl]; try intro _
        try simp (decide := true) [hs, hm, hq, g1, g2, g3, bsMap_get, hl]
        refine ⟨by simp, rfl, by simp [vcI, hs, hm, hq, g1, g2, g3, bsMap_get, hl], ?_⟩
        simp (decide := true) [hs, hm, hq, g1, g2, g3, bsMap_get, hl]; try intro _
        try simp (decide := true) [hs, hm, hq, g1, g2, g3, bsMap_get, hl]
        refine ⟨by simp (decide := true) [hs, hm, hq, g1, g2, g3, bsMap_get, hl], ?_⟩; simp (decide := true) [hs, hm, hq, g1, g2, g3, bsMap_get, hl]
        have hwn : ¬ w = n := fun e => hn (by rw [← e]; exact Classical.not_not.1 fun h => by rw [look_none.2 h] at hl; cases hl)
        have hwk : w ∈ keys B := Classical.not_not.1 fun h => by rw [look_none.2 h] at hl; cases hl
        refine ⟨fun h => absurd h hwn, fun _ => ?_⟩
        by_cases hw : w ∈ S
        · simp [boolMap_get, hw]
          have hlf : lies B n u = false := by
            rw [← e, et]
            rcases (hS w hw).2 with h | h
            · exact h
            · rw [et] at h; omega
          rw [hlf]
          refine endP_mk (.sc (.bool false)) (by simp) (by simp) ⟨S, rfl, ?_, fun _ => Seen2.refl B n S⟩
          rw [set_same hq]; exact ((Pre.refl st).app _).cut hfix rfl
        · have hfar := far_step hB hv hl hr
          simp [boolMap_get, hw, g1, g2, g3, boolMap_put, set_app hq, Tm.cells]
          refine vcICall_of (ih (far B u) (by omega) u rfl (OkB_look hB hl) _ s m q X (S ++ [w]) (get_app (get_ne hs hqs) _) (get_app (get_ne hm hqm) _) (get_app (get_set hq) _) hqs hqm fun v hv => ?_) ?_
          · rcases List.mem_append.1 hv with h | h
            · obtain ⟨h1, h2⟩ := hS v h
              exact ⟨h1, h2.imp id fun h => by omega⟩
            · simp at h; subst h
              rw [et] at hfar
              exact ⟨hwk, .inr hfar⟩
          · rintro r st' ⟨S', rfl, rfl, hS'⟩ _
            simp
            refine endP_mk (.sc (.bool (lies B n u))) (by simp) (by simp) ⟨S', rfl, ?_, fun h v hv => ?_⟩
            · have := (((Pre.refl st).set2 q (.map (boolMap (S ++ [w])))).app [.cells (u.cells 26)]).set2 q (.map (boolMap S'))
              rw [List.set_set] at this
              exact this.cut (fix_bool hfix q S') (by simp)
            · rcases hS' h v hv with h1 | h1
              · rcases List.mem_append.1 h1 with h1 | h1
                · exact .inl h1
                · simp at h1; subst h1
                  exact .inr ⟨hwk, by rw [← et, e]; exact h⟩
              · exact .inr h1
end Go.T1
end

section
open Go Go.Ab Go.Proofs
namespace Go.T1
/-- Where the bindings lie: the struct, its map, its row. -/
structure SS (st : St) (s m o g : Nat) (al : Bool) (B : Bs) : Prop where
  hs : st[s]? = some (.cells [.mp m, .own o g])
  hm : st[m]? = some (.map (bsMap B))
  ho : st[o]? = some (.row 3 g al (intsL (keys B)))
  hal : B ≠ [] → al = true
  sm : s ≠ m
  so : s ≠ o
  mo : m ≠ o
/-- The same with other bindings. -/
def sST (st : St) (s m o g : Nat) (al : Bool) (B : Bs) : St := ((st.set m (.map (bsMap B))).set o (.row 3 g al (intsL (keys B)))).set s (.cells [.mp m, .own o g])
section
variable {st : St} {s m o g g' : Nat} {al al' : Bool} {B B' : Bs}
theorem SS.same (h : SS st s m o g al B) : sST st s m o g al B = st := by
  unfold sST; rw [set_same h.hm, set_same h.ho, set_same h.hs]
theorem SS.put (h : SS st s m o g al B) (h' : B' ≠ [] → al' = true) : SS (sST st s m o g' al' B') s m o g' al' B' := by
  refine ⟨?_, ?_, ?_, h', h.sm, h.so, h.mo⟩
  · unfold sST; exact get_set (get_ne (get_ne h.hs (Ne.symm h.sm)) (Ne.symm h.so))
  · unfold sST; exact get_ne (get_ne (get_set h.hm) (Ne.symm h.mo)) h.sm
  · unfold sST; exact get_ne (get_set (get_ne h.ho h.mo)) h.so
theorem sST_other {i : Nat} {b : Blk} (h : st[i]? = some b) (h1 : s ≠ i) (h2 : m ≠ i) (h3 : o ≠ i) : (sST st s m o g al B)[i]? = some b := get_ne (get_ne (get_ne h h2) h3) h1
theorem sST_app (h : SS st s m o g al B) (l : St) : sST (st ++ l) s m o g' al' B' = sST st s m o g' al' B' ++ l := by
  unfold sST; rw [set_app h.hm, set_app (get_ne h.ho h.mo), set_app (get_ne (get_ne h.hs (Ne.symm h.sm)) (Ne.symm h.so))]
theorem SS.app (h : SS st s m o g al B) (l : St) : SS (st ++ l) s m o g al B := ⟨get_app h.hs l, get_app h.hm l, get_app h.ho l, h.hal, h.sm, h.so, h.mo⟩
theorem set_comm (st : St) {i j : Nat} (h : i ≠ j) (a b : Blk) : (st.set i a).set j b = (st.set j b).set i a := by rw [List.set_comm _ _ h]
theorem sST_sST (hsm : s ≠ m) (hso : s ≠ o) (hmo : m ≠ o) (st : St) (g g' : Nat) (al al' : Bool) (B B' : Bs) : sST (sST st s m o g al B) s m o g' al' B' = sST st s m o g' al' B' := by
  unfold sST
  rw [set_comm _ hsm, set_comm _ hso, List.set_set, set_comm (st.set m _) (Ne.symm hmo), List.set_set, List.set_set]
theorem sST_pre {X Y : St} (h : Pre X Y) : Pre (sST X s m o g al B) (sST Y s m o g al B) := ((h.set2 _ _).set2 _ _).set2 _ _
theorem sST_len : (sST st s m o g al B).length = st.length := by simp [sST]
theorem fix_SS (h : Fix st) (hS : SS st s m o g al B) (g' : Nat) (al' : Bool) (B' : Bs) : Fix (sST st s m o g' al' B') := by
  have h1 := lt_of_get hS.hm
  have h2 := lt_of_get hS.ho
  unfold sST
  refine fix_set (fix_set (fix_set h m fun N S _ => cut_bs N S B') o fun N S _ => by rw [cut_row, intsL_cut]) s fun N S hN => ?_
  simp at hN
  simp [cut_cells, AV.cutL, AV.cut]; omega
theorem SS.lts (h : SS st s m o g al B) : s < st.length ∧ m < st.length ∧ o < st.length := ⟨lt_of_get h.hs, lt_of_get h.hm, lt_of_get h.ho⟩
end
/-- What comes of binding. -/
def BQ (B : Bs) (n : Int) (t : Tm) (st : St) (s m o g : Nat) (r : AV) (st' : St) : Prop :=
  (lies B n t = true ∧ r = .sc (.bool false) ∧ st' = st) ∨ (lies B n t = false ∧ r = .sc (.bool true) ∧ st' = sST st s m o (g + 1) true (B ++ [(n, t)]))
set_option maxRecDepth 100000 in
theorem bind_c {B : Bs} (hB : OkB B) (n : Int) (t : Tm) (hn : n ∉ keys B) (hr : t.right = true) (hsz : B.length ≤ 1000000000) (st : St) (s m o g : Nat) (al : Bool) (h : SS st s m o g al B) :
    ICall T Tryz.prog 153 [.ptr s 0, .sc (.int .i64 n), t.av 26] st (BQ B n t st s m o g) := by
  obtain ⟨l1, l2, l3⟩ := h.lts
  refine ICall.of_vc hT [] [(1, 4), (4, 7)] follows Tryz.call153 Tryz.func153 rfl (by kernel_rfl) fun hfix => ?_
  unfold Tryz.f153
  simp
  refine vcICall_of (within_c hB n hn _ t rfl hr (st ++ [.map []]) s m st.length (.own o g) [] (get_app h.hs _) (get_app h.hm _) (get_last _ _) (by omega) (by omega) fun v hv => by cases hv) ?_
  rintro r st' ⟨S', rfl, rfl, _⟩ _
  have hS := h.app [.map (boolMap S')]
  have e0 : ∀ b, (st ++ [Blk.map []]).set st.length b = st ++ [b] := fun b => by simp
  rw [e0]
  simp [hS.hs, hS.hm, hS.ho]
  refine ⟨fun hl => ?_, fun hl => ?_⟩
  · exact endP_mk (.sc (.bool false)) (by simp) (by simp) (.inl ⟨hl, rfl, ((Pre.refl st).app _).cut hfix rfl⟩)
  · simp [get_ne hS.hs (Ne.symm h.sm), get_ne hS.ho h.mo]
    have q1 := fun a b => get_ne (i := o) (b := b) (get_ne (i := m) (b := a) hS.hs (Ne.symm h.sm)) (Ne.symm h.so)
    have q2 := fun a b => get_set (b := b) (get_ne (i := m) (b := a) hS.ho h.mo)
    simp [q1, q2]
    refine ⟨by omega, ?_⟩
    refine endP_mk (.sc (.bool true)) (by simp) (by simp) (.inr ⟨hl, rfl, ?_⟩)
    have := sST_pre (s := s) (m := m) (o := o) (g := g + 1) (al := true) (B := B ++ [(n, t)]) ((Pre.refl st).app [.map (boolMap S')])
    have e1 := bsMap_put B n t hn
    have e2 : intsL (keys (B ++ [(n, t)])) = intsL (keys B) ++ [[.sc (.int .i64 n)]] := by rw [keys_append, intsL_append]; rfl
    rw [e1, ← e2]
    exact this.cut (fix_SS hfix h _ _ _) (by rw [sST_len])
end Go.T1
end

section
open Go Go.Ab Go.Proofs
namespace Go.T1
/-- Pairs that were held against each other. -/
abbrev Ps := List (Int × Int)
def pairMap (P : Ps) : List (Value × AV) := P.map fun p => (.agg #[.int .i64 p.1, .int .i64 p.2], .sc (.bool true))
theorem pairMap_cons (p : Int × Int) (P : Ps) : pairMap (p :: P) = (.agg #[.int .i64 p.1, .int .i64 p.2], .sc (.bool true)) :: pairMap P := rfl
@[simp] theorem pairMap_keys : ∀ P : Ps, pairKeys (pairMap P) = true
  | [] => rfl
  | x :: xs => by have := pairMap_keys xs; simp only [pairKeys, pairMap_cons, List.all_cons, Bool.and_eq_true] at this ⊢; exact ⟨rfl, this⟩
theorem isKP_eq (a b : Int) : isKP a b (.agg #[.int .i64 a, .int .i64 b]) = true := by simp [isKP]
theorem isKP_ne {a b x y : Int} (h : ¬ (x = a ∧ y = b)) : isKP a b (.agg #[.int .i64 x, .int .i64 y]) = false := by simp [isKP]; exact fun h1 h2 => h ⟨h1, h2⟩
theorem pairMap_get : ∀ (P : Ps) (a b : Int), mgetP (pairMap P) a b = if (a, b) ∈ P then some (.sc (.bool true)) else none
  | [], _, _ => rfl
  | (x, y) :: P, a, b => by
    have ih := pairMap_get P a b
    by_cases h : x = a ∧ y = b
    · obtain ⟨rfl, rfl⟩ := h
      simp [pairMap_cons, mgetP, isKP_eq]
    · have h' : ¬ (a = x ∧ b = y) := fun e => h ⟨e.1.symm, e.2.symm⟩
      simp [pairMap_cons, mgetP, isKP_ne h, h', ih]
theorem pairMap_put : ∀ (P : Ps) (a b : Int), (a, b) ∉ P → mputP (pairMap P) a b (.sc (.bool true)) = pairMap (P ++ [(a, b)])
  | [], _, _, _ => rfl
  | (x, y) :: P, a, b, h => by
    simp only [List.mem_cons, not_or, Prod.mk.injEq] at h
    have ih := pairMap_put P a b h.2
    have h' : ¬ (x = a ∧ y = b) := fun e => h.1 ⟨e.1.symm, e.2.symm⟩
    simp [pairMap_cons, mputP, isKP_ne h', ih]
theorem pairMap_cut (N : Nat) (Z : St) : ∀ P : Ps, (pairMap P).map (fun p => (p.1, p.2.cut N Z)) = pairMap P
  | [] => rfl
  | m :: S => by have ih := pairMap_cut N Z S; simp only [pairMap_cons, List.map_cons, AV.cut, ih]
theorem fix_pair {st : St} (h : Fix st) (q : Nat) (P : Ps) : Fix (st.set q (.map (pairMap P))) := fix_set h q fun N Z _ => by simp only [Blk.cut, pairMap_cut]
/-- Two bound variables? -/
def bothV (B : Bs) (a b : Tm) : Option (Int × Int) :=
  match a.vn, b.vn with
  | some x, some y => if x ∈ keys B ∧ y ∈ keys B then some (x, y) else none
  | _, _ => none
def againB (B : Bs) (P : Ps) (a b : Tm) : Bool := match bothV B a b with | some p => decide (p ∈ P) | none => false
def againP (B : Bs) (P : Ps) (a b : Tm) : Ps := match bothV B a b with | some p => if p ∈ P then P else P ++ [p] | none => P
set_option maxRecDepth 100000 in
theorem again_c {B : Bs} (P : Ps) (a b : Tm) (st : St) (M s m o g q : Nat) (al : Bool) (h : SS st s m o g al B) (hM : st[M]? = some (.cells [.ptr s 0, .mp q])) (hq : st[q]? = some (.map (pairMap P))) :
    ICall T Tryz.prog 151 [.ptr M 0, a.av 26, b.av 26] st (fun r st' => r = .sc (.bool (againB B P a b)) ∧ st' = st.set q (.map (pairMap (againP B P a b)))) := by
  obtain ⟨l1, l2, l3⟩ := h.lts
  have hs := h.hs
  have hm := h.hm
  have g1 := get_app hs
  have g2 := get_app hm
  have g3 := get_app hM
  have g4 := get_app hq
  obtain ⟨k, x, sx, l⟩ := a
  obtain ⟨k', y, sy, l'⟩ := b
  refine ICall.of_vc hT [] [(3, 13), (3, 14), (4, 13), (4, 14)] follows Tryz.call151 Tryz.func151 rfl (by kernel_rfl) fun hfix => ?_
  unfold Tryz.f151
  simp [Tm.cells]
  have stay : ∀ (σ : Slots) (Y : St), σ 6 = .sc (.bool false) → Pre st Y → bothV B (.mk k x sx l) (.mk k' y sy l') = none → endP T [ResultVar.tmp 6] st.length (fun r st' => r = .sc (.bool (againB B P (.mk k x sx l) (.mk k' y sy l'))) ∧ st' = st.set q (.map (pairMap (againP B P (.mk k x sx l) (.mk k' y sy l'))))) σ Y := by
    intro σ Y h6 hY hb
    refine endP_mk (.sc (.bool false)) (by simp) (by simp [h6]) ⟨by simp [againB, hb], ?_⟩
    simp only [againP, hb]
    rw [set_same hq]; exact hY.cut hfix rfl
  refine ⟨fun hk => stay _ _ rfl (Pre.refl st) ?_, fun hk hk' => ?_⟩
  · unfold bothV
    simp only [vn_eq]
    rcases hk with hk | hk
    · rw [if_neg hk]
    · rw [if_neg hk]; split <;> simp_all
  subst hk
  subst hk'
  have hv1 : (Tm.mk 1 x sx l).vn = some x := by simp [Tm.vn]
  have hv2 : (Tm.mk 1 y sy l').vn = some y := by simp [Tm.vn]
  cases hl1 : lookB B x with
  | none =>
    cases hl2 : lookB B y with
    | none =>
      refine ⟨fun i r Z => (i = 13 → r = .ptr st.length 0) ∧ Z = st ++ [.cells (if i = 13 then [.sc (.int .i64 0), .sc (.int .i64 0), .sc (.string .empty), .nils] else [.sc (.int .i64 0), .sc (.int .i64 0), .sc (.string .empty), .nils])], ?_⟩
      simp (decide := true) [hs, hm, hM, hq, g1, g2, g3, g4, bsMap_get, hl1, hl2, List.append_assoc]
      refine ⟨by simp (decide := true) [hs, hm, hM, hq, g1, g2, g3, g4, bsMap_get, hl1, hl2, List.append_assoc], ?_⟩; simp (decide := true) [hs, hm, hM, hq, g1, g2, g3, g4, bsMap_get, hl1, hl2, List.append_assoc]
      refine ⟨by simp (decide := true) [hs, hm, hM, hq, g1, g2, g3, g4, bsMap_get, hl1, hl2, List.append_assoc], ?_⟩; simp (decide := true) [hs, hm, hM, hq, g1, g2, g3, g4, bsMap_get, hl1, hl2, List.append_assoc]
      refine ⟨by simp (decide := true) [hs, hm, hM, hq, g1, g2, g3, g4, bsMap_get, hl1, hl2, List.append_assoc], ?_⟩; simp (decide := true) [hs, hm, hM, hq, g1, g2, g3, g4, bsMap_get, hl1, hl2, List.append_assoc]
      refine ⟨by simp (decide := true) [hs, hm, hM, hq, g1, g2, g3, g4, bsMap_get, hl1, hl2, List.append_assoc], ?_⟩; simp (decide := true) [hs, hm, hM, hq, g1, g2, g3, g4, bsMap_get, hl1, hl2, List.append_assoc]
      refine ⟨by simp (decide := true) [hs, hm, hM, hq, g1, g2, g3, g4, bsMap_get, hl1, hl2, List.append_assoc], ?_⟩; simp (decide := true) [hs, hm, hM, hq, g1, g2, g3, g4, bsMap_get, hl1, hl2, List.append_assoc]
      refine ⟨by simp (decide := true) [hs, hm, hM, hq, g1, g2, g3, g4, bsMap_get, hl1, hl2, List.append_assoc], ?_⟩; simp (decide := true) [hs, hm, hM, hq, g1, g2, g3, g4, bsMap_get, hl1, hl2, List.append_assoc]
      refine ⟨by simp (decide := true) [hs, hm, hM, hq, g1, g2, g3, g4, bsMap_get, hl1, hl2, List.append_assoc], ?_⟩; simp (decide := true) [hs, hm, hM, hq, g1, g2, g3, g4, bsMap_get, hl1, hl2, List.append_assoc]
      refine ⟨by simp (decide := true) [hs, hm, hM, hq, g1, g2, g3, g4, bsMap_get, hl1, hl2, List.append_assoc], ?_⟩; simp (decide := true) [hs, hm, hM, hq, g1, g2, g3, g4, bsMap_get, hl1, hl2, List.append_assoc]
      refine ⟨by simp (decide := true) [hs, hm, hM, hq, g1, g2, g3, g4, bsMap_get, hl1, hl2, List.append_assoc], ?_⟩; simp (decide := true) [hs, hm, hM, hq, g1, g2, g3, g4, bsMap_get, hl1, hl2, List.append_assoc]
      refine ⟨by simp (decide := true) [hs, hm, hM, hq, g1, g2, g3, g4, bsMap_get, hl1, hl2, List.append_assoc], ?_⟩; simp (decide := true) [hs, hm, hM, hq, g1, g2, g3, g4, bsMap_get, hl1, hl2, List.append_assoc]
      refine ⟨by simp (decide := true) [hs, hm, hM, hq, g1, g2, g3, g4, bsMap_get, hl1, hl2, List.append_assoc], ?_⟩; simp (decide := true) [hs, hm, hM, hq, g1, g2, g3, g4, bsMap_get, hl1, hl2, List.append_assoc]
      refine ⟨by simp (decide := true) [hs, hm, hM, hq, g1, g2, g3, g4, bsMap_get, hl1, hl2, List.append_assoc], ?_⟩; simp (decide := true) [hs, hm, hM, hq, g1, g2, g3, g4, bsMap_get, hl1, hl2, List.append_assoc]
      refine ⟨by simp (decide := true) [hs, hm, hM, hq, g1, g2, g3, g4, bsMap_get, hl1, hl2, List.append_assoc], ?_⟩; simp (decide := true) [hs, hm, hM, hq, g1, g2, g3, g4, bsMap_get, hl1, hl2, List.append_assoc]
      refine ⟨by simp, rfl, by simp [vcI, hs, hm, hM, hq, g1, g2, g3, g4, bsMap_get, hl1, hl2, List.append_assoc], ?_⟩
      simp (decide := true) [hs, hm, hM, hq, g1, g2, g3, g4, bsMap_get, hl1, hl2, List.append_assoc]; try intro _
      try simp (decide := true) [hs, hm, hM, hq, g1, g2, g3, g4, bsMap_get, hl1, hl2, List.append_assoc]
      refine ⟨by simp, rfl, by simp [vcI, hs, hm, hM, hq, g1, g2, g3, g4, bsMap_get, hl1, hl2, List.append_assoc], ?_⟩
      simp (decide := true) [hs, hm, hM, hq, g1, g2, g3, g4, bsMap_get, hl1, hl2, List.append_assoc]; try intro _
      try simp (decide := true) [hs, hm, hM, hq, g1, g2, g3, g4, bsMap_get, hl1, hl2, List.append_assoc]
      refine ⟨by simp (decide := true) [hs, hm, hM, hq, g1, g2, g3, g4, bsMap_get, hl1, hl2, List.append_assoc], ?_⟩; simp (decide := true) [hs, hm, hM, hq, g1, g2, g3, g4, bsMap_get, hl1, hl2, List.append_assoc]
      refine ⟨fun i r Z => (i = 13 → r = .ptr (st.length + 1) 0) ∧ Z = st ++ [.cells ([.sc (.int .i64 0), .sc (.int .i64 0), .sc (.string .empty), .nils]), .cells (if i = 13 then [.sc (.int .i64 0), .sc (.int .i64 0), .sc (.string .empty), .nils] else [.sc (.int .i64 0), .sc (.int .i64 0), .sc (.string .empty), .nils])], ?_⟩
      simp (decide := true) [hs, hm, hM, hq, g1, g2, g3, g4, bsMap_get, hl1, hl2, List.append_assoc]
      refine ⟨by simp (decide := true) [hs, hm, hM, hq, g1, g2, g3, g4, bsMap_get, hl1, hl2, List.append_assoc], ?_⟩; simp (decide := true) [hs, hm, hM, hq, g1, g2, g3, g4, bsMap_get, hl1, hl2, List.append_assoc]
      refine ⟨by simp (decide := true) [hs, hm, hM, hq, g1, g2, g3, g4, bsMap_get, hl1, hl2, List.append_assoc], ?_⟩; simp (decide := true) [hs, hm, hM, hq, g1, g2, g3, g4, bsMap_get, hl1, hl2, List.append_assoc]
      refine ⟨by simp (decide := true) [hs, hm, hM, hq, g1, g2, g3, g4, bsMap_get, hl1, hl2, List.append_assoc], ?_⟩; simp (decide := true) [hs, hm, hM, hq, g1, g2, g3, g4, bsMap_get, hl1, hl2, List.append_assoc]
      refine ⟨by simp (decide := true) [hs, hm, hM, hq, g1, g2, g3, g4, bsMap_get, hl1, hl2, List.append_assoc], ?_⟩; simp (decide := true) [hs, hm, hM, hq, g1, g2, g3, g4, bsMap_get, hl1, hl2, List.append_assoc]
      refine ⟨by simp (decide := true) [hs, hm, hM, hq, g1, g2, g3, g4, bsMap_get, hl1, hl2, List.append_assoc], ?_⟩; simp (decide := true) [hs, hm, hM, hq, g1, g2, g3, g4, bsMap_get, hl1, hl2, List.append_assoc]
      refine ⟨by simp (decide := true) [hs, hm, hM, hq, g1, g2, g3, g4, bsMap_get, hl1, hl2, List.append_assoc], ?_⟩; simp (decide := true) [hs, hm, hM, hq, g1, g2, g3, g4, bsMap_get, hl1, hl2, List.append_assoc]
      refine ⟨by simp (decide := true) [hs, hm, hM, hq, g1, g2, g3, g4, bsMap_get, hl1, hl2, List.append_assoc], ?_⟩; simp (decide := true) [hs, hm, hM, hq, g1, g2, g3, g4, bsMap_get, hl1, hl2, List.append_assoc]
      refine ⟨by simp (decide := true) [hs, hm, hM, hq, g1, g2, g3, g4, bsMap_get, hl1, hl2, List.append_assoc], ?_⟩; simp (decide := true) [hs, hm, hM, hq, g1, g2, g3, g4, bsMap_get, hl1, hl2, List.append_assoc]
      refine ⟨by simp (decide := true) [hs, hm, hM, hq, g1, g2, g3, g4, bsMap_get, hl1, hl2, List.append_assoc], ?_⟩; simp (decide := true) [hs, hm, hM, hq, g1, g2, g3, g4, bsMap_get, hl1, hl2, List.append_assoc]
      refine ⟨by simp (decide := true) [hs, hm, hM, hq, g1, g2, g3, g4, bsMap_get, hl1, hl2, List.append_assoc], ?_⟩; simp (decide := true) [hs, hm, hM, hq, g1, g2, g3, g4, bsMap_get, hl1, hl2, List.append_assoc]
      refine ⟨by simp (decide := true) [hs, hm, hM, hq, g1, g2, g3, g4, bsMap_get, hl1, hl2, List.append_assoc], ?_⟩; simp (decide := true) [hs, hm, hM, hq, g1, g2, g3, g4, bsMap_get, hl1, hl2, List.append_assoc]
      refine ⟨by simp (decide := true) [hs, hm, hM, hq, g1, g2, g3, g4, bsMap_get, hl1, hl2, List.append_assoc], ?_⟩; simp (decide := true) [hs, hm, hM, hq, g1, g2, g3, g4, bsMap_get, hl1, hl2, List.append_assoc]
      refine ⟨by simp (decide := true) [hs, hm, hM, hq, g1, g2, g3, g4, bsMap_get, hl1, hl2, List.append_assoc], ?_⟩; simp (decide := true) [hs, hm, hM, hq, g1, g2, g3, g4, bsMap_get, hl1, hl2, List.append_assoc]
      refine ⟨by simp, rfl, by simp [vcI, hs, hm, hM, hq, g1, g2, g3, g4, bsMap_get, hl1, hl2, List.append_assoc], ?_⟩
      simp (decide := true) [hs, hm, hM, hq, g1, g2, g3, g4, bsMap_get, hl1, hl2, List.append_assoc]; try intro _
      try simp (decide := true) [hs, hm, hM, hq, g1, g2, g3, g4, bsMap_get, hl1, hl2, List.append_assoc]
      refine ⟨by simp, rfl, by simp [vcI, hs, hm, hM, hq, g1, g2, g3, g4, bsMap_get, hl1, hl2, List.append_assoc], ?_⟩
      simp (decide := true) [hs, hm, hM, hq, g1, g2, g3, g4, bsMap_get, hl1, hl2, List.append_assoc]; try intro _
      try simp (decide := true) [hs, hm, hM, hq, g1, g2, g3, g4, bsMap_get, hl1, hl2, List.append_assoc]
      refine ⟨by simp (decide := true) [hs, hm, hM, hq, g1, g2, g3, g4, bsMap_get, hl1, hl2, List.append_assoc], ?_⟩; simp (decide := true) [hs, hm, hM, hq, g1, g2, g3, g4, bsMap_get, hl1, hl2, List.append_assoc]
      have hb : bothV B (.mk 1 x sx l) (.mk 1 y sy l') = none := by simp [bothV, hv1, hv2, look_none.1 hl1]
      by_cases hp : (x, y) ∈ P <;> simp [pairMap_get, hp] <;> exact stay _ _ rfl ((Pre.refl st).app _) hb
    | some v =>
      refine ⟨fun i r Z => (i = 13 → r = .ptr st.length 0) ∧ Z = st ++ [.cells (if i = 13 then [.sc (.int .i64 0), .sc (.int .i64 0), .sc (.string .empty), .nils] else [.sc (.int .i64 0), .sc (.int .i64 0), .sc (.string .empty), .nils])], ?_⟩
      simp (decide := true) [hs, hm, hM, hq, g1, g2, g3, g4, bsMap_get, hl1, hl2, List.append_assoc]
      refine ⟨by simp (decide := true) [hs, hm, hM, hq, g1, g2, g3, g4, bsMap_get, hl1, hl2, List.append_assoc], ?_⟩; simp (decide := true) [hs, hm, hM, hq, g1, g2, g3, g4, bsMap_get, hl1, hl2, List.append_assoc]
      refine ⟨by simp (decide := true) [hs, hm, hM, hq, g1, g2, g3, g4, bsMap_get, hl1, hl2, List.append_assoc], ?_⟩; simp (decide := true) [hs, hm, hM, hq, g1, g2, g3, g4, bsMap_get, hl1, hl2, List.append_assoc]
      refine ⟨by simp (decide := true) [hs, hm, hM, hq, g1, g2, g3, g4, bsMap_get, hl1, hl2, List.append_assoc], ?_⟩; simp (decide := true) [hs, hm, hM, hq, g1, g2, g3, g4, bsMap_get, hl1, hl2, List.append_assoc]
      refine ⟨by simp (decide := true) [hs, hm, hM, hq, g1, g2, g3, g4, bsMap_get, hl1, hl2, List.append_assoc], ?_⟩; simp (decide := true) [hs, hm, hM, hq, g1, g2, g3, g4, bsMap_get, hl1, hl2, List.append_assoc]
      refine ⟨by simp (decide := true) [hs, hm, hM, hq, g1, g2, g3, g4, bsMap_get, hl1, hl2, List.append_assoc], ?_⟩; simp (decide := true) [hs, hm, hM, hq, g1, g2, g3, g4, bsMap_get, hl1, hl2, List.append_assoc]
      refine ⟨by simp (decide := true) [hs, hm, hM, hq, g1, g2, g3, g4, bsMap_get, hl1, hl2, List.append_assoc], ?_⟩; simp (decide := true) [hs, hm, hM, hq, g1, g2, g3, g4, bsMap_get, hl1, hl2, List.append_assoc]
      refine ⟨by simp (decide := true) [hs, hm, hM, hq, g1, g2, g3, g4, bsMap_get, hl1, hl2, List.append_assoc], ?_⟩; simp (decide := true) [hs, hm, hM, hq, g1, g2, g3, g4, bsMap_get, hl1, hl2, List.append_assoc]
      refine ⟨by simp (decide := true) [hs, hm, hM, hq, g1, g2, g3, g4, bsMap_get, hl1, hl2, List.append_assoc], ?_⟩; simp (decide := true) [hs, hm, hM, hq, g1, g2, g3, g4, bsMap_get, hl1, hl2, List.append_assoc]
      refine ⟨by simp (decide := true) [hs, hm, hM, hq, g1, g2, g3, g4, bsMap_get, hl1, hl2, List.append_assoc], ?_⟩; simp (decide := true) [hs, hm, hM, hq, g1, g2, g3, g4, bsMap_get, hl1, hl2, List.append_assoc]
      refine ⟨by simp (decide := true) [hs, hm, hM, hq, g1, g2, g3, g4, bsMap_get, hl1, hl2, List.append_assoc], ?_⟩; simp (decide := true) [hs, hm, hM, hq, g1, g2, g3, g4, bsMap_get, hl1, hl2, List.append_assoc]
      refine ⟨by simp (decide := true) [hs, hm, hM, hq, g1, g2, g3, g4, bsMap_get, hl1, hl2, List.append_assoc], ?_⟩; simp (decide := true) [hs, hm, hM, hq, g1, g2, g3, g4, bsMap_get, hl1, hl2, List.append_assoc]
      refine ⟨by simp (decide := true) [hs, hm, hM, hq, g1, g2, g3, g4, bsMap_get, hl1, hl2, List.append_assoc], ?_⟩; simp (decide := true) [hs, hm, hM, hq, g1, g2, g3, g4, bsMap_get, hl1, hl2, List.append_assoc]
      refine ⟨by simp (decide := true) [hs, hm, hM, hq, g1, g2, g3, g4, bsMap_get, hl1, hl2, List.append_assoc], ?_⟩; simp (decide := true) [hs, hm, hM, hq, g1, g2, g3, g4, bsMap_get, hl1, hl2, List.append_assoc]
      refine ⟨by simp, rfl, by simp [vcI, hs, hm, hM, hq, g1, g2, g3, g4, bsMap_get, hl1, hl2, List.append_assoc], ?_⟩
      simp (decide := true) [hs, hm, hM, hq, g1, g2, g3, g4, bsMap_get, hl1, hl2, List.append_assoc]; try intro _
      try simp (decide := true) [hs, hm, hM, hq, g1, g2, g3, g4, bsMap_get, hl1, hl2, List.append_assoc]
      refine ⟨by simp, rfl, by simp [vcI, hs, hm, hM, hq, g1, g2, g3, g4, bsMap_get, hl1, hl2, List.append_assoc], ?_⟩
      simp (decide := true) [hs, hm, hM, hq, g1, g2, g3, g4, bsMap_get, hl1, hl2, List.append_assoc]; try intro _
      try simp (decide := true) [hs, hm, hM, hq, g1, g2, g3, g4, bsMap_get, hl1, hl2, List.append_assoc]
      refine ⟨by simp (decide := true) [hs, hm, hM, hq, g1, g2, g3, g4, bsMap_get, hl1, hl2, List.append_assoc], ?_⟩; simp (decide := true) [hs, hm, hM, hq, g1, g2, g3, g4, bsMap_get, hl1, hl2, List.append_assoc]
      refine ⟨fun i r Z => (i = 13 → r = .ptr (st.length + 1) 0) ∧ Z = st ++ [.cells ([.sc (.int .i64 0), .sc (.int .i64 0), .sc (.string .empty), .nils]), .cells (if i = 13 then [.sc (.int .i64 0), .sc (.int .i64 0), .sc (.string .empty), .nils] else v.cells 26)], ?_⟩
      simp (decide := true) [hs, hm, hM, hq, g1, g2, g3, g4, bsMap_get, hl1, hl2, List.append_assoc]
      refine ⟨by simp (decide := true) [hs, hm, hM, hq, g1, g2, g3, g4, bsMap_get, hl1, hl2, List.append_assoc], ?_⟩; simp (decide := true) [hs, hm, hM, hq, g1, g2, g3, g4, bsMap_get, hl1, hl2, List.append_assoc]
      refine ⟨by simp (decide := true) [hs, hm, hM, hq, g1, g2, g3, g4, bsMap_get, hl1, hl2, List.append_assoc], ?_⟩; simp (decide := true) [hs, hm, hM, hq, g1, g2, g3, g4, bsMap_get, hl1, hl2, List.append_assoc]
      refine ⟨by simp (decide := true) [hs, hm, hM, hq, g1, g2, g3, g4, bsMap_get, hl1, hl2, List.append_assoc], ?_⟩; simp (decide := true) [hs, hm, hM, hq, g1, g2, g3, g4, bsMap_get, hl1, hl2, List.append_assoc]
      refine ⟨by simp (decide := true) [hs, hm, hM, hq, g1, g2, g3, g4, bsMap_get, hl1, hl2, List.append_assoc], ?_⟩; simp (decide := true) [hs, hm, hM, hq, g1, g2, g3, g4, bsMap_get, hl1, hl2, List.append_assoc]
      refine ⟨by simp (decide := true) [hs, hm, hM, hq, g1, g2, g3, g4, bsMap_get, hl1, hl2, List.append_assoc], ?_⟩; simp (decide := true) [hs, hm, hM, hq, g1, g2, g3, g4, bsMap_get, hl1, hl2, List.append_assoc]
      refine ⟨by simp (decide := true) [hs, hm, hM, hq, g1, g2, g3, g4, bsMap_get, hl1, hl2, List.append_assoc], ?_⟩; simp (decide := true) [hs, hm, hM, hq, g1, g2, g3, g4, bsMap_get, hl1, hl2, List.append_assoc]
      refine ⟨by simp (decide := true) [hs, hm, hM, hq, g1, g2, g3, g4, bsMap_get, hl1, hl2, List.append_assoc], ?_⟩; simp (decide := true) [hs, hm, hM, hq, g1, g2, g3, g4, bsMap_get, hl1, hl2, List.append_assoc]
      refine ⟨by simp (decide := true) [hs, hm, hM, hq, g1, g2, g3, g4, bsMap_get, hl1, hl2, List.append_assoc], ?_⟩; simp (decide := true) [hs, hm, hM, hq, g1, g2, g3, g4, bsMap_get, hl1, hl2, List.append_assoc]
      refine ⟨by simp (decide := true) [hs, hm, hM, hq, g1, g2, g3, g4, bsMap_get, hl1, hl2, List.append_assoc], ?_⟩; simp (decide := true) [hs, hm, hM, hq, g1, g2, g3, g4, bsMap_get, hl1, hl2, List.append_assoc]
      refine ⟨by simp (decide := true) [hs, hm, hM, hq, g1, g2, g3, g4, bsMap_get, hl1, hl2, List.append_assoc], ?_⟩; simp (decide := true) [hs, hm, hM, hq, g1, g2, g3, g4, bsMap_get, hl1, hl2, List.append_assoc]
      refine ⟨by simp (decide := true) [hs, hm, hM, hq, g1, g2, g3, g4, bsMap_get, hl1, hl2, List.append_assoc], ?_⟩; simp (decide := true) [hs, hm, hM, hq, g1, g2, g3, g4, bsMap_get, hl1, hl2, List.append_assoc]
      refine ⟨by simp (decide := true) [hs, hm, hM, hq, g1, g2, g3, g4, bsMap_get, hl1, hl2, List.append_assoc], ?_⟩; simp (decide := true) [hs, hm, hM, hq, g1, g2, g3, g4, bsMap_get, hl1, hl2, List.append_assoc]
      refine ⟨by simp (decide := true) [hs, hm, hM, hq, g1, g2, g3, g4, bsMap_get, hl1, hl2, List.append_assoc], ?_⟩; simp (decide := true) [hs, hm, hM, hq, g1, g2, g3, g4, bsMap_get, hl1, hl2, List.append_assoc]
      refine ⟨by simp, rfl, by simp [vcI, hs, hm, hM, hq, g1, g2, g3, g4, bsMap_get, hl1, hl2, List.append_assoc], ?_⟩
      simp (decide := true) [hs, hm, hM, hq, g1, g2, g3, g4, bsMap_get, hl1, hl2, List.append_assoc]; try intro _
      try simp (decide := true) [hs, hm, hM, hq, g1, g2, g3, g4, bsMap_get, hl1, hl2, List.append_assoc]
      refine ⟨by simp, rfl, by simp [vcI, hs, hm, hM, hq, g1, g2, g3, g4, bsMap_get, hl1, hl2, List.append_assoc], ?_⟩
      simp (decide := true) [hs, hm, hM, hq, g1, g2, g3, g4, bsMap_get, hl1, hl2, List.append_assoc]; try intro _
      try simp (decide := true) [hs, hm, hM, hq, g1, g2, g3, g4, bsMap_get, hl1, hl2, List.append_assoc]
      refine ⟨by simp (decide := true) [hs, hm, hM, hq, g1, g2, g3, g4, bsMap_get, hl1, hl2, List.append_assoc], ?_⟩; simp (decide := true) [hs, hm, hM, hq, g1, g2, g3, g4, bsMap_get, hl1, hl2, List.append_assoc]
      have hb : bothV B (.mk 1 x sx l) (.mk 1 y sy l') = none := by simp [bothV, hv1, hv2, look_none.1 hl1]
      by_cases hp : (x, y) ∈ P <;> simp [pairMap_get, hp] <;> exact stay _ _ rfl ((Pre.refl st).app _) hb
  | some u =>
    cases hl2 : lookB B y with
    | none =>
      refine ⟨fun i r Z => (i = 13 → r = .ptr st.length 0) ∧ Z = st ++ [.cells (if i = 13 then [.sc (.int .i64 0), .sc (.int .i64 0), .sc (.string .empty), .nils] else u.cells 26)], ?_⟩
      simp (decide := true) [hs, hm, hM, hq, g1, g2, g3, g4, bsMap_get, hl1, hl2, List.append_assoc]
      refine ⟨by simp (decide := true) [hs, hm, hM, hq, g1, g2, g3, g4, bsMap_get, hl1, hl2, List.append_assoc], ?_⟩; simp (decide := true) [hs, hm, hM, hq, g1, g2, g3, g4, bsMap_get, hl1, hl2, List.append_assoc]
      refine ⟨by simp (decide := true) [hs, hm, hM, hq, g1, g2, g3, g4, bsMap_get, hl1, hl2, List.append_assoc], ?_⟩; simp (decide := true) [hs, hm, hM, hq, g1, g2, g3, g4, bsMap_get, hl1, hl2, List.append_assoc]
      refine ⟨by simp (decide := true) [hs, hm, hM, hq, g1, g2, g3, g4, bsMap_get, hl1, hl2, List.append_assoc], ?_⟩; simp (decide := true) [hs, hm, hM, hq, g1, g2, g3, g4, bsMap_get, hl1, hl2, List.append_assoc]
      refine ⟨by simp (decide := true) [hs, hm, hM, hq, g1, g2, g3, g4, bsMap_get, hl1, hl2, List.append_assoc], ?_⟩; simp (decide := true) [hs, hm, hM, hq, g1, g2, g3, g4, bsMap_get, hl1, hl2, List.append_assoc]
      refine ⟨by simp (decide := true) [hs, hm, hM, hq, g1, g2, g3, g4, bsMap_get, hl1, hl2, List.append_assoc], ?_⟩; simp (decide := true) [hs, hm, hM, hq, g1, g2, g3, g4, bsMap_get, hl1, hl2, List.append_assoc]
      refine ⟨by simp (decide := true) [hs, hm, hM, hq, g1, g2, g3, g4, bsMap_get, hl1, hl2, List.append_assoc], ?_⟩; simp (decide := true) [hs, hm, hM, hq, g1, g2, g3, g4, bsMap_get, hl1, hl2, List.append_assoc]
      refine ⟨by simp (decide := true) [hs, hm, hM, hq, g1, g2, g3, g4, bsMap_get, hl1, hl2, List.append_assoc], ?_⟩; simp (decide := true) [hs, hm, hM, hq, g1, g2, g3, g4, bsMap_get, hl1, hl2, List.append_assoc]
      refine ⟨by simp (decide := true) [hs, hm, hM, hq, g1, g2, g3, g4, bsMap_get, hl1, hl2, List.append_assoc], ?_⟩; simp (decide := true) [hs, hm, hM, hq, g1, g2, g3, g4, bsMap_get, hl1, hl2, List.append_assoc]
      refine ⟨by simp (decide := true) [hs, hm, hM, hq, g1, g2, g3, g4, bsMap_get, hl1, hl2, List.append_assoc], ?_⟩; simp (decide := true) [hs, hm, hM, hq, g1, g2, g3, g4, bsMap_get, hl1, hl2, List.append_assoc]
      refine ⟨by simp (decide := true) [hs, hm, hM, hq, g1, g2, g3, g4, bsMap_get, hl1, hl2, List.append_assoc], ?_⟩; simp (decide := true) [hs, hm, hM, hq, g1, g2, g3, g4, bsMap_get, hl1, hl2, List.append_assoc]
      refine ⟨by simp (decide := true) [hs, hm, hM, hq, g1, g2, g3, g4, bsMap_get, hl1, hl2, List.append_assoc], ?_⟩; simp (decide := true) [hs, hm, hM, hq, g1, g2, g3, g4, bsMap_get, hl1, hl2, List.append_assoc]
      refine ⟨by simp (decide := true) [hs, hm, hM, hq, g1, g2, g3, g4, bsMap_get, hl1, hl2, List.append_assoc], ?_⟩; simp (decide := true) [hs, hm, hM, hq, g1, g2, g3, g4, bsMap_get, hl1, hl2, List.append_assoc]
      refine ⟨by simp (decide := true) [hs, hm, hM, hq, g1, g2, g3, g4, bsMap_get, hl1, hl2, List.append_assoc], ?_⟩; simp (decide := true) [hs, hm, hM, hq, g1, g2, g3, g4, bsMap_get, hl1, hl2, List.append_assoc]
      refine ⟨by simp, rfl, by simp [vcI, hs, hm, hM, hq, g1, g2, g3, g4, bsMap_get, hl1, hl2, List.append_assoc], ?_⟩
      simp (decide := true) [hs, hm, hM, hq, g1, g2, g3, g4, bsMap_get, hl1, hl2, List.append_assoc]; try intro _
      try simp (decide := true) [hs, hm, hM, hq, g1, g2, g3, g4, bsMap_get, hl1, hl2, List.append_assoc]
      refine ⟨by simp, rfl, by simp [vcI, hs, hm, hM, hq, g1, g2, g3, g4, bsMap_get, hl1, hl2, List.append_assoc], ?_⟩
      simp (decide := true) [hs, hm, hM, hq, g1, g2, g3, g4, bsMap_get, hl1, hl2, List.append_assoc]; try intro _
      try simp (decide := true) [hs, hm, hM, hq, g1, g2, g3, g4, bsMap_get, hl1, hl2, List.append_assoc]
      refine ⟨by simp (decide := true) [hs, hm, hM, hq, g1, g2, g3, g4, bsMap_get, hl1, hl2, List.append_assoc], ?_⟩; simp (decide := true) [hs, hm, hM, hq, g1, g2, g3, g4, bsMap_get, hl1, hl2, List.append_assoc]
      refine ⟨fun i r Z => (i = 13 → r = .ptr (st.length + 1) 0) ∧ Z = st ++ [.cells (u.cells 26), .cells (if i = 13 then [.sc (.int .i64 0), .sc (.int .i64 0), .sc (.string .empty), .nils] else [.sc (.int .i64 0), .sc (.int .i64 0), .sc (.string .empty), .nils])], ?_⟩
      simp (decide := true) [hs, hm, hM, hq, g1, g2, g3, g4, bsMap_get, hl1, hl2, List.append_assoc]
      refine ⟨by simp (decide := true) [hs, hm, hM, hq, g1, g2, g3, g4, bsMap_get, hl1, hl2, List.append_assoc], ?_⟩; simp (decide := true) [hs, hm, hM, hq, g1, g2, g3, g4, bsMap_get, hl1, hl2, List.append_assoc]
      refine ⟨by simp (decide := true) [hs, hm, hM, hq, g1, g2, g3, g4, bsMap_get, hl1, hl2, List.append_assoc], ?_⟩; simp (decide := true) [hs, hm, hM, hq, g1, g2, g3, g4, bsMap_get, hl1, hl2, List.append_assoc]
      refine ⟨by simp (decide := true) [hs, hm, hM, hq, g1, g2, g3, g4, bsMap_get, hl1, hl2, List.append_assoc], ?_⟩; simp (decide := true) [hs, hm, hM, hq, g1, g2, g3, g4, bsMap_get, hl1, hl2, List.append_assoc]
      refine ⟨by simp (decide := true) [hs, hm, hM, hq, g1, g2, g3, g4, bsMap_get, hl1, hl2, List.append_assoc], ?_⟩; simp (decide := true) [hs, hm, hM, hq, g1, g2, g3, g4, bsMap_get, hl1, hl2, List.append_assoc]
      refine ⟨by simp (decide := true) [hs, hm, hM, hq, g1, g2, g3, g4, bsMap_get, hl1, hl2, List.append_assoc], ?_⟩; simp (decide := true) [hs, hm, hM, hq, g1, g2, g3, g4, bsMap_get, hl1, hl2, List.append_assoc]
      refine ⟨by simp (decide := true) [hs, hm, hM, hq, g1, g2, g3, g4, bsMap_get, hl1, hl2, List.append_assoc], ?_⟩; simp (decide := true) [hs, hm, hM, hq, g1, g2, g3, g4, bsMap_get, hl1, hl2, List.append_assoc]
      refine ⟨by simp (decide := true) [hs, hm, hM, hq, g1, g2, g3, g4, bsMap_get, hl1, hl2, List.append_assoc], ?_⟩; simp (decide := true) [hs, hm, hM, hq, g1, g2, g3, g4, bsMap_get, hl1, hl2, List.append_assoc]
      refine ⟨by simp (decide := true) [hs, hm, hM, hq, g1, g2, g3, g4, bsMap_get, hl1, hl2, List.append_assoc], ?_⟩; simp (decide := true) [hs, hm, hM, hq, g1, g2, g3, g4, bsMap_get, hl1, hl2, List.append_assoc]
      refine ⟨by simp (decide := true) [hs, hm, hM, hq, g1, g2, g3, g4, bsMap_get, hl1, hl2, List.append_assoc], ?_⟩; simp (decide := true) [hs, hm, hM, hq, g1, g2, g3, g4, bsMap_get, hl1, hl2, List.append_assoc]
      refine ⟨by simp (decide := true) [hs, hm, hM, hq, g1, g2, g3, g4, bsMap_get, hl1, hl2, List.append_assoc], ?_⟩; simp (decide := true) [hs, hm, hM, hq, g1, g2, g3, g4, bsMap_get, hl1, hl2, List.append_assoc]
      refine ⟨by simp (decide := true) [hs, hm, hM, hq, g1, g2, g3, g4, bsMap_get, hl1, hl2, List.append_assoc], ?_⟩; simp (decide := true) [hs, hm, hM, hq, g1, g2, g3, g4, bsMap_get, hl1, hl2, List.append_assoc]
      refine ⟨by simp (decide := true) [hs, hm, hM, hq, g1, g2, g3, g4, bsMap_get, hl1, hl2, List.append_assoc], ?_⟩; simp (decide := true) [hs, hm, hM, hq, g1, g2, g3, g4, bsMap_get, hl1, hl2, List.append_assoc]
      refine ⟨by simp (decide := true) [hs, hm, hM, hq, g1, g2, g3, g4, bsMap_get, hl1, hl2, List.append_assoc], ?_⟩; simp (decide := true) [hs, hm, hM, hq, g1, g2, g3, g4, bsMap_get, hl1, hl2, List.append_assoc]
      refine ⟨by simp, rfl, by simp [vcI, hs, hm, hM, hq, g1, g2, g3, g4, bsMap_get, hl1, hl2, List.append_assoc], ?_⟩
      simp (decide := true) [hs, hm, hM, hq, g1, g2, g3, g4, bsMap_get, hl1, hl2, List.append_assoc]; try intro _
      try simp (decide := true) [hs, hm, hM, hq, g1, g2, g3, g4, bsMap_get, hl1, hl2, List.append_assoc]
      refine ⟨by simp, rfl, by simp [vcI, hs, hm, hM, hq, g1, g2, g3, g4, bsMap_get, hl1, hl2, List.append_assoc], ?_⟩
      simp (decide := true) [hs, hm, hM, hq, g1, g2, g3, g4, bsMap_get, hl1, hl2, List.append_assoc]; try intro _
      try simp (decide := true) [hs, hm, hM, hq, g1, g2, g3, g4, bsMap_get, hl1, hl2, List.append_assoc]
      refine ⟨by simp (decide := true) [hs, hm, hM, hq, g1, g2, g3, g4, bsMap_get, hl1, hl2, List.append_assoc], ?_⟩; simp (decide := true) [hs, hm, hM, hq, g1, g2, g3, g4, bsMap_get, hl1, hl2, List.append_assoc]
      have hb : bothV B (.mk 1 x sx l) (.mk 1 y sy l') = none := by simp [bothV, hv1, hv2, look_none.1 hl2]
      by_cases hp : (x, y) ∈ P <;> simp [pairMap_get, hp] <;> exact stay _ _ rfl ((Pre.refl st).app _) hb
    | some v =>
      refine ⟨fun i r Z => (i = 13 → r = .ptr st.length 0) ∧ Z = st ++ [.cells (if i = 13 then [.sc (.int .i64 0), .sc (.int .i64 0), .sc (.string .empty), .nils] else u.cells 26)], ?_⟩
      simp (decide := true) [hs, hm, hM, hq, g1, g2, g3, g4, bsMap_get, hl1, hl2, List.append_assoc]
      refine ⟨by simp (decide := true) [hs, hm, hM, hq, g1, g2, g3, g4, bsMap_get, hl1, hl2, List.append_assoc], ?_⟩; simp (decide := true) [hs, hm, hM, hq, g1, g2, g3, g4, bsMap_get, hl1, hl2, List.append_assoc]
      refine ⟨by simp (decide := true) [hs, hm, hM, hq, g1, g2, g3, g4, bsMap_get, hl1, hl2, List.append_assoc], ?_⟩; simp (decide := true) [hs, hm, hM, hq, g1, g2, g3, g4, bsMap_get, hl1, hl2, List.append_assoc]
      refine ⟨by simp (decide := true) [hs, hm, hM, hq, g1, g2, g3, g4, bsMap_get, hl1, hl2, List.append_assoc], ?_⟩; simp (decide := true) [hs, hm, hM, hq, g1, g2, g3, g4, bsMap_get, hl1, hl2, List.append_assoc]
      refine ⟨by simp (decide := true) [hs, hm, hM, hq, g1, g2, g3, g4, bsMap_get, hl1, hl2, List.append_assoc], ?_⟩; simp (decide := true) [hs, hm, hM, hq, g1, g2, g3, g4, bsMap_get, hl1, hl2, List.append_assoc]
      refine ⟨by simp (decide := true) [hs, hm, hM, hq, g1, g2, g3, g4, bsMap_get, hl1, hl2, List.append_assoc], ?_⟩; simp (decide := true) [hs, hm, hM, hq, g1, g2, g3, g4, bsMap_get, hl1, hl2, List.append_assoc]
      refine ⟨by simp (decide := true) [hs, hm, hM, hq, g1, g2, g3, g4, bsMap_get, hl1, hl2, List.append_assoc], ?_⟩; simp (decide := true) [hs, hm, hM, hq, g1, g2, g3, g4, bsMap_get, hl1, hl2, List.append_assoc]
      refine ⟨by simp (decide := true) [hs, hm, hM, hq, g1, g2, g3, g4, bsMap_get, hl1, hl2, List.append_assoc], ?_⟩; simp (decide := true) [hs, hm, hM, hq, g1, g2, g3, g4, bsMap_get, hl1, hl2, List.append_assoc]
      refine ⟨by simp (decide := true) [hs, hm, hM, hq, g1, g2, g3, g4, bsMap_get, hl1, hl2, List.append_assoc], ?_⟩; simp (decide := true) [hs, hm, hM, hq, g1, g2, g3, g4, bsMap_get, hl1, hl2, List.append_assoc]
      refine ⟨by simp (decide := true) [hs, hm, hM, hq, g1, g2, g3, g4, bsMap_get, hl1, hl2, List.append_assoc], ?_⟩; simp (decide := true) [hs, hm, hM, hq, g1, g2, g3, g4, bsMap_get, hl1, hl2, List.append_assoc]
      refine ⟨by simp (decide := true) [hs, hm, hM, hq, g1, g2, g3, g4, bsMap_get, hl1, hl2, List.append_assoc], ?_⟩; simp (decide := true) [hs, hm, hM, hq, g1, g2, g3, g4, bsMap_get, hl1, hl2, List.append_assoc]
      refine ⟨by simp (decide := true) [hs, hm, hM, hq, g1, g2, g3, g4, bsMap_get, hl1, hl2, List.append_assoc], ?_⟩; simp (decide := true) [hs, hm, hM, hq, g1, g2, g3, g4, bsMap_get, hl1, hl2, List.append_assoc]
      refine ⟨by simp (decide := true) [hs, hm, hM, hq, g1, g2, g3, g4, bsMap_get, hl1, hl2, List.append_assoc], ?_⟩; simp (decide := true) [hs, hm, hM, hq, g1, g2, g3, g4, bsMap_get, hl1, hl2, List.append_assoc]
      refine ⟨by simp (decide := true) [hs, hm, hM, hq, g1, g2, g3, g4, bsMap_get, hl1, hl2, List.append_assoc], ?_⟩; simp (decide := true) [hs, hm, hM, hq, g1, g2, g3, g4, bsMap_get, hl1, hl2, List.append_assoc]
      refine ⟨by simp, rfl, by simp [vcI, hs, hm, hM, hq, g1, g2, g3, g4, bsMap_get, hl1, hl2, List.append_assoc], ?_⟩
      simp (decide := true) [hs, hm, hM, hq, g1, g2, g3, g4, bsMap_get, hl1, hl2, List.append_assoc]; try intro _
      try simp (decide := true) [hs, hm, hM, hq, g1, g2, g3, g4, bsMap_get, hl1, hl2, List.append_assoc]
      refine ⟨by simp, rfl, by simp [vcI, hs, hm, hM, hq, g1, g2, g3, g4, bsMap_get, hl1, hl2, List.append_assoc], ?_⟩
      simp (decide := true) [hs, hm, hM, hq, g1, g2, g3, g4, bsMap_get, hl1, hl2, List.append_assoc]; try intro _
      try simp (decide := true) [hs, hm, hM, hq, g1, g2, g3, g4, bsMap_get, hl1, hl2, List.append_assoc]
      refine ⟨by simp (decide := true) [hs, hm, hM, hq, g1, g2, g3, g4, bsMap_get, hl1, hl2, List.append_assoc], ?_⟩; simp (decide := true) [hs, hm, hM, hq, g1, g2, g3, g4, bsMap_get, hl1, hl2, List.append_assoc]
      refine ⟨fun i r Z => (i = 13 → r = .ptr (st.length + 1) 0) ∧ Z = st ++ [.cells (u.cells 26), .cells (if i = 13 then [.sc (.int .i64 0), .sc (.int .i64 0), .sc (.string .empty), .nils] else v.cells 26)], ?_⟩
      simp (decide := true) [hs, hm, hM, hq, g1, g2, g3, g4, bsMap_get, hl1, hl2, List.append_assoc]
      refine ⟨by simp (decide := true) [hs, hm, hM, hq, g1, g2, g3, g4, bsMap_get, hl1, hl2, List.append_assoc], ?_⟩; simp (decide := true) [hs, hm, hM, hq, g1, g2, g3, g4, bsMap_get, hl1, hl2, List.append_assoc]
      refine ⟨by simp (decide := true) [hs, hm, hM, hq, g1, g2, g3, g4, bsMap_get, hl1, hl2, List.append_assoc], ?_⟩; simp (decide := true) [hs, hm, hM, hq, g1, g2, g3, g4, bsMap_get, hl1, hl2, List.append_assoc]
      refine ⟨by simp (decide := true) [hs, hm, hM, hq, g1, g2, g3, g4, bsMap_get, hl1, hl2, List.append_assoc], ?_⟩; simp (decide := true) [hs, hm, hM, hq, g1, g2, g3, g4, bsMap_get, hl1, hl2, List.append_assoc]
      refine ⟨by simp (decide := true) [hs, hm, hM, hq, g1, g2, g3, g4, bsMap_get, hl1, hl2, List.append_assoc], ?_⟩; simp (decide := true) [hs, hm, hM, hq, g1, g2, g3, g4, bsMap_get, hl1, hl2, List.append_assoc]
      refine ⟨by simp (decide := true) [hs, hm, hM, hq, g1, g2, g3, g4, bsMap_get, hl1, hl2, List.append_assoc], ?_⟩; simp (decide := true) [hs, hm, hM, hq, g1, g2, g3, g4, bsMap_get, hl1, hl2, List.append_assoc]
      refine ⟨by simp (decide := true) [hs, hm, hM, hq, g1, g2, g3, g4, bsMap_get, hl1, hl2, List.append_assoc], ?_⟩; simp (decide := true) [hs, hm, hM, hq, g1, g2, g3, g4, bsMap_get, hl1, hl2, List.append_assoc]
      refine ⟨by simp (decide := true) [hs, hm, hM, hq, g1, g2, g3, g4, bsMap_get, hl1, hl2, List.append_assoc], ?_⟩; simp (decide := true) [hs, hm, hM, hq, g1, g2, g3, g4, bsMap_get, hl1, hl2, List.append_assoc]
      refine ⟨by simp (decide := true) [hs, hm, hM, hq, g1, g2, g3, g4, bsMap_get, hl1, hl2, List.append_assoc], ?_⟩; simp (decide := true) [hs, hm, hM, hq, g1, g2, g3, g4, bsMap_get, hl1, hl2, List.append_assoc]
      refine ⟨by simp (decide := true) [hs, hm, hM, hq, g1, g2, g3, g4, bsMap_get, hl1, hl2, List.append_assoc], ?_⟩; simp (decide := true) [hs, hm, hM, hq, g1, g2, g3, g4, bsMap_get, hl1, hl2, List.append_assoc]
      refine ⟨by simp (decide := true) [hs, hm, hM, hq, g1, g2, g3, g4, bsMap_get, hl1, hl2, List.append_assoc], ?_⟩; simp (decide := true) [hs, hm, hM, hq, g1, g2, g3, g4, bsMap_get, hl1, hl2, List.append_assoc]
      refine ⟨by simp (decide := true) [hs, hm, hM, hq, g1, g2, g3, g4, bsMap_get, hl1, hl2, List.append_assoc], ?_⟩; simp (decide := true) [hs, hm, hM, hq, g1, g2, g3, g4, bsMap_get, hl1, hl2, List.append_assoc]
      refine ⟨by simp (decide := true) [hs, hm, hM, hq, g1, g2, g3, g4, bsMap_get, hl1, hl2, List.append_assoc], ?_⟩; simp (decide := true) [hs, hm, hM, hq, g1, g2, g3, g4, bsMap_get, hl1, hl2, List.append_assoc]
      refine ⟨by simp (decide := true) [hs, hm, hM, hq, g1, g2, g3, g4, bsMap_get, hl1, hl2, List.append_assoc], ?_⟩; simp (decide := true) [hs, hm, hM, hq, g1, g2, g3, g4, bsMap_get, hl1, hl2, List.append_assoc]
      refine ⟨by simp, rfl, by simp [vcI, hs, hm, hM, hq, g1, g2, g3, g4, bsMap_get, hl1, hl2, List.append_assoc], ?_⟩
      simp (decide := true) [hs, hm, hM, hq, g1, g2, g3, g4, bsMap_get, hl1, hl2, List.append_assoc]; try intro _
      try simp (decide := true) [hs, hm, hM, hq, g1, g2, g3, g4, bsMap_get, hl1, hl2, List.append_assoc]
      refine ⟨by simp, rfl, by simp [vcI, hs, hm, hM, hq, g1, g2, g3, g4, bsMap_get, hl1, hl2, List.append_assoc], ?_⟩
      simp (decide := true) [hs, hm, hM, hq, g1, g2, g3, g4, bsMap_get, hl1, hl2, List.append_assoc]; try intro _
      try simp (decide := true) [hs, hm, hM, hq, g1, g2, g3, g4, bsMap_get, hl1, hl2, List.append_assoc]
      refine ⟨by simp (decide := true) [hs, hm, hM, hq, g1, g2, g3, g4, bsMap_get, hl1, hl2, List.append_assoc], ?_⟩; simp (decide := true) [hs, hm, hM, hq, g1, g2, g3, g4, bsMap_get, hl1, hl2, List.append_assoc]
      have k1 : x ∈ keys B := Classical.not_not.1 fun h => by rw [look_none.2 h] at hl1; cases hl1
      have k2 : y ∈ keys B := Classical.not_not.1 fun h => by rw [look_none.2 h] at hl2; cases hl2
      have hb : bothV B (.mk 1 x sx l) (.mk 1 y sy l') = some (x, y) := by simp [bothV, hv1, hv2, k1, k2]
      by_cases hp : (x, y) ∈ P
      · simp [pairMap_get, hp]
        refine endP_mk (.sc (.bool true)) (by simp) (by simp) ⟨by simp [againB, hb, hp], ?_⟩
        simp only [againP, hb, if_pos hp]
        rw [set_same hq]; exact ((Pre.refl st).app _).cut hfix rfl
      · simp [pairMap_get, hp]
        refine endP_mk (.sc (.bool false)) (by simp) (by simp) ⟨by simp [againB, hb, hp], ?_⟩
        simp only [againP, hb, if_neg hp]
        rw [pairMap_put P x y hp]
        exact (((Pre.refl st).app _).set2 q _).cut (fix_pair hfix q _) (by simp)
end Go.T1
end

section
open Go Go.Ab Go.Proofs
namespace Go.T1
/-- Where a matcher lies: its struct, the bindings, the pairs. -/
structure US (st : St) (M s m o q g : Nat) (al : Bool) (B : Bs) (P : Ps) : Prop where
  ss : SS st s m o g al B
  hM : st[M]? = some (.cells [.ptr s 0, .mp q])
  hq : st[q]? = some (.map (pairMap P))
  qm : q ≠ m
def uST (st : St) (s m o q g : Nat) (al : Bool) (B : Bs) (P : Ps) : St := (sST st s m o g al B).set q (.map (pairMap P))
section
variable {st : St} {M s m o q g g' : Nat} {al al' : Bool} {B B' : Bs} {P P' : Ps}
theorem US.ne (h : US st M s m o q g al B P) : M ≠ s ∧ M ≠ m ∧ M ≠ o ∧ M ≠ q ∧ q ≠ s ∧ q ≠ o := by
  refine ⟨?_, ?_, ?_, ?_, ?_, ?_⟩
  · rintro rfl; have := h.hM; rw [h.ss.hs] at this; simp at this
  · rintro rfl; have := h.hM; rw [h.ss.hm] at this; simp at this
  · rintro rfl; have := h.hM; rw [h.ss.ho] at this; simp at this
  · rintro rfl; have := h.hM; rw [h.hq] at this; simp at this
  · rintro rfl; have := h.hq; rw [h.ss.hs] at this; simp at this
  · rintro rfl; have := h.hq; rw [h.ss.ho] at this; simp at this
theorem US.same (h : US st M s m o q g al B P) : uST st s m o q g al B P = st := by unfold uST; rw [h.ss.same, set_same h.hq]
theorem US.put (h : US st M s m o q g al B P) (h' : B' ≠ [] → al' = true) : US (uST st s m o q g' al' B' P') M s m o q g' al' B' P' := by
  obtain ⟨n1, n2, n3, n4, n5, n6⟩ := h.ne
  have k := h.ss.put (g' := g') (al' := al') h'
  refine ⟨⟨get_ne k.hs n5, get_ne k.hm h.qm, get_ne k.ho n6, h', k.sm, k.so, k.mo⟩, ?_, ?_, h.qm⟩
  · exact get_ne (sST_other h.hM n1.symm n2.symm n3.symm) n4.symm
  · exact get_set (sST_other h.hq n5.symm h.qm.symm n6.symm)
theorem US.app (h : US st M s m o q g al B P) (l : St) : US (st ++ l) M s m o q g al B P := ⟨h.ss.app l, get_app h.hM l, get_app h.hq l, h.qm⟩
theorem uST_app (h : US st M s m o q g al B P) (l : St) : uST (st ++ l) s m o q g' al' B' P' = uST st s m o q g' al' B' P' ++ l := by
  obtain ⟨n1, n2, n3, n4, n5, n6⟩ := h.ne
  unfold uST; rw [sST_app h.ss, set_app (sST_other h.hq n5.symm h.qm.symm n6.symm)]
theorem uST_uST (h : US st M s m o q g al B P) (X : St) (g1 g2 : Nat) (a1 a2 : Bool) (B1 B2 : Bs) (P1 P2 : Ps) : uST (uST X s m o q g1 a1 B1 P1) s m o q g2 a2 B2 P2 = uST X s m o q g2 a2 B2 P2 := by
  obtain ⟨n1, n2, n3, n4, n5, n6⟩ := h.ne
  unfold uST
  have e : ∀ (X : St) (b : Blk), sST (X.set q b) s m o g2 a2 B2 = (sST X s m o g2 a2 B2).set q b := fun X b => by
    unfold sST; rw [set_comm X h.qm, set_comm _ n6, set_comm _ n5]
  rw [e, sST_sST h.ss.sm h.ss.so h.ss.mo, List.set_set]
theorem uST_set (h : US st M s m o q g al B P) (X : St) (P1 P2 : Ps) (g2 : Nat) (a2 : Bool) (B2 : Bs) : uST (X.set q (.map (pairMap P1))) s m o q g2 a2 B2 P2 = uST X s m o q g2 a2 B2 P2 := by
  obtain ⟨n1, n2, n3, n4, n5, n6⟩ := h.ne
  unfold uST sST; rw [set_comm X h.qm, set_comm _ n6, set_comm _ n5, List.set_set]
theorem uST_pre {X Y : St} (h : Pre X Y) : Pre (uST X s m o q g al B P) (uST Y s m o q g al B P) := (sST_pre h).set2 _ _
theorem uST_len : (uST st s m o q g al B P).length = st.length := by simp [uST, sST]
theorem fix_US (h : Fix st) (hS : US st M s m o q g al B P) (g' : Nat) (al' : Bool) (B' : Bs) (P' : Ps) : Fix (uST st s m o q g' al' B' P') := by
  unfold uST; exact fix_pair (fix_SS h hS.ss g' al' B') q P'
theorem US.of_pre {Y : St} (h : US st M s m o q g al B P) (hY : Pre st Y) : US Y M s m o q g al B P :=
  ⟨⟨hY.get h.ss.hs, hY.get h.ss.hm, hY.get h.ss.ho, h.ss.hal, h.ss.sm, h.ss.so, h.ss.mo⟩, hY.get h.hM, hY.get h.hq, h.qm⟩
end
/-- What comes of a pair. -/
def UQ (V : List Int) (B : Bs) (P : Ps) (a b : Tm) (st : St) (s m o q : Nat) (r : AV) (st' : St) : Prop :=
  ∃ rb B' P' g' al', r = .sc (.bool rb) ∧ st' = uST st s m o q g' al' B' P' ∧ (B' ≠ [] → al' = true) ∧ Does V B a b rb B' ∧ (rb = true → PNew B' P P')
def ULQ (V : List Int) (B : Bs) (P : Ps) (qs : List (Tm × Tm)) (st : St) (s m o q : Nat) (r : AV) (st' : St) : Prop :=
  ∃ rb B' P' g' al', r = .sc (.bool rb) ∧ st' = uST st s m o q g' al' B' P' ∧ (B' ≠ [] → al' = true) ∧ DoesL V B qs rb B' ∧ (rb = true → PNew B' P P')
theorem zip_drop {l l' : List Tm} {i : Nat} (h : i < l.length) (h' : i < l'.length) : (l.zip l').drop i = (l[i], l'[i]) :: (l.zip l').drop (i + 1) := by
  rw [List.drop_eq_getElem_cons (by simp; omega)]; simp
/-- Where a row of pairs has come. -/
def EInv (V : List Int) (B : Bs) (P : Ps) (l l' : List Tm) (st : St) (s m o q i : Nat) (Y : St) : Prop :=
  ∃ D P1 g1 al1, Pre (uST st s m o q g1 al1 (B ++ D) P1) Y ∧ (B ++ D ≠ [] → al1 = true) ∧ OkB (B ++ D) ∧ BsV V (B ++ D) ∧ PNew (B ++ D) P P1 ∧ ∀ ps R, Un (B ++ D) ((l.zip l').drop i ++ ps) R → Un B (l.zip l' ++ ps) R
set_option maxRecDepth 100000 in
theorem equalU_c (V : List Int) (B : Bs) (hB : OkB B) (hV : BsV V B) (P : Ps) (l l' : List Tm) (hlen : l.length = l'.length) (st : St) (M s m o q g : Nat) (al : Bool) (h : US st M s m o q g al B P)
    (ih : ∀ (i : Nat) (h1 : i < l.length) (h2 : i < l'.length) (D : Bs) (P1 : Ps) (Y : St) (g1 : Nat) (al1 : Bool), OkB (B ++ D) → BsV V (B ++ D) → PNew (B ++ D) P P1 → US Y M s m o q g1 al1 (B ++ D) P1 →
      ICall T Tryz.prog 130 [.ptr M 0, l[i].av 26, l'[i].av 26] Y (UQ V (B ++ D) P1 l[i] l'[i] Y s m o q)) :
    ICall T Tryz.prog 133 [.lst 26 (Tm.cellsL 26 l), .lst 26 (Tm.cellsL 26 l'), .fn (.func 130) [.ptr M 0] []] st (ULQ V B P (l.zip l') st s m o q) := by
  refine ICall.of_vc hT [] [(7, 3)] follows Tryz.call133 Tryz.func133 rfl (by kernel_rfl) fun hfix => ?_
  unfold Tryz.f133
  simp
  intro hb1 hb2 hb3 hb4
  rw [hlen]
  simp
  intro _ _
  refine vcC_loop [] (fun w σ Y => ∃ (i : Nat), w = l.length - i ∧ i ≤ l.length ∧ EInv V B P l l' st s m o q i Y ∧
      σ 15 = .lst 26 (Tm.cellsL 26 l) ∧ σ 1 = .lst 26 (Tm.cellsL 26 l') ∧ σ 2 = .fn (.func 130) [.ptr M 0] [] ∧ σ 16 = .sc (.int .i64 l.length) ∧ σ 17 = .sc (.int .i64 i)) l.length ?_ ?_
  · refine ⟨0, by simp, by simp, ⟨[], P, g, al, ?_, ?_⟩, by simp [hlen]⟩
    · simp only [List.append_nil]; rw [h.same]; exact Pre.refl st
    · simp [hB, hV, PNew.refl]
      exact h.ss.hal
  rintro w σ Y ⟨i, rfl, hi, ⟨D, P1, g1, al1, hY, hal1, hD, hVD, hP1, hun⟩, s15, s1, s2, s16, s17⟩
  have hX := h.put (g' := g1) (al' := al1) (B' := B ++ D) (P' := P1) hal1
  rcases Nat.lt_or_ge i l.length with hlt | hge
  · have hlt' : i < l'.length := hlen ▸ hlt
    simp [s15, s1, s2, s16, s17, hlt, hlt']
    refine vcICall_of (ih i hlt hlt' D P1 _ g1 al1 hD hVD hP1 ((hX.of_pre hY).app _)) ?_
    rintro r st' ⟨rb, B', P', g', al', rfl, rfl, hal', hdo, hnew⟩ _
    obtain ⟨D', hD'⟩ := hdo.ext
    rw [uST_app (hX.of_pre hY)]
    have hpre : Pre (uST st s m o q g' al' B' P') (uST Y s m o q g' al' B' P') := by
      have := uST_pre (s := s) (m := m) (o := o) (q := q) (g := g') (al := al') (B := B') (P := P') hY
      rwa [uST_uST h] at this
    rw [zip_drop hlt hlt'] at hun
    have hD2 : B' = B ++ (D ++ D') := by rw [hD', List.append_assoc]
    simp [s15, s1, s2, s16, s17]
    refine ⟨fun hr => ?_, fun hr => ⟨by unfold i64ok; omega, l.length - (i + 1), by omega, i + 1, rfl, by omega, ?_, by simp⟩⟩
    · subst hr
      refine endP_mk (.sc (.bool false)) (by simp) (by simp) ⟨false, B', P', g', al', rfl, (hpre.app _).cut (fix_US hfix h _ _ _ _) (by rw [uST_len]), hal', ⟨hdo.ok, ⟨_, hD2⟩, hdo.inV, (by simp), fun _ ps => hun ps none (hdo.no rfl _)⟩, by simp⟩
    · subst hr
      refine ⟨D ++ D', P', g', al', ?_, ?_, ?_, ?_, ?_, fun ps R hR => ?_⟩
      · rw [← hD2]; exact hpre.app _
      · rw [← hD2]; exact hal'
      · rw [← hD2]; exact hdo.ok
      · rw [← hD2]; exact hdo.inV
      · rw [← hD2]; exact PNew.trans hD' hdo.ok hP1 (hnew rfl)
      · rw [← hD2] at hR; exact hun ps R (hdo.yes rfl _ R hR)
  · have hi : i = l.length := by omega
    subst hi
    simp [s15, s1, s2, s16, s17]
    refine endP_mk (.sc (.bool true)) (by simp) (by simp) ⟨true, B ++ D, P1, g1, al1, rfl, hY.cut (fix_US hfix h _ _ _ _) (by rw [uST_len]), hal1, ⟨hD, ⟨D, rfl⟩, hVD, fun _ ps R hR => ?_, by simp⟩, fun _ => hP1⟩
    refine hun ps R ?_
    rw [List.drop_of_length_le (by simp; omega)]; exact hR
end Go.T1
end

section
open Go Go.Ab Go.Proofs
namespace Go.T1
@[simp] theorem drop_cells (t : Tm) : List.drop 4 (t.cells 26) = [] := by cases t; rfl
set_option maxRecDepth 100000 in
theorem equalNe_c (l l' : List Tm) (hlen : ¬ l.length = l'.length) (f : AV) (st : St) :
    ICall T Tryz.prog 133 [.lst 26 (Tm.cellsL 26 l), .lst 26 (Tm.cellsL 26 l'), f] st (fun r st' => r = .sc (.bool false) ∧ st' = st) := by
  refine ICall.of_vc hT [] [(7, 3)] follows Tryz.call133 Tryz.func133 rfl (by kernel_rfl) fun hfix => ?_
  unfold Tryz.f133
  simp
  intro hb1 hb2 hb3 hb4
  refine ⟨fun _ => ?_, fun h => absurd (by omega) hlen⟩
  exact endP_mk (.sc (.bool false)) (by simp) (by simp) ⟨rfl, (Pre.refl st).cut hfix rfl⟩
theorem againP_new {B : Bs} {P : Ps} {a b : Tm} (ra : a.right = true) (rb : b.right = true) {p : Int × Int} (hp : p ∈ againP B P a b) : p ∈ P ∨ (a = Tm.var p.1 ∧ b = Tm.var p.2) := by
  unfold againP bothV at hp
  cases ha : a.vn with
  | none => simp [ha] at hp; exact .inl hp
  | some x =>
    cases hb : b.vn with
    | none => simp [ha, hb] at hp; exact .inl hp
    | some y =>
      simp only [ha, hb] at hp
      split at hp
      · rename_i p' hp'
        split at hp'
        · cases hp'
          split at hp
          · exact .inl hp
          · rcases List.mem_append.1 hp with h | h
            · exact .inl h
            · simp at h; subst h; exact .inr ⟨(Tm.vn_some ha ra).1, (Tm.vn_some hb rb).1⟩
        · cases hp'
      · exact .inl hp
theorem againB_spec {B : Bs} {P : Ps} {a b : Tm} (ra : a.right = true) (rb : b.right = true) (h : againB B P a b = true) : ∃ p ∈ P, a = Tm.var p.1 ∧ b = Tm.var p.2 := by
  unfold againB bothV at h
  cases ha : a.vn with
  | none => simp [ha] at h
  | some x =>
    cases hb : b.vn with
    | none => simp [ha, hb] at h
    | some y =>
      simp only [ha, hb] at h
      split at h
      · rename_i p' hp'
        split at hp'
        · cases hp'
          exact ⟨(x, y), by simpa using h, (Tm.vn_some ha ra).1, (Tm.vn_some hb rb).1⟩
        · cases hp'
      · cases h
/-- The pair itself, once it is unified. -/
theorem again_new {V : List Int} {B B' : Bs} {P : Ps} {a b : Tm} (hB : OkB B) (ra : a.right = true) (rb : b.right = true) (h : Does V B a b true B') : PNew B' P (againP B P a b) := fun p hp => by
  rcases againP_new ra rb hp with h1 | ⟨h1, h2⟩
  · exact .inl h1
  · have := h.same hB ra rb
    rw [h1, h2] at this
    exact .inr (by simpa using this)
theorem pinv_arg {B D : Bs} {a b x : Tm} {P P' : Ps} (ra : a.right = true) (rb : b.right = true) (h : PInv B a P) (hD : OkB (B ++ D)) (hx : Part (x.sub (sg B)) (a.sub (sg B))) (hP : PNew (B ++ D) (againP B P a b) P') : PInv (B ++ D) x P' := fun p hp => by
  rcases hP p hp with h1 | h1
  · have key : sg B p.1 = sg B p.2 ∨ Part (x.sub (sg B)) (sg B p.1) := by
      rcases againP_new ra rb h1 with h2 | ⟨h2, _⟩
      · rcases h p h2 with h3 | h3
        · exact .inl h3
        · exact .inr (hx.trans h3)
      · rw [h2, Tm.var_sub] at hx
        exact .inr hx
    rcases key with h2 | h2
    · exact .inl (pair_ext hD h2)
    · refine .inr ?_
      have := h2.sub (sg (B ++ D))
      rwa [sg_ext hD, sg_ext_var hD] at this
  · exact .inl h1
theorem sST_setq {st : St} {M s m o q g : Nat} {al : Bool} {B : Bs} {P : Ps} (h : US st M s m o q g al B P) (X : St) (b : Blk) (g' : Nat) (al' : Bool) (B' : Bs) : sST (X.set q b) s m o g' al' B' = (sST X s m o g' al' B').set q b := by
  obtain ⟨n1, n2, n3, n4, n5, n6⟩ := h.ne
  unfold sST; rw [set_comm X h.qm, set_comm _ n6, set_comm _ n5]
theorem stepU_none {B : Bs} {a b : Tm} {V : List Int} (hB : OkB B) (hV : BsV V B) (h : stepU B a b = none) : Does V B a b false B := ⟨hB, ⟨[], by simp⟩, hV, by simp, fun _ ps => .fail h⟩
theorem stepU_bind {B : Bs} {a b t : Tm} {n : Int} {V : List Int} (hV : BsV V (B ++ [(n, t)])) (hB : OkB (B ++ [(n, t)])) (h : stepU B a b = some (B ++ [(n, t)], [])) : Does V B a b true (B ++ [(n, t)]) := ⟨hB, ⟨_, rfl⟩, hV, fun _ ps R hR => .go h hR, by simp⟩
set_option maxRecDepth 100000 in
theorem unify_c (V : List Int) (hVs : V.length ≤ 1000000000) : ∀ (N K : Nat) (B : Bs) (a b : Tm), free V B = N → (a.sub (sg B)).size = K → OkB B → BsV V B → a.right = true → b.right = true → inV V a → inV V b → ∀ P : Ps, PInv B a P →
    ∀ (st : St) (M s m o q g : Nat) (al : Bool), US st M s m o q g al B P → ICall T Tryz.prog 130 [.ptr M 0, a.av 26, b.av 26] st (UQ V B P a b st s m o q) := by
  intro N
  induction N using Nat.strongRecOn with
  | _ N ihN =>
  intro K
  induction K using Nat.strongRecOn with
  | _ K ihK =>
  intro B a b hN hK hB hV ra rb va vb P hP st M s m o q g al h
  obtain ⟨l1, l2, l3⟩ := h.ss.lts
  obtain ⟨n1, n2, n3, n4, n5, n6⟩ := h.ne
  have hsz : B.length ≤ 1000000000 := Nat.le_trans (hV.len hB) hVs
  refine ICall.of_vc hT [4, 5] [(1, 3), (3, 5), (3, 11), (200003, 0), (200003, 1), (200003, 2), (200003, 3), (200003, 4), (200003, 6), (200003, 7), (200003, 8), (200003, 9), (200003, 10), (200003, 5), (200003, 11), (200003, 12), (200003, 13), (7, 7), (9, 7), (12, 6)] follows Tryz.call130 Tryz.func130 rfl (by kernel_rfl) fun hfix => ?_
  unfold Tryz.f130
  simp
  refine vcICall_of (again_c P a b _ M s m o g q al (h.ss.app _) (get_app h.hM _) (get_app h.hq _)) ?_
  rintro r st' ⟨rfl, rfl⟩ _
  rw [set_app h.hq]
  simp
  refine ⟨fun hag => ?_, fun hag => ?_⟩
  · obtain ⟨p, hp, rfl, rfl⟩ := againB_spec ra rb hag
    have he : sg B p.1 = sg B p.2 := by
      rcases hP p hp with h1 | h1
      · exact h1
      · have := h1.size
        rw [Tm.var_sub] at this; omega
    have hP2 : againP B P (Tm.var p.1) (Tm.var p.2) = P := by
      unfold againP
      unfold againB at hag
      cases hb : bothV B (Tm.var p.1) (Tm.var p.2) with
      | none => rfl
      | some p' => rw [hb] at hag; simp only [decide_eq_true_eq] at hag; simp only [if_pos hag]
    refine endP_mk (.sc (.bool true)) (by simp) (by simp) ⟨true, B, P, g, al, rfl, ?_, h.ss.hal, ⟨hB, ⟨[], by simp⟩, hV, fun _ ps R hR => ?_, by simp⟩, fun _ => PNew.refl B P⟩
    · rw [hP2, set_same h.hq, h.same]; exact ((Pre.refl st).app _).cut hfix rfl
    · exact Un.skip hB _ rfl ra rb (by simpa using he) ps R hR
  have hU : US (st.set q (.map (pairMap (againP B P a b)))) M s m o q g al B (againP B P a b) := by
    have := h.put (g' := g) (al' := al) (B' := B) (P' := againP B P a b) h.ss.hal
    unfold uST at this
    rwa [h.ss.same] at this
  have hU2 := hU.app [.cells (a.cells 26), .cells (b.cells 26)]
  have G1 := hU2.hM
  have G2 := hU2.ss.hs
  have G3 := hU2.ss.hm
  have ca : (st.set q (.map (pairMap (againP B P a b))) ++ [.cells (a.cells 26), .cells (b.cells 26)])[st.length]? = some (.cells (a.cells 26)) := by simp
  have cb : (st.set q (.map (pairMap (againP B P a b))) ++ [.cells (a.cells 26), .cells (b.cells 26)])[st.length + 1]? = some (.cells (b.cells 26)) := by simp
  refine ⟨fun i r Z => Z = st.set q (.map (pairMap (againP B P a b))) ++ [.cells (a.cells 26), .cells (b.cells 26)], ?_⟩
  simp (decide := true) [G1, G2, G3, ca, cb]
  refine ⟨by simp (decide := true) [G1, G2, G3, ca, cb], ?_⟩; simp (decide := true) [G1, G2, G3, ca, cb]
  refine ⟨by simp (decide := true) [G1, G2, G3, ca, cb], ?_⟩; simp (decide := true) [G1, G2, G3, ca, cb]
  refine ⟨by simp (decide := true) [G1, G2, G3, ca, cb], ?_⟩; simp (decide := true) [G1, G2, G3, ca, cb]
  refine ⟨by simp (decide := true) [G1, G2, G3, ca, cb], ?_⟩; simp (decide := true) [G1, G2, G3, ca, cb]
  refine ⟨by simp (decide := true) [G1, G2, G3, ca, cb], ?_⟩; simp (decide := true) [G1, G2, G3, ca, cb]
  refine ⟨by simp (decide := true) [G1, G2, G3, ca, cb], ?_⟩; simp (decide := true) [G1, G2, G3, ca, cb]
  refine ⟨by simp (decide := true) [G1, G2, G3, ca, cb], ?_⟩; simp (decide := true) [G1, G2, G3, ca, cb]
  refine ⟨by simp (decide := true) [G1, G2, G3, ca, cb], ?_⟩; simp (decide := true) [G1, G2, G3, ca, cb]
  refine ⟨by simp (decide := true) [G1, G2, G3, ca, cb], ?_⟩; simp (decide := true) [G1, G2, G3, ca, cb]
  refine ⟨by simp (decide := true) [G1, G2, G3, ca, cb], ?_⟩; simp (decide := true) [G1, G2, G3, ca, cb]
  refine vcThenQ_of (fun r st' => r = (wk B a).av 26 ∧ st' = st.set q (.map (pairMap (againP B P a b))) ++ [.cells (a.cells 26), .cells (b.cells 26)]) rfl (by simp) rfl (by simp [vcI, G1, G2, G3, ca, cb]; exact walk_c hB a _ s m (.own o g) G2 G3) (fun r st' h => by simp_all) ?_
  rintro r st' ⟨rfl, rfl⟩ _
  simp (decide := true) [G1, G2, G3, ca, cb]
  refine vcThenQ_of (fun r st' => r = (wk B b).av 26 ∧ st' = st.set q (.map (pairMap (againP B P a b))) ++ [.cells (a.cells 26), .cells (b.cells 26)]) rfl (by simp) rfl (by simp [vcI, G1, G2, G3, ca, cb]; exact walk_c hB b _ s m (.own o g) G2 G3) (fun r st' h => by simp_all) ?_
  rintro r st' ⟨rfl, rfl⟩ _
  simp (decide := true) [G1, G2, G3, ca, cb]
  refine ⟨by simp (decide := true) [G1, G2, G3, ca, cb], ?_⟩; simp (decide := true) [G1, G2, G3, ca, cb]
  refine ⟨by simp (decide := true) [G1, G2, G3, ca, cb], ?_⟩; simp (decide := true) [G1, G2, G3, ca, cb]
  clear G1 G2 G3 ca cb hU2
  generalize hst1 : st.set q (.map (pairMap (againP B P a b))) = st1 at hU ⊢
  obtain ⟨ka, na, sa, la, hwa⟩ : ∃ k n s l, wk B a = .mk k n s l := by rcases wk B a with ⟨k, n, s, l⟩; exact ⟨k, n, s, l, rfl⟩
  obtain ⟨kb, nb, sb, lb, hwb⟩ : ∃ k n s l, wk B b = .mk k n s l := by rcases wk B b with ⟨k, n, s, l⟩; exact ⟨k, n, s, l, rfl⟩
  rw [hwa, hwb]
  have hU2 := hU.app [.cells ((Tm.mk ka na sa la).cells 26), .cells ((Tm.mk kb nb sb lb).cells 26)]
  have G1 := fun l => get_app hU.hM l
  have hl1 : st1.length = st.length := by subst hst1; simp
  have ca := fun x l => ap0 hl1 x l
  have cb := fun x y l => ap1 hl1 x y l
  simp [ca, cb, G1, Tm.cells]
  have eX : ∀ l, uST st s m o q g al B (againP B P a b) = st1 ∧ Pre (uST st s m o q g al B (againP B P a b)) (st1 ++ l) := fun l => by
    have : uST st s m o q g al B (againP B P a b) = st1 := by unfold uST; rw [h.ss.same, hst1]
    exact ⟨this, by rw [this]; exact (Pre.refl _).app l⟩
  have fin : ∀ (σ : Slots) (Y : St) (rv : Bool) (B' : Bs) (P' : Ps) (g' : Nat) (al' : Bool), σ 6 = .sc (.bool rv) → Pre (uST st s m o q g' al' B' P') Y → (B' ≠ [] → al' = true) → Does V B a b rv B' → (rv = true → PNew B' P P') → endP T [ResultVar.tmp 6] st.length (UQ V B P a b st s m o q) σ Y := by
    intro σ Y rv B' P' g' al' h6 hY h1 h2 h3
    exact endP_mk (.sc (.bool rv)) (by simp) (by simp [h6]) ⟨rv, B', P', g', al', rfl, hY.cut (fix_US hfix h _ _ _ _) (by rw [uST_len]), h1, h2, h3⟩
  have rwa := wk_right hB a ra
  have rwb := wk_right hB b rb
  have vwa := wk_inV hV va
  have vwb := wk_inV hV vb
  have wwa := wk_walked hB a
  have wwb := wk_walked hB b
  have hua : ∀ n, (wk B a).vn = some n → n ∈ V := fun n hn => wk_vn_V hV va hn
  have hub : ∀ n, (wk B b).vn = some n → n ∈ V := fun n hn => wk_vn_V hV vb hn
  rw [hwa] at rwa vwa wwa hua
  rw [hwb] at rwb vwb wwb hub
  refine ⟨fun h1 h2 h3 => ?_, fun hne => ⟨fun h1 => ?_, fun h1 => ⟨fun h2 => ?_, fun h2 => ?_⟩⟩⟩
  · have hst : stepU B a b = some (B, []) := by simp [stepU, hwa, hwb, vn_eq, h1, h2, h3]
    have hdo : Does V B a b true B := ⟨hB, ⟨[], by simp⟩, hV, fun _ ps R hR => .go hst hR, by simp⟩
    exact fin _ _ true B _ g al rfl (eX _).2 h.ss.hal hdo fun _ => again_new hB ra rb hdo
  · have hv : (Tm.mk ka na sa la).vn = some na := by simp [Tm.vn, h1]
    have hst : stepU B a b = bindS B na (.mk kb nb sb lb) := by
      unfold stepU
      rw [hwa, hwb, hv]
      by_cases hk : kb = 1
      · have : ¬ na = nb := fun e => hne h1 hk e
        simp [vn_eq, hk, this]
      · simp [vn_eq, hk]
    have e1 : (.sc (.int .i64 na) : AV) = .sc (.int .i64 na) := rfl
    refine ⟨BQ B na (.mk kb nb sb lb) (st1 ++ [.cells ((Tm.mk ka na sa la).cells 26), .cells ((Tm.mk kb nb sb lb).cells 26)]) s m o g, ?_⟩
    simp (decide := true) [ca, cb, G1]
    refine ⟨by simp, rfl, by simp [vcI, ca, cb, G1]; exact bind_c hB na (.mk kb nb sb lb) (wwa na hv) rwb hsz _ s m o g al hU2.ss, ?_⟩
    rintro r st' (⟨hl, rfl, rfl⟩ | ⟨hl, rfl, rfl⟩) _
    · simp
      refine fin _ _ false B _ g al rfl (eX _).2 h.ss.hal (stepU_none hB hV ?_) (by simp)
      rw [hst]; unfold bindS; rw [if_pos (by simpa [lies] using hl)]
    · simp
      have ho : na ∉ ((Tm.mk kb nb sb lb).sub (sg B)).occ := by simpa [lies] using hl
      have hst2 : stepU B a b = some (B ++ [(na, .mk kb nb sb lb)], []) := by rw [hst]; unfold bindS; rw [if_neg ho]
      have hdo := stepU_bind (BsV_snoc hV (hua na hv) vwb) (by have := (bind_ok hB ra rb (n := na) (by rw [hwa]; exact hv) (by rw [hwb]; exact ho)).1; rwa [hwb] at this) hst2
      refine fin _ _ true _ (againP B P a b) (g + 1) true rfl ?_ (fun _ => rfl) hdo fun _ => again_new hB ra rb hdo
      rw [sST_app hU.ss]
      have : uST st s m o q (g + 1) true (B ++ [(na, .mk kb nb sb lb)]) (againP B P a b) = sST st1 s m o (g + 1) true (B ++ [(na, .mk kb nb sb lb)]) := by subst hst1; rw [sST_setq h]; rfl
      rw [this]; exact (Pre.refl _).app _
  · have hv : (Tm.mk kb nb sb lb).vn = some nb := by simp [Tm.vn, h2]
    have hst : stepU B a b = bindS B nb (.mk ka na sa la) := by
      unfold stepU
      rw [hwa, hwb, hv]
      simp [vn_eq, h1]
    refine ⟨BQ B nb (.mk ka na sa la) (st1 ++ [.cells ((Tm.mk ka na sa la).cells 26), .cells ((Tm.mk kb nb sb lb).cells 26)]) s m o g, ?_⟩
    simp (decide := true) [ca, cb, G1]
    refine ⟨by simp, rfl, by simp [vcI, ca, cb, G1]; exact bind_c hB nb (.mk ka na sa la) (wwb nb hv) rwa hsz _ s m o g al hU2.ss, ?_⟩
    rintro r st' (⟨hl, rfl, rfl⟩ | ⟨hl, rfl, rfl⟩) _
    · simp
      refine fin _ _ false B _ g al rfl (eX _).2 h.ss.hal (stepU_none hB hV ?_) (by simp)
      rw [hst]; unfold bindS; rw [if_pos (by simpa [lies] using hl)]
    · simp
      have ho : nb ∉ ((Tm.mk ka na sa la).sub (sg B)).occ := by simpa [lies] using hl
      have hst2 : stepU B a b = some (B ++ [(nb, .mk ka na sa la)], []) := by rw [hst]; unfold bindS; rw [if_neg ho]
      have hdo := stepU_bind (BsV_snoc hV (hub nb hv) vwa) (by have := (bind_ok hB rb ra (n := nb) (by rw [hwb]; exact hv) (by rw [hwa]; exact ho)).1; rwa [hwa] at this) hst2
      refine fin _ _ true _ (againP B P a b) (g + 1) true rfl ?_ (fun _ => rfl) hdo fun _ => again_new hB ra rb hdo
      rw [sST_app hU.ss]
      have : uST st s m o q (g + 1) true (B ++ [(nb, .mk ka na sa la)]) (againP B P a b) = sST st1 s m o (g + 1) true (B ++ [(nb, .mk ka na sa la)]) := by subst hst1; rw [sST_setq h]; rfl
      rw [this]; exact (Pre.refl _).app _
  · have hst : stepU B a b = argsS B (.mk ka na sa la) (.mk kb nb sb lb) := by
      unfold stepU
      rw [hwa, hwb]
      simp [vn_eq, h1, h2]
    refine ⟨fun hx => ?_, ?_⟩
    · refine fin _ _ false B _ g al rfl (eX _).2 h.ss.hal (stepU_none hB hV ?_) (by simp)
      rw [hst]; simp only [argsS]; rw [if_neg]
      rintro ⟨e1, e2, e3, _⟩
      rcases hx with (hx | hx) | hx
      · exact hx e1
      · exact hx e2
      · exact hx e3
    intro e1 e2 e3
    subst e1
    subst e2
    subst e3
    by_cases hlen : la.length = lb.length
    · have hst2 : stepU B a b = some (B, la.zip lb) := by rw [hst]; simp [argsS, hlen]
      simp only [Tm.right, Bool.and_eq_true] at rwa rwb
      refine vcICall_of (equalU_c V B hB hV (againP B P a b) la lb hlen _ M s m o q g al hU2 fun i h3 h4 D P1 Y g1 al1 hD hVD hP1 hY => ?_) ?_
      · have hpt := Part.of_wk hB ra hwa h1 (List.getElem_mem h3)
        have rx := rightL_mem rwa.2 _ (List.getElem_mem h3)
        have ry := rightL_mem rwb.2 _ (List.getElem_mem h4)
        have vx := inV_arg vwa h1 _ (List.getElem_mem h3)
        have vy := inV_arg vwb h1 _ (List.getElem_mem h4)
        have hpi := pinv_arg ra rb hP hD hpt hP1
        rcases ext_cases hD hVD with hd | hd
        · subst hd
          simp only [List.append_nil] at *
          exact ihK _ (by have := hpt.size; omega) B la[i] lb[i] hN rfl hB hV rx ry vx vy P1 hpi Y M s m o q g1 al1 hY
        · exact ihN _ (by omega) _ (B ++ D) la[i] lb[i] rfl rfl hD hVD rx ry vx vy P1 hpi Y M s m o q g1 al1 hY
      · rintro r st' ⟨rv, B', P', g', al', rfl, rfl, hal', hdo, hnew⟩ _
        have hdo2 : Does V B a b rv B' := ⟨hdo.ok, hdo.ext, hdo.inV, fun hr ps R hR => .go hst2 (hdo.yes hr ps R hR), fun hr ps => .go hst2 (hdo.no hr ps)⟩
        simp
        refine fin _ _ rv B' P' g' al' rfl ?_ hal' hdo2 fun hr => ?_
        · rw [uST_app hU, ← hst1, uST_set h]
          exact (Pre.refl _).app _
        · subst hr
          intro p hp
          rcases hnew rfl p hp with h5 | h5
          · exact again_new hB ra rb hdo2 p h5
          · exact .inr h5
    · refine vcICall_of (equalNe_c la lb hlen _ _) ?_
      rintro r st' ⟨rfl, rfl⟩ _
      simp
      refine fin _ _ false B _ g al rfl (eX _).2 h.ss.hal (stepU_none hB hV ?_) (by simp)
      rw [hst]; simp only [argsS]; rw [if_neg]
      rintro ⟨_, _, _, e⟩
      exact hlen e
end Go.T1
end

section
open Go Go.Ab Go.Proofs
namespace Go.T1
set_option maxRecDepth 100000 in
theorem made_c (st : St) (s m : Nat) (X : AV) (es : List (Value × AV)) (hs : st[s]? = some (.cells [.mp m, X])) (hm : st[m]? = some (.map es)) :
    ICall T Tryz.prog 129 [.ptr s 0] st (fun r st' => r = .sc (.bool true) ∧ st' = st) := by
  refine ICall.of_vc hT [] [] follows Tryz.call129 Tryz.func129 rfl (by kernel_rfl) fun hfix => ?_
  unfold Tryz.f129
  simp [hs, hm]
  exact endP_mk (.sc (.bool true)) (by simp) (by simp) ⟨rfl, (Pre.refl st).cut hfix rfl⟩
set_option maxRecDepth 100000 in
theorem madeN_c : PureCall T Tryz.prog 129 [.sc (.pointer none)] (.sc (.bool false)) := by
  refine PureCall.of_vc hT [] [] follows Tryz.call129 Tryz.func129 rfl (by kernel_rfl) (by simp [AV.pure, AV.pureL]) (by simp [AV.pure]) ?_
  unfold Tryz.f129
  simp
/-- What New makes. -/
def newSt (N : Nat) : St := [.map (bsMap []), .cells [.mp N, .own (N + 2) 0], .row 3 0 false (intsL (keys []))]
theorem SS.new (st : St) : SS (st ++ newSt st.length) (st.length + 1) st.length (st.length + 2) 0 false [] := by
  refine ⟨?_, ?_, ?_, by simp, by omega, by omega, by omega⟩ <;> simp [newSt]
set_option maxRecDepth 100000 in
theorem New_c (st : St) : ICall T Tryz.prog 103 [] st (fun r st' => r = .ptr (st.length + 1) 0 ∧ st' = st ++ newSt st.length) := by
  refine ICall.adoptR (Q := fun r st' => r = .ptr (st.length + 1) 0 ∧ st' = st ++ [.map [], .cells [.mp st.length, .nils]]) 3 ?_ ?_
  · refine ICall.of_vcU hT [3] [] follows Tryz.call103 Tryz.func103 rfl (by kernel_rfl) fun hfix => ?_
    unfold Tryz.f103
    simp
  · rintro r st' ⟨rfl, rfl⟩
    refine ⟨st.length + 1, 1, [.mp st.length, .nils], by simp, rfl, rfl, ?_⟩
    simp [newSt, bsMap, intsL]
end Go.T1
end

section
open Go Go.Ab Go.Proofs
namespace Go.T1
theorem take_drop_ok {B : Bs} {i j : Nat} (h : i + j < B.length) : B.take i ++ B.drop (i + j) = B.take i ++ (B[i + j].1, B[i + j].2) :: B.drop (i + j + 1) := by
  rw [List.drop_eq_getElem_cons h]
theorem key_not {B : Bs} (hB : OkB B) {i j : Nat} (h : i + j < B.length) : B[i + j].1 ∉ keys (B.take i) := by
  have hn := OkB_nodup hB
  have e : keys B = keys (B.take i) ++ keys (B.drop i) := by rw [← keys_append, List.take_append_drop]
  rw [e] at hn
  unfold List.Nodup at hn
  rw [List.pairwise_append] at hn
  intro hm
  refine hn.2.2 _ hm _ ?_ rfl
  refine List.mem_map.2 ⟨B[i + j], ?_, rfl⟩
  rw [List.mem_iff_getElem]
  exact ⟨j, by simp; omega, by simp⟩
/-- What Undo leaves. -/
def undoR (B : Bs) (i : Int) : Int := if i < 0 ∨ (B.length : Int) < i then 1 else 0
set_option maxRecDepth 100000 in
theorem Undo_c {B : Bs} (hB : OkB B) (i : Int) (st : St) (s m o g : Nat) (al : Bool) (h : SS st s m o g al B) :
    ICall T Tryz.prog 132 [.ptr s 0, .sc (.int .i64 i)] st (fun r st' => (undoR B i = 1 ∧ r = .sc (.int .i64 1) ∧ st' = st) ∨ (undoR B i = 0 ∧ 0 ≤ i ∧ i ≤ B.length ∧ r = .sc (.int .i64 0) ∧ st' = sST st s m o (g + 1) al (B.take i.toNat))) := by
  have hs := h.hs
  have hm := h.hm
  have ho := h.ho
  refine ICall.of_vc hT [] [(1, 1), (10, 6)] follows Tryz.call132 Tryz.func132 rfl (by kernel_rfl) fun hfix => ?_
  unfold Tryz.f132
  simp
  refine vcICall_of (made_c _ s m _ _ hs hm) ?_
  rintro r st' ⟨rfl, hst'⟩ _
  subst hst'
  simp [hs, hm, ho]
  intro hb
  refine ⟨fun hbad => ?_, fun h1 h2 => ?_⟩
  · refine endP_mk (.sc (.int .i64 1)) (by simp) (by simp) (.inl ⟨by unfold undoR; rw [if_pos hbad], rfl, (Pre.refl _).cut hfix rfl⟩)
  obtain ⟨n, rfl⟩ := Int.eq_ofNat_of_zero_le h1
  have hn : n ≤ B.length := by omega
  simp [hs, hm, ho, hn]
  refine vcC_loop [] (fun w σ Y => ∃ j : Nat, w = B.length - n - j ∧ n + j ≤ B.length ∧ Y = st'.set m (.map (bsMap (B.take n ++ B.drop (n + j)))) ∧ σ 0 = .ptr s 0 ∧ σ 1 = .sc (.int .i64 n) ∧ σ 28 = .sub o g n (B.length - n) ∧ σ 29 = .sc (.int .i64 (B.length - n : Nat)) ∧ σ 30 = .sc (.int .i64 j)) (B.length - n) ⟨0, ?_⟩ ?_
  · simp [set_same hm, hn]
    omega
  rintro w σ Y ⟨j, rfl, hj, rfl, s0, s1, s28, s29, s30⟩
  rcases Nat.lt_or_ge (n + j) B.length with hlt | hge
  · have ks := get_ne (b := .map (bsMap (B.take n ++ B.drop (n + j)))) hs (Ne.symm h.sm)
    have km := get_set (b := .map (bsMap (B.take n ++ B.drop (n + j)))) hm
    have ko := get_ne (b := .map (bsMap (B.take n ++ B.drop (n + j)))) ho h.mo
    have hlt2 : j < B.length - n := by omega
    have hal : al = true := h.hal (by rintro rfl; simp at hlt)
    have hrow : (intsL (keys B))[n + j]? = some [.sc (.int .i64 B[n + j].1)] := by simp [intsL, keys, hlt]
    simp [s0, s1, s28, s29, s30, ks, km, ko, hlt2, hrow, hal]
    have e1 := bsMap_del (B.take n) (B.drop (n + j + 1)) B[n + j].1 B[n + j].2 (key_not hB hlt)
    rw [← take_drop_ok hlt] at e1
    rw [e1]
    have hb' := hb h1
    refine ⟨by unfold i64ok; omega, B.length - n - (j + 1), by omega, j + 1, rfl, by omega, ?_, by omega⟩
    rw [Nat.add_assoc]
  · obtain rfl : j = B.length - n := by omega
    have e : n + (B.length - n) = B.length := by omega
    rw [e, List.drop_length, List.append_nil]
    have ks := get_ne (b := .map (bsMap (B.take n))) hs (Ne.symm h.sm)
    have ko := get_ne (b := .map (bsMap (B.take n))) ho h.mo
    have q1 := fun b => get_ne (i := o) (b := b) ks (Ne.symm h.so)
    have q2 := fun b => get_set (b := b) ko
    simp [s0, s1, s28, s29, s30, ks, ko, q1, q2]
    refine ⟨hn, endP_mk (.sc (.int .i64 0)) (by simp) (by simp) (.inr ⟨?_, rfl, ?_⟩)⟩
    · unfold undoR; rw [if_neg (by omega)]
    · have e2 : intsL (keys (B.take n)) = (intsL (keys B)).take n := by simp [intsL, keys, List.map_take]
      rw [← e2]
      exact (Pre.refl _).cut (fix_SS hfix h (g + 1) al (B.take n)) (by rw [sST_len])
end Go.T1
end

section
open Go Go.Ab Go.Proofs
namespace Go.T1
/-- Both may be? -/
def mayE (a b : Tm) : Int := if a.check ≠ 0 then a.check else b.check
/-- What Unify leaves. -/
def MQ (V : List Int) (B : Bs) (a b : Tm) (st : St) (s m o : Nat) (r : AV) (st' : St) : Prop :=
  (mayE a b ≠ 0 ∧ r = .tup [.sc (.bool false), .sc (.int .i64 (mayE a b))] ∧ st' = st) ∨
  (mayE a b = 0 ∧ ∃ rb B' g' al', r = .tup [.sc (.bool rb), .sc (.int .i64 0)] ∧ st' = sST st s m o g' al' B' ∧ (B' ≠ [] → al' = true) ∧ OkB B' ∧ BsV V B' ∧ (rb = true → Un B [(a, b)] (some B')) ∧ (rb = false → Un B [(a, b)] none ∧ B' = B))
theorem mayE_zero {a b : Tm} (h : mayE a b = 0) : a.check = 0 ∧ b.check = 0 := by
  unfold mayE at h
  split at h
  · rename_i h1; exact absurd h h1
  · rename_i h1; exact ⟨Classical.not_not.1 h1, h⟩
theorem BsV_take {V : List Int} {B : Bs} (h : BsV V B) (i : Nat) : BsV V (B.take i) := fun n t hm => h n t (List.mem_of_mem_take hm)
set_option maxRecDepth 100000 in
theorem Unify_c (V : List Int) (hVs : V.length ≤ 1000000000) {B : Bs} (hB : OkB B) (hV : BsV V B) (a b : Tm) (sa : a.small) (sb : b.small) (va : inV V a) (vb : inV V b) (st : St) (s m o g : Nat) (al : Bool) (h : SS st s m o g al B) :
    ICall T Tryz.prog 104 [.ptr s 0, a.av 26, b.av 26] st (MQ V B a b st s m o) := by
  obtain ⟨l1, l2, l3⟩ := h.lts
  refine ICall.of_vc hT [38] [(1, 1), (12, 5), (14, 2)] follows Tryz.call104 Tryz.func104 rfl (by kernel_rfl) fun hfix => ?_
  unfold Tryz.f104
  simp
  refine vcICall_of (made_c _ s m _ _ h.hs h.hm) ?_
  rintro r st' ⟨rfl, hst'⟩ _
  subst hst'
  simp
  refine ⟨rfl, ?_⟩
  refine vcC_loop [] (fun w σ Y => ∃ i : Nat, w = 2 - i ∧ i ≤ 2 ∧ (1 ≤ i → a.check = 0) ∧ (2 ≤ i → b.check = 0) ∧ Y = st' ∧ σ 0 = .ptr s 0 ∧ σ 4 = .eptr (a.cells 26) ∧ σ 5 = .eptr (b.cells 26) ∧ σ 18 = .lst 26 [a.cells 26, b.cells 26] ∧ σ 19 = .sc (.int .i64 2) ∧ σ 20 = .sc (.int .i64 i)) 2 ⟨0, ?_⟩ ?_
  · simp
  rintro w σ Y ⟨i, rfl, hi, hca, hcb, rfl, s0, s4, s5, s18, s19, s20⟩
  rcases Nat.lt_or_ge i 2 with hlt | hge
  · have hi2 : i = 0 ∨ i = 1 := by omega
    rcases hi2 with rfl | rfl
    · simp [s0, s4, s5, s18, s19, s20]
      refine vcCall_at (check_c a sa) ?_
      simp [s0, s4, s5, s18, s19, s20]
      refine ⟨fun hc => ?_, fun hc => ⟨by unfold i64ok; omega, 1, by omega, 1, by simp [hc]⟩⟩
      exact endP_mk (.tup [.sc (.bool false), .sc (.int .i64 a.check)]) (by simp) (by simp) (.inl ⟨by simp [mayE, hc], by simp [mayE, hc], (Pre.refl _).cut hfix rfl⟩)
    · simp [s0, s4, s5, s18, s19, s20]
      refine vcCall_at (check_c b sb) ?_
      simp [s0, s4, s5, s18, s19, s20]
      refine ⟨fun hc => ?_, fun hc => ⟨by unfold i64ok; omega, 2, by simp [hc]; exact hca (by omega)⟩⟩
      have hca' := hca (by omega)
      exact endP_mk (.tup [.sc (.bool false), .sc (.int .i64 b.check)]) (by simp) (by simp) (.inl ⟨by simp [mayE, hc, hca'], by simp [mayE, hca'], (Pre.refl _).cut hfix rfl⟩)
  · obtain rfl : i = 2 := by omega
    have ca := hca (by omega)
    have cb := hcb (by omega)
    simp [s0, s4, s5, s18, s19, s20, h.hs, h.ho]
    intro hb1 hb2
    have hS := h.app [.map [], .cells [.ptr s 0, .mp Y.length]]
    have hU : US (Y ++ [.map [], .cells [.ptr s 0, .mp Y.length]]) (Y.length + 1) s m o Y.length g al B [] := ⟨hS, by simp, by simp [pairMap], by omega⟩
    have G := hS.hs
    have G2 := get_app h.hs [.map []]
    simp [G2]
    refine ⟨UQ V B [] a b (Y ++ [.map [], .cells [.ptr s 0, .mp Y.length]]) s m o Y.length, ?_⟩
    simp (decide := true) [s4, s5]
    refine vcCall_at (Clone_c a sa) ?_
    simp (decide := true) [s4, s5, ca]
    refine vcCall_at (Clone_c b sb) ?_
    simp (decide := true) [s4, s5, cb]
    refine ⟨by simp, rfl, by simp [vcI, ca, cb]; exact unify_c V hVs _ _ B a b rfl rfl hB hV (Tm.right_of_check ca) (Tm.right_of_check cb) va vb [] (fun p hp => by cases hp) _ _ s m o Y.length g al hU, ?_⟩
    rintro r st' ⟨rb, B', P', g', al', rfl, rfl, hal', hdo, hnew⟩ _
    simp (decide := true)
    have hS' := h.put (g' := g') (al' := al') hal'
    have e1 : uST (Y ++ [.map [], .cells [.ptr s 0, .mp Y.length]]) s m o Y.length g' al' B' P' = sST Y s m o g' al' B' ++ [.map (pairMap P'), .cells [.ptr s 0, .mp Y.length]] := by
      unfold uST
      rw [sST_app h, List.set_append_right _ _ (by rw [sST_len]; exact Nat.le_refl _), sST_len]
      simp
    rw [e1]
    refine ⟨fun hr => ?_, fun hr => ?_⟩
    · subst hr
      refine endP_mk (.tup [.sc (.bool true), .sc (.int .i64 0)]) (by simp) (by simp) (.inr ⟨by simp [mayE, ca, cb], true, B', g', al', rfl, ?_, hal', hdo.ok, hdo.inV, fun _ => hdo.yes rfl [] _ (.nil B'), by simp⟩)
      exact ((Pre.refl _).app _).cut (fix_SS hfix h _ _ _) (by rw [sST_len])
    · subst hr
      obtain ⟨D, hD⟩ := hdo.ext
      have hle : B.length ≤ B'.length := by rw [hD]; simp
      simp [s0]
      refine vcICall_of (Undo_c hdo.ok B.length _ s m o g' al' (hS'.app _)) ?_
      rintro r st' (⟨hu, rfl, rfl⟩ | ⟨hu, _, _, rfl, rfl⟩) _
      · unfold undoR at hu; rw [if_neg (by omega)] at hu; cases hu
      have hB2 : B'.take B.length = B := by rw [hD]; simp
      simp [hB2]
      refine endP_mk (.tup [.sc (.bool false), .sc (.int .i64 0)]) (by simp) (by simp) (.inr ⟨by simp [mayE, ca, cb], false, B, g' + 1, al', rfl, ?_, ?_, hB, hV, by simp, fun _ => ⟨hdo.no rfl [], rfl⟩⟩)
      · rw [sST_app hS', sST_sST h.sm h.so h.mo]
        exact ((Pre.refl _).app _).cut (fix_SS hfix h _ _ _) (by rw [sST_len])
      · intro hb; exact hal' (by rintro rfl; simp at hD; exact hb hD.1)
end Go.T1
end
