/- Contracts of the functions of package term, of the packages of its answer and its statements: each at every term, of a size that is bounded where a count is made. -/
import Derived.Test.YtgnkkcmbbhpgdaaW3
import Derived.Test.YtgnkkcmbbhpgdaaRows
import Derived.KernelRfl
import Derived.RangeFuncNested
import Derived.RangeFuncBound
import Derived.RangeFuncCalls
import Derived.RangeFuncLeaves
import Derived.Shelf.Abstract
import Derived.Shelf.RegionOpen
import Derived.WalkKit
import Derived.OwnWalkIn
import Derived.TacticsInMore
import Derived.LoopNIn
import Derived.LoopIn
import Derived.SizedLaws
import Derived.Carry
import Derived.ProofKit
import Derived.OpenShut
import Derived.JoinedOf
import Derived.ChangeSame
set_option linter.unusedSimpArgs false
set_option linter.unusedVariables false
set_option linter.unusedSectionVars false
set_option linter.unnecessarySimpa false
section
open Go Go.Ab Go.Proofs
namespace Go.T1
noncomputable abbrev T : Tab := tabOf Try.prog
theorem hT : TabOk T Try.prog := tabOf_ok _
@[simp] theorem ty3 : T 3 = some ⟨1, 8, .int .i64, [], some (.int .i64 0)⟩ := by kernel_rfl
@[simp] theorem ty33 : T 33 = some ⟨1, 8, .int .i64, [], some (.int .i64 0)⟩ := by kernel_rfl
@[simp] theorem ty4 : T 4 = some ⟨1, 1, .bool, [], some (.bool false)⟩ := by kernel_rfl
@[simp] theorem ty9 : T 9 = some ⟨1, 16, .str, [], some (.string .empty)⟩ := by kernel_rfl
@[simp] theorem ty22 : T 22 = some ⟨1, 24, .slice 24, [], some (.slice none 0 0)⟩ := by kernel_rfl
@[simp] theorem ty24 : T 24 = some ⟨4, 56, .strct, [(0,1),(1,1),(2,1),(3,1)], some (.agg #[.int .i64 0, .int .i64 0, .string .empty, .slice none 0 0])⟩ := by kernel_rfl
@[simp] theorem ty57 : T 57 = some ⟨3, 24, .strct, [(0,1),(1,1),(2,1)], some (.agg #[.int .i64 0, .int .i64 0, .bool false])⟩ := by kernel_rfl
theorem follows : Try.prog.follows .mixedOrders = true := by kernel_rfl
end Go.T1
end

section
open Go Go.Ab Go.Proofs
namespace Go.T1
set_option maxRecDepth 100000 in
theorem bare_c (k n : Int) (s : ByteArray) (l : List Tm) : PureCall T Try.prog 66 [(Tm.mk k n s l).av 24] (.sc (.bool (decide (s = ⟨#[]⟩) && decide (l.length = 0)))) := by
  refine PureCall.of_vc hT [] [] follows Try.call66 Try.func66 rfl (by kernel_rfl) (by simp [AV.pure, AV.pureL]) rfl ?_
  unfold Try.f66
  simp [Tm.cells]

set_option maxRecDepth 100000 in
theorem refpart_c (k n : Int) (s : ByteArray) (l : List Tm) : PureCall T Try.prog 59 [(Tm.mk k n s l).av 24] (.sc (.bool (partB k n s l.length))) := by
  generalize hr : partB k n s l.length = r
  refine PureCall.of_vc hT [] [] follows Try.call59 Try.func59 rfl (by kernel_rfl) (by simp [AV.pure, AV.pureL]) rfl ?_
  unfold Try.f59
  simp [Tm.cells]
  subst hr
  unfold partB
  refine ⟨fun h _ => by simp [h], fun h1 => ⟨fun h _ => by simp [h], fun h2 => ⟨fun h _ => by simp [h], fun h3 => ⟨fun h _ _ => by simp [h], fun h4 => by simp [*]⟩⟩⟩⟩

set_option maxRecDepth 100000 in
theorem part_c (k n : Int) (s : ByteArray) (l : List Tm) : PureCall T Try.prog 65 [(Tm.mk k n s l).av 24] (.sc (.bool (partB k n s l.length))) := by
  generalize hr : partB k n s l.length = r
  refine PureCall.of_vc hT [] [] follows Try.call65 Try.func65 rfl (by kernel_rfl) (by simp [AV.pure, AV.pureL]) rfl ?_
  unfold Try.f65
  simp [Tm.cells]
  refine ⟨fun h => vcCall_at (bare_c k n s l) ?_, fun h1 => ⟨fun h => vcCall_at (bare_c k n s l) ?_, fun h2 => ⟨fun h _ => by subst hr; simp [h, partB], fun h3 => ⟨fun h _ _ => by subst hr; simp [h, partB], fun h4 => by subst hr; simp [partB, *]⟩⟩⟩⟩
  · simp
    subst hr; simp [h, partB, Bool.and_assoc]
  · simp
    subst hr; simp [h, partB, Bool.and_assoc]

/-- What is counted. -/
def cntB (p d : Int) (b : Bool) : Blk := .cells [.sc (.int .i64 p), .sc (.int .i64 d), .sc (.bool b)]

set_option maxRecDepth 100000 in
theorem count_c : ∀ (t : Tm) (p d dep : Int) (b : Bool) (id : Nat) (st : St), st[id]? = some (cntB p d b) → 0 ≤ p → p + t.size ≤ 1000000000 → 0 ≤ dep → dep + t.depth ≤ 1000000000 →
    ICall T Try.prog 60 [.ptr id 0, t.av 24, .sc (.int .i64 dep)] st (fun r st' => r = .tup [] ∧ st' = st.set id (cntB (p + t.size) (max d (dep + t.depth - 1)) (b || !t.right))) := by
  refine Tm.ind fun k n s l ih => ?_
  intro p d dep b id st hid hp hps hdep hdd
  have hidl : id < st.length := (List.getElem?_eq_some_iff.1 hid).1
  refine ICall.of_vc hT [] [(7, 4)] follows Try.call60 Try.func60 rfl (by kernel_rfl) fun hfix => ?_
  unfold Try.f60
  have hset : ∀ b, (st.set id b)[id]? = some b := fun b => by simp [hidl]
  unfold cntB at hid
  clear hidl
  simp [Tm.cells, hid, hset, cntB]
  simp only [Tm.size, Tm.depth] at hps hdd
  have hb1 := Tm.depthL_le_sizeL l
  refine ⟨by unfold i64ok; omega, vcCall_at (part_c k n s l) ?_⟩
  simp [hid, hset]
  intro hl1 hl2
  refine vcC_loop [] (fun m σ st' => ∃ i : Nat, m = l.length - i ∧ i ≤ l.length ∧ σ 0 = .ptr id 0 ∧ σ 2 = .sc (.int .i64 dep) ∧ σ 37 = .lst 24 (Tm.cellsL 24 l) ∧ σ 38 = .sc (.int .i64 l.length) ∧ σ 39 = .sc (.int .i64 i) ∧
    st' = st.set id (cntB (p + 1 + Tm.sizeL (l.take i)) (max (max d dep) (dep + Tm.depthL (l.take i))) ((b || !partB k n s l.length) || !Tm.rightL (l.take i)))) l.length ⟨0, by simp, by simp, by simp, by simp, by simp, by simp, by simp, ?_⟩ ?_
  · simp [Tm.sizeL, Tm.depthL, Tm.rightL, cntB]
  rintro m σ st' ⟨i, rfl, hi, s0, s2, s37, s38, s39, rfl⟩
  rcases Nat.lt_or_ge i l.length with hlt | hge
  · have h1 := Tm.size_get hlt
    have h2 := Tm.sizeL_take_le l i
    have h3 := Tm.depthL_take_le l (i + 1)
    rw [Tm.depthL_take hlt] at h3
    have h4 := Tm.depth_le_size l[i]
    simp [s0, s2, s37, s38, s39, hlt]
    refine ⟨by unfold i64ok; omega, vcICall_of (ih l[i] (List.getElem_mem hlt) _ _ _ _ id _ (hset _) (by omega) (by omega) (by omega) (by omega)) ?_⟩
    rintro r st' ⟨rfl, rfl⟩ _
    simp [s0, s2, s37, s38, s39]
    refine ⟨by unfold i64ok; omega, l.length - (i + 1), by omega, i + 1, rfl, by omega, by omega, ?_⟩
    rw [Tm.sizeL_take hlt, Tm.depthL_take hlt, Tm.rightL_take hlt]
    congr 2
    · omega
    · omega
    · simp [Bool.or_assoc]
  · simp [s0, s2, s37, s38, s39, Nat.not_lt.2 hge]
    refine endP_mk (.tup []) (by simp) (by simp) ⟨rfl, ?_⟩
    have hi : i = l.length := by omega
    subst hi
    rw [cutSt_set0 hfix]
    have e1 : p + 1 + (Tm.sizeL l : Int) = p + (1 + Tm.sizeL l) := by omega
    have e2 : max d (max dep (dep + (Tm.depthL l : Int))) = max d (dep + (Tm.depthL l + 1) - 1) := by omega
    simp [cntB, Tm.size, Tm.depth, Tm.right, e1, e2, Bool.or_assoc]

set_option maxRecDepth 100000 in
theorem measure_c (t : Tm) (ht : t.small) : PureCall T Try.prog 48 [t.av 24] (.agg [.sc (.int .i64 t.size), .sc (.int .i64 t.depth), .sc (.bool (!t.right))]) := by
  unfold Tm.small at ht
  refine PureCall.of_vc hT [] [(2, 1)] follows Try.call48 Try.func48 rfl (by kernel_rfl) (by simp [AV.pure, AV.pureL]) rfl ?_
  unfold Try.f48
  have h1 := Tm.depth_le_size t
  have h2 := Tm.depth_pos t
  simp
  refine vcICall_of (count_c t 0 0 1 false 1 _ (by simp [cntB]) (by omega) (by omega) (by omega) (by omega)) ?_
  rintro r st' ⟨rfl, rfl⟩ _
  simp [cntB]
  omega

set_option maxRecDepth 100000 in
theorem check_c (t : Tm) (ht : t.small) : PureCall T Try.prog 24 [t.av 24] (.sc (.int .i64 t.check)) := by
  generalize hr : t.check = r
  refine PureCall.of_vc hT [] [] follows Try.call24 Try.func24 rfl (by kernel_rfl) (by simp [AV.pure, AV.pureL]) rfl ?_
  unfold Try.f24
  simp
  refine vcCall_at (measure_c t ht) ?_
  simp
  unfold Tm.check at hr
  refine ⟨fun h => by rw [if_pos h] at hr; exact hr, fun h => ?_⟩
  rw [if_neg (by simp [h])] at hr
  refine ⟨fun h1 => by rw [if_pos (by omega)] at hr; exact hr, fun h1 => ?_⟩
  rw [if_neg (by omega)] at hr
  exact ⟨fun h2 => by rw [if_pos (by omega)] at hr; exact hr, fun h2 => by rw [if_neg (by omega)] at hr; exact hr⟩

set_option maxRecDepth 100000 in
theorem may_c (t : Tm) (ht : t.small) : PureCall T Try.prog 49 [t.av 24] (.sc (.bool (decide (t.check = 0)))) := by
  refine PureCall.of_vc hT [] [] follows Try.call49 Try.func49 rfl (by kernel_rfl) (by simp [AV.pure, AV.pureL]) rfl ?_
  unfold Try.f49
  simp
  refine vcCall_at (check_c t ht) ?_
  simp

set_option maxRecDepth 100000 in
theorem exact_c : ∀ a b : Tm, PureCall T Try.prog 12 [a.av 24, b.av 24] (.sc (.bool (decide (a = b)))) := by
  refine Tm.ind fun k n s l ih => ?_
  rintro ⟨k', n', s', l'⟩
  generalize hr : decide (Tm.mk k n s l = Tm.mk k' n' s' l') = r
  refine PureCall.of_vc hT [] [] follows Try.call12 Try.func12 rfl (by kernel_rfl) (by simp [AV.pure, AV.pureL]) rfl ?_
  unfold Try.f12
  simp [Tm.cells]
  intro hb1 hb2
  refine ⟨fun h => ?_, fun h1 h2 h3 h4 => ?_⟩
  · subst hr; simp; rintro rfl rfl rfl rfl; simp at h
  · subst h1 h2 h3
    have hb1 := hb1 rfl rfl rfl
    have hlen : l.length = l'.length := by omega
    refine vcC_loop [] (fun m σ st => ∃ i : Nat, m = l.length - i ∧ i ≤ l.length ∧ l.take i = l'.take i ∧ σ 2 = .eptr [.sc (.int .i64 k), .sc (.int .i64 n), .sc (.string s), .lst 24 (Tm.cellsL 24 l)] ∧
      σ 3 = .eptr [.sc (.int .i64 k), .sc (.int .i64 n), .sc (.string s), .lst 24 (Tm.cellsL 24 l')] ∧ σ 5 = .sc (.int .i64 i) ∧ st = []) l.length ⟨0, by simp⟩ ?_
    rintro m σ st ⟨i, rfl, hi, htk, s2, s3, s5, rfl⟩
    rcases Nat.lt_or_ge i l.length with hlt | hge
    · have hlt' : i < l'.length := hlen ▸ hlt
      simp [s2, s3, s5, hlt, hlt']
      refine fun _ _ => vcCall_at (ih l[i] (List.getElem_mem hlt) l'[i]) ?_
      simp [s2, s3, s5]
      refine ⟨fun hne => ?_, fun he => ⟨by simp [i64ok]; omega, l.length - (i + 1), by omega, i + 1, rfl, by omega, ?_, by simp⟩⟩
      · subst hr; simp; rintro rfl; exact hne rfl
      · rw [List.take_add_one, List.take_add_one, htk]; simp [hlt, hlt', he]
    · simp [s2, s3, s5, Nat.not_lt.2 hge]
      subst hr
      have : i = l.length := by omega
      subst this
      simp
      rw [List.take_of_length_le (by omega), List.take_of_length_le (by omega)] at htk
      exact fun _ _ => htk
end Go.T1
end

section
open Go Go.Ab Go.Proofs
namespace Go.T1
set_option maxRecDepth 100000 in
theorem Var_c (n : Int) : PureCall T Try.prog 13 [.sc (.int .i64 n)] ((Tm.mk 1 n ⟨#[]⟩ []).av 24) := by
  refine PureCall.of_vc hT [] [] follows Try.call13 Try.func13 rfl (by kernel_rfl) rfl rfl ?_
  unfold Try.f13
  simp [Tm.cells, Tm.cellsL]
  rfl
set_option maxRecDepth 100000 in
theorem rVar_c (n : Int) : PureCall T Try.prog 14 [.sc (.int .i64 n)] ((Tm.mk 1 n ⟨#[]⟩ []).av 24) := by
  refine PureCall.of_vc hT [] [] follows Try.call14 Try.func14 rfl (by kernel_rfl) rfl rfl ?_
  unfold Try.f14
  simp [Tm.cells, Tm.cellsL]
  rfl
set_option maxRecDepth 100000 in
theorem Int_c (n : Int) : PureCall T Try.prog 15 [.sc (.int .i64 n)] ((Tm.mk 2 n ⟨#[]⟩ []).av 24) := by
  refine PureCall.of_vc hT [] [] follows Try.call15 Try.func15 rfl (by kernel_rfl) rfl rfl ?_
  unfold Try.f15
  simp [Tm.cells, Tm.cellsL]
  rfl
set_option maxRecDepth 100000 in
theorem rInt_c (n : Int) : PureCall T Try.prog 16 [.sc (.int .i64 n)] ((Tm.mk 2 n ⟨#[]⟩ []).av 24) := by
  refine PureCall.of_vc hT [] [] follows Try.call16 Try.func16 rfl (by kernel_rfl) rfl rfl ?_
  unfold Try.f16
  simp [Tm.cells, Tm.cellsL]
  rfl
set_option maxRecDepth 100000 in
theorem Atom_c (s : ByteArray) : PureCall T Try.prog 17 [.sc (.string s)] ((Tm.mk 3 0 s []).av 24) := by
  refine PureCall.of_vc hT [] [] follows Try.call17 Try.func17 rfl (by kernel_rfl) rfl rfl ?_
  unfold Try.f17
  simp [Tm.cells, Tm.cellsL]
set_option maxRecDepth 100000 in
theorem rAtom_c (s : ByteArray) : PureCall T Try.prog 18 [.sc (.string s)] ((Tm.mk 3 0 s []).av 24) := by
  refine PureCall.of_vc hT [] [] follows Try.call18 Try.func18 rfl (by kernel_rfl) rfl rfl ?_
  unfold Try.f18
  simp [Tm.cells, Tm.cellsL]

set_option maxRecDepth 100000 in
theorem slClone_c (l : List Tm) (hl : l.length * 56 ≤ 140737488355328) : PureCall T Try.prog 45 [.lst 24 (Tm.cellsL 24 l)] (.lst 24 (Tm.cellsL 24 l)) := by
  refine PureCall.of_vc hT [] [] follows Try.call45 Try.func45 rfl (by kernel_rfl) (by simp [AV.pure, AV.pureL]) (by simp [AV.pure]) ?_
  unfold Try.f45
  simp [hl]

/-- A compound, or an atom. -/
def compT (s : ByteArray) (l : List Tm) : Tm := if l = [] then .mk 3 0 s [] else .mk 4 0 s l

set_option maxRecDepth 100000 in
theorem Comp_c (s : ByteArray) (l : List Tm) : PureCall T Try.prog 19 [.sc (.string s), .lst 24 (Tm.cellsL 24 l)] ((compT s l).av 24) := by
  unfold compT
  refine PureCall.of_vc hT [] [] follows Try.call19 Try.func19 rfl (by kernel_rfl) (by simp [AV.pure, AV.pureL]) (by simp [AV.pure]) ?_
  unfold Try.f19
  simp
  intro h1 h2
  refine ⟨fun h => ?_, fun h => ?_⟩
  · subst h
    refine vcCall_at (Atom_c s) ?_
    simp
  · rw [if_neg h]
    refine vcCall_at (slClone_c l h1) ?_
    simp [Tm.cells]

set_option maxRecDepth 100000 in
theorem rComp_c (s : ByteArray) (l : List Tm) : PureCall T Try.prog 20 [.sc (.string s), .lst 24 (Tm.cellsL 24 l)] ((compT s l).av 24) := by
  unfold compT
  refine PureCall.of_vc hT [] [] follows Try.call20 Try.func20 rfl (by kernel_rfl) (by simp [AV.pure, AV.pureL]) (by simp [AV.pure]) ?_
  unfold Try.f20
  simp
  intro h1 h2
  refine ⟨fun h => ?_, fun h => ?_⟩
  · subst h
    refine vcCall_at (rAtom_c s) ?_
    simp
  · rw [if_neg h]
    simp [Tm.cells, h1]

@[simp] theorem pf57_0 : plainField Try.prog 57 0 = some 0 := by kernel_rfl
@[simp] theorem pf57_1 : plainField Try.prog 57 1 = some 1 := by kernel_rfl
set_option maxRecDepth 100000 in
theorem Size_c (t : Tm) (ht : t.small) : PureCall T Try.prog 26 [t.av 24] (.sc (.int .i64 (if t.check = 0 then t.size else 0))) := by
  refine PureCall.of_vc hT [] [] follows Try.call26 Try.func26 rfl (by kernel_rfl) (by simp [AV.pure, AV.pureL]) (by simp [AV.pure]) ?_
  unfold Try.f26
  simp
  refine vcCall_at (may_c t ht) ?_
  simp
  refine ⟨fun h => by simp [h], fun h => vcCall_at (measure_c t ht) ?_⟩
  simp [h]
set_option maxRecDepth 100000 in
theorem Depth_c (t : Tm) (ht : t.small) : PureCall T Try.prog 27 [t.av 24] (.sc (.int .i64 (if t.check = 0 then t.depth else 0))) := by
  refine PureCall.of_vc hT [] [] follows Try.call27 Try.func27 rfl (by kernel_rfl) (by simp [AV.pure, AV.pureL]) (by simp [AV.pure]) ?_
  unfold Try.f27
  simp
  refine vcCall_at (may_c t ht) ?_
  simp
  refine ⟨fun h => by simp [h], fun h => vcCall_at (measure_c t ht) ?_⟩
  simp [h]
end Go.T1
end

section
open Go Go.Ab Go.Proofs
namespace Go.T1
set_option maxRecDepth 100000 in
theorem build_c (fn : FuncId) (fs cs : List AV) (hF : (AV.fn (.func fn) fs cs).pure = true) (f : Int → Tm) :
    ∀ t : Tm, (∀ n ∈ t.occ, PureCall T Try.prog fn (fs ++ .sc (.int .i64 n) :: cs) ((f n).av 24)) → PureCall T Try.prog 50 [t.av 24, .fn (.func fn) fs cs] ((t.sub f).av 24) := by
  refine Tm.ind fun k n s l ih => ?_
  intro hx
  refine PureCall.of_vc hT [5] [] follows Try.call50 Try.func50 rfl (by kernel_rfl) (by simp [AV.pure, AV.pureL]; simpa [AV.pure] using hF) (by simp [AV.pure]) ?_
  unfold Try.f50
  simp [Tm.cells]
  refine ⟨fun h => ?_, fun h => ?_⟩
  · refine vcCall_at (hx n (by simp [Tm.occ, h])) ?_
    simp [h, Tm.sub]
  · intro hl1 hl2
    refine vcC_loop [(24, .cell 1 3)] (fun m σ st => ∃ (i : Nat) (al : Bool), m = l.length - i ∧ i ≤ l.length ∧ σ 1 = .fn (.func fn) fs cs ∧ σ 4 = .ptr 0 0 ∧ σ 5 = .ptr 1 0 ∧ σ 23 = .lst 24 (Tm.cellsL 24 l) ∧
      σ 24 = .sc (.int .i64 l.length) ∧ σ 25 = .sc (.int .i64 i) ∧
      st = [.cells [.sc (.int .i64 0), .sc (.int .i64 0), .sc (.string .empty), .nils], .cells [.sc (.int .i64 k), .sc (.int .i64 n), .sc (.string s), .own 2 i], .row 24 i al (Tm.cellsL 24 (Tm.subL f (l.take i)))]) l.length ?_ ?_
    · simp [Tm.subL, Tm.cellsL]
      exact ⟨0, by simp, by simp, by simp, rfl, by simp [Tm.subL]⟩
    rintro m σ st ⟨i, al, rfl, hi, s1, s4, s5, s23, s24, s25, rfl⟩
    rcases Nat.lt_or_ge i l.length with hlt | hge
    · simp [s1, s4, s5, s23, s24, s25, hlt]
      refine vcCall_at (ih l[i] (List.getElem_mem hlt) fun m hm => hx m (by simp only [Tm.occ, if_neg h]; exact Tm.occ_mem (List.getElem_mem hlt) hm)) ?_
      simp [s1, s4, s5, s23, s24, s25]
      refine ⟨by rw [Nat.min_eq_left hi]; omega, by unfold i64ok; omega, l.length - (i + 1), by omega, i + 1, rfl, by omega, by omega, rfl, ?_⟩
      rw [Tm.subL_take hlt]
      simp [Tm.cellsL]
    · have hi : i = l.length := by omega
      subst hi
      simp [s1, s4, s5, s23, s24, s25]
      simp [Tm.sub, h, Tm.cells]
end Go.T1
end

section
open Go Go.Ab Go.Proofs
namespace Go.T1
set_option maxRecDepth 100000 in
theorem rright_c : ∀ t : Tm, PureCall T Try.prog 47 [t.av 24] (.sc (.bool t.right)) := by
  refine Tm.ind fun k n s l ih => ?_
  generalize hr : (Tm.mk k n s l).right = r
  simp only [Tm.right] at hr
  refine PureCall.of_vc hT [] [] follows Try.call47 Try.func47 rfl (by kernel_rfl) (by simp [AV.pure, AV.pureL]) rfl ?_
  unfold Try.f47
  simp [Tm.cells]
  refine vcCall_at (refpart_c k n s l) ?_
  simp
  refine ⟨fun h => by simp [h] at hr; exact hr.symm ▸ rfl, fun h => ?_⟩
  rw [h, Bool.true_and] at hr
  refine vcC_loop [] (fun m σ st => ∃ i : Nat, m = l.length - i ∧ i ≤ l.length ∧ Tm.rightL (l.take i) = true ∧ σ 1 = .eptr [.sc (.int .i64 k), .sc (.int .i64 n), .sc (.string s), .lst 24 (Tm.cellsL 24 l)] ∧
    σ 3 = .sc (.int .i64 i) ∧ st = []) l.length ⟨0, by simp [Tm.rightL]⟩ ?_
  rintro m σ st ⟨i, rfl, hi, htk, s1, s3, rfl⟩
  rcases Nat.lt_or_ge i l.length with hlt | hge
  · simp [s1, s3, hlt]
    refine fun hb1 hb2 => vcCall_at (ih l[i] (List.getElem_mem hlt)) ?_
    simp [s1, s3]
    have h2 : Tm.rightL (l.take (i + 1)) = l[i].right := by rw [Tm.rightL_take hlt, htk, Bool.true_and]
    refine ⟨fun hf => ?_, fun ht => ⟨by unfold i64ok; omega, l.length - (i + 1), by omega, i + 1, rfl, by omega, by rw [h2]; exact ht, by omega⟩⟩
    rw [← hr, ← List.take_append_drop (i + 1) l, Tm.rightL_append, h2, hf]; rfl
  · have hi : i = l.length := by omega
    subst hi
    simp [s1, s3]
    rw [List.take_length] at htk
    rw [← hr, htk]
    exact fun _ _ => rfl

set_option maxRecDepth 100000 in
theorem rDepth_c : ∀ t : Tm, t.small → PureCall T Try.prog 32 [t.av 24] (.sc (.int .i64 t.depth)) := by
  refine Tm.ind fun k n s l ih => ?_
  intro hs
  have hsm : 1 + Tm.sizeL l ≤ 900000000 := hs
  have hds := Tm.depthL_le_sizeL l
  refine PureCall.of_vc hT [] [] follows Try.call32 Try.func32 rfl (by kernel_rfl) (by simp [AV.pure, AV.pureL]) rfl ?_
  unfold Try.f32
  simp [Tm.cells]
  refine vcC_loop [] (fun m σ st => ∃ i : Nat, m = l.length - i ∧ i ≤ l.length ∧ σ 1 = .eptr [.sc (.int .i64 k), .sc (.int .i64 n), .sc (.string s), .lst 24 (Tm.cellsL 24 l)] ∧
    σ 4 = .sc (.int .i64 i) ∧ σ 3 = .sc (.int .i64 (Tm.depthL (l.take i))) ∧ st = []) l.length ⟨0, by simp [Tm.depthL]⟩ ?_
  rintro m σ st ⟨i, rfl, hi, s1, s4, s3, rfl⟩
  rcases Nat.lt_or_ge i l.length with hlt | hge
  · have h1 := Tm.size_get hlt
    simp [s1, s3, s4, hlt]
    refine fun hb1 hb2 => vcCall_at (ih l[i] (List.getElem_mem hlt) (by unfold Tm.small; omega)) ?_
    simp [s1, s3, s4]
    have h2 := Tm.depthL_take hlt
    exact ⟨fun hf => ⟨by unfold i64ok; omega, l.length - (i + 1), by omega, i + 1, rfl, by omega, by omega, by omega⟩, fun hf => ⟨by unfold i64ok; omega, l.length - (i + 1), by omega, i + 1, rfl, by omega, by omega, by omega⟩⟩
  · have hi : i = l.length := by omega
    subst hi
    simp [s1, s3, s4, Tm.depth]
    intro _ _
    unfold i64ok; omega

set_option maxRecDepth 100000 in
theorem rSize_c : ∀ t : Tm, t.small → PureCall T Try.prog 31 [t.av 24] (.sc (.int .i64 t.size)) := by
  refine Tm.ind fun k n s l ih => ?_
  intro hs
  have hsm : 1 + Tm.sizeL l ≤ 900000000 := hs
  refine PureCall.of_vc hT [] [] follows Try.call31 Try.func31 rfl (by kernel_rfl) (by simp [AV.pure, AV.pureL]) rfl ?_
  unfold Try.f31
  simp [Tm.cells]
  refine vcC_loop [] (fun m σ st => ∃ i : Nat, m = l.length - i ∧ i ≤ l.length ∧ σ 1 = .eptr [.sc (.int .i64 k), .sc (.int .i64 n), .sc (.string s), .lst 24 (Tm.cellsL 24 l)] ∧
    σ 4 = .sc (.int .i64 i) ∧ σ 3 = .sc (.int .i64 (1 + Tm.sizeL (l.take i))) ∧ st = []) l.length ⟨0, by simp [Tm.sizeL]⟩ ?_
  rintro m σ st ⟨i, rfl, hi, s1, s4, s3, rfl⟩
  rcases Nat.lt_or_ge i l.length with hlt | hge
  · have h1 := Tm.size_get hlt
    simp [s1, s3, s4, hlt]
    refine fun hb1 hb2 => vcCall_at (ih l[i] (List.getElem_mem hlt) (by unfold Tm.small; omega)) ?_
    simp [s1, s3, s4]
    have h2 := Tm.sizeL_take hlt
    exact ⟨by unfold i64ok; omega, by unfold i64ok; omega, l.length - (i + 1), by omega, i + 1, rfl, by omega, by omega, by omega⟩
  · have hi : i = l.length := by omega
    subst hi
    simp [s1, s3, s4, Tm.size]

set_option maxRecDepth 100000 in
theorem rCheck_c (t : Tm) (ht : t.small) : PureCall T Try.prog 23 [t.av 24] (.sc (.int .i64 t.check)) := by
  generalize hr : t.check = r
  unfold Tm.check at hr
  refine PureCall.of_vc hT [] [] follows Try.call23 Try.func23 rfl (by kernel_rfl) (by simp [AV.pure, AV.pureL]) rfl ?_
  unfold Try.f23
  simp
  refine vcCall_at (rright_c t) ?_
  simp
  refine ⟨fun h => by rw [if_pos h] at hr; exact hr, fun h => ?_⟩
  rw [if_neg (by simp [h])] at hr
  refine vcCall_at (rDepth_c t ht) ?_
  simp
  refine ⟨fun h1 => by rw [if_pos (by omega)] at hr; exact hr, fun h1 => ?_⟩
  rw [if_neg (by omega)] at hr
  refine vcCall_at (rSize_c t ht) ?_
  simp
  exact ⟨fun h2 => by rw [if_pos (by omega)] at hr; exact hr, fun h2 => by rw [if_neg (by omega)] at hr; exact hr⟩
end Go.T1
end

section
open Go Go.Ab Go.Proofs
namespace Go.T1
set_option maxRecDepth 100000 in
theorem equalFunc_c (F : FuncId) (a b : List Tm) (ih : ∀ x ∈ a, ∀ y, PureCall T Try.prog F [x.av 24, y.av 24] (.sc (.bool (decide (x = y))))) :
    PureCall T Try.prog 62 [.lst 24 (Tm.cellsL 24 a), .lst 24 (Tm.cellsL 24 b), .fn (.func F) [] []] (.sc (.bool (decide (a = b)))) := by
  generalize hr : decide (a = b) = r
  refine PureCall.of_vc hT [] [] follows Try.call62 Try.func62 rfl (by kernel_rfl) (by simp [AV.pure, AV.pureL]) rfl ?_
  unfold Try.f62
  simp
  intro hb1 hb2 hb3 hb4
  refine ⟨fun h => by subst hr; simp; rintro rfl; exact h rfl, fun h => ?_⟩
  have hlen : a.length = b.length := by omega
  intro _ _
  refine vcC_loop [] (fun m σ st => ∃ i : Nat, m = a.length - i ∧ i ≤ a.length ∧ a.take i = b.take i ∧ σ 15 = .lst 24 (Tm.cellsL 24 a) ∧ σ 1 = .lst 24 (Tm.cellsL 24 b) ∧ σ 2 = .fn (.func F) [] [] ∧ σ 16 = .sc (.int .i64 a.length) ∧ σ 17 = .sc (.int .i64 i)) a.length ⟨0, by simp⟩ ?_
  rintro m σ st ⟨i, rfl, hi, htk, s15, s1, s2, s16, s17⟩
  rcases Nat.lt_or_ge i a.length with hlt | hge
  · have hlt' : i < b.length := hlen ▸ hlt
    simp [s15, s1, s2, s16, s17, hlt, hlt']
    refine vcCall_at (ih a[i] (List.getElem_mem hlt) b[i]) ?_
    simp [s15, s1, s2, s16, s17]
    refine ⟨fun hne => ?_, fun he => ⟨by unfold i64ok; omega, a.length - (i + 1), by omega, i + 1, rfl, by omega, ?_, by omega⟩⟩
    · subst hr; simp; rintro rfl; exact hne rfl
    · rw [Tm.take_succ hlt, Tm.take_succ hlt', htk, he]
  · have hi : i = a.length := by omega
    subst hi
    simp [s15, s1, s2, s16, s17]
    rw [List.take_length, hlen, List.take_length] at htk
    subst hr; simpa using htk

set_option maxRecDepth 100000 in
theorem same_c : ∀ a b : Tm, PureCall T Try.prog 52 [a.av 24, b.av 24] (.sc (.bool (decide (a = b)))) := by
  refine Tm.ind fun k n s l ih => ?_
  rintro ⟨k', n', s', l'⟩
  generalize hr : decide (Tm.mk k n s l = Tm.mk k' n' s' l') = r
  refine PureCall.of_vc hT [] [] follows Try.call52 Try.func52 rfl (by kernel_rfl) (by simp [AV.pure, AV.pureL]) rfl ?_
  unfold Try.f52
  simp [Tm.cells]
  refine vcCall_at (equalFunc_c 52 l l' ih) ?_
  simp
  rw [← hr]; simp [Bool.and_assoc]

set_option maxRecDepth 100000 in
theorem Same_c (a b : Tm) (ha : a.small) (hb : b.small) : PureCall T Try.prog 30 [a.av 24, b.av 24] (.sc (.bool (decide (a.check = 0) && decide (b.check = 0) && decide (a = b)))) := by
  refine PureCall.of_vc hT [] [] follows Try.call30 Try.func30 rfl (by kernel_rfl) (by simp [AV.pure, AV.pureL]) rfl ?_
  unfold Try.f30
  simp
  refine vcCall_at (may_c a ha) ?_
  simp
  refine vcCall_at (may_c b hb) ?_
  simp
  refine vcCall_at (same_c a b) ?_
  simp

set_option maxRecDepth 100000 in
theorem indexFunc_c (F : FuncId) (fs cs : List AV) (hF : (AV.fn (.func F) fs cs).pure = true) (p : Tm → Bool) (l : List Tm) (ih : ∀ x ∈ l, PureCall T Try.prog F (fs ++ x.av 24 :: cs) (.sc (.bool (p x)))) :
    PureCall T Try.prog 64 [.lst 24 (Tm.cellsL 24 l), .fn (.func F) fs cs] (.sc (.int .i64 (Tm.fi p l 0))) := by
  generalize hr : Tm.fi p l 0 = r
  refine PureCall.of_vc hT [] [] follows Try.call64 Try.func64 rfl (by kernel_rfl) (by simp [AV.pureL, hF]; simp [AV.pure]) rfl ?_
  unfold Try.f64
  simp
  intro hb1 hb2
  refine vcC_loop [] (fun m σ st => ∃ i : Nat, m = l.length - i ∧ i ≤ l.length ∧ Tm.fi p (l.drop i) i = r ∧ σ 0 = .lst 24 (Tm.cellsL 24 l) ∧ σ 1 = .fn (.func F) fs cs ∧ σ 7 = .sc (.int .i64 l.length) ∧ σ 8 = .sc (.int .i64 i)) l.length ⟨0, by simp [hr]⟩ ?_
  rintro m σ st ⟨i, rfl, hi, htk, s0, s1, s7, s8⟩
  rcases Nat.lt_or_ge i l.length with hlt | hge
  · simp [s0, s1, s7, s8, hlt]
    refine vcCall_at (ih l[i] (List.getElem_mem hlt)) ?_
    simp [s0, s1, s7, s8]
    rw [List.drop_eq_getElem_cons hlt] at htk
    simp only [Tm.fi] at htk
    refine ⟨fun hp => ?_, fun hp => ⟨by unfold i64ok; omega, l.length - (i + 1), by omega, i + 1, rfl, by omega, ?_, by omega⟩⟩
    · rw [if_pos hp] at htk; exact htk
    · rw [if_neg (by simp [hp])] at htk; exact htk
  · have hi : i = l.length := by omega
    subst hi
    simp [s0, s1, s7, s8]
    rw [List.drop_length] at htk
    exact htk

set_option maxRecDepth 100000 in
theorem containsFunc_c (F : FuncId) (fs cs : List AV) (hF : (AV.fn (.func F) fs cs).pure = true) (p : Tm → Bool) (l : List Tm) (ih : ∀ x ∈ l, PureCall T Try.prog F (fs ++ x.av 24 :: cs) (.sc (.bool (p x)))) :
    PureCall T Try.prog 55 [.lst 24 (Tm.cellsL 24 l), .fn (.func F) fs cs] (.sc (.bool (l.any p))) := by
  refine PureCall.of_vc hT [] [] follows Try.call55 Try.func55 rfl (by kernel_rfl) (by simp [AV.pureL, hF]; simp [AV.pure]) rfl ?_
  unfold Try.f55
  simp
  refine vcCall_at (indexFunc_c F fs cs hF p l ih) ?_
  simp
  rw [Bool.eq_iff_iff, ← Tm.fi_iff p l 0]; simp

set_option maxRecDepth 100000 in
theorem replace1_c (t : Tm) (ht : t.small) : PureCall T Try.prog 56 [t.av 24] (.sc (.bool (!decide (t.check = 0)))) := by
  refine PureCall.of_vc hT [] [] follows Try.call56 Try.func56 rfl (by kernel_rfl) (by simp [AV.pure, AV.pureL]) rfl ?_
  unfold Try.f56
  simp
  refine vcCall_at (may_c t ht) ?_
  simp

set_option maxRecDepth 100000 in
theorem Clone_c (t : Tm) (ht : t.small) : PureCall T Try.prog 25 [t.av 24] ((if t.check = 0 then t else Tm.zero).av 24) := by
  refine PureCall.of_vc hT [] [] follows Try.call25 Try.func25 rfl (by kernel_rfl) (by simp [AV.pure, AV.pureL]) (by simp [AV.pure]) ?_
  unfold Try.f25
  simp
  refine vcCall_at (may_c t ht) ?_
  simp
  refine ⟨fun h => ?_, fun h => ?_⟩
  · rw [if_neg h]; simp [Tm.zero, Tm.cells, Tm.cellsL]; rfl
  · refine vcCall_at (build_c 13 [] [] rfl Tm.var t fun n _ => Var_c n) ?_
    simp [h, Tm.sub_var t (Tm.right_of_check h)]

/-- What a variable is replaced by. -/
def repF (l : List Tm) (n : Int) : Tm := if h : n.toNat < l.length then l[n.toNat] else Tm.var n

set_option maxRecDepth 100000 in
theorem replace2_c (l : List Tm) (n : Int) (hn : 0 ≤ n) (hl : ∀ x ∈ l, x.small ∧ x.check = 0) : PureCall T Try.prog 57 [.sc (.int .i64 n), .eptr [.lst 24 (Tm.cellsL 24 l)]] ((repF l n).av 24) := by
  refine PureCall.of_vc hT [] [] follows Try.call57 Try.func57 rfl (by kernel_rfl) (by simp [AV.pure, AV.pureL]) (by simp [AV.pure]) ?_
  unfold Try.f57
  obtain ⟨m, rfl⟩ := Int.eq_ofNat_of_zero_le hn
  simp
  intro hb1 hb2
  unfold repF
  refine ⟨fun h => ?_, fun h => ?_⟩
  · simp [h]
    obtain ⟨k1, k2⟩ := hl l[m] (List.getElem_mem h)
    refine vcCall_at (Clone_c l[m] k1) ?_
    simp [k2]
  · refine vcCall_at (Var_c m) ?_
    rw [dif_neg (by simp; omega)]
    simp [Tm.var]

end Go.T1
end

section
open Go Go.Ab Go.Proofs
namespace Go.T1
/-- What Replace hands back. -/
def replT (t : Tm) (l : List Tm) : Tm :=
  if t.check = 0 ∧ (∀ x ∈ l, x.check = 0) ∧ (t.sub (repF l)).check = 0 then t.sub (repF l) else Tm.zero

set_option maxRecDepth 100000 in
theorem Replace_c (t : Tm) (l : List Tm) (ht : t.small) (hl : ∀ x ∈ l, x.small) (hu : t.check = 0 → (∀ x ∈ l, x.check = 0) → (t.sub (repF l)).small) :
    PureCall T Try.prog 37 [t.av 24, .lst 24 (Tm.cellsL 24 l)] ((replT t l).av 24) := by
  unfold replT
  refine PureCall.of_vc hT [] [] follows Try.call37 Try.func37 rfl (by kernel_rfl) (by simp [AV.pure, AV.pureL]) (by simp [AV.pure]) ?_
  unfold Try.f37
  simp
  refine vcCall_at (may_c t ht) ?_
  simp
  refine vcCall_if (xs' := [.lst 24 (Tm.cellsL 24 l), .fn (.func 56) [] []]) (r := .sc (.bool (l.any fun x => !decide (x.check = 0)))) (fun _ => ⟨containsFunc_c 56 [] [] rfl (fun x => !decide (x.check = 0)) l fun x hx => replace1_c x (hl x hx), by simp⟩) ?_
  simp
  refine ⟨fun h => ?_, fun h1 h2 => ?_⟩
  · rw [if_neg]
    · simp [Tm.zero, Tm.cells, Tm.cellsL]; rfl
    · rintro ⟨k1, k2, _⟩
      rcases h with h | ⟨x, hx, hc⟩
      · exact h k1
      · exact hc (k2 x hx)
  · refine vcCall_at (build_c 57 [] [.eptr [.lst 24 (Tm.cellsL 24 l)]] (by simp [AV.pure, AV.pureL]) (repF l) t fun n hn => replace2_c l n (Tm.occ_pos t (Tm.right_of_check h1) n hn).1 fun x hx => ⟨hl x hx, h2 x hx⟩) ?_
    simp
    refine vcCall_at (may_c _ (hu h1 h2)) ?_
    simp
    refine ⟨fun h => ?_, fun h => ?_⟩
    · rw [if_neg (fun k => h k.2.2)]; simp [Tm.zero, Tm.cells, Tm.cellsL]; rfl
    · rw [if_pos ⟨h1, h2, h⟩]; simp

theorem rightL_mem {l : List Tm} (h : Tm.rightL l = true) : ∀ x ∈ l, x.right = true := by
  induction l with
  | nil => intro x hx; cases hx
  | cons y ys ih =>
    simp only [Tm.rightL, Bool.and_eq_true] at h
    intro x hx
    rcases List.mem_cons.1 hx with rfl | hx
    · exact h.1
    · exact ih h.2 x hx

set_option maxRecDepth 100000 in
theorem rReplace_c (w : List Tm) : ∀ t : Tm, t.right = true → PureCall T Try.prog 40 [t.av 24, .lst 24 (Tm.cellsL 24 w)] ((t.sub (repF w)).av 24) := by
  refine Tm.ind fun k n s l ih => ?_
  intro hrt
  simp only [Tm.right, Bool.and_eq_true] at hrt
  refine PureCall.of_vc hT [5] [] follows Try.call40 Try.func40 rfl (by kernel_rfl) (by simp [AV.pure, AV.pureL]) (by simp [AV.pure]) ?_
  unfold Try.f40
  simp [Tm.cells]
  refine ⟨fun h hb1 hb2 => ?_, fun h => ?_⟩
  · subst h
    obtain ⟨p1, p2, p3, p4⟩ := partB_one hrt.1
    have hl := List.eq_nil_of_length_eq_zero p4
    obtain ⟨m, rfl⟩ := Int.eq_ofNat_of_zero_le p1
    simp [Tm.sub, repF]
    refine ⟨fun hm => ?_, fun hm => ?_⟩
    · simp [hm]
    · rw [dif_neg (by omega)]
      simp [Tm.var, Tm.cells, p3, hl]
  · refine vcC_loop [(24, .cell 1 3)] (fun m σ st => ∃ (i : Nat) (al : Bool), m = l.length - i ∧ i ≤ l.length ∧ σ 2 = .eptr [.sc (.int .i64 k), .sc (.int .i64 n), .sc (.string s), .lst 24 (Tm.cellsL 24 l)] ∧
      σ 1 = .lst 24 (Tm.cellsL 24 w) ∧ σ 4 = .ptr 0 0 ∧ σ 5 = .ptr 1 0 ∧ σ 6 = .sc (.int .i64 i) ∧
      st = [.cells [.sc (.int .i64 0), .sc (.int .i64 0), .sc (.string .empty), .nils], .cells [.sc (.int .i64 k), .sc (.int .i64 n), .sc (.string s), .own 2 i], .row 24 i al (Tm.cellsL 24 (Tm.subL (repF w) (l.take i)))]) l.length ?_ ?_
    · simp [Tm.subL, Tm.cellsL]
      exact ⟨0, by simp, by simp, by simp, rfl, by simp [Tm.subL]⟩
    rintro m σ st ⟨i, al, rfl, hi, s2, s1, s4, s5, s6, rfl⟩
    rcases Nat.lt_or_ge i l.length with hlt | hge
    · simp [s2, s1, s4, s5, s6, hlt]
      refine fun hb1 hb2 => vcCall_at (ih l[i] (List.getElem_mem hlt) (rightL_mem hrt.2 _ (List.getElem_mem hlt))) ?_
      simp [s2, s1, s4, s5, s6]
      refine ⟨by rw [Nat.min_eq_left hi]; omega, by unfold i64ok; omega, l.length - (i + 1), by omega, i + 1, rfl, by omega, by omega, rfl, ?_⟩
      rw [Tm.subL_take hlt]
      simp [Tm.cellsL]
    · have hi : i = l.length := by omega
      subst hi
      simp [s2, s1, s4, s5, s6]
      simp [Tm.sub, h, Tm.cells]
end Go.T1
end

section
open Go Go.Ab Go.Proofs
namespace Go.T1
@[simp] theorem ty37 : T 37 = some ⟨1, 24, .slice 3, [], some (.slice none 0 0)⟩ := by kernel_rfl
theorem set_same {st : St} {id : Nat} {b : Blk} (h : st[id]? = some b) : st.set id b = st := by
  obtain ⟨h1, h2⟩ := List.getElem?_eq_some_iff.1 h
  rw [← h2]; exact List.set_getElem_self h1

/-- The row of numbers that is left. -/
def rowIs (st : St) (id : Nat) (out : List Int) (r : AV) (st' : St) : Prop := ∃ g' al', (out ≠ [] → al' = true) ∧ r = .own id g' ∧ st' = st.set id (.row 3 g' al' (intsL out))

set_option maxRecDepth 100000 in
theorem rvars_c : ∀ (t : Tm) (out : List Int) (id g : Nat) (al : Bool) (st : St), t.size + out.length ≤ 1000000000 → st[id]? = some (.row 3 g al (intsL out)) → (out ≠ [] → al = true) →
    ICall T Try.prog 53 [t.av 24, .own id g] st (rowIs st id (t.vars out)) := by
  refine Tm.ind fun k n s l ih => ?_
  intro out id g al st hsz hid hal
  have hidl : id < st.length := (List.getElem?_eq_some_iff.1 hid).1
  have hset : ∀ b, (st.set id b)[id]? = some b := fun b => by simp [hidl]
  have hidl' := hidl
  clear hidl
  simp only [Tm.size] at hsz
  refine ICall.of_vc hT [] [(11, 6)] follows Try.call53 Try.func53 rfl (by kernel_rfl) fun hfix => ?_
  unfold Try.f53
  simp [Tm.cells, hid]
  refine ⟨fun h => ?_, fun h => ?_⟩
  · refine vcC_loop [] (fun m σ st' => ∃ i : Nat, m = out.length - i ∧ i ≤ out.length ∧ n ∉ out.take i ∧ σ 1 = .own id g ∧ σ 2 = .eptr [.sc (.int .i64 k), .sc (.int .i64 n), .sc (.string s), .lst 24 (Tm.cellsL 24 l)] ∧
      σ 5 = .sc (.int .i64 i) ∧ st' = st) out.length ⟨0, by simp⟩ ?_
    rintro m σ st' ⟨i, rfl, hi, htk, s1, s2, s5, rfl⟩
    rcases Nat.lt_or_ge i out.length with hlt | hge
    · have hne : out ≠ [] := fun e => by subst e; simp at hlt
      simp [s1, s2, s5, hid, hlt]
      refine fun hb1 hb2 => ⟨hal hne, fun he => ?_, fun he => ⟨by unfold i64ok; omega, out.length - (i + 1), by omega, i + 1, rfl, by omega, ?_, by omega⟩⟩
      · refine endP_mk (.own id g) (by simp) (by simp [hidl']) ⟨g, al, fun _ => hal hne, rfl, ?_⟩
        have : Tm.vars (.mk k n s l) out = out := by simp only [Tm.vars, if_pos h, addV]; rw [if_pos (he ▸ List.getElem_mem hlt)]
        rw [cutSt_same hfix, this, set_same hid]
      · intro hm
        have e0 : out.take (i + 1) = out.take i ++ [out[i]] := by rw [List.take_add_one]; simp [hlt]
        rw [e0, List.mem_append] at hm
        rcases hm with hm | hm
        · exact htk hm
        · simp at hm; exact he hm.symm
    · have hi : i = out.length := by omega
      subst hi
      rw [List.take_length] at htk
      simp [s1, s2, s5, hid]
      refine fun hb1 hb2 => ⟨by omega, endP_mk (.own id (g + 1)) (by simp) (by simp [hidl']) ⟨g + 1, true, fun _ => rfl, rfl, ?_⟩⟩
      have : Tm.vars (.mk k n s l) out = out ++ [n] := by simp only [Tm.vars, if_pos h, addV]; rw [if_neg htk]
      have e1 : intsL out ++ [[AV.sc (.int .i64 n)]] = intsL (out ++ [n]) := by simp [intsL]
      rw [cutSt_set0 hfix, this, e1]
      simp only [Blk.cut, intsL_cut]
  · have hv : Tm.vars (.mk k n s l) out = Tm.varsL l out := by simp only [Tm.vars, if_neg h]
    refine vcC_loop [] (fun m σ st' => ∃ i : Nat, m = l.length - i ∧ i ≤ l.length ∧ rowIs st id (Tm.varsL (l.take i) out) (σ 1) st' ∧ σ 2 = .eptr [.sc (.int .i64 k), .sc (.int .i64 n), .sc (.string s), .lst 24 (Tm.cellsL 24 l)] ∧
      σ 6 = .sc (.int .i64 i)) l.length ⟨0, by simp, by simp, ⟨g, al, by simpa [Tm.varsL] using hal, by simp, by simp [Tm.varsL, set_same hid]⟩, by simp⟩ ?_
    rintro m σ st' ⟨i, rfl, hi, ⟨g', al', hal', s1, rfl⟩, s2, s6⟩
    rcases Nat.lt_or_ge i l.length with hlt | hge
    · have h1 := Tm.size_get hlt
      have h2 := Tm.varsL_len (l.take i) out
      simp [s1, s2, s6, hset, hlt]
      refine fun hb1 hb2 => vcICall_of (ih l[i] (List.getElem_mem hlt) _ id g' al' _ (by omega) (hset _) hal') ?_
      rintro r st' ⟨g2, al2, hal2, rfl, rfl⟩ _
      simp [s1, s2, s6, hset]
      refine ⟨by unfold i64ok; omega, l.length - (i + 1), by omega, i + 1, rfl, by omega, ?_, by omega⟩
      rw [Tm.varsL_take hlt]
      exact ⟨g2, al2, hal2, rfl, rfl⟩
    · have hi : i = l.length := by omega
      subst hi
      rw [List.take_length] at hal'
      simp [s1, s2, s6, hset]
      refine fun hb1 hb2 => endP_mk (.own id g') (by simp) (by simp [hidl']) ⟨g', al', ?_, rfl, ?_⟩
      · rw [hv]; exact hal'
      · rw [cutSt_set0 hfix, hv]; simp only [Blk.cut, intsL_cut]

set_option maxRecDepth 100000 in
theorem rVars_c (t : Tm) (ht : t.small) : PureCall T Try.prog 33 [t.av 24] (.lst 3 (intsL (t.vars []))) := by
  have hsz : t.size + 0 ≤ 1000000000 := by unfold Tm.small at ht; omega
  have h0 := ICall.nils (st := []) (pre := [t.av 24]) (post := []) 3 (rvars_c t [] 0 0 false [.row 3 0 false []] hsz rfl (by simp))
  have h1 : PureCall T Try.prog 53 [t.av 24, .nils] (.lst 3 (intsL (t.vars []))) := by
    refine PureCall.of_ICall h0 (by simp [AV.pure, AV.pureL]) (by simp [AV.pure]) ?_
    rintro r st' ⟨r0, st0, ⟨g', al', _, rfl, rfl⟩, rfl, rfl⟩
    simp
  refine PureCall.of_vc hT [] [] follows Try.call33 Try.func33 rfl (by kernel_rfl) (by simp [AV.pure, AV.pureL]) (by simp [AV.pure]) ?_
  unfold Try.f33
  simp
  refine vcCall_at h1 ?_
  simp

set_option maxRecDepth 100000 in
theorem place_c (l : List Int) (n : Int) : PureCall T Try.prog 63 [.lst 3 (intsL l), .sc (.int .i64 n)] (.sc (.int .i64 (placeI l n 0))) := by
  generalize hr : placeI l n 0 = r
  refine PureCall.of_vc hT [] [] follows Try.call63 Try.func63 rfl (by kernel_rfl) (by simp [AV.pure, AV.pureL]) (by simp [AV.pure]) ?_
  unfold Try.f63
  simp
  refine vcC_loop [] (fun m σ st => ∃ i : Nat, m = l.length - i ∧ i ≤ l.length ∧ placeI (l.drop i) n i = r ∧ σ 0 = .lst 3 (intsL l) ∧ σ 1 = .sc (.int .i64 n) ∧ σ 5 = .sc (.int .i64 i)) l.length ⟨0, by simp [hr]⟩ ?_
  rintro m σ st ⟨i, rfl, hi, htk, s0, s1, s5⟩
  rcases Nat.lt_or_ge i l.length with hlt | hge
  · simp [s0, s1, s5, hlt]
    rw [List.drop_eq_getElem_cons hlt] at htk
    simp only [placeI] at htk
    refine fun _ _ => ⟨fun hp => ?_, fun hp => ⟨by unfold i64ok; omega, l.length - (i + 1), by omega, i + 1, rfl, by omega, ?_, by omega⟩⟩
    · rw [if_pos hp] at htk; exact htk
    · rw [if_neg hp] at htk; exact htk
  · have hi : i = l.length := by omega
    subst hi
    simp [s0, s1, s5]
    rw [List.drop_length] at htk
    exact fun _ _ => htk
end Go.T1
end

section
open Go Go.Ab Go.Proofs
namespace Go.T1
set_option maxRecDepth 100000 in
theorem renamed_c (w : List Int) : ∀ t : Tm, PureCall T Try.prog 54 [t.av 24, .lst 3 (intsL w)] ((t.sub fun n => Tm.var (placeI w n 0)).av 24) := by
  refine Tm.ind fun k n s l ih => ?_
  refine PureCall.of_vc hT [5] [] follows Try.call54 Try.func54 rfl (by kernel_rfl) (by simp [AV.pure, AV.pureL]) (by simp [AV.pure]) ?_
  unfold Try.f54
  simp [Tm.cells]
  refine ⟨fun h => ?_, fun h => ?_⟩
  · refine vcCall_at (place_c w n) ?_
    simp
    refine vcCall_at (rVar_c _) ?_
    simp [Tm.sub, h, Tm.var]
  · refine vcC_loop [(24, .cell 1 3)] (fun m σ st => ∃ (i : Nat) (al : Bool), m = l.length - i ∧ i ≤ l.length ∧ σ 2 = .eptr [.sc (.int .i64 k), .sc (.int .i64 n), .sc (.string s), .lst 24 (Tm.cellsL 24 l)] ∧
      σ 1 = .lst 3 (intsL w) ∧ σ 4 = .ptr 0 0 ∧ σ 5 = .ptr 1 0 ∧ σ 6 = .sc (.int .i64 i) ∧
      st = [.cells [.sc (.int .i64 0), .sc (.int .i64 0), .sc (.string .empty), .nils], .cells [.sc (.int .i64 k), .sc (.int .i64 n), .sc (.string s), .own 2 i], .row 24 i al (Tm.cellsL 24 (Tm.subL (fun n => Tm.var (placeI w n 0)) (l.take i)))]) l.length ?_ ?_
    · simp [Tm.subL, Tm.cellsL]
      exact ⟨0, by simp, by simp, by simp, rfl, by simp [Tm.subL]⟩
    rintro m σ st ⟨i, al, rfl, hi, s2, s1, s4, s5, s6, rfl⟩
    rcases Nat.lt_or_ge i l.length with hlt | hge
    · simp [s2, s1, s4, s5, s6, hlt]
      refine fun hb1 hb2 => vcCall_at (ih l[i] (List.getElem_mem hlt)) ?_
      simp [s2, s1, s4, s5, s6]
      refine ⟨by rw [Nat.min_eq_left hi]; omega, by unfold i64ok; omega, l.length - (i + 1), by omega, i + 1, rfl, by omega, by omega, rfl, ?_⟩
      rw [Tm.subL_take hlt]
      simp [Tm.cellsL]
    · have hi : i = l.length := by omega
      subst hi
      simp [s2, s1, s4, s5, s6]
      simp [Tm.sub, h, Tm.cells]

/-- A term with its variables numbered. -/
def renT (t : Tm) : Tm := t.sub fun n => Tm.var (placeI (t.vars []) n 0)

set_option maxRecDepth 100000 in
theorem rRename_c (t : Tm) (ht : t.small) : PureCall T Try.prog 35 [t.av 24] (.tup [(renT t).av 24, .sc (.int .i64 (t.vars []).length)]) := by
  refine PureCall.of_vc hT [] [] follows Try.call35 Try.func35 rfl (by kernel_rfl) (by simp [AV.pure, AV.pureL]) (by simp [AV.pure, AV.pureL]) ?_
  unfold Try.f35
  simp
  refine vcCall_at (rVars_c t ht) ?_
  simp
  refine vcCall_at (renamed_c _ t) ?_
  simp [renT]
end Go.T1
end

section
open Go Go.Ab Go.Proofs
namespace Go.T1
@[simp] theorem ty68 : T 68 = some ⟨1, 8, .map 3 3, [], some (.map none)⟩ := by kernel_rfl
@[simp] theorem ty70 : T 70 = some ⟨2, 32, .strct, [(0,1),(1,1)], some (.agg #[.map none, .slice none 0 0])⟩ := by kernel_rfl
/-- The namer's state: blocks 1 to 3. -/
def namSt (b0 : Blk) (L : List Int) (g : Nat) (al : Bool) (ex : St) : St := b0 :: .map (mapOf L 0) :: .cells [.mp 1, .own 3 g] :: .row 3 g al (intsL L) :: ex
/-- What is left of it. -/
def namIs (b0 : Blk) (L : List Int) (ex : St) (st' : St) : Prop := ∃ g al, (L ≠ [] → al = true) ∧ st' = namSt b0 L g al ex

@[simp] theorem mapOf_cut (N : Nat) (S : St) : ∀ (L : List Int) (i : Nat), (mapOf L i).map (fun p => (p.1, p.2.cut N S)) = mapOf L i
  | [], _ => rfl
  | x :: xs, i => by simp only [mapOf, List.map_cons, mapOf_cut N S xs, AV.cut]
theorem cut_cells (N : Nat) (S : St) (cs : List AV) : Blk.cut N S (.cells cs) = .cells (AV.cutL N S cs) := rfl
theorem cut_row (N : Nat) (S : St) (e g : Nat) (al : Bool) (l : List (List AV)) : Blk.cut N S (.row e g al l) = .row e g al (AV.cutM N S l) := rfl
theorem cut_map (N : Nat) (S : St) (es : List (Value × AV)) : Blk.cut N S (.map es) = .map (es.map fun p => (p.1, p.2.cut N S)) := rfl
theorem intsL_snoc (L : List Int) (n : Int) : intsL L ++ [[.sc (.int .i64 n)]] = intsL (L ++ [n]) := by simp [intsL]
theorem namSt_cut {b0 b1 b2 b3 : Blk} {ex : St} (h : Fix (b0 :: b1 :: b2 :: b3 :: ex)) (L : List Int) (g : Nat) (al : Bool) (X : St) : cutSt (ex.length + 4) (namSt b0 L g al ex ++ X) = namSt b0 L g al ex := by
  unfold cutSt
  rw [List.take_left' (by simp [namSt])]
  generalize namSt b0 L g al ex ++ X = S
  have h' := h (ex.length + 4) S (by simp)
  simp only [List.map_cons, List.cons.injEq] at h'
  simp only [namSt, List.map_cons, h'.1, h'.2.2.2.2, cut_cells, cut_row, cut_map, AV.cutL, AV.cut, mapOf_cut, intsL_cut]
  simp

set_option maxRecDepth 100000 in
theorem namer_c (n : Int) (b0 : Blk) (L : List Int) (g : Nat) (al : Bool) (ex : St) (hL : L.length ≤ 1000000000) (hal : L ≠ [] → al = true) :
    ICall T Try.prog 61 [.ptr 2 0, .sc (.int .i64 n)] (namSt b0 L g al ex) (fun r st' => r = (Tm.var (placeI (addV L n) n 0)).av 24 ∧ namIs b0 (addV L n) ex st') := by
  refine ICall.of_vc hT [] [] follows Try.call61 Try.func61 rfl (by kernel_rfl) fun hfix => ?_
  unfold Try.f61
  by_cases hn : n ∈ L
  · have h1 : addV L n = L := by simp [addV, hn]
    rw [h1]
    simp [namSt, mapOf_get, hn]
    refine vcCall_at (Var_c _) ?_
    simp
    refine endP_mk ((Tm.var (placeI L n 0)).av 24) (by simp) (by simp [Tm.var]) ⟨rfl, g, al, hal, ?_⟩
    exact cutSt_keep hfix [_]
  · have h1 : addV L n = L ++ [n] := by simp [addV, hn]
    have h2 := placeI_last L n 0 hn
    have h3 := mapOf_put L n 0 hn
    simp only [Nat.zero_add] at h2 h3
    rw [h1, h2]
    simp [namSt, mapOf_get, hn]
    intro hb1 hb2
    refine ⟨by omega, vcCall_at (Var_c _) ?_⟩
    simp [h3]
    refine endP_mk ((Tm.var L.length).av 24) (by simp) (by simp [Tm.var]) ⟨rfl, g + 1, true, fun _ => rfl, ?_⟩
    have e := namSt_cut hfix (L ++ [n]) (g + 1) true
    rw [intsL_snoc]
    exact e _
end Go.T1
end

section
open Go Go.Ab Go.Proofs
namespace Go.T1
/-- Some state of a namer's. -/
def NS (b0 : Blk) (ex : St) (L : List Int) (st : St) : Prop := ∃ g al, (L ≠ [] → al = true) ∧ st = namSt b0 L g al ex
theorem NS.len {b0 : Blk} {ex : St} {L : List Int} {st : St} (h : NS b0 ex L st) : st.length = ex.length + 4 := by
  obtain ⟨g, al, _, rfl⟩ := h; simp [namSt]
theorem NS.app {b0 : Blk} {ex : St} {L : List Int} {st : St} (h : NS b0 ex L st) (l : St) : NS b0 (ex ++ l) L (st ++ l) := by
  obtain ⟨g, al, h1, rfl⟩ := h; exact ⟨g, al, h1, by simp [namSt]⟩
theorem NS.unapp {b0 : Blk} {ex l : St} {L : List Int} {st : St} (h : NS b0 (ex ++ l) L st) : ∃ X, NS b0 ex L X ∧ st = X ++ l := by
  obtain ⟨g, al, h1, rfl⟩ := h; exact ⟨namSt b0 L g al ex, ⟨g, al, h1, rfl⟩, by simp [namSt]⟩
theorem NS.cut {b0 : Blk} {ex : St} {L0 L : List Int} {st0 st : St} (hf : Fix st0) (h0 : NS b0 ex L0 st0) (h : NS b0 ex L st) (l : St) : cutSt (ex.length + 4) (st ++ l) = st := by
  obtain ⟨g0, al0, _, rfl⟩ := h0
  obtain ⟨g, al, _, rfl⟩ := h
  exact namSt_cut hf L g al l

/-- The loop of build: the frame behind a namer's state. -/
def bFr (N : Nat) (W : List Int) (k n : Int) (s : ByteArray) (i : Nat) (al : Bool) (l : List Tm) : St :=
  [.cells [.sc (.int .i64 0), .sc (.int .i64 0), .sc (.string .empty), .nils], .cells [.sc (.int .i64 k), .sc (.int .i64 n), .sc (.string s), .own (N + 2) i],
   .row 24 i al (Tm.cellsL 24 (Tm.subL (fun n => Tm.var (placeI W n 0)) l))]
def bInv (b0 : Blk) (ex : St) (N : Nat) (L : List Int) (k n : Int) (s : ByteArray) (l : List Tm) (i : Nat) (st' : St) : Prop :=
  ∃ al X, NS b0 ex (Tm.varsL (l.take i) L) X ∧ st' = X ++ bFr N (Tm.varsL (l.take i) L) k n s i al (l.take i)
def bCall (b0 : Blk) (ex : St) (N : Nat) (L : List Int) (k n : Int) (s : ByteArray) (l : List Tm) (t : Tm) (i : Nat) (al : Bool) (r : AV) (st' : St) : Prop :=
  r = (numT (t.vars (Tm.varsL (l.take i) L)) t).av 24 ∧ ∃ X, NS b0 ex (t.vars (Tm.varsL (l.take i) L)) X ∧ st' = X ++ bFr N (Tm.varsL (l.take i) L) k n s i al (l.take i)
theorem namerN_c (n : Int) (b0 : Blk) (ex : St) (L : List Int) (st : St) (hL : L.length ≤ 1000000000) (h : NS b0 ex L st) :
    ICall T Try.prog 61 [.ptr 2 0, .sc (.int .i64 n)] st (fun r st' => r = (Tm.var (placeI (addV L n) n 0)).av 24 ∧ NS b0 ex (addV L n) st') := by
  obtain ⟨g, al, hal, rfl⟩ := h
  exact namer_c n b0 L g al ex hL hal

set_option maxRecDepth 100000 in
theorem buildN_c (b0 : Blk) : ∀ (t : Tm) (ex : St) (L : List Int) (st : St), t.size + L.length ≤ 1000000000 → NS b0 ex L st →
    ICall T Try.prog 50 [t.av 24, .fn (.func 61) [.ptr 2 0] []] st (fun r st' => r = (numT (t.vars L) t).av 24 ∧ NS b0 ex (t.vars L) st') := by
  refine Tm.ind fun k n s l ih => ?_
  intro ex L st hsz hst
  simp only [Tm.size] at hsz
  obtain ⟨N, hN⟩ : ∃ N, N = ex.length + 4 := ⟨_, rfl⟩
  have hX := hst.len
  rw [← hN] at hX
  refine ICall.of_vc hT [5] [(2,3),(7,4)] follows Try.call50 Try.func50 rfl (by kernel_rfl) fun hfix => ?_
  unfold Try.f50
  simp [Tm.cells, hX, ap0 hX, ap1 hX, as0 hX, as1 hX, Nat.add_assoc]
  refine ⟨fun h => ?_, fun h => ?_⟩
  · refine vcICall_of (namerN_c n b0 _ L _ (by omega) (hst.app _)) ?_
    rintro r st' ⟨rfl, h2⟩ _
    obtain ⟨X, h3, rfl⟩ := h2.unapp
    have hX' := h3.len
    rw [← hN] at hX'
    simp [ap0 hX', as0 hX', hX']
    have e : Tm.vars (.mk k n s l) L = addV L n := by simp only [Tm.vars, if_pos h]
    rw [e]
    refine endP_mk (numT (addV L n) (.mk k n s l) |>.av 24) ?_ ?_ ⟨rfl, ?_⟩
    · simp [ap0 hX']
    · simp [ap0 hX', numT, Tm.sub, h, Tm.var]
    · rw [hN, NS.cut hfix hst h3]; exact h3
  · intro hl1 hl2
    refine vcC_loop [(24, .cell (N + 1) 3)] (fun m σ st' => ∃ (i : Nat), m = l.length - i ∧ i ≤ l.length ∧ bInv b0 ex N L k n s l i st' ∧ σ 1 = .fn (.func 61) [.ptr 2 0] [] ∧ σ 4 = .ptr N 0 ∧ σ 5 = .ptr (N + 1) 0 ∧ σ 23 = .lst 24 (Tm.cellsL 24 l) ∧
      σ 24 = .sc (.int .i64 l.length) ∧ σ 25 = .sc (.int .i64 i)) l.length ?_ ?_
    · simp [hX, ap0 hX, ap1 hX, as0 hX, as1 hX, Nat.add_assoc]
      exact ⟨0, by simp, by simp, ⟨false, st, by simpa [Tm.varsL] using hst, by simp [bFr, Tm.subL, Tm.cellsL]⟩, by simp⟩
    rintro m σ st' ⟨i, rfl, hi, ⟨al, X, hNX, rfl⟩, s1, s4, s5, s23, s24, s25⟩
    have hX' := hNX.len
    rw [← hN] at hX'
    rcases Nat.lt_or_ge i l.length with hlt | hge
    · have h1 := Tm.size_get hlt
      have h2 := Tm.varsL_len (l.take i) L
      simp [s1, s4, s5, s23, s24, s25, hlt, hX', ap0 hX', ap1 hX', ap2 hX', bFr]
      refine ⟨bCall b0 ex N L k n s l l[i] i al, ?_⟩
      simp (decide := true) [s1, s4, s5, s23, s24, s25, hlt, hX', ap0 hX', ap1 hX', ap2 hX']
      refine ⟨?_, ?_⟩
      · rintro r st' ⟨rfl, X2, hX2, rfl⟩
        have hX2' := hX2.len
        rw [← hN] at hX2'
        simp [bFr, s1, s4, s5, hX2', ap1 hX2']
        done
      simp (decide := true) [s1, s4, s5, s23, s24, s25, hlt, hX', ap0 hX', ap1 hX', ap2 hX']
      refine ⟨?_, ?_⟩
      · rintro r st' ⟨rfl, X2, hX2, rfl⟩
        have hX2' := hX2.len
        rw [← hN] at hX2'
        simp [bFr, s1, s4, s5, hX2', ap1 hX2']
        done
      simp (decide := true) [s1, s4, s5, s23, s24, s25, hlt, hX', ap0 hX', ap1 hX', ap2 hX', vcThen]
      refine ⟨?_, ?_⟩
      · refine (ih l[i] (List.getElem_mem hlt) _ (Tm.varsL (l.take i) L) _ (by omega) (hNX.app _)).mono ?_
        rintro r st' ⟨rfl, h4⟩
        obtain ⟨X2, h5, rfl⟩ := h4.unapp
        exact ⟨rfl, X2, h5, rfl⟩
      rintro r st' ⟨rfl, X2, hX2, rfl⟩ _
      have hX2' := hX2.len
      rw [← hN] at hX2'
      simp [bFr, s1, s4, s5, s23, s24, s25, hX2', ap1 hX2', ap2 hX2', as1 hX2', as2 hX2']
      refine ⟨by rw [Nat.min_eq_left hi]; omega, by unfold i64ok; omega, l.length - (i + 1), by omega, i + 1, rfl, by omega, ?_, by omega⟩
      refine ⟨true, X2, by rw [Tm.varsL_take hlt]; exact hX2, ?_⟩
      unfold bFr
      rw [numL_take hlt]
      simp [Tm.cellsL]
    · have hi : i = l.length := by omega
      subst hi
      simp [s1, s4, s5, s23, s24, s25, hX', ap0 hX', ap1 hX', ap2 hX', as0 hX', bFr]
      rw [List.take_length] at hNX
      have e : Tm.vars (.mk k n s l) L = Tm.varsL l L := by simp only [Tm.vars, if_neg h]
      rw [e]
      refine endP_mk (numT (Tm.varsL l L) (.mk k n s l) |>.av 24) ?_ ?_ ⟨rfl, ?_⟩
      · simp [s4, ap0 hX']
      · simp [s4, ap0 hX', numT, Tm.sub, h, ap2 hX', Tm.cells]; rw [if_neg (by omega)]; simp
      · rw [hN, NS.cut hfix hst hNX]; exact hNX
end Go.T1
end

section
open Go Go.Ab Go.Proofs
namespace Go.T1

set_option maxRecDepth 100000 in
theorem rename_c (t : Tm) (ht : t.small) : PureCall T Try.prog 51 [t.av 24] (.tup [(numT (t.vars []) t).av 24, .lst 3 (intsL (t.vars []))]) := by
  have h : ICall T Try.prog 51 [t.av 24] [] (fun r _ => r = .tup [(numT (t.vars []) t).av 24, .lst 3 (intsL (t.vars []))]) := by
    refine ICall.of_vc hT [8] [(2,3),(3,5)] follows Try.call51 Try.func51 rfl (by kernel_rfl) fun hfix => ?_
    unfold Try.f51
    simp [Tm.cells]
    refine vcICall_of (ICall.adoptC 3 2 1 [.mp 1, .nils] rfl rfl (buildN_c _ t [] [] _ (by unfold Tm.small at ht; simp; omega) ⟨0, false, by simp, rfl⟩)) ?_
    rintro r st' ⟨rfl, g, al, hal, rfl⟩ _
    simp [namSt]
    refine ⟨fun _ st' => st' = namSt (.cells (Tm.cells 24 (numT (t.vars []) t))) (t.vars []) g al [], ?_⟩
    simp (decide := true)
    repeat (refine ⟨(by rintro r st' rfl; simp [namSt]), ?_⟩; simp (decide := true))
    simp (decide := true) [vcThen, vcI]
    exact ⟨rfl, fun _ => endP_mk _ (by simp [namSt]) (by simp [namSt]) rfl⟩
  exact PureCall.of_ICall h (by simp [AV.pure, AV.pureL]) (by simp [AV.pure, AV.pureL]) (by rintro r st' rfl; simp)
end Go.T1
end

section
open Go Go.Ab Go.Proofs
namespace Go.T1
set_option maxRecDepth 100000 in
theorem Vars_c (t : Tm) (ht : t.small) : PureCall T Try.prog 28 [t.av 24] (.lst 3 (intsL (if t.check = 0 then t.vars [] else []))) := by
  refine PureCall.of_vc hT [] [] follows Try.call28 Try.func28 rfl (by kernel_rfl) (by simp [AV.pure, AV.pureL]) (by simp [AV.pure]) ?_
  unfold Try.f28
  simp [Tm.cells]
  refine vcCall_at (may_c t ht) ?_
  simp
  refine ⟨fun h => ?_, fun h => ?_⟩
  · simp [h, intsL]
  · refine vcCall_at (rename_c t ht) ?_
    simp [h]

set_option maxRecDepth 100000 in
theorem Rename_c (t : Tm) (ht : t.small) : PureCall T Try.prog 34 [t.av 24] (.tup [(if t.check = 0 then renT t else Tm.zero).av 24, .sc (.int .i64 (if t.check = 0 then (t.vars []).length else 0))]) := by
  refine PureCall.of_vc hT [] [] follows Try.call34 Try.func34 rfl (by kernel_rfl) (by simp [AV.pure, AV.pureL]) (by simp [AV.pure, AV.pureL]) ?_
  unfold Try.f34
  simp [Tm.cells]
  refine vcCall_at (may_c t ht) ?_
  simp
  refine ⟨fun h => ?_, fun h => ?_⟩
  · simp [h, Tm.zero, Tm.cells]; rfl
  · refine vcCall_at (rename_c t ht) ?_
    simp [h, renT, numT]

set_option maxRecDepth 100000 in
theorem Ground_c (t : Tm) (ht : t.small) : PureCall T Try.prog 29 [t.av 24] (.sc (.bool (decide (t.check = 0) && decide (t.vars [] = [])))) := by
  refine PureCall.of_vc hT [] [] follows Try.call29 Try.func29 rfl (by kernel_rfl) (by simp [AV.pure, AV.pureL]) (by simp [AV.pure]) ?_
  unfold Try.f29
  simp [Tm.cells]
  refine vcCall_at (may_c t ht) ?_
  simp
  refine vcCall_at (Vars_c t ht) ?_
  simp
  intro _
  by_cases h : t.check = 0 <;> simp [h]

set_option maxRecDepth 100000 in
theorem Variant_c (a b : Tm) (ha : a.small) (hb : b.small) : PureCall T Try.prog 36 [a.av 24, b.av 24] (.sc (.bool (decide (a.check = 0) && decide (b.check = 0) && decide (renT a = renT b)))) := by
  refine PureCall.of_vc hT [] [] follows Try.call36 Try.func36 rfl (by kernel_rfl) (by simp [AV.pure, AV.pureL]) (by simp [AV.pure]) ?_
  unfold Try.f36
  simp [Tm.cells]
  refine vcCall_at (may_c a ha) ?_
  simp
  refine vcCall_at (may_c b hb) ?_
  simp
  refine ⟨fun h => ?_, fun h => ?_⟩
  · intro h1 h2; rcases h with h | h
    · exact absurd h1 h
    · exact absurd h2 h
  · intro h2
    refine vcCall_at (rename_c a ha) ?_
    simp
    refine vcCall_at (rename_c b hb) ?_
    simp
    refine vcCall_at (same_c _ _) ?_
    simp [h, h2, renT, numT]
    exact decide_eq_decide.2 Iff.rfl
end Go.T1
end

section
open Go Go.Ab Go.Proofs
namespace Go.T1
set_option maxRecDepth 100000 in
theorem large_c : ∀ (t : Tm) (d n : Int) (id : Nat) (st : St), t.nice → st[id]? = some (.cells [.sc (.int .i64 n)]) → 0 ≤ n → n ≤ 6000 → 0 ≤ d → d ≤ 301 →
    ICall T Try.prog 44 [t.av 24, .sc (.int .i64 d), .ptr id 0] st (fun r st' => r = .sc (.bool (t.lg d n).1) ∧ st' = st.set id (.cells [.sc (.int .i64 (t.lg d n).2)])) := by
  refine Tm.ind fun k n0 s l ih => ?_
  intro d n id st hnice hid hn hn2 hd hd2
  have hidl : id < st.length := (List.getElem?_eq_some_iff.1 hid).1
  refine ICall.of_vc hT [] [(7, 8)] follows Try.call44 Try.func44 rfl (by kernel_rfl) fun hfix => ?_
  unfold Try.f44
  have hset : ∀ b, (st.set id b)[id]? = some b := fun b => by simp [hidl]
  clear hidl
  simp [Tm.cells, hid, hset]
  have hs := hnice.1
  have hq0 : (0 : Int) ≤ (s.size : Int) / 16 := Int.ediv_nonneg (Int.natCast_nonneg _) (by decide)
  have hq1 : (s.size : Int) / 16 ≤ 140737488355328 := Int.le_trans (Int.ediv_le_self _ (Int.natCast_nonneg _)) (by omega)
  refine ⟨by unfold i64ok; omega, by unfold i64ok; omega, by unfold i64ok; omega, ?_⟩
  intro _
  refine ⟨fun h => ?_, fun h1 h2 h3 => ?_⟩
  · have e : Tm.lg (.mk k n0 s l) d n = (true, n + 1 + (s.size : Int) / 16) := by simp only [Tm.lg]; rw [if_pos]; omega
    rw [e]
    refine endP_mk (.sc (.bool true)) (by simp) (by simp) ⟨rfl, ?_⟩
    rw [cutSt_set0 hfix]; simp
  · have e : Tm.lg (.mk k n0 s l) d n = Tm.lgL l (d + 1) (n + 1 + (s.size : Int) / 16) := by simp only [Tm.lg]; rw [if_neg]; omega
    rw [e]
    obtain ⟨m, hm⟩ : ∃ m, m = n + 1 + (s.size : Int) / 16 := ⟨_, rfl⟩
    rw [← hm]
    refine vcC_loop [] (fun M σ st' => ∃ i : Nat, M = l.length - i ∧ i ≤ l.length ∧ (Tm.lgL (l.take i) (d + 1) m).1 = false ∧ σ 1 = .sc (.int .i64 d) ∧ σ 2 = .ptr id 0 ∧ σ 3 = .eptr [.sc (.int .i64 k), .sc (.int .i64 n0), .sc (.string s), .lst 24 (Tm.cellsL 24 l)] ∧ σ 7 = .sc (.int .i64 i) ∧
      st' = st.set id (.cells [.sc (.int .i64 (Tm.lgL (l.take i) (d + 1) m).2)])) l.length ⟨0, by simp, by simp, by simp [Tm.lgL], by simp, by simp, by simp, by simp, by simp [Tm.lgL, hm]⟩ ?_
    rintro M σ st' ⟨i, rfl, hi, hf, s1, s2, s3, s7, rfl⟩
    rcases Nat.lt_or_ge i l.length with hlt | hge
    · have hsz := Tm.lgL_size (l.take i) (d + 1) m (by omega) (by omega) hf
      simp [s1, s2, s3, s7, hlt]
      refine fun hb1 hb2 => ⟨by unfold i64ok; omega, vcICall_of (ih l[i] (List.getElem_mem hlt) _ _ id _ (Tm.niceL_mem hnice.2 _ (List.getElem_mem hlt)) (hset _) (by omega) (by omega) (by omega) (by omega)) ?_⟩
      rintro r st' ⟨rfl, rfl⟩ _
      have e2 := Tm.lgL_take hlt (d + 1) m hf
      rw [← e2]
      simp [s1, s2, s3, s7]
      refine ⟨fun h4 => ?_, fun h4 => ⟨by unfold i64ok; omega, l.length - (i + 1), by omega, i + 1, rfl, by omega, h4, by omega, rfl⟩⟩
      have e3 := Tm.lgL_true (d + 1) m h4
      rw [e3]
      refine endP_mk (.sc (.bool true)) (by simp) (by simp) ⟨rfl, ?_⟩
      rw [cutSt_set0 hfix]; simp
    · have hi : i = l.length := by omega
      subst hi
      rw [List.take_length] at hf
      simp [s1, s2, s3, s7]
      refine fun hb1 hb2 => endP_mk (.sc (.bool false)) (by simp) (by simp) ⟨by rw [hf], ?_⟩
      rw [cutSt_set0 hfix]; simp

set_option maxRecDepth 100000 in
theorem Large_c (t : Tm) (ht : t.nice) : PureCall T Try.prog 10 [t.av 24] (.sc (.bool t.large)) := by
  have h : ICall T Try.prog 10 [t.av 24] [] (fun r _ => r = .sc (.bool t.large)) := by
    refine ICall.of_vc hT [3] [(2, 1)] follows Try.call10 Try.func10 rfl (by kernel_rfl) fun hfix => ?_
    unfold Try.f10
    simp [Tm.cells]
    refine vcICall_of (large_c t 0 0 0 _ ht rfl (by omega) (by omega) (by omega) (by omega)) ?_
    rintro r st' ⟨rfl, rfl⟩ _
    simp
    exact endP_mk (.sc (.bool t.large)) (by simp [Tm.large]) (by simp [Tm.large]) rfl
  exact PureCall.of_ICall h (by simp [AV.pure, AV.pureL]) (by simp [AV.pure]) (by rintro r st' rfl; simp)
end Go.T1
end

section
open Go Go.Ab Go.Proofs
namespace Go.T1
set_option maxRecDepth 100000 in
theorem rItems_c (t : Tm) (ht : t.small) : PureCall T Try.prog 39 [t.av 24] (.tup [.lst 24 (Tm.cellsL 24 t.items.1), t.items.2.av 24]) := by
  refine PureCall.of_vc hT [1] [] follows Try.call39 Try.func39 rfl (by kernel_rfl) (by simp [AV.pure, AV.pureL]) (by simp [AV.pure, AV.pureL]) ?_
  unfold Try.f39
  simp [Tm.cells]
  refine vcC_loop [(24, .slot 4)] (fun m σ st => ∃ (i : Nat) (al : Bool) (out : List Tm) (u : Tm), m = u.size ∧ out.length + u.size ≤ t.size ∧ i = out.length ∧ out ++ u.items.1 = t.items.1 ∧ u.items.2 = t.items.2 ∧ σ 1 = .ptr 0 0 ∧ σ 3 = .ptr 1 0 ∧ σ 4 = .own 2 i ∧
    st = [.cells (Tm.cells 24 u), .cells [.sc (.int .i64 0), .sc (.int .i64 0), .sc (.string .empty), .nils], .row 24 i al (Tm.cellsL 24 out)]) t.size ?_ ?_
  · simp
    exact ⟨0, [], t, by simp [Tm.cellsL]⟩
  rintro m σ st ⟨i, al, out, ⟨k, n, s, l⟩, rfl, hsz, rfl, h1, h2, s1, s3, s4, rfl⟩
  by_cases hc : k = 4 ∧ s = ⟨#[46]⟩ ∧ l.length = 2
  · obtain ⟨rfl, rfl, hl⟩ := hc
    obtain ⟨x, y, rfl⟩ := Tm.len2 hl
    rw [Tm.items_two] at h1 h2
    simp [s1, s3, s4, Tm.cells, Tm.cellsL]
    unfold Tm.small at ht
    simp only [Tm.size, Tm.sizeL] at hsz
    refine ⟨by omega, y.size, by simp only [Tm.size, Tm.sizeL]; omega, out.length + 1, out ++ [x], y, rfl, by simp; omega, by simp, by simpa using h1, by simpa using h2, rfl, rfl, rfl, by simp [Tm.cellsL]⟩
  · rw [Tm.items_end hc] at h1 h2
    simp [s1, s3, s4, Tm.cells]
    intro _
    refine ⟨fun h4 h5 h6 => absurd ⟨h4, h5, by omega⟩ hc, fun _ => ?_⟩
    simp at h1 h2
    rw [← h1, ← h2]
    simp [Tm.cells]
set_option maxRecDepth 100000 in
theorem Items_c (t : Tm) (ht : t.small) : PureCall T Try.prog 38 [t.av 24] (.tup [.lst 24 (Tm.cellsL 24 (if t.check = 0 then t.items.1 else [])), (if t.check = 0 then t.items.2 else Tm.zero).av 24]) := by
  refine PureCall.of_vc hT [1] [] follows Try.call38 Try.func38 rfl (by kernel_rfl) (by simp [AV.pure, AV.pureL]) (by simp [AV.pure, AV.pureL]) ?_
  unfold Try.f38
  simp [Tm.cells]
  refine vcCall_at (may_c t ht) ?_
  simp
  refine ⟨fun h => ?_, fun h => ?_⟩
  · simp [h, Tm.zero, Tm.cells, Tm.cellsL]
    try rfl
  refine vcCall_at (Clone_c t ht) ?_
  simp [h]
  refine vcC_loop [(24, .slot 4)] (fun m σ st => ∃ (i : Nat) (al : Bool) (out : List Tm) (u : Tm), m = u.size ∧ out.length + u.size ≤ t.size ∧ i = out.length ∧ out ++ u.items.1 = t.items.1 ∧ u.items.2 = t.items.2 ∧ σ 1 = .ptr 0 0 ∧ σ 3 = .ptr 1 0 ∧ σ 4 = .own 2 i ∧
    st = [.cells (Tm.cells 24 u), .cells [.sc (.int .i64 0), .sc (.int .i64 0), .sc (.string .empty), .nils], .row 24 i al (Tm.cellsL 24 out)]) t.size ?_ ?_
  · simp
    exact ⟨0, [], t, by simp [Tm.cellsL]⟩
  rintro m σ st ⟨i, al, out, ⟨k, n, s, l⟩, rfl, hsz, rfl, h1, h2, s1, s3, s4, rfl⟩
  by_cases hc : k = 4 ∧ s = ⟨#[46]⟩ ∧ l.length = 2
  · obtain ⟨rfl, rfl, hl⟩ := hc
    obtain ⟨x, y, rfl⟩ := Tm.len2 hl
    rw [Tm.items_two] at h1 h2
    simp [s1, s3, s4, Tm.cells, Tm.cellsL]
    unfold Tm.small at ht
    simp only [Tm.size, Tm.sizeL] at hsz
    refine ⟨by omega, y.size, by simp only [Tm.size, Tm.sizeL]; omega, out.length + 1, out ++ [x], y, rfl, by simp; omega, by simp, by simpa using h1, by simpa using h2, rfl, rfl, rfl, by simp [Tm.cellsL]⟩
  · rw [Tm.items_end hc] at h1 h2
    simp [s1, s3, s4, Tm.cells]
    intro _
    refine ⟨fun h4 h5 h6 => absurd ⟨h4, h5, by omega⟩ hc, fun _ => ?_⟩
    simp at h1 h2
    rw [← h1, ← h2]
    simp [Tm.cells]
end Go.T1
end

section
open Go Go.Ab Go.Proofs
namespace Go.T1
set_option maxRecDepth 100000 in
theorem rList_c (l : List Tm) (tail : Tm) : PureCall T Try.prog 22 [.lst 24 (Tm.cellsL 24 l), tail.av 24] ((Tm.list tail l).av 24) := by
  refine PureCall.of_vc hT [5] [] follows Try.call22 Try.func22 rfl (by kernel_rfl) (by simp [AV.pure, AV.pureL]) (by simp [AV.pure, AV.pureL]) ?_
  unfold Try.f22
  simp [Tm.cells]
  intro hl1 hl2
  refine ⟨by unfold i64ok; omega, ?_⟩
  refine vcC_loop [] (fun m σ st => ∃ (i : Nat), m = i ∧ i ≤ l.length ∧ σ 0 = .lst 24 (Tm.cellsL 24 l) ∧ σ 4 = .ptr 0 0 ∧ σ 5 = .ptr 1 0 ∧ σ 6 = .sc (.int .i64 (i - 1)) ∧
    st = [.cells [.sc (.int .i64 0), .sc (.int .i64 0), .sc (.string .empty), .nils], .cells (Tm.cells 24 (Tm.list tail (l.drop i)))]) l.length ?_ ?_
  · simp [Tm.list]
  rintro m σ st ⟨i, rfl, hi, s0, s4, s5, s6, rfl⟩
  rcases Nat.eq_zero_or_pos m with h0 | hpos
  · subst h0
    simp [s0, s4, s5, s6]
  · obtain ⟨j, rfl⟩ : ∃ j, m = j + 1 := ⟨m - 1, by omega⟩
    have hj : j < l.length := by omega
    have e : ((j + 1 : Nat) : Int) - 1 = j := by omega
    rw [e] at s6
    simp [s0, s4, s5, s6, hj]
    refine ⟨rfl, vcCall_at (rComp_c _ [l[j], Tm.list tail (l.drop (j + 1))]) ?_⟩
    simp [s0, s4, s5, s6]
    refine ⟨by unfold i64ok; omega, j, by omega, by omega, rfl, ?_⟩
    rw [Tm.list_drop tail hj]
    simp [compT]
end Go.T1
end

section
open Go Go.Ab Go.Proofs Go.RowKit Go.Shelf
namespace Go.T1
attribute [local go_sem] Oper.semAt_some
/-- What a walk from behind has told when k rounds are over. -/
def down (n k : Nat) : List Nat := (List.range k).map fun j => n - 1 - j
theorem down_succ (n k : Nat) : down n (k + 1) = down n k ++ [n - 1 - k] := by simp [down, List.range_succ]
theorem down_len (n k : Nat) : (down n k).length = k := by simp [down]
/-- What the iterator reads between two rounds. -/
def Kb (b Bs : Nat) (W W' : World) : Prop := W'.heap[b]? = W.heap[b]? ∧ W'.heap[Bs]? = W.heap[Bs]?

set_option maxRecDepth 100000 in
set_option maxHeartbeats 4000000 in
theorem back1_in (F : Fence) (n : Nat) (h7 : F.fn 58) (hro : F.round = none) (hn : 1 ≤ n) (l Bs bo b off len cap : Nat) (zs : Nat → Nat → Value) (hreach : len ≤ 140737488355328) (J Jx : List Nat → World → Prop)
    (hY : ∀ pre x W, x < len → J pre W → pre.length < len → YieldAt F (n - 1) Try.prog l #[.int .i64 (x : Nat), .agg #[zs x 0, zs x 1, zs x 2, zs x 3]] W fun e W' =>
      (e = .returned (.bool true) ∧ J (pre ++ [x]) W' ∧ Kb b Bs W W') ∨ (e = .returned (.bool false) ∧ Jx (pre ++ [x]) W'))
    (W : World) (hBs : W.cell? ⟨Bs, bo, none⟩ = some (.slice (some ⟨b, off, none⟩) len cap)) (hc : ∀ j i, j < len → i < 4 → W.cell? ⟨b, off + j * 4 + i, none⟩ = some (zs j i)) (h0 : J [] W) :
    CallsIn F n Try.prog 58 #[.func (.yield l) #[] #[], .pointer (some ⟨Bs, bo, none⟩)] W fun e W' => (∃ v, e = .returned v) ∧
      ((∃ ys, ys = down len len ∧ J ys W') ∨ (∃ pre, (∃ k, k ≤ len ∧ pre = down len k) ∧ Jx pre W')) := by
  refine callsIn_of_wp Try.func58 rfl h7 ?_ hro
  simp only [Try.ntmps58, List.size_toArray, List.length_cons, List.length_nil, Nat.reduceAdd, Nat.reduceSub, Array.replicate_succ, Array.replicate_zero, List.push_toArray, List.append_toArray, List.nil_append, List.cons_append]
  gi_wp2
  gi_loopw [3] (fun i wr => ∃ k : Nat, k ≤ len ∧ i = .int .i64 ((len : Int) - 1 - k) ∧ J (down len k) wr ∧ Kb b Bs W wr)
    (fun i _ => (intOf i + 1).toNat)
  case atStart => exact ⟨0, Nat.zero_le _, by simp, h0, rfl, rfl⟩
  case round =>
    obtain ⟨k, hk, rfl, hJs, hnx⟩ := hrel
    have hb1 : wr.cell? ⟨Bs, bo, none⟩ = some (.slice (some ⟨b, off, none⟩) len cap) := (World.cell?_of_block (a := ⟨Bs, bo, none⟩) hnx.2).trans hBs
    by_cases hlt : k < len
    · obtain ⟨fn, tmps, assign, body, hy, hR⟩ := hY _ (len - 1 - k) wr (by omega) hJs (by rw [down_len]; exact hlt)
      have e0 : ((len - 1 - k : Nat) : Int) = (len : Int) - 1 - k := by omega
      rw [e0] at hy
      have e1 : ((len : Int) - 1 - k).toNat = len - 1 - k := by omega
      have e2 : (0 : Int) ≤ (len : Int) - 1 - k := by omega
      have e3 : ((len : Int) - 1 - k) < len := by omega
      have c0 : wr.cell? ⟨b, off + (len - 1 - k) * 4, none⟩ = some (zs (len - 1 - k) 0) := (World.cell?_of_block (a := ⟨b, _, none⟩) hnx.1).trans (hc (len - 1 - k) 0 (by omega) (by omega))
      have c1 : wr.cell? ⟨b, off + (len - 1 - k) * 4 + 1, none⟩ = some (zs (len - 1 - k) 1) := (World.cell?_of_block (a := ⟨b, _, none⟩) hnx.1).trans (hc (len - 1 - k) 1 (by omega) (by omega))
      have c2 : wr.cell? ⟨b, off + (len - 1 - k) * 4 + 2, none⟩ = some (zs (len - 1 - k) 2) := (World.cell?_of_block (a := ⟨b, _, none⟩) hnx.1).trans (hc (len - 1 - k) 2 (by omega) (by omega))
      have c3 : wr.cell? ⟨b, off + (len - 1 - k) * 4 + 3, none⟩ = some (zs (len - 1 - k) 3) := (World.cell?_of_block (a := ⟨b, _, none⟩) hnx.1).trans (hc (len - 1 - k) 3 (by omega) (by omega))
      gi_wp2
      refine hR.mono ?_
      rintro e W3 (⟨rfl, hJ3, hk3⟩ | ⟨rfl, hJx3⟩)
      · gi_wp2
        go_roundw
        case rel => exact ⟨k + 1, by omega, by simp; omega, by rw [down_succ]; exact hJ3, hk3.1.trans hnx.1, hk3.2.trans hnx.2⟩
        case measure => simp [intOf]; omega
      · gi_wp2
        refine bodyPost_ret (results_none rfl _ _ _) rfl ?_
        exact ⟨⟨_, rfl⟩, .inr ⟨down len k ++ [len - 1 - k], ⟨k + 1, by omega, (down_succ _ _).symm⟩, hJx3⟩⟩
    · obtain rfl : k = len := by omega
      gi_wp2
      go_end0
      exact ⟨⟨_, rfl⟩, .inl ⟨_, rfl, hJs⟩⟩

set_option maxRecDepth 100000 in
set_option maxHeartbeats 1000000 in
/-- .. of the nil slice, or an empty one: no round. -/
theorem back1_nil_in (F : Fence) (n : Nat) (h7 : F.fn 58) (hro : F.round = none) (l Bs bo cap : Nat) (a : Option Addr) {α : Type} (J : List α → World → Prop) (W : World) (hBs : W.cell? ⟨Bs, bo, none⟩ = some (.slice a 0 cap)) (h0 : J [] W) :
    CallsIn F n Try.prog 58 #[.func (.yield l) #[] #[], .pointer (some ⟨Bs, bo, none⟩)] W fun e W' => (∃ v, e = .returned v) ∧ J [] W' := by
  refine callsIn_of_wp Try.func58 rfl h7 ?_ hro
  simp only [Try.ntmps58, List.size_toArray, List.length_cons, List.length_nil, Nat.reduceAdd, Nat.reduceSub, Array.replicate_succ, Array.replicate_zero, List.push_toArray, List.append_toArray, List.nil_append, List.cons_append]
  gi_wp2
  gi_loopw [3] (fun i wr => i = .int .i64 (-1) ∧ J [] wr) (fun _ _ => 0)
  case atStart => exact ⟨rfl, h0⟩
  case round =>
    obtain ⟨rfl, hJs⟩ := hrel
    gi_wp2
    go_end0
    exact ⟨⟨_, rfl⟩, hJs⟩

theorem relM_get {E : Env} {b k : Nat} : ∀ (L : List (List AV)) (o x : Nat) (h : x < L.length), RelM T E b k o L → RelX T E b (o + x * k) L[x]
  | [], _, _, h, _ => by simp at h
  | e :: L, o, 0, _, hr => by simp only [RelM] at hr; simpa using hr.2.1
  | e :: L, o, x + 1, h, hr => by
    simp only [RelM] at hr
    have := relM_get L (o + k) x (by simpa using h) hr.2.2
    rw [show o + (x + 1) * k = o + k + x * k by rw [Nat.add_mul]; omega]
    simpa using this

theorem back_stops (E1 : Env) (n : Nat) (hn : 1 ≤ n) (l : List Tm) (p : Value) (hp : Rel T E1 (.eptr [.lst 24 (Tm.cellsL 24 l)]) p) :
    ∃ zs : Nat → Nat → Value, (∀ x (h : x < l.length), RelC T E1 (Tm.cells 24 l[x]) [zs x 0, zs x 1, zs x 2, zs x 3]) ∧
      SeqStopsK (fenceR none) n Try.prog 58 #[p] (fun x : {x : Nat // x < l.length} => #[.int .i64 (x.1 : Nat), .agg #[zs x.1 0, zs x.1 1, zs x.1 2, zs x.1 3]]) (fun W W' => ∀ k, E1.stable k → W'.heap[k]? = W.heap[k]?)
        (fun xs => xs.map (·.1) = down l.length l.length) (fun _ => True) l.length E1.w := by
  simp only [Rel] at hp
  obtain ⟨Bs, bo, rfl, hBs, hp⟩ := hp
  simp only [RelX] at hp
  obtain ⟨⟨v, hv, hp, _⟩, _⟩ := hp
  simp only [Rel] at hp
  obtain ⟨hm1, hm2, a, cap, rfl, hl⟩ := hp
  have hlen : (Tm.cellsL 24 l).length = l.length := by simp
  rw [hlen] at hv hm1 hm2
  have h56 : T.bytes 24 = 56 := by simp [Tab.bytes]
  have h48 : l.length ≤ 140737488355328 := by rw [h56] at hm1; omega
  rcases hl with hl | ⟨b, o, rfl, hb, hl⟩
  · have hl0 : l = [] := by rw [← List.length_eq_zero_iff, ← hlen, hl]; rfl
    subst hl0
    refine ⟨fun _ _ => undef, fun x h => by simp at h, ?_⟩
    intro lp J Jx W hW _ _ hY h0
    refine (back1_nil_in (fenceR none) n trivial rfl lp Bs bo cap a J W ?_ h0).mono ?_
    · exact (World.cell?_of_block (w := E1.w) (a := ⟨Bs, bo, none⟩) (hW.block Bs hBs.1)).trans hv
    · rintro e W' ⟨h1, h2⟩
      exact ⟨h1, .inl ⟨[], by simp [down], h2⟩⟩
  · have hT4 : T.cells 24 = 4 := by simp [Tab.cells]
    rw [hT4] at hl
    have hget : ∀ x (h : x < l.length), RelX T E1 b (o + x * 4) (Tm.cells 24 l[x]) := fun x h => by
      have := relM_get (Tm.cellsL 24 l) o x (by simpa using h) hl
      simpa [h] using this
    refine ⟨fun x i => (E1.w.cell? ⟨b, o + x * 4 + i, none⟩).getD undef, fun x h => ?_, ?_⟩
    · have := hget x h
      generalize l[x] = t at this ⊢
      obtain ⟨k, m, s, ll⟩ := t
      simp only [Tm.cells, RelX, RelC] at this ⊢
      obtain ⟨⟨v0, a0, b0, c0⟩, ⟨v1, a1, b1, c1⟩, ⟨v2, a2, b2, c2⟩, ⟨v3, a3, b3, c3⟩, _⟩ := this
      simp only [Nat.add_assoc] at a0 a1 a2 a3 ⊢
      refine ⟨_, _, rfl, by simpa [a0] using b0, by simpa [a0] using c0, _, _, rfl, by simpa [a1] using b1, by simpa [a1] using c1, _, _, rfl, by simpa [a2] using b2, by simpa [a2] using c2, _, _, rfl, by simpa [a3] using b3, by simpa [a3] using c3, rfl⟩
    · intro lp J Jx W hW _ _ hY h0
      refine (back1_in (fenceR none) n trivial rfl hn lp Bs bo b o l.length cap (fun x i => (E1.w.cell? ⟨b, o + x * 4 + i, none⟩).getD undef) h48
        (fun ys W => ∃ xs : List {x : Nat // x < l.length}, xs.map (·.1) = ys ∧ J xs W) (fun ys W => ∃ xs : List {x : Nat // x < l.length}, xs.map (·.1) = ys ∧ Jx xs W) ?_ W
        ((World.cell?_of_block (w := E1.w) (a := ⟨Bs, bo, none⟩) (hW.block Bs hBs.1)).trans hv) ?_ ⟨[], rfl, h0⟩).mono ?_
      · rintro pre x W1 hx ⟨xs, rfl, hJ⟩ hlt
        obtain ⟨fn, tmps, assign, body, hy, hR⟩ := hY xs ⟨x, hx⟩ W1 hJ (by simpa using hlt)
        refine ⟨fn, tmps, assign, body, hy, hR.mono ?_⟩
        rintro e W' (⟨rfl, h1, h2⟩ | ⟨rfl, h1⟩)
        · exact .inl ⟨rfl, ⟨xs ++ [⟨x, hx⟩], by simp, h1⟩, h2 b hb, h2 Bs hBs⟩
        · exact .inr ⟨rfl, xs ++ [⟨x, hx⟩], by simp, h1⟩
      · intro j i hj hi
        rw [show W.cell? ⟨b, o + j * 4 + i, none⟩ = E1.w.cell? ⟨b, o + j * 4 + i, none⟩ from World.cell?_of_block (w := E1.w) (a := ⟨b, o + j * 4 + i, none⟩) (hW.block b hb.1)]
        have := hget j hj
        generalize l[j] = t at this
        obtain ⟨k, m, s, ll⟩ := t
        simp only [Tm.cells, RelX] at this
        obtain ⟨⟨v0, a0, b0, c0⟩, ⟨v1, a1, b1, c1⟩, ⟨v2, a2, b2, c2⟩, ⟨v3, a3, b3, c3⟩, _⟩ := this
        simp only [Nat.add_assoc] at a0 a1 a2 a3 ⊢
        match i, hi with
        | 0, _ => simp [a0]
        | 1, _ => simp [a1]
        | 2, _ => simp [a2]
        | 3, _ => simp [a3]
      · rintro e W' ⟨h1, ⟨ys, rfl, xs, h2, h3⟩ | ⟨pre, _, xs, _, h3⟩⟩
        · exact ⟨h1, .inl ⟨xs, h2, h3⟩⟩
        · exact ⟨h1, .inr ⟨xs, trivial, h3⟩⟩
end Go.T1
end

section
open Go Go.Ab Go.Proofs Go.RowKit
namespace Go.T1
set_option maxRecDepth 100000 in
theorem Backward_c (l : List Tm) : PureCall T Try.prog 46 [.lst 24 (Tm.cellsL 24 l)] (.fn (.func 58) [] [.eptr [.lst 24 (Tm.cellsL 24 l)]]) := by
  refine PureCall.of_vc hT [] [] follows Try.call46 Try.func46 rfl (by kernel_rfl) (by simp [AV.pure, AV.pureL]) (by simp [AV.pure, AV.pureL]) ?_
  unfold Try.f46
  simp [AV.ofConst]

mutual
theorem Tm.cells_solid (e : Nat) : ∀ t : Tm, AV.solidL (t.cells e)
  | .mk k n s l => by simp only [Tm.cells, AV.solidL, AV.solid]; exact ⟨trivial, trivial, trivial, Tm.cellsL_solid e l, trivial⟩
theorem Tm.cellsL_solid (e : Nat) : ∀ l : List Tm, AV.solidM (Tm.cellsL e l)
  | [] => by simp only [Tm.cellsL, AV.solidM]
  | t :: ts => by
    simp only [Tm.cellsL, AV.solidM]
    exact ⟨by cases t; simp [Tm.cells], Tm.cells_solid e t, Tm.cellsL_solid e ts⟩
end

/-- The slots that a round of List knows. -/
def sigL (x : AV) : Slots := fun i => if i = 3 then .ptr 0 0 else if i = 4 then .ptr 1 0 else if i = 6 then x else .any
theorem sigL_solid (x : AV) (h : x.solid) (i : Nat) : (sigL x i).solid := by
  unfold sigL; split
  · trivial
  · split
    · trivial
    · split
      · exact h
      · trivial
def zeroT : List AV := [.sc (.int .i64 0), .sc (.int .i64 0), .sc (.string .empty), .nils]
theorem zeroT_solid : AV.solidL zeroT := by simp [zeroT, AV.solidL, AV.solid]

theorem rev_of_down (l : List Tm) (xs : List {x : Nat // x < l.length}) (h : xs.map (·.1) = down l.length l.length) : (xs.map (fun x => l[x.1])).reverse = l := by
  have h1 : xs.length = l.length := by have := congrArg List.length h; simpa [down_len] using this
  rw [List.reverse_eq_iff]
  refine List.ext_getElem (by simp [h1]) fun i h2 h3 => ?_
  have h4 : (xs.map (·.1))[i]? = (down l.length l.length)[i]? := by rw [h]
  have h5 : i < xs.length := by simpa using h2
  have h6 : i < l.length := by omega
  simp [down, h5, h6] at h4
  simp [h4]

set_option maxRecDepth 100000 in
theorem List_c (l : List Tm) (tail : Tm) : PureCall T Try.prog 21 [.lst 24 (Tm.cellsL 24 l), tail.av 24] ((Tm.list tail l).av 24) := by
  refine ⟨Try.call21, by simp [AV.pure, AV.pureL], by simp [AV.pure], fun w M vs hM hr => ?_⟩
  let E0 : Env := ⟨w, [], fun _ => 0, M⟩
  have hi0 : Inv T E0 := ⟨fun i j bi bj h => by simp [E0] at h, fun i bi h => by simp [E0] at h, hM, fun i bi h => by simp [E0] at h⟩
  refine callsIn_wide.1 (callsIn_of_wp_marks (F := fenceR none) (n := 2) Try.func21 rfl trivial ?_ rfl)
  unfold Try.f21
  have hs0 : RelS T E0 16 (slots0 [.lst 24 (Tm.cellsL 24 l), tail.av 24]) { tmps := vs.toArray ++ Array.replicate (16 - vs.toArray.size) undef, defers := [] } := slots0_rel hr 16
  show Code.wpIn (fenceR none) 2 Try.prog _ _ { tmps := vs.toArray ++ Array.replicate (16 - vs.toArray.size) undef, defers := [] } E0.w
  rw [← behindA_nil { tmps := vs.toArray ++ Array.replicate (16 - vs.toArray.size) undef, defers := [] }]
  refine wpIn_seq (vcR_sound (r := none) (ds := []) (mu := [3]) (X := fun _ _ _ => False) (R := fun _ _ => False) (st := []) (K := fun σ st => σ 0 = .lst 24 (Tm.cellsL 24 l) ∧ σ 3 = .ptr 0 0 ∧ σ 4 = .ptr 1 0 ∧ st = [.cells (tail.cells 24), .cells zeroT]) hT _ E0 _ rfl ?_ rfl hi0 (Step.refl _) hs0 ?_)
  · simp [zeroT]
  intro Ea σa aa ia sa ra ⟨a0, a3, a4, ast⟩
  show Code.wpIn (fenceR none) 2 Try.prog _ _ (behindA aa []) Ea.w
  refine wpIn_seq (wpIn_seq (vcR_sound (r := none) (ds := []) (mu := [3]) (X := fun _ _ _ => False) (R := fun _ _ => False) (st := Ea.st) (σ := σa) (E0 := E0) (K := fun σ st => σ 3 = .ptr 0 0 ∧ σ 4 = .ptr 1 0 ∧ σ 8 = .fn (.func 58) [] [.eptr [.lst 24 (Tm.cellsL 24 l)]] ∧ st = [.cells (tail.cells 24), .cells zeroT]) hT _ Ea aa rfl ?_ rfl ia sa ra ?_))
  · simp [a0, a3, a4, ast]
    refine vcCall_at (Backward_c l) ?_
    simp [a3, a4]
  intro E1 σ1 a1 i1 s1 r1 ⟨b3, b4, b8, bst⟩
  show Code.wpIn (fenceR none) 2 Try.prog _ _ (behindA a1 []) E1.w
  rw [behindA_nil]
  have hac : allCells E1.st := by
    rw [bst]
    intro i b h
    match i, h with
    | 0, h => simp at h; exact ⟨_, h.symm, Tm.cells_solid 24 tail⟩
    | 1, h => simp at h; exact ⟨_, h.symm, zeroT_solid⟩
    | i + 2, h => simp at h
  have r8 := r1.val 8
  rw [b8] at r8
  simp only [Rel] at r8
  obtain ⟨fs, ws, e8, hfs, hws⟩ := r8
  simp only [RelL] at hfs hws
  subst hfs
  obtain ⟨p, _, rfl, hp, rfl⟩ := hws
  obtain ⟨zs, hz, hseq⟩ := back_stops E1 1 (by omega) l p (by simpa only [Rel] using hp)
  refine wpIn_block ?_
  refine rangeRule (mu := [3]) (α := {x : Nat // x < l.length}) hT E1 (sigL .any) (by omega) i1 hac (r1.forget ?_) (sigL_solid _ trivial) (gf := 58) (lb := #[p]) e8 Try.call58
    (xv := fun x => .sc (.int .i64 (x.1 : Nat))) (yv := fun x => .agg (l[x.1].cells 24)) ?_ hseq (by decide) (by decide)
    (fun pre st => st = [.cells ((Tm.list tail (pre.map (fun x => l[x.1])).reverse).cells 24), .cells zeroT]) ?_ (by rw [bst]; rfl)
    (fun x => sigL (.eptr (l[x.1].cells 24))) ?_ rfl rfl ?_ ?_ ?_
  · intro i
    unfold sigL
    split
    · rename_i h; subst h; exact .inr b3
    · split
      · rename_i h; subst h; exact .inr b4
      · split <;> exact .inl rfl
  · intro x
    refine ⟨_, _, rfl, by simp only [Rel]; exact ⟨trivial, rfl⟩, ?_, by simp only [AV.solid], by simp only [AV.solid]; exact Tm.cells_solid 24 _⟩
    simp only [Rel]
    exact ⟨_, rfl, hz x.1 x.2⟩
  · rintro pre st rfl
    refine ⟨?_, by rw [bst]; rfl⟩
    intro i b h
    match i, h with
    | 0, h => simp at h; exact ⟨_, h.symm, Tm.cells_solid 24 _⟩
    | 1, h => simp at h; exact ⟨_, h.symm, zeroT_solid⟩
    | i + 2, h => simp at h
  · intro x i
    refine sigL_solid _ ?_ i
    simp only [AV.solid]
    refine ⟨?_, Tm.cells_solid 24 _⟩
    cases l[x.1]; simp [Tm.cells]
  · rintro pre x st rfl
    simp [put2, sigL]
    intro i
    by_cases h3 : i = 3
    · subst h3; simp
    by_cases h4 : i = 4
    · subst h4; simp
    by_cases h6 : i = 6
    · subst h6; simp
    simp [h3, h4, h6]
  · rintro pre x st rfl hlt
    simp [sigL]
    refine ⟨rfl, vcCall_at (Comp_c _ [l[x.1], Tm.list tail (pre.map (fun x => l[x.1])).reverse]) ?_⟩
    have hd : ∀ t : Tm, List.drop 4 (t.cells 24) = [] := fun t => by cases t; rfl
    simp [bst, cutSt, zeroT, Tm.list, compT, sigL, hd]
  · rintro D xs E hD hS hI' hiE hg hK
    rw [rev_of_down l xs hS] at hI'
    refine wpIn_seq (vcR_sound (r := none) (ds := [{ target := .collected D, args := #[] }]) (mu := [3]) (X := fun _ _ _ => False) (R := fun _ _ => False) (σ := sigL .any) (st := E.st) (E0 := E) (K := fun σ st => σ 4 = .ptr 1 0 ∧ st = [.cells ((Tm.list tail l).cells 24), .cells ((Tm.list tail l).cells 24)]) hT _ E a1 rfl ?_ rfl hiE (Step.refl E) ((r1.forget ?_).move hg.move (sigL_solid _ trivial)) ?_)
    · simp [hI', sigL, zeroT]
    · intro i
      unfold sigL
      split
      · rename_i h; subst h; exact .inr b3
      · split
        · rename_i h; subst h; exact .inr b4
        · split <;> exact .inl rfl
    intro E' σ' a' k1 k2 k3 ⟨k4, k5⟩
    refine wpIn_ret ?_
    refine leaves_range (σ' := fun i => if i = 4 then .ptr 1 0 else .any) hT s1 rfl hg k2 k1 (by rw [k5, hI']; rfl) ?_ hD hK (k3.forget ?_) ?_ ?_ (by simp [AV.pure])
    · rw [k5]
      intro i b h
      match i, h with
      | 0, h => simp at h; exact ⟨_, h.symm, Tm.cells_solid 24 _⟩
      | 1, h => simp at h; exact ⟨_, h.symm, Tm.cells_solid 24 _⟩
      | i + 2, h => simp at h
    · intro i
      split
      · rename_i h; subst h; exact .inr k4
      · exact .inl rfl
    · intro i
      split <;> trivial
    · rw [k5]
      simp
end Go.T1
end

section
open Go Go.Ab Go.Proofs
namespace Go.T1
set_option maxRecDepth 100000 in
theorem many_c (l : List Tm) (hn : Tm.niceL l) (hl : l.length ≤ 100) : PureCall T Try.prog 41 [.lst 24 (Tm.cellsL 24 l)] (.sc (.bool (manyT l))) := by
  refine PureCall.of_vc hT [] [] follows Try.call41 Try.func41 rfl (by kernel_rfl) (by simp [AV.pure, AV.pureL]) (by simp [AV.pure]) ?_
  unfold Try.f41
  simp
  refine vcC_loop [] (fun m σ st => ∃ i : Nat, m = l.length - i ∧ i ≤ l.length ∧ noneL (l.take i) ∧ σ 0 = .lst 24 (Tm.cellsL 24 l) ∧ σ 3 = .sc (.int .i64 (Tm.sizeL (l.take i))) ∧ σ 4 = .sc (.int .i64 i) ∧ st = []) l.length ⟨0, by simp [noneL, Tm.sizeL]⟩ ?_
  rintro m σ st ⟨i, rfl, hi, hno, s0, s3, s4, rfl⟩
  rcases Nat.lt_or_ge i l.length with hlt | hge
  · simp [s0, s3, s4, hlt]
    refine fun _ _ => vcCall_at (Large_c _ (Tm.niceL_take hlt hn)) ?_
    simp [s0, s3, s4, hlt]
    refine ⟨fun hx => ?_, fun hx => ?_⟩
    · simp [many_of_get hlt hx]
    · refine vcCall_at (rSize_c _ (Tm.large_small hx)) ?_
      have h1 := noneL_size hno
      have h2 := Tm.large_size hx
      have h3 : (l.take i).length ≤ 100 := by simp; omega
      simp [s0, s3, s4]
      refine ⟨by unfold i64ok; omega, by unfold i64ok; omega, l.length - (i + 1), by omega, i + 1, rfl, by omega, noneL_take hlt hno hx, ?_, by omega⟩
      rw [Tm.sizeL_take hlt]; omega
  · have hi : i = l.length := by omega
    subst hi
    rw [List.take_length] at hno
    simp [s0, s3, s4]
    unfold noneL at hno
    intro _ _
    simp [manyT, hno]
    omega

theorem sizeL_small {l : List Tm} (h : Tm.sizeL l ≤ 900000000) {i : Nat} (hlt : i < l.length) : l[i].small := by
  have := Tm.size_get hlt
  unfold Tm.small; omega

set_option maxRecDepth 100000 in
theorem sizes_c (l : List Tm) (hl : Tm.sizeL l ≤ 900000000) : PureCall T Try.prog 43 [.lst 24 (Tm.cellsL 24 l)] (.sc (.int .i64 (Tm.sizeL l))) := by
  refine PureCall.of_vc hT [] [] follows Try.call43 Try.func43 rfl (by kernel_rfl) (by simp [AV.pure, AV.pureL]) (by simp [AV.pure]) ?_
  unfold Try.f43
  simp
  refine vcC_loop [] (fun m σ st => ∃ i : Nat, m = l.length - i ∧ i ≤ l.length ∧ σ 0 = .lst 24 (Tm.cellsL 24 l) ∧ σ 3 = .sc (.int .i64 (Tm.sizeL (l.take i))) ∧ σ 4 = .sc (.int .i64 i) ∧ st = []) l.length ⟨0, by simp [Tm.sizeL]⟩ ?_
  rintro m σ st ⟨i, rfl, hi, s0, s3, s4, rfl⟩
  rcases Nat.lt_or_ge i l.length with hlt | hge
  · have h1 := Tm.size_get hlt
    simp [s0, s3, s4, hlt]
    refine fun _ _ => vcCall_at (rSize_c _ (sizeL_small hl hlt)) ?_
    simp [s0, s3, s4]
    refine ⟨by unfold i64ok; omega, by unfold i64ok; omega, l.length - (i + 1), by omega, i + 1, rfl, by omega, ?_, by omega⟩
    rw [Tm.sizeL_take hlt]; omega
  · have hi : i = l.length := by omega
    subst hi
    simp [s0, s3, s4]

theorem take_ne {a b : List Tm} {i : Nat} (h1 : i < a.length) (h2 : i < b.length) (h : a[i] ≠ b[i]) : a ≠ b := by
  rintro rfl; exact h rfl

set_option maxRecDepth 100000 in
theorem alike_c (a b : List Tm) : PureCall T Try.prog 42 [.lst 24 (Tm.cellsL 24 a), .lst 24 (Tm.cellsL 24 b)] (.sc (.bool (decide (a = b)))) := by
  refine PureCall.of_vc hT [] [] follows Try.call42 Try.func42 rfl (by kernel_rfl) (by simp [AV.pure, AV.pureL]) (by simp [AV.pure]) ?_
  unfold Try.f42
  simp
  refine fun _ _ _ _ => ⟨fun h => ?_, fun h => ?_⟩
  · intro e; subst e; exact h rfl
  have hab : a.length = b.length := by omega
  refine vcC_loop [] (fun m σ st => ∃ i : Nat, m = a.length - i ∧ i ≤ a.length ∧ a.take i = b.take i ∧ σ 0 = .lst 24 (Tm.cellsL 24 a) ∧ σ 1 = .lst 24 (Tm.cellsL 24 b) ∧ σ 5 = .sc (.int .i64 i) ∧ st = []) a.length ⟨0, by simp⟩ ?_
  rintro m σ st ⟨i, rfl, hi, htk, s0, s1, s5, rfl⟩
  rcases Nat.lt_or_ge i a.length with hlt | hge
  · have hlt2 : i < b.length := by omega
    simp [s0, s1, s5, hlt, hlt2]
    refine fun _ _ => vcCall_at (exact_c a[i] b[i]) ?_
    simp [s0, s1, s5]
    refine ⟨fun he => take_ne hlt hlt2 he, fun he => ⟨by unfold i64ok; omega, a.length - (i + 1), by omega, i + 1, rfl, by omega, ?_, by omega⟩⟩
    rw [Tm.take_succ hlt, Tm.take_succ hlt2, htk, he]
  · have hi : i = a.length := by omega
    subst hi
    simp [s0, s1, s5]
    rw [List.take_length, hab, List.take_length] at htk
    intro _ _
    exact htk
end Go.T1
end

section
open Go Go.Ab Go.Proofs
namespace Go.T1
def t0 : Tm := .mk 4 0 ⟨#[102]⟩ [Tm.mk 1 7 ⟨#[]⟩ [], Tm.mk 1 3 ⟨#[]⟩ [], Tm.mk 1 7 ⟨#[]⟩ []]
def u0 : Tm := .mk 4 0 ⟨#[102]⟩ [Tm.mk 1 0 ⟨#[]⟩ [], Tm.mk 1 1 ⟨#[]⟩ [], Tm.mk 1 0 ⟨#[]⟩ []]
def v0 : Tm := .mk 4 0 ⟨#[102]⟩ [Tm.mk 2 5 ⟨#[]⟩ [], Tm.mk 1 1 ⟨#[]⟩ [], Tm.mk 2 5 ⟨#[]⟩ []]
theorem t0_small : t0.small := by simp [t0, Tm.small, Tm.size, Tm.sizeL]
theorem t0_check : t0.check = 0 := by simp [t0, Tm.check, Tm.size, Tm.sizeL, Tm.depth, Tm.depthL, Tm.right, Tm.rightL, partB, ByteArray.size]
theorem t0_vars : t0.vars [] = [7, 3] := by simp [t0, Tm.vars, Tm.varsL, addV]
theorem t0_ren : renT t0 = u0 := by simp [renT, t0_vars]; simp [t0, u0, Tm.sub, Tm.subL, placeI, Tm.var]
theorem u0_small : u0.small := by simp [u0, Tm.small, Tm.size, Tm.sizeL]
theorem u0_check : u0.check = 0 := by simp [u0, Tm.check, Tm.size, Tm.sizeL, Tm.depth, Tm.depthL, Tm.right, Tm.rightL, partB, ByteArray.size]
theorem u0_vars : u0.vars [] = [0, 1] := by simp [u0, Tm.vars, Tm.varsL, addV]
theorem u0_ren : renT u0 = u0 := by simp [renT, u0_vars]; simp [u0, Tm.sub, Tm.subL, placeI, Tm.var]
theorem u0_sub : u0.sub (repF [Tm.mk 2 5 ⟨#[]⟩ []]) = v0 := by simp [u0, v0, Tm.sub, Tm.subL, repF, Tm.var]
theorem v0_check : v0.check = 0 := by simp [v0, Tm.check, Tm.size, Tm.sizeL, Tm.depth, Tm.depthL, Tm.right, Tm.rightL, partB, ByteArray.size]
theorem v0_small : v0.small := by simp [v0, Tm.small, Tm.size, Tm.sizeL]
theorem t0_size : t0.size = 4 := by simp [t0, Tm.size, Tm.sizeL]
theorem t0_depth : t0.depth = 2 := by simp [t0, Tm.depth, Tm.depthL]
def l0 : Tm := Tm.list (.mk 3 0 ⟨#[91, 93]⟩ []) [.mk 2 1 ⟨#[]⟩ [], .mk 3 0 ⟨#[97]⟩ []]
theorem l0_small : l0.small := by simp [l0, Tm.list, Tm.small, Tm.size, Tm.sizeL]
theorem l0_check : l0.check = 0 := by simp [l0, Tm.list, Tm.check, Tm.size, Tm.sizeL, Tm.depth, Tm.depthL, Tm.right, Tm.rightL, partB, ByteArray.size]
theorem l0_items : l0.items = ([.mk 2 1 ⟨#[]⟩ [], .mk 3 0 ⟨#[97]⟩ []], .mk 3 0 ⟨#[91, 93]⟩ []) := by
  simp only [l0, Tm.list, Tm.items_two]
  rw [Tm.items_end (by simp)]
theorem zero_check : Tm.zero.check = 60 := by simp [Tm.zero, Tm.check, Tm.right, Tm.rightL, partB, ByteArray.size]
theorem zero_small : Tm.zero.small := by simp [Tm.zero, Tm.small, Tm.size, Tm.sizeL]

set_option maxRecDepth 100000 in
theorem lives_c : PureCall T Try.prog 11 [] (.sc (.bool true)) := by
  refine PureCall.of_vc hT [] [(4, 4)] follows Try.call11 Try.func11 rfl (drawsOk_of3 (by kernel_rfl)) (by simp [AV.pure, AV.pureL]) (by simp [AV.pure]) ?_
  unfold Try.f11
  simp
  refine vcCall_at (Var_c 7) ?_
  simp
  refine vcCall_at (Var_c 3) ?_
  simp
  refine vcCall_at (Var_c 7) ?_
  simp
  refine ⟨rfl, vcCall_at (Comp_c _ [Tm.mk 1 7 ⟨#[]⟩ [], Tm.mk 1 3 ⟨#[]⟩ [], Tm.mk 1 7 ⟨#[]⟩ []]) ?_⟩
  rw [show compT ⟨#[102]⟩ [Tm.mk 1 7 ⟨#[]⟩ [], Tm.mk 1 3 ⟨#[]⟩ [], Tm.mk 1 7 ⟨#[]⟩ []] = t0 from rfl]
  simp
  refine vcCall_at (Rename_c t0 t0_small) ?_
  rw [if_pos t0_check, if_pos t0_check, t0_ren, t0_vars]
  simp
  refine vcCall_at (Int_c 1) ?_
  simp
  refine vcCall_at (Atom_c _) ?_
  simp
  refine ⟨rfl, vcCall_at (Atom_c _) ?_⟩
  simp
  refine vcCall_at (List_c [.mk 2 1 ⟨#[]⟩ [], .mk 3 0 ⟨#[97]⟩ []] _) ?_
  rw [show Tm.list (.mk 3 0 ⟨#[91, 93]⟩ []) [.mk 2 1 ⟨#[]⟩ [], .mk 3 0 ⟨#[97]⟩ []] = l0 from rfl]
  simp
  refine vcCall_at (Items_c l0 l0_small) ?_
  rw [if_pos l0_check, if_pos l0_check, l0_items]
  simp [Tm.cells, Tm.cellsL]
  refine ⟨fun r st' => r = .ptr 1 0 ∧ st' = [.cells [.sc (.int .i64 3), .sc (.int .i64 0), .sc (.string ⟨#[91, 93]⟩), .lst 24 []], .cells [.sc (.int .i64 0), .sc (.int .i64 0), .sc (.string .empty), .nils]], ?_⟩
  simp (decide := true)
  refine ⟨by rintro r st' ⟨rfl, rfl⟩; simp, ?_⟩
  simp (decide := true)
  refine vcCall_at (Int_c 5) ?_
  simp (decide := true)
  refine ⟨by rintro r st' ⟨rfl, rfl⟩; simp; exact vcCall_at (Int_c 5) (by simp), ?_⟩
  simp (decide := true)
  refine ⟨by rintro r st' ⟨rfl, rfl⟩; simp, ?_⟩
  simp (decide := true)
  have hR := Replace_c u0 [.mk 2 5 ⟨#[]⟩ []] u0_small (by simp [Tm.small, Tm.size, Tm.sizeL]) (fun _ _ => by rw [u0_sub]; exact v0_small)
  rw [show replT u0 [.mk 2 5 ⟨#[]⟩ []] = v0 by unfold replT; rw [u0_sub, if_pos]; refine ⟨u0_check, ?_, v0_check⟩; simp [Tm.check, Tm.size, Tm.sizeL, Tm.depth, Tm.depthL, Tm.right, Tm.rightL, partB]] at hR
  refine vcCall_at hR ?_
  simp (decide := true)
  refine ⟨by rintro r st' ⟨rfl, rfl⟩; simp; exact vcCall_at hR (by simp), ?_⟩
  simp (decide := true)
  refine ⟨by simp, rfl, by simp [vcI], ?_⟩
  rintro r st' ⟨rfl, rfl⟩ _
  simp
  refine vcCall_at (Vars_c t0 t0_small) ?_
  rw [if_pos t0_check, t0_vars]
  simp [-vcLex_cons]
  iterate 4 (refine vcLex_step fun K hK => ?_; simp; refine hK _ _ ?_; clear hK)
  refine vcLex_step fun K hK => ?_
  simp
  refine vcCall_at (rVar_c 0) ?_
  simp
  refine hK _ _ ?_
  clear hK
  refine vcLex_step fun K hK => ?_
  simp
  refine vcCall_at (rVar_c 1) ?_
  simp
  refine hK _ _ ?_
  clear hK
  refine vcLex_step fun K hK => ?_
  simp
  refine vcCall_at (rVar_c 0) ?_
  simp
  refine hK _ _ ?_
  clear hK
  refine vcLex_step fun K hK => ?_
  simp
  refine ⟨rfl, hK _ _ ?_⟩
  clear hK
  refine vcLex_step fun K hK => ?_
  simp
  refine vcCall_at (rComp_c _ [Tm.mk 1 0 ⟨#[]⟩ [], Tm.mk 1 1 ⟨#[]⟩ [], Tm.mk 1 0 ⟨#[]⟩ []]) ?_
  rw [show compT ⟨#[102]⟩ [Tm.mk 1 0 ⟨#[]⟩ [], Tm.mk 1 1 ⟨#[]⟩ [], Tm.mk 1 0 ⟨#[]⟩ []] = u0 from rfl]
  simp
  refine hK _ _ ?_
  clear hK
  refine vcLex_step fun K hK => ?_
  simp
  refine vcCall_at (exact_c u0 u0) ?_
  simp
  refine hK _ _ ?_
  clear hK
  iterate 20 (refine vcLex_step fun K hK => ?_; simp; refine hK _ _ ?_; clear hK)
  refine vcLex_step fun K hK => ?_
  simp
  refine vcCall_at (rInt_c 5) ?_
  simp
  refine hK _ _ ?_
  clear hK
  refine vcLex_step fun K hK => ?_
  simp
  refine vcCall_at (rVar_c 1) ?_
  simp
  refine hK _ _ ?_
  clear hK
  refine vcLex_step fun K hK => ?_
  simp
  refine vcCall_at (rInt_c 5) ?_
  simp
  refine hK _ _ ?_
  clear hK
  refine vcLex_step fun K hK => ?_
  simp
  refine ⟨rfl, hK _ _ ?_⟩
  clear hK
  refine vcLex_step fun K hK => ?_
  simp
  refine vcCall_at (rComp_c _ [Tm.mk 2 5 ⟨#[]⟩ [], Tm.mk 1 1 ⟨#[]⟩ [], Tm.mk 2 5 ⟨#[]⟩ []]) ?_
  rw [show compT ⟨#[102]⟩ [Tm.mk 2 5 ⟨#[]⟩ [], Tm.mk 1 1 ⟨#[]⟩ [], Tm.mk 2 5 ⟨#[]⟩ []] = v0 from rfl]
  simp
  refine hK _ _ ?_
  clear hK
  refine vcLex_step fun K hK => ?_
  simp
  refine vcCall_at (exact_c v0 v0) ?_
  simp
  refine hK _ _ ?_
  clear hK
  iterate 14 (refine vcLex_step fun K hK => ?_; simp; refine hK _ _ ?_; clear hK)
  refine vcLex_step fun K hK => ?_
  simp
  refine vcCall_at (check_c t0 t0_small) ?_
  rw [t0_check]
  simp
  refine hK _ _ ?_
  clear hK
  iterate 4 (refine vcLex_step fun K hK => ?_; simp; refine hK _ _ ?_; clear hK)
  refine vcLex_step fun K hK => ?_
  simp
  refine vcCall_of (check_c Tm.zero zero_small) (by simp [Tm.zero, Tm.cells, Tm.cellsL]; rfl) ?_
  rw [zero_check]
  simp
  refine hK _ _ ?_
  clear hK
  iterate 4 (refine vcLex_step fun K hK => ?_; simp; refine hK _ _ ?_; clear hK)
  refine vcLex_step fun K hK => ?_
  simp
  refine vcCall_at (Size_c t0 t0_small) ?_
  rw [if_pos t0_check, t0_size]
  simp
  refine hK _ _ ?_
  clear hK
  iterate 4 (refine vcLex_step fun K hK => ?_; simp; refine hK _ _ ?_; clear hK)
  refine vcLex_step fun K hK => ?_
  simp
  refine vcCall_at (Depth_c t0 t0_small) ?_
  rw [if_pos t0_check, t0_depth]
  simp
  refine hK _ _ ?_
  clear hK
  iterate 4 (refine vcLex_step fun K hK => ?_; simp; refine hK _ _ ?_; clear hK)
  refine vcLex_step fun K hK => ?_
  simp
  refine vcCall_at (Ground_c t0 t0_small) ?_
  rw [t0_check, t0_vars]
  simp
  refine hK _ _ ?_
  clear hK
  iterate 5 (refine vcLex_step fun K hK => ?_; simp; refine hK _ _ ?_; clear hK)
  refine vcLex_step fun K hK => ?_
  simp
  refine vcCall_at (Variant_c t0 u0 t0_small u0_small) ?_
  rw [t0_check, u0_check, t0_ren, u0_ren]
  simp
  refine hK _ _ ?_
  clear hK
  iterate 4 (refine vcLex_step fun K hK => ?_; simp; refine hK _ _ ?_; clear hK)
  refine vcLex_step fun K hK => ?_
  simp
  refine vcCall_at (Same_c t0 u0 t0_small u0_small) ?_
  rw [t0_check, u0_check, decide_eq_false (show ¬ t0 = u0 by simp [t0, u0])]
  simp
  refine hK _ _ ?_
  clear hK
  iterate 4 (refine vcLex_step fun K hK => ?_; simp; refine hK _ _ ?_; clear hK)
  refine vcLex_step fun K hK => ?_
  simp
  refine vcCall_at (Clone_c t0 t0_small) ?_
  rw [if_pos t0_check]
  simp
  refine hK _ _ ?_
  clear hK
  iterate 1 (refine vcLex_step fun K hK => ?_; simp; refine hK _ _ ?_; clear hK)
  refine vcLex_step fun K hK => ?_
  simp
  refine vcCall_at (Same_c t0 t0 t0_small t0_small) ?_
  rw [t0_check]
  simp
  refine hK _ _ ?_
  clear hK
  iterate 1 (refine vcLex_step fun K hK => ?_; simp; refine hK _ _ ?_; clear hK)
  iterate 1 (refine vcLex_step fun K hK => ?_; simp; refine hK _ _ ?_; clear hK)
  simp
end Go.T1
end

section
open Go Go.Ab Go.Proofs Go.RowKit
namespace Go.T1
/-- A world as it is handed in. -/
def E0 (W : World) : Env := ⟨W, [], fun _ => 0, fun _ => False⟩
theorem relX_of {W : World} {b : Nat} : ∀ (xs : List AV) (cs : List Value) (o : Nat), (∀ i, i < cs.length → W.cell? ⟨b, o + i, none⟩ = cs[i]?) → RelC T (E0 W) xs cs → RelX T (E0 W) b o xs
  | [], _, _, _, _ => by simp only [RelX]
  | x :: xs, cs, o, h, hr => by
    simp only [RelC] at hr
    obtain ⟨v, r, rfl, h1, h2, h3⟩ := hr
    simp only [RelX]
    refine ⟨⟨v, by show W.cell? _ = _; simpa using h 0 (by simp), h1, h2⟩, relX_of xs r (o + 1) (fun i hi => ?_) h3⟩
    have := h (i + 1) (by simp; omega)
    rw [show o + 1 + i = o + (i + 1) by omega, this]; simp
theorem relM_of {W : World} {b k : Nat} : ∀ (L : List (List AV)) (o : Nat), (∀ i (h : i < L.length), L[i].length = k ∧ RelX T (E0 W) b (o + i * k) L[i]) → RelM T (E0 W) b k o L
  | [], _, _ => by simp only [RelM]
  | e :: L, o, h => by
    simp only [RelM]
    have h0 := h 0 (by simp)
    refine ⟨h0.1, by simpa using h0.2, relM_of L (o + k) fun i hi => ?_⟩
    have := h (i + 1) (by simp; omega)
    simp only [List.getElem_cons_succ] at this
    rw [show o + k + i * k = o + (i + 1) * k by rw [Nat.add_mul]; omega]
    exact this
theorem weightsAll_mem {H : Type} {P : Program} {e : TypeId} : ∀ {l : List (DataW H)} {d : DataW H}, d ∈ l → ∀ n ∈ d.weights P e, n ∈ DataW.weightsAll P e l
  | x :: xs, d, hd, n, hn => by
    simp only [DataW.weightsAll, List.mem_append]
    rcases List.mem_cons.1 hd with rfl | hd
    · exact .inl hn
    · exact .inr (weightsAll_mem hd n hn)
theorem cellsOf24 : Try.prog.cellsOf 24 = 4 := by kernel_rfl
theorem cellsOf22 : Try.prog.cellsOf 22 = 1 := by kernel_rfl
theorem cellsOf3 : Try.prog.cellsOf 3 = 1 := by kernel_rfl
theorem cellsOf9 : Try.prog.cellsOf 9 = 1 := by kernel_rfl
theorem bytesOf24 : Try.prog.bytesOf 24 = 56 := by kernel_rfl
theorem add_add (b off i j : Nat) : ((⟨b, off, none⟩ : Addr).add i).add j = ⟨b, off + i + j, none⟩ := by
  unfold Addr.add
  by_cases hi : i = 0
  · subst hi
    by_cases hj : j = 0
    · subst hj; rfl
    · simp [hj]
  · by_cases hj : j = 0
    · subst hj; simp [hi]
    · simp [hi, hj]
theorem cell_lt {W : World} {a : Addr} {v : Value} (h : W.cell? a = some v) : a.block < W.heap.size ∧ a.spot = none := by
  unfold World.cell? at h
  split at h
  · rename_i c _ _ hb
    refine ⟨(Array.getElem?_eq_some_iff.1 hb).1, ?_⟩
    split at h
    · cases h
    · rename_i hs; cases hsp : a.spot with
      | none => rfl
      | some _ => rw [hsp] at hs; exact absurd rfl hs
  · cases h

section
variable {H : Type} {enc : TypeId × Value → H} {W : World} {sp : Nat → Bool}

theorem niceL_of : ∀ {l : List Tm}, (∀ t ∈ l, t.nice) → Tm.niceL l
  | [], _ => trivial
  | t :: ts, h => ⟨h t (by simp), niceL_of fun x hx => h x (by simp [hx])⟩

theorem open_sl {n : Nat} (ih : ∀ m, m ≤ n → ∀ cs (d : DataW H) ps, DataW.trod enc Try.prog W 0 sp true m 24 cs = some (d, ps) → (∀ k ∈ d.weights Try.prog 24, k ≤ reachBytes) → ∃ t : Tm, RelC T (E0 W) (t.cells 24) cs ∧ t.nice)
    {fuel : Nat} (hf : fuel ≤ n + 1) {cs : List Value} {d : DataW H} {ps : List MemPlace} (h : DataW.trod enc Try.prog W 0 sp true fuel 22 cs = some (d, ps)) (hw : ∀ k ∈ d.weights Try.prog 22, k ≤ reachBytes) :
    ∃ (l : List Tm) (v : Value), cs = [v] ∧ v.oneCell' = true ∧ Rel T (E0 W) (.lst 24 (Tm.cellsL 24 l)) v ∧ Tm.niceL l := by
  rcases DataW.trod_slice Try.underlying22 h with ⟨rfl, hx⟩ | ⟨a, len, cap, elems, rest, m, rfl, rfl, hx, hb, hl, hm, hlen, hel, _, _⟩
  · refine ⟨[], _, rfl, rfl, ?_, trivial⟩
    simp only [Rel, Tm.cellsL]
    exact ⟨by simp, by simp, _, _, rfl, .inl trivial⟩
  · cases hx
    simp only [DataW.weights, Try.underlying22, List.mem_cons, List.mem_append, bytesOf24] at hw
    have hw0 := hw _ (.inl rfl)
    simp only [List.length_map] at hw0
    have hreach : reachBytes = 140737488351232 := by decide
    rw [hreach] at hw0
    rw [cellsOf24] at hel
    have key : ∀ i, i < len → ∃ t : Tm, (∃ cs', W.cells? 0 (a.add (i * 4)) 4 = some cs' ∧ RelC T (E0 W) (t.cells 24) cs') ∧ t.nice := by
      intro i hi
      have := hel i hi
      rw [List.getElem?_eq_getElem (by omega)] at this
      obtain ⟨cs', h1, h2⟩ := Option.bind_eq_some_iff.1 this
      obtain ⟨t, h3, h4⟩ := ih m (by omega) cs' elems[i].1 elems[i].2 h2 (fun k hk => hw k (.inr (.inl (weightsAll_mem (List.mem_map.2 ⟨_, List.getElem_mem (by omega), rfl⟩) k hk))))
      exact ⟨t, ⟨cs', h1, h3⟩, h4⟩
    have hch : ∃ f : Nat → Tm, ∀ i, i < len → (∃ cs', W.cells? 0 (a.add (i * 4)) 4 = some cs' ∧ RelC T (E0 W) ((f i).cells 24) cs') ∧ (f i).nice :=
      ⟨fun i => if hi : i < len then (key i hi).choose else Tm.zero, fun i hi => by simp only [dif_pos hi]; exact (key i hi).choose_spec⟩
    obtain ⟨f, hf'⟩ := hch
    refine ⟨(List.range len).map f, _, rfl, rfl, ?_, niceL_of fun t ht => ?_⟩
    · simp only [Rel]
      have h56 : T.bytes 24 = 56 := by simp [Tab.bytes]
      have h4 : T.cells 24 = 4 := by simp [Tab.cells]
      refine ⟨by simp [h56]; omega, by simp; unfold maxLen; omega, some a, cap, by simp, ?_⟩
      rcases Nat.eq_zero_or_pos len with h0 | h0
      · left; subst h0; rfl
      · right
        obtain ⟨⟨cs', k1, k2⟩, _⟩ := hf' 0 h0
        obtain ⟨_, k3, k4⟩ := World.cells?_some k1
        have k5 := k4 0 (by omega)
        rw [List.getElem?_eq_getElem (by omega)] at k5
        have k6 := cell_lt k5
        obtain ⟨b, off, spot⟩ := a
        have hs : spot = none := by simpa [Addr.add] using k6.2
        subst hs
        have hbl : b < W.heap.size := by simpa [Addr.add] using k6.1
        refine ⟨b, off, rfl, ⟨hbl, ?_⟩, ?_⟩
        · rintro (hm | ⟨id, blk, hm, _⟩)
          · exact hm
          · simp [E0] at hm
        · rw [h4]
          refine relM_of _ _ fun i hi => ?_
          simp only [Tm.cellsL_len, List.length_map, List.length_range] at hi
          obtain ⟨⟨cs', k1, k2⟩, _⟩ := hf' i hi
          obtain ⟨_, k3, k4⟩ := World.cells?_some k1
          simp only [Tm.cellsL_getElem, List.getElem_map, List.getElem_range]
          refine ⟨by simp, relX_of _ cs' _ (fun j hj => ?_) k2⟩
          rw [← k4 j (by omega), add_add]
    · obtain ⟨i, hi, rfl⟩ := List.mem_map.1 ht
      exact (hf' i (List.mem_range.1 hi)).2

theorem open_tm : ∀ fuel cs (d : DataW H) ps, DataW.trod enc Try.prog W 0 sp true fuel 24 cs = some (d, ps) → (∀ k ∈ d.weights Try.prog 24, k ≤ reachBytes) → ∃ t : Tm, RelC T (E0 W) (t.cells 24) cs ∧ t.nice := by
  intro fuel
  induction fuel using Nat.strongRecOn with
  | _ fuel ih =>
    intro cs d ps h hw
    obtain ⟨xs, n, rfl, hx, hlen, hxs, hf⟩ := DataW.trod_struct Try.underlying24 h
    cases hx
    rw [cellsOf24] at hlen
    match cs, hlen with
    | [c0, c1, c2, c3], _ =>
    match xs, hxs with
    | [x0, x1, x2, x3], _ =>
    have f0 := hf 0 _ rfl
    have f1 := hf 1 _ rfl
    have f2 := hf 2 _ rfl
    have f3 := hf 3 _ rfl
    simp [cellsOf3, cellsOf9, cellsOf22] at f0 f1 f2 f3
    simp only [DataW.weights, Try.underlying24] at hw
    simp [DataW.weightsEach] at hw
    obtain ⟨k, e0, rfl, _⟩ := DataW.trod_int Try.underlying3 f0
    obtain ⟨m, e1, rfl, _⟩ := DataW.trod_int Try.underlying3 f1
    obtain ⟨s, e2, rfl, hs⟩ := DataW.trod_string Try.underlying9 f2
    cases e0; cases e1; cases e2
    obtain ⟨l, v, e3, hv1, hv2, hv3⟩ := open_sl (n := n) (fun m hm => ih m (by omega)) (fuel := n) (by omega) f3 (fun q hq => hw q (by simp [hq]))
    cases e3
    refine ⟨.mk k m s l, ?_, ?_⟩
    · simp only [Tm.cells, RelC, Rel]
      exact ⟨_, _, rfl, ⟨rfl, rfl⟩, rfl, _, _, rfl, ⟨rfl, rfl⟩, rfl, _, _, rfl, ⟨rfl, rfl⟩, rfl, _, _, rfl, by simpa only [Rel] using hv2, hv1, rfl⟩
    · have : s.data.toList.length ≤ reachBytes := hw _ (by simp [DataW.weights])
      have hreach : reachBytes = 140737488351232 := by decide
      have e : s.data.toList.length = s.size := by rw [Array.length_toList]; rfl
      exact ⟨by omega, hv3⟩
end
end Go.T1
end

section
open Go Go.Ab Go.Proofs Go.RowKit Go.ChangeShapes Go.WideShapes Go.ChangeAt
namespace Go.T1
section
variable {H : Type} {enc : TypeId × Value → H} {W : World} {sp : Nat → Bool}
theorem trod_tm {v : Value} {d : DataW H} {p : List MemPlace} (h : DataW.Trod enc Try.prog W 0 sp true 24 v d p) (hw : ∀ k ∈ d.weights Try.prog 24, k ≤ reachBytes) : ∃ t : Tm, Rel T (E0 W) (t.av 24) v ∧ t.nice := by
  obtain ⟨fuel, h⟩ := h
  obtain ⟨t, h1, h2⟩ := open_tm fuel _ _ _ h hw
  refine ⟨t, ?_, h2⟩
  have hl := RelC.len _ _ h1
  rw [Tm.cells_len] at hl
  cases v with
  | agg cs => simp only [Rel]; exact ⟨cs.toList, by simp, h1⟩
  | _ => simp [Value.cells] at hl
theorem trod_sl {v : Value} {d : DataW H} {p : List MemPlace} {base : Nat} (hok : Value.okWide Try.prog W .any base 22 v) (h : DataW.Trod enc Try.prog W 0 sp true 22 v d p) (hw : ∀ k ∈ d.weights Try.prog 22, k ≤ reachBytes) : ∃ l : List Tm, Rel T (E0 W) (.lst 24 (Tm.cellsL 24 l)) v ∧ Tm.niceL l := by
  obtain ⟨fuel, h⟩ := h
  obtain ⟨l, v', h1, h2, h3, h4⟩ := open_sl (n := fuel) (fun m _ => open_tm m) (fuel := fuel) (by omega) h hw
  refine ⟨l, ?_, h4⟩
  have hv : v.cells = #[v] := by
    unfold Value.okWide at hok
    rw [Try.underlying22] at hok
    cases v with
    | agg cs => simp [Cell.okWide, Cell.ok, Try.underlying22] at hok
    | _ => rfl
  rw [hv] at h1
  simp at h1
  rw [h1]; exact h3
theorem trod_it {v : Value} {d : DataW H} {p : List MemPlace} (hok : Value.okWide Try.prog W .any 0 3 v) (h : DataW.Trod enc Try.prog W 0 sp true 3 v d p) : ∃ n : Int, Rel T (E0 W) (.sc (.int .i64 n)) v ∧ (Lit.int .i64 n).wf = true := by
  obtain ⟨n, rfl, rfl, rfl, h2⟩ := open_int Try.underlying3 hok h
  exact ⟨n, by simp only [Rel]; exact ⟨trivial, rfl⟩, h2⟩
theorem trod_st {v : Value} {d : DataW H} {p : List MemPlace} {base : Nat} (hok : Value.okWide Try.prog W .any base 9 v) (h : DataW.Trod enc Try.prog W 0 sp true 9 v d p) : ∃ s : ByteArray, Rel T (E0 W) (.sc (.string s)) v := by
  obtain ⟨s, rfl, rfl, rfl, h2⟩ := Go.ChangeMaps.open_string Try.underlying9 hok h
  exact ⟨s, by simp only [Rel]; exact ⟨trivial, rfl⟩⟩
theorem own : ownKnob Try.prog.godebug = none := by kernel_rfl
theorem laidOut : laidOutB Try.prog = true := by kernel_rfl
/-- A call that needs no memory of the caller's. -/
theorem callW {f : FuncId} {args : List AV} (h : PureCall T Try.prog f args (.sc (.bool true))) {vs : List Value} (hr : RelL T (E0 W) args vs) :
    Calls Try.prog f vs.toArray W fun e W' => e = .returned (.bool true) ∧ Below W.heap.size W W' := by
  refine (h.call W (fun _ => False) vs (fun _ h => h.elim) hr).mono ?_
  rintro e W' ⟨u, rfl, h1, h2⟩
  simp only [Rel] at h2
  rw [h2.1]; exact ⟨rfl, h1⟩
theorem wEach {ts : List TypeId} {ds : List (DataW H)} (hz : (DataW.weightsEach Try.prog ts ds).all (· ≤ reachBytes) = true) {j : Nat} {t : TypeId} {d : DataW H} (ht : ts[j]? = some t) (hd : ds[j]? = some d) : ∀ k ∈ d.weights Try.prog t, k ≤ reachBytes := by
  intro k hk
  have := List.all_eq_true.1 hz _ (DataW.weights_mem_each ht hd k hk)
  simpa using this
/-- An argument reads as it did. -/
theorem argW {t : TypeId} {W' : World} {v : Value} {d : DataW H} {ps : List MemPlace} (hr : Try.prog.readableRec t = true) (ht : t < Try.prog.types.size)
    (h : DataW.Trod enc Try.prog W 0 (fun _ => true) true t v d ps) (hb : Below W.heap.size W W') (hlt : ∀ x ∈ ps, x.block < W.heap.size) : DataW.Trod enc Try.prog W' 0 (fun b => decide (b < W.heap.size)) true t v d ps :=
  Below.trod laidOut hr ht h hb hlt
end
end Go.T1
end
