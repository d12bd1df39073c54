/- Contracts of the functions of package order, of what it asks of package term, and of its answer: each at every term of a size that is bounded. -/
import Derived.Test.YtpllabldiimikaaW3
import Derived.Test.YtpllabldiimikaaRows
import Derived.KernelRfl
import Derived.SizedLaws
import Derived.Carry
import Derived.ProofKit
import Derived.OpenShut
import Derived.JoinedOf
import Derived.ChangeSame
set_option linter.unusedSimpArgs false
set_option linter.unusedVariables false
set_option linter.unusedSectionVars false
set_option linter.unnecessarySimpa false
section
open Go Go.Ab Go.Proofs
namespace Go.T1
noncomputable abbrev T : Tab := tabOf Try.prog
theorem hT : TabOk T Try.prog := tabOf_ok _
@[simp] theorem ty3 : T 3 = some ⟨1, 8, .int .i64, [], some (.int .i64 0)⟩ := by kernel_rfl
@[simp] theorem ty27 : T 27 = some ⟨1, 8, .int .i64, [], some (.int .i64 0)⟩ := by kernel_rfl
@[simp] theorem ty4 : T 4 = some ⟨1, 1, .bool, [], some (.bool false)⟩ := by kernel_rfl
@[simp] theorem ty9 : T 9 = some ⟨1, 16, .str, [], some (.string .empty)⟩ := by kernel_rfl
@[simp] theorem ty22 : T 22 = some ⟨1, 24, .slice 24, [], some (.slice none 0 0)⟩ := by kernel_rfl
@[simp] theorem ty24 : T 24 = some ⟨4, 56, .strct, [(0,1),(1,1),(2,1),(3,1)], some (.agg #[.int .i64 0, .int .i64 0, .string .empty, .slice none 0 0])⟩ := by kernel_rfl
@[simp] theorem ty55 : T 55 = some ⟨3, 24, .strct, [(0,1),(1,1),(2,1)], some (.agg #[.int .i64 0, .int .i64 0, .bool false])⟩ := by kernel_rfl
theorem follows : Try.prog.follows .mixedOrders = true := by kernel_rfl
end Go.T1
end

section
open Go Go.Ab Go.Proofs
namespace Go.T1
set_option maxRecDepth 100000 in
theorem bare_c (k n : Int) (s : ByteArray) (l : List Tm) : PureCall T Try.prog 57 [(Tm.mk k n s l).av 24] (.sc (.bool (decide (s = ⟨#[]⟩) && decide (l.length = 0)))) := by
  refine PureCall.of_vc hT [] [] follows Try.call57 Try.func57 rfl (by kernel_rfl) (by simp [AV.pure, AV.pureL]) rfl ?_
  unfold Try.f57
  simp [Tm.cells]

set_option maxRecDepth 100000 in
theorem refpart_c (k n : Int) (s : ByteArray) (l : List Tm) : PureCall T Try.prog 52 [(Tm.mk k n s l).av 24] (.sc (.bool (partB k n s l.length))) := by
  generalize hr : partB k n s l.length = r
  refine PureCall.of_vc hT [] [] follows Try.call52 Try.func52 rfl (by kernel_rfl) (by simp [AV.pure, AV.pureL]) rfl ?_
  unfold Try.f52
  simp [Tm.cells]
  subst hr
  unfold partB
  refine ⟨fun h _ => by simp [h], fun h1 => ⟨fun h _ => by simp [h], fun h2 => ⟨fun h _ => by simp [h], fun h3 => ⟨fun h _ _ => by simp [h], fun h4 => by simp [*]⟩⟩⟩⟩

set_option maxRecDepth 100000 in
theorem part_c (k n : Int) (s : ByteArray) (l : List Tm) : PureCall T Try.prog 55 [(Tm.mk k n s l).av 24] (.sc (.bool (partB k n s l.length))) := by
  generalize hr : partB k n s l.length = r
  refine PureCall.of_vc hT [] [] follows Try.call55 Try.func55 rfl (by kernel_rfl) (by simp [AV.pure, AV.pureL]) rfl ?_
  unfold Try.f55
  simp [Tm.cells]
  refine ⟨fun h => vcCall_at (bare_c k n s l) ?_, fun h1 => ⟨fun h => vcCall_at (bare_c k n s l) ?_, fun h2 => ⟨fun h _ => by subst hr; simp [h, partB], fun h3 => ⟨fun h _ _ => by subst hr; simp [h, partB], fun h4 => by subst hr; simp [partB, *]⟩⟩⟩⟩
  · simp
    subst hr; simp [h, partB, Bool.and_assoc]
  · simp
    subst hr; simp [h, partB, Bool.and_assoc]

/-- What is counted. -/
def cntB (p d : Int) (b : Bool) : Blk := .cells [.sc (.int .i64 p), .sc (.int .i64 d), .sc (.bool b)]

set_option maxRecDepth 100000 in
theorem count_c : ∀ (t : Tm) (p d dep : Int) (b : Bool) (id : Nat) (st : St), st[id]? = some (cntB p d b) → 0 ≤ p → p + t.size ≤ 1000000000 → 0 ≤ dep → dep + t.depth ≤ 1000000000 →
    ICall T Try.prog 49 [.ptr id 0, t.av 24, .sc (.int .i64 dep)] st (fun r st' => r = .tup [] ∧ st' = st.set id (cntB (p + t.size) (max d (dep + t.depth - 1)) (b || !t.right))) := by
  refine Tm.ind fun k n s l ih => ?_
  intro p d dep b id st hid hp hps hdep hdd
  have hidl : id < st.length := (List.getElem?_eq_some_iff.1 hid).1
  refine ICall.of_vc hT [] [(7, 4)] follows Try.call49 Try.func49 rfl (by kernel_rfl) fun hfix => ?_
  unfold Try.f49
  have hset : ∀ b, (st.set id b)[id]? = some b := fun b => by simp [hidl]
  unfold cntB at hid
  clear hidl
  simp [Tm.cells, hid, hset, cntB]
  simp only [Tm.size, Tm.depth] at hps hdd
  have hb1 := Tm.depthL_le_sizeL l
  refine ⟨by unfold i64ok; omega, vcCall_at (part_c k n s l) ?_⟩
  simp [hid, hset]
  intro hl1 hl2
  refine vcC_loop [] (fun m σ st' => ∃ i : Nat, m = l.length - i ∧ i ≤ l.length ∧ σ 0 = .ptr id 0 ∧ σ 2 = .sc (.int .i64 dep) ∧ σ 37 = .lst 24 (Tm.cellsL 24 l) ∧ σ 38 = .sc (.int .i64 l.length) ∧ σ 39 = .sc (.int .i64 i) ∧
    st' = st.set id (cntB (p + 1 + Tm.sizeL (l.take i)) (max (max d dep) (dep + Tm.depthL (l.take i))) ((b || !partB k n s l.length) || !Tm.rightL (l.take i)))) l.length ⟨0, by simp, by simp, by simp, by simp, by simp, by simp, by simp, ?_⟩ ?_
  · simp [Tm.sizeL, Tm.depthL, Tm.rightL, cntB]
  rintro m σ st' ⟨i, rfl, hi, s0, s2, s37, s38, s39, rfl⟩
  rcases Nat.lt_or_ge i l.length with hlt | hge
  · have h1 := Tm.size_get hlt
    have h2 := Tm.sizeL_take_le l i
    have h3 := Tm.depthL_take_le l (i + 1)
    rw [Tm.depthL_take hlt] at h3
    have h4 := Tm.depth_le_size l[i]
    simp [s0, s2, s37, s38, s39, hlt]
    refine ⟨by unfold i64ok; omega, vcICall_of (ih l[i] (List.getElem_mem hlt) _ _ _ _ id _ (hset _) (by omega) (by omega) (by omega) (by omega)) ?_⟩
    rintro r st' ⟨rfl, rfl⟩ _
    simp [s0, s2, s37, s38, s39]
    refine ⟨by unfold i64ok; omega, l.length - (i + 1), by omega, i + 1, rfl, by omega, by omega, ?_⟩
    rw [Tm.sizeL_take hlt, Tm.depthL_take hlt, Tm.rightL_take hlt]
    congr 2
    · omega
    · omega
    · simp [Bool.or_assoc]
  · simp [s0, s2, s37, s38, s39, Nat.not_lt.2 hge]
    refine endP_mk (.tup []) (by simp) (by simp) ⟨rfl, ?_⟩
    have hi : i = l.length := by omega
    subst hi
    rw [cutSt_set0 hfix]
    have e1 : p + 1 + (Tm.sizeL l : Int) = p + (1 + Tm.sizeL l) := by omega
    have e2 : max d (max dep (dep + (Tm.depthL l : Int))) = max d (dep + (Tm.depthL l + 1) - 1) := by omega
    simp [cntB, Tm.size, Tm.depth, Tm.right, e1, e2, Bool.or_assoc]

set_option maxRecDepth 100000 in
theorem measure_c (t : Tm) (ht : t.small) : PureCall T Try.prog 39 [t.av 24] (.agg [.sc (.int .i64 t.size), .sc (.int .i64 t.depth), .sc (.bool (!t.right))]) := by
  unfold Tm.small at ht
  refine PureCall.of_vc hT [] [(2, 1)] follows Try.call39 Try.func39 rfl (by kernel_rfl) (by simp [AV.pure, AV.pureL]) rfl ?_
  unfold Try.f39
  have h1 := Tm.depth_le_size t
  have h2 := Tm.depth_pos t
  simp
  refine vcICall_of (count_c t 0 0 1 false 1 _ (by simp [cntB]) (by omega) (by omega) (by omega) (by omega)) ?_
  rintro r st' ⟨rfl, rfl⟩ _
  simp [cntB]
  omega

set_option maxRecDepth 100000 in
theorem check_c (t : Tm) (ht : t.small) : PureCall T Try.prog 27 [t.av 24] (.sc (.int .i64 t.check)) := by
  generalize hr : t.check = r
  refine PureCall.of_vc hT [] [] follows Try.call27 Try.func27 rfl (by kernel_rfl) (by simp [AV.pure, AV.pureL]) rfl ?_
  unfold Try.f27
  simp
  refine vcCall_at (measure_c t ht) ?_
  simp
  unfold Tm.check at hr
  refine ⟨fun h => by rw [if_pos h] at hr; exact hr, fun h => ?_⟩
  rw [if_neg (by simp [h])] at hr
  refine ⟨fun h1 => by rw [if_pos (by omega)] at hr; exact hr, fun h1 => ?_⟩
  rw [if_neg (by omega)] at hr
  exact ⟨fun h2 => by rw [if_pos (by omega)] at hr; exact hr, fun h2 => by rw [if_neg (by omega)] at hr; exact hr⟩

set_option maxRecDepth 100000 in
theorem may_c (t : Tm) (ht : t.small) : PureCall T Try.prog 45 [t.av 24] (.sc (.bool (decide (t.check = 0)))) := by
  refine PureCall.of_vc hT [] [] follows Try.call45 Try.func45 rfl (by kernel_rfl) (by simp [AV.pure, AV.pureL]) rfl ?_
  unfold Try.f45
  simp
  refine vcCall_at (check_c t ht) ?_
  simp

set_option maxRecDepth 100000 in
theorem exact_c : ∀ a b : Tm, PureCall T Try.prog 21 [a.av 24, b.av 24] (.sc (.bool (decide (a = b)))) := by
  refine Tm.ind fun k n s l ih => ?_
  rintro ⟨k', n', s', l'⟩
  generalize hr : decide (Tm.mk k n s l = Tm.mk k' n' s' l') = r
  refine PureCall.of_vc hT [] [] follows Try.call21 Try.func21 rfl (by kernel_rfl) (by simp [AV.pure, AV.pureL]) rfl ?_
  unfold Try.f21
  simp [Tm.cells]
  intro hb1 hb2
  refine ⟨fun h => ?_, fun h1 h2 h3 h4 => ?_⟩
  · subst hr; simp; rintro rfl rfl rfl rfl; simp at h
  · subst h1 h2 h3
    have hb1 := hb1 rfl rfl rfl
    have hlen : l.length = l'.length := by omega
    refine vcC_loop [] (fun m σ st => ∃ i : Nat, m = l.length - i ∧ i ≤ l.length ∧ l.take i = l'.take i ∧ σ 2 = .eptr [.sc (.int .i64 k), .sc (.int .i64 n), .sc (.string s), .lst 24 (Tm.cellsL 24 l)] ∧
      σ 3 = .eptr [.sc (.int .i64 k), .sc (.int .i64 n), .sc (.string s), .lst 24 (Tm.cellsL 24 l')] ∧ σ 5 = .sc (.int .i64 i) ∧ st = []) l.length ⟨0, by simp⟩ ?_
    rintro m σ st ⟨i, rfl, hi, htk, s2, s3, s5, rfl⟩
    rcases Nat.lt_or_ge i l.length with hlt | hge
    · have hlt' : i < l'.length := hlen ▸ hlt
      simp [s2, s3, s5, hlt, hlt']
      refine fun _ _ => vcCall_at (ih l[i] (List.getElem_mem hlt) l'[i]) ?_
      simp [s2, s3, s5]
      refine ⟨fun hne => ?_, fun he => ⟨by simp [i64ok]; omega, l.length - (i + 1), by omega, i + 1, rfl, by omega, ?_, by simp⟩⟩
      · subst hr; simp; rintro rfl; exact hne rfl
      · rw [List.take_add_one, List.take_add_one, htk]; simp [hlt, hlt', he]
    · simp [s2, s3, s5, Nat.not_lt.2 hge]
      subst hr
      have : i = l.length := by omega
      subst this
      simp
      rw [List.take_of_length_le (by omega), List.take_of_length_le (by omega)] at htk
      exact fun _ _ => htk
end Go.T1
end

section
open Go Go.Ab Go.Proofs
namespace Go.T1
set_option maxRecDepth 100000 in
theorem Var_c (n : Int) : PureCall T Try.prog 47 [.sc (.int .i64 n)] ((Tm.mk 1 n ⟨#[]⟩ []).av 24) := by
  refine PureCall.of_vc hT [] [] follows Try.call47 Try.func47 rfl (by kernel_rfl) rfl rfl ?_
  unfold Try.f47
  simp [Tm.cells, Tm.cellsL]
  rfl
set_option maxRecDepth 100000 in
theorem rVar_c (n : Int) : PureCall T Try.prog 26 [.sc (.int .i64 n)] ((Tm.mk 1 n ⟨#[]⟩ []).av 24) := by
  refine PureCall.of_vc hT [] [] follows Try.call26 Try.func26 rfl (by kernel_rfl) rfl rfl ?_
  unfold Try.f26
  simp [Tm.cells, Tm.cellsL]
  rfl
set_option maxRecDepth 100000 in
theorem rInt_c (n : Int) : PureCall T Try.prog 23 [.sc (.int .i64 n)] ((Tm.mk 2 n ⟨#[]⟩ []).av 24) := by
  refine PureCall.of_vc hT [] [] follows Try.call23 Try.func23 rfl (by kernel_rfl) rfl rfl ?_
  unfold Try.f23
  simp [Tm.cells, Tm.cellsL]
  rfl
set_option maxRecDepth 100000 in
theorem rAtom_c (s : ByteArray) : PureCall T Try.prog 24 [.sc (.string s)] ((Tm.mk 3 0 s []).av 24) := by
  refine PureCall.of_vc hT [] [] follows Try.call24 Try.func24 rfl (by kernel_rfl) rfl rfl ?_
  unfold Try.f24
  simp [Tm.cells, Tm.cellsL]

/-- A compound, or an atom. -/
def compT (s : ByteArray) (l : List Tm) : Tm := if l = [] then .mk 3 0 s [] else .mk 4 0 s l

set_option maxRecDepth 100000 in
theorem rComp_c (s : ByteArray) (l : List Tm) : PureCall T Try.prog 25 [.sc (.string s), .lst 24 (Tm.cellsL 24 l)] ((compT s l).av 24) := by
  unfold compT
  refine PureCall.of_vc hT [] [] follows Try.call25 Try.func25 rfl (by kernel_rfl) (by simp [AV.pure, AV.pureL]) (by simp [AV.pure]) ?_
  unfold Try.f25
  simp
  intro h1 h2
  refine ⟨fun h => ?_, fun h => ?_⟩
  · subst h
    refine vcCall_at (rAtom_c s) ?_
    simp
  · rw [if_neg h]
    simp [Tm.cells, h1]

end Go.T1
end

section
open Go Go.Ab Go.Proofs
namespace Go.T1
set_option maxRecDepth 100000 in
theorem build_c (fn : FuncId) (fs cs : List AV) (hF : (AV.fn (.func fn) fs cs).pure = true) (f : Int → Tm) :
    ∀ t : Tm, (∀ n ∈ t.occ, PureCall T Try.prog fn (fs ++ .sc (.int .i64 n) :: cs) ((f n).av 24)) → PureCall T Try.prog 46 [t.av 24, .fn (.func fn) fs cs] ((t.sub f).av 24) := by
  refine Tm.ind fun k n s l ih => ?_
  intro hx
  refine PureCall.of_vc hT [5] [] follows Try.call46 Try.func46 rfl (by kernel_rfl) (by simp [AV.pure, AV.pureL]; simpa [AV.pure] using hF) (by simp [AV.pure]) ?_
  unfold Try.f46
  simp [Tm.cells]
  refine ⟨fun h => ?_, fun h => ?_⟩
  · refine vcCall_at (hx n (by simp [Tm.occ, h])) ?_
    simp [h, Tm.sub]
  · intro hl1 hl2
    refine vcC_loop [(24, .cell 1 3)] (fun m σ st => ∃ (i : Nat) (al : Bool), m = l.length - i ∧ i ≤ l.length ∧ σ 1 = .fn (.func fn) fs cs ∧ σ 4 = .ptr 0 0 ∧ σ 5 = .ptr 1 0 ∧ σ 23 = .lst 24 (Tm.cellsL 24 l) ∧
      σ 24 = .sc (.int .i64 l.length) ∧ σ 25 = .sc (.int .i64 i) ∧
      st = [.cells [.sc (.int .i64 0), .sc (.int .i64 0), .sc (.string .empty), .nils], .cells [.sc (.int .i64 k), .sc (.int .i64 n), .sc (.string s), .own 2 i], .row 24 i al (Tm.cellsL 24 (Tm.subL f (l.take i)))]) l.length ?_ ?_
    · simp [Tm.subL, Tm.cellsL]
      exact ⟨0, by simp, by simp, by simp, rfl, by simp [Tm.subL]⟩
    rintro m σ st ⟨i, al, rfl, hi, s1, s4, s5, s23, s24, s25, rfl⟩
    rcases Nat.lt_or_ge i l.length with hlt | hge
    · simp [s1, s4, s5, s23, s24, s25, hlt]
      refine vcCall_at (ih l[i] (List.getElem_mem hlt) fun m hm => hx m (by simp only [Tm.occ, if_neg h]; exact Tm.occ_mem (List.getElem_mem hlt) hm)) ?_
      simp [s1, s4, s5, s23, s24, s25]
      refine ⟨by rw [Nat.min_eq_left hi]; omega, by unfold i64ok; omega, l.length - (i + 1), by omega, i + 1, rfl, by omega, by omega, rfl, ?_⟩
      rw [Tm.subL_take hlt]
      simp [Tm.cellsL]
    · have hi : i = l.length := by omega
      subst hi
      simp [s1, s4, s5, s23, s24, s25]
      simp [Tm.sub, h, Tm.cells]
end Go.T1
end

section
open Go Go.Ab Go.Proofs
namespace Go.T1
set_option maxRecDepth 100000 in
theorem rright_c : ∀ t : Tm, PureCall T Try.prog 43 [t.av 24] (.sc (.bool t.right)) := by
  refine Tm.ind fun k n s l ih => ?_
  generalize hr : (Tm.mk k n s l).right = r
  simp only [Tm.right] at hr
  refine PureCall.of_vc hT [] [] follows Try.call43 Try.func43 rfl (by kernel_rfl) (by simp [AV.pure, AV.pureL]) rfl ?_
  unfold Try.f43
  simp [Tm.cells]
  refine vcCall_at (refpart_c k n s l) ?_
  simp
  refine ⟨fun h => by simp [h] at hr; exact hr.symm ▸ rfl, fun h => ?_⟩
  rw [h, Bool.true_and] at hr
  refine vcC_loop [] (fun m σ st => ∃ i : Nat, m = l.length - i ∧ i ≤ l.length ∧ Tm.rightL (l.take i) = true ∧ σ 1 = .eptr [.sc (.int .i64 k), .sc (.int .i64 n), .sc (.string s), .lst 24 (Tm.cellsL 24 l)] ∧
    σ 3 = .sc (.int .i64 i) ∧ st = []) l.length ⟨0, by simp [Tm.rightL]⟩ ?_
  rintro m σ st ⟨i, rfl, hi, htk, s1, s3, rfl⟩
  rcases Nat.lt_or_ge i l.length with hlt | hge
  · simp [s1, s3, hlt]
    refine fun hb1 hb2 => vcCall_at (ih l[i] (List.getElem_mem hlt)) ?_
    simp [s1, s3]
    have h2 : Tm.rightL (l.take (i + 1)) = l[i].right := by rw [Tm.rightL_take hlt, htk, Bool.true_and]
    refine ⟨fun hf => ?_, fun ht => ⟨by unfold i64ok; omega, l.length - (i + 1), by omega, i + 1, rfl, by omega, by rw [h2]; exact ht, by omega⟩⟩
    rw [← hr, ← List.take_append_drop (i + 1) l, Tm.rightL_append, h2, hf]; rfl
  · have hi : i = l.length := by omega
    subst hi
    simp [s1, s3]
    rw [List.take_length] at htk
    rw [← hr, htk]
    exact fun _ _ => rfl

set_option maxRecDepth 100000 in
theorem rDepth_c : ∀ t : Tm, t.small → PureCall T Try.prog 44 [t.av 24] (.sc (.int .i64 t.depth)) := by
  refine Tm.ind fun k n s l ih => ?_
  intro hs
  have hsm : 1 + Tm.sizeL l ≤ 900000000 := hs
  have hds := Tm.depthL_le_sizeL l
  refine PureCall.of_vc hT [] [] follows Try.call44 Try.func44 rfl (by kernel_rfl) (by simp [AV.pure, AV.pureL]) rfl ?_
  unfold Try.f44
  simp [Tm.cells]
  refine vcC_loop [] (fun m σ st => ∃ i : Nat, m = l.length - i ∧ i ≤ l.length ∧ σ 1 = .eptr [.sc (.int .i64 k), .sc (.int .i64 n), .sc (.string s), .lst 24 (Tm.cellsL 24 l)] ∧
    σ 4 = .sc (.int .i64 i) ∧ σ 3 = .sc (.int .i64 (Tm.depthL (l.take i))) ∧ st = []) l.length ⟨0, by simp [Tm.depthL]⟩ ?_
  rintro m σ st ⟨i, rfl, hi, s1, s4, s3, rfl⟩
  rcases Nat.lt_or_ge i l.length with hlt | hge
  · have h1 := Tm.size_get hlt
    simp [s1, s3, s4, hlt]
    refine fun hb1 hb2 => vcCall_at (ih l[i] (List.getElem_mem hlt) (by unfold Tm.small; omega)) ?_
    simp [s1, s3, s4]
    have h2 := Tm.depthL_take hlt
    exact ⟨fun hf => ⟨by unfold i64ok; omega, l.length - (i + 1), by omega, i + 1, rfl, by omega, by omega, by omega⟩, fun hf => ⟨by unfold i64ok; omega, l.length - (i + 1), by omega, i + 1, rfl, by omega, by omega, by omega⟩⟩
  · have hi : i = l.length := by omega
    subst hi
    simp [s1, s3, s4, Tm.depth]
    intro _ _
    unfold i64ok; omega

set_option maxRecDepth 100000 in
theorem rSize_c : ∀ t : Tm, t.small → PureCall T Try.prog 30 [t.av 24] (.sc (.int .i64 t.size)) := by
  refine Tm.ind fun k n s l ih => ?_
  intro hs
  have hsm : 1 + Tm.sizeL l ≤ 900000000 := hs
  refine PureCall.of_vc hT [] [] follows Try.call30 Try.func30 rfl (by kernel_rfl) (by simp [AV.pure, AV.pureL]) rfl ?_
  unfold Try.f30
  simp [Tm.cells]
  refine vcC_loop [] (fun m σ st => ∃ i : Nat, m = l.length - i ∧ i ≤ l.length ∧ σ 1 = .eptr [.sc (.int .i64 k), .sc (.int .i64 n), .sc (.string s), .lst 24 (Tm.cellsL 24 l)] ∧
    σ 4 = .sc (.int .i64 i) ∧ σ 3 = .sc (.int .i64 (1 + Tm.sizeL (l.take i))) ∧ st = []) l.length ⟨0, by simp [Tm.sizeL]⟩ ?_
  rintro m σ st ⟨i, rfl, hi, s1, s4, s3, rfl⟩
  rcases Nat.lt_or_ge i l.length with hlt | hge
  · have h1 := Tm.size_get hlt
    simp [s1, s3, s4, hlt]
    refine fun hb1 hb2 => vcCall_at (ih l[i] (List.getElem_mem hlt) (by unfold Tm.small; omega)) ?_
    simp [s1, s3, s4]
    have h2 := Tm.sizeL_take hlt
    exact ⟨by unfold i64ok; omega, by unfold i64ok; omega, l.length - (i + 1), by omega, i + 1, rfl, by omega, by omega, by omega⟩
  · have hi : i = l.length := by omega
    subst hi
    simp [s1, s3, s4, Tm.size]

set_option maxRecDepth 100000 in
theorem rCheck_c (t : Tm) (ht : t.small) : PureCall T Try.prog 29 [t.av 24] (.sc (.int .i64 t.check)) := by
  generalize hr : t.check = r
  unfold Tm.check at hr
  refine PureCall.of_vc hT [] [] follows Try.call29 Try.func29 rfl (by kernel_rfl) (by simp [AV.pure, AV.pureL]) rfl ?_
  unfold Try.f29
  simp
  refine vcCall_at (rright_c t) ?_
  simp
  refine ⟨fun h => by rw [if_pos h] at hr; exact hr, fun h => ?_⟩
  rw [if_neg (by simp [h])] at hr
  refine vcCall_at (rDepth_c t ht) ?_
  simp
  refine ⟨fun h1 => by rw [if_pos (by omega)] at hr; exact hr, fun h1 => ?_⟩
  rw [if_neg (by omega)] at hr
  refine vcCall_at (rSize_c t ht) ?_
  simp
  exact ⟨fun h2 => by rw [if_pos (by omega)] at hr; exact hr, fun h2 => by rw [if_neg (by omega)] at hr; exact hr⟩
end Go.T1
end

section
open Go Go.Ab Go.Proofs
namespace Go.T1
set_option maxRecDepth 100000 in
theorem Clone_c (t : Tm) (ht : t.small) : PureCall T Try.prog 32 [t.av 24] ((if t.check = 0 then t else Tm.zero).av 24) := by
  refine PureCall.of_vc hT [] [] follows Try.call32 Try.func32 rfl (by kernel_rfl) (by simp [AV.pure, AV.pureL]) (by simp [AV.pure]) ?_
  unfold Try.f32
  simp
  refine vcCall_at (may_c t ht) ?_
  simp
  refine ⟨fun h => ?_, fun h => ?_⟩
  · rw [if_neg h]; simp [Tm.zero, Tm.cells, Tm.cellsL]; rfl
  · refine vcCall_at (build_c 47 [] [] rfl Tm.var t fun n _ => Var_c n) ?_
    simp [h, Tm.sub_var t (Tm.right_of_check h)]

/-- What a variable is replaced by. -/
def repF (l : List Tm) (n : Int) : Tm := if h : n.toNat < l.length then l[n.toNat] else Tm.var n

end Go.T1
end

section
open Go Go.Ab Go.Proofs
namespace Go.T1
/-- What Replace hands back. -/
def replT (t : Tm) (l : List Tm) : Tm :=
  if t.check = 0 ∧ (∀ x ∈ l, x.check = 0) ∧ (t.sub (repF l)).check = 0 then t.sub (repF l) else Tm.zero

theorem rightL_mem {l : List Tm} (h : Tm.rightL l = true) : ∀ x ∈ l, x.right = true := by
  induction l with
  | nil => intro x hx; cases hx
  | cons y ys ih =>
    simp only [Tm.rightL, Bool.and_eq_true] at h
    intro x hx
    rcases List.mem_cons.1 hx with rfl | hx
    · exact h.1
    · exact ih h.2 x hx

end Go.T1
end

section
open Go Go.Ab Go.Proofs
namespace Go.T1
set_option maxRecDepth 100000 in
theorem large_c : ∀ (t : Tm) (d n : Int) (id : Nat) (st : St), t.nice → st[id]? = some (.cells [.sc (.int .i64 n)]) → 0 ≤ n → n ≤ 6000 → 0 ≤ d → d ≤ 301 →
    ICall T Try.prog 22 [t.av 24, .sc (.int .i64 d), .ptr id 0] st (fun r st' => r = .sc (.bool (t.lg d n).1) ∧ st' = st.set id (.cells [.sc (.int .i64 (t.lg d n).2)])) := by
  refine Tm.ind fun k n0 s l ih => ?_
  intro d n id st hnice hid hn hn2 hd hd2
  have hidl : id < st.length := (List.getElem?_eq_some_iff.1 hid).1
  refine ICall.of_vc hT [] [(7, 8)] follows Try.call22 Try.func22 rfl (by kernel_rfl) fun hfix => ?_
  unfold Try.f22
  have hset : ∀ b, (st.set id b)[id]? = some b := fun b => by simp [hidl]
  clear hidl
  simp [Tm.cells, hid, hset]
  have hs := hnice.1
  have hq0 : (0 : Int) ≤ (s.size : Int) / 16 := Int.ediv_nonneg (Int.natCast_nonneg _) (by decide)
  have hq1 : (s.size : Int) / 16 ≤ 140737488355328 := Int.le_trans (Int.ediv_le_self _ (Int.natCast_nonneg _)) (by omega)
  refine ⟨by unfold i64ok; omega, by unfold i64ok; omega, by unfold i64ok; omega, ?_⟩
  intro _
  refine ⟨fun h => ?_, fun h1 h2 h3 => ?_⟩
  · have e : Tm.lg (.mk k n0 s l) d n = (true, n + 1 + (s.size : Int) / 16) := by simp only [Tm.lg]; rw [if_pos]; omega
    rw [e]
    refine endP_mk (.sc (.bool true)) (by simp) (by simp) ⟨rfl, ?_⟩
    rw [cutSt_set0 hfix]; simp
  · have e : Tm.lg (.mk k n0 s l) d n = Tm.lgL l (d + 1) (n + 1 + (s.size : Int) / 16) := by simp only [Tm.lg]; rw [if_neg]; omega
    rw [e]
    obtain ⟨m, hm⟩ : ∃ m, m = n + 1 + (s.size : Int) / 16 := ⟨_, rfl⟩
    rw [← hm]
    refine vcC_loop [] (fun M σ st' => ∃ i : Nat, M = l.length - i ∧ i ≤ l.length ∧ (Tm.lgL (l.take i) (d + 1) m).1 = false ∧ σ 1 = .sc (.int .i64 d) ∧ σ 2 = .ptr id 0 ∧ σ 3 = .eptr [.sc (.int .i64 k), .sc (.int .i64 n0), .sc (.string s), .lst 24 (Tm.cellsL 24 l)] ∧ σ 7 = .sc (.int .i64 i) ∧
      st' = st.set id (.cells [.sc (.int .i64 (Tm.lgL (l.take i) (d + 1) m).2)])) l.length ⟨0, by simp, by simp, by simp [Tm.lgL], by simp, by simp, by simp, by simp, by simp [Tm.lgL, hm]⟩ ?_
    rintro M σ st' ⟨i, rfl, hi, hf, s1, s2, s3, s7, rfl⟩
    rcases Nat.lt_or_ge i l.length with hlt | hge
    · have hsz := Tm.lgL_size (l.take i) (d + 1) m (by omega) (by omega) hf
      simp [s1, s2, s3, s7, hlt]
      refine fun hb1 hb2 => ⟨by unfold i64ok; omega, vcICall_of (ih l[i] (List.getElem_mem hlt) _ _ id _ (Tm.niceL_mem hnice.2 _ (List.getElem_mem hlt)) (hset _) (by omega) (by omega) (by omega) (by omega)) ?_⟩
      rintro r st' ⟨rfl, rfl⟩ _
      have e2 := Tm.lgL_take hlt (d + 1) m hf
      rw [← e2]
      simp [s1, s2, s3, s7]
      refine ⟨fun h4 => ?_, fun h4 => ⟨by unfold i64ok; omega, l.length - (i + 1), by omega, i + 1, rfl, by omega, h4, by omega, rfl⟩⟩
      have e3 := Tm.lgL_true (d + 1) m h4
      rw [e3]
      refine endP_mk (.sc (.bool true)) (by simp) (by simp) ⟨rfl, ?_⟩
      rw [cutSt_set0 hfix]; simp
    · have hi : i = l.length := by omega
      subst hi
      rw [List.take_length] at hf
      simp [s1, s2, s3, s7]
      refine fun hb1 hb2 => endP_mk (.sc (.bool false)) (by simp) (by simp) ⟨by rw [hf], ?_⟩
      rw [cutSt_set0 hfix]; simp

set_option maxRecDepth 100000 in
theorem Large_c (t : Tm) (ht : t.nice) : PureCall T Try.prog 8 [t.av 24] (.sc (.bool t.large)) := by
  have h : ICall T Try.prog 8 [t.av 24] [] (fun r _ => r = .sc (.bool t.large)) := by
    refine ICall.of_vc hT [3] [(2, 1)] follows Try.call8 Try.func8 rfl (by kernel_rfl) fun hfix => ?_
    unfold Try.f8
    simp [Tm.cells]
    refine vcICall_of (large_c t 0 0 0 _ ht rfl (by omega) (by omega) (by omega) (by omega)) ?_
    rintro r st' ⟨rfl, rfl⟩ _
    simp
    exact endP_mk (.sc (.bool t.large)) (by simp [Tm.large]) (by simp [Tm.large]) rfl
  exact PureCall.of_ICall h (by simp [AV.pure, AV.pureL]) (by simp [AV.pure]) (by rintro r st' rfl; simp)
end Go.T1
end

section
open Go Go.Ab Go.Proofs Go.RowKit
namespace Go.T1
/-- A world as it is handed in. -/
def E0 (W : World) : Env := ⟨W, [], fun _ => 0, fun _ => False⟩
theorem relX_of {W : World} {b : Nat} : ∀ (xs : List AV) (cs : List Value) (o : Nat), (∀ i, i < cs.length → W.cell? ⟨b, o + i, none⟩ = cs[i]?) → RelC T (E0 W) xs cs → RelX T (E0 W) b o xs
  | [], _, _, _, _ => by simp only [RelX]
  | x :: xs, cs, o, h, hr => by
    simp only [RelC] at hr
    obtain ⟨v, r, rfl, h1, h2, h3⟩ := hr
    simp only [RelX]
    refine ⟨⟨v, by show W.cell? _ = _; simpa using h 0 (by simp), h1, h2⟩, relX_of xs r (o + 1) (fun i hi => ?_) h3⟩
    have := h (i + 1) (by simp; omega)
    rw [show o + 1 + i = o + (i + 1) by omega, this]; simp
theorem relM_of {W : World} {b k : Nat} : ∀ (L : List (List AV)) (o : Nat), (∀ i (h : i < L.length), L[i].length = k ∧ RelX T (E0 W) b (o + i * k) L[i]) → RelM T (E0 W) b k o L
  | [], _, _ => by simp only [RelM]
  | e :: L, o, h => by
    simp only [RelM]
    have h0 := h 0 (by simp)
    refine ⟨h0.1, by simpa using h0.2, relM_of L (o + k) fun i hi => ?_⟩
    have := h (i + 1) (by simp; omega)
    simp only [List.getElem_cons_succ] at this
    rw [show o + k + i * k = o + (i + 1) * k by rw [Nat.add_mul]; omega]
    exact this
theorem weightsAll_mem {H : Type} {P : Program} {e : TypeId} : ∀ {l : List (DataW H)} {d : DataW H}, d ∈ l → ∀ n ∈ d.weights P e, n ∈ DataW.weightsAll P e l
  | x :: xs, d, hd, n, hn => by
    simp only [DataW.weightsAll, List.mem_append]
    rcases List.mem_cons.1 hd with rfl | hd
    · exact .inl hn
    · exact .inr (weightsAll_mem hd n hn)
theorem cellsOf24 : Try.prog.cellsOf 24 = 4 := by kernel_rfl
theorem cellsOf22 : Try.prog.cellsOf 22 = 1 := by kernel_rfl
theorem cellsOf3 : Try.prog.cellsOf 3 = 1 := by kernel_rfl
theorem cellsOf9 : Try.prog.cellsOf 9 = 1 := by kernel_rfl
theorem bytesOf24 : Try.prog.bytesOf 24 = 56 := by kernel_rfl
theorem add_add (b off i j : Nat) : ((⟨b, off, none⟩ : Addr).add i).add j = ⟨b, off + i + j, none⟩ := by
  unfold Addr.add
  by_cases hi : i = 0
  · subst hi
    by_cases hj : j = 0
    · subst hj; rfl
    · simp [hj]
  · by_cases hj : j = 0
    · subst hj; simp [hi]
    · simp [hi, hj]
theorem cell_lt {W : World} {a : Addr} {v : Value} (h : W.cell? a = some v) : a.block < W.heap.size ∧ a.spot = none := by
  unfold World.cell? at h
  split at h
  · rename_i c _ _ hb
    refine ⟨(Array.getElem?_eq_some_iff.1 hb).1, ?_⟩
    split at h
    · cases h
    · rename_i hs; cases hsp : a.spot with
      | none => rfl
      | some _ => rw [hsp] at hs; exact absurd rfl hs
  · cases h

section
variable {H : Type} {enc : TypeId × Value → H} {W : World} {sp : Nat → Bool}

theorem niceL_of : ∀ {l : List Tm}, (∀ t ∈ l, t.nice) → Tm.niceL l
  | [], _ => trivial
  | t :: ts, h => ⟨h t (by simp), niceL_of fun x hx => h x (by simp [hx])⟩

theorem open_sl {n : Nat} (ih : ∀ m, m ≤ n → ∀ cs (d : DataW H) ps, DataW.trod enc Try.prog W 0 sp true m 24 cs = some (d, ps) → (∀ k ∈ d.weights Try.prog 24, k ≤ reachBytes) → ∃ t : Tm, RelC T (E0 W) (t.cells 24) cs ∧ t.nice)
    {fuel : Nat} (hf : fuel ≤ n + 1) {cs : List Value} {d : DataW H} {ps : List MemPlace} (h : DataW.trod enc Try.prog W 0 sp true fuel 22 cs = some (d, ps)) (hw : ∀ k ∈ d.weights Try.prog 22, k ≤ reachBytes) :
    ∃ (l : List Tm) (v : Value), cs = [v] ∧ v.oneCell' = true ∧ Rel T (E0 W) (.lst 24 (Tm.cellsL 24 l)) v ∧ Tm.niceL l := by
  rcases DataW.trod_slice Try.underlying22 h with ⟨rfl, hx⟩ | ⟨a, len, cap, elems, rest, m, rfl, rfl, hx, hb, hl, hm, hlen, hel, _, _⟩
  · refine ⟨[], _, rfl, rfl, ?_, trivial⟩
    simp only [Rel, Tm.cellsL]
    exact ⟨by simp, by simp, _, _, rfl, by simp, .inl trivial⟩
  · cases hx
    simp only [DataW.weights, Try.underlying22, List.mem_cons, List.mem_append, bytesOf24] at hw
    have hw0 := hw _ (.inl rfl)
    simp only [List.length_map] at hw0
    have hreach : reachBytes = 140737488351232 := by decide
    rw [hreach] at hw0
    rw [cellsOf24] at hel
    have key : ∀ i, i < len → ∃ t : Tm, (∃ cs', W.cells? 0 (a.add (i * 4)) 4 = some cs' ∧ RelC T (E0 W) (t.cells 24) cs') ∧ t.nice := by
      intro i hi
      have := hel i hi
      rw [List.getElem?_eq_getElem (by omega)] at this
      obtain ⟨cs', h1, h2⟩ := Option.bind_eq_some_iff.1 this
      obtain ⟨t, h3, h4⟩ := ih m (by omega) cs' elems[i].1 elems[i].2 h2 (fun k hk => hw k (.inr (.inl (weightsAll_mem (List.mem_map.2 ⟨_, List.getElem_mem (by omega), rfl⟩) k hk))))
      exact ⟨t, ⟨cs', h1, h3⟩, h4⟩
    have hch : ∃ f : Nat → Tm, ∀ i, i < len → (∃ cs', W.cells? 0 (a.add (i * 4)) 4 = some cs' ∧ RelC T (E0 W) ((f i).cells 24) cs') ∧ (f i).nice :=
      ⟨fun i => if hi : i < len then (key i hi).choose else Tm.zero, fun i hi => by simp only [dif_pos hi]; exact (key i hi).choose_spec⟩
    obtain ⟨f, hf'⟩ := hch
    refine ⟨(List.range len).map f, _, rfl, rfl, ?_, niceL_of fun t ht => ?_⟩
    · simp only [Rel]
      have h56 : T.bytes 24 = 56 := by simp [Tab.bytes]
      have h4 : T.cells 24 = 4 := by simp [Tab.cells]
      refine ⟨by simp [h56]; omega, by simp; unfold maxLen; omega, some a, cap, by simp, by simpa using hl, ?_⟩
      rcases Nat.eq_zero_or_pos len with h0 | h0
      · left; subst h0; rfl
      · right
        obtain ⟨⟨cs', k1, k2⟩, _⟩ := hf' 0 h0
        obtain ⟨_, k3, k4⟩ := World.cells?_some k1
        have k5 := k4 0 (by omega)
        rw [List.getElem?_eq_getElem (by omega)] at k5
        have k6 := cell_lt k5
        obtain ⟨b, off, spot⟩ := a
        have hs : spot = none := by simpa [Addr.add] using k6.2
        subst hs
        have hbl : b < W.heap.size := by simpa [Addr.add] using k6.1
        refine ⟨b, off, rfl, ⟨hbl, ?_⟩, ?_⟩
        · rintro (hm | ⟨id, blk, hm, _⟩)
          · exact hm
          · simp [E0] at hm
        · rw [h4]
          refine relM_of _ _ fun i hi => ?_
          simp only [Tm.cellsL_len, List.length_map, List.length_range] at hi
          obtain ⟨⟨cs', k1, k2⟩, _⟩ := hf' i hi
          obtain ⟨_, k3, k4⟩ := World.cells?_some k1
          simp only [Tm.cellsL_getElem, List.getElem_map, List.getElem_range]
          refine ⟨by simp, relX_of _ cs' _ (fun j hj => ?_) k2⟩
          rw [← k4 j (by omega), add_add]
    · obtain ⟨i, hi, rfl⟩ := List.mem_map.1 ht
      exact (hf' i (List.mem_range.1 hi)).2

set_option maxRecDepth 100000 in
theorem open_tm : ∀ fuel cs (d : DataW H) ps, DataW.trod enc Try.prog W 0 sp true fuel 24 cs = some (d, ps) → (∀ k ∈ d.weights Try.prog 24, k ≤ reachBytes) → ∃ t : Tm, RelC T (E0 W) (t.cells 24) cs ∧ t.nice := by
  intro fuel
  induction fuel using Nat.strongRecOn with
  | _ fuel ih =>
    intro cs d ps h hw
    obtain ⟨xs, n, rfl, hx, hlen, hxs, hf⟩ := DataW.trod_struct Try.underlying24 h
    cases hx
    rw [cellsOf24] at hlen
    match cs, hlen with
    | [c0, c1, c2, c3], _ =>
    match xs, hxs with
    | [x0, x1, x2, x3], _ =>
    have f0 := hf 0 _ rfl
    have f1 := hf 1 _ rfl
    have f2 := hf 2 _ rfl
    have f3 := hf 3 _ rfl
    simp [cellsOf3, cellsOf9, cellsOf22] at f0 f1 f2 f3
    simp only [DataW.weights, Try.underlying24] at hw
    simp [DataW.weightsEach] at hw
    obtain ⟨k, e0, rfl, _⟩ := DataW.trod_int Try.underlying3 f0
    obtain ⟨m, e1, rfl, _⟩ := DataW.trod_int Try.underlying3 f1
    obtain ⟨s, e2, rfl, hs⟩ := DataW.trod_string Try.underlying9 f2
    cases e0; cases e1; cases e2
    obtain ⟨l, v, e3, hv1, hv2, hv3⟩ := open_sl (n := n) (fun m hm => ih m (by omega)) (fuel := n) (by omega) f3 (fun q hq => hw q (by simp [hq]))
    cases e3
    refine ⟨.mk k m s l, ?_, ?_⟩
    · simp only [Tm.cells, RelC, Rel]
      exact ⟨_, _, rfl, ⟨rfl, rfl⟩, rfl, _, _, rfl, ⟨rfl, rfl⟩, rfl, _, _, rfl, ⟨rfl, rfl⟩, rfl, _, _, rfl, by simpa only [Rel] using hv2, hv1, rfl⟩
    · have : s.data.toList.length ≤ reachBytes := hw _ (by simp [DataW.weights])
      have hreach : reachBytes = 140737488351232 := by decide
      have e : s.data.toList.length = s.size := by rw [Array.length_toList]; rfl
      exact ⟨by omega, hv3⟩
end
end Go.T1
end

section
open Go Go.Ab Go.Proofs Go.RowKit Go.ChangeShapes Go.WideShapes Go.ChangeAt
namespace Go.T1
section
variable {H : Type} {enc : TypeId × Value → H} {W : World} {sp : Nat → Bool}
set_option maxRecDepth 100000 in
theorem trod_tm {v : Value} {d : DataW H} {p : List MemPlace} (h : DataW.Trod enc Try.prog W 0 sp true 24 v d p) (hw : ∀ k ∈ d.weights Try.prog 24, k ≤ reachBytes) : ∃ t : Tm, Rel T (E0 W) (t.av 24) v ∧ t.nice := by
  obtain ⟨fuel, h⟩ := h
  obtain ⟨t, h1, h2⟩ := open_tm fuel _ _ _ h hw
  refine ⟨t, ?_, h2⟩
  have hl := RelC.len _ _ h1
  rw [Tm.cells_len] at hl
  cases v with
  | agg cs => simp only [Rel]; exact ⟨cs.toList, by simp, h1⟩
  | _ => simp [Value.cells] at hl
set_option maxRecDepth 100000 in
theorem trod_sl {v : Value} {d : DataW H} {p : List MemPlace} {base : Nat} (hok : Value.okWide Try.prog W .any base 22 v) (h : DataW.Trod enc Try.prog W 0 sp true 22 v d p) (hw : ∀ k ∈ d.weights Try.prog 22, k ≤ reachBytes) : ∃ l : List Tm, Rel T (E0 W) (.lst 24 (Tm.cellsL 24 l)) v ∧ Tm.niceL l := by
  obtain ⟨fuel, h⟩ := h
  obtain ⟨l, v', h1, h2, h3, h4⟩ := open_sl (n := fuel) (fun m _ => open_tm m) (fuel := fuel) (by omega) h hw
  refine ⟨l, ?_, h4⟩
  have hv : v.cells = #[v] := by
    unfold Value.okWide at hok
    rw [Try.underlying22] at hok
    cases v with
    | agg cs => simp [Cell.okWide, Cell.ok, Try.underlying22] at hok
    | _ => rfl
  rw [hv] at h1
  simp at h1
  rw [h1]; exact h3
set_option maxRecDepth 100000 in
theorem trod_it {v : Value} {d : DataW H} {p : List MemPlace} (hok : Value.okWide Try.prog W .any 0 3 v) (h : DataW.Trod enc Try.prog W 0 sp true 3 v d p) : ∃ n : Int, Rel T (E0 W) (.sc (.int .i64 n)) v ∧ (Lit.int .i64 n).wf = true := by
  obtain ⟨n, rfl, rfl, rfl, h2⟩ := open_int Try.underlying3 hok h
  exact ⟨n, by simp only [Rel]; exact ⟨trivial, rfl⟩, h2⟩
set_option maxRecDepth 100000 in
theorem trod_st {v : Value} {d : DataW H} {p : List MemPlace} {base : Nat} (hok : Value.okWide Try.prog W .any base 9 v) (h : DataW.Trod enc Try.prog W 0 sp true 9 v d p) : ∃ s : ByteArray, Rel T (E0 W) (.sc (.string s)) v := by
  obtain ⟨s, rfl, rfl, rfl, h2⟩ := Go.ChangeMaps.open_string Try.underlying9 hok h
  exact ⟨s, by simp only [Rel]; exact ⟨trivial, rfl⟩⟩
theorem own : ownKnob Try.prog.godebug = none := by kernel_rfl
theorem laidOut : laidOutB Try.prog = true := by kernel_rfl
/-- A call that needs no memory of the caller's. -/
theorem callW {f : FuncId} {args : List AV} (h : PureCall T Try.prog f args (.sc (.bool true))) {vs : List Value} (hr : RelL T (E0 W) args vs) :
    Calls Try.prog f vs.toArray W fun e W' => e = .returned (.bool true) ∧ Below W.heap.size W W' := by
  refine (h.call W (fun _ => False) vs (fun _ h => h.elim) hr).mono ?_
  rintro e W' ⟨u, rfl, h1, h2⟩
  simp only [Rel] at h2
  rw [h2.1]; exact ⟨rfl, h1⟩
theorem wEach {ts : List TypeId} {ds : List (DataW H)} (hz : (DataW.weightsEach Try.prog ts ds).all (· ≤ reachBytes) = true) {j : Nat} {t : TypeId} {d : DataW H} (ht : ts[j]? = some t) (hd : ds[j]? = some d) : ∀ k ∈ d.weights Try.prog t, k ≤ reachBytes := by
  intro k hk
  have := List.all_eq_true.1 hz _ (DataW.weights_mem_each ht hd k hk)
  simpa using this
/-- An argument reads as it did. -/
theorem argW {t : TypeId} {W' : World} {v : Value} {d : DataW H} {ps : List MemPlace} (hr : Try.prog.readableRec t = true) (ht : t < Try.prog.types.size)
    (h : DataW.Trod enc Try.prog W 0 (fun _ => true) true t v d ps) (hb : Below W.heap.size W W') (hlt : ∀ x ∈ ps, x.block < W.heap.size) : DataW.Trod enc Try.prog W' 0 (fun b => decide (b < W.heap.size)) true t v d ps :=
  Below.trod laidOut hr ht h hb hlt
end
end Go.T1
end

section
open Go Go.Ab Go.Proofs
namespace Go.T1
@[simp] theorem ty61 : T 61 = some ⟨1, 24, .slice 3, [], some (.slice none 0 0)⟩ := by kernel_rfl
@[simp] theorem ty67 : T 67 = some ⟨1, 8, .int .u64, [], some (.int .u64 0)⟩ := by kernel_rfl
theorem nanI_c (n : Int) : PureCall T Try.prog 50 [.sc (.int .i64 n)] (.sc (.bool false)) := by
  refine PureCall.of_vc hT [] [] follows Try.call50 Try.func50 rfl (by kernel_rfl) (by simp [AV.pure, AV.pureL]) (by simp [AV.pure]) ?_
  unfold Try.f50
  simp
theorem nanS_c (s : ByteArray) : PureCall T Try.prog 51 [.sc (.string s)] (.sc (.bool false)) := by
  refine PureCall.of_vc hT [] [] follows Try.call51 Try.func51 rfl (by kernel_rfl) (by simp [AV.pure, AV.pureL]) (by simp [AV.pure]) ?_
  unfold Try.f51
  simp
theorem cmpI_c (a b : Int) : PureCall T Try.prog 41 [.sc (.int .i64 a), .sc (.int .i64 b)] (.sc (.int .i64 (threeI a b))) := by
  refine PureCall.of_vc hT [] [] follows Try.call41 Try.func41 rfl (by kernel_rfl) (by simp [AV.pure, AV.pureL]) (by simp [AV.pure]) ?_
  unfold Try.f41
  simp
  refine vcCall_at (nanI_c a) ?_
  simp
  refine vcCall_at (nanI_c b) ?_
  simp [threeI]
  refine ⟨fun h => by intro h2; omega, fun h => ⟨fun h2 => ?_, fun h2 => ?_⟩⟩
  · rw [if_neg (by omega), if_pos h2]
  · rw [if_neg (by omega), if_neg (by omega)]
theorem cmpS_c (a b : ByteArray) : PureCall T Try.prog 42 [.sc (.string a), .sc (.string b)] (.sc (.int .i64 (nameC a b))) := by
  refine PureCall.of_vc hT [] [] follows Try.call42 Try.func42 rfl (by kernel_rfl) (by simp [AV.pure, AV.pureL]) (by simp [AV.pure]) ?_
  unfold Try.f42
  simp
  refine vcCall_at (nanS_c a) ?_
  simp
  refine vcCall_at (nanS_c b) ?_
  simp [nameC]
  refine ⟨fun h => by simp [h], fun h => ⟨fun h2 => ?_, fun h2 => ?_⟩⟩
  · simp [h, h2]
  · simp [h2 h, strLt_irr]
theorem threeR_c (a b : Int) : PureCall T Try.prog 37 [.sc (.int .i64 a), .sc (.int .i64 b)] (.sc (.int .i64 (threeI a b))) := by
  refine PureCall.of_vc hT [] [] follows Try.call37 Try.func37 rfl (by kernel_rfl) (by simp [AV.pure, AV.pureL]) (by simp [AV.pure]) ?_
  unfold Try.f37
  simp [threeI]
  refine ⟨fun h => by intro h2; omega, fun h => ⟨fun h2 => ?_, fun h2 => ?_⟩⟩
  · rw [if_neg (by omega), if_pos h2]
  · rw [if_neg (by omega), if_neg (by omega)]
theorem namesR_c (a b : ByteArray) : PureCall T Try.prog 38 [.sc (.string a), .sc (.string b)] (.sc (.int .i64 (nameC a b))) := by
  refine PureCall.of_vc hT [] [] follows Try.call38 Try.func38 rfl (by kernel_rfl) (by simp [AV.pure, AV.pureL]) (by simp [AV.pure]) ?_
  unfold Try.f38
  simp [nameC]
  refine ⟨fun h => by simp [h], fun h => ⟨fun h2 => ?_, fun h2 => ?_⟩⟩
  · simp [h, h2]
  · simp [h2 h, strLt_irr]
def orL : List Int → Int
  | [] => 0
  | x :: xs => if x ≠ 0 then x else orL xs
theorem or_c (l : List Int) : PureCall T Try.prog 40 [.lst 3 (intsL l)] (.sc (.int .i64 (orL l))) := by
  generalize hr : orL l = r
  refine PureCall.of_vc hT [] [] follows Try.call40 Try.func40 rfl (by kernel_rfl) (by simp [AV.pure, AV.pureL]) (by simp [AV.pure]) ?_
  unfold Try.f40
  simp
  intro _ _
  refine vcC_loop [] (fun m σ st => ∃ i : Nat, m = l.length - i ∧ i ≤ l.length ∧ orL (l.drop i) = r ∧ σ 3 = .sc (.int .i64 0) ∧ σ 6 = .lst 3 (intsL l) ∧ σ 7 = .sc (.int .i64 l.length) ∧ σ 8 = .sc (.int .i64 i) ∧ st = []) l.length ⟨0, by simp [hr]⟩ ?_
  rintro m σ st ⟨i, rfl, hi, hor, s3, s6, s7, s8, rfl⟩
  rcases Nat.lt_or_ge i l.length with hlt | hge
  · have e : l.drop i = l[i] :: l.drop (i + 1) := List.drop_eq_getElem_cons hlt
    rw [e] at hor
    simp [s3, s6, s7, s8, hlt]
    unfold orL at hor
    refine ⟨fun h => ?_, fun h => ?_⟩
    · rw [← hor, if_pos h]
    · refine ⟨by unfold i64ok; omega, l.length - (i + 1), by omega, i + 1, rfl, by omega, ?_, by omega⟩
      rw [← hor, if_neg (by simp [h])]
  · simp [s3, s6, s7, s8, Nat.not_lt.2 hge]
    rw [List.drop_of_length_le hge] at hor
    exact hor
theorem ord_or {k n : Int} {s : ByteArray} {l : List Tm} {k' n' : Int} {s' : ByteArray} {l' : List Tm} (ra : partB k n s l.length = true) (rb : partB k' n' s' l'.length = true) (hv : ¬ (k = 1 ∧ k' = 1)) :
    ordT (.mk k n s l) (.mk k' n' s' l') = if orL [threeI k k', threeI n n', threeI l.length l'.length, nameC s s'] ≠ 0 then (orL [threeI k k', threeI n n', threeI l.length l'.length, nameC s s'], true) else ordL l l' := by
  by_cases hk : k = k'
  case neg =>
    have : threeI k k' ≠ 0 := fun h => hk (threeI_zero.1 h)
    rw [ordT_diff hk]
    simp [orL, this]
  subst hk
  have hk1 : k ≠ 1 := fun e => hv ⟨e, e⟩
  have e0 : threeI k k = 0 := threeI_zero.2 rfl
  rw [ordT_same hk1]
  by_cases h2 : k = 2
  · subst h2
    simp [partB] at ra rb
    obtain ⟨⟨_, rfl⟩, rfl⟩ := ra
    obtain ⟨⟨_, rfl⟩, rfl⟩ := rb
    have e1 : threeI 0 0 = 0 := by decide
    have e2 : nameC ⟨#[]⟩ ⟨#[]⟩ = 0 := nameC_zero.2 rfl
    by_cases h3 : threeI n n' = 0
    · simp [orL, e0, e1, e2, h3, ordL]
    · simp [orL, e0, e1, e2, h3]
  · have hn : ∀ {n : Int} {s : ByteArray} {len : Nat}, partB k n s len = true → n = 0 := by
      intro n s len h
      unfold partB at h
      rw [if_neg hk1, if_neg h2] at h
      split at h
      · simp at h; exact h.1.1
      · split at h
        · simp at h; exact h.1.1.1
        · cases h
    have n1 := hn ra
    have n2 := hn rb
    subst n1 n2
    have e1 : threeI 0 0 = 0 := by decide
    simp only [h2, if_false, orL, e0, e1, ne_eq, not_true_eq_false]
    by_cases h3 : threeI l.length l'.length = 0
    · by_cases h4 : nameC s s' = 0
      · simp [h3, h4]
      · simp [h3, h4]
    · simp [h3]
theorem len16 {k n : Int} {s : ByteArray} {len : Nat} (h : partB k n s len = true) : len ≤ 16 := by
  unfold partB at h
  split at h
  · simp at h; omega
  · split at h
    · simp at h; omega
    · split at h
      · simp at h; omega
      · split at h
        · simp at h; omega
        · cases h
set_option maxRecDepth 100000 in
theorem order_c : ∀ (K : Nat) (a b : Tm), a.size = K → a.right = true → b.right = true → PureCall T Try.prog 28 [a.av 24, b.av 24] (.tup [.sc (.int .i64 (ordT a b).1), .sc (.bool (ordT a b).2)]) := by
  intro K
  induction K using Nat.strongRecOn with
  | _ K ih =>
  rintro ⟨k, n, s, l⟩ ⟨k', n', s', l'⟩ hK ra rb
  generalize hr : ordT (.mk k n s l) (.mk k' n' s' l') = r
  refine PureCall.of_vc hT [] [] follows Try.call28 Try.func28 rfl (drawsOk_of3 (by kernel_rfl)) (by simp [AV.pure, AV.pureL]) (by simp [AV.pure, AV.pureL]) ?_
  unfold Try.f28
  simp only [Tm.right, Bool.and_eq_true] at ra rb
  by_cases hv : k = 1 ∧ k' = 1
  · obtain ⟨rfl, rfl⟩ := hv
    rw [ordT_vars] at hr
    subst hr
    simp [Tm.cells]
  have hr2 := ord_or ra.1 rb.1 hv
  rw [hr] at hr2
  have hl := len16 ra.1
  have hl' := len16 rb.1
  simp [Tm.cells]
  refine ⟨fun h h' => absurd ⟨h, h'⟩ hv, fun _ => vcCall_at (cmpI_c k k') ?_⟩
  simp
  refine vcCall_at (cmpI_c n n') ?_
  simp
  refine vcCall_at (cmpI_c l.length l'.length) ?_
  simp
  refine vcCall_at (cmpS_c s s') ?_
  simp
  refine ⟨rfl, vcCall_at (or_c [threeI k k', threeI n n', threeI l.length l'.length, nameC s s']) ?_⟩
  have hlen : orL [threeI k k', threeI n n', threeI l.length l'.length, nameC s s'] = 0 → l.length = l'.length := by
    intro h
    simp only [orL] at h
    split at h
    · contradiction
    split at h
    · contradiction
    split at h
    · contradiction
    rename_i h3
    have := threeI_zero.1 (Classical.not_not.1 h3)
    omega
  generalize orL [threeI k k', threeI n n', threeI l.length l'.length, nameC s s'] = q at hr2 hlen ⊢
  simp
  refine ⟨fun hq => ?_, fun hq => ?_⟩
  · rw [hr2, if_pos hq]; simp
  · subst hq
    rw [if_neg (by simp)] at hr2
    have hlen := hlen rfl
    intro _ _
    refine vcC_loop [] (fun m σ st => ∃ i : Nat, m = l.length - i ∧ i ≤ l.length ∧ ordL (l.drop i) (l'.drop i) = r ∧ σ 2 = .eptr [.sc (.int .i64 k), .sc (.int .i64 n), .sc (.string s), .lst 24 (Tm.cellsL 24 l)] ∧
      σ 3 = .eptr [.sc (.int .i64 k'), .sc (.int .i64 n'), .sc (.string s'), .lst 24 (Tm.cellsL 24 l')] ∧ σ 52 = .sc (.int .i64 l.length) ∧ σ 53 = .sc (.int .i64 i) ∧ st = []) l.length ?_ ?_
    · simp
      exact ⟨0, by simp [hr2]⟩
    rintro m σ st ⟨i, rfl, hi, hor, s2, s3, s52, s53, rfl⟩
    rcases Nat.lt_or_ge i l.length with hlt | hge
    · have hlt' : i < l'.length := hlen ▸ hlt
      have e : l.drop i = l[i] :: l.drop (i + 1) := List.drop_eq_getElem_cons hlt
      have e' : l'.drop i = l'[i] :: l'.drop (i + 1) := List.drop_eq_getElem_cons hlt'
      rw [e, e'] at hor
      have hcall := ih l[i].size (by rw [← hK]; have := size_le_mem (List.getElem_mem hlt); simp only [Tm.size]; omega) l[i] l'[i] rfl (rightL_mem ra.2 _ (List.getElem_mem hlt)) (rightL_mem rb.2 _ (List.getElem_mem hlt'))
      simp [s2, s3, s52, s53, hlt, hlt']
      refine vcCall_at hcall ?_
      simp only [ordL] at hor
      cases hb : (ordT l[i] l'[i]).2 with
      | false =>
        rw [if_pos (.inl hb)] at hor
        simp [s2, s3, s52, s53, hb]
        rw [← hor]; exact ⟨rfl, hb⟩
      | true =>
        simp [s2, s3, s52, s53, hb]
        refine ⟨fun hz => ?_, fun hz => ?_⟩
        · rw [if_pos (.inr hz)] at hor
          rw [← hor]; exact ⟨rfl, hb⟩
        · rw [if_neg (by simp [hb, hz])] at hor
          exact ⟨by unfold i64ok; omega, l.length - (i + 1), by omega, i + 1, rfl, by omega, hor, by omega⟩
    · simp [s2, s3, s52, s53, Nat.not_lt.2 hge]
      rw [List.drop_of_length_le hge] at hor
      simp only [ordL] at hor
      rw [← hor]; simp
theorem by_c (a b : Tm) (ra : a.right = true) (rb : b.right = true) : PureCall T Try.prog 34 [a.av 24, b.av 24] (.sc (.int .i64 (ordT a b).1)) := by
  refine PureCall.of_vc hT [] [] follows Try.call34 Try.func34 rfl (by kernel_rfl) (by simp [AV.pure, AV.pureL]) (by simp [AV.pure]) ?_
  unfold Try.f34
  simp
  refine vcCall_at (order_c _ a b rfl ra rb) ?_
  simp
end Go.T1
end

section
open Go Go.Ab Go.Proofs
namespace Go.T1
set_option maxRecDepth 100000 in
theorem rOrder_c : ∀ (K : Nat) (a b : Tm), a.size = K → PureCall T Try.prog 20 [a.av 24, b.av 24] (.tup [.sc (.int .i64 (ordT a b).1), .sc (.bool (ordT a b).2)]) := by
  intro K
  induction K using Nat.strongRecOn with
  | _ K ih =>
  rintro ⟨k, n, s, l⟩ ⟨k', n', s', l'⟩ hK
  generalize hr : ordT (.mk k n s l) (.mk k' n' s' l') = r
  refine PureCall.of_vc hT [] [] follows Try.call20 Try.func20 rfl (drawsOk_of3 (by kernel_rfl)) (by simp [AV.pure, AV.pureL]) (by simp [AV.pure, AV.pureL]) ?_
  unfold Try.f20
  by_cases hv : k = 1 ∧ k' = 1
  · obtain ⟨rfl, rfl⟩ := hv
    rw [ordT_vars] at hr
    subst hr
    simp [Tm.cells]
  simp [Tm.cells]
  refine ⟨fun h h' => absurd ⟨h, h'⟩ hv, fun _ => ⟨fun hk => ?_, fun hk => ?_⟩⟩
  · refine vcCall_at (threeR_c k k') ?_
    rw [ordT_diff hk] at hr
    rw [← hr]; simp
  subst hk
  have hk1 : k ≠ 1 := fun e => hv ⟨e, e⟩
  rw [ordT_same hk1] at hr
  refine ⟨fun h2 => ?_, fun h2 => ?_⟩
  · refine vcCall_at (threeR_c n n') ?_
    rw [if_pos h2] at hr
    rw [← hr]; simp
  rw [if_neg h2] at hr
  intro hb1 hb2 hb3 hb4
  refine vcCall_at (threeR_c l.length l'.length) ?_
  simp
  refine ⟨fun h3 => ?_, fun h3 => ?_⟩
  · rw [if_pos h3] at hr; rw [← hr]; simp
  rw [if_neg (by simpa using h3)] at hr
  have hlen : l.length = l'.length := by have := threeI_zero.1 h3; omega
  refine vcCall_at (namesR_c s s') ?_
  simp
  refine ⟨fun h4 => ?_, fun h4 => ?_⟩
  · rw [if_pos h4] at hr; rw [← hr]; simp
  rw [if_neg (by simpa using h4)] at hr
  refine vcC_loop [] (fun m σ st => ∃ i : Nat, m = l.length - i ∧ i ≤ l.length ∧ ordL (l.drop i) (l'.drop i) = r ∧ σ 2 = .eptr [.sc (.int .i64 k), .sc (.int .i64 n), .sc (.string s), .lst 24 (Tm.cellsL 24 l)] ∧
    σ 3 = .eptr [.sc (.int .i64 k), .sc (.int .i64 n'), .sc (.string s'), .lst 24 (Tm.cellsL 24 l')] ∧ σ 8 = .sc (.int .i64 i) ∧ st = []) l.length ?_ ?_
  · simp
    exact ⟨0, by simp [hr]⟩
  rintro m σ st ⟨i, rfl, hi, hor, s2, s3, s8, rfl⟩
  rcases Nat.lt_or_ge i l.length with hlt | hge
  · have hlt' : i < l'.length := hlen ▸ hlt
    have e : l.drop i = l[i] :: l.drop (i + 1) := List.drop_eq_getElem_cons hlt
    have e' : l'.drop i = l'[i] :: l'.drop (i + 1) := List.drop_eq_getElem_cons hlt'
    rw [e, e'] at hor
    have hcall := ih l[i].size (by rw [← hK]; have := size_le_mem (List.getElem_mem hlt); simp only [Tm.size]; omega) l[i] l'[i] rfl
    simp [s2, s3, s8, hlt, hlt']
    intro _ _
    refine vcCall_at hcall ?_
    simp only [ordL] at hor
    cases hb : (ordT l[i] l'[i]).2 with
    | false =>
      rw [if_pos (.inl hb)] at hor
      simp [s2, s3, s8, hb]
      rw [← hor]; exact ⟨rfl, hb⟩
    | true =>
      simp [s2, s3, s8, hb]
      refine ⟨fun hz => ?_, fun hz => ?_⟩
      · rw [if_pos (.inr hz)] at hor
        rw [← hor]; exact ⟨rfl, hb⟩
      · rw [if_neg (by simp [hb, hz])] at hor
        exact ⟨by unfold i64ok; omega, l.length - (i + 1), by omega, i + 1, rfl, by omega, hor, by omega⟩
  · simp [s2, s3, s8, Nat.not_lt.2 hge]
    rw [List.drop_of_length_le hge] at hor
    simp only [ordL] at hor
    rw [← hor]; simp
def cmpR (a b : Tm) : Int × Int := if a.check ≠ 0 then (0, a.check) else if b.check ≠ 0 then (0, b.check) else if (ordT a b).2 = false then (0, 70) else ((ordT a b).1, 0)
def pairV (p : Int × Int) : AV := .tup [.sc (.int .i64 p.1), .sc (.int .i64 p.2)]
set_option maxRecDepth 100000 in
theorem rCompare_c (a b : Tm) (sa : a.small) (sb : b.small) : PureCall T Try.prog 11 [a.av 24, b.av 24] (pairV (cmpR a b)) := by
  refine PureCall.of_vc hT [] [] follows Try.call11 Try.func11 rfl (by kernel_rfl) (by simp [AV.pure, AV.pureL]) (by simp [pairV, AV.pure, AV.pureL]) ?_
  unfold Try.f11
  simp
  refine vcCall_at (rCheck_c a sa) ?_
  simp
  refine ⟨fun h => by simp [pairV, cmpR, h], fun ha => ?_⟩
  refine vcCall_at (rCheck_c b sb) ?_
  simp
  refine ⟨fun h => by simp [pairV, cmpR, h, ha], fun hb => ?_⟩
  refine vcCall_at (rOrder_c _ a b rfl) ?_
  simp
  refine ⟨fun h => by simp [pairV, cmpR, h, ha, hb], fun h => by simp [pairV, cmpR, h, ha, hb]⟩
set_option maxRecDepth 100000 in
theorem Compare_c (a b : Tm) (sa : a.small) (sb : b.small) : PureCall T Try.prog 10 [a.av 24, b.av 24] (pairV (cmpR a b)) := by
  refine PureCall.of_vc hT [] [] follows Try.call10 Try.func10 rfl (by kernel_rfl) (by simp [AV.pure, AV.pureL]) (by simp [pairV, AV.pure, AV.pureL]) ?_
  unfold Try.f10
  simp
  refine ⟨rfl, ?_⟩
  refine vcC_loop [] (fun w σ Y => ∃ i : Nat, w = 2 - i ∧ i ≤ 2 ∧ (1 ≤ i → a.check = 0) ∧ (2 ≤ i → b.check = 0) ∧ Y = [] ∧ σ 2 = .eptr (a.cells 24) ∧ σ 3 = .eptr (b.cells 24) ∧ σ 13 = .lst 24 [a.cells 24, b.cells 24] ∧ σ 14 = .sc (.int .i64 2) ∧ σ 15 = .sc (.int .i64 i)) 2 ?_ ?_
  · simp
    exact ⟨0, by simp⟩
  rintro w σ Y ⟨i, rfl, hi, hca, hcb, rfl, s2, s3, s13, s14, s15⟩
  rcases Nat.lt_or_ge i 2 with hlt | hge
  · have hi2 : i = 0 ∨ i = 1 := by omega
    rcases hi2 with rfl | rfl
    · simp [s2, s3, s13, s14, s15]
      refine vcCall_at (check_c a sa) ?_
      simp [s2, s3, s13, s14, s15]
      refine ⟨fun hc => by simp [pairV, cmpR, hc], fun hc => ⟨by unfold i64ok; omega, 1, by omega, 1, by simp [hc]⟩⟩
    · have ha := hca (by omega)
      simp [s2, s3, s13, s14, s15]
      refine vcCall_at (check_c b sb) ?_
      simp [s2, s3, s13, s14, s15]
      refine ⟨fun hc => by simp [pairV, cmpR, hc, ha], fun hc => ⟨by unfold i64ok; omega, 2, by simp [hc, ha]⟩⟩
  · have hi2 : i = 2 := by omega
    subst hi2
    have ha := hca (by omega)
    have hb := hcb (by omega)
    simp [s2, s3, s13, s14, s15]
    refine vcCall_at (order_c _ a b rfl (Tm.right_of_check ha) (Tm.right_of_check hb)) ?_
    simp
    refine ⟨fun h => by simp [pairV, cmpR, h, ha, hb], fun h => by simp [pairV, cmpR, h, ha, hb]⟩
end Go.T1
end

section
open Go Go.Ab Go.Proofs
namespace Go.T1
def firstC : List Tm → Int
  | [] => 0
  | x :: xs => if x.check ≠ 0 then x.check else firstC xs
/-- Each of two has an order. -/
def okP (l : List Tm) : Prop := l.Pairwise fun a b => (ordT a b).2 = true
instance (l : List Tm) : Decidable (okP l) := inferInstanceAs (Decidable (List.Pairwise _ l))
def mayR (l : List Tm) : Int := if firstC l ≠ 0 then firstC l else if 256 < l.length then 3 else if okP l then 0 else 70
theorem firstC_zero {l : List Tm} : firstC l = 0 ↔ ∀ x ∈ l, x.check = 0 := by
  induction l with
  | nil => simp [firstC]
  | cons x xs ih =>
    simp only [firstC]
    by_cases h : x.check = 0
    · simp [h, ih]
    · simp [h]
theorem firstC_app {A B : List Tm} (h : firstC A = 0) : firstC (A ++ B) = firstC B := by
  induction A with
  | nil => rfl
  | cons x xs ih =>
    simp only [firstC] at h ⊢
    split at h
    · contradiction
    · rename_i hx
      simp only [List.cons_append, firstC, if_neg hx]
      exact ih h
theorem firstC_at {l : List Tm} {i : Nat} (hi : i < l.length) (h : firstC (l.take i) = 0) (hc : l[i].check ≠ 0) : firstC l = l[i].check := by
  have e : l = l.take i ++ l[i] :: l.drop (i + 1) := by rw [← List.drop_eq_getElem_cons hi, List.take_append_drop]
  have h2 := firstC_app (B := l[i] :: l.drop (i + 1)) h
  rw [← e] at h2
  rw [h2]; simp [firstC, hc]
theorem firstC_take {l : List Tm} {i : Nat} (hi : i < l.length) (h : firstC (l.take i) = 0) (hc : l[i].check = 0) : firstC (l.take (i + 1)) = 0 := by
  rw [List.take_add_one, List.getElem?_eq_getElem hi, firstC_app h]; simp [firstC, hc]
def okTo (l : List Tm) (i k : Nat) : Prop := ∀ (j : Nat) (hj : j < k) (hi : i < l.length) (hji : j < i), (ordT (l[j]'(by omega)) l[i]).2 = true
theorem okP_take {l : List Tm} {i : Nat} (hi : i < l.length) (h : okP (l.take i)) (h2 : okTo l i i) : okP (l.take (i + 1)) := by
  rw [List.take_add_one, List.getElem?_eq_getElem hi]
  refine List.pairwise_append.2 ⟨h, by simp, fun a ha b hb => ?_⟩
  simp at hb
  subst hb
  obtain ⟨j, hj, rfl⟩ := List.mem_iff_getElem.1 ha
  rw [List.length_take] at hj
  simp only [List.getElem_take]
  exact h2 j (by omega) hi (by omega)
theorem okP_not {l : List Tm} {i j : Nat} (hi : i < l.length) (hj : j < i) (h : (ordT (l[j]'(by omega)) l[i]).2 = false) : ¬ okP l := by
  intro hp
  have := List.pairwise_iff_getElem.1 hp j i (by omega) hi hj
  rw [h] at this; cases this
set_option maxRecDepth 100000 in
theorem rMay_c (l : List Tm) (hs : ∀ x ∈ l, x.small) : PureCall T Try.prog 17 [.lst 24 (Tm.cellsL 24 l)] (.sc (.int .i64 (mayR l))) := by
  generalize hr : mayR l = r
  refine PureCall.of_vc hT [] [] follows Try.call17 Try.func17 rfl (drawsOk_of3 (by kernel_rfl)) (by simp [AV.pure, AV.pureL]) (by simp [AV.pure]) ?_
  unfold Try.f17
  simp
  refine vcC_loop [] (fun m σ st => ∃ i : Nat, m = l.length - i ∧ i ≤ l.length ∧ firstC (l.take i) = 0 ∧ σ 0 = .lst 24 (Tm.cellsL 24 l) ∧ σ 3 = .sc (.int .i64 i) ∧ st = []) l.length ⟨0, by simp [firstC]⟩ ?_
  rintro m σ st ⟨i, rfl, hi, hf, s0, s3, rfl⟩
  rcases Nat.lt_or_ge i l.length with hlt | hge
  · simp [s0, s3, hlt]
    intros
    refine vcCall_at (rCheck_c l[i] (hs _ (List.getElem_mem hlt))) ?_
    simp [s0, s3]
    refine ⟨fun hc => ?_, fun hc => ⟨by unfold i64ok; omega, l.length - (i + 1), by omega, i + 1, rfl, by omega, firstC_take hlt hf hc, by omega⟩⟩
    have := firstC_at hlt hf hc
    rw [← hr]; simp [mayR, this, hc]
  · have hie : i = l.length := by omega
    subst hie
    rw [List.take_length] at hf
    simp [s0, s3]
    intros
    refine ⟨fun h256 => ?_, fun h256 => ?_⟩
    · rw [← hr]
      have : 256 < l.length := by omega
      simp [mayR, hf, this]
    have h256' : ¬ 256 < l.length := by omega
    refine vcC_loop [] (fun m σ st => ∃ i : Nat, m = l.length - i ∧ i ≤ l.length ∧ okP (l.take i) ∧ σ 0 = .lst 24 (Tm.cellsL 24 l) ∧ σ 5 = .sc (.int .i64 i) ∧ st = []) l.length ?_ ?_
    · simp [s0]
      exact ⟨0, by simp, by simp, by simp [okP], by simp⟩
    clear s0 s3
    rintro m σ st ⟨i, rfl, hi, hok, s0, s5, rfl⟩
    rcases Nat.lt_or_ge i l.length with hlt | hge
    · simp [s0, s5, hlt]
      intros
      refine vcC_loop [] (fun m σ st => ∃ k : Nat, m = i - k ∧ k ≤ i ∧ okTo l i k ∧ σ 0 = .lst 24 (Tm.cellsL 24 l) ∧ σ 5 = .sc (.int .i64 i) ∧ σ 6 = .sc (.int .i64 k) ∧ st = []) i ?_ ?_
      · simp [s0, s5]
        exact ⟨0, by simp, by simp, (fun j hj => by omega), by simp⟩
      clear s0 s5
      rintro m σ st ⟨k, rfl, hk, hto, s0, s5, s6, rfl⟩
      rcases Nat.lt_or_ge k i with hlk | hgk
      · have hkl : k < l.length := by omega
        simp [s0, s5, s6, hlt, hlk, hkl]
        refine vcCall_at (rOrder_c _ l[k] l[i] rfl) ?_
        simp [s0, s5, s6, hlt, hlk, hkl]
        refine ⟨fun hb => ?_, fun hb => ⟨by unfold i64ok; omega, i - (k + 1), by omega, k + 1, rfl, by omega, ?_, by omega⟩⟩
        · have := okP_not hlt hlk hb
          rw [← hr]; simp [mayR, hf, h256', this]
        · intro j hj hi' hji
          rcases Nat.lt_or_ge j k with h | h
          · exact hto j h hi' hji
          · obtain rfl : j = k := by omega
            exact hb
      · have hke : k = i := by omega
        subst hke
        simp [s0, s5, s6]
        exact ⟨by unfold i64ok; omega, l.length - (k + 1), by omega, k + 1, rfl, by omega, okP_take hlt hok hto, by omega⟩
    · have hie : i = l.length := by omega
      subst hie
      rw [List.take_length] at hok
      simp [s0, s5]
      intros
      rw [← hr]; simp [mayR, hf, h256', hok]
end Go.T1
end

section
open Go Go.Ab Go.Proofs
namespace Go.T1
set_option maxRecDepth 100000 in
theorem omay_c (l : List Tm) (hs : ∀ x ∈ l, x.small) : PureCall T Try.prog 31 [.lst 24 (Tm.cellsL 24 l)] (.sc (.int .i64 (mayR l))) := by
  generalize hr : mayR l = r
  refine PureCall.of_vc hT [7] [] follows Try.call31 Try.func31 rfl (drawsOk_of3 (by kernel_rfl)) (by simp [AV.pure, AV.pureL]) (by simp [AV.pure]) ?_
  unfold Try.f31
  simp
  intros
  refine vcC_loop [] (fun m σ st => ∃ i : Nat, m = l.length - i ∧ i ≤ l.length ∧ firstC (l.take i) = 0 ∧ σ 0 = .lst 24 (Tm.cellsL 24 l) ∧ σ 12 = .lst 24 (Tm.cellsL 24 l) ∧ σ 13 = .sc (.int .i64 l.length) ∧ σ 14 = .sc (.int .i64 i) ∧ st = []) l.length ⟨0, by simp [firstC]⟩ ?_
  rintro m σ st ⟨i, rfl, hi, hf, s0, s12, s13, s14, rfl⟩
  rcases Nat.lt_or_ge i l.length with hlt | hge
  · simp [s0, s12, s13, s14, hlt]
    refine vcCall_at (check_c l[i] (hs _ (List.getElem_mem hlt))) ?_
    simp [s0, s12, s13, s14]
    refine ⟨fun hc => ?_, fun hc => ⟨by unfold i64ok; omega, l.length - (i + 1), by omega, i + 1, rfl, by omega, firstC_take hlt hf hc, by omega⟩⟩
    have := firstC_at hlt hf hc
    rw [← hr]; simp [mayR, this, hc]
  · have hie : i = l.length := by omega
    subst hie
    rw [List.take_length] at hf
    have hck := firstC_zero.1 hf
    simp [s0, s12, s13, s14]
    intros
    refine ⟨fun h256 => ?_, fun h256 => ?_⟩
    · rw [← hr]
      have : 256 < l.length := by omega
      simp [mayR, hf, this]
    have h256' : ¬ 256 < l.length := by omega
    intros
    refine vcC_loop [] (fun m σ st => ∃ i : Nat, m = l.length - i ∧ i ≤ l.length ∧ okP (l.take i) ∧ σ 0 = .lst 24 (Tm.cellsL 24 l) ∧ σ 27 = .lst 24 (Tm.cellsL 24 l) ∧ σ 28 = .sc (.int .i64 l.length) ∧ σ 29 = .sc (.int .i64 i)) l.length ?_ ?_
    · simp [s0]
      exact ⟨0, by simp, by simp, by simp [okP], by simp⟩
    clear s0 s12 s13 s14
    rintro m σ st ⟨i, rfl, hi, hok, s0, s27, s28, s29⟩
    rcases Nat.lt_or_ge i l.length with hlt | hge
    · simp [s0, s27, s28, s29, hlt]
      refine ⟨hi, ?_⟩
      intros
      rw [Nat.min_eq_left hi, Tm.cellsL_take]
      refine vcC_loop [] (fun m σ st => ∃ k : Nat, m = i - k ∧ k ≤ i ∧ okTo l i k ∧ (∃ id, σ 7 = .ptr id 0 ∧ st[id]? = some (.cells (l[i].cells 24))) ∧ σ 0 = .lst 24 (Tm.cellsL 24 l) ∧ σ 27 = .lst 24 (Tm.cellsL 24 l) ∧ σ 28 = .sc (.int .i64 l.length) ∧ σ 29 = .sc (.int .i64 i) ∧ σ 36 = .lst 24 (Tm.cellsL 24 (l.take i)) ∧ σ 37 = .sc (.int .i64 i) ∧ σ 38 = .sc (.int .i64 k)) i ?_ ?_
      · simp [s0, s27, s28, s29]
        exact ⟨0, by simp, by simp, (fun j hj => by omega), by simp⟩
      clear s0 s27 s28 s29
      rintro m σ st ⟨k, rfl, hk, hto, ⟨id, s7, hid⟩, s0, s27, s28, s29, s36, s37, s38⟩
      rcases Nat.lt_or_ge k i with hlk | hgk
      · have hkl : k < l.length := by omega
        have hkt : k < (l.take i).length := by simp; omega
        simp [s0, s7, s27, s28, s29, s36, s37, s38, hlt, hlk, hkl, hid, hkt]
        refine vcCall_at (order_c _ l[k] l[i] rfl (Tm.right_of_check (hck _ (List.getElem_mem hkl))) (Tm.right_of_check (hck _ (List.getElem_mem hlt)))) ?_
        simp [s0, s7, s27, s28, s29, s36, s37, s38, hlt, hlk, hkl, hid]
        refine ⟨fun hb => ?_, fun hb => ⟨by unfold i64ok; omega, i - (k + 1), by omega, k + 1, rfl, by omega, ?_, by omega⟩⟩
        · have := okP_not hlt hlk hb
          rw [← hr]; simp [mayR, hf, h256', this]
        · intro j hj hi' hji
          rcases Nat.lt_or_ge j k with h | h
          · exact hto j h hi' hji
          · obtain rfl : j = k := by omega
            exact hb
      · have hke : k = i := by omega
        subst hke
        simp [s0, s7, s27, s28, s29, s36, s37, s38]
        exact ⟨by unfold i64ok; omega, l.length - (k + 1), by omega, k + 1, rfl, by omega, okP_take hlt hok hto, by omega⟩
    · have hie : i = l.length := by omega
      subst hie
      rw [List.take_length] at hok
      simp [s0, s27, s28, s29]
      intros
      rw [← hr]; simp [mayR, hf, h256', hok]
end Go.T1
end

section
open Go Go.Ab Go.Proofs
namespace Go.T1
/-- The place of the least of the first ones. -/
def leastTo (l : List Tm) : Nat → Nat
  | 0 => 0
  | i + 1 => if (ordT (l.getD i Tm.zero) (l.getD (leastTo l i) Tm.zero)).1 < 0 then i else leastTo l i
theorem leastTo_le (l : List Tm) : ∀ i, leastTo l i ≤ i
  | 0 => Nat.le_refl _
  | i + 1 => by
    have := leastTo_le l i
    unfold leastTo
    split <;> omega
theorem leastTo_lt {l : List Tm} (h : 0 < l.length) : ∀ i, i ≤ l.length → leastTo l i < l.length
  | 0, _ => h
  | i + 1, hi => by
    have := leastTo_lt h i (by omega)
    unfold leastTo
    split <;> omega
/-- None of them is ahead, and none of those before it is like it. -/
theorem leastTo_spec {l : List Tm} (hd : Dom l) (h0 : 0 < l.length) : ∀ i, (hi : i ≤ l.length) → ∀ k (hk : k < i) (hkl : k < l.length),
    le (l[leastTo l i]'(leastTo_lt h0 i hi)) l[k] ∧ (k < leastTo l i → (ordT l[k] (l[leastTo l i]'(leastTo_lt h0 i hi))).1 ≠ 0)
  | 0, hi, k, hk, _ => by omega
  | i + 1, hi, k, hk, hkl => by
    have hlt : i < l.length := by omega
    have hle := leastTo_le l i
    have hL : leastTo l i < l.length := by omega
    have ih := leastTo_spec hd h0 i (by omega)
    have e1 : l.getD i Tm.zero = l[i] := by simp [hlt]
    have e2 : l.getD (leastTo l i) Tm.zero = l[leastTo l i] := by simp [hL]
    have m : ∀ j (h : j < l.length), l[j] ∈ l := fun j h => List.getElem_mem h
    by_cases hc : (ordT l[i] l[leastTo l i]).1 < 0
    · have e : leastTo l (i + 1) = i := by unfold leastTo; rw [e1, e2, if_pos hc]
      simp only [e]
      have hlei : le l[i] l[leastTo l i] := Int.le_of_lt hc
      rcases Nat.lt_or_ge k i with h | h
      · obtain ⟨q1, q2⟩ := ih k h hkl
        refine ⟨hd.le_trans (m i hlt) (m _ hL) (m k hkl) hlei q1, fun _ hz => ?_⟩
        have hki : le l[k] l[i] := by unfold le; rw [hz]; exact Int.le_refl _
        have h2 := hd.le_trans (m _ hL) (m k hkl) (m i hlt) q1 hki
        unfold le at h2
        rw [ordT_anti l[i] l[leastTo l i]] at h2
        simp only at h2
        omega
      · obtain rfl : k = i := by omega
        exact ⟨le_refl _, fun h => by omega⟩
    · have e : leastTo l (i + 1) = leastTo l i := by
        conv => lhs; unfold leastTo
        rw [e1, e2, if_neg hc]
      simp only [e]
      rcases Nat.lt_or_ge k i with h | h
      · exact ih k h hkl
      · obtain rfl : k = i := by omega
        refine ⟨?_, fun h => by omega⟩
        unfold le
        rw [ordT_anti l[k] l[leastTo l k]]
        simp only; omega
def leastR (l : List Tm) : Int × Int := if mayR l ≠ 0 then (0, mayR l) else if l = [] then (0, 4) else (leastTo l l.length, 0)
theorem mayR_zero {l : List Tm} (h : mayR l = 0) : (∀ x ∈ l, x.check = 0) ∧ l.length ≤ 256 ∧ okP l := by
  unfold mayR at h
  split at h
  · contradiction
  · rename_i h1
    split at h
    · simp at h
    · split at h
      · rename_i h2 h3
        exact ⟨firstC_zero.1 (Classical.not_not.1 h1), by omega, h3⟩
      · simp at h
theorem okP_all {l : List Tm} (h : okP l) : ∀ a ∈ l, ∀ b ∈ l, (ordT a b).2 = true := by
  intro a ha b hb
  obtain ⟨i, hi, rfl⟩ := List.mem_iff_getElem.1 ha
  obtain ⟨j, hj, rfl⟩ := List.mem_iff_getElem.1 hb
  have hp := List.pairwise_iff_getElem.1 h
  rcases Nat.lt_trichotomy i j with h | h | h
  · exact hp i j hi hj h
  · subst h; rw [ordT_self]
  · rw [ordT_anti l[j] l[i]]; exact hp j i hj hi h
theorem dom_may {l : List Tm} (h : mayR l = 0) : Dom l := by
  obtain ⟨h1, _, h3⟩ := mayR_zero h
  exact ⟨fun a ha => Tm.right_of_check (h1 a ha), okP_all h3⟩
set_option maxRecDepth 100000 in
theorem Least_c (l : List Tm) (hs : ∀ x ∈ l, x.small) : PureCall T Try.prog 15 [.lst 24 (Tm.cellsL 24 l)] (pairV (leastR l)) := by
  refine PureCall.of_vc hT [7] [] follows Try.call15 Try.func15 rfl (drawsOk_of3 (by kernel_rfl)) (by simp [AV.pure, AV.pureL]) (by simp [pairV, AV.pure, AV.pureL]) ?_
  unfold Try.f15
  simp
  refine vcCall_at (omay_c l hs) ?_
  simp
  refine ⟨fun hm => by simp [pairV, leastR, hm], fun hm => ?_⟩
  intros
  refine ⟨fun hl => by subst hl; simp [pairV, leastR, hm], fun hl => ?_⟩
  have hd := dom_may hm
  have h0 : 0 < l.length := List.length_pos_iff.2 hl
  intros
  refine vcC_loop [] (fun m σ st => ∃ i : Nat, m = l.length - i ∧ i ≤ l.length ∧ σ 0 = .lst 24 (Tm.cellsL 24 l) ∧ σ 5 = .sc (.int .i64 (leastTo l i)) ∧ σ 16 = .lst 24 (Tm.cellsL 24 l) ∧ σ 17 = .sc (.int .i64 l.length) ∧ σ 18 = .sc (.int .i64 i)) l.length ?_ ?_
  · simp
    exact ⟨0, by simp [leastTo]⟩
  rintro m σ st ⟨i, rfl, hi, s0, s5, s16, s17, s18⟩
  rcases Nat.lt_or_ge i l.length with hlt | hge
  · have hL := leastTo_lt h0 i hi
    have e1 : l.getD i Tm.zero = l[i] := by simp [hlt]
    have e2 : l.getD (leastTo l i) Tm.zero = l[leastTo l i] := by simp [hL]
    simp [s0, s5, s16, s17, s18, hlt, hL]
    refine vcCall_at (by_c l[i] l[leastTo l i] (hd.1 _ (List.getElem_mem hlt)) (hd.1 _ (List.getElem_mem hL))) ?_
    simp [s0, s5, s16, s17, s18, hlt, hL]
    refine ⟨fun hc => ⟨by unfold i64ok; omega, l.length - (i + 1), by omega, i + 1, rfl, by omega, ?_, by omega⟩, fun hc => ⟨by unfold i64ok; omega, l.length - (i + 1), by omega, i + 1, rfl, by omega, ?_, by omega⟩⟩
    · unfold leastTo; rw [e1, e2, if_pos hc]
    · conv => rhs; unfold leastTo
      rw [e1, e2, if_neg (by omega)]
  · have hie : i = l.length := by omega
    subst hie
    simp [s0, s5, s16, s17, s18, pairV, leastR, hm, hl]
end Go.T1
end

section
open Go Go.Ab Go.Proofs
namespace Go.T1
theorem take_ne {a b : List Tm} {i : Nat} (h1 : i < a.length) (h2 : i < b.length) (h : a[i] ≠ b[i]) : a ≠ b := by
  rintro rfl; exact h rfl

set_option maxRecDepth 100000 in
theorem Same_c (a b : List Tm) : PureCall T Try.prog 16 [.lst 24 (Tm.cellsL 24 a), .lst 24 (Tm.cellsL 24 b)] (.sc (.bool (decide (a = b)))) := by
  refine PureCall.of_vc hT [] [] follows Try.call16 Try.func16 rfl (by kernel_rfl) (by simp [AV.pure, AV.pureL]) (by simp [AV.pure]) ?_
  unfold Try.f16
  simp
  refine fun _ _ _ _ => ⟨fun h => ?_, fun h => ?_⟩
  · intro e; subst e; exact h rfl
  have hab : a.length = b.length := by omega
  refine vcC_loop [] (fun m σ st => ∃ i : Nat, m = a.length - i ∧ i ≤ a.length ∧ a.take i = b.take i ∧ σ 0 = .lst 24 (Tm.cellsL 24 a) ∧ σ 1 = .lst 24 (Tm.cellsL 24 b) ∧ σ 5 = .sc (.int .i64 i) ∧ st = []) a.length ⟨0, by simp⟩ ?_
  rintro m σ st ⟨i, rfl, hi, htk, s0, s1, s5, rfl⟩
  rcases Nat.lt_or_ge i a.length with hlt | hge
  · have hlt2 : i < b.length := by omega
    simp [s0, s1, s5, hlt, hlt2]
    refine fun _ _ => vcCall_at (exact_c a[i] b[i]) ?_
    simp [s0, s1, s5]
    refine ⟨fun he => take_ne hlt hlt2 he, fun he => ⟨by unfold i64ok; omega, a.length - (i + 1), by omega, i + 1, rfl, by omega, ?_, by omega⟩⟩
    rw [Tm.take_succ hlt, Tm.take_succ hlt2, htk, he]
  · have hi : i = a.length := by omega
    subst hi
    simp [s0, s1, s5]
    rw [List.take_length, hab, List.take_length] at htk
    intro _ _
    exact htk

def largeL (l : List Tm) : Bool := (List.range (min l.length 400)).any (fun i => (l.getD i Tm.zero).large || decide (20000 < Tm.sizeL (l.take (i + 1)))) || decide (300 < l.length)
theorem sizeL_take {l : List Tm} {i : Nat} (h : i < l.length) : Tm.sizeL (l.take (i + 1)) = Tm.sizeL (l.take i) + l[i].size := by
  rw [List.take_add_one, List.getElem?_eq_getElem h, Tm.sizeL_append]; simp [Tm.sizeL]
theorem largeL_false {l : List Tm} (h : largeL l = false) : (∀ x ∈ l, x.large = false) ∧ l.length ≤ 300 ∧ Tm.sizeL l ≤ 20000 := by
  unfold largeL at h
  simp only [Bool.or_eq_false_iff, decide_eq_false_iff_not, List.any_eq_false, List.mem_range, Bool.or_eq_true, decide_eq_true_eq, not_or, Bool.not_eq_true] at h
  obtain ⟨h1, h2⟩ := h
  refine ⟨fun x hx => ?_, by omega, ?_⟩
  · obtain ⟨i, hi, rfl⟩ := List.mem_iff_getElem.1 hx
    have := (h1 i (by omega)).1
    simpa [hi] using this
  · rcases Nat.eq_zero_or_pos l.length with h0 | h0
    · have : l = [] := List.eq_nil_of_length_eq_zero h0
      subst this; simp [Tm.sizeL]
    · have := (h1 (l.length - 1) (by omega)).2
      rw [show l.length - 1 + 1 = l.length by omega, List.take_length] at this
      omega
def lInv (l : List Tm) (i : Nat) : Prop := ∀ j, j < i → (l.getD j Tm.zero).large = false ∧ Tm.sizeL (l.take (j + 1)) ≤ 20000
theorem lInv_size {l : List Tm} {i : Nat} (h : lInv l i) (hi : i ≤ l.length) : Tm.sizeL (l.take i) ≤ 20000 := by
  cases i with
  | zero => simp [Tm.sizeL]
  | succ i => exact (h i (by omega)).2
theorem large_yes {l : List Tm} {i : Nat} (hi : i < l.length) (h4 : i < 400) (h : (l.getD i Tm.zero).large = true ∨ 20000 < Tm.sizeL (l.take (i + 1))) : largeL l = true := by
  unfold largeL
  simp only [Bool.or_eq_true, List.any_eq_true, List.mem_range, decide_eq_true_eq]
  exact .inl ⟨i, by omega, h⟩
theorem large_end {l : List Tm} {i : Nat} (h : lInv l i) (hi : i = min l.length 400) : largeL l = decide (300 < l.length) := by
  unfold largeL
  have : ((List.range (min l.length 400)).any fun i => (l.getD i Tm.zero).large || decide (20000 < Tm.sizeL (l.take (i + 1)))) = false := by
    simp only [List.any_eq_false, List.mem_range, Bool.or_eq_true, decide_eq_true_eq, not_or, Bool.not_eq_true]
    intro j hj
    have := h j (by omega)
    exact ⟨this.1, by omega⟩
  rw [this]; simp
set_option maxRecDepth 100000 in
theorem LargeL_c (l : List Tm) (hn : Tm.niceL l) : PureCall T Try.prog 12 [.lst 24 (Tm.cellsL 24 l)] (.sc (.bool (largeL l))) := by
  generalize hr : largeL l = r
  refine PureCall.of_vc hT [] [] follows Try.call12 Try.func12 rfl (drawsOk_of3 (by kernel_rfl)) (by simp [AV.pure, AV.pureL]) (by simp [AV.pure]) ?_
  unfold Try.f12
  simp
  refine vcC_loop [] (fun m σ st => ∃ i : Nat, m = l.length - i ∧ i ≤ l.length ∧ i ≤ 400 ∧ lInv l i ∧ σ 0 = .lst 24 (Tm.cellsL 24 l) ∧ σ 3 = .sc (.int .i64 (Tm.sizeL (l.take i))) ∧ σ 4 = .sc (.int .i64 i) ∧ st = []) l.length ⟨0, by simp, by simp, by simp, (fun j hj => by omega), by simp [Tm.sizeL]⟩ ?_
  rintro m σ st ⟨i, rfl, hi, h400, hinv, s0, s3, s4, rfl⟩
  have hsz := lInv_size hinv hi
  by_cases hlt : i < l.length
  · by_cases h4 : (i : Int) < 400
    · have nw := Tm.niceL_mem hn _ (List.getElem_mem hlt)
      have eg : l.getD i Tm.zero = l[i] := by simp [hlt]
      simp [s0, s3, s4, hlt, h4]
      intros
      refine vcCall_at (Large_c l[i] nw) ?_
      simp [s0, s3, s4, hlt]
      refine ⟨fun hb => ?_, fun hb => ?_⟩
      · rw [← hr, large_yes hlt (by omega) (.inl (by rw [eg]; exact hb))]
      · have zb := Tm.large_size hb
        refine vcCall_at (rSize_c l[i] (Tm.large_small hb)) ?_
        simp [s0, s3, s4, hlt]
        refine ⟨by unfold i64ok; omega, fun hb2 => ?_, fun hb2 => ⟨by unfold i64ok; omega, l.length - (i + 1), by omega, i + 1, rfl, by omega, by omega, ?_, ?_, by omega⟩⟩
        · rw [← hr, large_yes hlt (by omega) (.inr (by rw [sizeL_take hlt]; omega))]
        · intro j hj
          rcases Nat.lt_or_ge j i with h | h
          · exact hinv j h
          · obtain rfl : j = i := by omega
            exact ⟨by rw [eg]; exact hb, by rw [sizeL_take hlt]; omega⟩
        · rw [sizeL_take hlt]; omega
    · simp [s0, s3, s4, hlt, h4]
      intros
      rw [← hr, large_end hinv (by omega)]
      apply decide_eq_decide.2; omega
  · simp [s0, s3, s4, hlt]
    intros
    rw [← hr, large_end hinv (by omega)]
    apply decide_eq_decide.2; omega
end Go.T1
end

section
open Go Go.Ab Go.Proofs
namespace Go.T1
def sInv (l : List Tm) (i : Nat) (σ : Slots) (st : St) : Prop := ∃ id g al, σ 3 = .own id g ∧ st[id]? = some (.row 24 g al (Tm.cellsL 24 (sortT (l.take i)))) ∧ (sortT (l.take i) ≠ [] → al = true)
set_option maxRecDepth 100000 in
set_option maxHeartbeats 1000000 in
theorem rSort_c (l : List Tm) (hd : Dom l) (h256 : l.length ≤ 256) : PureCall T Try.prog 18 [.lst 24 (Tm.cellsL 24 l)] (.lst 24 (Tm.cellsL 24 (sortT l))) := by
  refine PureCall.of_vc hT [] ([(100005, 3), (10, 0), (10, 4), (10, 10), (10, 14)] ++ [1, 2, 3, 5, 6, 7, 8, 9, 11, 12, 13, 0, 4, 10, 14, 15].map (Prod.mk 200010)) follows Try.call18 Try.func18 rfl (drawsOk_of3 (by kernel_rfl)) (by simp [AV.pure, AV.pureL]) (by simp [AV.pure]) ?_
  unfold Try.f18
  simp
  refine vcC_loop [(24, .slot 3)] (fun m σ st => ∃ i : Nat, m = l.length - i ∧ i ≤ l.length ∧ sInv l i σ st ∧ σ 0 = .lst 24 (Tm.cellsL 24 l) ∧ σ 4 = .sc (.int .i64 i)) l.length ?_ ?_
  · refine ⟨rfl, ?_⟩
    exact ⟨0, by simp, by simp, ⟨0, 0, false, by simp [sortT, Tm.cellsL]⟩, by simp⟩
  rintro m σ st ⟨i, rfl, hi, ⟨id, g, al, s3, hid, hal⟩, s0, s4⟩
  have hdt : Dom (l.take i) := hd.sub fun z hz => List.mem_of_mem_take hz
  rcases Nat.lt_or_ge i l.length with hlt | hge
  · simp [s0, s3, s4, hlt, hid]
    intros
    obtain ⟨S, hS⟩ : ∃ S, S = sortT (l.take i) := ⟨_, rfl⟩
    rw [← hS] at hid hal
    refine vcC_fzF (d := 3) (i' := id) (g := g) (by simp) s3 hid ?_
    have hSl : S.length = i := by rw [hS, sort_len]; simp; omega
    have hsp : S.Perm (l.take i) := hS ▸ sort_perm _
    have hSs : Sorted S := hS ▸ sort_sorted hdt
    have hSm : ∀ y ∈ S, y ∈ l := fun y hy => List.mem_of_mem_take (hsp.mem_iff.1 hy)
    have hx : l[i] ∈ l := List.getElem_mem hlt
    have hdS : Dom (S ++ [l[i]]) := hd.sub fun z hz => by
      rcases List.mem_append.1 hz with h | h
      · exact hSm z h
      · simp at h; subst h; exact hx
    have hres : sortT (S ++ [l[i]]) = sortT (l.take (i + 1)) := by
      refine sort_congr hdS ?_
      rw [List.take_add_one, List.getElem?_eq_getElem hlt]
      exact hsp.append_right _
    simp [s0, s4, hlt]
    intros
    refine vcC_loop [] (fun q σ st => q ≤ S.length ∧ (∀ h : q < S.length, le l[i] S[q]) ∧ σ 0 = .lst 24 (Tm.cellsL 24 l) ∧ σ 3 = .lst 24 (Tm.cellsL 24 S) ∧ σ 4 = .sc (.int .i64 i) ∧ σ 5 = .sc (.int .i64 q)) S.length ?_ ?_
    · simp [s0, s4]
    clear s0 s3 s4 hid
    rintro q σ st ⟨hq, hle, s0, s3, s4, s5⟩
    have gl := fun (X : St) (b : Blk) => get_last X b
    have sl := fun (X : St) (b c : Blk) => set_last X b c
    rcases Nat.eq_zero_or_pos q with hq0 | hq0
    · have hq0' : ¬ 0 < q := by omega
      simp [s0, s3, s4, s5, hq0']
      have hfin := one_core hdS hSs hq hle (fun h => absurd h hq0')
      rw [hres] at hfin
      refine ⟨fun _ _ _ => True, ?_⟩
      simp (decide := true) [s0, s3, s4, s5, hlt, hq, Tm.cellsL_take, Tm.cellsL_drop]
      refine ⟨by simp (decide := true) [s0, s3, s4, s5, hlt, hq, Tm.cellsL_take, Tm.cellsL_drop], ?_⟩; simp (decide := true) [s0, s3, s4, s5, hlt, hq, Tm.cellsL_take, Tm.cellsL_drop]
      refine ⟨by simp (decide := true) [s0, s3, s4, s5, hlt, hq, Tm.cellsL_take, Tm.cellsL_drop], ?_⟩; simp (decide := true) [s0, s3, s4, s5, hlt, hq, Tm.cellsL_take, Tm.cellsL_drop]
      refine ⟨by simp (decide := true) [s0, s3, s4, s5, hlt, hq, Tm.cellsL_take, Tm.cellsL_drop], ?_⟩; simp (decide := true) [s0, s3, s4, s5, hlt, hq, Tm.cellsL_take, Tm.cellsL_drop]
      refine ⟨by simp (decide := true) [s0, s3, s4, s5, hlt, hq, Tm.cellsL_take, Tm.cellsL_drop], ?_⟩; simp (decide := true) [s0, s3, s4, s5, hlt, hq, Tm.cellsL_take, Tm.cellsL_drop]
      refine ⟨by simp (decide := true) [s0, s3, s4, s5, hlt, hq, Tm.cellsL_take, Tm.cellsL_drop], ?_⟩; simp (decide := true) [s0, s3, s4, s5, hlt, hq, Tm.cellsL_take, Tm.cellsL_drop]
      refine ⟨by simp (decide := true) [s0, s3, s4, s5, hlt, hq, Tm.cellsL_take, Tm.cellsL_drop], ?_⟩; simp (decide := true) [s0, s3, s4, s5, hlt, hq, Tm.cellsL_take, Tm.cellsL_drop]
      refine ⟨by simp (decide := true) [s0, s3, s4, s5, hlt, hq, Tm.cellsL_take, Tm.cellsL_drop], ?_⟩; simp (decide := true) [s0, s3, s4, s5, hlt, hq, Tm.cellsL_take, Tm.cellsL_drop]
      refine ⟨by simp (decide := true) [s0, s3, s4, s5, hlt, hq, Tm.cellsL_take, Tm.cellsL_drop], ?_⟩; simp (decide := true) [s0, s3, s4, s5, hlt, hq, Tm.cellsL_take, Tm.cellsL_drop]
      refine ⟨by simp (decide := true) [s0, s3, s4, s5, hlt, hq, Tm.cellsL_take, Tm.cellsL_drop], ?_⟩; simp (decide := true) [s0, s3, s4, s5, hlt, hq, Tm.cellsL_take, Tm.cellsL_drop]
      refine ⟨by simp (decide := true) [s0, s3, s4, s5, hlt, hq, Tm.cellsL_take, Tm.cellsL_drop], ?_⟩; simp (decide := true) [s0, s3, s4, s5, hlt, hq, Tm.cellsL_take, Tm.cellsL_drop]
      refine ⟨by simp (decide := true) [s0, s3, s4, s5, hlt, hq, Tm.cellsL_take, Tm.cellsL_drop], ?_⟩; simp (decide := true) [s0, s3, s4, s5, hlt, hq, Tm.cellsL_take, Tm.cellsL_drop]
      refine vcThenQ_of (fun r Z => r = .own st.length 0 ∧ Z = st ++ [.row 24 0 true ([])]) rfl (by simp) rfl (by simp (decide := true) [vcI, s0, s3, s4, s5, hlt, hq, Tm.cellsL_take, Tm.cellsL_drop, Tm.cellsL]) (fun _ _ _ => trivial) ?_
      rintro r Z ⟨rfl, rfl⟩ _
      simp (decide := true) [s0, s3, s4, s5, hlt, hq, Tm.cellsL_take, Tm.cellsL_drop]
      refine vcThenQ_of (fun r Z => r = .own st.length 1 ∧ Z = st ++ [.row 24 1 true (Tm.cellsL 24 (S.take q))]) rfl (by simp) rfl (by simp (decide := true) [vcI, s0, s3, s4, s5, hlt, hq, Tm.cellsL_take, Tm.cellsL_drop, Tm.cellsL]; first | omega | exact ⟨by omega, by rw [List.take_of_length_le (by simp)]⟩) (fun _ _ _ => trivial) ?_
      rintro r Z ⟨rfl, rfl⟩ _
      simp (decide := true) [s0, s3, s4, s5, hlt, hq, Tm.cellsL_take, Tm.cellsL_drop]
      refine vcThenQ_of (fun r Z => r = .own st.length 2 ∧ Z = st ++ [.row 24 2 true (Tm.cellsL 24 (S.take q ++ [l[i]'hlt]))]) rfl (by simp) rfl (by simp (decide := true) [vcI, s0, s3, s4, s5, hlt, hq, Tm.cellsL_take, Tm.cellsL_drop, Tm.cellsL]; first | omega | exact ⟨by omega, by rw [List.take_of_length_le (by simp)]⟩) (fun _ _ _ => trivial) ?_
      rintro r Z ⟨rfl, rfl⟩ _
      simp (decide := true) [s0, s3, s4, s5, hlt, hq, Tm.cellsL_take, Tm.cellsL_drop]
      refine vcThenQ_of (fun r Z => r = .own st.length 3 ∧ Z = st ++ [.row 24 3 true (Tm.cellsL 24 (S.take q ++ (l[i]'hlt) :: S.drop q))]) rfl (by simp) rfl (by simp (decide := true) [vcI, s0, s3, s4, s5, hlt, hq, Tm.cellsL_take, Tm.cellsL_drop, Tm.cellsL]; first | omega | exact ⟨by omega, by rw [List.take_of_length_le (by simp)]⟩) (fun _ _ _ => trivial) ?_
      rintro r Z ⟨rfl, rfl⟩ _
      simp (decide := true) [s0, s3, s4, s5, hlt, hq, Tm.cellsL_take, Tm.cellsL_drop]
      refine ⟨by simp (decide := true) [s0, s3, s4, s5, hlt, hq, Tm.cellsL_take, Tm.cellsL_drop], ?_⟩; simp (decide := true) [s0, s3, s4, s5, hlt, hq, Tm.cellsL_take, Tm.cellsL_drop]
      exact ⟨by unfold i64ok; omega, l.length - (i + 1), by omega, i + 1, rfl, by omega, ⟨st.length, 3, true, by simp, by rw [← hfin]; simp, by simp⟩, by omega⟩
    · have hq1 : q - 1 < S.length := by omega
      simp [s0, s3, s4, s5, hlt, hq0]
      refine ⟨by unfold i64ok; omega, S[q - 1].cells 24, ⟨by omega, S[q - 1], by simp [hq1], rfl⟩, by simp, ?_⟩
      rw [List.take_of_length_le (by simp)]
      refine vcCall_at (rOrder_c _ l[i] S[q - 1] rfl) ?_
      simp [s0, s3, s4, s5, hlt, hq0]
      refine ⟨fun hge2 => ?_, fun hlt2 => ?_⟩
      · have h2 : ∀ _ : 0 < q, le S[q - 1] l[i] := fun _ => by unfold le; rw [ordT_anti l[i] S[q - 1]]; simp only; omega
        have hfin := one_core hdS hSs hq hle h2
        rw [hres] at hfin
        refine ⟨fun _ _ _ => True, ?_⟩
        simp (decide := true) [s0, s3, s4, s5, hlt, hq, Tm.cellsL_take, Tm.cellsL_drop]
        refine ⟨by simp (decide := true) [s0, s3, s4, s5, hlt, hq, Tm.cellsL_take, Tm.cellsL_drop], ?_⟩; simp (decide := true) [s0, s3, s4, s5, hlt, hq, Tm.cellsL_take, Tm.cellsL_drop]
        refine ⟨by simp (decide := true) [s0, s3, s4, s5, hlt, hq, Tm.cellsL_take, Tm.cellsL_drop], ?_⟩; simp (decide := true) [s0, s3, s4, s5, hlt, hq, Tm.cellsL_take, Tm.cellsL_drop]
        refine ⟨by simp (decide := true) [s0, s3, s4, s5, hlt, hq, Tm.cellsL_take, Tm.cellsL_drop], ?_⟩; simp (decide := true) [s0, s3, s4, s5, hlt, hq, Tm.cellsL_take, Tm.cellsL_drop]
        refine ⟨by simp (decide := true) [s0, s3, s4, s5, hlt, hq, Tm.cellsL_take, Tm.cellsL_drop], ?_⟩; simp (decide := true) [s0, s3, s4, s5, hlt, hq, Tm.cellsL_take, Tm.cellsL_drop]
        refine ⟨by simp (decide := true) [s0, s3, s4, s5, hlt, hq, Tm.cellsL_take, Tm.cellsL_drop], ?_⟩; simp (decide := true) [s0, s3, s4, s5, hlt, hq, Tm.cellsL_take, Tm.cellsL_drop]
        refine ⟨by simp (decide := true) [s0, s3, s4, s5, hlt, hq, Tm.cellsL_take, Tm.cellsL_drop], ?_⟩; simp (decide := true) [s0, s3, s4, s5, hlt, hq, Tm.cellsL_take, Tm.cellsL_drop]
        refine ⟨by simp (decide := true) [s0, s3, s4, s5, hlt, hq, Tm.cellsL_take, Tm.cellsL_drop], ?_⟩; simp (decide := true) [s0, s3, s4, s5, hlt, hq, Tm.cellsL_take, Tm.cellsL_drop]
        refine ⟨by simp (decide := true) [s0, s3, s4, s5, hlt, hq, Tm.cellsL_take, Tm.cellsL_drop], ?_⟩; simp (decide := true) [s0, s3, s4, s5, hlt, hq, Tm.cellsL_take, Tm.cellsL_drop]
        refine ⟨by simp (decide := true) [s0, s3, s4, s5, hlt, hq, Tm.cellsL_take, Tm.cellsL_drop], ?_⟩; simp (decide := true) [s0, s3, s4, s5, hlt, hq, Tm.cellsL_take, Tm.cellsL_drop]
        refine ⟨by simp (decide := true) [s0, s3, s4, s5, hlt, hq, Tm.cellsL_take, Tm.cellsL_drop], ?_⟩; simp (decide := true) [s0, s3, s4, s5, hlt, hq, Tm.cellsL_take, Tm.cellsL_drop]
        refine ⟨by simp (decide := true) [s0, s3, s4, s5, hlt, hq, Tm.cellsL_take, Tm.cellsL_drop], ?_⟩; simp (decide := true) [s0, s3, s4, s5, hlt, hq, Tm.cellsL_take, Tm.cellsL_drop]
        refine vcThenQ_of (fun r Z => r = .own st.length 0 ∧ Z = st ++ [.row 24 0 true ([])]) rfl (by simp) rfl (by simp (decide := true) [vcI, s0, s3, s4, s5, hlt, hq, Tm.cellsL_take, Tm.cellsL_drop, Tm.cellsL]) (fun _ _ _ => trivial) ?_
        rintro r Z ⟨rfl, rfl⟩ _
        simp (decide := true) [s0, s3, s4, s5, hlt, hq, Tm.cellsL_take, Tm.cellsL_drop]
        refine vcThenQ_of (fun r Z => r = .own st.length 1 ∧ Z = st ++ [.row 24 1 true (Tm.cellsL 24 (S.take q))]) rfl (by simp) rfl (by simp (decide := true) [vcI, s0, s3, s4, s5, hlt, hq, Tm.cellsL_take, Tm.cellsL_drop, Tm.cellsL]; first | omega | exact ⟨by omega, by rw [List.take_of_length_le (by simp)]⟩) (fun _ _ _ => trivial) ?_
        rintro r Z ⟨rfl, rfl⟩ _
        simp (decide := true) [s0, s3, s4, s5, hlt, hq, Tm.cellsL_take, Tm.cellsL_drop]
        refine vcThenQ_of (fun r Z => r = .own st.length 2 ∧ Z = st ++ [.row 24 2 true (Tm.cellsL 24 (S.take q ++ [l[i]'hlt]))]) rfl (by simp) rfl (by simp (decide := true) [vcI, s0, s3, s4, s5, hlt, hq, Tm.cellsL_take, Tm.cellsL_drop, Tm.cellsL]; first | omega | exact ⟨by omega, by rw [List.take_of_length_le (by simp)]⟩) (fun _ _ _ => trivial) ?_
        rintro r Z ⟨rfl, rfl⟩ _
        simp (decide := true) [s0, s3, s4, s5, hlt, hq, Tm.cellsL_take, Tm.cellsL_drop]
        refine vcThenQ_of (fun r Z => r = .own st.length 3 ∧ Z = st ++ [.row 24 3 true (Tm.cellsL 24 (S.take q ++ (l[i]'hlt) :: S.drop q))]) rfl (by simp) rfl (by simp (decide := true) [vcI, s0, s3, s4, s5, hlt, hq, Tm.cellsL_take, Tm.cellsL_drop, Tm.cellsL]; first | omega | exact ⟨by omega, by rw [List.take_of_length_le (by simp)]⟩) (fun _ _ _ => trivial) ?_
        rintro r Z ⟨rfl, rfl⟩ _
        simp (decide := true) [s0, s3, s4, s5, hlt, hq, Tm.cellsL_take, Tm.cellsL_drop]
        refine ⟨by simp (decide := true) [s0, s3, s4, s5, hlt, hq, Tm.cellsL_take, Tm.cellsL_drop], ?_⟩; simp (decide := true) [s0, s3, s4, s5, hlt, hq, Tm.cellsL_take, Tm.cellsL_drop]
        exact ⟨by unfold i64ok; omega, l.length - (i + 1), by omega, i + 1, rfl, by omega, ⟨st.length, 3, true, by simp, by rw [← hfin]; simp, by simp⟩, by omega⟩
      · refine ⟨by unfold i64ok; omega, q - 1, by omega, by omega, fun h => Int.le_of_lt hlt2, by omega⟩
  · have hie : i = l.length := by omega
    subst hie
    rw [List.take_length] at hid
    simp [s0, s3, s4, hid]
end Go.T1
end

section
open Go Go.Ab Go.Proofs
namespace Go.T1
def gInv (L : List Tm) (σ : Slots) (st : St) : Prop := ∃ id g al, σ 3 = .own id g ∧ st[id]? = some (.row 24 g al (Tm.cellsL 24 L)) ∧ (L ≠ [] → al = true)
theorem dd_take {s : List Tm} {i : Nat} (hi : i < s.length) : dd [] (s.take (i + 1)) = match (dd [] (s.take i)).getLast? with
    | some y => if (ordT y s[i]).1 = 0 then dd [] (s.take i) else dd [] (s.take i) ++ [s[i]]
    | none => [s[i]] := by
  rw [List.take_add_one, List.getElem?_eq_getElem hi, dd_append]
  simp only [Option.toList, dd]
  cases (dd [] (List.take i s)).getLast? <;> rfl
theorem dd_len : ∀ (l out : List Tm), (dd out l).length ≤ out.length + l.length
  | [], out => by simp [dd]
  | x :: xs, out => by
    simp only [dd]
    split
    · split
      · have := dd_len xs out; simp; omega
      · have := dd_len xs (out ++ [x]); simp at this; simp; omega
    · rename_i h
      have : out = [] := by simpa using h
      subst this
      have := dd_len xs [x]; simp at this; simp; omega
set_option maxRecDepth 100000 in
set_option maxHeartbeats 1000000 in
theorem rMerge_c (l : List Tm) (hd : Dom l) (h256 : l.length ≤ 256) : PureCall T Try.prog 19 [.lst 24 (Tm.cellsL 24 l)] (.lst 24 (Tm.cellsL 24 (mergeT l))) := by
  obtain ⟨s, hs⟩ : ∃ s, s = sortT l := ⟨_, rfl⟩
  have hsl : s.length = l.length := by rw [hs, sort_len]
  refine PureCall.of_vc hT [] [] follows Try.call19 Try.func19 rfl (drawsOk_of3 (by kernel_rfl)) (by simp [AV.pure, AV.pureL]) (by simp [AV.pure]) ?_
  unfold Try.f19 mergeT
  simp
  refine vcCall_at (rSort_c l hd h256) ?_
  rw [← hs]
  simp
  refine vcC_loop [(24, .slot 3)] (fun m σ st => ∃ i : Nat, m = s.length - i ∧ i ≤ s.length ∧ gInv (dd [] (s.take i)) σ st ∧ σ 4 = .lst 24 (Tm.cellsL 24 s) ∧ σ 5 = .sc (.int .i64 i)) s.length ?_ ?_
  · refine ⟨rfl, ?_⟩
    exact ⟨0, by simp, by simp, ⟨0, 0, false, by simp [dd, Tm.cellsL]⟩, by simp⟩
  rintro m σ st ⟨i, rfl, hi, ⟨id, g, al, s3, hid, hal⟩, s4, s5⟩
  rcases Nat.lt_or_ge i s.length with hlt | hge
  · have hdd := dd_take hlt
    obtain ⟨D, hD⟩ : ∃ D, D = dd [] (s.take i) := ⟨_, rfl⟩
    rw [← hD] at hdd hid hal
    have hDl : D.length ≤ i := by rw [hD]; have := dd_len (s.take i) []; simp at this; omega
    have sid := fun b => get_set (b := b) hid
    rcases List.eq_nil_or_concat D with rfl | ⟨D', y, rfl⟩
    · simp at hdd
      simp [s3, s4, s5, hlt, hid]
      intros
      refine ⟨by unfold i64ok; omega, s.length - (i + 1), by omega, i + 1, rfl, by omega, ⟨id, g + 1, true, by simp, ?_, by simp⟩, by omega⟩
      rw [hdd, sid]; simp [Tm.cellsL]
    · simp only [List.concat_eq_append] at *
      have hal' := hal (by simp)
      have hD2 : D'.length + 1 ≤ 256 := by simp at hDl; omega
      have h9 : (D'.length + 1 + 1) * 56 ≤ 140737488355328 := Nat.le_trans (Nat.mul_le_mul_right 56 (show D'.length + 1 + 1 ≤ 257 by omega)) (by decide)
      clear hDl
      simp [s3, s4, s5, hlt, hid, hal']
      intros
      simp at hdd
      refine ⟨by unfold i64ok; omega, by omega, vcCall_at (rOrder_c _ y s[i] rfl) ?_⟩
      simp [s3, s4, s5, hlt, hid, hal']
      refine ⟨fun hz => ?_, fun hz => ?_⟩
      · rw [if_pos hz] at hdd
        exact ⟨by unfold i64ok; omega, s.length - (i + 1), by omega, i + 1, rfl, by omega, ⟨id, g, al, by simp [s3], by rw [hdd]; exact hid, by rw [hdd]; exact hal⟩, by omega⟩
      · rw [if_neg hz] at hdd
        have h10 : i64ok ((i : Int) + 1) := by unfold i64ok; omega
        have h11 : D' ++ [y, s[i]] = dd [] (s.take (i + 1)) := by rw [hdd]
        refine ⟨h9, h10, s.length - (i + 1), by omega, i + 1, rfl, by omega, ?_, by omega⟩
        rw [← h11]
        refine ⟨id, g + 1, true, by simp, ?_, by simp⟩
        rw [sid]; simp [Tm.cellsL]
  · have hie : i = s.length := by omega
    subst hie
    rw [List.take_length] at hid
    simp [s3, s4, s5, hid]
end Go.T1
end

section
open Go Go.Ab Go.Proofs
namespace Go.T1
/-- What comes behind a region, kept out of sight. -/
theorem vcLexA_hide {T : Tab} {P : Program} {n : Nat} {ops : Array Oper} {im : List Nat} {l : List Oper} {k : Slots → St → Prop} {σ : Slots} {st : St} {Q : Slots → St → Prop} (h : ∀ K : Slots → St → Prop, (∀ σ' st', Q σ' st' → K σ' st') → vcLexA T P n ops im l K σ st) (hk : ∀ σ' st', Q σ' st' → k σ' st') : vcLexA T P n ops im l k σ st := h k hk
/-- What two are ordered by. -/
abbrev byF : AV := .fn (.func 34) [] []
def rowL (g : Nat) (L : List Tm) : Blk := .row 24 g true (Tm.cellsL 24 L)
theorem fix_row {st : St} (h : Fix st) (d g : Nat) (L : List Tm) : Fix (st.set d (rowL g L)) := fix_set h d fun N S _ => by simp [rowL]
theorem swap_two {A M Z : List Tm} {x y : Tm} {j1 j2 : Nat} (h1 : j1 = A.length) (h2 : j2 = A.length + 1 + M.length) :
    ((A ++ x :: (M ++ y :: Z)).set j1 y).set j2 x = A ++ y :: (M ++ x :: Z) := by
  subst h1 h2
  rw [set_mid rfl]
  have e : A ++ y :: (M ++ y :: Z) = (A ++ y :: M) ++ y :: Z := by simp
  rw [e, set_mid (by simp; omega)]
  simp
theorem swap_two' {A M Z : List Tm} {x y : Tm} {j1 j2 : Nat} (h1 : j1 = A.length) (h2 : j2 = A.length + 1 + M.length) :
    ((A ++ x :: (M ++ y :: Z)).set j2 x).set j1 y = A ++ y :: (M ++ x :: Z) := by
  rw [List.set_comm _ _ (by omega)]
  exact swap_two h1 h2
theorem two_get {A M Z : List Tm} {x y : Tm} {j1 j2 : Nat} (h1 : j1 = A.length) (h2 : j2 = A.length + 1 + M.length) :
    (A ++ x :: (M ++ y :: Z))[j1]? = some x ∧ (A ++ x :: (M ++ y :: Z))[j2]? = some y := by
  subst h1 h2
  have e : A ++ x :: (M ++ y :: Z) = (A ++ x :: M) ++ y :: Z := by simp
  refine ⟨by simp, ?_⟩
  rw [e, List.getElem?_append_right (by simp; omega)]
  have : A.length + 1 + M.length - (A ++ x :: M).length = 0 := by simp; omega
  rw [this]; simp
theorem drop4 (t : Tm) : List.drop 4 (Tm.cells 24 t) = [] := List.drop_of_length_le (by simp)
/-- So far swapped. -/
def swL (P X Q Y S : List Tm) (i : Nat) : List Tm := P ++ (Y.take i ++ (X.drop i ++ (Q ++ (X.take i ++ (Y.drop i ++ S)))))
theorem swL_step {P X Q Y S : List Tm} {i : Nat} (hX : i < X.length) (hY : i < Y.length) :
    ∃ A M Z, swL P X Q Y S i = A ++ X[i] :: (M ++ Y[i] :: Z) ∧ swL P X Q Y S (i + 1) = A ++ Y[i] :: (M ++ X[i] :: Z) ∧ A.length = P.length + i ∧ A.length + 1 + M.length = P.length + X.length + Q.length + i := by
  refine ⟨P ++ Y.take i, X.drop (i + 1) ++ (Q ++ X.take i), Y.drop (i + 1) ++ S, ?_, ?_, by simp; omega, by simp; omega⟩
  · unfold swL
    rw [List.drop_eq_getElem_cons hX, List.drop_eq_getElem_cons hY]
    simp only [List.append_assoc, List.cons_append]
  · unfold swL
    rw [List.take_add_one, List.take_add_one, List.getElem?_eq_getElem hX, List.getElem?_eq_getElem hY]
    simp only [List.append_assoc, List.cons_append, List.nil_append, Option.toList]
set_option maxRecDepth 100000 in
theorem swapRange_c (P X Q Y S : List Tm) (hXY : X.length = Y.length) (hsz : P.length + X.length + Q.length + Y.length + S.length ≤ 256) (st : St) (d g : Nat) (hd : st[d]? = some (rowL g (P ++ (X ++ (Q ++ (Y ++ S)))))) :
    ICall T Try.prog 58 [.own d g, .sc (.int .i64 P.length), .sc (.int .i64 (P.length + X.length + Q.length : Nat)), .sc (.int .i64 X.length), byF] st (fun r st' => r = .tup [] ∧ st' = st.set d (rowL g (P ++ (Y ++ (Q ++ (X ++ S)))))) := by
  obtain ⟨a, ha⟩ : ∃ a, a = P.length := ⟨_, rfl⟩
  obtain ⟨b, hb⟩ : ∃ b, b = P.length + X.length + Q.length := ⟨_, rfl⟩
  rw [← hb, ← ha]
  refine ICall.of_vc hT [] [(3, 21), (3, 23)] follows Try.call58 Try.func58 rfl (drawsOk_of3 (by kernel_rfl)) fun hfix => ?_
  unfold Try.f58
  have e0 : swL P X Q Y S 0 = P ++ (X ++ (Q ++ (Y ++ S))) := by simp [swL]
  have hst : st = st.set d (rowL g (swL P X Q Y S 0)) := by rw [e0, set_same hd]
  have gd : ∀ b, (st.set d b)[d]? = some b := fun b => get_set hd
  simp
  refine vcC_loop [] (fun m σ Z => ∃ i : Nat, m = X.length - i ∧ i ≤ X.length ∧ Z = st.set d (rowL g (swL P X Q Y S i)) ∧ σ 0 = .own d g ∧ σ 1 = .sc (.int .i64 a) ∧ σ 2 = .sc (.int .i64 b) ∧ σ 3 = .sc (.int .i64 X.length) ∧ σ 10 = .sc (.int .i64 i)) X.length ?_ ?_
  · simp
    exact ⟨0, by simp, by simp, hst, by simp⟩
  rintro m σ Z ⟨i, rfl, hi, rfl, s0, s1, s2, s3, s10⟩
  rcases Nat.lt_or_ge i X.length with hlt | hge
  · have hltY : i < Y.length := by omega
    obtain ⟨A, M, Z, eL, eL', a1, a2⟩ := swL_step (P := P) (Q := Q) (S := S) hlt hltY
    obtain ⟨x1, x2⟩ := two_get (x := X[i]) (y := Y[i]) (Z := Z) a1.symm a2.symm
    have hsw := swap_two (x := X[i]) (y := Y[i]) (Z := Z) a1.symm a2.symm
    rw [← hb] at a2 x2 hsw
    rw [← ha] at a1 x1 hsw
    rw [← eL] at x1 x2 hsw
    rw [← eL'] at hsw
    obtain ⟨q1, x1⟩ := List.getElem?_eq_some_iff.1 x1
    obtain ⟨q2, x2⟩ := List.getElem?_eq_some_iff.1 x2
    generalize swL P X Q Y S i = L at *
    have c1 : ((a : Int) + i).toNat = a + i := by omega
    have c2 : ((b : Int) + i).toNat = b + i := by omega
    have n1 : 0 ≤ (a : Int) + i := by omega
    have n2 : 0 ≤ (b : Int) + i := by omega
    have m1 : (a : Int) + i < L.length := by omega
    have m2 : (b : Int) + i < L.length := by omega
    simp [s0, s1, s2, s3, s10, hlt]
    refine ⟨fun o r Z => if o = 21 then Z = st.set d (rowL g (L.set (a + i) (Y[i]'hltY))) else Z = st.set d (rowL g ((L.set (a + i) (Y[i]'hltY)).set (b + i) (X[i]'hlt))), ?_⟩
    simp (decide := true) [s0, s1, s2, s3, s10, c1, c2, gd, rowL, q1, q2, x1, x2, Tm.cellsL_set, n1, n2, m1, m2, drop4]
    refine ⟨by first | (simp (decide := true) [s0, s1, s2, s3, s10, c1, c2, gd, rowL, q1, q2, x1, x2, Tm.cellsL_set, n1, n2, m1, m2, drop4]; done) | (simp (decide := true) [s0, s1, s2, s3, s10, c1, c2, gd, rowL, q1, q2, x1, x2, Tm.cellsL_set, n1, n2, m1, m2, drop4]; unfold i64ok; omega), ?_⟩; simp (decide := true) [s0, s1, s2, s3, s10, c1, c2, gd, rowL, q1, q2, x1, x2, Tm.cellsL_set, n1, n2, m1, m2, drop4]
    refine ⟨by first | (simp (decide := true) [s0, s1, s2, s3, s10, c1, c2, gd, rowL, q1, q2, x1, x2, Tm.cellsL_set, n1, n2, m1, m2, drop4]; done) | (simp (decide := true) [s0, s1, s2, s3, s10, c1, c2, gd, rowL, q1, q2, x1, x2, Tm.cellsL_set, n1, n2, m1, m2, drop4]; unfold i64ok; omega), ?_⟩; simp (decide := true) [s0, s1, s2, s3, s10, c1, c2, gd, rowL, q1, q2, x1, x2, Tm.cellsL_set, n1, n2, m1, m2, drop4]
    refine ⟨by first | (simp (decide := true) [s0, s1, s2, s3, s10, c1, c2, gd, rowL, q1, q2, x1, x2, Tm.cellsL_set, n1, n2, m1, m2, drop4]; done) | (simp (decide := true) [s0, s1, s2, s3, s10, c1, c2, gd, rowL, q1, q2, x1, x2, Tm.cellsL_set, n1, n2, m1, m2, drop4]; unfold i64ok; omega), ?_⟩; simp (decide := true) [s0, s1, s2, s3, s10, c1, c2, gd, rowL, q1, q2, x1, x2, Tm.cellsL_set, n1, n2, m1, m2, drop4]
    refine ⟨by unfold i64ok; omega, ?_⟩
    refine ⟨by first | (simp (decide := true) [s0, s1, s2, s3, s10, c1, c2, gd, rowL, q1, q2, x1, x2, Tm.cellsL_set, n1, n2, m1, m2, drop4]; done) | (simp (decide := true) [s0, s1, s2, s3, s10, c1, c2, gd, rowL, q1, q2, x1, x2, Tm.cellsL_set, n1, n2, m1, m2, drop4]; unfold i64ok; omega), ?_⟩; simp (decide := true) [s0, s1, s2, s3, s10, c1, c2, gd, rowL, q1, q2, x1, x2, Tm.cellsL_set, n1, n2, m1, m2, drop4]
    refine ⟨by first | (simp (decide := true) [s0, s1, s2, s3, s10, c1, c2, gd, rowL, q1, q2, x1, x2, Tm.cellsL_set, n1, n2, m1, m2, drop4]; done) | (simp (decide := true) [s0, s1, s2, s3, s10, c1, c2, gd, rowL, q1, q2, x1, x2, Tm.cellsL_set, n1, n2, m1, m2, drop4]; unfold i64ok; omega), ?_⟩; simp (decide := true) [s0, s1, s2, s3, s10, c1, c2, gd, rowL, q1, q2, x1, x2, Tm.cellsL_set, n1, n2, m1, m2, drop4]
    refine ⟨by first | (simp (decide := true) [s0, s1, s2, s3, s10, c1, c2, gd, rowL, q1, q2, x1, x2, Tm.cellsL_set, n1, n2, m1, m2, drop4]; done) | (simp (decide := true) [s0, s1, s2, s3, s10, c1, c2, gd, rowL, q1, q2, x1, x2, Tm.cellsL_set, n1, n2, m1, m2, drop4]; unfold i64ok; omega), ?_⟩; simp (decide := true) [s0, s1, s2, s3, s10, c1, c2, gd, rowL, q1, q2, x1, x2, Tm.cellsL_set, n1, n2, m1, m2, drop4]
    refine ⟨by first | (simp (decide := true) [s0, s1, s2, s3, s10, c1, c2, gd, rowL, q1, q2, x1, x2, Tm.cellsL_set, n1, n2, m1, m2, drop4]; done) | (simp (decide := true) [s0, s1, s2, s3, s10, c1, c2, gd, rowL, q1, q2, x1, x2, Tm.cellsL_set, n1, n2, m1, m2, drop4]; unfold i64ok; omega), ?_⟩; simp (decide := true) [s0, s1, s2, s3, s10, c1, c2, gd, rowL, q1, q2, x1, x2, Tm.cellsL_set, n1, n2, m1, m2, drop4]
    refine ⟨by unfold i64ok; omega, ?_⟩
    refine ⟨by first | (simp (decide := true) [s0, s1, s2, s3, s10, c1, c2, gd, rowL, q1, q2, x1, x2, Tm.cellsL_set, n1, n2, m1, m2, drop4]; done) | (simp (decide := true) [s0, s1, s2, s3, s10, c1, c2, gd, rowL, q1, q2, x1, x2, Tm.cellsL_set, n1, n2, m1, m2, drop4]; unfold i64ok; omega), ?_⟩; simp (decide := true) [s0, s1, s2, s3, s10, c1, c2, gd, rowL, q1, q2, x1, x2, Tm.cellsL_set, n1, n2, m1, m2, drop4]
    refine ⟨by first | (simp (decide := true) [s0, s1, s2, s3, s10, c1, c2, gd, rowL, q1, q2, x1, x2, Tm.cellsL_set, n1, n2, m1, m2, drop4]; done) | (simp (decide := true) [s0, s1, s2, s3, s10, c1, c2, gd, rowL, q1, q2, x1, x2, Tm.cellsL_set, n1, n2, m1, m2, drop4]; unfold i64ok; omega), ?_⟩; simp (decide := true) [s0, s1, s2, s3, s10, c1, c2, gd, rowL, q1, q2, x1, x2, Tm.cellsL_set, n1, n2, m1, m2, drop4]
    refine ⟨by first | (simp (decide := true) [s0, s1, s2, s3, s10, c1, c2, gd, rowL, q1, q2, x1, x2, Tm.cellsL_set, n1, n2, m1, m2, drop4]; done) | (simp (decide := true) [s0, s1, s2, s3, s10, c1, c2, gd, rowL, q1, q2, x1, x2, Tm.cellsL_set, n1, n2, m1, m2, drop4]; unfold i64ok; omega), ?_⟩; simp (decide := true) [s0, s1, s2, s3, s10, c1, c2, gd, rowL, q1, q2, x1, x2, Tm.cellsL_set, n1, n2, m1, m2, drop4]
    refine ⟨by first | (simp (decide := true) [s0, s1, s2, s3, s10, c1, c2, gd, rowL, q1, q2, x1, x2, Tm.cellsL_set, n1, n2, m1, m2, drop4]; done) | (simp (decide := true) [s0, s1, s2, s3, s10, c1, c2, gd, rowL, q1, q2, x1, x2, Tm.cellsL_set, n1, n2, m1, m2, drop4]; unfold i64ok; omega), ?_⟩; simp (decide := true) [s0, s1, s2, s3, s10, c1, c2, gd, rowL, q1, q2, x1, x2, Tm.cellsL_set, n1, n2, m1, m2, drop4]
    refine ⟨by unfold i64ok; omega, ?_⟩
    refine ⟨by first | (simp (decide := true) [s0, s1, s2, s3, s10, c1, c2, gd, rowL, q1, q2, x1, x2, Tm.cellsL_set, n1, n2, m1, m2, drop4]; done) | (simp (decide := true) [s0, s1, s2, s3, s10, c1, c2, gd, rowL, q1, q2, x1, x2, Tm.cellsL_set, n1, n2, m1, m2, drop4]; unfold i64ok; omega), ?_⟩; simp (decide := true) [s0, s1, s2, s3, s10, c1, c2, gd, rowL, q1, q2, x1, x2, Tm.cellsL_set, n1, n2, m1, m2, drop4]
    refine ⟨by first | (simp (decide := true) [s0, s1, s2, s3, s10, c1, c2, gd, rowL, q1, q2, x1, x2, Tm.cellsL_set, n1, n2, m1, m2, drop4]; done) | (simp (decide := true) [s0, s1, s2, s3, s10, c1, c2, gd, rowL, q1, q2, x1, x2, Tm.cellsL_set, n1, n2, m1, m2, drop4]; unfold i64ok; omega), ?_⟩; simp (decide := true) [s0, s1, s2, s3, s10, c1, c2, gd, rowL, q1, q2, x1, x2, Tm.cellsL_set, n1, n2, m1, m2, drop4]
    refine ⟨by first | (simp (decide := true) [s0, s1, s2, s3, s10, c1, c2, gd, rowL, q1, q2, x1, x2, Tm.cellsL_set, n1, n2, m1, m2, drop4]; done) | (simp (decide := true) [s0, s1, s2, s3, s10, c1, c2, gd, rowL, q1, q2, x1, x2, Tm.cellsL_set, n1, n2, m1, m2, drop4]; unfold i64ok; omega), ?_⟩; simp (decide := true) [s0, s1, s2, s3, s10, c1, c2, gd, rowL, q1, q2, x1, x2, Tm.cellsL_set, n1, n2, m1, m2, drop4]
    refine ⟨by first | (simp (decide := true) [s0, s1, s2, s3, s10, c1, c2, gd, rowL, q1, q2, x1, x2, Tm.cellsL_set, n1, n2, m1, m2, drop4]; done) | (simp (decide := true) [s0, s1, s2, s3, s10, c1, c2, gd, rowL, q1, q2, x1, x2, Tm.cellsL_set, n1, n2, m1, m2, drop4]; unfold i64ok; omega), ?_⟩; simp (decide := true) [s0, s1, s2, s3, s10, c1, c2, gd, rowL, q1, q2, x1, x2, Tm.cellsL_set, n1, n2, m1, m2, drop4]
    refine ⟨by first | (simp (decide := true) [s0, s1, s2, s3, s10, c1, c2, gd, rowL, q1, q2, x1, x2, Tm.cellsL_set, n1, n2, m1, m2, drop4]; done) | (simp (decide := true) [s0, s1, s2, s3, s10, c1, c2, gd, rowL, q1, q2, x1, x2, Tm.cellsL_set, n1, n2, m1, m2, drop4]; unfold i64ok; omega), ?_⟩; simp (decide := true) [s0, s1, s2, s3, s10, c1, c2, gd, rowL, q1, q2, x1, x2, Tm.cellsL_set, n1, n2, m1, m2, drop4]
    refine ⟨by first | (simp (decide := true) [s0, s1, s2, s3, s10, c1, c2, gd, rowL, q1, q2, x1, x2, Tm.cellsL_set, n1, n2, m1, m2, drop4]; done) | (simp (decide := true) [s0, s1, s2, s3, s10, c1, c2, gd, rowL, q1, q2, x1, x2, Tm.cellsL_set, n1, n2, m1, m2, drop4]; unfold i64ok; omega), ?_⟩; simp (decide := true) [s0, s1, s2, s3, s10, c1, c2, gd, rowL, q1, q2, x1, x2, Tm.cellsL_set, n1, n2, m1, m2, drop4]
    refine ⟨by unfold i64ok; omega, ?_⟩
    refine ⟨by first | (simp (decide := true) [s0, s1, s2, s3, s10, c1, c2, gd, rowL, q1, q2, x1, x2, Tm.cellsL_set, n1, n2, m1, m2, drop4]; done) | (simp (decide := true) [s0, s1, s2, s3, s10, c1, c2, gd, rowL, q1, q2, x1, x2, Tm.cellsL_set, n1, n2, m1, m2, drop4]; unfold i64ok; omega), ?_⟩; simp (decide := true) [s0, s1, s2, s3, s10, c1, c2, gd, rowL, q1, q2, x1, x2, Tm.cellsL_set, n1, n2, m1, m2, drop4]
    refine ⟨by first | (simp (decide := true) [s0, s1, s2, s3, s10, c1, c2, gd, rowL, q1, q2, x1, x2, Tm.cellsL_set, n1, n2, m1, m2, drop4]; done) | (simp (decide := true) [s0, s1, s2, s3, s10, c1, c2, gd, rowL, q1, q2, x1, x2, Tm.cellsL_set, n1, n2, m1, m2, drop4]; unfold i64ok; omega), ?_⟩; simp (decide := true) [s0, s1, s2, s3, s10, c1, c2, gd, rowL, q1, q2, x1, x2, Tm.cellsL_set, n1, n2, m1, m2, drop4]
    refine ⟨by first | (simp (decide := true) [s0, s1, s2, s3, s10, c1, c2, gd, rowL, q1, q2, x1, x2, Tm.cellsL_set, n1, n2, m1, m2, drop4]; done) | (simp (decide := true) [s0, s1, s2, s3, s10, c1, c2, gd, rowL, q1, q2, x1, x2, Tm.cellsL_set, n1, n2, m1, m2, drop4]; unfold i64ok; omega), ?_⟩; simp (decide := true) [s0, s1, s2, s3, s10, c1, c2, gd, rowL, q1, q2, x1, x2, Tm.cellsL_set, n1, n2, m1, m2, drop4]
    refine ⟨by first | (simp (decide := true) [s0, s1, s2, s3, s10, c1, c2, gd, rowL, q1, q2, x1, x2, Tm.cellsL_set, n1, n2, m1, m2, drop4]; done) | (simp (decide := true) [s0, s1, s2, s3, s10, c1, c2, gd, rowL, q1, q2, x1, x2, Tm.cellsL_set, n1, n2, m1, m2, drop4]; unfold i64ok; omega), ?_⟩; simp (decide := true) [s0, s1, s2, s3, s10, c1, c2, gd, rowL, q1, q2, x1, x2, Tm.cellsL_set, n1, n2, m1, m2, drop4]
    refine ⟨by simp, rfl, by simp (decide := true) [vcI, s0, s1, s2, s3, s10, c1, c2, gd, rowL, q1, q2, x1, x2, Tm.cellsL_set, n1, n2, m1, m2, drop4], ?_⟩
    rintro r Z1 hZ1 _
    simp at hZ1
    subst hZ1
    simp (decide := true) [s0, s1, s2, s3, s10, c1, c2, gd, rowL, q1, q2, x1, x2, Tm.cellsL_set, n1, n2, m1, m2, drop4]
    refine ⟨by first | (simp (decide := true) [s0, s1, s2, s3, s10, c1, c2, gd, rowL, q1, q2, x1, x2, Tm.cellsL_set, n1, n2, m1, m2, drop4]; done) | (simp (decide := true) [s0, s1, s2, s3, s10, c1, c2, gd, rowL, q1, q2, x1, x2, Tm.cellsL_set, n1, n2, m1, m2, drop4]; unfold i64ok; omega), ?_⟩; simp (decide := true) [s0, s1, s2, s3, s10, c1, c2, gd, rowL, q1, q2, x1, x2, Tm.cellsL_set, n1, n2, m1, m2, drop4]
    refine ⟨by simp, rfl, by simp (decide := true) [vcI, s0, s1, s2, s3, s10, c1, c2, gd, rowL, q1, q2, x1, x2, Tm.cellsL_set, n1, n2, m1, m2, drop4], ?_⟩
    rintro r Z2 hZ2 _
    simp at hZ2
    subst hZ2
    simp (decide := true) [s0, s1, s2, s3, s10, c1, c2, gd, rowL, q1, q2, x1, x2, Tm.cellsL_set, n1, n2, m1, m2, drop4]
    exact ⟨by unfold i64ok; omega, X.length - (i + 1), by omega, i + 1, rfl, by omega, by rw [hsw], by omega⟩
  · have hie : i = X.length := by omega
    subst hie
    simp [s0, s1, s2, s3, s10]
    have e1 : swL P X Q Y S X.length = P ++ (Y ++ (Q ++ (X ++ S))) := by
      unfold swL
      rw [List.take_of_length_le (Nat.le_of_eq hXY.symm), List.take_length, List.drop_length, List.drop_of_length_le (Nat.le_of_eq hXY.symm)]
      simp
    rw [e1]
    exact endP_mk (.tup []) (by simp) (by simp) ⟨rfl, (Pre.refl _).cut (fix_row hfix _ _ _) (by simp)⟩
end Go.T1
end

section
open Go Go.Ab Go.Proofs
namespace Go.T1
theorem swapAt {L P X Q Y S : List Tm} {x y z : Int} (hL : L = P ++ (X ++ (Q ++ (Y ++ S)))) (hx : x = P.length) (hy : y = (P.length + X.length + Q.length : Nat)) (hz : z = X.length) (hXY : X.length = Y.length)
    (hsz : L.length ≤ 256) (st : St) (d g : Nat) (hd : st[d]? = some (rowL g L)) :
    ICall T Try.prog 58 [.own d g, .sc (.int .i64 x), .sc (.int .i64 y), .sc (.int .i64 z), byF] st (fun r st' => r = .tup [] ∧ st' = st.set d (rowL g (P ++ (Y ++ (Q ++ (X ++ S)))))) := by
  subst hL hx hy hz
  exact swapRange_c P X Q Y S hXY (by simp at hsz; omega) st d g hd
set_option maxRecDepth 100000 in
theorem rotate_c (P A0 B0 S : List Tm) (hA : A0 ≠ []) (hB : B0 ≠ []) (hsz : P.length + A0.length + B0.length + S.length ≤ 256) (st : St) (d g : Nat) (hd : st[d]? = some (rowL g (P ++ (A0 ++ (B0 ++ S))))) :
    ICall T Try.prog 56 [.own d g, .sc (.int .i64 P.length), .sc (.int .i64 (P.length + A0.length : Nat)), .sc (.int .i64 (P.length + A0.length + B0.length : Nat)), byF] st (fun r st' => r = .tup [] ∧ st' = st.set d (rowL g (P ++ (B0 ++ (A0 ++ S))))) := by
  obtain ⟨a, ha⟩ : ∃ a, a = P.length := ⟨_, rfl⟩
  obtain ⟨m, hm⟩ : ∃ m, m = P.length + A0.length := ⟨_, rfl⟩
  obtain ⟨b, hb⟩ : ∃ b, b = P.length + A0.length + B0.length := ⟨_, rfl⟩
  rw [← hb, ← hm, ← ha]
  refine ICall.of_vc hT [] [(4, 7), (6, 11), (8, 7)] follows Try.call56 Try.func56 rfl (drawsOk_of3 (by kernel_rfl)) fun hfix => ?_
  unfold Try.f56
  have gd : ∀ b, (st.set d b)[d]? = some b := fun b => get_set hd
  have pa : 0 < A0.length := List.length_pos_iff.2 hA
  have pb : 0 < B0.length := List.length_pos_iff.2 hB
  have e1 : (m : Int) - a = (A0.length : Nat) := by omega
  have e2 : (b : Int) - m = (B0.length : Nat) := by omega
  simp [e1, e2]
  refine ⟨by unfold i64ok; omega, by unfold i64ok; omega, ?_⟩
  refine vcC_loop [] (fun w σ Z => ∃ U A B V : List Tm, w = A.length + B.length ∧ U ++ (B ++ (A ++ V)) = B0 ++ A0 ∧ A ≠ [] ∧ B ≠ [] ∧ P.length + U.length + A.length = m ∧ Z = st.set d (rowL g (P ++ (U ++ (A ++ (B ++ (V ++ S)))))) ∧ σ 0 = .own d g ∧ σ 2 = .sc (.int .i64 m) ∧ σ 4 = byF ∧ σ 10 = .sc (.int .i64 A.length) ∧ σ 11 = .sc (.int .i64 B.length)) (A0.length + B0.length) ?_ ?_
  · simp
    exact ⟨[], A0, B0, rfl, [], by simp, hA, hB, by simp [hm], by simp [set_same hd]⟩
  rintro w σ Z ⟨U, A, B, V, rfl, heq, nA, nB, hlen, rfl, s0, s2, s4, s10, s11⟩
  have hl := congrArg List.length heq
  simp at hl
  have qa : 0 < A.length := List.length_pos_iff.2 nA
  have qb : 0 < B.length := List.length_pos_iff.2 nB
  have hsize : (P ++ (U ++ (A ++ (B ++ (V ++ S))))).length ≤ 256 := by simp; omega
  have hrow := gd (rowL g (P ++ (U ++ (A ++ (B ++ (V ++ S))))))
  by_cases hne : A.length = B.length
  · simp [s0, s2, s4, s10, s11, hne]
    refine ⟨by unfold i64ok; omega, vcICall_of (swapAt (P := P ++ U) (X := A) (Q := []) (Y := B) (S := V ++ S) (by simp) (by simp; omega) (by simp; omega) (by omega) hne hsize _ d g hrow) ?_⟩
    rintro r Z ⟨rfl, rfl⟩ _
    have e3 : P ++ U ++ (B ++ ([] ++ (A ++ (V ++ S)))) = P ++ (B0 ++ (A0 ++ S)) := by
      have : P ++ (U ++ (B ++ (A ++ V)) ++ S) = P ++ (B0 ++ A0 ++ S) := by rw [heq]
      simpa using this
    rw [e3]
    simp
    exact endP_mk (.tup []) (by simp) (by simp) ⟨rfl, (Pre.refl _).cut (fix_row hfix _ _ _) (by simp)⟩
  · have hne' : ¬ (A.length : Int) = B.length := by omega
    by_cases hgt : B.length < A.length
    · have hgt' : (B.length : Int) < A.length := by omega
      obtain ⟨A1, A2, hA12, l1⟩ : ∃ A1 A2, A = A1 ++ A2 ∧ A1.length = B.length := ⟨A.take B.length, A.drop B.length, (List.take_append_drop ..).symm, by simp; omega⟩
      have l2 : A.length = A1.length + A2.length := by rw [hA12]; simp
      simp [s0, s2, s4, s10, s11, hne', hgt']
      refine ⟨by unfold i64ok; omega, vcICall_of (swapAt (P := P ++ U) (X := A1) (Q := A2) (Y := B) (S := V ++ S) (by rw [hA12]; simp) (by simp; omega) (by simp; omega) (by omega) l1 hsize _ d g hrow) ?_⟩
      rintro r Z ⟨rfl, rfl⟩ _
      simp [s0, s2, s4, s10, s11]
      refine ⟨by unfold i64ok; omega, A.length, by omega, U ++ B, A2, A1, by omega, V, ?_, ?_, ?_, ?_, ?_, by omega, by omega⟩
      · rw [← heq, hA12]; simp
      · intro h; have h9 := congrArg List.length h; rw [List.length_nil] at h9; omega
      · intro h; have h9 := congrArg List.length h; rw [List.length_nil] at h9; omega
      · simp; omega
      · simp
    · have hgt' : ¬ (B.length : Int) < A.length := by omega
      have hgt2 : (A.length : Int) ≤ B.length := by omega
      obtain ⟨B1, B2, hB12, l1⟩ : ∃ B1 B2, B = B1 ++ B2 ∧ B2.length = A.length := ⟨B.take (B.length - A.length), B.drop (B.length - A.length), (List.take_append_drop ..).symm, by simp; omega⟩
      have l2 : B.length = B1.length + B2.length := by rw [hB12]; simp
      simp [s0, s2, s4, s10, s11, hne', hgt']
      refine ⟨by unfold i64ok; omega, by unfold i64ok; omega, by unfold i64ok; omega, vcICall_of (swapAt (P := P ++ U) (X := A) (Q := B1) (Y := B2) (S := V ++ S) (by rw [hB12]; simp) (by simp; omega) (by simp; omega) rfl l1.symm hsize _ d g hrow) ?_⟩
      rintro r Z ⟨rfl, rfl⟩ _
      simp [s0, s2, s4, s10, s11]
      refine ⟨by unfold i64ok; omega, B.length, by omega, U, B2, B1, by omega, A ++ V, ?_, ?_, ?_, ?_, ?_, by omega, by omega⟩
      · rw [← heq, hB12]; simp
      · intro h; have h9 := congrArg List.length h; rw [List.length_nil] at h9; omega
      · intro h; have h9 := congrArg List.length h; rw [List.length_nil] at h9; omega
      · omega
      · simp
end Go.T1
end
