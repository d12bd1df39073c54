/- Contracts of Call and of its answer, and what the statements of chapter 21 hand back: true, at every name, term, list of terms and number. -/
import Derived.Test.YtbkflaajlkopaaaGreatW5
set_option linter.unusedSimpArgs false
set_option linter.unusedVariables false
set_option linter.unusedSectionVars false
set_option linter.unnecessarySimpa false
section
open Go Go.Ab Go.Proofs
namespace Go.T1
theorem var_check {v : Int} : (Tm.var v).check = 0 ↔ 0 ≤ v ∧ v < 1073741824 := by
  rw [check_iff]
  simp [Tm.var, Tm.right, Tm.rightL, partB, Tm.depth, Tm.depthL, Tm.size, Tm.sizeL]
theorem repF_fresh {next m : Int} {N : Nat} (h1 : 0 ≤ m) (h2 : m < N) : repF (freshB next N) m = Tm.var (next + m) := by
  obtain ⟨k, rfl⟩ := Int.eq_ofNat_of_zero_le h1
  have hk : k < N := by omega
  simp [repF, freshB, hk]
theorem mem_fresh {next : Int} {N : Nat} {x : Tm} : x ∈ freshB next N ↔ ∃ i : Nat, i < N ∧ x = Tm.var (next + i) := by
  simp [freshB, eq_comm]
theorem renT_num (t : Tm) : renT t = numT (t.vars []) t := rfl
theorem renT_occ (t : Tm) (m : Int) : m ∈ (renT t).occ ↔ 0 ≤ m ∧ m < (t.vars []).length := by
  have h := Tm.num_vars0 t
  rw [← renT_num] at h
  have h2 := Tm.mem_vars (renT t) [] m
  rw [h, mem_iota] at h2
  simp at h2
  exact h2.symm
theorem copied_check {t : Tm} (ht : t.check = 0) (next : Int) : (copiedB t next).check = 0 ↔ ∀ x ∈ freshB next (t.vars []).length, x.check = 0 := by
  have hr := Tm.num_check (check_small ht) ht
  rw [← renT_num] at hr
  constructor
  · intro h x hx
    obtain ⟨i, hi, rfl⟩ := mem_fresh.1 hx
    have h1 : ((i : Nat) : Int) ∈ (renT t).occ := (renT_occ t i).2 ⟨by omega, by omega⟩
    have h2 : next + (i : Int) ∈ (copiedB t next).occ := by
      refine (Tm.occ_sub _ _ _).2 ⟨i, h1, ?_⟩
      rw [repF_fresh (by omega) (by omega)]
      simp [Tm.var, Tm.occ]
    exact var_check.2 (Tm.occ_pos _ ((check_iff _).1 h).1 _ h2)
  · intro h
    have h1 := Tm.sub_like (repF (freshB next (t.vars []).length)) (renT t) ((check_iff _).1 hr).1 fun n hn => by
      have h2 := (renT_occ t n).1 hn
      refine ⟨next + n, repF_fresh h2.1 h2.2, ?_⟩
      obtain ⟨k, rfl⟩ := Int.eq_ofNat_of_zero_le h2.1
      exact var_check.1 (h _ (mem_fresh.2 ⟨k, by omega, rfl⟩))
    have h2 := (check_iff _).1 hr
    rw [check_iff]
    refine ⟨h1.1, ?_, ?_⟩
    · show ((renT t).sub _).depth ≤ 200; rw [h1.2.2]; exact h2.2.1
    · show ((renT t).sub _).size ≤ 4096; rw [h1.2.1]; exact h2.2.2
/-- What the program's own copied hands back. -/
def copB (t : Tm) (next : Int) : Tm := if (copiedB t next).check = 0 then copiedB t next else Tm.zero
set_option maxRecDepth 100000 in
theorem copied1_c (t : Tm) (ht : t.small) : PureCall T Tryz.prog 112 [t.av 26] (.sc (.bool (!decide (t.check = 0)))) := by
  refine PureCall.of_vc hT [] [] follows Tryz.call112 Tryz.func112 rfl (by kernel_rfl) (by simp [AV.pure, AV.pureL]) rfl ?_
  unfold Tryz.f112
  simp
  refine vcCall_at (check_c t ht) ?_
  simp
theorem var_small (v : Int) : (Tm.var v).small := by simp [Tm.small, Tm.var, Tm.size, Tm.sizeL]
theorem vars_le {t : Tm} (ht : t.check = 0) : (t.vars []).length ≤ 4096 := by
  have h1 := Tm.vars_len t []
  have h2 := ((check_iff _).1 ht).2.2
  simp at h1; omega
set_option maxRecDepth 100000 in
theorem copied_c (t : Tm) (next : Int) (ht : t.check = 0) (h1 : -2199023255552 ≤ next) (h2 : next ≤ 2199023255552) : PureCall T Tryz.prog 77 [t.av 26, .sc (.int .i64 next)] ((copB t next).av 26) := by
  have hv := vars_le ht
  have hr := Tm.num_check (check_small ht) ht
  rw [← renT_num] at hr
  have hcc := copied_check ht next
  refine PureCall.of_vc hT [] [] follows Tryz.call77 Tryz.func77 rfl (by kernel_rfl) (by simp [AV.pure, AV.pureL]) (by simp [AV.pure]) ?_
  unfold Tryz.f77 copB
  simp
  have hren := Rename_c t (small_ok ht)
  rw [if_pos ht, if_pos ht] at hren
  refine vcCall_at hren ?_
  simp
  refine vcCall_at (fresh_c next _ h1 h2 (by omega)) ?_
  simp
  refine vcCall_at (containsFunc_c 112 [] [] rfl (fun x => !decide (x.check = 0)) (freshB next (t.vars []).length) fun x hx => copied1_c x ?_) ?_
  · obtain ⟨i, _, rfl⟩ := mem_fresh.1 hx
    exact var_small _
  by_cases hc : (copiedB t next).check = 0
  · have hf := hcc.1 hc
    have e1 : (freshB next (t.vars []).length).any (fun x => !decide (x.check = 0)) = false := by
      rw [List.any_eq_false]; intro x hx; simp [hf x hx]
    rw [e1]
    simp [hc]
    have hrep := Replace_c (renT t) (freshB next (t.vars []).length) (small_ok hr) (fun x hx => small_ok (hf x hx)) (fun _ _ => small_ok hc)
    have e2 : replT (renT t) (freshB next (t.vars []).length) = copiedB t next := by
      unfold replT
      rw [if_pos ⟨hr, hf, hc⟩]; rfl
    rw [e2] at hrep
    refine vcCall_at hrep ?_
    simp
  · have e1 : (freshB next (t.vars []).length).any (fun x => !decide (x.check = 0)) = true := by
      rw [List.any_eq_true]
      refine Classical.byContradiction fun hno => hc (hcc.2 fun x hx => Classical.byContradiction fun hx2 => hno ⟨x, hx, by simp [hx2]⟩)
    rw [e1]
    simp [hc]
    simp [Tm.zero, Tm.cells, Tm.cellsL]
    rfl
set_option maxRecDepth 100000 in
theorem rcopied_c (t : Tm) (next : Int) (ht : t.check = 0) (h1 : -2199023255552 ≤ next) (h2 : next ≤ 2199023255552) : PureCall T Tryz.prog 90 [t.av 26, .sc (.int .i64 next)] ((copiedB t next).av 26) := by
  have hv := vars_le ht
  have hr := Tm.num_check (check_small ht) ht
  rw [← renT_num] at hr
  refine PureCall.of_vc hT [] [(100007, 7)] follows Tryz.call90 Tryz.func90 rfl (by kernel_rfl) (by simp [AV.pure, AV.pureL]) (by simp [AV.pure]) ?_
  unfold Tryz.f90 copiedB
  simp
  refine vcCall_at (rRename_c t (small_ok ht)) ?_
  simp
  generalize (t.vars []).length = k at hv
  refine vcC_loop [(26, .slot 7)] (fun m σ Z => ∃ (i : Nat) (al : Bool), m = k - i ∧ i ≤ k ∧ σ 1 = .sc (.int .i64 next) ∧ σ 4 = .ptr 0 0 ∧ σ 5 = .eptr (Tm.cells 26 (renT t)) ∧ σ 6 = .sc (.int .i64 k) ∧ σ 7 = .own 1 i ∧ σ 8 = .sc (.int .i64 i) ∧
    Z = [.cells [.sc (.int .i64 0), .sc (.int .i64 0), .sc (.string .empty), .nils], .row 26 i al (Tm.cellsL 26 (freshB next i))]) k ?_ ?_
  · simp
    refine ⟨0, ?_⟩
    simp [freshB, Tm.cellsL, Tm.cells, Tm.zero]
  rintro m σ Z ⟨i, al, rfl, hi, s1, s4, s5, s6, s7, s8, rfl⟩
  rcases Nat.lt_or_ge i k with hlt | hge
  · simp [s1, s4, s5, s6, s7, s8, hlt]
    refine ⟨by unfold i64ok; omega, ?_⟩
    refine vcCall_at (rVar_c _) ?_
    simp [s1, s4, s5, s6, s7, s8]
    refine ⟨by omega, by unfold i64ok; omega, k - (i + 1), by omega, i + 1, rfl, by omega, rfl, ?_⟩
    rw [freshB_succ, Tm.cellsL_append]
    exact ⟨by omega, rfl, rfl⟩
  · have hi' : i = k := by omega
    subst hi'
    simp [s1, s4, s5, s6, s7, s8]
    refine vcC_fzF (d := 7) (i' := 1) (g := i) rfl (by simp [s7]) rfl ?_
    simp [s1, s4, s5, s6, s7, s8]
    refine vcCall_at (rReplace_c (freshB next i) (renT t) ((check_iff _).1 hr).1) ?_
    simp [s4]
end Go.T1
end

section
open Go Go.Ab Go.Proofs
namespace Go.T1
set_option maxRecDepth 100000 in
theorem single_c (op : ByteArray) (t : Tm) : PureCall T Tryz.prog 51 [.sc (.string op), t.av 26] (.agg (singleB op t).c) := by
  refine PureCall.of_vc hT [] [] follows Tryz.call51 Tryz.func51 rfl (by kernel_rfl) (by simp [AV.pure, AV.pureL]) (by simp [AV.pure]) ?_
  unfold Tryz.f51 singleB
  simp
  by_cases o0 : op = ⟨#[118, 97, 114]⟩
  · simp [o0]
    refine vcCall_at (is_c t 1) ?_
    simp
    refine vcCall_at (when_c _) ?_
    simp
  simp [o0]
  by_cases o1 : op = ⟨#[110, 111, 110, 118, 97, 114]⟩
  · simp [o1]
    refine vcCall_at (is_c t 1) ?_
    simp
    refine vcCall_at (when_c _) ?_
    simp
  simp [o1]
  by_cases o2 : op = ⟨#[97, 116, 111, 109]⟩
  · simp [o2]
    refine vcCall_at (is_c t 3) ?_
    simp
    refine vcCall_at (when_c _) ?_
    simp
  simp [o2]
  by_cases o3 : op = ⟨#[105, 110, 116, 101, 103, 101, 114]⟩
  · simp [o3]
    refine vcCall_at (is_c t 2) ?_
    simp
    refine vcCall_at (when_c _) ?_
    simp
  simp [o3]
  refine vcCall_at (is_c t 4) ?_
  simp
  refine vcCall_at (when_c _) ?_
  simp
def strL (l : List ByteArray) : List (List AV) := l.map fun s => [.sc (.string s)]
@[simp] theorem strL_len (l : List ByteArray) : (strL l).length = l.length := by simp [strL]
@[simp] theorem strL_pure : ∀ l : List ByteArray, AV.pureM (strL l) = true
  | [] => rfl
  | s :: l => by have := strL_pure l; unfold strL at this ⊢; simp [AV.pureM, AV.pureL, AV.pure, this]
@[simp] theorem strL_getElem (l : List ByteArray) (i : Nat) (h : i < (strL l).length) : (strL l)[i] = [.sc (.string (l[i]'(by simpa using h)))] := by simp [strL]
set_option maxRecDepth 100000 in
theorem in_c (s : ByteArray) (l : List ByteArray) : PureCall T Tryz.prog 36 [.sc (.string s), .lst 9 (strL l)] (.sc (.bool (l.any fun x => decide (s = x)))) := by
  refine PureCall.of_vc hT [] [] follows Tryz.call36 Tryz.func36 rfl (by kernel_rfl) (by simp [AV.pure, AV.pureL]) rfl ?_
  unfold Tryz.f36
  simp
  refine vcC_loop [] (fun m σ Z => ∃ i : Nat, m = l.length - i ∧ i ≤ l.length ∧ (l.take i).any (fun x => decide (s = x)) = false ∧ σ 0 = .sc (.string s) ∧ σ 1 = .lst 9 (strL l) ∧ σ 5 = .sc (.int .i64 i) ∧ Z = []) l.length ⟨0, by simp⟩ ?_
  rintro m σ Z ⟨i, rfl, hi, ha, s0, s1, s5, rfl⟩
  rcases Nat.lt_or_ge i l.length with hlt | hge
  · simp [s0, s1, s5, hlt]
    intro hb1 hb2
    refine ⟨fun h => h ▸ List.getElem_mem hlt, fun h => ⟨by unfold i64ok; omega, l.length - (i + 1), by omega, i + 1, rfl, by omega, ?_, by omega⟩⟩
    rw [List.take_add_one, List.getElem?_eq_getElem hlt]
    intro x hx e
    rcases List.mem_append.1 hx with hx | hx
    · rw [List.any_eq_false] at ha
      exact ha x hx (by simp [e])
    · simp at hx
      exact h (by rw [e, hx])
  · have hi' : i = l.length := by omega
    subst hi'
    simp [s0, s1, s5]
    intro _ _ x hx e
    rw [List.take_length, List.any_eq_false] at ha
    have := ha x hx
    simp [e] at this
set_option maxRecDepth 100000 in
theorem rbknown_c (s : ByteArray) (n : Int) : PureCall T Tryz.prog 14 [.sc (.string s), .sc (.int .i64 n)] (.sc (.bool (knownC s n))) := by
  refine PureCall.of_vc hT [] [] follows Tryz.call14 Tryz.func14 rfl (by kernel_rfl) (by simp [AV.pure, AV.pureL]) rfl ?_
  unfold Tryz.f14 knownC
  simp
  by_cases h1 : n = 1
  · subst h1
    simp
    refine ⟨rfl, ?_⟩
    refine vcCall_at (in_c s names1) ?_
    simp
  simp [h1]
  by_cases h2 : n = 2
  · subst h2
    simp
    refine ⟨rfl, ?_⟩
    refine vcCall_at (in_c s names2) ?_
    simp
  simp [h2]
  by_cases h3 : n = 3
  · subst h3
    simp
    refine ⟨rfl, ?_⟩
    refine vcCall_at (in_c s names3) ?_
    simp
  simp [h3]
def inN (l : List ByteArray) (s : ByteArray) : Bool := l.any fun x => decide (s = x)
theorem inN_mem {l : List ByteArray} {s : ByteArray} : inN l s = true ↔ s ∈ l := by simp [inN]
theorem knownC_eq (s : ByteArray) (n : Int) : knownC s n = if n = 1 then inN names1 s else if n = 2 then inN names2 s else if n = 3 then inN names3 s else false := rfl
theorem known1 (s : ByteArray) (n : Int) (h : inN names1 s = true) : knownC s n = decide (n = 1) := by
  have e2 : inN names2 s = false := by
    rw [inN_mem] at h
    simp only [names1, List.mem_cons, List.not_mem_nil, or_false] at h
    rcases h with rfl | rfl | rfl | rfl | rfl <;> decide
  have e3 : inN names3 s = false := by
    rw [inN_mem] at h
    simp only [names1, List.mem_cons, List.not_mem_nil, or_false] at h
    rcases h with rfl | rfl | rfl | rfl | rfl <;> decide
  rw [knownC_eq, h, e2, e3]
  by_cases h1 : n = 1 <;> simp [h1]
theorem known2 (s : ByteArray) (n : Int) (h1 : inN names1 s = false) (h : inN names2 s = true) : knownC s n = decide (n = 2) := by
  have e3 : inN names3 s = false := by
    rw [inN_mem] at h
    simp only [names2, List.mem_cons, List.not_mem_nil, or_false] at h
    rcases h with rfl | rfl | rfl | rfl | rfl | rfl | rfl | rfl | rfl | rfl | rfl | rfl | rfl | rfl | rfl | rfl | rfl | rfl <;> decide
  rw [knownC_eq, h, h1, e3]
  by_cases h1 : n = 2 <;> simp [h1]
theorem known3 (s : ByteArray) (n : Int) (h1 : inN names1 s = false) (h2 : inN names2 s = false) (h : inN names3 s = true) : knownC s n = decide (n = 3) := by
  rw [knownC_eq, h, h1, h2]
  by_cases h1 : n = 3 <;> simp [h1]
set_option maxRecDepth 100000 in
theorem bknown_c (s : ByteArray) (n : Int) : PureCall T Tryz.prog 13 [.sc (.string s), .sc (.int .i64 n)] (.sc (.bool (knownC s n))) := by
  refine PureCall.of_vc hT [] [] follows Tryz.call13 Tryz.func13 rfl (by kernel_rfl) (by simp [AV.pure, AV.pureL]) rfl ?_
  unfold Tryz.f13
  dsimp only
  refine vcC_cut (fun σ Z => σ 1 = .sc (.int .i64 n) ∧ σ 0 = .sc (.string s) ∧ [] = Z) (fun K hK => ?_) ?_
  · simp; exact hK _ _ (by simp)
  rintro σ Z ⟨s1, s0, rfl⟩
  refine vcC_cut (fun σ Z => knownC s n = false ∧ [] = Z) (fun K hK => ?_) ?_
  case refine_2 =>
    rintro σ Z ⟨e, rfl⟩
    simp [e]
  refine vcC_cut (fun σ Z => σ 1 = .sc (.int .i64 n) ∧ σ 5 = .sc (.string s) ∧ [] = Z) (fun K hK => ?_) ?_
  · simp [s0, s1]; exact hK _ _ (by simp [s1])
  clear s0 s1 σ
  rintro σ Z ⟨s1, s5, rfl⟩
  refine vcC_blk (fun σ Z => knownC s n = false ∧ [] = Z) (fun Kc Xc hKc hX hXj => ?_) hK
  clear hK
  refine vcC_cut (fun σ Z => σ 1 = .sc (.int .i64 n) ∧ σ 5 = .sc (.string s) ∧ σ 6 = .sc (.bool (inN names1 s)) ∧ [] = Z) (fun K hK => ?_) ?_
  ·
    refine vcC_cut (fun σ Z => σ 1 = .sc (.int .i64 n) ∧ σ 5 = .sc (.string s) ∧ σ 6 = .sc (.bool (decide (s = ⟨#[118, 97, 114]⟩))) ∧ [] = Z) (fun K hK => ?_) ?_
    · simp [s1, s5]; exact hK _ _ (by simp [s1, s5])
    clear s1 s5 σ
    rintro σ Z ⟨s1, s5, s6, rfl⟩
    by_cases o1 : s = ⟨#[118, 97, 114]⟩
    · refine vcC_condT (by simp [s6, o1]) ?_
      simp
      exact hK _ _ ⟨s1, s5, by rw [s6]; simp [o1, inN, names1], rfl⟩
    refine vcC_condF (by simp [s6, o1]) ?_
    clear s6
    refine vcC_cut (fun σ Z => σ 1 = .sc (.int .i64 n) ∧ σ 5 = .sc (.string s) ∧ σ 6 = .sc (.bool (decide (s = ⟨#[110, 111, 110, 118, 97, 114]⟩))) ∧ [] = Z) (fun K hK => ?_) ?_
    · simp [s1, s5]; exact hK _ _ (by simp [s1, s5])
    clear s1 s5 σ
    rintro σ Z ⟨s1, s5, s6, rfl⟩
    by_cases o2 : s = ⟨#[110, 111, 110, 118, 97, 114]⟩
    · refine vcC_condT (by simp [s6, o2]) ?_
      simp
      exact hK _ _ ⟨s1, s5, by rw [s6]; simp [o2, inN, names1], rfl⟩
    refine vcC_condF (by simp [s6, o2]) ?_
    clear s6
    refine vcC_cut (fun σ Z => σ 1 = .sc (.int .i64 n) ∧ σ 5 = .sc (.string s) ∧ σ 6 = .sc (.bool (decide (s = ⟨#[97, 116, 111, 109]⟩))) ∧ [] = Z) (fun K hK => ?_) ?_
    · simp [s1, s5]; exact hK _ _ (by simp [s1, s5])
    clear s1 s5 σ
    rintro σ Z ⟨s1, s5, s6, rfl⟩
    by_cases o3 : s = ⟨#[97, 116, 111, 109]⟩
    · refine vcC_condT (by simp [s6, o3]) ?_
      simp
      exact hK _ _ ⟨s1, s5, by rw [s6]; simp [o3, inN, names1], rfl⟩
    refine vcC_condF (by simp [s6, o3]) ?_
    clear s6
    refine vcC_cut (fun σ Z => σ 1 = .sc (.int .i64 n) ∧ σ 5 = .sc (.string s) ∧ σ 6 = .sc (.bool (decide (s = ⟨#[105, 110, 116, 101, 103, 101, 114]⟩))) ∧ [] = Z) (fun K hK => ?_) ?_
    · simp [s1, s5]; exact hK _ _ (by simp [s1, s5])
    clear s1 s5 σ
    rintro σ Z ⟨s1, s5, s6, rfl⟩
    by_cases o4 : s = ⟨#[105, 110, 116, 101, 103, 101, 114]⟩
    · refine vcC_condT (by simp [s6, o4]) ?_
      simp
      exact hK _ _ ⟨s1, s5, by rw [s6]; simp [o4, inN, names1], rfl⟩
    refine vcC_condF (by simp [s6, o4]) ?_
    clear s6
    simp [s1, s5]
    exact hK _ _ (by simp [s1, s5, inN, names1, o1, o2, o3, o4])
  clear s1 s5 σ
  rintro σ Z ⟨s1, s5, s6, rfl⟩
  by_cases g1 : inN names1 s = true
  · refine vcC_condT (by simp [s6, g1]) ?_
    have e : knownC s n = decide (n = 1) := known1 s n g1
    simp [s1, e]
  have g1' : inN names1 s = false := by simpa using g1
  refine vcC_condF (by simp [s6, g1']) ?_
  clear s6
  refine vcC_cut (fun σ Z => σ 1 = .sc (.int .i64 n) ∧ σ 5 = .sc (.string s) ∧ σ 14 = .sc (.bool (inN names2 s)) ∧ [] = Z) (fun K hK => ?_) ?_
  ·
    refine vcC_cut (fun σ Z => σ 1 = .sc (.int .i64 n) ∧ σ 5 = .sc (.string s) ∧ σ 14 = .sc (.bool (decide (s = ⟨#[61]⟩))) ∧ [] = Z) (fun K hK => ?_) ?_
    · simp [s1, s5]; exact hK _ _ (by simp [s1, s5])
    clear s1 s5 σ
    rintro σ Z ⟨s1, s5, s6, rfl⟩
    by_cases o6 : s = ⟨#[61]⟩
    · refine vcC_condT (by simp [s6, o6]) ?_
      simp
      exact hK _ _ ⟨s1, s5, by rw [s6]; simp [o6, inN, names2], rfl⟩
    refine vcC_condF (by simp [s6, o6]) ?_
    clear s6
    refine vcC_cut (fun σ Z => σ 1 = .sc (.int .i64 n) ∧ σ 5 = .sc (.string s) ∧ σ 14 = .sc (.bool (decide (s = ⟨#[92, 61]⟩))) ∧ [] = Z) (fun K hK => ?_) ?_
    · simp [s1, s5]; exact hK _ _ (by simp [s1, s5])
    clear s1 s5 σ
    rintro σ Z ⟨s1, s5, s6, rfl⟩
    by_cases o7 : s = ⟨#[92, 61]⟩
    · refine vcC_condT (by simp [s6, o7]) ?_
      simp
      exact hK _ _ ⟨s1, s5, by rw [s6]; simp [o7, inN, names2], rfl⟩
    refine vcC_condF (by simp [s6, o7]) ?_
    clear s6
    refine vcC_cut (fun σ Z => σ 1 = .sc (.int .i64 n) ∧ σ 5 = .sc (.string s) ∧ σ 14 = .sc (.bool (decide (s = ⟨#[61, 61]⟩))) ∧ [] = Z) (fun K hK => ?_) ?_
    · simp [s1, s5]; exact hK _ _ (by simp [s1, s5])
    clear s1 s5 σ
    rintro σ Z ⟨s1, s5, s6, rfl⟩
    by_cases o8 : s = ⟨#[61, 61]⟩
    · refine vcC_condT (by simp [s6, o8]) ?_
      simp
      exact hK _ _ ⟨s1, s5, by rw [s6]; simp [o8, inN, names2], rfl⟩
    refine vcC_condF (by simp [s6, o8]) ?_
    clear s6
    refine vcC_cut (fun σ Z => σ 1 = .sc (.int .i64 n) ∧ σ 5 = .sc (.string s) ∧ σ 14 = .sc (.bool (decide (s = ⟨#[92, 61, 61]⟩))) ∧ [] = Z) (fun K hK => ?_) ?_
    · simp [s1, s5]; exact hK _ _ (by simp [s1, s5])
    clear s1 s5 σ
    rintro σ Z ⟨s1, s5, s6, rfl⟩
    by_cases o9 : s = ⟨#[92, 61, 61]⟩
    · refine vcC_condT (by simp [s6, o9]) ?_
      simp
      exact hK _ _ ⟨s1, s5, by rw [s6]; simp [o9, inN, names2], rfl⟩
    refine vcC_condF (by simp [s6, o9]) ?_
    clear s6
    refine vcC_cut (fun σ Z => σ 1 = .sc (.int .i64 n) ∧ σ 5 = .sc (.string s) ∧ σ 14 = .sc (.bool (decide (s = ⟨#[64, 60]⟩))) ∧ [] = Z) (fun K hK => ?_) ?_
    · simp [s1, s5]; exact hK _ _ (by simp [s1, s5])
    clear s1 s5 σ
    rintro σ Z ⟨s1, s5, s6, rfl⟩
    by_cases o10 : s = ⟨#[64, 60]⟩
    · refine vcC_condT (by simp [s6, o10]) ?_
      simp
      exact hK _ _ ⟨s1, s5, by rw [s6]; simp [o10, inN, names2], rfl⟩
    refine vcC_condF (by simp [s6, o10]) ?_
    clear s6
    refine vcC_cut (fun σ Z => σ 1 = .sc (.int .i64 n) ∧ σ 5 = .sc (.string s) ∧ σ 14 = .sc (.bool (decide (s = ⟨#[64, 62]⟩))) ∧ [] = Z) (fun K hK => ?_) ?_
    · simp [s1, s5]; exact hK _ _ (by simp [s1, s5])
    clear s1 s5 σ
    rintro σ Z ⟨s1, s5, s6, rfl⟩
    by_cases o11 : s = ⟨#[64, 62]⟩
    · refine vcC_condT (by simp [s6, o11]) ?_
      simp
      exact hK _ _ ⟨s1, s5, by rw [s6]; simp [o11, inN, names2], rfl⟩
    refine vcC_condF (by simp [s6, o11]) ?_
    clear s6
    refine vcC_cut (fun σ Z => σ 1 = .sc (.int .i64 n) ∧ σ 5 = .sc (.string s) ∧ σ 14 = .sc (.bool (decide (s = ⟨#[64, 61, 60]⟩))) ∧ [] = Z) (fun K hK => ?_) ?_
    · simp [s1, s5]; exact hK _ _ (by simp [s1, s5])
    clear s1 s5 σ
    rintro σ Z ⟨s1, s5, s6, rfl⟩
    by_cases o12 : s = ⟨#[64, 61, 60]⟩
    · refine vcC_condT (by simp [s6, o12]) ?_
      simp
      exact hK _ _ ⟨s1, s5, by rw [s6]; simp [o12, inN, names2], rfl⟩
    refine vcC_condF (by simp [s6, o12]) ?_
    clear s6
    refine vcC_cut (fun σ Z => σ 1 = .sc (.int .i64 n) ∧ σ 5 = .sc (.string s) ∧ σ 14 = .sc (.bool (decide (s = ⟨#[64, 62, 61]⟩))) ∧ [] = Z) (fun K hK => ?_) ?_
    · simp [s1, s5]; exact hK _ _ (by simp [s1, s5])
    clear s1 s5 σ
    rintro σ Z ⟨s1, s5, s6, rfl⟩
    by_cases o13 : s = ⟨#[64, 62, 61]⟩
    · refine vcC_condT (by simp [s6, o13]) ?_
      simp
      exact hK _ _ ⟨s1, s5, by rw [s6]; simp [o13, inN, names2], rfl⟩
    refine vcC_condF (by simp [s6, o13]) ?_
    clear s6
    refine vcC_cut (fun σ Z => σ 1 = .sc (.int .i64 n) ∧ σ 5 = .sc (.string s) ∧ σ 14 = .sc (.bool (decide (s = ⟨#[61, 46, 46]⟩))) ∧ [] = Z) (fun K hK => ?_) ?_
    · simp [s1, s5]; exact hK _ _ (by simp [s1, s5])
    clear s1 s5 σ
    rintro σ Z ⟨s1, s5, s6, rfl⟩
    by_cases o14 : s = ⟨#[61, 46, 46]⟩
    · refine vcC_condT (by simp [s6, o14]) ?_
      simp
      exact hK _ _ ⟨s1, s5, by rw [s6]; simp [o14, inN, names2], rfl⟩
    refine vcC_condF (by simp [s6, o14]) ?_
    clear s6
    refine vcC_cut (fun σ Z => σ 1 = .sc (.int .i64 n) ∧ σ 5 = .sc (.string s) ∧ σ 14 = .sc (.bool (decide (s = ⟨#[99, 111, 112, 121, 95, 116, 101, 114, 109]⟩))) ∧ [] = Z) (fun K hK => ?_) ?_
    · simp [s1, s5]; exact hK _ _ (by simp [s1, s5])
    clear s1 s5 σ
    rintro σ Z ⟨s1, s5, s6, rfl⟩
    by_cases o15 : s = ⟨#[99, 111, 112, 121, 95, 116, 101, 114, 109]⟩
    · refine vcC_condT (by simp [s6, o15]) ?_
      simp
      exact hK _ _ ⟨s1, s5, by rw [s6]; simp [o15, inN, names2], rfl⟩
    refine vcC_condF (by simp [s6, o15]) ?_
    clear s6
    refine vcC_cut (fun σ Z => σ 1 = .sc (.int .i64 n) ∧ σ 5 = .sc (.string s) ∧ σ 14 = .sc (.bool (decide (s = ⟨#[105, 115]⟩))) ∧ [] = Z) (fun K hK => ?_) ?_
    · simp [s1, s5]; exact hK _ _ (by simp [s1, s5])
    clear s1 s5 σ
    rintro σ Z ⟨s1, s5, s6, rfl⟩
    by_cases o16 : s = ⟨#[105, 115]⟩
    · refine vcC_condT (by simp [s6, o16]) ?_
      simp
      exact hK _ _ ⟨s1, s5, by rw [s6]; simp [o16, inN, names2], rfl⟩
    refine vcC_condF (by simp [s6, o16]) ?_
    clear s6
    refine vcC_cut (fun σ Z => σ 1 = .sc (.int .i64 n) ∧ σ 5 = .sc (.string s) ∧ σ 14 = .sc (.bool (decide (s = ⟨#[61, 58, 61]⟩))) ∧ [] = Z) (fun K hK => ?_) ?_
    · simp [s1, s5]; exact hK _ _ (by simp [s1, s5])
    clear s1 s5 σ
    rintro σ Z ⟨s1, s5, s6, rfl⟩
    by_cases o17 : s = ⟨#[61, 58, 61]⟩
    · refine vcC_condT (by simp [s6, o17]) ?_
      simp
      exact hK _ _ ⟨s1, s5, by rw [s6]; simp [o17, inN, names2], rfl⟩
    refine vcC_condF (by simp [s6, o17]) ?_
    clear s6
    refine vcC_cut (fun σ Z => σ 1 = .sc (.int .i64 n) ∧ σ 5 = .sc (.string s) ∧ σ 14 = .sc (.bool (decide (s = ⟨#[61, 92, 61]⟩))) ∧ [] = Z) (fun K hK => ?_) ?_
    · simp [s1, s5]; exact hK _ _ (by simp [s1, s5])
    clear s1 s5 σ
    rintro σ Z ⟨s1, s5, s6, rfl⟩
    by_cases o18 : s = ⟨#[61, 92, 61]⟩
    · refine vcC_condT (by simp [s6, o18]) ?_
      simp
      exact hK _ _ ⟨s1, s5, by rw [s6]; simp [o18, inN, names2], rfl⟩
    refine vcC_condF (by simp [s6, o18]) ?_
    clear s6
    refine vcC_cut (fun σ Z => σ 1 = .sc (.int .i64 n) ∧ σ 5 = .sc (.string s) ∧ σ 14 = .sc (.bool (decide (s = ⟨#[60]⟩))) ∧ [] = Z) (fun K hK => ?_) ?_
    · simp [s1, s5]; exact hK _ _ (by simp [s1, s5])
    clear s1 s5 σ
    rintro σ Z ⟨s1, s5, s6, rfl⟩
    by_cases o19 : s = ⟨#[60]⟩
    · refine vcC_condT (by simp [s6, o19]) ?_
      simp
      exact hK _ _ ⟨s1, s5, by rw [s6]; simp [o19, inN, names2], rfl⟩
    refine vcC_condF (by simp [s6, o19]) ?_
    clear s6
    refine vcC_cut (fun σ Z => σ 1 = .sc (.int .i64 n) ∧ σ 5 = .sc (.string s) ∧ σ 14 = .sc (.bool (decide (s = ⟨#[62]⟩))) ∧ [] = Z) (fun K hK => ?_) ?_
    · simp [s1, s5]; exact hK _ _ (by simp [s1, s5])
    clear s1 s5 σ
    rintro σ Z ⟨s1, s5, s6, rfl⟩
    by_cases o20 : s = ⟨#[62]⟩
    · refine vcC_condT (by simp [s6, o20]) ?_
      simp
      exact hK _ _ ⟨s1, s5, by rw [s6]; simp [o20, inN, names2], rfl⟩
    refine vcC_condF (by simp [s6, o20]) ?_
    clear s6
    refine vcC_cut (fun σ Z => σ 1 = .sc (.int .i64 n) ∧ σ 5 = .sc (.string s) ∧ σ 14 = .sc (.bool (decide (s = ⟨#[61, 60]⟩))) ∧ [] = Z) (fun K hK => ?_) ?_
    · simp [s1, s5]; exact hK _ _ (by simp [s1, s5])
    clear s1 s5 σ
    rintro σ Z ⟨s1, s5, s6, rfl⟩
    by_cases o21 : s = ⟨#[61, 60]⟩
    · refine vcC_condT (by simp [s6, o21]) ?_
      simp
      exact hK _ _ ⟨s1, s5, by rw [s6]; simp [o21, inN, names2], rfl⟩
    refine vcC_condF (by simp [s6, o21]) ?_
    clear s6
    refine vcC_cut (fun σ Z => σ 1 = .sc (.int .i64 n) ∧ σ 5 = .sc (.string s) ∧ σ 14 = .sc (.bool (decide (s = ⟨#[62, 61]⟩))) ∧ [] = Z) (fun K hK => ?_) ?_
    · simp [s1, s5]; exact hK _ _ (by simp [s1, s5])
    clear s1 s5 σ
    rintro σ Z ⟨s1, s5, s6, rfl⟩
    by_cases o22 : s = ⟨#[62, 61]⟩
    · refine vcC_condT (by simp [s6, o22]) ?_
      simp
      exact hK _ _ ⟨s1, s5, by rw [s6]; simp [o22, inN, names2], rfl⟩
    refine vcC_condF (by simp [s6, o22]) ?_
    clear s6
    simp [s1, s5]
    exact hK _ _ (by simp [s1, s5, inN, names2, o6, o7, o8, o9, o10, o11, o12, o13, o14, o15, o16, o17, o18, o19, o20, o21, o22])
  clear s1 s5 σ
  rintro σ Z ⟨s1, s5, s6, rfl⟩
  by_cases g2 : inN names2 s = true
  · refine vcC_condT (by simp [s6, g2]) ?_
    have e : knownC s n = decide (n = 2) := known2 s n g1' g2
    simp [s1, e]
  have g2' : inN names2 s = false := by simpa using g2
  refine vcC_condF (by simp [s6, g2']) ?_
  clear s6
  refine vcC_cut (fun σ Z => σ 1 = .sc (.int .i64 n) ∧ σ 5 = .sc (.string s) ∧ σ 35 = .sc (.bool (inN names3 s)) ∧ [] = Z) (fun K hK => ?_) ?_
  ·
    refine vcC_cut (fun σ Z => σ 1 = .sc (.int .i64 n) ∧ σ 5 = .sc (.string s) ∧ σ 35 = .sc (.bool (decide (s = ⟨#[99, 111, 109, 112, 97, 114, 101]⟩))) ∧ [] = Z) (fun K hK => ?_) ?_
    · simp [s1, s5]; exact hK _ _ (by simp [s1, s5])
    clear s1 s5 σ
    rintro σ Z ⟨s1, s5, s6, rfl⟩
    by_cases o24 : s = ⟨#[99, 111, 109, 112, 97, 114, 101]⟩
    · refine vcC_condT (by simp [s6, o24]) ?_
      simp
      exact hK _ _ ⟨s1, s5, by rw [s6]; simp [o24, inN, names3], rfl⟩
    refine vcC_condF (by simp [s6, o24]) ?_
    clear s6
    refine vcC_cut (fun σ Z => σ 1 = .sc (.int .i64 n) ∧ σ 5 = .sc (.string s) ∧ σ 35 = .sc (.bool (decide (s = ⟨#[102, 117, 110, 99, 116, 111, 114]⟩))) ∧ [] = Z) (fun K hK => ?_) ?_
    · simp [s1, s5]; exact hK _ _ (by simp [s1, s5])
    clear s1 s5 σ
    rintro σ Z ⟨s1, s5, s6, rfl⟩
    by_cases o25 : s = ⟨#[102, 117, 110, 99, 116, 111, 114]⟩
    · refine vcC_condT (by simp [s6, o25]) ?_
      simp
      exact hK _ _ ⟨s1, s5, by rw [s6]; simp [o25, inN, names3], rfl⟩
    refine vcC_condF (by simp [s6, o25]) ?_
    clear s6
    simp [s1, s5]
    exact hK _ _ (by simp [s1, s5, inN, names3, o24, o25])
  clear s1 s5 σ
  rintro σ Z ⟨s1, s5, s6, rfl⟩
  by_cases g3 : inN names3 s = true
  · refine vcC_condT (by simp [s6, g3]) ?_
    have e : knownC s n = decide (n = 3) := known3 s n g1' g2' g3
    simp [s1, e]
  have g3' : inN names3 s = false := by simpa using g3
  refine vcC_condF (by simp [s6, g3']) ?_
  clear s6
  simp
  exact hKc _ _ ⟨by rw [knownC_eq, g1', g2', g3']; simp, rfl⟩
end Go.T1
end

section
open Go Go.Ab Go.Proofs
namespace Go.T1
mutual
theorem occ_len : ∀ t : Tm, t.occ.length ≤ t.size
  | .mk k n s l => by
    have := occL_len l
    simp only [Tm.occ, Tm.size]
    split
    · simp
    · omega
theorem occL_len : ∀ l : List Tm, (Tm.occL l).length ≤ Tm.sizeL l
  | [] => by simp [Tm.occL, Tm.sizeL]
  | t :: ts => by
    have h1 := occ_len t
    have h2 := occL_len ts
    simp only [Tm.occL, Tm.sizeL, List.length_append]; omega
end
/-- The variables of two. -/
def V2 (a b : Tm) : List Int := a.occ ++ b.occ
theorem V2_l (a b : Tm) : inV (V2 a b) a := fun n h => List.mem_append.2 (.inl h)
theorem V2_r (a b : Tm) : inV (V2 a b) b := fun n h => List.mem_append.2 (.inr h)
theorem V2_lenC {a b : Tm} (ha : a.check = 0) (hb : b.check = 0) : (V2 a b).length ≤ 1000000000 := by
  have h1 := occ_len a
  have h2 := occ_len b
  have h3 := ((check_iff _).1 ha).2.2
  have h4 := ((check_iff _).1 hb).2.2
  simp only [V2, List.length_append]; omega
theorem unB_of {a b : Tm} {rb : Bool} {B : Bs} (h1 : rb = true → Un [] [(a, b)] (some B)) (h2 : rb = false → Un [] [(a, b)] none) : unB a b = rb := by
  unfold unB
  cases rb with
  | true => simp; exact ⟨B, h1 rfl⟩
  | false =>
    simp
    intro B' h
    have := (h2 rfl).det _ h
    cases this
noncomputable def doubleB (op : ByteArray) (a b : Tm) (cp : Tm) (nb : BRes) : BRes :=
  if op = ⟨#[61]⟩ then pairB [a] [b]
  else if op = ⟨#[92, 61]⟩ then whenB (!unB a b)
  else if op = ⟨#[61, 61]⟩ then whenB (decide (a = b))
  else if op = ⟨#[92, 61, 61]⟩ then whenB (!decide (a = b))
  else if op = ⟨#[64, 60]⟩ ∨ op = ⟨#[64, 62]⟩ ∨ op = ⟨#[64, 61, 60]⟩ ∨ op = ⟨#[64, 62, 61]⟩ then orderedB op a b
  else if op = ⟨#[61, 46, 46]⟩ then univB a b
  else if op = ⟨#[99, 111, 112, 121, 95, 116, 101, 114, 109]⟩ then pairB [b] [cp]
  else if op = ⟨#[105, 115]⟩ then evaluateB a b
  else if op = ⟨#[97, 116, 111, 109, 95, 108, 101, 110, 103, 116, 104]⟩ then lengthB a b
  else nb
def nbOf (op : ByteArray) : Bool := !([⟨#[61]⟩, ⟨#[92, 61]⟩, ⟨#[61, 61]⟩, ⟨#[92, 61, 61]⟩, ⟨#[64, 60]⟩, ⟨#[64, 62]⟩, ⟨#[64, 61, 60]⟩, ⟨#[64, 62, 61]⟩, ⟨#[61, 46, 46]⟩, ⟨#[99, 111, 112, 121, 95, 116, 101, 114, 109]⟩, ⟨#[105, 115]⟩, ⟨#[97, 116, 111, 109, 95, 108, 101, 110, 103, 116, 104]⟩].any fun x => decide (op = x))
theorem check2 {a b : Tm} (ha : a.check = 0) (hb : b.check = 0) : (decide (a.check = 0) && decide (b.check = 0) && decide (a = b)) = decide (a = b) := by simp [ha, hb]
set_option maxRecDepth 100000 in
theorem double_c (op : ByteArray) (a b : Tm) (next : Int) (ha : a.check = 0) (hb : b.check = 0) (h1 : -2199023255552 ≤ next) (h2 : next ≤ 2199023255552) :
    PureCall T Tryz.prog 52 [.sc (.string op), a.av 26, b.av 26, .sc (.int .i64 next)] (.agg (doubleB op a b (copB a next) (numbersB op a b)).c) := by
  generalize hR : (doubleB op a b (copB a next) (numbersB op a b)) = R
  unfold doubleB at hR
  refine PureCall.of_vc hT [] [(5, 2)] follows Tryz.call52 Tryz.func52 rfl (drawsOk_of3 (by kernel_rfl)) (by simp [AV.pure, AV.pureL]) (by simp [AV.pure]) ?_
  unfold Tryz.f52
  dsimp only
  refine vcC_cut (fun σ Z => σ 0 = .sc (.string op) ∧ σ 3 = .sc (.int .i64 next) ∧ σ 5 = .eptr (a.cells 26) ∧ σ 6 = .eptr (b.cells 26) ∧ σ 8 = .ptr 0 0 ∧ [.cells zero8] = Z) (fun K hK => ?_) ?_
  · simp; exact hK _ _ (by simp [zero8])
  rintro σ Z ⟨s0, s3, s5, s6, s8, rfl⟩
  refine vcC_cut (fun σ Z => nbOf op = true ∧ σ 0 = .sc (.string op) ∧ σ 5 = .eptr (a.cells 26) ∧ σ 6 = .eptr (b.cells 26) ∧ σ 8 = .ptr 0 0 ∧ [.cells zero8] = Z) (fun K hK => ?_) ?_
  case refine_2 =>
    clear s0 s3 s5 s6 s8 σ
    rintro σ Z ⟨hn, s0, s5, s6, s8, rfl⟩
    simp [s0, s5, s6, s8]
    refine vcCall_at (numbers_c op a b ha hb) ?_
    simp [nbOf] at hn
    obtain ⟨n0, n1, n2, n3, n4, n5, n6, n7, n8, n9, n10, n11⟩ := hn
    rw [if_neg n0, if_neg n1, if_neg n2, if_neg n3, if_neg (by simp [n4, n5, n6, n7]), if_neg n8, if_neg n9, if_neg n10, if_neg n11] at hR
    simp [s8, ← hR, zero8]
  refine vcC_cut (fun σ Z => σ 0 = .sc (.string op) ∧ σ 3 = .sc (.int .i64 next) ∧ σ 5 = .eptr (a.cells 26) ∧ σ 6 = .eptr (b.cells 26) ∧ σ 8 = .ptr 0 0 ∧ σ 11 = .sc (.string op) ∧ [.cells zero8] = Z) (fun K hK => ?_) ?_
  · simp [s0, s3, s5, s6, s8]; exact hK _ _ (by simp [s0, s3, s5, s6, s8])
  clear s0 s3 s5 s6 s8 σ
  rintro σ Z ⟨s0, s3, s5, s6, s8, sO, rfl⟩
  refine vcC_blk (fun σ Z => nbOf op = true ∧ σ 0 = .sc (.string op) ∧ σ 5 = .eptr (a.cells 26) ∧ σ 6 = .eptr (b.cells 26) ∧ σ 8 = .ptr 0 0 ∧ [.cells zero8] = Z) (fun Kc Xc hKc hX hXj => ?_) hK
  clear hK
  refine vcC_cut (fun σ Z => σ 0 = .sc (.string op) ∧ σ 3 = .sc (.int .i64 next) ∧ σ 5 = .eptr (a.cells 26) ∧ σ 6 = .eptr (b.cells 26) ∧ σ 8 = .ptr 0 0 ∧ σ 11 = .sc (.string op) ∧ σ 12 = .sc (.bool (decide (op = ⟨#[61]⟩))) ∧ [.cells zero8] = Z) (fun K hK => ?_) ?_
  · simp [s0, s3, s5, s6, s8, sO]; exact hK _ _ (by simp [s0, s3, s5, s6, s8, sO])
  clear s0 s3 s5 s6 s8 sO σ
  rintro σ Z ⟨s0, s3, s5, s6, s8, sO, sT, rfl⟩
  by_cases o0 : op = ⟨#[61]⟩
  · refine vcC_condT (by simp [sT, o0]) ?_
    clear sT
    have hR' := hR
    simp [o0] at hR'
    clear hR
    simp [s0, s3, s5, s6, s8, sO]
    refine ⟨rfl, ?_⟩
    refine vcCall_at (both2_c a b) ?_
    simp [s8, ← hR', zero8]
  refine vcC_condF (by simp [sT, o0]) ?_
  clear sT
  rw [if_neg o0] at hR
  refine vcC_cut (fun σ Z => σ 0 = .sc (.string op) ∧ σ 3 = .sc (.int .i64 next) ∧ σ 5 = .eptr (a.cells 26) ∧ σ 6 = .eptr (b.cells 26) ∧ σ 8 = .ptr 0 0 ∧ σ 11 = .sc (.string op) ∧ σ 18 = .sc (.bool (decide (op = ⟨#[92, 61]⟩))) ∧ [.cells zero8] = Z) (fun K hK => ?_) ?_
  · simp [s0, s3, s5, s6, s8, sO]; exact hK _ _ (by simp [s0, s3, s5, s6, s8, sO])
  clear s0 s3 s5 s6 s8 sO σ
  rintro σ Z ⟨s0, s3, s5, s6, s8, sO, sT, rfl⟩
  by_cases o1 : op = ⟨#[92, 61]⟩
  · refine vcC_condT (by simp [sT, o1]) ?_
    clear sT
    have hR' := hR
    simp [o1] at hR'
    clear hR
    simp [s0, s3, s5, s6, s8, sO]
    refine vcICall_of (PUnify_c (V2 a b) (V2_lenC ha hb) a b (small_ok ha) (small_ok hb) (V2_l a b) (V2_r a b) _) ?_
    rintro r X (⟨hm, rfl, _⟩ | ⟨hm, rb, B, g, al, rfl, rfl, hal, hok, hin, hy, hn⟩) _
    · exact absurd (by simp [mayE, ha, hb]) hm
    have hu := unB_of hy (fun h => (hn h).1)
    cases rb with
    | false =>
      simp [s8, sST, newSt]
      refine vcCall_at (when_c _) ?_
      simp [s8, ← hR', hu, zero8]
    | true =>
      simp [s8, sST, newSt]
      refine vcCall_at (when_c _) ?_
      simp [s8, ← hR', hu, zero8]
  refine vcC_condF (by simp [sT, o1]) ?_
  clear sT
  rw [if_neg o1] at hR
  refine vcC_cut (fun σ Z => σ 0 = .sc (.string op) ∧ σ 3 = .sc (.int .i64 next) ∧ σ 5 = .eptr (a.cells 26) ∧ σ 6 = .eptr (b.cells 26) ∧ σ 8 = .ptr 0 0 ∧ σ 11 = .sc (.string op) ∧ σ 29 = .sc (.bool (decide (op = ⟨#[61, 61]⟩))) ∧ [.cells zero8] = Z) (fun K hK => ?_) ?_
  · simp [s0, s3, s5, s6, s8, sO]; exact hK _ _ (by simp [s0, s3, s5, s6, s8, sO])
  clear s0 s3 s5 s6 s8 sO σ
  rintro σ Z ⟨s0, s3, s5, s6, s8, sO, sT, rfl⟩
  by_cases o2 : op = ⟨#[61, 61]⟩
  · refine vcC_condT (by simp [sT, o2]) ?_
    clear sT
    have hR' := hR
    simp [o2] at hR'
    clear hR
    have hs := Same_c a b (small_ok ha) (small_ok hb)
    rw [check2 ha hb] at hs
    simp [s0, s3, s5, s6, s8, sO]
    refine vcCall_at hs ?_
    simp
    refine vcCall_at (when_c _) ?_
    simp [s8, ← hR', zero8]
  refine vcC_condF (by simp [sT, o2]) ?_
  clear sT
  rw [if_neg o2] at hR
  refine vcC_cut (fun σ Z => σ 0 = .sc (.string op) ∧ σ 3 = .sc (.int .i64 next) ∧ σ 5 = .eptr (a.cells 26) ∧ σ 6 = .eptr (b.cells 26) ∧ σ 8 = .ptr 0 0 ∧ σ 11 = .sc (.string op) ∧ σ 35 = .sc (.bool (decide (op = ⟨#[92, 61, 61]⟩))) ∧ [.cells zero8] = Z) (fun K hK => ?_) ?_
  · simp [s0, s3, s5, s6, s8, sO]; exact hK _ _ (by simp [s0, s3, s5, s6, s8, sO])
  clear s0 s3 s5 s6 s8 sO σ
  rintro σ Z ⟨s0, s3, s5, s6, s8, sO, sT, rfl⟩
  by_cases o3 : op = ⟨#[92, 61, 61]⟩
  · refine vcC_condT (by simp [sT, o3]) ?_
    clear sT
    have hR' := hR
    simp [o3] at hR'
    clear hR
    have hs := Same_c a b (small_ok ha) (small_ok hb)
    rw [check2 ha hb] at hs
    simp [s0, s3, s5, s6, s8, sO]
    refine vcCall_at hs ?_
    simp
    refine vcCall_at (when_c _) ?_
    simp [s8, ← hR', zero8]
  refine vcC_condF (by simp [sT, o3]) ?_
  clear sT
  rw [if_neg o3] at hR
  refine vcC_cut (fun σ Z => σ 0 = .sc (.string op) ∧ σ 3 = .sc (.int .i64 next) ∧ σ 5 = .eptr (a.cells 26) ∧ σ 6 = .eptr (b.cells 26) ∧ σ 8 = .ptr 0 0 ∧ σ 11 = .sc (.string op) ∧ σ 42 = .sc (.bool (decide (op = ⟨#[64, 60]⟩ ∨ op = ⟨#[64, 62]⟩ ∨ op = ⟨#[64, 61, 60]⟩ ∨ op = ⟨#[64, 62, 61]⟩))) ∧ [.cells zero8] = Z) (fun K hK => ?_) ?_
  · by_cases p1 : op = ⟨#[64, 60]⟩
    · simp [s0, s3, s5, s6, s8, sO, p1]; exact hK _ _ (by simp [s0, s3, s5, s6, s8, sO, p1])
    by_cases p2 : op = ⟨#[64, 62]⟩
    · simp [s0, s3, s5, s6, s8, sO, p2]; exact hK _ _ (by simp [s0, s3, s5, s6, s8, sO, p2])
    by_cases p3 : op = ⟨#[64, 61, 60]⟩
    · simp [s0, s3, s5, s6, s8, sO, p3]; exact hK _ _ (by simp [s0, s3, s5, s6, s8, sO, p3])
    simp [s0, s3, s5, s6, s8, sO, p1, p2, p3]; exact hK _ _ (by simp [s0, s3, s5, s6, s8, sO, p1, p2, p3])
  clear s0 s3 s5 s6 s8 sO σ
  rintro σ Z ⟨s0, s3, s5, s6, s8, sO, sT, rfl⟩
  by_cases o4 : op = ⟨#[64, 60]⟩ ∨ op = ⟨#[64, 62]⟩ ∨ op = ⟨#[64, 61, 60]⟩ ∨ op = ⟨#[64, 62, 61]⟩
  · refine vcC_condT (by simp [sT, o4]) ?_
    clear sT
    have hR' := hR
    rw [if_pos o4] at hR'
    clear hR
    simp [s0, s3, s5, s6, s8, sO]
    refine vcCall_at (ordered_c op a b ha hb) ?_
    simp [s8, ← hR', zero8]
  refine vcC_condF (by simp [sT, o4]) ?_
  clear sT
  rw [if_neg o4] at hR
  refine vcC_cut (fun σ Z => σ 0 = .sc (.string op) ∧ σ 3 = .sc (.int .i64 next) ∧ σ 5 = .eptr (a.cells 26) ∧ σ 6 = .eptr (b.cells 26) ∧ σ 8 = .ptr 0 0 ∧ σ 11 = .sc (.string op) ∧ σ 51 = .sc (.bool (decide (op = ⟨#[61, 46, 46]⟩))) ∧ [.cells zero8] = Z) (fun K hK => ?_) ?_
  · simp [s0, s3, s5, s6, s8, sO]; exact hK _ _ (by simp [s0, s3, s5, s6, s8, sO])
  clear s0 s3 s5 s6 s8 sO σ
  rintro σ Z ⟨s0, s3, s5, s6, s8, sO, sT, rfl⟩
  by_cases o5 : op = ⟨#[61, 46, 46]⟩
  · refine vcC_condT (by simp [sT, o5]) ?_
    clear sT
    have hR' := hR
    simp [o5] at hR'
    clear hR
    simp [s0, s3, s5, s6, s8, sO]
    refine vcCall_at (univ_c a b ha hb) ?_
    simp [s8, ← hR', zero8]
  refine vcC_condF (by simp [sT, o5]) ?_
  clear sT
  rw [if_neg o5] at hR
  refine vcC_cut (fun σ Z => σ 0 = .sc (.string op) ∧ σ 3 = .sc (.int .i64 next) ∧ σ 5 = .eptr (a.cells 26) ∧ σ 6 = .eptr (b.cells 26) ∧ σ 8 = .ptr 0 0 ∧ σ 11 = .sc (.string op) ∧ σ 56 = .sc (.bool (decide (op = ⟨#[99, 111, 112, 121, 95, 116, 101, 114, 109]⟩))) ∧ [.cells zero8] = Z) (fun K hK => ?_) ?_
  · simp [s0, s3, s5, s6, s8, sO]; exact hK _ _ (by simp [s0, s3, s5, s6, s8, sO])
  clear s0 s3 s5 s6 s8 sO σ
  rintro σ Z ⟨s0, s3, s5, s6, s8, sO, sT, rfl⟩
  by_cases o6 : op = ⟨#[99, 111, 112, 121, 95, 116, 101, 114, 109]⟩
  · refine vcC_condT (by simp [sT, o6]) ?_
    clear sT
    have hR' := hR
    simp [o6] at hR'
    clear hR
    simp [s0, s3, s5, s6, s8, sO]
    refine vcCall_at (copied_c a next ha h1 h2) ?_
    simp
    refine ⟨rfl, ?_⟩
    refine vcCall_at (both2_c b _) ?_
    simp [s8, ← hR', zero8]
  refine vcC_condF (by simp [sT, o6]) ?_
  clear sT
  rw [if_neg o6] at hR
  refine vcC_cut (fun σ Z => σ 0 = .sc (.string op) ∧ σ 3 = .sc (.int .i64 next) ∧ σ 5 = .eptr (a.cells 26) ∧ σ 6 = .eptr (b.cells 26) ∧ σ 8 = .ptr 0 0 ∧ σ 11 = .sc (.string op) ∧ σ 64 = .sc (.bool (decide (op = ⟨#[105, 115]⟩))) ∧ [.cells zero8] = Z) (fun K hK => ?_) ?_
  · simp [s0, s3, s5, s6, s8, sO]; exact hK _ _ (by simp [s0, s3, s5, s6, s8, sO])
  clear s0 s3 s5 s6 s8 sO σ
  rintro σ Z ⟨s0, s3, s5, s6, s8, sO, sT, rfl⟩
  by_cases o7 : op = ⟨#[105, 115]⟩
  · refine vcC_condT (by simp [sT, o7]) ?_
    clear sT
    have hR' := hR
    simp [o7] at hR'
    clear hR
    simp [s0, s3, s5, s6, s8, sO]
    refine vcCall_at (evaluate_c a b hb) ?_
    simp [s8, ← hR', zero8]
  refine vcC_condF (by simp [sT, o7]) ?_
  clear sT
  rw [if_neg o7] at hR
  refine vcC_cut (fun σ Z => σ 0 = .sc (.string op) ∧ σ 3 = .sc (.int .i64 next) ∧ σ 5 = .eptr (a.cells 26) ∧ σ 6 = .eptr (b.cells 26) ∧ σ 8 = .ptr 0 0 ∧ σ 11 = .sc (.string op) ∧ σ 69 = .sc (.bool (decide (op = ⟨#[97, 116, 111, 109, 95, 108, 101, 110, 103, 116, 104]⟩))) ∧ [.cells zero8] = Z) (fun K hK => ?_) ?_
  · simp [s0, s3, s5, s6, s8, sO]; exact hK _ _ (by simp [s0, s3, s5, s6, s8, sO])
  clear s0 s3 s5 s6 s8 sO σ
  rintro σ Z ⟨s0, s3, s5, s6, s8, sO, sT, rfl⟩
  by_cases o8 : op = ⟨#[97, 116, 111, 109, 95, 108, 101, 110, 103, 116, 104]⟩
  · refine vcC_condT (by simp [sT, o8]) ?_
    clear sT
    have hR' := hR
    simp [o8] at hR'
    clear hR
    simp [s0, s3, s5, s6, s8, sO]
    refine vcCall_at (length_c a b) ?_
    simp [s8, ← hR', zero8]
  refine vcC_condF (by simp [sT, o8]) ?_
  clear sT
  rw [if_neg o8] at hR
  simp
  refine hKc _ _ ⟨?_, s0, s5, s6, s8, rfl⟩
  simp only [not_or] at o4
  simp [nbOf, o0, o1, o2, o3, o4, o5, o6, o7, o8]
end Go.T1
end

section
open Go Go.Ab Go.Proofs
namespace Go.T1
def numbersR (op : ByteArray) (a b : Tm) : BRes := if (evalR a).bad = true then ballB (evalR a).ball else if (evalR b).bad = true then ballB (evalR b).ball else whenB (cmpI op ((evalR a).n - (evalR b).n))
theorem numbers_same {op : ByteArray} (h : cmpB op = true) (a b : Tm) : numbersB op a b = numbersR op a b := by
  unfold numbersB numbersR cmpA
  by_cases h1 : (evalR a).bad = true
  · simp [h1, h]
  by_cases h2 : (evalR b).bad = true
  · simp [h1, h2, h]
  simp [h1, h2, h]
set_option maxRecDepth 100000 in
theorem rtwo_c (op : ByteArray) (a b : Tm) (next : Int) (ha : a.check = 0) (hb : b.check = 0) (h1 : -2199023255552 ≤ next) (h2 : next ≤ 2199023255552) :
    PureCall T Tryz.prog 57 [.sc (.string op), a.av 26, b.av 26, .sc (.int .i64 next)] (.agg (doubleB op a b (copiedB a next) (numbersR op a b)).c) := by
  generalize hR : (doubleB op a b (copiedB a next) (numbersR op a b)) = R
  unfold doubleB at hR
  refine PureCall.of_vc hT [13] ([(5, 0), (5, 3)] ++ [1, 2, 0, 3, 4, 5, 6].map (Prod.mk 200005)) follows Tryz.call57 Tryz.func57 rfl (drawsOk_of3 (by kernel_rfl)) (by simp [AV.pure, AV.pureL]) (by simp [AV.pure]) ?_
  unfold Tryz.f57
  dsimp only
  refine vcC_cut (fun σ Z => σ 0 = .sc (.string op) ∧ σ 3 = .sc (.int .i64 next) ∧ σ 5 = .eptr (a.cells 26) ∧ σ 6 = .eptr (b.cells 26) ∧ σ 8 = .ptr 0 0 ∧ [.cells zero8] = Z) (fun K hK => ?_) ?_
  · simp; exact hK _ _ (by simp [zero8])
  rintro σ Z ⟨s0, s3, s5, s6, s8, rfl⟩
  refine vcC_cut (fun σ Z => nbOf op = true ∧ σ 0 = .sc (.string op) ∧ σ 5 = .eptr (a.cells 26) ∧ σ 6 = .eptr (b.cells 26) ∧ σ 8 = .ptr 0 0 ∧ [.cells zero8] = Z) (fun K hK => ?_) ?_
  case refine_2 =>
    clear s0 s3 s5 s6 s8 σ
    rintro σ Z ⟨hn, s0, s5, s6, s8, rfl⟩
    simp [s0, s5, s6, s8]
    refine vcCall_at (rEval_c a (small_ok ha)) ?_
    simp [nbOf] at hn
    obtain ⟨n0, n1, n2, n3, n4, n5, n6, n7, n8, n9, n10, n11⟩ := hn
    rw [if_neg n0, if_neg n1, if_neg n2, if_neg n3, if_neg (by simp [n4, n5, n6, n7]), if_neg n8, if_neg n9, if_neg n10, if_neg n11] at hR
    unfold numbersR at hR
    by_cases e1 : (evalR a).bad = true
    · simp [resT, e1] at hR ⊢
      refine vcCall_at (rball_c _) ?_
      simp [s8, ← hR, zero8]
    simp [resT, e1] at hR ⊢
    simp [s0, s5, s6, s8]
    refine vcCall_at (rEval_c b (small_ok hb)) ?_
    by_cases e2 : (evalR b).bad = true
    · simp [resT, e2] at hR ⊢
      refine vcCall_at (rball_c _) ?_
      simp [s8, ← hR, zero8]
    simp [resT, e2] at hR ⊢
    simp [s0, s5, s6, s8]
    refine vcCall_at (rHolds_c op _ _) ?_
    simp
    refine vcCall_at (rholds_c _) ?_
    simp [s8, ← hR, zero8]
  refine vcC_cut (fun σ Z => σ 0 = .sc (.string op) ∧ σ 3 = .sc (.int .i64 next) ∧ σ 5 = .eptr (a.cells 26) ∧ σ 6 = .eptr (b.cells 26) ∧ σ 8 = .ptr 0 0 ∧ σ 16 = .sc (.string op) ∧ [.cells zero8] = Z) (fun K hK => ?_) ?_
  · simp [s0, s3, s5, s6, s8]; exact hK _ _ (by simp [s0, s3, s5, s6, s8])
  clear s0 s3 s5 s6 s8 σ
  rintro σ Z ⟨s0, s3, s5, s6, s8, sO, rfl⟩
  refine vcC_blk (fun σ Z => nbOf op = true ∧ σ 0 = .sc (.string op) ∧ σ 5 = .eptr (a.cells 26) ∧ σ 6 = .eptr (b.cells 26) ∧ σ 8 = .ptr 0 0 ∧ [.cells zero8] = Z) (fun Kc Xc hKc hX hXj => ?_) hK
  clear hK
  refine vcC_cut (fun σ Z => σ 0 = .sc (.string op) ∧ σ 3 = .sc (.int .i64 next) ∧ σ 5 = .eptr (a.cells 26) ∧ σ 6 = .eptr (b.cells 26) ∧ σ 8 = .ptr 0 0 ∧ σ 16 = .sc (.string op) ∧ σ 17 = .sc (.bool (decide (op = ⟨#[61]⟩))) ∧ [.cells zero8] = Z) (fun K hK => ?_) ?_
  · simp [s0, s3, s5, s6, s8, sO]; exact hK _ _ (by simp [s0, s3, s5, s6, s8, sO])
  clear s0 s3 s5 s6 s8 sO σ
  rintro σ Z ⟨s0, s3, s5, s6, s8, sO, sT, rfl⟩
  by_cases o0 : op = ⟨#[61]⟩
  · refine vcC_condT (by simp [sT, o0]) ?_
    clear sT
    have hR' := hR
    simp [o0] at hR'
    clear hR
    simp [s0, s3, s5, s6, s8, sO]
    refine vcCall_at (rpair_c a b) ?_
    simp [s8, ← hR', zero8]
  refine vcC_condF (by simp [sT, o0]) ?_
  clear sT
  rw [if_neg o0] at hR
  refine vcC_cut (fun σ Z => σ 0 = .sc (.string op) ∧ σ 3 = .sc (.int .i64 next) ∧ σ 5 = .eptr (a.cells 26) ∧ σ 6 = .eptr (b.cells 26) ∧ σ 8 = .ptr 0 0 ∧ σ 16 = .sc (.string op) ∧ σ 22 = .sc (.bool (decide (op = ⟨#[92, 61]⟩))) ∧ [.cells zero8] = Z) (fun K hK => ?_) ?_
  · simp [s0, s3, s5, s6, s8, sO]; exact hK _ _ (by simp [s0, s3, s5, s6, s8, sO])
  clear s0 s3 s5 s6 s8 sO σ
  rintro σ Z ⟨s0, s3, s5, s6, s8, sO, sT, rfl⟩
  by_cases o1 : op = ⟨#[92, 61]⟩
  · refine vcC_condT (by simp [sT, o1]) ?_
    clear sT
    have hR' := hR
    simp [o1] at hR'
    clear hR
    simp [s0, s3, s5, s6, s8, sO]
    refine ⟨fun _ _ _ => True, ?_⟩
    simp (decide := true) [s5, s6]
    refine ⟨by simp (decide := true) [s5, s6], ?_⟩; simp (decide := true) [s5, s6]
    refine ⟨by simp (decide := true) [s5, s6], ?_⟩; simp (decide := true) [s5, s6]
    refine vcThenQ_of (fun r st' => r = .ptr 2 0 ∧ st' = [.cells zero8] ++ rNewSt 1) rfl (by simp) rfl (by simp [vcI]; exact rNew_c [.cells zero8]) (fun _ _ _ => trivial) ?_
    rintro r st' ⟨rfl, rfl⟩ _
    simp (decide := true)
    have hu := rUnifyM_c (V2 a b) (V2_lenC ha hb) OkB_nil (fun n t h => by cases h) a b ((check_iff _).1 ha).1 ((check_iff _).1 hb).1 (V2_l a b) (V2_r a b) ([.cells zero8] ++ rNewSt 1) 2 1 3 0 false (RS.new [.cells zero8])
    refine vcThenQ_of _ rfl (by simp) rfl (by simp [vcI]; exact hu) (fun _ _ _ => trivial) ?_
    rintro r st' ⟨rb, B, g, al, rfl, rfl, hal, hok, hin, hy, hn⟩ _
    have hu2 := unB_of hy (fun h => (hn h).1)
    simp (decide := true)
    refine ⟨by simp (decide := true), ?_⟩; simp (decide := true)
    refine vcCall_at (rholds_c _) ?_; simp (decide := true)
    refine ⟨by simp (decide := true), ?_⟩; simp (decide := true) [s8, rST, rNewSt]
    refine ⟨by simp (decide := true), ?_⟩; simp (decide := true) [s8, ← hR', hu2, zero8]
  refine vcC_condF (by simp [sT, o1]) ?_
  clear sT
  rw [if_neg o1] at hR
  refine vcC_cut (fun σ Z => σ 0 = .sc (.string op) ∧ σ 3 = .sc (.int .i64 next) ∧ σ 5 = .eptr (a.cells 26) ∧ σ 6 = .eptr (b.cells 26) ∧ σ 8 = .ptr 0 0 ∧ σ 16 = .sc (.string op) ∧ σ 30 = .sc (.bool (decide (op = ⟨#[61, 61]⟩))) ∧ [.cells zero8] = Z) (fun K hK => ?_) ?_
  · simp [s0, s3, s5, s6, s8, sO]; exact hK _ _ (by simp [s0, s3, s5, s6, s8, sO])
  clear s0 s3 s5 s6 s8 sO σ
  rintro σ Z ⟨s0, s3, s5, s6, s8, sO, sT, rfl⟩
  by_cases o2 : op = ⟨#[61, 61]⟩
  · refine vcC_condT (by simp [sT, o2]) ?_
    clear sT
    have hR' := hR
    simp [o2] at hR'
    clear hR
    simp [s0, s3, s5, s6, s8, sO]
    refine vcCall_at (exact_c a b) ?_
    simp
    refine vcCall_at (rholds_c _) ?_
    simp [s8, ← hR', zero8]
  refine vcC_condF (by simp [sT, o2]) ?_
  clear sT
  rw [if_neg o2] at hR
  refine vcC_cut (fun σ Z => σ 0 = .sc (.string op) ∧ σ 3 = .sc (.int .i64 next) ∧ σ 5 = .eptr (a.cells 26) ∧ σ 6 = .eptr (b.cells 26) ∧ σ 8 = .ptr 0 0 ∧ σ 16 = .sc (.string op) ∧ σ 36 = .sc (.bool (decide (op = ⟨#[92, 61, 61]⟩))) ∧ [.cells zero8] = Z) (fun K hK => ?_) ?_
  · simp [s0, s3, s5, s6, s8, sO]; exact hK _ _ (by simp [s0, s3, s5, s6, s8, sO])
  clear s0 s3 s5 s6 s8 sO σ
  rintro σ Z ⟨s0, s3, s5, s6, s8, sO, sT, rfl⟩
  by_cases o3 : op = ⟨#[92, 61, 61]⟩
  · refine vcC_condT (by simp [sT, o3]) ?_
    clear sT
    have hR' := hR
    simp [o3] at hR'
    clear hR
    simp [s0, s3, s5, s6, s8, sO]
    refine vcCall_at (exact_c a b) ?_
    simp
    refine vcCall_at (rholds_c _) ?_
    simp [s8, ← hR', zero8]
  refine vcC_condF (by simp [sT, o3]) ?_
  clear sT
  rw [if_neg o3] at hR
  refine vcC_cut (fun σ Z => σ 0 = .sc (.string op) ∧ σ 3 = .sc (.int .i64 next) ∧ σ 5 = .eptr (a.cells 26) ∧ σ 6 = .eptr (b.cells 26) ∧ σ 8 = .ptr 0 0 ∧ σ 16 = .sc (.string op) ∧ σ 43 = .sc (.bool (decide (op = ⟨#[64, 60]⟩ ∨ op = ⟨#[64, 62]⟩ ∨ op = ⟨#[64, 61, 60]⟩ ∨ op = ⟨#[64, 62, 61]⟩))) ∧ [.cells zero8] = Z) (fun K hK => ?_) ?_
  · by_cases p1 : op = ⟨#[64, 60]⟩
    · simp [s0, s3, s5, s6, s8, sO, p1]; exact hK _ _ (by simp [s0, s3, s5, s6, s8, sO, p1])
    by_cases p2 : op = ⟨#[64, 62]⟩
    · simp [s0, s3, s5, s6, s8, sO, p2]; exact hK _ _ (by simp [s0, s3, s5, s6, s8, sO, p2])
    by_cases p3 : op = ⟨#[64, 61, 60]⟩
    · simp [s0, s3, s5, s6, s8, sO, p3]; exact hK _ _ (by simp [s0, s3, s5, s6, s8, sO, p3])
    simp [s0, s3, s5, s6, s8, sO, p1, p2, p3]; exact hK _ _ (by simp [s0, s3, s5, s6, s8, sO, p1, p2, p3])
  clear s0 s3 s5 s6 s8 sO σ
  rintro σ Z ⟨s0, s3, s5, s6, s8, sO, sT, rfl⟩
  by_cases o4 : op = ⟨#[64, 60]⟩ ∨ op = ⟨#[64, 62]⟩ ∨ op = ⟨#[64, 61, 60]⟩ ∨ op = ⟨#[64, 62, 61]⟩
  · refine vcC_condT (by simp [sT, o4]) ?_
    clear sT
    have hR' := hR
    rw [if_pos o4] at hR'
    clear hR
    simp [s0, s3, s5, s6, s8, sO]
    refine vcCall_at (rordered_c op a b) ?_
    simp [s8, ← hR', zero8]
  refine vcC_condF (by simp [sT, o4]) ?_
  clear sT
  rw [if_neg o4] at hR
  refine vcC_cut (fun σ Z => σ 0 = .sc (.string op) ∧ σ 3 = .sc (.int .i64 next) ∧ σ 5 = .eptr (a.cells 26) ∧ σ 6 = .eptr (b.cells 26) ∧ σ 8 = .ptr 0 0 ∧ σ 16 = .sc (.string op) ∧ σ 52 = .sc (.bool (decide (op = ⟨#[61, 46, 46]⟩))) ∧ [.cells zero8] = Z) (fun K hK => ?_) ?_
  · simp [s0, s3, s5, s6, s8, sO]; exact hK _ _ (by simp [s0, s3, s5, s6, s8, sO])
  clear s0 s3 s5 s6 s8 sO σ
  rintro σ Z ⟨s0, s3, s5, s6, s8, sO, sT, rfl⟩
  by_cases o5 : op = ⟨#[61, 46, 46]⟩
  · refine vcC_condT (by simp [sT, o5]) ?_
    clear sT
    have hR' := hR
    simp [o5] at hR'
    clear hR
    simp [s0, s3, s5, s6, s8, sO]
    refine vcCall_at (runiv_c a b ha hb) ?_
    simp [s8, ← hR', zero8]
  refine vcC_condF (by simp [sT, o5]) ?_
  clear sT
  rw [if_neg o5] at hR
  refine vcC_cut (fun σ Z => σ 0 = .sc (.string op) ∧ σ 3 = .sc (.int .i64 next) ∧ σ 5 = .eptr (a.cells 26) ∧ σ 6 = .eptr (b.cells 26) ∧ σ 8 = .ptr 0 0 ∧ σ 16 = .sc (.string op) ∧ σ 57 = .sc (.bool (decide (op = ⟨#[99, 111, 112, 121, 95, 116, 101, 114, 109]⟩))) ∧ [.cells zero8] = Z) (fun K hK => ?_) ?_
  · simp [s0, s3, s5, s6, s8, sO]; exact hK _ _ (by simp [s0, s3, s5, s6, s8, sO])
  clear s0 s3 s5 s6 s8 sO σ
  rintro σ Z ⟨s0, s3, s5, s6, s8, sO, sT, rfl⟩
  by_cases o6 : op = ⟨#[99, 111, 112, 121, 95, 116, 101, 114, 109]⟩
  · refine vcC_condT (by simp [sT, o6]) ?_
    clear sT
    have hR' := hR
    simp [o6] at hR'
    clear hR
    simp [s0, s3, s5, s6, s8, sO]
    refine vcCall_at (rcopied_c a next ha h1 h2) ?_
    simp
    refine vcCall_at (rpair_c b _) ?_
    simp [s8, ← hR', zero8]
  refine vcC_condF (by simp [sT, o6]) ?_
  clear sT
  rw [if_neg o6] at hR
  refine vcC_cut (fun σ Z => σ 0 = .sc (.string op) ∧ σ 3 = .sc (.int .i64 next) ∧ σ 5 = .eptr (a.cells 26) ∧ σ 6 = .eptr (b.cells 26) ∧ σ 8 = .ptr 0 0 ∧ σ 16 = .sc (.string op) ∧ σ 64 = .sc (.bool (decide (op = ⟨#[105, 115]⟩))) ∧ [.cells zero8] = Z) (fun K hK => ?_) ?_
  · simp [s0, s3, s5, s6, s8, sO]; exact hK _ _ (by simp [s0, s3, s5, s6, s8, sO])
  clear s0 s3 s5 s6 s8 sO σ
  rintro σ Z ⟨s0, s3, s5, s6, s8, sO, sT, rfl⟩
  by_cases o7 : op = ⟨#[105, 115]⟩
  · refine vcC_condT (by simp [sT, o7]) ?_
    clear sT
    have hR' := hR
    simp [o7] at hR'
    clear hR
    simp [s0, s3, s5, s6, s8, sO]
    refine vcCall_at (rEval_c b (small_ok hb)) ?_
    unfold evaluateB at hR'
    by_cases e1 : (evalR b).bad = true
    · simp [resT, e1] at hR' ⊢
      refine vcCall_at (rball_c _) ?_
      simp [s8, ← hR', zero8]
    simp [resT, e1] at hR' ⊢
    simp [s0, s3, s5, s6, s8, sO]
    refine vcCall_at (rInt_c _) ?_
    simp
    refine vcCall_at (rpair_c a (intT _)) ?_
    simp [s8, ← hR', zero8]
  refine vcC_condF (by simp [sT, o7]) ?_
  clear sT
  rw [if_neg o7] at hR
  refine vcC_cut (fun σ Z => σ 0 = .sc (.string op) ∧ σ 3 = .sc (.int .i64 next) ∧ σ 5 = .eptr (a.cells 26) ∧ σ 6 = .eptr (b.cells 26) ∧ σ 8 = .ptr 0 0 ∧ σ 16 = .sc (.string op) ∧ σ 80 = .sc (.bool (decide (op = ⟨#[97, 116, 111, 109, 95, 108, 101, 110, 103, 116, 104]⟩))) ∧ [.cells zero8] = Z) (fun K hK => ?_) ?_
  · simp [s0, s3, s5, s6, s8, sO]; exact hK _ _ (by simp [s0, s3, s5, s6, s8, sO])
  clear s0 s3 s5 s6 s8 sO σ
  rintro σ Z ⟨s0, s3, s5, s6, s8, sO, sT, rfl⟩
  by_cases o8 : op = ⟨#[97, 116, 111, 109, 95, 108, 101, 110, 103, 116, 104]⟩
  · refine vcC_condT (by simp [sT, o8]) ?_
    clear sT
    have hR' := hR
    simp [o8] at hR'
    clear hR
    obtain ⟨ka, na, sa, la⟩ := a
    unfold lengthB at hR'
    simp [s0, s3, s5, s6, s8, sO, Tm.cells]
    by_cases c1 : ka = 1
    · simp [c1] at hR' ⊢
      refine vcCall_at rinst_c ?_
      simp [s8, ← hR', zero8]
    simp [c1] at hR' ⊢
    try simp [s5, s6, s8, Tm.cells]
    by_cases c2 : ka = 3
    case neg =>
      simp [c2] at hR' ⊢
      try simp [s5, s6, s8, Tm.cells]
      refine vcCall_at (rkind_c _ (Tm.mk ka na sa la)) ?_
      simp [s8, ← hR', zero8]
    simp [c2] at hR' ⊢
    try simp [s5, s6, s8, Tm.cells]
    refine vcCall_at (rInt_c sa.size) ?_
    simp
    refine vcCall_at (rpair_c b (intT _)) ?_
    simp [s8, ← hR', zero8]
  refine vcC_condF (by simp [sT, o8]) ?_
  clear sT
  rw [if_neg o8] at hR
  simp
  refine hKc _ _ ⟨?_, s0, s5, s6, s8, rfl⟩
  simp only [not_or] at o4
  simp [nbOf, o0, o1, o2, o3, o4, o5, o6, o7, o8]
end Go.T1
end

section
open Go Go.Ab Go.Proofs
namespace Go.T1
noncomputable def callB (C : Tm → Int → Tm) (N : ByteArray → Tm → Tm → BRes) (op : ByteArray) (l : List Tm) (next : Int) : BRes :=
  match l with
  | [t] => singleB op t
  | [a, b] => doubleB op a b (C a next) (N op a b)
  | [a, b, c] => if op = ⟨#[99, 111, 109, 112, 97, 114, 101]⟩ then compareB a b c else if op = ⟨#[102, 117, 110, 99, 116, 111, 114]⟩ then functorB a b c next else argB a b c
  | _ => zeroB
set_option maxRecDepth 100000 in
theorem call1_c (op : ByteArray) (t : Tm) (next : Int) : PureCall T Tryz.prog 31 [.sc (.string op), .lst 26 [t.cells 26], .sc (.int .i64 next)] (.agg (singleB op t).c) := by
  refine PureCall.of_vc hT [] [] follows Tryz.call31 Tryz.func31 rfl (drawsOk_of3 (by kernel_rfl)) (by simp [AV.pure, AV.pureL, AV.pureM]) (by simp [AV.pure]) ?_
  unfold Tryz.f31
  simp
  refine vcCall_at (single_c op t) ?_
  simp
set_option maxRecDepth 100000 in
theorem call2_c (op : ByteArray) (a b : Tm) (next : Int) (ha : a.check = 0) (hb : b.check = 0) (h1 : -2199023255552 ≤ next) (h2 : next ≤ 2199023255552) : PureCall T Tryz.prog 31 [.sc (.string op), .lst 26 [a.cells 26, b.cells 26], .sc (.int .i64 next)] (.agg (doubleB op a b (copB a next) (numbersB op a b)).c) := by
  refine PureCall.of_vc hT [] [] follows Tryz.call31 Tryz.func31 rfl (drawsOk_of3 (by kernel_rfl)) (by simp [AV.pure, AV.pureL, AV.pureM]) (by simp [AV.pure]) ?_
  unfold Tryz.f31
  simp
  refine vcCall_at (double_c op a b next ha hb h1 h2) ?_
  simp
set_option maxRecDepth 100000 in
theorem call3_c (op : ByteArray) (a b c : Tm) (next : Int) (hb : b.check = 0) (hc : c.check = 0) (h1 : -2199023255552 ≤ next) (h2 : next ≤ 2199023255552) : PureCall T Tryz.prog 31 [.sc (.string op), .lst 26 [a.cells 26, b.cells 26, c.cells 26], .sc (.int .i64 next)]
    (.agg (if op = ⟨#[99, 111, 109, 112, 97, 114, 101]⟩ then compareB a b c else if op = ⟨#[102, 117, 110, 99, 116, 111, 114]⟩ then functorB a b c next else argB a b c).c) := by
  refine PureCall.of_vc hT [] [] follows Tryz.call31 Tryz.func31 rfl (drawsOk_of3 (by kernel_rfl)) (by simp [AV.pure, AV.pureL, AV.pureM]) (by simp [AV.pure]) ?_
  unfold Tryz.f31
  simp
  by_cases o1 : op = ⟨#[99, 111, 109, 112, 97, 114, 101]⟩
  · simp [o1]
    refine vcCall_at (compare_c a b c hb hc) ?_
    simp
  simp [o1]
  by_cases o2 : op = ⟨#[102, 117, 110, 99, 116, 111, 114]⟩
  · simp [o2]
    refine vcCall_at (functor_c a b c next h1 h2) ?_
    simp
  simp [o2]
  refine vcCall_at (arg_c a b c) ?_
  simp
set_option maxRecDepth 100000 in
theorem rcall1_c (op : ByteArray) (t : Tm) (next : Int) : PureCall T Tryz.prog 34 [.sc (.string op), .lst 26 [t.cells 26], .sc (.int .i64 next)] (.agg (singleB op t).c) := by
  refine PureCall.of_vc hT [] [] follows Tryz.call34 Tryz.func34 rfl (drawsOk_of3 (by kernel_rfl)) (by simp [AV.pure, AV.pureL, AV.pureM]) (by simp [AV.pure]) ?_
  unfold Tryz.f34
  obtain ⟨k, n, s, l⟩ := t
  simp [Tm.cells, singleB]
  by_cases o0 : op = ⟨#[118, 97, 114]⟩
  · simp [o0]
    refine vcCall_at (rholds_c _) ?_
    simp
    exact leL_refl _
  simp [o0]
  by_cases o1 : op = ⟨#[110, 111, 110, 118, 97, 114]⟩
  · simp [o1]
    refine vcCall_at (rholds_c _) ?_
    simp
    exact leL_refl _
  simp [o1]
  by_cases o2 : op = ⟨#[97, 116, 111, 109]⟩
  · simp [o2]
    refine vcCall_at (rholds_c _) ?_
    simp
    exact leL_refl _
  simp [o2]
  by_cases o3 : op = ⟨#[105, 110, 116, 101, 103, 101, 114]⟩
  · simp [o3]
    refine vcCall_at (rholds_c _) ?_
    simp
    exact leL_refl _
  simp [o3]
  refine vcCall_at (rholds_c _) ?_
  simp
  exact leL_refl _
set_option maxRecDepth 100000 in
theorem rcall2_c (op : ByteArray) (a b : Tm) (next : Int) (ha : a.check = 0) (hb : b.check = 0) (h1 : -2199023255552 ≤ next) (h2 : next ≤ 2199023255552) : PureCall T Tryz.prog 34 [.sc (.string op), .lst 26 [a.cells 26, b.cells 26], .sc (.int .i64 next)] (.agg (doubleB op a b (copiedB a next) (numbersR op a b)).c) := by
  refine PureCall.of_vc hT [] [] follows Tryz.call34 Tryz.func34 rfl (drawsOk_of3 (by kernel_rfl)) (by simp [AV.pure, AV.pureL, AV.pureM]) (by simp [AV.pure]) ?_
  unfold Tryz.f34
  simp
  refine vcCall_at (rtwo_c op a b next ha hb h1 h2) ?_
  simp
set_option maxRecDepth 100000 in
theorem rcall3_c (op : ByteArray) (a b c : Tm) (next : Int) (h1 : -2199023255552 ≤ next) (h2 : next ≤ 2199023255552) : PureCall T Tryz.prog 34 [.sc (.string op), .lst 26 [a.cells 26, b.cells 26, c.cells 26], .sc (.int .i64 next)]
    (.agg (if op = ⟨#[99, 111, 109, 112, 97, 114, 101]⟩ then compareB a b c else if op = ⟨#[102, 117, 110, 99, 116, 111, 114]⟩ then functorB a b c next else argB a b c).c) := by
  refine PureCall.of_vc hT [] [] follows Tryz.call34 Tryz.func34 rfl (drawsOk_of3 (by kernel_rfl)) (by simp [AV.pure, AV.pureL, AV.pureM]) (by simp [AV.pure]) ?_
  unfold Tryz.f34
  simp
  by_cases o1 : op = ⟨#[99, 111, 109, 112, 97, 114, 101]⟩
  · simp [o1]
    refine vcCall_at (rcompared_c a b c) ?_
    simp
  simp [o1]
  by_cases o2 : op = ⟨#[102, 117, 110, 99, 116, 111, 114]⟩
  · simp [o2]
    refine vcCall_at (rfunctor_c a b c next h1 h2) ?_
    simp
  simp [o2]
  refine vcCall_at (rarg_c a b c) ?_
  simp
theorem call_c (op : ByteArray) (l : List Tm) (next : Int) (hl : ∀ x ∈ l, x.check = 0) (hk : knownC op l.length = true) (h1 : -2199023255552 ≤ next) (h2 : next ≤ 2199023255552) :
    PureCall T Tryz.prog 31 [.sc (.string op), .lst 26 (Tm.cellsL 26 l), .sc (.int .i64 next)] (.agg (callB copB numbersB op l next).c) := by
  match l, hk, hl with
  | [], hk, _ => simp [knownC] at hk
  | [t], _, hl => exact call1_c op t next
  | [a, b], _, hl => exact call2_c op a b next (hl a (by simp)) (hl b (by simp)) h1 h2
  | [a, b, c], _, hl => exact call3_c op a b c next (hl b (by simp)) (hl c (by simp)) h1 h2
  | _ :: _ :: _ :: _ :: l, hk, _ =>
    simp only [knownC, List.length_cons] at hk
    rw [if_neg (by omega), if_neg (by omega), if_neg (by omega)] at hk
    cases hk
theorem rcall_c (op : ByteArray) (l : List Tm) (next : Int) (hl : ∀ x ∈ l, x.check = 0) (hk : knownC op l.length = true) (h1 : -2199023255552 ≤ next) (h2 : next ≤ 2199023255552) :
    PureCall T Tryz.prog 34 [.sc (.string op), .lst 26 (Tm.cellsL 26 l), .sc (.int .i64 next)] (.agg (callB copiedB numbersR op l next).c) := by
  match l, hk, hl with
  | [], hk, _ => simp [knownC] at hk
  | [t], _, hl => exact rcall1_c op t next
  | [a, b], _, hl => exact rcall2_c op a b next (hl a (by simp)) (hl b (by simp)) h1 h2
  | [a, b, c], _, hl => exact rcall3_c op a b c next h1 h2
  | _ :: _ :: _ :: _ :: l, hk, _ =>
    simp only [knownC, List.length_cons] at hk
    rw [if_neg (by omega), if_neg (by omega), if_neg (by omega)] at hk
    cases hk
end Go.T1
end

section
open Go Go.Ab Go.Proofs
namespace Go.T1
/-- Two lists as long as each other, of terms that are not too large. -/
def BRes.fine (r : BRes) : Prop := (∀ x ∈ r.left, x.small) ∧ (∀ x ∈ r.right, x.small) ∧ r.left.length = r.right.length
theorem fine_ball (t : Tm) : (ballB t).fine := by simp [BRes.fine, ballB]
theorem fine_zero : zeroB.fine := by simp [BRes.fine, zeroB]
theorem fine_when (b : Bool) : (whenB b).fine := by simp [BRes.fine, whenB]
theorem fine_pair {a b : Tm} (ha : a.small) (hb : b.small) : (pairB [a] [b]).fine := by simp [BRes.fine, pairB, ha, hb]
theorem small_atom (s : ByteArray) : (atomT s).small := by simp [atomT, Tm.small, Tm.size, Tm.sizeL]
theorem small_int (n : Int) : (intT n).small := by simp [intT, Tm.small, Tm.size, Tm.sizeL]
theorem small_name {t : Tm} (h : t.small) : (nameB t).small := by unfold nameB; split; exact h; exact small_atom _
theorem size_fresh (next : Int) : ∀ n : Nat, Tm.sizeL (freshB next n) = n
  | 0 => rfl
  | n + 1 => by rw [freshB_succ, Tm.sizeL_append, size_fresh next n]; simp [Tm.sizeL, Tm.var, Tm.size]
theorem small_comp {s : ByteArray} {l : List Tm} (h : Tm.sizeL l ≤ 5000) : (compT s l).small := by
  unfold compT; split
  · simp [Tm.small, Tm.size, Tm.sizeL]
  · simp only [Tm.small, Tm.size]; omega
theorem size_list (tail : Tm) : ∀ l : List Tm, (Tm.list tail l).size = tail.size + Tm.sizeL l + l.length
  | [] => by simp [Tm.list, Tm.sizeL]
  | x :: xs => by have := size_list tail xs; simp only [Tm.list, Tm.size, Tm.sizeL, this, List.length_cons]; omega
mutual
theorem sub_size {f : Int → Tm} (hf : ∀ n, (f n).size = 1) : ∀ t : Tm, t.right = true → (t.sub f).size = t.size
  | .mk k n s l, h => by
    simp only [Tm.right, Bool.and_eq_true] at h
    simp only [Tm.sub]
    split
    · rename_i hk
      subst hk
      obtain ⟨_, _, _, h4⟩ := partB_one h.1
      rw [List.eq_nil_of_length_eq_zero h4, hf]; simp [Tm.size, Tm.sizeL]
    · simp only [Tm.size, subL_size hf l h.2]
theorem subL_size {f : Int → Tm} (hf : ∀ n, (f n).size = 1) : ∀ l : List Tm, Tm.rightL l = true → Tm.sizeL (Tm.subL f l) = Tm.sizeL l
  | [], _ => rfl
  | t :: ts, h => by
    simp only [Tm.rightL, Bool.and_eq_true] at h
    simp only [Tm.subL, Tm.sizeL, sub_size hf t h.1, subL_size hf ts h.2]
end
theorem small_copied {t : Tm} (ht : t.check = 0) (next : Int) : (copiedB t next).small := by
  have hr := Tm.num_check (check_small ht) ht
  rw [← renT_num] at hr
  have h := (check_iff _).1 hr
  have e : (copiedB t next).size = (renT t).size := sub_size (fun n => by
    unfold repF
    split
    · rename_i h
      simp [freshB, Tm.var, Tm.size, Tm.sizeL]
    · simp [Tm.var, Tm.size, Tm.sizeL]) _ h.1
  unfold Tm.small; omega
theorem small_copB {t : Tm} (ht : t.check = 0) (next : Int) : (copB t next).small := by
  unfold copB; split
  · exact small_copied ht next
  · simp [Tm.zero, Tm.small, Tm.size, Tm.sizeL]
theorem fine_made {t : Tm} (ht : t.small) {l : List Tm} (hl : ∀ x ∈ l, x.check = 0) : (madeB t l).fine := by
  unfold madeB
  split; exact fine_ball _
  split; exact fine_ball _
  split
  · refine fine_pair ht ?_
    cases l with
    | nil => simp [Tm.zero, Tm.small, Tm.size, Tm.sizeL]
    | cons x xs => exact small_ok (hl x (by simp))
  split; exact fine_ball _
  split; exact fine_ball _
  rename_i h17
  refine fine_pair ht ?_
  unfold compT; split
  · simp [Tm.small, Tm.size, Tm.sizeL]
  · have : ∀ m : List Tm, (∀ x ∈ m, x.check = 0) → Tm.sizeL m ≤ 4096 * m.length := by
      intro m
      induction m with
      | nil => intro _; simp [Tm.sizeL]
      | cons y ys ih =>
        intro h
        have h1 := ((check_iff _).1 (h y (by simp))).2.2
        have h2 := ih fun x hx => h x (by simp [hx])
        simp only [Tm.sizeL, List.length_cons]; omega
    have h3 := this (l.drop 1) fun x hx => hl x (List.mem_of_mem_drop hx)
    rw [List.length_drop] at h3
    simp only [Tm.small, Tm.size]; omega
theorem fine_univ {t l : Tm} (ht : t.check = 0) (hl : l.check = 0) : (univB t l).fine := by
  unfold univB
  split
  · refine fine_pair (small_ok hl) ?_
    obtain ⟨k, n, s, m⟩ := t
    have h1 := ((check_iff _).1 ht).2.2
    have h2 := lenL_le m
    have h3 : (nameB (Tm.mk k n s m)).size ≤ 4096 := by
      unfold nameB; split
      · exact h1
      · simp [atomT, Tm.size, Tm.sizeL]
    simp only [Tm.size] at h1
    unfold Tm.small
    rw [size_list]
    simp only [Tm.ar, Tm.sizeL, List.length_cons, nilT, atomT, Tm.size]; omega
  split; exact fine_ball _
  split; exact fine_ball _
  exact fine_made (small_ok ht) (items_ok _ l (Nat.le_refl _) hl).1
theorem fine_ordered (op : ByteArray) (a b : Tm) : (orderedB op a b).fine := by
  unfold orderedB
  split; exact fine_ball _
  split; exact fine_when _
  split; exact fine_when _
  split; exact fine_when _
  exact fine_when _
theorem fine_evaluate {a b : Tm} (ha : a.check = 0) : (evaluateB a b).fine := by
  unfold evaluateB
  split; exact fine_ball _
  exact fine_pair (small_ok ha) (small_int _)
theorem fine_length {a b : Tm} (hb : b.check = 0) : (lengthB a b).fine := by
  unfold lengthB
  split; exact fine_ball _
  split; exact fine_ball _
  exact fine_pair (small_ok hb) (small_int _)
theorem fine_double {op : ByteArray} {a b c : Tm} {r : BRes} (ha : a.check = 0) (hb : b.check = 0) (hc : c.small) (hr : r.fine) : (doubleB op a b c r).fine := by
  unfold doubleB
  split; exact fine_pair (small_ok ha) (small_ok hb)
  split; exact fine_when _
  split; exact fine_when _
  split; exact fine_when _
  split; exact fine_ordered _ _ _
  split; exact fine_univ ha hb
  split; exact fine_pair (small_ok hb) hc
  split; exact fine_evaluate ha
  split; exact fine_length hb
  exact hr
theorem fine_single (op : ByteArray) (t : Tm) : (singleB op t).fine := by
  unfold singleB
  split; exact fine_when _
  split; exact fine_when _
  split; exact fine_when _
  split; exact fine_when _
  exact fine_when _
theorem fine_compare {o a b : Tm} (ho : o.check = 0) : (compareB o a b).fine := by
  unfold compareB
  split; exact fine_ball _
  exact fine_pair (small_ok ho) (small_atom _)
theorem fine_functor {t n a : Tm} (ht : t.check = 0) (hn : n.check = 0) (ha : a.check = 0) (next : Int) : (functorB t n a next).fine := by
  unfold functorB
  split
  · simp [BRes.fine, pairB, small_ok hn, small_ok ha, small_name (small_ok ht), small_int]
  split; exact fine_ball _
  split; exact fine_ball _
  split; exact fine_ball _
  split; exact fine_ball _
  split; exact fine_pair (small_ok ht) (small_ok hn)
  split; exact fine_ball _
  refine fine_pair (small_ok ht) (small_comp ?_)
  rw [size_fresh]; omega
theorem fine_arg {n t a : Tm} (ht : t.check = 0) (ha : a.check = 0) : (argB n t a).fine := by
  unfold argB
  split; exact fine_ball _
  split; exact fine_ball _
  split; exact fine_ball _
  split; exact fine_ball _
  split; exact fine_when _
  rename_i h
  refine fine_pair (small_ok ha) ?_
  obtain ⟨k, m, s, l⟩ := t
  simp at h
  have hi : (n.nm - 1).toNat < l.length := by omega
  have e : (Tm.mk k m s l).ar.getD (n.nm - 1).toNat Tm.zero = l[(n.nm - 1).toNat] := by
    rw [List.getD_eq_getElem?_getD, ar_mk, List.getElem?_eq_getElem hi]; rfl
  rw [e]
  exact small_ok (check_arg _ _ _ _ ht _ (List.getElem_mem hi))
theorem fine_call {C : Tm → Int → Tm} {N : ByteArray → Tm → Tm → BRes} (hC : ∀ t n, t.check = 0 → (C t n).small) (hN : ∀ op a b, (N op a b).fine) (op : ByteArray) (l : List Tm) (next : Int) (hl : ∀ x ∈ l, x.check = 0) : (callB C N op l next).fine := by
  unfold callB
  split
  · exact fine_single _ _
  · exact fine_double (hl _ (by simp)) (hl _ (by simp)) (hC _ _ (hl _ (by simp))) (hN _ _ _)
  · split; exact fine_compare (hl _ (by simp))
    split; exact fine_functor (hl _ (by simp)) (hl _ (by simp)) (hl _ (by simp)) _
    exact fine_arg (hl _ (by simp)) (hl _ (by simp))
  · exact fine_zero
theorem fine_numbersB (op : ByteArray) (a b : Tm) : (numbersB op a b).fine := by
  unfold numbersB; split; exact fine_ball _; exact fine_when _
theorem fine_numbersR (op : ByteArray) (a b : Tm) : (numbersR op a b).fine := by
  unfold numbersR; split; exact fine_ball _; split; exact fine_ball _; exact fine_when _
end Go.T1
end

section
open Go Go.Ab Go.Proofs
namespace Go.T1
/-- What Call comes to. -/
noncomputable def CallR (C : Tm → Int → Tm) (N : ByteArray → Tm → Tm → BRes) (op : ByteArray) (l : List Tm) (next : Int) : BRes :=
  if knownC op l.length = true then if ∀ x ∈ l, x.check = 0 then finB (callB C N op l next) else ballB sizeT else zeroB
def callV (r : BRes) (b : Bool) : AV := .tup [.agg r.c, .sc (.bool b)]
@[simp] theorem callV_pure (r : BRes) (b : Bool) : (callV r b).pure = true := by simp [callV, AV.pure, AV.pureL]
theorem anyCheck (l : List Tm) : (l.any fun x => !decide (x.check = 0)) = true ↔ ¬ ∀ x ∈ l, x.check = 0 := by
  simp
theorem anyCheckF (l : List Tm) : (l.any fun x => !decide (x.check = 0)) = false ↔ ∀ x ∈ l, x.check = 0 := by
  simp
set_option maxRecDepth 100000 in
theorem Call_c (op : ByteArray) (l : List Tm) (next : Int) (hl : ∀ x ∈ l, x.small) (h1 : -2199023255552 ≤ next) (h2 : next ≤ 2199023255552) (hn : l.length ≤ 1000000) :
    PureCall T Tryz.prog 10 [.sc (.string op), .lst 26 (Tm.cellsL 26 l), .sc (.int .i64 next)] (callV (CallR copB numbersB op l next) (knownC op l.length)) := by
  refine PureCall.of_vc hT [] [] follows Tryz.call10 Tryz.func10 rfl (drawsOk_of3 (by kernel_rfl)) (by simp [AV.pure, AV.pureL, AV.pureM]) (by simp) ?_
  generalize hX : CallR copB numbersB op l next = X
  unfold CallR at hX
  unfold Tryz.f10
  simp
  intro _ _
  refine vcCall_at (bknown_c op l.length) ?_
  by_cases hk : knownC op l.length = true
  case neg =>
    rw [if_neg hk] at hX
    have hk' : knownC op l.length = false := by simpa using hk
    simp [hk', ← hX, callV, zeroB, BRes.c, Tm.zero, Tm.cells, Tm.cellsL]
    rfl
  rw [if_pos hk] at hX
  simp [hk]
  refine vcCall_at (wrong_c l hl) ?_
  by_cases hc : ∀ x ∈ l, x.check = 0
  case neg =>
    rw [if_neg hc] at hX
    rw [(anyCheck l).2 hc]
    simp
    refine vcCall_at size_c ?_
    simp [callV, ← hX]
  rw [if_pos hc] at hX
  rw [(anyCheckF l).2 hc]
  simp
  refine vcCall_at (call_c op l next hc hk h1 h2) ?_
  obtain ⟨f1, f2, f3⟩ := fine_call (C := copB) (N := numbersB) (fun t n h => small_copB h n) fine_numbersB op l next hc
  unfold finB at hX
  generalize callB copB numbersB op l next = r at f1 f2 f3 hX
  obtain ⟨ok, L, R, th, ba⟩ := r
  simp [BRes.c]
  refine vcCall_at (wrong_c L f1) ?_
  by_cases hL : ∀ x ∈ L, x.check = 0
  case neg =>
    rw [if_neg (fun h => hL h.1)] at hX
    rw [(anyCheck L).2 hL]
    simp
    refine ⟨[], .sc (.bool false), fun h => (by simp at h), ?_⟩
    simp
    refine vcCall_at size_c ?_
    simp [callV, ← hX]
  rw [(anyCheckF L).2 hL]
  simp
  refine vcCall_at (wrong_c R f2) ?_
  by_cases hR : ∀ x ∈ R, x.check = 0
  case neg =>
    rw [if_neg (fun h => hR h.2)] at hX
    rw [(anyCheck R).2 hR]
    simp
    refine vcCall_at size_c ?_
    simp [callV, ← hX]
  rw [if_pos ⟨hL, hR⟩] at hX
  rw [(anyCheckF R).2 hR]
  simp [callV, BRes.c, ← hX]
set_option maxRecDepth 100000 in
theorem rCall_c (op : ByteArray) (l : List Tm) (next : Int) (hl : ∀ x ∈ l, x.small) (h1 : -2199023255552 ≤ next) (h2 : next ≤ 2199023255552) (hn : l.length ≤ 1000000) :
    PureCall T Tryz.prog 11 [.sc (.string op), .lst 26 (Tm.cellsL 26 l), .sc (.int .i64 next)] (callV (CallR copiedB numbersR op l next) (knownC op l.length)) := by
  refine PureCall.of_vc hT [] [] follows Tryz.call11 Tryz.func11 rfl (drawsOk_of3 (by kernel_rfl)) (by simp [AV.pure, AV.pureL, AV.pureM]) (by simp) ?_
  generalize hX : CallR copiedB numbersR op l next = X
  unfold CallR at hX
  unfold Tryz.f11
  simp
  intro _ _
  refine vcCall_at (rbknown_c op l.length) ?_
  by_cases hk : knownC op l.length = true
  case neg =>
    rw [if_neg hk] at hX
    have hk' : knownC op l.length = false := by simpa using hk
    simp [hk', ← hX, callV, zeroB, BRes.c, Tm.zero, Tm.cells, Tm.cellsL]
    rfl
  rw [if_pos hk] at hX
  simp [hk]
  refine vcC_loop [] (fun m σ Z => ∃ i : Nat, m = l.length - i ∧ i ≤ l.length ∧ (∀ x ∈ l.take i, x.check = 0) ∧ σ 0 = .sc (.string op) ∧ σ 1 = .lst 26 (Tm.cellsL 26 l) ∧ σ 2 = .sc (.int .i64 next) ∧ σ 6 = .ptr 0 0 ∧ σ 8 = .sc (.int .i64 i) ∧ Z = [.cells zero8]) l.length ⟨0, by simp [zero8]⟩ ?_
  rintro m σ Z ⟨i, rfl, hi, ha, s0, s1, s2, s6, s8, rfl⟩
  rcases Nat.lt_or_ge i l.length with hlt | hge
  · simp [s0, s1, s2, s6, s8, hlt]
    intro _ _
    refine vcCall_at (rCheck_c l[i] (hl _ (List.getElem_mem hlt))) ?_
    by_cases hc : l[i].check = 0
    · simp [hc, s0, s1, s2, s6, s8]
      refine ⟨by unfold i64ok; omega, l.length - (i + 1), by omega, i + 1, rfl, by omega, ?_, by omega⟩
      intro x hx
      rw [List.take_add_one, List.getElem?_eq_getElem hlt] at hx
      rcases List.mem_append.1 hx with hx | hx
      · exact ha x hx
      · simp at hx; rw [hx]; exact hc
    · rw [if_neg (fun h => hc (h _ (List.getElem_mem hlt)))] at hX
      simp [hc]
      refine vcCall_at rSizeB_c ?_
      simp
      refine vcCall_at (rball_c sizeT) ?_
      simp [s6, callV, ← hX, zero8]
  · have hi' : i = l.length := by omega
    subst hi'
    rw [List.take_length] at ha
    rw [if_pos ha] at hX
    simp [s0, s1, s2, s6, s8]
    intro _ _
    refine vcCall_at (rcall_c op l next ha hk h1 h2) ?_
    obtain ⟨f1, f2, f3⟩ := fine_call (C := copiedB) (N := numbersR) (fun t n h => small_copied h n) fine_numbersR op l next ha
    unfold finB at hX
    generalize callB copiedB numbersR op l next = r at f1 f2 f3 hX
    obtain ⟨ok, L, R, th, ba⟩ := r
    simp [BRes.c]
    simp at f1 f2 f3
    refine vcC_loop [] (fun m σ Z => ∃ i : Nat, m = L.length - i ∧ i ≤ L.length ∧ (∀ x ∈ L.take i, x.check = 0) ∧ (∀ x ∈ R.take i, x.check = 0) ∧ σ 6 = .ptr 0 0 ∧ σ 9 = .eptr (BRes.c ⟨ok, L, R, th, ba⟩) ∧ σ 10 = .sc (.int .i64 i) ∧ Z = [.cells zero8]) L.length ⟨0, by simp [s6, BRes.c]⟩ ?_
    clear s0 s1 s2 s6 s8 σ
    rintro m σ Z ⟨i, rfl, hi, hL, hR, s6, s9, s10, rfl⟩
    rcases Nat.lt_or_ge i L.length with hlt | hge
    · have hlt2 : i < R.length := by omega
      simp [s6, s9, s10, hlt, BRes.c]
      intro _ _
      refine vcCall_at (rCheck_c L[i] (f1 _ (List.getElem_mem hlt))) ?_
      by_cases hc : L[i].check = 0
      · simp [hc, s9, s10, hlt2, BRes.c]
        refine vcCall_at (rCheck_c R[i] (f2 _ (List.getElem_mem hlt2))) ?_
        by_cases hc2 : R[i].check = 0
        · simp [hc2, s6, s9, s10]
          refine ⟨by unfold i64ok; omega, L.length - (i + 1), by omega, i + 1, rfl, by omega, ?_, ?_, ?_⟩
          · intro x hx
            rw [List.take_add_one, List.getElem?_eq_getElem hlt] at hx
            rcases List.mem_append.1 hx with hx | hx
            · exact hL x hx
            · simp at hx; rw [hx]; exact hc
          · intro x hx
            rw [List.take_add_one, List.getElem?_eq_getElem hlt2] at hx
            rcases List.mem_append.1 hx with hx | hx
            · exact hR x hx
            · simp at hx; rw [hx]; exact hc2
          · exact ⟨rfl, by omega⟩
        · rw [if_neg (fun h => hc2 (h.2 _ (List.getElem_mem hlt2)))] at hX
          simp [hc2, s9]
          refine vcCall_at rSizeB_c ?_
          simp
          refine vcCall_at (rball_c sizeT) ?_
          simp [s6, callV, ← hX, zero8]
      · simp [hc, s9, s10, BRes.c]
        rw [if_neg (fun h => hc (h.1 _ (List.getElem_mem hlt)))] at hX
        refine ⟨[], [], .sc (.int .i64 0), fun h => (by simp at h), ?_⟩
        simp [s9]
        refine vcCall_at rSizeB_c ?_
        simp
        refine vcCall_at (rball_c sizeT) ?_
        simp [s6, callV, ← hX, zero8]
    · have hi' : i = L.length := by omega
      subst hi'
      rw [List.take_length] at hL
      rw [f3, List.take_length] at hR
      rw [if_pos ⟨hL, hR⟩] at hX
      simp [s6, s9, s10, BRes.c]
      intro _ _
      rw [← hX]
      exact ⟨by simp [zero8], leV_refl _⟩
end Go.T1
end

section
open Go Go.Ab Go.Proofs
namespace Go.T1
theorem sizeT_check : sizeT.check = 0 := by decide +kernel
theorem fin_copy {a b : Tm} (ha : a.check = 0) (next : Int) : finB (pairB [b] [copB a next]) = finB (pairB [b] [copiedB a next]) := by
  unfold copB
  split
  · rfl
  · rename_i h
    have h1 : Tm.zero.check ≠ 0 := by decide +kernel
    unfold finB
    rw [if_neg (fun k => h1 (k.2 _ (by simp [pairB]))), if_neg (fun k => h (k.2 _ (by simp [pairB])))]
theorem nums_known {op : ByteArray} (h : inN names2 op = true) (hn : nbOf op = true) : cmpB op = true := by
  rw [inN_mem] at h
  simp only [names2, List.mem_cons, List.not_mem_nil, or_false] at h
  rcases h with rfl | rfl | rfl | rfl | rfl | rfl | rfl | rfl | rfl | rfl | rfl | rfl | rfl | rfl | rfl | rfl | rfl | rfl <;> first | rfl | (exact absurd hn (by decide))
/-- The program's Call is the document's. -/
theorem Call_same (op : ByteArray) (l : List Tm) (next : Int) : CallR copB numbersB op l next = CallR copiedB numbersR op l next := by
  unfold CallR
  split
  case isFalse => rfl
  rename_i hk
  split
  case isFalse => rfl
  rename_i hl
  unfold callB
  split
  · rfl
  · rename_i a b
    have hk2 : inN names2 op = true := by
      rw [knownC_eq] at hk
      simpa using hk
    have ha := hl a (by simp)
    unfold doubleB
    by_cases o0 : op = ⟨#[61]⟩
    · rw [if_pos o0, if_pos o0]
    rw [if_neg o0, if_neg o0]
    by_cases o1 : op = ⟨#[92, 61]⟩
    · rw [if_pos o1, if_pos o1]
    rw [if_neg o1, if_neg o1]
    by_cases o2 : op = ⟨#[61, 61]⟩
    · rw [if_pos o2, if_pos o2]
    rw [if_neg o2, if_neg o2]
    by_cases o3 : op = ⟨#[92, 61, 61]⟩
    · rw [if_pos o3, if_pos o3]
    rw [if_neg o3, if_neg o3]
    by_cases o4 : op = ⟨#[64, 60]⟩ ∨ op = ⟨#[64, 62]⟩ ∨ op = ⟨#[64, 61, 60]⟩ ∨ op = ⟨#[64, 62, 61]⟩
    · rw [if_pos o4, if_pos o4]
    rw [if_neg o4, if_neg o4]
    by_cases o5 : op = ⟨#[61, 46, 46]⟩
    · rw [if_pos o5, if_pos o5]
    rw [if_neg o5, if_neg o5]
    by_cases o6 : op = ⟨#[99, 111, 112, 121, 95, 116, 101, 114, 109]⟩
    · rw [if_pos o6, if_pos o6]
      exact fin_copy ha next
    rw [if_neg o6, if_neg o6]
    by_cases o7 : op = ⟨#[105, 115]⟩
    · rw [if_pos o7, if_pos o7]
    rw [if_neg o7, if_neg o7]
    by_cases o8 : op = ⟨#[97, 116, 111, 109, 95, 108, 101, 110, 103, 116, 104]⟩
    · rw [if_pos o8, if_pos o8]
    rw [if_neg o8, if_neg o8]
    simp only [not_or] at o4
    rw [numbers_same (nums_known hk2 (by simp [nbOf, o0, o1, o2, o3, o4, o5, o6, o7, o8]))]
  · rfl
  · rfl
@[simp] theorem exact_leq (a : Bool) : (a = a) = True := by simp
set_option maxRecDepth 100000 in
theorem bsame_c (r s : BRes) : PureCall T Tryz.prog 12 [.agg r.c, .agg s.c] (.sc (.bool (decide (r.ok = s.ok) && decide (r.thrown = s.thrown) && decide (r.ball = s.ball) && decide (r.left = s.left) && decide (r.right = s.right)))) := by
  refine PureCall.of_vc hT [] [] follows Tryz.call12 Tryz.func12 rfl (drawsOk_of3 (by kernel_rfl)) (by simp [AV.pure, AV.pureL, AV.pureM]) (by simp [AV.pure]) ?_
  unfold Tryz.f12
  obtain ⟨o1, L1, R1, t1, b1⟩ := r
  obtain ⟨o2, L2, R2, t2, b2⟩ := s
  simp [BRes.c]
  by_cases h1 : o1 = o2
  case neg =>
    simp [h1]
    refine ⟨[], .sc (.bool false), fun h => (by simp [h1] at h), ?_⟩
    simp
    refine ⟨[], .sc (.bool false), fun h => (by simp at h), ?_⟩
    simp
    refine ⟨[], .sc (.bool false), fun h => (by simp at h), ?_⟩
    simp
  subst h1
  by_cases h2 : t1 = t2
  case neg =>
    simp [h2]
    refine ⟨[], .sc (.bool false), fun h => (by simp [h2] at h), ?_⟩
    simp
    refine ⟨[], .sc (.bool false), fun h => (by simp at h), ?_⟩
    simp
    refine ⟨[], .sc (.bool false), fun h => (by simp at h), ?_⟩
    simp
  subst h2
  simp
  refine vcCall_at (exact_c b1 b2) ?_
  simp
  by_cases h3 : b1 = b2
  case neg =>
    simp [h3]
    refine ⟨[], .sc (.bool false), fun h => (by simp at h), ?_⟩
    simp
    refine ⟨[], .sc (.bool false), fun h => (by simp at h), ?_⟩
    simp
  simp [h3]
  refine vcCall_at (refSame_c L1 L2) ?_
  simp
  by_cases h4 : L1 = L2
  case neg =>
    simp [h4]
    refine ⟨[], .sc (.bool false), fun h => (by simp at h), ?_⟩
    simp
  simp [h4]
  refine vcCall_at (refSame_c R1 R2) ?_
  simp
set_option maxRecDepth 100000 in
theorem blarge_c (l : List Tm) (hn : Tm.niceL l) : PureCall T Tryz.prog 8 [.lst 26 (Tm.cellsL 26 l)] (.sc (.bool (decide (4 < l.length) || largeL l))) := by
  refine PureCall.of_vc hT [] [] follows Tryz.call8 Tryz.func8 rfl (drawsOk_of3 (by kernel_rfl)) (by simp [AV.pure, AV.pureL, AV.pureM]) (by simp [AV.pure]) ?_
  unfold Tryz.f8
  simp
  intro _ _
  by_cases h : (4 : Int) < l.length
  · have h' : 4 < l.length := by omega
    simp [h, h']
    refine ⟨[], .sc (.bool false), fun h => (by simp at h), ?_⟩
    simp
  · have h' : ¬ 4 < l.length := by omega
    simp [h, h']
    refine vcCall_at (LargeL_c l hn) ?_
    simp
end Go.T1
end

section
open Go Go.Ab Go.Proofs
namespace Go.T1
def fS : ByteArray := ⟨#[102]⟩
def fooS : ByteArray := ⟨#[102, 111, 111]⟩
def varS : ByteArray := ⟨#[118, 97, 114]⟩
def functorS : ByteArray := ⟨#[102, 117, 110, 99, 116, 111, 114]⟩
def argS : ByteArray := ⟨#[97, 114, 103]⟩
def isS : ByteArray := ⟨#[105, 115]⟩
def lf : List Tm := [Tm.var 1, atomT fS, intT 2]
theorem var1_check : (Tm.var 1).check = 0 := by decide +kernel
theorem atomf_check : (atomT fS).check = 0 := by decide +kernel
theorem int2_check : (intT 2).check = 0 := by decide +kernel
theorem fv_check : (compT fS (freshB 7 2)).check = 0 := by decide +kernel
theorem lives1 : CallR copB numbersB functorS lf 7 = pairB [Tm.var 1] [compT fS (freshB 7 2)] := by
  have h : ∀ x ∈ lf, x.check = 0 := by simp [lf, var1_check, atomf_check, int2_check]
  unfold CallR
  rw [if_pos (by decide), if_pos h]
  have e : callB copB numbersB functorS lf 7 = pairB [Tm.var 1] [compT fS (freshB 7 2)] := by
    simp [callB, lf, functorS, functorB, Tm.var, atomT, intT]
  rw [e]
  unfold finB
  rw [if_pos (by simp [pairB, var1_check, fv_check])]
theorem lives2 : CallR copB numbersB varS [atomT fS] 0 = whenB false := by
  unfold CallR
  rw [if_pos (by decide), if_pos (by simp [atomf_check])]
  simp [callB, singleB, varS, atomT, finB, whenB]
theorem lives3 : CallR copB numbersB argS [Tm.var 1, atomT fS, atomT fS] 0 = ballB instT := by
  unfold CallR
  rw [if_pos (by decide), if_pos (by simp [var1_check, atomf_check])]
  simp [callB, argS, argB, Tm.var, finB, ballB]
theorem lives4 : CallR copB numbersB fooS [] 0 = zeroB := by
  unfold CallR
  rw [if_neg (by decide)]
theorem l1c : PureCall T Tryz.prog 10 [.sc (.string functorS), .lst 26 [(Tm.var 1).cells 26, (atomT fS).cells 26, (intT 2).cells 26], .sc (.int .i64 7)] (callV (pairB [Tm.var 1] [compT fS (freshB 7 2)]) true) := by
  have h := Call_c functorS lf 7 (by simp [lf]; exact ⟨small_ok var1_check, small_ok atomf_check, small_ok int2_check⟩) (by omega) (by omega) (by decide)
  rw [lives1] at h
  exact h
theorem l2c : PureCall T Tryz.prog 10 [.sc (.string varS), .lst 26 [(atomT fS).cells 26], .sc (.int .i64 0)] (callV (whenB false) true) := by
  have h := Call_c varS [atomT fS] 0 (by simp; exact small_ok atomf_check) (by omega) (by omega) (by decide)
  rw [lives2] at h
  exact h
theorem l3c : PureCall T Tryz.prog 10 [.sc (.string argS), .lst 26 [(Tm.var 1).cells 26, (atomT fS).cells 26, (atomT fS).cells 26], .sc (.int .i64 0)] (callV (ballB instT) true) := by
  have h := Call_c argS [Tm.var 1, atomT fS, atomT fS] 0 (by simp; exact ⟨small_ok var1_check, small_ok atomf_check⟩) (by omega) (by omega) (by decide)
  rw [lives3] at h
  exact h
theorem l4c : PureCall T Tryz.prog 10 [.sc (.string fooS), .lst 26 [], .sc (.int .i64 0)] (callV zeroB false) := by
  have h := Call_c fooS [] 0 (by simp) (by omega) (by omega) (by decide)
  rw [lives4] at h
  exact h
end Go.T1
end

section
open Go Go.Ab Go.Proofs
namespace Go.T1
set_option maxRecDepth 100000 in
theorem blives_c : PureCall T Tryz.prog 9 [] (.sc (.bool true)) := by
  refine PureCall.of_vc hT [] ([(2, 9), (2, 10), (4, 9), (4, 10)] ++ [0, 1, 2, 3, 4, 5, 6, 7, 8, 9, 10, 11].map (Prod.mk 200002) ++ [0, 1, 2, 3, 4, 5, 6, 7, 8, 9, 10, 11].map (Prod.mk 200004)) follows Tryz.call9 Tryz.func9 rfl (drawsOk_of3 (by kernel_rfl)) (by simp [AV.pure, AV.pureL, AV.pureM]) (by simp [AV.pure]) ?_
  unfold Tryz.f9
  dsimp only
  refine vcC_cut (fun σ Z => [] = Z) (fun K hK => ?_) ?_
  · simp; exact hK _ _ rfl
  rintro σ Z rfl
  refine vcC_cut (fun σ Z => σ 1 = .fn (.func 19) [] [] ∧ σ 2 = .ptr 0 0 ∧ [(.cells ((atomT fS).cells 26))] = Z) (fun K hK => ?_) ?_
  · simp
    refine vcCall_at (rAtom_c _) ?_
    simp
    exact hK _ _ (by simp [fS, atomT])
  clear σ
  rintro σ Z ⟨s1, s2, rfl⟩
  refine vcC_cut (fun σ Z => σ 1 = .fn (.func 19) [] [] ∧ σ 2 = .ptr 0 0 ∧ σ 3 = .ptr 1 0 ∧ σ 4 = .sc (.bool true) ∧ [(.cells ((atomT fS).cells 26)), .cells (pairB [Tm.var 1] [compT fS (freshB 7 2)]).c] = Z) (fun K hK => ?_) ?_
  · simp
    refine ⟨fun i r st' => if i = 9 then st' = [(.cells ((atomT fS).cells 26)), .cells zero8] else True, ?_⟩
    simp (decide := true) [s1, s2, callV]
    refine ⟨by simp (decide := true) [s1, s2, callV], ?_⟩; simp (decide := true) [s1, s2, callV]
    refine vcCall_at (rVar_c 1) ?_; simp (decide := true) [s1, s2, callV]
    refine ⟨by simp (decide := true) [s1, s2, callV] <;> (refine vcCall_at (rVar_c 1) ?_; simp [s1, s2, callV]), ?_⟩; simp (decide := true) [s1, s2, callV]
    refine ⟨by simp (decide := true) [s1, s2, callV], ?_⟩; simp (decide := true) [s1, s2, callV]
    refine vcCall_at (rInt_c 2) ?_; simp (decide := true) [s1, s2, callV]
    refine ⟨by simp (decide := true) [s1, s2, callV] <;> (refine vcCall_at (rInt_c 2) ?_; simp [s1, s2, callV]), ?_⟩; simp (decide := true) [s1, s2, callV]
    refine ⟨by simp (decide := true) [s1, s2, callV], ?_⟩; simp (decide := true) [s1, s2, callV]
    refine vcCall_at (l1c) ?_; simp (decide := true) [s1, s2, callV]
    refine ⟨by simp (decide := true) [s1, s2, callV] <;> (refine vcCall_at (l1c) ?_; simp [s1, s2, callV]), ?_⟩; simp (decide := true) [s1, s2, callV]
    refine ⟨by simp (decide := true) [s1, s2, callV], ?_⟩; simp (decide := true) [s1, s2, callV]
    refine ⟨by simp (decide := true) [s1, s2, callV], ?_⟩; simp (decide := true) [s1, s2, callV]
    refine ⟨by simp (decide := true) [s1, s2, callV], ?_⟩; simp (decide := true) [s1, s2, callV]
    refine vcThenQ_of (fun r st' => r = .ptr 1 0 ∧ st' = [(.cells ((atomT fS).cells 26)), .cells zero8]) rfl (by simp) rfl (by simp [vcI, zero8]) (by rintro r st' ⟨rfl, rfl⟩; simp (decide := true)) ?_
    rintro r st' ⟨rfl, rfl⟩ _
    simp (decide := true) [s1, s2, callV]
    refine vcThenQ_of (fun r st' => r = .any ∧ st' = [(.cells ((atomT fS).cells 26)), .cells (pairB [Tm.var 1] [compT fS (freshB 7 2)]).c]) rfl (by simp) rfl (by simp [vcI, zero8, callV]) (by rintro r st' ⟨rfl, rfl⟩; simp (decide := true)) ?_
    rintro r st' ⟨rfl, rfl⟩ _
    simp (decide := true) [s1, s2, callV]
    refine ⟨by simp (decide := true) [s1, s2, callV], ?_⟩; simp (decide := true) [s1, s2, callV]
    exact hK _ _ (by simp [s1, s2])
  clear s1 s2 σ
  rintro σ Z ⟨s1, s2, s3, s4, rfl⟩
  refine vcC_cut (fun σ Z => σ 1 = .fn (.func 19) [] [] ∧ σ 2 = .ptr 0 0 ∧ σ 3 = .ptr 1 0 ∧ σ 4 = .sc (.bool true) ∧ σ 5 = .eptr (whenB false).c ∧ σ 6 = .sc (.bool true) ∧ [(.cells ((atomT fS).cells 26)), .cells (pairB [Tm.var 1] [compT fS (freshB 7 2)]).c] = Z) (fun K hK => ?_) ?_
  · simp [s1, s2, s3, s4]
    refine vcCall_at l2c ?_
    simp [callV]
    exact hK _ _ (by simp [s1, s2, s3, s4])
  clear s1 s2 s3 s4 σ
  rintro σ Z ⟨s1, s2, s3, s4, s5, s6, rfl⟩
  refine vcC_cut (fun σ Z => σ 1 = .fn (.func 19) [] [] ∧ σ 3 = .ptr 1 0 ∧ σ 4 = .sc (.bool true) ∧ σ 5 = .eptr (whenB false).c ∧ σ 6 = .sc (.bool true) ∧ σ 7 = .ptr 2 0 ∧ σ 8 = .sc (.bool true) ∧ [(.cells ((atomT fS).cells 26)), .cells (pairB [Tm.var 1] [compT fS (freshB 7 2)]).c, .cells (ballB instT).c] = Z) (fun K hK => ?_) ?_
  · simp
    refine ⟨fun i r st' => if i = 9 then st' = [(.cells ((atomT fS).cells 26)), .cells (pairB [Tm.var 1] [compT fS (freshB 7 2)]).c, .cells zero8] else True, ?_⟩
    simp (decide := true) [s1, s2, s3, s4, s5, s6, callV]
    refine ⟨by simp (decide := true) [s1, s2, s3, s4, s5, s6, callV], ?_⟩; simp (decide := true) [s1, s2, s3, s4, s5, s6, callV]
    refine vcCall_at (rVar_c 1) ?_; simp (decide := true) [s1, s2, s3, s4, s5, s6, callV]
    refine ⟨by simp (decide := true) [s1, s2, s3, s4, s5, s6, callV] <;> (refine vcCall_at (rVar_c 1) ?_; simp [s1, s2, s3, s4, s5, s6, callV]), ?_⟩; simp (decide := true) [s1, s2, s3, s4, s5, s6, callV]
    refine ⟨by simp (decide := true) [s1, s2, s3, s4, s5, s6, callV], ?_⟩; simp (decide := true) [s1, s2, s3, s4, s5, s6, callV]
    refine ⟨by simp (decide := true) [s1, s2, s3, s4, s5, s6, callV], ?_⟩; simp (decide := true) [s1, s2, s3, s4, s5, s6, callV]
    refine ⟨by simp (decide := true) [s1, s2, s3, s4, s5, s6, callV], ?_⟩; simp (decide := true) [s1, s2, s3, s4, s5, s6, callV]
    refine vcCall_at (l3c) ?_; simp (decide := true) [s1, s2, s3, s4, s5, s6, callV]
    refine ⟨by simp (decide := true) [s1, s2, s3, s4, s5, s6, callV] <;> (refine vcCall_at (l3c) ?_; simp [s1, s2, s3, s4, s5, s6, callV]), ?_⟩; simp (decide := true) [s1, s2, s3, s4, s5, s6, callV]
    refine ⟨by simp (decide := true) [s1, s2, s3, s4, s5, s6, callV], ?_⟩; simp (decide := true) [s1, s2, s3, s4, s5, s6, callV]
    refine ⟨by simp (decide := true) [s1, s2, s3, s4, s5, s6, callV], ?_⟩; simp (decide := true) [s1, s2, s3, s4, s5, s6, callV]
    refine ⟨by simp (decide := true) [s1, s2, s3, s4, s5, s6, callV], ?_⟩; simp (decide := true) [s1, s2, s3, s4, s5, s6, callV]
    refine vcThenQ_of (fun r st' => r = .ptr 2 0 ∧ st' = [(.cells ((atomT fS).cells 26)), .cells (pairB [Tm.var 1] [compT fS (freshB 7 2)]).c, .cells zero8]) rfl (by simp) rfl (by simp [vcI, zero8]) (by rintro r st' ⟨rfl, rfl⟩; simp (decide := true)) ?_
    rintro r st' ⟨rfl, rfl⟩ _
    simp (decide := true) [s1, s2, s3, s4, s5, s6, callV]
    refine vcThenQ_of (fun r st' => r = .any ∧ st' = [(.cells ((atomT fS).cells 26)), .cells (pairB [Tm.var 1] [compT fS (freshB 7 2)]).c, .cells (ballB instT).c]) rfl (by simp) rfl (by simp [vcI, zero8, callV]) (by rintro r st' ⟨rfl, rfl⟩; simp (decide := true)) ?_
    rintro r st' ⟨rfl, rfl⟩ _
    simp (decide := true) [s1, s2, s3, s4, s5, s6, callV]
    refine ⟨by simp (decide := true) [s1, s2, s3, s4, s5, s6, callV], ?_⟩; simp (decide := true) [s1, s2, s3, s4, s5, s6, callV]
    exact hK _ _ (by simp [s1, s2, s3, s4, s5, s6])
  clear s1 s2 s3 s4 s5 s6 σ
  rintro σ Z ⟨s1, s3, s4, s5, s6, s7, s8, rfl⟩
  refine vcC_cut (fun σ Z => σ 1 = .fn (.func 19) [] [] ∧ σ 3 = .ptr 1 0 ∧ σ 4 = .sc (.bool true) ∧ σ 5 = .eptr (whenB false).c ∧ σ 6 = .sc (.bool true) ∧ σ 7 = .ptr 2 0 ∧ σ 8 = .sc (.bool true) ∧ σ 10 = .sc (.bool false) ∧ [(.cells ((atomT fS).cells 26)), .cells (pairB [Tm.var 1] [compT fS (freshB 7 2)]).c, .cells (ballB instT).c] = Z) (fun K hK => ?_) ?_
  · simp [s1, s3, s4, s5, s6, s7, s8]
    refine vcCall_of l4c (by simp [leV.leL, leV, fooS]) ?_
    simp [callV]
    exact hK _ _ (by simp [s1, s3, s4, s5, s6, s7, s8])
  clear s1 s3 s4 s5 s6 s7 s8 σ
  rintro σ Z ⟨s1, s3, s4, s5, s6, s7, s8, s10, rfl⟩
  refine vcC_cut (fun σ Z => σ 0 = .sc (.bool true)) (fun K hK => ?_) ?_
  case refine_2 =>
    rintro σ Z s0
    simp [s0]
  simp only [BRes.c, pairB, whenB, ballB, Tm.cellsL, List.cons_append, List.nil_append] at s3 s5 s7 ⊢
  simp [-vcLex_cons]
  refine vcLex_step fun K hK => ?_; simp [s1, s3, s4, s5, s6, s7, s8, s10]; intros; refine hK _ _ ?_; clear hK
  refine vcLex_step fun K hK => ?_; simp [s1, s3, s4, s5, s6, s7, s8, s10]; intros; refine hK _ _ ?_; clear hK
  refine vcLex_step fun K hK => ?_; simp [s1, s3, s4, s5, s6, s7, s8, s10]; intros; refine hK _ _ ?_; clear hK
  refine vcLex_step fun K hK => ?_; simp [s1, s3, s4, s5, s6, s7, s8, s10]; intros; refine hK _ _ ?_; clear hK
  refine vcLex_step fun K hK => ?_; simp [s1, s3, s4, s5, s6, s7, s8, s10]; intros; refine hK _ _ ?_; clear hK
  refine vcLex_step fun K hK => ?_; simp [s1, s3, s4, s5, s6, s7, s8, s10]; intros; refine hK _ _ ?_; clear hK
  refine vcLex_step fun K hK => ?_; simp [s1, s3, s4, s5, s6, s7, s8, s10]; intros; refine hK _ _ ?_; clear hK
  refine vcLex_step fun K hK => ?_; simp [s1, s3, s4, s5, s6, s7, s8, s10]; intros; refine hK _ _ ?_; clear hK
  refine vcLex_step fun K hK => ?_; simp [s1, s3, s4, s5, s6, s7, s8, s10]; intros; refine hK _ _ ?_; clear hK
  refine vcLex_step fun K hK => ?_; simp [s1, s3, s4, s5, s6, s7, s8, s10]; intros; refine hK _ _ ?_; clear hK
  refine vcLex_step fun K hK => ?_; simp [s1, s3, s4, s5, s6, s7, s8, s10]; intros; refine hK _ _ ?_; clear hK
  refine vcLex_step fun K hK => ?_; simp [s1, s3, s4, s5, s6, s7, s8, s10]; intros; refine hK _ _ ?_; clear hK
  refine vcLex_step fun K hK => ?_; simp [s1, s3, s4, s5, s6, s7, s8, s10]; intros; refine hK _ _ ?_; clear hK
  refine vcLex_step fun K hK => ?_; simp [s1, s3, s4, s5, s6, s7, s8, s10]; intros; refine hK _ _ ?_; clear hK
  refine vcLex_step fun K hK => ?_; simp [s1, s3, s4, s5, s6, s7, s8, s10]; intros; refine hK _ _ ?_; clear hK
  refine vcLex_step fun K hK => ?_; simp [s1, s3, s4, s5, s6, s7, s8, s10]; intros; refine hK _ _ ?_; clear hK
  refine vcLex_step fun K hK => ?_; simp [s1, s3, s4, s5, s6, s7, s8, s10]; intros; refine hK _ _ ?_; clear hK
  refine vcLex_step fun K hK => ?_; simp [s1, s3, s4, s5, s6, s7, s8, s10]; refine vcCall_at (rVar_c 7) ?_; simp [s1, s3, s4, s5, s6, s7, s8, s10]; refine hK _ _ ?_; clear hK
  refine vcLex_step fun K hK => ?_; simp [s1, s3, s4, s5, s6, s7, s8, s10]; intros; refine hK _ _ ?_; clear hK
  refine vcLex_step fun K hK => ?_; simp [s1, s3, s4, s5, s6, s7, s8, s10]; refine vcCall_at (rVar_c 8) ?_; simp [s1, s3, s4, s5, s6, s7, s8, s10]; refine hK _ _ ?_; clear hK
  refine vcLex_step fun K hK => ?_; simp [s1, s3, s4, s5, s6, s7, s8, s10]; refine ⟨rfl, hK _ _ ?_⟩; clear hK
  refine vcLex_step fun K hK => ?_; simp [s1, s3, s4, s5, s6, s7, s8, s10]; refine vcCall_at (rComp_c fS (freshB 7 2)) ?_; simp [s1, s3, s4, s5, s6, s7, s8, s10]; refine hK _ _ ?_; clear hK
  refine vcLex_step fun K hK => ?_; simp [s1, s3, s4, s5, s6, s7, s8, s10]; refine vcCall_at (exact_c (compT fS (freshB 7 2)) (compT fS (freshB 7 2))) ?_; simp [s1, s3, s4, s5, s6, s7, s8, s10]; refine hK _ _ ?_; clear hK
  refine vcLex_step fun K hK => ?_; simp [s1, s3, s4, s5, s6, s7, s8, s10]; intros; refine hK _ _ ?_; clear hK
  refine vcLex_step fun K hK => ?_; simp [s1, s3, s4, s5, s6, s7, s8, s10]; intros; refine hK _ _ ?_; clear hK
  refine vcLex_step fun K hK => ?_; simp [s1, s3, s4, s5, s6, s7, s8, s10]; intros; refine hK _ _ ?_; clear hK
  refine vcLex_step fun K hK => ?_; simp [s1, s3, s4, s5, s6, s7, s8, s10]; intros; refine hK _ _ ?_; clear hK
  refine vcLex_step fun K hK => ?_; simp [s1, s3, s4, s5, s6, s7, s8, s10]; intros; refine hK _ _ ?_; clear hK
  refine vcLex_step fun K hK => ?_; simp [s1, s3, s4, s5, s6, s7, s8, s10]; intros; refine hK _ _ ?_; clear hK
  refine vcLex_step fun K hK => ?_; simp [s1, s3, s4, s5, s6, s7, s8, s10]; intros; refine hK _ _ ?_; clear hK
  refine vcLex_step fun K hK => ?_; simp [s1, s3, s4, s5, s6, s7, s8, s10]; intros; refine hK _ _ ?_; clear hK
  refine vcLex_step fun K hK => ?_; simp [s1, s3, s4, s5, s6, s7, s8, s10]; intros; refine hK _ _ ?_; clear hK
  refine vcLex_step fun K hK => ?_; simp [s1, s3, s4, s5, s6, s7, s8, s10]; intros; refine hK _ _ ?_; clear hK
  refine vcLex_step fun K hK => ?_; simp [s1, s3, s4, s5, s6, s7, s8, s10]; intros; refine hK _ _ ?_; clear hK
  refine vcLex_step fun K hK => ?_; simp [s1, s3, s4, s5, s6, s7, s8, s10]; intros; refine hK _ _ ?_; clear hK
  refine vcLex_step fun K hK => ?_; simp [s1, s3, s4, s5, s6, s7, s8, s10]; intros; refine hK _ _ ?_; clear hK
  refine vcLex_step fun K hK => ?_; simp [s1, s3, s4, s5, s6, s7, s8, s10]; intros; refine hK _ _ ?_; clear hK
  refine vcLex_step fun K hK => ?_; simp [s1, s3, s4, s5, s6, s7, s8, s10]; intros; refine hK _ _ ?_; clear hK
  refine vcLex_step fun K hK => ?_; simp [s1, s3, s4, s5, s6, s7, s8, s10]; intros; refine hK _ _ ?_; clear hK
  refine vcLex_step fun K hK => ?_; simp [s1, s3, s4, s5, s6, s7, s8, s10]; intros; refine hK _ _ ?_; clear hK
  refine vcLex_step fun K hK => ?_; simp [s1, s3, s4, s5, s6, s7, s8, s10]; intros; refine hK _ _ ?_; clear hK
  refine vcLex_step fun K hK => ?_; simp [s1, s3, s4, s5, s6, s7, s8, s10]; intros; refine hK _ _ ?_; clear hK
  refine vcLex_step fun K hK => ?_; simp [s1, s3, s4, s5, s6, s7, s8, s10]; intros; refine hK _ _ ?_; clear hK
  refine vcLex_step fun K hK => ?_; simp [s1, s3, s4, s5, s6, s7, s8, s10]; intros; refine hK _ _ ?_; clear hK
  refine vcLex_step fun K hK => ?_; simp [s1, s3, s4, s5, s6, s7, s8, s10]; intros; refine hK _ _ ?_; clear hK
  refine vcLex_step fun K hK => ?_; simp [s1, s3, s4, s5, s6, s7, s8, s10]; intros; refine hK _ _ ?_; clear hK
  refine vcLex_step fun K hK => ?_; simp [s1, s3, s4, s5, s6, s7, s8, s10]; intros; refine hK _ _ ?_; clear hK
  refine vcLex_step fun K hK => ?_; simp [s1, s3, s4, s5, s6, s7, s8, s10]; refine vcCall_at (rInst_c) ?_; simp [s1, s3, s4, s5, s6, s7, s8, s10]; refine hK _ _ ?_; clear hK
  refine vcLex_step fun K hK => ?_; simp [s1, s3, s4, s5, s6, s7, s8, s10]; refine vcCall_at (exact_c instT instT) ?_; simp [s1, s3, s4, s5, s6, s7, s8, s10]; refine hK _ _ ?_; clear hK
  refine vcLex_step fun K hK => ?_; simp [s1, s3, s4, s5, s6, s7, s8, s10]; intros; refine hK _ _ ?_; clear hK
  refine vcLex_step fun K hK => ?_; simp [s1, s3, s4, s5, s6, s7, s8, s10]; intros; refine hK _ _ ?_; clear hK
  refine vcLex_step fun K hK => ?_; simp [s1, s3, s4, s5, s6, s7, s8, s10]; intros; refine hK _ _ ?_; clear hK
  refine vcLex_step fun K hK => ?_; simp [s1, s3, s4, s5, s6, s7, s8, s10]; intros; refine hK _ _ ?_; clear hK
  refine vcLex_step fun K hK => ?_; simp [s1, s3, s4, s5, s6, s7, s8, s10]; intros; refine hK _ _ ?_; clear hK
  refine vcLex_step fun K hK => ?_; simp [s1, s3, s4, s5, s6, s7, s8, s10]; intros; refine hK _ _ ?_; clear hK
  refine vcLex_step fun K hK => ?_; simp [s1, s3, s4, s5, s6, s7, s8, s10]; refine vcCall_at (bknown_c isS 2) ?_; simp [s1, s3, s4, s5, s6, s7, s8, s10]; refine hK _ _ ?_; clear hK
  refine vcLex_step fun K hK => ?_; simp [s1, s3, s4, s5, s6, s7, s8, s10]; intros; refine hK _ _ ?_; clear hK
  refine vcLex_step fun K hK => ?_; simp [s1, s3, s4, s5, s6, s7, s8, s10]; intros; refine hK _ _ ?_; clear hK
  refine vcLex_step fun K hK => ?_; simp [s1, s3, s4, s5, s6, s7, s8, s10]; refine vcCall_at (bknown_c isS 1) ?_; simp [s1, s3, s4, s5, s6, s7, s8, s10]; refine hK _ _ ?_; clear hK
  refine vcLex_step fun K hK => ?_; simp [s1, s3, s4, s5, s6, s7, s8, s10]; intros; refine hK _ _ ?_; clear hK
  refine vcLex_step fun K hK => ?_; simp [s1, s3, s4, s5, s6, s7, s8, s10]; intros; refine hK _ _ ?_; clear hK
  refine vcLex_step fun K hK => ?_; simp [s1, s3, s4, s5, s6, s7, s8, s10]; intros; refine hK _ _ ?_; clear hK
  simp
  exact hK _ _ (by have e2 : knownC isS 2 = true := by decide
                   have e1 : knownC isS 1 = false := by decide
                   simp [e1, e2])
end Go.T1
end

section
open Go Go.Ab Go.Proofs
namespace Go.T1
set_option maxRecDepth 100000 in
theorem BuiltCalls_c (name : ByteArray) (l : List Tm) (next : Int) (hn : Tm.niceL l) : PureCall T Tryz.prog 3 [.sc (.string name), .lst 26 (Tm.cellsL 26 l), .sc (.int .i64 next)] (.sc (.bool true)) := by
  refine PureCall.of_vc hT [] [] follows Tryz.call3 Tryz.func3 rfl (drawsOk_of3 (by kernel_rfl)) (by simp [AV.pure, AV.pureL, AV.pureM]) (by simp [AV.pure]) ?_
  unfold Tryz.f3
  dsimp only
  refine vcC_cut (fun σ Z => σ 0 = .sc (.string name) ∧ σ 1 = .lst 26 (Tm.cellsL 26 l) ∧ σ 2 = .sc (.int .i64 next) ∧ [] = Z) (fun K hK => ?_) ?_
  · simp; exact hK _ _ (by simp)
  rintro σ Z ⟨s0, s1, s2, rfl⟩
  refine vcC_cut (fun σ Z => l.length ≤ 4 ∧ largeL l = false ∧ next ≤ 1099511627776 ∧ -1099511627776 ≤ next ∧ σ 0 = .sc (.string name) ∧ σ 1 = .lst 26 (Tm.cellsL 26 l) ∧ σ 2 = .sc (.int .i64 next) ∧ [] = Z) (fun K hK => ?_) ?_
  · simp [s0, s1, s2]
    refine vcCall_at (blarge_c l hn) ?_
    try simp [s0, s1, s2]
    refine ⟨fun _ => vcCall_at blives_c (by simp), fun h1 h2 _ h3 h4 => hK _ _ ?_⟩
    simp [s0, s1, s2, h1, h2, h3, h4]
  clear s0 s1 s2 σ
  rintro σ Z ⟨h1, h2, h3, h4, s0, s1, s2, rfl⟩
  have hs : ∀ x ∈ l, x.small := fun x hx => Tm.large_small ((largeL_false h2).1 x hx)
  refine vcC_cut (fun σ Z => σ 0 = .sc (.string name) ∧ σ 1 = .lst 26 (Tm.cellsL 26 l) ∧ σ 2 = .sc (.int .i64 next) ∧ σ 7 = .eptr (CallR copB numbersB name l next).c ∧ σ 8 = .sc (.bool (knownC name l.length)) ∧ [] = Z) (fun K hK => ?_) ?_
  · simp [s0, s1, s2]
    refine vcCall_at (Call_c name l next hs (by omega) (by omega) (by omega)) ?_
    simp [callV]
    exact hK _ _ (by simp [s0, s1, s2])
  clear s0 s1 s2 σ
  rintro σ Z ⟨s0, s1, s2, s7, s8, rfl⟩
  refine vcC_cut (fun σ Z => σ 0 = .sc (.string name) ∧ σ 1 = .lst 26 (Tm.cellsL 26 l) ∧ σ 2 = .sc (.int .i64 next) ∧ σ 7 = .eptr (CallR copB numbersB name l next).c ∧ σ 8 = .sc (.bool (knownC name l.length)) ∧ σ 9 = .eptr (CallR copB numbersB name l next).c ∧ σ 10 = .sc (.bool (knownC name l.length)) ∧ [] = Z) (fun K hK => ?_) ?_
  · simp [s0, s1, s2]
    refine vcCall_at (rCall_c name l next hs (by omega) (by omega) (by omega)) ?_
    simp [callV]
    exact hK _ _ (by simp [s0, s1, s2, s7, s8, Call_same])
  clear s0 s1 s2 s7 s8 σ
  rintro σ Z ⟨s0, s1, s2, s7, s8, s9, s10, rfl⟩
  simp
  refine vcCall_at blives_c ?_
  simp [s0, s1, s2, s7, s8, s9, s10]
  refine vcCall_at (bsame_c _ _) ?_
  simp [s0, s1]
  intro _ _
  refine vcCall_at (bknown_c name l.length) ?_
  simp [s0, s1]
  intro _ _
  refine vcCall_at (rbknown_c name l.length) ?_
  simp
end Go.T1
end

section
open Go Go.Ab Go.Proofs
namespace Go.T1
theorem Un_app {B : Bs} {ps : List (Tm × Tm)} {r : Option Bs} (h : Un B ps r) : ∀ qs, (r = none → Un B (ps ++ qs) none) ∧ ∀ B', r = some B' → ∀ r', Un B' qs r' → Un B (ps ++ qs) r' := by
  induction h with
  | nil B => intro qs; exact ⟨fun h => (by cases h), fun B' h r' h' => (by cases h; exact h')⟩
  | fail hs => intro qs; exact ⟨fun _ => .fail hs, fun B' h => (by cases h)⟩
  | go hs _ ih =>
    intro qs
    obtain ⟨i1, i2⟩ := ih qs
    rw [List.append_assoc] at i1 i2
    exact ⟨fun h => .go hs (i1 h), fun B' h r' h' => .go hs (i2 B' h r' h')⟩
open Classical in
noncomputable def outU (ps : List (Tm × Tm)) : Option Bs := if h : ∃ r, Un [] ps r then Classical.choose h else none
theorem outU_eq {ps : List (Tm × Tm)} {r : Option Bs} (h : Un [] ps r) : outU ps = r := by
  unfold outU
  rw [dif_pos ⟨r, h⟩]
  exact (Classical.choose_spec (p := fun r => Un [] ps r) ⟨r, h⟩).det _ h
/-- What a term comes to behind a result's unifications. -/
noncomputable def solT (r : BRes) (t : Tm) : Tm × Bool :=
  match outU (r.left.zip r.right) with
  | none => (Tm.zero, false)
  | some B => ((appR B t).1, r.ok && decide ((appR B t).2 = 0))
noncomputable def solV (p : Tm × Bool) : AV := .tup [p.1.av 26, .sc (.bool p.2)]
def zT : List AV := [.sc (.int .i64 0), .sc (.int .i64 0), .sc (.string .empty), .nils]
def rZ (g : Nat) (al : Bool) (B : Bs) : St := [.cells zT, .map (mapOf (keys B) 0), .cells [.own 3 g, .mp 1], .row 104 g al (bindsL B)]
theorem rZ_new : [.cells zT] ++ rNewSt 1 = rZ 0 false [] := rfl
theorem rZ_put (g g' : Nat) (al al' : Bool) (B B' : Bs) : rST (rZ g al B) 2 1 3 g' al' B' = rZ g' al' B' := rfl
theorem rZ_RS {g : Nat} {al : Bool} {B : Bs} (h : B ≠ [] → al = true) : RS (rZ g al B) 2 1 3 g al B := ⟨rfl, rfl, rfl, h, by decide, by decide, by decide⟩
def VL (l : List Tm) : List Int := Tm.occL l
theorem VL_in {l : List Tm} {t : Tm} (h : t ∈ l) : inV (VL l) t := fun _ hn => Tm.occ_mem h hn
theorem VL_len {l : List Tm} (h : ∀ x ∈ l, x.check = 0) (hl : l.length ≤ 10) : (VL l).length ≤ 1000000000 := by
  have h1 := occL_len l
  have h2 : Tm.sizeL l ≤ 4096 * l.length := by
    clear hl h1
    induction l with
    | nil => simp [Tm.sizeL]
    | cons y ys ih =>
      have h1 := ((check_iff _).1 (h y (by simp))).2.2
      have h2 := ih fun x hx => h x (by simp [hx])
      simp only [Tm.sizeL, List.length_cons]; omega
  unfold VL; omega
def solI (r : BRes) (t : Tm) (ps : List (Tm × Tm)) (σ : Slots) (Z : St) : Prop := ∃ g al B, Un [] ps (some B) ∧ (B ≠ [] → al = true) ∧ OkB B ∧ BsV (VL (r.left ++ r.right)) B ∧ σ 2 = .eptr r.c ∧ σ 3 = .eptr (t.cells 26) ∧ σ 4 = .ptr 0 0 ∧ σ 6 = .ptr 2 0 ∧ rZ g al B = Z
set_option maxRecDepth 100000 in
theorem solved_c (r : BRes) (t : Tm) (hL : ∀ x ∈ r.left, x.check = 0) (hR : ∀ x ∈ r.right, x.check = 0) (hlen : r.left.length = r.right.length) (hl : r.left.length ≤ 4) (ht : t.right = true) :
    PureCall T Tryz.prog 22 [.agg r.c, t.av 26] (solV (solT r t)) := by
  refine PureCall.of_vc hT [] ([(1, 0), (5, 28), (7, 2)] ++ [0, 1, 2, 3, 4, 5, 6, 7, 8, 9, 10, 11, 12, 13, 14, 15, 16, 17, 18, 19, 20, 21, 22, 23, 24, 25, 26, 27, 28, 29, 30].map (Prod.mk 200005)) follows Tryz.call22 Tryz.func22 rfl (drawsOk_of3 (by kernel_rfl)) (by simp [AV.pure, AV.pureL, AV.pureM]) (by simp [solV, AV.pure, AV.pureL]) ?_
  obtain ⟨ok, L, R, th, ba⟩ := r
  simp only at hL hR hlen hl
  generalize hX : solT ⟨ok, L, R, th, ba⟩ t = X
  simp only [solT] at hX
  unfold Tryz.f22
  dsimp only
  refine vcC_cut (fun σ Z => σ 2 = .eptr (BRes.c ⟨ok, L, R, th, ba⟩) ∧ σ 3 = .eptr (t.cells 26) ∧ σ 4 = .ptr 0 0 ∧ [.cells zT] = Z) (fun K hK => ?_) ?_
  · simp
    refine hK _ _ ?_
    simp [zT]
  rintro σ Z ⟨s2, s3, s4, rfl⟩
  refine vcC_cut (fun σ Z => σ 2 = .eptr (BRes.c ⟨ok, L, R, th, ba⟩) ∧ σ 3 = .eptr (t.cells 26) ∧ σ 4 = .ptr 0 0 ∧ σ 6 = .ptr 2 0 ∧ rZ 0 false [] = Z) (fun K hK => ?_) ?_
  · simp
    refine vcICall_of (rNew_c [.cells zT]) ?_
    rintro r st' ⟨rfl, rfl⟩ _
    simp
    refine hK _ _ ?_
    simp [s2, s3, s4]
    rfl
  clear s2 s3 s4 σ
  rintro σ Z ⟨s2, s3, s4, s6, rfl⟩
  refine vcC_cut (fun σ Z => ∃ g al B, Un [] (L.zip R) (some B) ∧ (B ≠ [] → al = true) ∧ OkB B ∧ σ 2 = .eptr (BRes.c ⟨ok, L, R, th, ba⟩) ∧ σ 3 = .eptr (t.cells 26) ∧ σ 4 = .ptr 0 0 ∧ σ 6 = .ptr 2 0 ∧ rZ g al B = Z) (fun K hK => ?_) ?_
  case refine_2 =>
    clear s2 s3 s4 s6 σ
    rintro σ Z ⟨g, al, B, hU, hal, hok, s2, s3, s4, s6, rfl⟩
    rw [outU_eq hU] at hX
    simp only at hX
    simp [s3, s6]
    refine vcICall_of (rApply_c hok t ht _ 2 1 3 g al (rZ_RS hal)) ?_
    rintro r st' ⟨rfl, rfl⟩ _
    simp [appV, s2, s3, s4, BRes.c]
    simp [rZ, zT, solV, ← hX]
  refine vcC_cut (fun σ Z => σ 2 = .eptr (BRes.c ⟨ok, L, R, th, ba⟩) ∧ σ 3 = .eptr (t.cells 26) ∧ σ 4 = .ptr 0 0 ∧ σ 6 = .ptr 2 0 ∧ σ 7 = .sc (.int .i64 0) ∧ rZ 0 false [] = Z) (fun K hK => ?_) ?_
  · simp
    refine hK _ _ ?_
    simp [s2, s3, s4, s6]
  clear s2 s3 s4 s6 σ
  rintro σ Z ⟨s2, s3, s4, s6, s7, rfl⟩
  refine vcC_blk (fun σ Z => ∃ g al B, Un [] (L.zip R) (some B) ∧ (B ≠ [] → al = true) ∧ OkB B ∧ σ 2 = .eptr (BRes.c ⟨ok, L, R, th, ba⟩) ∧ σ 3 = .eptr (t.cells 26) ∧ σ 4 = .ptr 0 0 ∧ σ 6 = .ptr 2 0 ∧ rZ g al B = Z) (fun Kc Xc hKc hX0 hXj => ?_) hK
  clear hK
  refine vcC_loop [] (fun m σ Z => ∃ i : Nat, m = L.length - i ∧ i ≤ L.length ∧ σ 7 = .sc (.int .i64 i) ∧ solI ⟨ok, L, R, th, ba⟩ t ((L.zip R).take i) σ Z) L.length ?_ ?_
  · refine ⟨0, by simp, by simp, by simp [s7], 0, false, [], .nil _, by simp, OkB_nil, (fun n t h => by cases h), s2, s3, s4, s6, rfl⟩
  clear s2 s3 s4 s6 s7 σ
  rintro m σ Z ⟨i, rfl, hi, s7, g, al, B, hU, hal, hok, hV, s2, s3, s4, s6, rfl⟩
  rcases Nat.lt_or_ge i L.length with hlt | hge
  case inr =>
    have hi' : i = L.length := by omega
    subst hi'
    rw [List.take_of_length_le (by simp; omega)] at hU
    simp [s2, s7, BRes.c]
    intro _ _
    rw [hX0]
    refine hKc _ _ ⟨g, al, B, hU, hal, hok, ?_⟩
    simp [s2, s3, s4, s6, BRes.c]
  have hlt2 : i < R.length := by omega
  refine vcC_cut (fun σ Z => σ 2 = .eptr (BRes.c ⟨ok, L, R, th, ba⟩) ∧ σ 3 = .eptr (t.cells 26) ∧ σ 4 = .ptr 0 0 ∧ σ 6 = .ptr 2 0 ∧ σ 7 = .sc (.int .i64 (i : Nat)) ∧ rZ g al B = Z) (fun K hK => ?_) ?_
  · simp [s2, s7, BRes.c, hlt, hlt2]
    intros
    refine hK _ _ ?_
    simp [s2, s3, s4, s6, s7, BRes.c]
  clear s2 s3 s4 s6 s7 σ
  rintro σ Z ⟨s2, s3, s4, s6, s7, rfl⟩
  refine vcC_cut (fun σ Z => ∃ g al B, Un [] ((L.zip R).take (i + 1)) (some B) ∧ (B ≠ [] → al = true) ∧ OkB B ∧ BsV (VL (L ++ R)) B ∧ σ 2 = .eptr (BRes.c ⟨ok, L, R, th, ba⟩) ∧ σ 3 = .eptr (t.cells 26) ∧ σ 4 = .ptr 0 0 ∧ σ 6 = .ptr 2 0 ∧ σ 7 = .sc (.int .i64 (i : Nat)) ∧ rZ g al B = Z) (fun K hK => ?_) ?_
  case refine_2 =>
    clear hU hal hok hV s2 s3 s4 s6 s7 σ
    rintro σ Z ⟨g, al, B, hU, hal, hok, hV, s2, s3, s4, s6, s7, rfl⟩
    simp [s7]
    refine ⟨by unfold i64ok; omega, L.length - (i + 1), by omega, i + 1, rfl, by omega, by omega, g, al, B, hU, hal, hok, hV, ?_⟩
    simp [s2, s3, s4, s6]
  refine vcC_blk (fun σ Z => ∃ g al B, Un [] ((L.zip R).take (i + 1)) (some B) ∧ (B ≠ [] → al = true) ∧ OkB B ∧ BsV (VL (L ++ R)) B ∧ σ 2 = .eptr (BRes.c ⟨ok, L, R, th, ba⟩) ∧ σ 3 = .eptr (t.cells 26) ∧ σ 4 = .ptr 0 0 ∧ σ 6 = .ptr 2 0 ∧ σ 7 = .sc (.int .i64 (i : Nat)) ∧ rZ g al B = Z) (fun Kd Xd hKd hX1 hXd => ?_) hK
  clear hK
  have c1 := hL _ (List.getElem_mem hlt)
  have c2 := hR _ (List.getElem_mem hlt2)
  have hu := rUnifyM_c (VL (L ++ R)) (VL_len (by intro x hx; rcases List.mem_append.1 hx with hx | hx; exact hL x hx; exact hR x hx) (by simp; omega)) hok hV L[i] R[i] ((check_iff _).1 c1).1 ((check_iff _).1 c2).1 (VL_in (by simp)) (VL_in (by simp)) (rZ g al B) 2 1 3 g al (rZ_RS hal)
  have htk : (L.zip R).take (i + 1) = (L.zip R).take i ++ [(L[i], R[i])] := by
    rw [List.take_add_one, List.getElem?_eq_getElem (by simp; omega)]; simp
  refine vcC_cut (fun σ Z => ∃ rb g al B', (rb = true → Un B [(L[i], R[i])] (some B')) ∧ (rb = false → Un B [(L[i], R[i])] none) ∧ (B' ≠ [] → al = true) ∧ OkB B' ∧ BsV (VL (L ++ R)) B' ∧ σ 2 = .eptr (BRes.c ⟨ok, L, R, th, ba⟩) ∧ σ 3 = .eptr (t.cells 26) ∧ σ 4 = .ptr 0 0 ∧ σ 6 = .ptr 2 0 ∧ σ 7 = .sc (.int .i64 (i : Nat)) ∧ σ 55 = .sc (.bool (!rb)) ∧ rZ g al B' = Z) (fun K hK => ?_) ?_
  · simp
    refine ⟨fun _ _ _ => True, ?_⟩
    simp (decide := true) [s2, s3, s4, s6, s7, BRes.c, hlt, hlt2, c1, c2]
    refine ⟨by simp (decide := true) [s2, s3, s4, s6, s7, BRes.c, hlt, hlt2, c1, c2], ?_⟩; simp (decide := true) [s2, s3, s4, s6, s7, BRes.c, hlt, hlt2, c1, c2]
    refine ⟨by simp (decide := true) [s2, s3, s4, s6, s7, BRes.c, hlt, hlt2, c1, c2], ?_⟩; simp (decide := true) [s2, s3, s4, s6, s7, BRes.c, hlt, hlt2, c1, c2]
    refine ⟨by simp (decide := true) [s2, s3, s4, s6, s7, BRes.c, hlt, hlt2, c1, c2], ?_⟩; simp (decide := true) [s2, s3, s4, s6, s7, BRes.c, hlt, hlt2, c1, c2]
    refine ⟨by simp (decide := true) [s2, s3, s4, s6, s7, BRes.c, hlt, hlt2, c1, c2], ?_⟩; simp (decide := true) [s2, s3, s4, s6, s7, BRes.c, hlt, hlt2, c1, c2]
    refine ⟨by simp (decide := true) [s2, s3, s4, s6, s7, BRes.c, hlt, hlt2, c1, c2], ?_⟩; simp (decide := true) [s2, s3, s4, s6, s7, BRes.c, hlt, hlt2, c1, c2]
    refine vcCall_at (rCheck_c L[i] (small_ok c1)) ?_; simp (decide := true) [s2, s3, s4, s6, s7, BRes.c, hlt, hlt2, c1, c2]
    refine ⟨by simp (decide := true) [s2, s3, s4, s6, s7, BRes.c, hlt, hlt2, c1, c2], ?_⟩; simp (decide := true) [s2, s3, s4, s6, s7, BRes.c, hlt, hlt2, c1, c2]
    refine ⟨by simp (decide := true) [s2, s3, s4, s6, s7, BRes.c, hlt, hlt2, c1, c2], ?_⟩; simp (decide := true) [s2, s3, s4, s6, s7, BRes.c, hlt, hlt2, c1, c2]
    refine ⟨by simp (decide := true) [s2, s3, s4, s6, s7, BRes.c, hlt, hlt2, c1, c2], ?_⟩; simp (decide := true) [s2, s3, s4, s6, s7, BRes.c, hlt, hlt2, c1, c2]
    refine ⟨by simp (decide := true) [s2, s3, s4, s6, s7, BRes.c, hlt, hlt2, c1, c2], ?_⟩; simp (decide := true) [s2, s3, s4, s6, s7, BRes.c, hlt, hlt2, c1, c2]
    refine ⟨by simp (decide := true) [s2, s3, s4, s6, s7, BRes.c, hlt, hlt2, c1, c2], ?_⟩; simp (decide := true) [s2, s3, s4, s6, s7, BRes.c, hlt, hlt2, c1, c2]
    refine ⟨by simp (decide := true) [s2, s3, s4, s6, s7, BRes.c, hlt, hlt2, c1, c2], ?_⟩; simp (decide := true) [s2, s3, s4, s6, s7, BRes.c, hlt, hlt2, c1, c2]
    refine ⟨by simp (decide := true) [s2, s3, s4, s6, s7, BRes.c, hlt, hlt2, c1, c2], ?_⟩; simp (decide := true) [s2, s3, s4, s6, s7, BRes.c, hlt, hlt2, c1, c2]
    refine ⟨by simp (decide := true) [s2, s3, s4, s6, s7, BRes.c, hlt, hlt2, c1, c2], ?_⟩; simp (decide := true) [s2, s3, s4, s6, s7, BRes.c, hlt, hlt2, c1, c2]
    refine vcCall_at (rCheck_c R[i] (small_ok c2)) ?_; simp (decide := true) [s2, s3, s4, s6, s7, BRes.c, hlt, hlt2, c1, c2]
    refine ⟨by simp (decide := true) [s2, s3, s4, s6, s7, BRes.c, hlt, hlt2, c1, c2], ?_⟩; simp (decide := true) [s2, s3, s4, s6, s7, BRes.c, hlt, hlt2, c1, c2]
    refine ⟨by simp (decide := true) [s2, s3, s4, s6, s7, BRes.c, hlt, hlt2, c1, c2], ?_⟩; simp (decide := true) [s2, s3, s4, s6, s7, BRes.c, hlt, hlt2, c1, c2]
    refine ⟨by simp (decide := true) [s2, s3, s4, s6, s7, BRes.c, hlt, hlt2, c1, c2], ?_⟩; simp (decide := true) [s2, s3, s4, s6, s7, BRes.c, hlt, hlt2, c1, c2]
    refine ⟨by simp (decide := true) [s2, s3, s4, s6, s7, BRes.c, hlt, hlt2, c1, c2], ?_⟩; simp (decide := true) [s2, s3, s4, s6, s7, BRes.c, hlt, hlt2, c1, c2]
    refine ⟨by simp (decide := true) [s2, s3, s4, s6, s7, BRes.c, hlt, hlt2, c1, c2], ?_⟩; simp (decide := true) [s2, s3, s4, s6, s7, BRes.c, hlt, hlt2, c1, c2]
    refine ⟨by simp (decide := true) [s2, s3, s4, s6, s7, BRes.c, hlt, hlt2, c1, c2], ?_⟩; simp (decide := true) [s2, s3, s4, s6, s7, BRes.c, hlt, hlt2, c1, c2]
    refine ⟨by simp (decide := true) [s2, s3, s4, s6, s7, BRes.c, hlt, hlt2, c1, c2], ?_⟩; simp (decide := true) [s2, s3, s4, s6, s7, BRes.c, hlt, hlt2, c1, c2]
    refine ⟨by simp (decide := true) [s2, s3, s4, s6, s7, BRes.c, hlt, hlt2, c1, c2], ?_⟩; simp (decide := true) [s2, s3, s4, s6, s7, BRes.c, hlt, hlt2, c1, c2]
    refine ⟨by simp (decide := true) [s2, s3, s4, s6, s7, BRes.c, hlt, hlt2, c1, c2], ?_⟩; simp (decide := true) [s2, s3, s4, s6, s7, BRes.c, hlt, hlt2, c1, c2]
    refine ⟨by simp (decide := true) [s2, s3, s4, s6, s7, BRes.c, hlt, hlt2, c1, c2], ?_⟩; simp (decide := true) [s2, s3, s4, s6, s7, BRes.c, hlt, hlt2, c1, c2]
    refine ⟨by simp (decide := true) [s2, s3, s4, s6, s7, BRes.c, hlt, hlt2, c1, c2], ?_⟩; simp (decide := true) [s2, s3, s4, s6, s7, BRes.c, hlt, hlt2, c1, c2]
    refine ⟨by simp (decide := true) [s2, s3, s4, s6, s7, BRes.c, hlt, hlt2, c1, c2], ?_⟩; simp (decide := true) [s2, s3, s4, s6, s7, BRes.c, hlt, hlt2, c1, c2]
    refine ⟨by simp (decide := true) [s2, s3, s4, s6, s7, BRes.c, hlt, hlt2, c1, c2], ?_⟩; simp (decide := true) [s2, s3, s4, s6, s7, BRes.c, hlt, hlt2, c1, c2]
    refine ⟨by simp (decide := true) [s2, s3, s4, s6, s7, BRes.c, hlt, hlt2, c1, c2], ?_⟩; simp (decide := true) [s2, s3, s4, s6, s7, BRes.c, hlt, hlt2, c1, c2]
    refine ⟨by simp (decide := true) [s2, s3, s4, s6, s7, BRes.c, hlt, hlt2, c1, c2], ?_⟩; simp (decide := true) [s2, s3, s4, s6, s7, BRes.c, hlt, hlt2, c1, c2]
    refine vcThenQ_yes _ rfl (by simp) rfl (by simp (decide := true)) (by simp [vcI]; exact hu) (fun r st' h => trivial) ?_
    rintro r st' ⟨rb, B', g', al', rfl, rfl, hal', hok', hV', hy, hn⟩ _
    simp (decide := true)
    refine ⟨by simp (decide := true), ?_⟩; simp (decide := true)
    refine ⟨by simp (decide := true), ?_⟩; simp (decide := true)
    exact hK _ _ ⟨rb, g', al', B', hy, fun h => (hn h).1, hal', hok', hV', by simp [s2, BRes.c], by simp [s3], by simp [s4], by simp [s6], by simp [s7], by simp, rfl⟩
  clear s2 s3 s4 s6 s7 σ
  rintro σ Z ⟨rb, g2, al2, B2, hy, hn, hal2, hok2, hV2, s2, s3, s4, s6, s7, s55, rfl⟩
  cases rb with
  | true =>
    simp [s55]
    refine hKd _ _ ⟨g2, al2, B2, ?_, hal2, hok2, hV2, s2, s3, s4, s6, s7, rfl⟩
    rw [htk]
    exact (Un_app hU _).2 _ rfl _ (hy rfl)
  | false =>
    have h1 : Un [] (L.zip R) none := by
      have h2 := (Un_app hU [(L[i], R[i])]).2 _ rfl _ (hn rfl)
      rw [← htk] at h2
      have h3 := (Un_app h2 ((L.zip R).drop (i + 1))).1 rfl
      rw [List.take_append_drop] at h3
      exact h3
    rw [outU_eq h1] at hX
    simp only at hX
    simp [s55, s4, rZ, zT, solV, ← hX, Tm.zero, Tm.cells, Tm.cellsL]
    rfl
end Go.T1
end

section
open Go Go.Ab Go.Proofs
namespace Go.T1
theorem fin_none {r : BRes} (h1 : r.left = []) (h2 : r.right = []) : finB r = r := by
  unfold finB; rw [if_pos (by simp [h1, h2])]
theorem fin_ok {r : BRes} (h1 : ∀ x ∈ r.left, x.check = 0) (h2 : ∀ x ∈ r.right, x.check = 0) : finB r = r := by
  unfold finB; rw [if_pos ⟨h1, h2⟩]
theorem Call1 {C : Tm → Int → Tm} {N : ByteArray → Tm → Tm → BRes} {op : ByteArray} {a : Tm} {next : Int} (hk : knownC op 1 = true) (ha : a.check = 0) : CallR C N op [a] next = singleB op a := by
  unfold CallR
  rw [if_pos (by simpa using hk), if_pos (by simp [ha])]
  refine fin_none ?_ ?_ <;> (simp only [callB, singleB]; split <;> (try rfl); split <;> (try rfl); split <;> (try rfl); split <;> rfl)
theorem Call2 {C : Tm → Int → Tm} {N : ByteArray → Tm → Tm → BRes} {op : ByteArray} {a b : Tm} {next : Int} (hk : knownC op 2 = true) (ha : a.check = 0) (hb : b.check = 0) : CallR C N op [a, b] next = finB (doubleB op a b (C a next) (N op a b)) := by
  unfold CallR
  rw [if_pos (by simpa using hk), if_pos (by simp [ha, hb])]
  rfl
theorem Call3 {C : Tm → Int → Tm} {N : ByteArray → Tm → Tm → BRes} {op : ByteArray} {a b c : Tm} {next : Int} (hk : knownC op 3 = true) (ha : a.check = 0) (hb : b.check = 0) (hc : c.check = 0) : CallR C N op [a, b, c] next = finB (if op = ⟨#[99, 111, 109, 112, 97, 114, 101]⟩ then compareB a b c else if op = ⟨#[102, 117, 110, 99, 116, 111, 114]⟩ then functorB a b c next else argB a b c) := by
  unfold CallR
  rw [if_pos (by simpa using hk), if_pos (by simp [ha, hb, hc])]
  rfl
theorem ordered_lists (op : ByteArray) (a b : Tm) : (orderedB op a b).left = [] ∧ (orderedB op a b).right = [] := by
  unfold orderedB
  split; exact ⟨rfl, rfl⟩
  split; exact ⟨rfl, rfl⟩
  split; exact ⟨rfl, rfl⟩
  split; exact ⟨rfl, rfl⟩
  exact ⟨rfl, rfl⟩
variable {a b : Tm} (ha : a.check = 0) (hb : b.check = 0)
include ha hb in
theorem call_lt : CallR copB numbersB ⟨#[64, 60]⟩ [a, b] 0 = orderedB ⟨#[64, 60]⟩ a b := by
  rw [Call2 (by decide) ha hb]
  rw [show doubleB ⟨#[64, 60]⟩ a b (copB a 0) (numbersB ⟨#[64, 60]⟩ a b) = orderedB ⟨#[64, 60]⟩ a b by simp [doubleB]]
  exact fin_none (ordered_lists _ _ _).1 (ordered_lists _ _ _).2
include ha hb in
theorem call_gt : CallR copB numbersB ⟨#[64, 62]⟩ [a, b] 0 = orderedB ⟨#[64, 62]⟩ a b := by
  rw [Call2 (by decide) ha hb]
  rw [show doubleB ⟨#[64, 62]⟩ a b (copB a 0) (numbersB ⟨#[64, 62]⟩ a b) = orderedB ⟨#[64, 62]⟩ a b by simp [doubleB]]
  exact fin_none (ordered_lists _ _ _).1 (ordered_lists _ _ _).2
include ha hb in
theorem call_eq : CallR copB numbersB ⟨#[61, 61]⟩ [a, b] 0 = whenB (decide (a = b)) := by
  rw [Call2 (by decide) ha hb]
  rw [show doubleB ⟨#[61, 61]⟩ a b (copB a 0) (numbersB ⟨#[61, 61]⟩ a b) = whenB (decide (a = b)) by simp [doubleB]]
  exact fin_none rfl rfl
include ha hb in
theorem call_cmp {o : Tm} (ho : o.check = 0) : CallR copB numbersB ⟨#[99, 111, 109, 112, 97, 114, 101]⟩ [o, a, b] 0 = compareB o a b := by
  rw [Call3 (by decide) ho ha hb, if_pos rfl]
  unfold compareB
  split
  · exact fin_none rfl rfl
  · refine fin_ok (by simp [pairB, ho]) ?_
    simp only [pairB, List.mem_singleton, forall_eq, signS]
    split; decide +kernel
    split; decide +kernel
    decide +kernel
theorem o_check : (atomT ⟨#[111]⟩).check = 0 := by decide +kernel
end Go.T1
end

section
open Go Go.Ab Go.Proofs
namespace Go.T1
set_option maxRecDepth 100000 in
set_option maxHeartbeats 2000000 in
theorem BuiltOrders_c (a b : Tm) (na : a.nice) (nb : b.nice) : PureCall T Tryz.prog 5 [a.av 26, b.av 26] (.sc (.bool true)) := by
  refine PureCall.of_vc hT [] ([(6, 8), (6, 9)] ++ [0, 1, 2, 3, 4, 5, 6, 7, 8, 9, 10].map (Prod.mk 200006)) follows Tryz.call5 Tryz.func5 rfl (drawsOk_of3 (by kernel_rfl)) (by simp [AV.pure, AV.pureL, AV.pureM]) (by simp [AV.pure]) ?_
  unfold Tryz.f5
  dsimp only
  refine vcC_cut (fun σ Z => σ 2 = .eptr (a.cells 26) ∧ σ 3 = .eptr (b.cells 26) ∧ [] = Z) (fun K hK => ?_) ?_
  · simp; exact hK _ _ (by simp)
  rintro σ Z ⟨s2, s3, rfl⟩
  refine vcC_cut (fun σ Z => a.check = 0 ∧ b.check = 0 ∧ σ 2 = .eptr (a.cells 26) ∧ σ 3 = .eptr (b.cells 26) ∧ [] = Z) (fun K hK => ?_) ?_
  · simp [s2, s3]
    refine vcCall_at (Large_c a na) ?_
    simp [s2, s3]
    cases hla : a.large
    case true =>
      simp
      refine ⟨[], .sc (.bool false), fun h => (by simp at h), ?_⟩
      simp
      refine ⟨[], .sc (.int .i64 0), fun h => (by simp at h), ?_⟩
      simp
      refine ⟨[], .sc (.int .i64 0), fun h => (by simp at h), ?_⟩
      simp
      exact vcCall_at blives_c (by simp)
    simp
    refine vcCall_at (Large_c b nb) ?_
    simp [s2, s3]
    cases hlb : b.large
    case true =>
      simp
      refine ⟨[], .sc (.int .i64 0), fun h => (by simp at h), ?_⟩
      simp
      refine ⟨[], .sc (.int .i64 0), fun h => (by simp at h), ?_⟩
      simp
      exact vcCall_at blives_c (by simp)
    simp
    refine vcCall_at (rCheck_c a (Tm.large_small hla)) ?_
    simp [s2, s3]
    by_cases ca : a.check = 0
    case neg =>
      simp [ca]
      refine ⟨[], .sc (.int .i64 0), fun h => (by simp [ca] at h), ?_⟩
      simp [ca]
      exact vcCall_at blives_c (by simp)
    simp [ca]
    refine vcCall_at (rCheck_c b (Tm.large_small hlb)) ?_
    simp [s2, s3]
    by_cases cb : b.check = 0
    case neg =>
      simp [cb]
      exact vcCall_at blives_c (by simp)
    simp [cb]
    exact hK _ _ (by simp [s2, s3, ca, cb])
  clear s2 s3 σ
  rintro σ Z ⟨ca, cb, s2, s3, rfl⟩
  have hself := ordT_self a
  have hzero := ordT_zero a b ((check_iff _).1 ca).1 ((check_iff _).1 cb).1
  refine vcC_cut (fun σ Z => σ 2 = .eptr (a.cells 26) ∧ σ 3 = .eptr (b.cells 26) ∧ σ 5 = .eptr (orderedB ⟨#[64, 60]⟩ a b).c ∧ [] = Z) (fun K hK => ?_) ?_
  ·
    simp [s2, s3]
    refine ⟨rfl, ?_⟩
    have hc := Call_c ⟨#[64, 60]⟩ [a, b] 0 (by simp; exact ⟨small_ok ca, small_ok cb⟩) (by omega) (by omega) (by simp)
    rw [call_lt ca cb] at hc
    refine vcCall_at hc ?_
    simp [callV]
    exact hK _ _ (by simp [s2, s3])
  clear s2 s3 σ
  rintro σ Z ⟨s2, s3, s5, rfl⟩
  refine vcC_cut (fun σ Z => σ 2 = .eptr (a.cells 26) ∧ σ 3 = .eptr (b.cells 26) ∧ σ 5 = .eptr (orderedB ⟨#[64, 60]⟩ a b).c ∧ σ 7 = .eptr (whenB (decide (a = b))).c ∧ [] = Z) (fun K hK => ?_) ?_
  ·
    simp [s2, s3, s5]
    refine ⟨rfl, ?_⟩
    have hc := Call_c ⟨#[61, 61]⟩ [a, b] 0 (by simp; exact ⟨small_ok ca, small_ok cb⟩) (by omega) (by omega) (by simp)
    rw [call_eq ca cb] at hc
    refine vcCall_at hc ?_
    simp [callV]
    exact hK _ _ (by simp [s2, s3, s5])
  clear s2 s3 s5 σ
  rintro σ Z ⟨s2, s3, s5, s7, rfl⟩
  refine vcC_cut (fun σ Z => σ 2 = .eptr (a.cells 26) ∧ σ 3 = .eptr (b.cells 26) ∧ σ 5 = .eptr (orderedB ⟨#[64, 60]⟩ a b).c ∧ σ 7 = .eptr (whenB (decide (a = b))).c ∧ σ 9 = .eptr (orderedB ⟨#[64, 62]⟩ a b).c ∧ [] = Z) (fun K hK => ?_) ?_
  ·
    simp [s2, s3, s5, s7]
    refine ⟨rfl, ?_⟩
    have hc := Call_c ⟨#[64, 62]⟩ [a, b] 0 (by simp; exact ⟨small_ok ca, small_ok cb⟩) (by omega) (by omega) (by simp)
    rw [call_gt ca cb] at hc
    refine vcCall_at hc ?_
    simp [callV]
    exact hK _ _ (by simp [s2, s3, s5, s7])
  clear s2 s3 s5 s7 σ
  rintro σ Z ⟨s2, s3, s5, s7, s9, rfl⟩
  have hc := Call_c ⟨#[99, 111, 109, 112, 97, 114, 101]⟩ [atomT ⟨#[111]⟩, a, b] 0 (by simp; exact ⟨small_ok o_check, small_ok ca, small_ok cb⟩) (by omega) (by omega) (by simp)
  rw [call_cmp ca cb o_check] at hc
  refine vcC_cut (fun σ Z => σ 5 = .eptr (orderedB ⟨#[64, 60]⟩ a b).c ∧ σ 7 = .eptr (whenB (decide (a = b))).c ∧ σ 9 = .eptr (orderedB ⟨#[64, 62]⟩ a b).c ∧ σ 11 = .ptr 0 0 ∧ σ 12 = .sc (.bool true) ∧ [.cells (compareB (atomT ⟨#[111]⟩) a b).c] = Z) (fun K hK => ?_) ?_
  · simp
    refine ⟨fun i r st' => if i = 8 then st' = [.cells zero8] else True, ?_⟩
    simp (decide := true) [s2, s3, s5, s7, s9, callV]
    refine vcCall_at (rAtom_c _) ?_; simp (decide := true) [s2, s3, s5, s7, s9, callV]
    refine ⟨by simp (decide := true) [s2, s3, s5, s7, s9, callV] <;> (refine vcCall_at (rAtom_c _) ?_; simp [s2, s3, s5, s7, s9, callV]), ?_⟩; simp (decide := true) [s2, s3, s5, s7, s9, callV]
    refine ⟨by simp (decide := true) [s2, s3, s5, s7, s9, callV], ?_⟩; simp (decide := true) [s2, s3, s5, s7, s9, callV]
    refine ⟨by simp (decide := true) [s2, s3, s5, s7, s9, callV], ?_⟩; simp (decide := true) [s2, s3, s5, s7, s9, callV]
    refine ⟨by simp (decide := true) [s2, s3, s5, s7, s9, callV], ?_⟩; simp (decide := true) [s2, s3, s5, s7, s9, callV]
    refine vcCall_at (hc) ?_; simp (decide := true) [s2, s3, s5, s7, s9, callV]
    refine ⟨by simp (decide := true) [s2, s3, s5, s7, s9, callV] <;> (refine vcCall_at (hc) ?_; simp [s2, s3, s5, s7, s9, callV]), ?_⟩; simp (decide := true) [s2, s3, s5, s7, s9, callV]
    refine ⟨by simp (decide := true) [s2, s3, s5, s7, s9, callV], ?_⟩; simp (decide := true) [s2, s3, s5, s7, s9, callV]
    refine ⟨by simp (decide := true) [s2, s3, s5, s7, s9, callV], ?_⟩; simp (decide := true) [s2, s3, s5, s7, s9, callV]
    refine ⟨by simp (decide := true) [s2, s3, s5, s7, s9, callV], ?_⟩; simp (decide := true) [s2, s3, s5, s7, s9, callV]
    refine vcThenQ_of (fun r st' => r = .ptr 0 0 ∧ st' = [.cells zero8]) rfl (by simp) rfl (by simp [vcI, zero8]) (by rintro r st' ⟨rfl, rfl⟩; simp (decide := true)) ?_
    rintro r st' ⟨rfl, rfl⟩ _
    simp (decide := true) [s2, s3, s5, s7, s9, callV]
    refine vcThenQ_of (fun r st' => r = .any ∧ st' = [.cells (compareB (atomT ⟨#[111]⟩) a b).c]) rfl (by simp) rfl (by simp [vcI, zero8, callV]) (by rintro r st' ⟨rfl, rfl⟩; simp (decide := true)) ?_
    rintro r st' ⟨rfl, rfl⟩ _
    simp (decide := true) [s2, s3, s5, s7, s9, callV]
    refine ⟨by simp (decide := true) [s2, s3, s5, s7, s9, callV], ?_⟩; simp (decide := true) [s2, s3, s5, s7, s9, callV]
    exact hK _ _ (by simp [s2, s3, s5, s7, s9]; decide)
  clear s2 s3 s5 s7 s9 σ
  rintro σ Z ⟨s5, s7, s9, s11, s12, rfl⟩
  have hr := ordT_range a b
  by_cases ho : (ordT a b).2 = false
  · have hne : a ≠ b := by rintro rfl; rw [hself] at ho; cases ho
    have e1 : (orderedB ⟨#[64, 60]⟩ a b) = ballB instT := by unfold orderedB; rw [if_pos ho]
    have e2 : (orderedB ⟨#[64, 62]⟩ a b) = ballB instT := by unfold orderedB; rw [if_pos ho]
    have e3 : (compareB (atomT ⟨#[111]⟩) a b) = ballB instT := by unfold compareB; rw [if_pos ho]
    have e4 : (whenB (decide (a = b))) = whenB false := by simp [hne]
    rw [e1] at s5; rw [e2] at s9; rw [e4] at s7; rw [e3]
    simp only [BRes.c, ballB, whenB] at s5 s7 s9 ⊢
    simp
    refine vcCall_at blives_c ?_
    simp [s5, s7, s9, s11, s12]
  have ho' : (ordT a b).2 = true := by simpa using ho
  have key : ∀ n : Int, (ordT a b).1 = n → (orderedB ⟨#[64, 60]⟩ a b) = whenB (decide (n < 0)) ∧ (orderedB ⟨#[64, 62]⟩ a b) = whenB (decide (0 < n)) ∧ (compareB (atomT ⟨#[111]⟩) a b) = pairB [atomT ⟨#[111]⟩] [atomT (signS n)] := by
    rintro n rfl
    refine ⟨?_, ?_, ?_⟩
    · unfold orderedB; rw [if_neg ho, if_pos rfl]
    · unfold orderedB; rw [if_neg ho, if_neg (by decide), if_pos rfl]
    · unfold compareB; rw [if_neg ho]
  have hne : (ordT a b).1 ≠ 0 → a ≠ b := by rintro h rfl; rw [hself] at h; exact h rfl
  have heq : (ordT a b).1 = 0 → a = b := fun h => hzero (Prod.ext h ho')
  rcases (by omega : (ordT a b).1 = (-1) ∨ (ordT a b).1 = 0 ∨ (ordT a b).1 = 1) with hn | hn | hn
  · obtain ⟨e1, e2, e3⟩ := key _ hn
    have e4 : (whenB (decide (a = b))) = whenB false := by
      have := hne (by omega); simp [this]
    rw [e1] at s5; rw [e2] at s9; rw [e4] at s7; rw [e3]
    simp only [BRes.c, pairB, whenB, atomT, Tm.cellsL] at s5 s7 s9 ⊢
    simp
    refine vcCall_at blives_c ?_
    simp [s5, s7, s9, s11, s12]
    simp [s5, s7, s9, s11, s12, signS, Tm.cells, i64ok]
  · obtain ⟨e1, e2, e3⟩ := key _ hn
    have e4 : (whenB (decide (a = b))) = whenB true := by
      rw [heq hn]; simp
    rw [e1] at s5; rw [e2] at s9; rw [e4] at s7; rw [e3]
    simp only [BRes.c, pairB, whenB, atomT, Tm.cellsL] at s5 s7 s9 ⊢
    simp
    refine vcCall_at blives_c ?_
    simp [s5, s7, s9, s11, s12]
    simp [s5, s7, s9, s11, s12, signS, Tm.cells, i64ok]
  · obtain ⟨e1, e2, e3⟩ := key _ hn
    have e4 : (whenB (decide (a = b))) = whenB false := by
      have := hne (by omega); simp [this]
    rw [e1] at s5; rw [e2] at s9; rw [e4] at s7; rw [e3]
    simp only [BRes.c, pairB, whenB, atomT, Tm.cellsL] at s5 s7 s9 ⊢
    simp
    refine vcCall_at blives_c ?_
    simp [s5, s7, s9, s11, s12]
    simp [s5, s7, s9, s11, s12, signS, Tm.cells, i64ok]
end Go.T1
end

section
open Go Go.Ab Go.Proofs
namespace Go.T1
theorem copied_sub (t : Tm) (next : Int) : copiedB t next = (renT t).sub fun n => Tm.var (next + n) := by
  refine Tm.sub_congr _ _ _ fun n hn => ?_
  have h := (renT_occ t n).1 hn
  exact repF_fresh h.1 h.2
theorem map_inj {next a b : Int} (h : next + a = next + b) : a = b := by omega
theorem copied_vars (t : Tm) (next : Int) : (copiedB t next).vars [] = (iota (t.vars []).length).map (fun n => next + n) := by
  have h := vars_ren (fun n => next + n) (renT t) [] fun a b _ _ h => map_inj h
  rw [List.map_nil] at h
  rw [copied_sub, h, renT_num, Tm.num_vars0]
theorem copied_ren {t : Tm} (ht : t.check = 0) (next : Int) : renT (copiedB t next) = renT t := by
  have hr := Tm.num_check (check_small ht) ht
  rw [← renT_num] at hr
  show (copiedB t next).sub (fun n => Tm.var (placeI ((copiedB t next).vars []) n 0)) = renT t
  rw [copied_vars, copied_sub, Tm.sub_sub]
  rw [Tm.sub_congr _ Tm.var _ fun n hn => ?_]
  · exact Tm.sub_var _ ((check_iff _).1 hr).1
  · have h1 : n ∈ iota (t.vars []).length := mem_iota.2 ((renT_occ t n).1 hn)
    simp only [Tm.var, Tm.sub, if_true]
    rw [placeI_map (fun n => next + n) _ n 0 (fun a _ h => map_inj h), placeI_iota h1]
theorem copied_ok {t : Tm} (ht : t.check = 0) {next : Int} (h1 : 0 ≤ next) (h2 : next ≤ 50000) : (copiedB t next).check = 0 := by
  refine (copied_check ht next).2 fun x hx => ?_
  obtain ⟨i, hi, rfl⟩ := mem_fresh.1 hx
  have := vars_le ht
  exact var_check.2 ⟨by omega, by omega⟩
theorem aT_check : (atomT ⟨#[97]⟩).check = 0 := by decide +kernel
theorem call_copy {t : Tm} (ht : t.check = 0) {next : Int} (h1 : 0 ≤ next) (h2 : next ≤ 50000) : CallR copB numbersB ⟨#[99, 111, 112, 121, 95, 116, 101, 114, 109]⟩ [t, atomT ⟨#[97]⟩] next = pairB [atomT ⟨#[97]⟩] [copiedB t next] := by
  have hc := copied_ok ht h1 h2
  rw [Call2 (by decide) ht aT_check]
  rw [show doubleB ⟨#[99, 111, 112, 121, 95, 116, 101, 114, 109]⟩ t (atomT ⟨#[97]⟩) (copB t next) (numbersB ⟨#[99, 111, 112, 121, 95, 116, 101, 114, 109]⟩ t (atomT ⟨#[97]⟩)) = pairB [atomT ⟨#[97]⟩] [copB t next] by simp [doubleB]]
  unfold copB
  rw [if_pos hc]
  exact fin_ok (by simp [pairB, aT_check]) (by simp [pairB, hc])
end Go.T1
end

section
open Go Go.Ab Go.Proofs
namespace Go.T1
set_option maxRecDepth 100000 in
set_option maxHeartbeats 2000000 in
theorem BuiltCopies_c (t : Tm) (next : Int) (nt : t.nice) : PureCall T Tryz.prog 6 [t.av 26, .sc (.int .i64 next)] (.sc (.bool true)) := by
  refine PureCall.of_vc hT [] ([(3, 8), (3, 9)] ++ [0, 1, 2, 3, 4, 5, 6, 7, 8, 9, 10].map (Prod.mk 200003)) follows Tryz.call6 Tryz.func6 rfl (drawsOk_of3 (by kernel_rfl)) (by simp [AV.pure, AV.pureL, AV.pureM]) (by simp [AV.pure]) ?_
  unfold Tryz.f6
  dsimp only
  refine vcC_cut (fun σ Z => σ 2 = .eptr (t.cells 26) ∧ σ 1 = .sc (.int .i64 next) ∧ [] = Z) (fun K hK => ?_) ?_
  · simp; exact hK _ _ (by simp)
  rintro σ Z ⟨s2, s1, rfl⟩
  refine vcC_cut (fun σ Z => t.check = 0 ∧ 0 ≤ next ∧ next ≤ 50000 ∧ σ 2 = .eptr (t.cells 26) ∧ σ 1 = .sc (.int .i64 next) ∧ [] = Z) (fun K hK => ?_) ?_
  · simp [s2, s1]
    refine vcCall_at (Large_c t nt) ?_
    simp [s2, s1]
    cases hl : t.large
    case true =>
      simp
      refine ⟨[], .sc (.int .i64 0), fun h => (by simp at h), ?_⟩
      simp [s1]
      exact vcCall_at blives_c (by simp)
    simp
    refine vcCall_at (rCheck_c t (Tm.large_small hl)) ?_
    simp [s2, s1]
    by_cases ct : t.check = 0
    case neg =>
      simp [ct]
      exact vcCall_at blives_c (by simp)
    simp [ct]
    refine ⟨fun _ => vcCall_at blives_c (by simp), fun h1 h2 => hK _ _ (by simp [s2, s1, ct, h1, h2])⟩
  clear s2 s1 σ
  rintro σ Z ⟨ct, h1, h2, s2, s1, rfl⟩
  have hc := Call_c ⟨#[99, 111, 112, 121, 95, 116, 101, 114, 109]⟩ [t, (atomT ⟨#[97]⟩)] next (by simp; exact ⟨small_ok ct, small_ok aT_check⟩) (by omega) (by omega) (by simp)
  rw [call_copy ct h1 h2] at hc
  have hu := copied_ok ct h1 h2 (next := next)
  refine vcC_cut (fun σ Z => σ 2 = .eptr (t.cells 26) ∧ σ 1 = .sc (.int .i64 next) ∧ σ 5 = .ptr 0 0 ∧ σ 6 = .sc (.bool true) ∧ [.cells (pairB [(atomT ⟨#[97]⟩)] [copiedB t next]).c] = Z) (fun K hK => ?_) ?_
  · simp
    refine ⟨fun i r st' => if i = 8 then st' = [.cells zero8] else True, ?_⟩
    simp (decide := true) [s2, s1, callV]
    refine ⟨by simp (decide := true) [s2, s1, callV], ?_⟩; simp (decide := true) [s2, s1, callV]
    refine vcCall_at (rAtom_c _) ?_; simp (decide := true) [s2, s1, callV]
    refine ⟨by simp (decide := true) [s2, s1, callV] <;> (refine vcCall_at (rAtom_c _) ?_; simp [s2, s1, callV]), ?_⟩; simp (decide := true) [s2, s1, callV]
    refine ⟨by simp (decide := true) [s2, s1, callV], ?_⟩; simp (decide := true) [s2, s1, callV]
    refine ⟨by simp (decide := true) [s2, s1, callV], ?_⟩; simp (decide := true) [s2, s1, callV]
    refine vcCall_at (hc) ?_; simp (decide := true) [s2, s1, callV]
    refine ⟨by simp (decide := true) [s2, s1, callV] <;> (refine vcCall_at (hc) ?_; simp [s2, s1, callV]), ?_⟩; simp (decide := true) [s2, s1, callV]
    refine ⟨by simp (decide := true) [s2, s1, callV], ?_⟩; simp (decide := true) [s2, s1, callV]
    refine ⟨by simp (decide := true) [s2, s1, callV], ?_⟩; simp (decide := true) [s2, s1, callV]
    refine ⟨by simp (decide := true) [s2, s1, callV], ?_⟩; simp (decide := true) [s2, s1, callV]
    refine vcThenQ_of (fun r st' => r = .ptr 0 0 ∧ st' = [.cells zero8]) rfl (by simp) rfl (by simp [vcI, zero8]) (by rintro r st' ⟨rfl, rfl⟩; simp (decide := true)) ?_
    rintro r st' ⟨rfl, rfl⟩ _
    simp (decide := true) [s2, s1, callV]
    refine vcThenQ_of (fun r st' => r = .any ∧ st' = [.cells (pairB [(atomT ⟨#[97]⟩)] [copiedB t next]).c]) rfl (by simp) rfl (by simp [vcI, zero8, callV]) (by rintro r st' ⟨rfl, rfl⟩; simp (decide := true)) ?_
    rintro r st' ⟨rfl, rfl⟩ _
    simp (decide := true) [s2, s1, callV]
    refine ⟨by simp (decide := true) [s2, s1, callV], ?_⟩; simp (decide := true) [s2, s1, callV]
    exact hK _ _ (by simp [s2, s1]; decide)
  clear s2 s1 σ
  rintro σ Z ⟨s2, s1, s5, s6, rfl⟩
  simp only [BRes.c, pairB, Tm.cellsL]
  refine vcC_cut (fun σ Z => σ 2 = .eptr (t.cells 26) ∧ σ 1 = .sc (.int .i64 next) ∧ σ 5 = .ptr 0 0 ∧ [.cells (pairB [(atomT ⟨#[97]⟩)] [copiedB t next]).c] = Z) (fun K hK => ?_) ?_
  · simp
    refine vcCall_at blives_c ?_
    simp [s2, s1, s5, s6]
    exact hK _ _ (by simp [s2, s1, s5, BRes.c, pairB, Tm.cellsL])
  clear s2 s1 s5 s6 σ
  rintro σ Z ⟨s2, s1, s5, rfl⟩
  refine vcC_cut (fun σ Z => σ 2 = .eptr (t.cells 26) ∧ σ 1 = .sc (.int .i64 next) ∧ σ 7 = .eptr ((copiedB t next).cells 26) ∧ [.cells (pairB [(atomT ⟨#[97]⟩)] [copiedB t next]).c] = Z) (fun K hK => ?_) ?_
  · simp [s2, s1, s5, BRes.c, pairB, Tm.cellsL]
    exact hK _ _ (by simp [s2, s1, BRes.c, pairB, Tm.cellsL])
  clear s2 s1 s5 σ
  rintro σ Z ⟨s2, s1, s7, rfl⟩
  refine vcC_cut (fun σ Z => σ 1 = .sc (.int .i64 next) ∧ σ 7 = .eptr ((copiedB t next).cells 26) ∧ σ 8 = .eptr ((renT t).cells 26) ∧ σ 9 = .sc (.int .i64 (t.vars []).length) ∧ [.cells (pairB [(atomT ⟨#[97]⟩)] [copiedB t next]).c] = Z) (fun K hK => ?_) ?_
  · simp [s2, s1, s7]
    refine vcCall_at (rRename_c t (small_ok ct)) ?_
    simp
    exact hK _ _ (by simp [s1, s7])
  clear s2 s1 s7 σ
  rintro σ Z ⟨s1, s7, s8, s9, rfl⟩
  have hvl : ((copiedB t next).vars []).length = (t.vars []).length := by rw [copied_vars]; simp [iota]
  refine vcC_cut (fun σ Z => σ 1 = .sc (.int .i64 next) ∧ σ 7 = .eptr ((copiedB t next).cells 26) ∧ σ 8 = .eptr ((renT t).cells 26) ∧ σ 9 = .sc (.int .i64 (t.vars []).length) ∧ σ 10 = .eptr ((renT t).cells 26) ∧ σ 11 = .sc (.int .i64 (t.vars []).length) ∧ [.cells (pairB [(atomT ⟨#[97]⟩)] [copiedB t next]).c] = Z) (fun K hK => ?_) ?_
  · simp [s1, s7]
    have hrr := rRename_c (copiedB t next) (small_ok hu)
    rw [copied_ren ct, hvl] at hrr
    refine vcCall_at hrr ?_
    simp
    exact hK _ _ (by simp [s1, s7, s8, s9])
  clear s1 s7 s8 s9 σ
  rintro σ Z ⟨s1, s7, s8, s9, s10, s11, rfl⟩
  have hN := vars_le ct
  refine vcC_cut (fun σ Z => σ 1 = .sc (.int .i64 next) ∧ σ 8 = .eptr ((renT t).cells 26) ∧ σ 9 = .sc (.int .i64 (t.vars []).length) ∧ σ 10 = .eptr ((renT t).cells 26) ∧ σ 11 = .sc (.int .i64 (t.vars []).length) ∧ σ 12 = .lst 3 (intsL (((iota (t.vars []).length).map (fun n => next + n)))) ∧ [.cells (pairB [(atomT ⟨#[97]⟩)] [copiedB t next]).c] = Z) (fun K hK => ?_) ?_
  · simp [s1, s7]
    have hvv := rVars_c (copiedB t next) (small_ok hu)
    rw [copied_vars] at hvv
    refine vcCall_at hvv ?_
    simp
    exact hK _ _ (by simp [s1, s8, s9, s10, s11])
  clear s1 s7 s8 s9 s10 s11 σ
  rintro σ Z ⟨s1, s8, s9, s10, s11, s12, rfl⟩
  generalize (t.vars []).length = N at *
  refine vcC_cut (fun σ Z => σ 8 = .eptr ((renT t).cells 26) ∧ σ 9 = .sc (.int .i64 N) ∧ σ 10 = .eptr ((renT t).cells 26) ∧ σ 11 = .sc (.int .i64 N) ∧ [.cells (pairB [(atomT ⟨#[97]⟩)] [copiedB t next]).c] = Z) (fun K hK => ?_) ?_
  case refine_2 =>
    clear s1 s8 s9 s10 s11 s12 σ
    rintro σ Z ⟨s8, s9, s10, s11, rfl⟩
    simp [s8, s9, s10, s11]
    refine vcCall_at (exact_c (renT t) (renT t)) ?_
    simp
  refine vcC_cut (fun σ Z => σ 1 = .sc (.int .i64 next) ∧ σ 8 = .eptr ((renT t).cells 26) ∧ σ 9 = .sc (.int .i64 N) ∧ σ 10 = .eptr ((renT t).cells 26) ∧ σ 11 = .sc (.int .i64 N) ∧ σ 12 = .lst 3 (intsL ((iota N).map (fun n => next + n))) ∧ σ 13 = .sc (.int .i64 0) ∧ [.cells (pairB [(atomT ⟨#[97]⟩)] [copiedB t next]).c] = Z) (fun K hK => ?_) ?_
  · simp
    exact hK _ _ (by simp [s1, s8, s9, s10, s11, s12])
  clear s1 s8 s9 s10 s11 s12 σ
  rintro σ Z ⟨s1, s8, s9, s10, s11, s12, s13, rfl⟩
  refine vcC_blk (fun σ Z => σ 8 = .eptr ((renT t).cells 26) ∧ σ 9 = .sc (.int .i64 N) ∧ σ 10 = .eptr ((renT t).cells 26) ∧ σ 11 = .sc (.int .i64 N) ∧ [.cells (pairB [(atomT ⟨#[97]⟩)] [copiedB t next]).c] = Z) (fun Kc Xc hKc hX0 hXj => ?_) hK
  clear hK
  refine vcC_loop [] (fun m σ Z => ∃ i : Nat, m = N - i ∧ i ≤ N ∧ σ 1 = .sc (.int .i64 next) ∧ σ 8 = .eptr ((renT t).cells 26) ∧ σ 9 = .sc (.int .i64 N) ∧ σ 10 = .eptr ((renT t).cells 26) ∧ σ 11 = .sc (.int .i64 N) ∧ σ 12 = .lst 3 (intsL ((iota N).map (fun n => next + n))) ∧ σ 13 = .sc (.int .i64 i) ∧ Z = [.cells (pairB [(atomT ⟨#[97]⟩)] [copiedB t next]).c]) N ?_ ?_
  · exact ⟨0, by simp, by simp, s1, s8, s9, s10, s11, s12, by simp [s13], rfl⟩
  clear s1 s8 s9 s10 s11 s12 s13 σ
  rintro m σ Z ⟨i, rfl, hi, s1, s8, s9, s10, s11, s12, s13, rfl⟩
  have hil : (iota N).length = N := by simp [iota]
  rcases Nat.lt_or_ge i N with hlt | hge
  · have hg : (iota N)[i]'(by omega) = (i : Int) := by simp [iota]
    simp [s1, s8, s9, s10, s11, s12, s13, hil, hlt, hg]
    intro _ _
    exact ⟨by unfold i64ok; omega, by unfold i64ok; omega, N - (i + 1), by omega, i + 1, rfl, by omega, by omega⟩
  · have hi' : i = N := by omega
    subst hi'
    simp [s12, s13, hil]
    rw [hX0]
    intro _ _
    exact hKc _ _ (by simp [s8, s9, s10, s11])
end Go.T1
end

section
open Go Go.Ab Go.Proofs
namespace Go.T1
theorem outU_un {ps : List (Tm × Tm)} {B : Bs} (h : outU ps = some B) : Un [] ps (some B) := by
  unfold outU at h
  split at h
  · rename_i hr
    have := Classical.choose_spec (p := fun r => Un [] ps r) hr
    rw [h] at this; exact this
  · cases h
theorem sol_un {a b x : Tm} (h : (solT (pairB [a] [b]) x).2 = true) : unB a b = true := by
  unfold solT at h
  simp only [pairB, List.zip_cons_cons, List.zip_nil_left] at h
  cases ho : outU [(a, b)] with
  | none => rw [ho] at h; cases h
  | some B => unfold unB; simp; exact ⟨B, outU_un ho⟩
theorem un_self {t : Tm} (ht : t.right = true) : unB t t = true := by
  unfold unB; simp
  exact ⟨[], Un.skip OkB_nil _ rfl ht ht rfl [] _ (.nil [])⟩
theorem kinds4 {t : Tm} (ht : t.right = true) : t.kd = 1 ∨ t.kd = 2 ∨ t.kd = 3 ∨ t.kd = 4 := by
  obtain ⟨k, n, s, l⟩ := t
  simp only [Tm.right, Bool.and_eq_true] at ht
  have h := ht.1
  unfold partB at h
  simp only [kd_mk]
  by_cases h1 : k = 1
  · exact .inl h1
  rw [if_neg h1] at h
  by_cases h2 : k = 2
  · exact .inr (.inl h2)
  rw [if_neg h2] at h
  by_cases h3 : k = 3
  · exact .inr (.inr (.inl h3))
  rw [if_neg h3] at h
  by_cases h4 : k = 4
  · exact .inr (.inr (.inr h4))
  rw [if_neg h4] at h; cases h
def b2i (b : Bool) : Int := if b = true then 1 else 0
def cntK (k : Int) : Nat → Int
  | 0 => 0
  | 1 => b2i (decide (k = 1))
  | 2 => b2i (decide (k = 1)) + b2i (decide (k = 3))
  | 3 => b2i (decide (k = 1)) + b2i (decide (k = 3)) + b2i (decide (k = 2))
  | _ => b2i (decide (k = 1)) + b2i (decide (k = 3)) + b2i (decide (k = 2)) + b2i (decide (k = 4))
def kZ (t : Tm) (i : Nat) : St := List.take i [.cells (whenB (decide (t.kd = 1))).c, .cells (whenB (decide (t.kd = 3))).c, .cells (whenB (decide (t.kd = 2))).c, .cells (whenB (decide (t.kd = 4))).c]
def kN : List ByteArray := [⟨#[118, 97, 114]⟩, ⟨#[97, 116, 111, 109]⟩, ⟨#[105, 110, 116, 101, 103, 101, 114]⟩, ⟨#[99, 111, 109, 112, 111, 117, 110, 100]⟩]
theorem kN0 : kN[0]? = some ⟨#[118, 97, 114]⟩ := rfl
theorem kc0 {t : Tm} (ct : t.check = 0) : PureCall T Tryz.prog 10 [.sc (.string ⟨#[118, 97, 114]⟩), .lst 26 [t.cells 26], .sc (.int .i64 0)] (callV (whenB (decide (t.kd = 1))) true) := by
  have h := Call_c ⟨#[118, 97, 114]⟩ [t] 0 (by simp; exact small_ok ct) (by omega) (by omega) (by simp)
  rw [Call1 (by decide) ct, show singleB ⟨#[118, 97, 114]⟩ t = (whenB (decide (t.kd = 1))) by simp [singleB]] at h
  exact h
theorem kc1 {t : Tm} (ct : t.check = 0) : PureCall T Tryz.prog 10 [.sc (.string ⟨#[97, 116, 111, 109]⟩), .lst 26 [t.cells 26], .sc (.int .i64 0)] (callV (whenB (decide (t.kd = 3))) true) := by
  have h := Call_c ⟨#[97, 116, 111, 109]⟩ [t] 0 (by simp; exact small_ok ct) (by omega) (by omega) (by simp)
  rw [Call1 (by decide) ct, show singleB ⟨#[97, 116, 111, 109]⟩ t = (whenB (decide (t.kd = 3))) by simp [singleB]] at h
  exact h
theorem kc2 {t : Tm} (ct : t.check = 0) : PureCall T Tryz.prog 10 [.sc (.string ⟨#[105, 110, 116, 101, 103, 101, 114]⟩), .lst 26 [t.cells 26], .sc (.int .i64 0)] (callV (whenB (decide (t.kd = 2))) true) := by
  have h := Call_c ⟨#[105, 110, 116, 101, 103, 101, 114]⟩ [t] 0 (by simp; exact small_ok ct) (by omega) (by omega) (by simp)
  rw [Call1 (by decide) ct, show singleB ⟨#[105, 110, 116, 101, 103, 101, 114]⟩ t = (whenB (decide (t.kd = 2))) by simp [singleB]] at h
  exact h
theorem kc3 {t : Tm} (ct : t.check = 0) : PureCall T Tryz.prog 10 [.sc (.string ⟨#[99, 111, 109, 112, 111, 117, 110, 100]⟩), .lst 26 [t.cells 26], .sc (.int .i64 0)] (callV (whenB (decide (t.kd = 4))) true) := by
  have h := Call_c ⟨#[99, 111, 109, 112, 111, 117, 110, 100]⟩ [t] 0 (by simp; exact small_ok ct) (by omega) (by omega) (by simp)
  rw [Call1 (by decide) ct, show singleB ⟨#[99, 111, 109, 112, 111, 117, 110, 100]⟩ t = (whenB (decide (t.kd = 4))) by simp [singleB]] at h
  exact h
theorem kcN {t : Tm} (ct : t.check = 0) : PureCall T Tryz.prog 10 [.sc (.string ⟨#[110, 111, 110, 118, 97, 114]⟩), .lst 26 [t.cells 26], .sc (.int .i64 0)] (callV (whenB (!decide (t.kd = 1))) true) := by
  have h := Call_c ⟨#[110, 111, 110, 118, 97, 114]⟩ [t] 0 (by simp; exact small_ok ct) (by omega) (by omega) (by simp)
  rw [Call1 (by decide) ct, show singleB ⟨#[110, 111, 110, 118, 97, 114]⟩ t = whenB (!decide (t.kd = 1)) by simp [singleB]] at h
  exact h
theorem kcE {a b : Tm} (ca : a.check = 0) (cb : b.check = 0) : PureCall T Tryz.prog 10 [.sc (.string ⟨#[61]⟩), .lst 26 [a.cells 26, b.cells 26], .sc (.int .i64 0)] (callV (pairB [a] [b]) true) := by
  have h := Call_c ⟨#[61]⟩ [a, b] 0 (by simp; exact ⟨small_ok ca, small_ok cb⟩) (by omega) (by omega) (by simp)
  rw [Call2 (by decide) ca cb, show doubleB ⟨#[61]⟩ a b (copB a 0) (numbersB ⟨#[61]⟩ a b) = pairB [a] [b] by simp [doubleB], fin_ok (by simp [pairB, ca]) (by simp [pairB, cb])] at h
  exact h
theorem kcU {a b : Tm} (ca : a.check = 0) (cb : b.check = 0) : PureCall T Tryz.prog 10 [.sc (.string ⟨#[92, 61]⟩), .lst 26 [a.cells 26, b.cells 26], .sc (.int .i64 0)] (callV (whenB (!unB a b)) true) := by
  have h := Call_c ⟨#[92, 61]⟩ [a, b] 0 (by simp; exact ⟨small_ok ca, small_ok cb⟩) (by omega) (by omega) (by simp)
  rw [Call2 (by decide) ca cb, show doubleB ⟨#[92, 61]⟩ a b (copB a 0) (numbersB ⟨#[92, 61]⟩ a b) = whenB (!unB a b) by simp [doubleB], fin_none rfl rfl] at h
  exact h
set_option maxRecDepth 100000 in
set_option maxHeartbeats 4000000 in
theorem BuiltKinds_c (t u : Tm) (nt : t.nice) (nu : u.nice) : PureCall T Tryz.prog 7 [t.av 26, u.av 26] (.sc (.bool true)) := by
  refine PureCall.of_vc hT [] ([(8, 10), (8, 11)] ++ [0, 1, 2, 3, 4, 5, 6, 7, 8, 9, 10, 11, 12].map (Prod.mk 200008)) follows Tryz.call7 Tryz.func7 rfl (drawsOk_of3 (by kernel_rfl)) (by simp [AV.pure, AV.pureL, AV.pureM]) (by simp [AV.pure]) ?_
  unfold Tryz.f7
  dsimp only
  refine vcC_cut (fun σ Z => σ 2 = .eptr (t.cells 26) ∧ σ 3 = .eptr (u.cells 26) ∧ [] = Z) (fun K hK => ?_) ?_
  · simp; exact hK _ _ (by simp)
  rintro σ Z ⟨s2, s3, rfl⟩
  refine vcC_cut (fun σ Z => t.check = 0 ∧ u.check = 0 ∧ σ 2 = .eptr (t.cells 26) ∧ σ 3 = .eptr (u.cells 26) ∧ [] = Z) (fun K hK => ?_) ?_
  · simp [s2, s3]
    refine vcCall_at (Large_c t nt) ?_
    simp [s2, s3]
    cases hla : t.large
    case true =>
      simp
      refine ⟨[], .sc (.bool false), fun h => (by simp at h), ?_⟩
      simp
      refine ⟨[], .sc (.int .i64 0), fun h => (by simp at h), ?_⟩
      simp
      refine ⟨[], .sc (.int .i64 0), fun h => (by simp at h), ?_⟩
      simp
      exact vcCall_at blives_c (by simp)
    simp
    refine vcCall_at (Large_c u nu) ?_
    simp [s2, s3]
    cases hlb : u.large
    case true =>
      simp
      refine ⟨[], .sc (.int .i64 0), fun h => (by simp at h), ?_⟩
      simp
      refine ⟨[], .sc (.int .i64 0), fun h => (by simp at h), ?_⟩
      simp
      exact vcCall_at blives_c (by simp)
    simp
    refine vcCall_at (rCheck_c t (Tm.large_small hla)) ?_
    simp [s2, s3]
    by_cases ca : t.check = 0
    case neg =>
      simp [ca]
      refine ⟨[], .sc (.int .i64 0), fun h => (by simp [ca] at h), ?_⟩
      simp [ca]
      exact vcCall_at blives_c (by simp)
    simp [ca]
    refine vcCall_at (rCheck_c u (Tm.large_small hlb)) ?_
    simp [s2, s3]
    by_cases cb : u.check = 0
    case neg =>
      simp [cb]
      exact vcCall_at blives_c (by simp)
    simp [cb]
    exact hK _ _ (by simp [s2, s3, ca, cb])
  clear s2 s3 σ
  rintro σ Z ⟨ct, cu, s2, s3, rfl⟩
  have h4 := kinds4 ((check_iff _).1 ct).1
  refine vcC_cut (fun σ Z => σ 2 = .eptr (t.cells 26) ∧ σ 3 = .eptr (u.cells 26) ∧ σ 5 = .lst 9 (strL kN) ∧ [] = Z) (fun K hK => ?_) ?_
  · simp
    refine ⟨rfl, hK _ _ ?_⟩
    simp [s2, s3, strL, kN]
  clear s2 s3 σ
  rintro σ Z ⟨s2, s3, s5, rfl⟩
  refine vcC_cut (fun σ Z => σ 2 = .eptr (t.cells 26) ∧ σ 3 = .eptr (u.cells 26) ∧ σ 5 = .lst 9 (strL kN) ∧ σ 6 = .sc (.int .i64 0) ∧ [] = Z) (fun K hK => ?_) ?_
  · simp
    exact hK _ _ (by simp [s2, s3, s5])
  clear s2 s3 s5 σ
  rintro σ Z ⟨s2, s3, s5, s6, rfl⟩
  refine vcC_cut (fun σ Z => σ 2 = .eptr (t.cells 26) ∧ σ 3 = .eptr (u.cells 26) ∧ σ 6 = .sc (.int .i64 1) ∧ kZ t 4 = Z) (fun K hK => ?_) ?_
  case refine_2 =>
    clear s2 s3 s5 s6 σ
    rintro σ Z ⟨s2, s3, s6, rfl⟩
    generalize kZ t 4 = Z4
    refine vcC_cut (fun σ Z => σ 2 = .eptr (t.cells 26) ∧ σ 3 = .eptr (u.cells 26) ∧ σ 6 = .sc (.int .i64 1) ∧ σ 10 = .eptr (whenB (decide (t.kd = 1))).c ∧ σ 11 = .sc (.bool true) ∧ Z4 = Z) (fun K hK => ?_) ?_
    · simp [s2, s3, s6]
      refine vcCall_at (kc0 ct) ?_
      simp [callV]
      exact hK _ _ (by simp [s2, s3, s6])
    clear s2 s3 s6 σ
    rintro σ Z ⟨s2, s3, s6, s10, s11, rfl⟩
    refine vcC_cut (fun σ Z => σ 2 = .eptr (t.cells 26) ∧ σ 3 = .eptr (u.cells 26) ∧ σ 6 = .sc (.int .i64 1) ∧ σ 10 = .eptr (whenB (decide (t.kd = 1))).c ∧ σ 11 = .sc (.bool true) ∧ σ 12 = .eptr (whenB (!decide (t.kd = 1))).c ∧ σ 13 = .sc (.bool true) ∧ Z4 = Z) (fun K hK => ?_) ?_
    · simp [s2, s3, s6, s10, s11]
      refine vcCall_at (kcN ct) ?_
      simp [callV]
      exact hK _ _ (by simp [s2, s3, s6, s10, s11])
    clear s2 s3 s6 s10 s11 σ
    rintro σ Z ⟨s2, s3, s6, s10, s11, s12, s13, rfl⟩
    refine vcC_cut (fun σ Z => σ 2 = .eptr (t.cells 26) ∧ σ 3 = .eptr (u.cells 26) ∧ σ 6 = .sc (.int .i64 1) ∧ σ 10 = .eptr (whenB (decide (t.kd = 1))).c ∧ σ 11 = .sc (.bool true) ∧ σ 12 = .eptr (whenB (!decide (t.kd = 1))).c ∧ σ 13 = .sc (.bool true) ∧ σ 14 = .eptr (pairB [t] [u]).c ∧ σ 15 = .sc (.bool true) ∧ Z4 = Z) (fun K hK => ?_) ?_
    · simp [s2, s3, s6, s10, s11, s12, s13]
      refine ⟨rfl, ?_⟩
      refine vcCall_at (kcE ct cu) ?_
      simp [callV]
      exact hK _ _ (by simp [s2, s3, s6, s10, s11, s12, s13])
    clear s2 s3 s6 s10 s11 s12 s13 σ
    rintro σ Z ⟨s2, s3, s6, s10, s11, s12, s13, s14, s15, rfl⟩
    refine vcC_cut (fun σ Z => σ 2 = .eptr (t.cells 26) ∧ σ 3 = .eptr (u.cells 26) ∧ σ 6 = .sc (.int .i64 1) ∧ σ 10 = .eptr (whenB (decide (t.kd = 1))).c ∧ σ 11 = .sc (.bool true) ∧ σ 12 = .eptr (whenB (!decide (t.kd = 1))).c ∧ σ 13 = .sc (.bool true) ∧ σ 14 = .eptr (pairB [t] [u]).c ∧ σ 15 = .sc (.bool true) ∧ σ 16 = .eptr (whenB (!unB t u)).c ∧ σ 17 = .sc (.bool true) ∧ Z4 = Z) (fun K hK => ?_) ?_
    · simp [s2, s3, s6, s10, s11, s12, s13, s14, s15]
      refine ⟨rfl, ?_⟩
      refine vcCall_at (kcU ct cu) ?_
      simp [callV]
      exact hK _ _ (by simp [s2, s3, s6, s10, s11, s12, s13, s14, s15])
    clear s2 s3 s6 s10 s11 s12 s13 s14 s15 σ
    rintro σ Z ⟨s2, s3, s6, s10, s11, s12, s13, s14, s15, s16, s17, rfl⟩
    refine vcC_cut (fun σ Z => σ 2 = .eptr (t.cells 26) ∧ σ 3 = .eptr (u.cells 26) ∧ σ 6 = .sc (.int .i64 1) ∧ σ 10 = .eptr (whenB (decide (t.kd = 1))).c ∧ σ 11 = .sc (.bool true) ∧ σ 12 = .eptr (whenB (!decide (t.kd = 1))).c ∧ σ 13 = .sc (.bool true) ∧ σ 14 = .eptr (pairB [t] [u]).c ∧ σ 15 = .sc (.bool true) ∧ σ 16 = .eptr (whenB (!unB t u)).c ∧ σ 17 = .sc (.bool true) ∧ σ 18 = .eptr ((solT (pairB [t] [u]) t).1.cells 26) ∧ σ 19 = .sc (.bool (solT (pairB [t] [u]) t).2) ∧ Z4 = Z) (fun K hK => ?_) ?_
    · simp [s2, s3, s6, s10, s11, s12, s13, s14, s15, s16, s17]
      refine vcCall_at (solved_c (pairB [t] [u]) t (by simp [pairB, ct]) (by simp [pairB, cu]) rfl (by simp [pairB]) ((check_iff _).1 ct).1) ?_
      simp [solV]
      exact hK _ _ (by simp [s2, s3, s6, s10, s11, s12, s13, s14, s15, s16, s17])
    clear s2 s3 s6 s10 s11 s12 s13 s14 s15 s16 s17 σ
    rintro σ Z ⟨s2, s3, s6, s10, s11, s12, s13, s14, s15, s16, s17, s18, s19, rfl⟩
    refine vcC_cut (fun σ Z => σ 2 = .eptr (t.cells 26) ∧ σ 3 = .eptr (u.cells 26) ∧ σ 6 = .sc (.int .i64 1) ∧ σ 10 = .eptr (whenB (decide (t.kd = 1))).c ∧ σ 11 = .sc (.bool true) ∧ σ 12 = .eptr (whenB (!decide (t.kd = 1))).c ∧ σ 13 = .sc (.bool true) ∧ σ 14 = .eptr (pairB [t] [u]).c ∧ σ 15 = .sc (.bool true) ∧ σ 16 = .eptr (whenB (!unB t u)).c ∧ σ 17 = .sc (.bool true) ∧ σ 18 = .eptr ((solT (pairB [t] [u]) t).1.cells 26) ∧ σ 19 = .sc (.bool (solT (pairB [t] [u]) t).2) ∧ σ 20 = .eptr (whenB (!unB t t)).c ∧ σ 21 = .sc (.bool true) ∧ Z4 = Z) (fun K hK => ?_) ?_
    · simp [s2, s3, s6, s10, s11, s12, s13, s14, s15, s16, s17, s18, s19]
      refine ⟨rfl, ?_⟩
      refine vcCall_at (kcU ct ct) ?_
      simp [callV]
      exact hK _ _ (by simp [s2, s3, s6, s10, s11, s12, s13, s14, s15, s16, s17, s18, s19])
    clear s2 s3 s6 s10 s11 s12 s13 s14 s15 s16 s17 s18 s19 σ
    rintro σ Z ⟨s2, s3, s6, s10, s11, s12, s13, s14, s15, s16, s17, s18, s19, s20, s21, rfl⟩
    rw [un_self ((check_iff _).1 ct).1] at s20
    have hsu := sol_un (a := t) (b := u) (x := t)
    generalize (solT (pairB [t] [u]) t).2 = sv at *
    generalize unB t u = uv at *
    simp only [BRes.c, pairB, whenB] at s10 s12 s14 s16 s20
    simp
    refine vcCall_at blives_c ?_
    cases sv with
    | false =>
      simp [s2, s3, s6, s10, s11, s12, s13, s14, s15, s16, s17, s18, s19, s20, s21]
    | true =>
      have := hsu rfl
      subst this
      simp [s2, s3, s6, s10, s11, s12, s13, s14, s15, s16, s17, s18, s19, s20, s21]
  refine vcC_cut (fun σ Z => σ 2 = .eptr (t.cells 26) ∧ σ 3 = .eptr (u.cells 26) ∧ σ 5 = .lst 9 (strL kN) ∧ σ 6 = .sc (.int .i64 0) ∧ σ 7 = .sc (.int .i64 0) ∧ [] = Z) (fun K hK => ?_) ?_
  · simp
    exact hK _ _ (by simp [s2, s3, s5, s6])
  clear s2 s3 s5 s6 σ
  rintro σ Z ⟨s2, s3, s5, s6, s7, rfl⟩
  refine vcC_blk (fun σ Z => σ 2 = .eptr (t.cells 26) ∧ σ 3 = .eptr (u.cells 26) ∧ σ 6 = .sc (.int .i64 1) ∧ kZ t 4 = Z) (fun Kc Xc hKc hX0 hXj => ?_) hK
  clear hK
  refine vcC_loop [] (fun m σ Z => ∃ i : Nat, m = 4 - i ∧ i ≤ 4 ∧ σ 2 = .eptr (t.cells 26) ∧ σ 3 = .eptr (u.cells 26) ∧ σ 5 = .lst 9 (strL kN) ∧ σ 6 = .sc (.int .i64 (cntK t.kd i)) ∧ σ 7 = .sc (.int .i64 i) ∧ Z = kZ t i) 4 ?_ ?_
  · exact ⟨0, by simp, by simp, s2, s3, s5, s6, by simp [s7], rfl⟩
  clear s2 s3 s5 s6 s7 σ
  rintro m σ Z ⟨i, rfl, hi, s2, s3, s5, s6, s7, rfl⟩
  rcases Nat.lt_or_ge i 4 with hlt | hge
  case inr =>
    have hi' : i = 4 := by omega
    subst hi'
    have hc1 : cntK t.kd 4 = 1 := by
      rcases h4 with h | h | h | h <;> simp [cntK, h, b2i]
    rw [hc1] at s6
    simp [s5, s7, kN]
    rw [hX0]
    exact hKc _ _ (by simp [s2, s3, s6])
  refine vcC_cut (fun σ Z => σ 2 = .eptr (t.cells 26) ∧ σ 3 = .eptr (u.cells 26) ∧ σ 5 = .lst 9 (strL kN) ∧ σ 6 = .sc (.int .i64 (cntK t.kd i)) ∧ σ 7 = .sc (.int .i64 i) ∧ kZ t i = Z) (fun K hK => ?_) ?_
  · have hlt4 : (i : Int) < 4 := by omega
    simp [s5, s7, kN, hlt, hlt4]
    exact hK _ _ (by simp [s2, s3, s5, s6, s7, kN])
  clear s2 s3 s5 s6 s7 σ
  rintro σ Z ⟨s2, s3, s5, s6, s7, rfl⟩
  refine vcC_cut (fun σ Z => σ 2 = .eptr (t.cells 26) ∧ σ 3 = .eptr (u.cells 26) ∧ σ 5 = .lst 9 (strL kN) ∧ σ 6 = .sc (.int .i64 (cntK t.kd (i + 1))) ∧ σ 7 = .sc (.int .i64 i) ∧ kZ t (i + 1) = Z) (fun K hK => ?_) ?_
  case refine_2 =>
    clear s2 s3 s5 s6 s7 σ
    rintro σ Z ⟨s2, s3, s5, s6, s7, rfl⟩
    simp [s7]
    exact ⟨by unfold i64ok; omega, 4 - (i + 1), by omega, i + 1, rfl, by omega, s2, s3, s5, s6, by omega, rfl⟩
  refine vcC_blk (fun σ Z => σ 2 = .eptr (t.cells 26) ∧ σ 3 = .eptr (u.cells 26) ∧ σ 5 = .lst 9 (strL kN) ∧ σ 6 = .sc (.int .i64 (cntK t.kd (i + 1))) ∧ σ 7 = .sc (.int .i64 i) ∧ kZ t (i + 1) = Z) (fun Kd Xd hKd hX1 hXd => ?_) hK
  clear hK
  rcases (by omega : i = 0 ∨ i = 1 ∨ i = 2 ∨ i = 3) with rfl | rfl | rfl | rfl
  · show vcC _ _ _ _ _ _ _ _ _ _ []
    refine vcC_cut (fun σ Z => σ 2 = .eptr (t.cells 26) ∧ σ 3 = .eptr (u.cells 26) ∧ σ 5 = .lst 9 (strL kN) ∧ σ 6 = .sc (.int .i64 (cntK t.kd 0)) ∧ σ 7 = .sc (.int .i64 0) ∧ σ 8 = .ptr 0 0 ∧ σ 9 = .sc (.bool true) ∧ [.cells (whenB (decide (t.kd = 1))).c] = Z) (fun K hK => ?_) ?_
    · simp
      refine ⟨fun i r st' => if i = 10 then st' = [.cells zero8] else True, ?_⟩
      simp (decide := true) [s2, s5, s7, kN, strL, callV]
      refine ⟨by simp (decide := true) [s2, s5, s7, kN, strL, callV], ?_⟩; simp (decide := true) [s2, s5, s7, kN, strL, callV]
      refine ⟨by simp (decide := true) [s2, s5, s7, kN, strL, callV], ?_⟩; simp (decide := true) [s2, s5, s7, kN, strL, callV]
      refine ⟨by simp (decide := true) [s2, s5, s7, kN, strL, callV], ?_⟩; simp (decide := true) [s2, s5, s7, kN, strL, callV]
      refine ⟨by simp (decide := true) [s2, s5, s7, kN, strL, callV], ?_⟩; simp (decide := true) [s2, s5, s7, kN, strL, callV]
      refine ⟨by simp (decide := true) [s2, s5, s7, kN, strL, callV], ?_⟩; simp (decide := true) [s2, s5, s7, kN, strL, callV]
      refine ⟨by simp (decide := true) [s2, s5, s7, kN, strL, callV], ?_⟩; simp (decide := true) [s2, s5, s7, kN, strL, callV]
      refine vcCall_at (kc0 ct) ?_; simp (decide := true) [s2, s5, s7, kN, strL, callV]
      refine ⟨by simp (decide := true) [s2, s5, s7, kN, strL, callV] <;> (refine vcCall_at (kc0 ct) ?_; simp [s2, s5, s7, kN, strL, callV]), ?_⟩; simp (decide := true) [s2, s5, s7, kN, strL, callV]
      refine ⟨by simp (decide := true) [s2, s5, s7, kN, strL, callV], ?_⟩; simp (decide := true) [s2, s5, s7, kN, strL, callV]
      refine ⟨by simp (decide := true) [s2, s5, s7, kN, strL, callV], ?_⟩; simp (decide := true) [s2, s5, s7, kN, strL, callV]
      refine ⟨by simp (decide := true) [s2, s5, s7, kN, strL, callV], ?_⟩; simp (decide := true) [s2, s5, s7, kN, strL, callV]
      refine vcThenQ_of (fun r st' => r = .ptr 0 0 ∧ st' = [.cells zero8]) rfl (by simp) rfl (by simp [vcI, zero8]) (by rintro r st' ⟨rfl, rfl⟩; simp (decide := true)) ?_
      rintro r st' ⟨rfl, rfl⟩ _
      simp (decide := true) [s2, s5, s7, kN, strL, callV]
      refine vcThenQ_of (fun r st' => r = .any ∧ st' = [.cells (whenB (decide (t.kd = 1))).c]) rfl (by simp) rfl (by simp [vcI, zero8, callV]) (by rintro r st' ⟨rfl, rfl⟩; simp (decide := true)) ?_
      rintro r st' ⟨rfl, rfl⟩ _
      simp (decide := true) [s2, s5, s7, kN, strL, callV]
      refine ⟨by simp (decide := true) [s2, s5, s7, kN, strL, callV], ?_⟩; simp (decide := true) [s2, s5, s7, kN, strL, callV]
      exact hK _ _ (by simp [s2, s3, s5, s6, s7, kN, strL])
    clear s2 s3 s5 s6 s7 σ
    rintro σ Z ⟨s2, s3, s5, s6, s7, s8, s9, rfl⟩
    simp only [BRes.c, whenB]
    by_cases hk : t.kd = 1
    · simp [s8, s9, hk, s6]
      refine ⟨by simp [i64ok, cntK, b2i], hKd _ _ ?_⟩
      simp [s2, s3, s5, s7, hk, cntK, b2i, kZ, BRes.c, whenB]
    · simp [s8, s9, hk]
      refine hKd _ _ ?_
      simp [s2, s3, s5, s6, s7, hk, cntK, b2i, kZ, BRes.c, whenB]
  · show vcC _ _ _ _ _ _ _ _ _ _ [.cells (whenB (decide (t.kd = 1))).c]
    refine vcC_cut (fun σ Z => σ 2 = .eptr (t.cells 26) ∧ σ 3 = .eptr (u.cells 26) ∧ σ 5 = .lst 9 (strL kN) ∧ σ 6 = .sc (.int .i64 (cntK t.kd 1)) ∧ σ 7 = .sc (.int .i64 1) ∧ σ 8 = .ptr 1 0 ∧ σ 9 = .sc (.bool true) ∧ [.cells (whenB (decide (t.kd = 1))).c, .cells (whenB (decide (t.kd = 3))).c] = Z) (fun K hK => ?_) ?_
    · simp
      refine ⟨fun i r st' => if i = 10 then st' = [.cells (whenB (decide (t.kd = 1))).c, .cells zero8] else True, ?_⟩
      simp (decide := true) [s2, s5, s7, kN, strL, callV]
      refine ⟨by simp (decide := true) [s2, s5, s7, kN, strL, callV], ?_⟩; simp (decide := true) [s2, s5, s7, kN, strL, callV]
      refine ⟨by simp (decide := true) [s2, s5, s7, kN, strL, callV], ?_⟩; simp (decide := true) [s2, s5, s7, kN, strL, callV]
      refine ⟨by simp (decide := true) [s2, s5, s7, kN, strL, callV], ?_⟩; simp (decide := true) [s2, s5, s7, kN, strL, callV]
      refine ⟨by simp (decide := true) [s2, s5, s7, kN, strL, callV], ?_⟩; simp (decide := true) [s2, s5, s7, kN, strL, callV]
      refine ⟨by simp (decide := true) [s2, s5, s7, kN, strL, callV], ?_⟩; simp (decide := true) [s2, s5, s7, kN, strL, callV]
      refine ⟨by simp (decide := true) [s2, s5, s7, kN, strL, callV], ?_⟩; simp (decide := true) [s2, s5, s7, kN, strL, callV]
      refine vcCall_at (kc1 ct) ?_; simp (decide := true) [s2, s5, s7, kN, strL, callV]
      refine ⟨by simp (decide := true) [s2, s5, s7, kN, strL, callV] <;> (refine vcCall_at (kc1 ct) ?_; simp [s2, s5, s7, kN, strL, callV]), ?_⟩; simp (decide := true) [s2, s5, s7, kN, strL, callV]
      refine ⟨by simp (decide := true) [s2, s5, s7, kN, strL, callV], ?_⟩; simp (decide := true) [s2, s5, s7, kN, strL, callV]
      refine ⟨by simp (decide := true) [s2, s5, s7, kN, strL, callV], ?_⟩; simp (decide := true) [s2, s5, s7, kN, strL, callV]
      refine ⟨by simp (decide := true) [s2, s5, s7, kN, strL, callV], ?_⟩; simp (decide := true) [s2, s5, s7, kN, strL, callV]
      refine vcThenQ_of (fun r st' => r = .ptr 1 0 ∧ st' = [.cells (whenB (decide (t.kd = 1))).c, .cells zero8]) rfl (by simp) rfl (by simp [vcI, zero8]) (by rintro r st' ⟨rfl, rfl⟩; simp (decide := true)) ?_
      rintro r st' ⟨rfl, rfl⟩ _
      simp (decide := true) [s2, s5, s7, kN, strL, callV]
      refine vcThenQ_of (fun r st' => r = .any ∧ st' = [.cells (whenB (decide (t.kd = 1))).c, .cells (whenB (decide (t.kd = 3))).c]) rfl (by simp) rfl (by simp [vcI, zero8, callV]) (by rintro r st' ⟨rfl, rfl⟩; simp (decide := true)) ?_
      rintro r st' ⟨rfl, rfl⟩ _
      simp (decide := true) [s2, s5, s7, kN, strL, callV]
      refine ⟨by simp (decide := true) [s2, s5, s7, kN, strL, callV], ?_⟩; simp (decide := true) [s2, s5, s7, kN, strL, callV]
      exact hK _ _ (by simp [s2, s3, s5, s6, s7, kN, strL])
    clear s2 s3 s5 s6 s7 σ
    rintro σ Z ⟨s2, s3, s5, s6, s7, s8, s9, rfl⟩
    simp only [BRes.c, whenB]
    by_cases hk : t.kd = 3
    · simp [s8, s9, hk, s6]
      refine ⟨by simp [i64ok, cntK, b2i], hKd _ _ ?_⟩
      simp [s2, s3, s5, s7, hk, cntK, b2i, kZ, BRes.c, whenB]
    · simp [s8, s9, hk]
      refine hKd _ _ ?_
      simp [s2, s3, s5, s6, s7, hk, cntK, b2i, kZ, BRes.c, whenB]
  · show vcC _ _ _ _ _ _ _ _ _ _ [.cells (whenB (decide (t.kd = 1))).c, .cells (whenB (decide (t.kd = 3))).c]
    refine vcC_cut (fun σ Z => σ 2 = .eptr (t.cells 26) ∧ σ 3 = .eptr (u.cells 26) ∧ σ 5 = .lst 9 (strL kN) ∧ σ 6 = .sc (.int .i64 (cntK t.kd 2)) ∧ σ 7 = .sc (.int .i64 2) ∧ σ 8 = .ptr 2 0 ∧ σ 9 = .sc (.bool true) ∧ [.cells (whenB (decide (t.kd = 1))).c, .cells (whenB (decide (t.kd = 3))).c, .cells (whenB (decide (t.kd = 2))).c] = Z) (fun K hK => ?_) ?_
    · simp
      refine ⟨fun i r st' => if i = 10 then st' = [.cells (whenB (decide (t.kd = 1))).c, .cells (whenB (decide (t.kd = 3))).c, .cells zero8] else True, ?_⟩
      simp (decide := true) [s2, s5, s7, kN, strL, callV]
      refine ⟨by simp (decide := true) [s2, s5, s7, kN, strL, callV], ?_⟩; simp (decide := true) [s2, s5, s7, kN, strL, callV]
      refine ⟨by simp (decide := true) [s2, s5, s7, kN, strL, callV], ?_⟩; simp (decide := true) [s2, s5, s7, kN, strL, callV]
      refine ⟨by simp (decide := true) [s2, s5, s7, kN, strL, callV], ?_⟩; simp (decide := true) [s2, s5, s7, kN, strL, callV]
      refine ⟨by simp (decide := true) [s2, s5, s7, kN, strL, callV], ?_⟩; simp (decide := true) [s2, s5, s7, kN, strL, callV]
      refine ⟨by simp (decide := true) [s2, s5, s7, kN, strL, callV], ?_⟩; simp (decide := true) [s2, s5, s7, kN, strL, callV]
      refine ⟨by simp (decide := true) [s2, s5, s7, kN, strL, callV], ?_⟩; simp (decide := true) [s2, s5, s7, kN, strL, callV]
      refine vcCall_at (kc2 ct) ?_; simp (decide := true) [s2, s5, s7, kN, strL, callV]
      refine ⟨by simp (decide := true) [s2, s5, s7, kN, strL, callV] <;> (refine vcCall_at (kc2 ct) ?_; simp [s2, s5, s7, kN, strL, callV]), ?_⟩; simp (decide := true) [s2, s5, s7, kN, strL, callV]
      refine ⟨by simp (decide := true) [s2, s5, s7, kN, strL, callV], ?_⟩; simp (decide := true) [s2, s5, s7, kN, strL, callV]
      refine ⟨by simp (decide := true) [s2, s5, s7, kN, strL, callV], ?_⟩; simp (decide := true) [s2, s5, s7, kN, strL, callV]
      refine ⟨by simp (decide := true) [s2, s5, s7, kN, strL, callV], ?_⟩; simp (decide := true) [s2, s5, s7, kN, strL, callV]
      refine vcThenQ_of (fun r st' => r = .ptr 2 0 ∧ st' = [.cells (whenB (decide (t.kd = 1))).c, .cells (whenB (decide (t.kd = 3))).c, .cells zero8]) rfl (by simp) rfl (by simp [vcI, zero8]) (by rintro r st' ⟨rfl, rfl⟩; simp (decide := true)) ?_
      rintro r st' ⟨rfl, rfl⟩ _
      simp (decide := true) [s2, s5, s7, kN, strL, callV]
      refine vcThenQ_of (fun r st' => r = .any ∧ st' = [.cells (whenB (decide (t.kd = 1))).c, .cells (whenB (decide (t.kd = 3))).c, .cells (whenB (decide (t.kd = 2))).c]) rfl (by simp) rfl (by simp [vcI, zero8, callV]) (by rintro r st' ⟨rfl, rfl⟩; simp (decide := true)) ?_
      rintro r st' ⟨rfl, rfl⟩ _
      simp (decide := true) [s2, s5, s7, kN, strL, callV]
      refine ⟨by simp (decide := true) [s2, s5, s7, kN, strL, callV], ?_⟩; simp (decide := true) [s2, s5, s7, kN, strL, callV]
      exact hK _ _ (by simp [s2, s3, s5, s6, s7, kN, strL])
    clear s2 s3 s5 s6 s7 σ
    rintro σ Z ⟨s2, s3, s5, s6, s7, s8, s9, rfl⟩
    simp only [BRes.c, whenB]
    by_cases hk : t.kd = 2
    · simp [s8, s9, hk, s6]
      refine ⟨by simp [i64ok, cntK, b2i], hKd _ _ ?_⟩
      simp [s2, s3, s5, s7, hk, cntK, b2i, kZ, BRes.c, whenB]
    · simp [s8, s9, hk]
      refine hKd _ _ ?_
      simp [s2, s3, s5, s6, s7, hk, cntK, b2i, kZ, BRes.c, whenB]
  · show vcC _ _ _ _ _ _ _ _ _ _ [.cells (whenB (decide (t.kd = 1))).c, .cells (whenB (decide (t.kd = 3))).c, .cells (whenB (decide (t.kd = 2))).c]
    refine vcC_cut (fun σ Z => σ 2 = .eptr (t.cells 26) ∧ σ 3 = .eptr (u.cells 26) ∧ σ 5 = .lst 9 (strL kN) ∧ σ 6 = .sc (.int .i64 (cntK t.kd 3)) ∧ σ 7 = .sc (.int .i64 3) ∧ σ 8 = .ptr 3 0 ∧ σ 9 = .sc (.bool true) ∧ [.cells (whenB (decide (t.kd = 1))).c, .cells (whenB (decide (t.kd = 3))).c, .cells (whenB (decide (t.kd = 2))).c, .cells (whenB (decide (t.kd = 4))).c] = Z) (fun K hK => ?_) ?_
    · simp
      refine ⟨fun i r st' => if i = 10 then st' = [.cells (whenB (decide (t.kd = 1))).c, .cells (whenB (decide (t.kd = 3))).c, .cells (whenB (decide (t.kd = 2))).c, .cells zero8] else True, ?_⟩
      simp (decide := true) [s2, s5, s7, kN, strL, callV]
      refine ⟨by simp (decide := true) [s2, s5, s7, kN, strL, callV], ?_⟩; simp (decide := true) [s2, s5, s7, kN, strL, callV]
      refine ⟨by simp (decide := true) [s2, s5, s7, kN, strL, callV], ?_⟩; simp (decide := true) [s2, s5, s7, kN, strL, callV]
      refine ⟨by simp (decide := true) [s2, s5, s7, kN, strL, callV], ?_⟩; simp (decide := true) [s2, s5, s7, kN, strL, callV]
      refine ⟨by simp (decide := true) [s2, s5, s7, kN, strL, callV], ?_⟩; simp (decide := true) [s2, s5, s7, kN, strL, callV]
      refine ⟨by simp (decide := true) [s2, s5, s7, kN, strL, callV], ?_⟩; simp (decide := true) [s2, s5, s7, kN, strL, callV]
      refine ⟨by simp (decide := true) [s2, s5, s7, kN, strL, callV], ?_⟩; simp (decide := true) [s2, s5, s7, kN, strL, callV]
      refine vcCall_at (kc3 ct) ?_; simp (decide := true) [s2, s5, s7, kN, strL, callV]
      refine ⟨by simp (decide := true) [s2, s5, s7, kN, strL, callV] <;> (refine vcCall_at (kc3 ct) ?_; simp [s2, s5, s7, kN, strL, callV]), ?_⟩; simp (decide := true) [s2, s5, s7, kN, strL, callV]
      refine ⟨by simp (decide := true) [s2, s5, s7, kN, strL, callV], ?_⟩; simp (decide := true) [s2, s5, s7, kN, strL, callV]
      refine ⟨by simp (decide := true) [s2, s5, s7, kN, strL, callV], ?_⟩; simp (decide := true) [s2, s5, s7, kN, strL, callV]
      refine ⟨by simp (decide := true) [s2, s5, s7, kN, strL, callV], ?_⟩; simp (decide := true) [s2, s5, s7, kN, strL, callV]
      refine vcThenQ_of (fun r st' => r = .ptr 3 0 ∧ st' = [.cells (whenB (decide (t.kd = 1))).c, .cells (whenB (decide (t.kd = 3))).c, .cells (whenB (decide (t.kd = 2))).c, .cells zero8]) rfl (by simp) rfl (by simp [vcI, zero8]) (by rintro r st' ⟨rfl, rfl⟩; simp (decide := true)) ?_
      rintro r st' ⟨rfl, rfl⟩ _
      simp (decide := true) [s2, s5, s7, kN, strL, callV]
      refine vcThenQ_of (fun r st' => r = .any ∧ st' = [.cells (whenB (decide (t.kd = 1))).c, .cells (whenB (decide (t.kd = 3))).c, .cells (whenB (decide (t.kd = 2))).c, .cells (whenB (decide (t.kd = 4))).c]) rfl (by simp) rfl (by simp [vcI, zero8, callV]) (by rintro r st' ⟨rfl, rfl⟩; simp (decide := true)) ?_
      rintro r st' ⟨rfl, rfl⟩ _
      simp (decide := true) [s2, s5, s7, kN, strL, callV]
      refine ⟨by simp (decide := true) [s2, s5, s7, kN, strL, callV], ?_⟩; simp (decide := true) [s2, s5, s7, kN, strL, callV]
      exact hK _ _ (by simp [s2, s3, s5, s6, s7, kN, strL])
    clear s2 s3 s5 s6 s7 σ
    rintro σ Z ⟨s2, s3, s5, s6, s7, s8, s9, rfl⟩
    simp only [BRes.c, whenB]
    by_cases hk : t.kd = 4
    · simp [s8, s9, hk, s6]
      refine ⟨by simp [i64ok, cntK, b2i], hKd _ _ ?_⟩
      simp [s2, s3, s5, s7, hk, cntK, b2i, kZ, BRes.c, whenB]
    · simp [s8, s9, hk]
      refine hKd _ _ ?_
      simp [s2, s3, s5, s6, s7, hk, cntK, b2i, kZ, BRes.c, whenB]
end Go.T1
end

section
open Go Go.Ab Go.Proofs
namespace Go.T1
def vx : Tm := Tm.var 60000
def vy : Tm := Tm.var 60001
theorem vx_check : vx.check = 0 := by decide +kernel
theorem vy_check : vy.check = 0 := by decide +kernel
theorem un_bind {v : Int} {t : Tm} (ht : t.right = true) (hv : v ∉ t.occ) : Un [] [(Tm.var v, t)] (some [(v, t)]) := by
  have hs : t.sub (sg []) = t := by rw [sg_nil]; exact Tm.sub_var t ht
  have hb : bindS [] v t = some ([(v, t)], []) := by
    unfold bindS; rw [hs, if_neg hv]; rfl
  refine .go (B' := [(v, t)]) (qs := []) ?_ (.nil _)
  obtain ⟨k, n, s, l⟩ := t
  unfold stepU
  simp only [wk, Tm.var, Tm.vn, if_true]
  by_cases hk : k = 1
  · rw [if_pos hk]
    have hne : v ≠ n := by
      rintro rfl; apply hv; simp [Tm.occ, hk]
    simp only [if_neg hne]
    exact hb
  · rw [if_neg hk]
    exact hb
theorem sg_one (v : Int) {t : Tm} (ht : t.right = true) : sg [(v, t)] v = t := by
  have h := sg_snoc [] v t v
  rw [List.nil_append] at h
  rw [h, sg_nil, Tm.sub_var t ht]
  simp [Tm.var, Tm.sub, one]
theorem sol1 {v : Int} {t : Tm} (hc : t.check = 0) (hv : v ∉ t.occ) : solT (pairB [Tm.var v] [t]) (Tm.var v) = (t, true) := by
  have hr := (check_iff _).1 hc
  unfold solT
  have h1 : outU ((pairB [Tm.var v] [t]).left.zip (pairB [Tm.var v] [t]).right) = some [(v, t)] := outU_eq (un_bind hr.1 hv)
  rw [h1]
  have h2 : (Tm.var v).sub (sg [(v, t)]) = t := by
    have h3 : (Tm.var v).sub (sg [(v, t)]) = sg [(v, t)] v := by simp [Tm.var, Tm.sub]
    rw [h3, sg_one v hr.1]
  simp only [appR, h2]
  rw [if_neg (by omega), if_neg (by omega)]
  simp [pairB]
theorem vars_two (t : Tm) (v : Int) (s : ByteArray) : ((compT s [t, Tm.var v]).vars []).length = (t.vars []).length ↔ v ∈ t.occ := by
  have e : (compT s [t, Tm.var v]).vars [] = addV (t.vars []) v := by
    simp [compT, Tm.vars, Tm.varsL, Tm.var]
  rw [e]
  have hm := Tm.mem_vars t [] v
  simp at hm
  rw [← hm]
  unfold addV
  split
  · rename_i h; simp [h]
  · rename_i h; simp [h]
theorem cases4 {t : Tm} (ht : t.right = true) (h1 : t.kd ≠ 1) : (∃ n, t = intT n) ∨ (∃ s, t = atomT s) ∨ ∃ s l, t = .mk 4 0 s l ∧ 1 ≤ l.length ∧ l.length ≤ 16 ∧ s.size ≤ 64 := by
  obtain ⟨k, n, s, l⟩ := t
  simp only [Tm.right, Bool.and_eq_true] at ht
  have h := ht.1
  unfold partB at h
  simp only [kd_mk] at h1
  rw [if_neg h1] at h
  by_cases h2 : k = 2
  · rw [if_pos h2] at h
    simp at h
    obtain ⟨⟨_, rfl⟩, rfl⟩ := h
    exact .inl ⟨n, by rw [h2]; rfl⟩
  rw [if_neg h2] at h
  by_cases h3 : k = 3
  · rw [if_pos h3] at h
    simp at h
    obtain ⟨⟨rfl, _⟩, rfl⟩ := h
    exact .inr (.inl ⟨s, by rw [h3]; rfl⟩)
  rw [if_neg h3] at h
  by_cases h4 : k = 4
  · rw [if_pos h4] at h
    simp at h
    obtain ⟨⟨⟨rfl, h5⟩, h6⟩, h7⟩ := h
    exact .inr (.inr ⟨s, l, by rw [h4], by omega, by omega, by omega⟩)
  rw [if_neg h4] at h; cases h
theorem items_list : ∀ l : List Tm, (Tm.list nilT l).items = (l, nilT)
  | [] => Tm.items_end (by simp)
  | x :: xs => by
    show Tm.items (.mk 4 0 ⟨#[46]⟩ [x, Tm.list nilT xs]) = _
    rw [Tm.items_two, items_list xs]
theorem right_list : ∀ l : List Tm, (∀ x ∈ l, x.right = true) → (Tm.list nilT l).right = true
  | [], _ => by decide
  | x :: xs, h => by
    have h1 := right_list xs fun y hy => h y (by simp [hy])
    have h2 := h x (by simp)
    show (Tm.mk 4 0 ⟨#[46]⟩ [x, Tm.list nilT xs]).right = true
    simp only [Tm.right, Tm.rightL, h1, h2, Bool.and_true, List.length_cons, List.length_nil]
    decide
theorem depth_list : ∀ l : List Tm, (Tm.list nilT l).depth ≤ l.length + Tm.depthL l + 1
  | [] => by decide
  | x :: xs => by
    have := depth_list xs
    simp only [Tm.list, Tm.depth, Tm.depthL, List.length_cons]; omega
theorem occ_list : ∀ l : List Tm, (Tm.list nilT l).occ = Tm.occL l
  | [] => rfl
  | x :: xs => by
    have := occ_list xs
    simp [Tm.list, Tm.occ, Tm.occL, this]
theorem nameB_check {t : Tm} (hc : t.check = 0) (h1 : t.kd ≠ 1) : (nameB t).check = 0 := by
  rcases cases4 ((check_iff _).1 hc).1 h1 with ⟨n, rfl⟩ | ⟨s, rfl⟩ | ⟨s, l, rfl, _, _, h⟩
  · exact hc
  · exact hc
  · show (atomT s).check = 0
    rw [check_iff]
    simp [atomT, Tm.right, Tm.rightL, partB, Tm.depth, Tm.depthL, Tm.size, Tm.sizeL]; omega
theorem nameB_occ {t : Tm} {v : Int} (h1 : t.kd ≠ 1) (hv : v ∉ t.occ) : v ∉ (nameB t).occ := by
  unfold nameB
  split
  · exact hv
  · simp [atomT, Tm.occ, Tm.occL]
/-- The list that =.. tells. -/
def listB (t : Tm) : Tm := Tm.list nilT (nameB t :: t.ar)
theorem right_ar {t : Tm} (h : t.right = true) : ∀ x ∈ t.ar, x.right = true := by
  obtain ⟨k, n, s, l⟩ := t
  simp only [Tm.right, Bool.and_eq_true] at h
  exact rightL_mem h.2
theorem listB_check {t : Tm} (hc : t.check = 0) (h1 : t.kd ≠ 1) (hs : t.size ≤ 1000) (hd : t.depth ≤ 100) : (listB t).check = 0 := by
  have hr := ((check_iff _).1 hc).1
  have hn := (check_iff _).1 (nameB_check hc h1)
  have hdn : (nameB t).depth = 1 := by
    rcases cases4 hr h1 with ⟨n, rfl⟩ | ⟨s, rfl⟩ | ⟨s, l, rfl, _, _, h⟩ <;> rfl
  have hsn : (nameB t).size = 1 := by
    rcases cases4 hr h1 with ⟨n, rfl⟩ | ⟨s, rfl⟩ | ⟨s, l, rfl, _, _, h⟩ <;> rfl
  have hl : t.ar.length ≤ 16 := by
    rcases cases4 hr h1 with ⟨n, rfl⟩ | ⟨s, rfl⟩ | ⟨s, l, rfl, _, h, _⟩
    · simp [intT]
    · simp [atomT]
    · exact h
  have h2 := depth_list (nameB t :: t.ar)
  have h3 := size_list nilT (nameB t :: t.ar)
  have h4 : Tm.depthL t.ar ≤ 100 := by
    obtain ⟨k, n, s, l⟩ := t
    simp only [Tm.depth] at hd
    show Tm.depthL l ≤ 100
    omega
  have h5 : Tm.sizeL t.ar ≤ 1000 := by
    obtain ⟨k, n, s, l⟩ := t
    simp only [Tm.size] at hs
    show Tm.sizeL l ≤ 1000
    omega
  have h6 : nilT.size = 1 := rfl
  simp only [Tm.depthL, Tm.sizeL, List.length_cons] at h2 h3
  rw [check_iff]
  refine ⟨right_list _ fun x hx => ?_, ?_, ?_⟩
  · rcases List.mem_cons.1 hx with rfl | hx
    · exact hn.1
    · exact right_ar hr x hx
  · show (Tm.list nilT (nameB t :: t.ar)).depth ≤ 200
    omega
  · show (Tm.list nilT (nameB t :: t.ar)).size ≤ 4096
    omega
theorem listB_occ {t : Tm} {v : Int} (h1 : t.kd ≠ 1) (hv : v ∉ t.occ) : v ∉ (listB t).occ := by
  unfold listB
  rw [occ_list]
  simp only [Tm.occL, List.mem_append, not_or]
  refine ⟨nameB_occ h1 hv, ?_⟩
  obtain ⟨k, n, s, l⟩ := t
  simp at h1
  simpa [Tm.occ, h1] using hv
theorem made_list {t x : Tm} (hr : t.right = true) (h1 : t.kd ≠ 1) : madeB x (nameB t :: t.ar) = pairB [x] [t] := by
  rcases cases4 hr h1 with ⟨n, rfl⟩ | ⟨s, rfl⟩ | ⟨s, l, rfl, h2, h3, h⟩
  · simp [madeB, nameB, intT]
  · simp [madeB, nameB, atomT]
  · have h4 : l ≠ [] := by rintro rfl; simp at h2
    have h5 : ¬ 17 < l.length + 1 := by omega
    simp [madeB, nameB, atomT, compT, h4, h5]
theorem univ_to {t x : Tm} (h1 : t.kd ≠ 1) : univB t x = pairB [x] [listB t] := by unfold univB; rw [if_pos h1]; rfl
theorem univ_back {t : Tm} (hr : t.right = true) (h1 : t.kd ≠ 1) : univB vx (listB t) = pairB [vx] [t] := by
  unfold univB listB
  rw [if_neg (by simp [vx, Tm.var]), items_list]
  simp only
  rw [if_neg (by decide), if_neg (by simp)]
  exact made_list hr h1
end Go.T1
end

section
open Go Go.Ab Go.Proofs
namespace Go.T1
def eqS : ByteArray := ⟨#[61, 46, 46]⟩
def pS : ByteArray := ⟨#[112]⟩
theorem knownE (s : ByteArray) (n : Nat) (h : knownC s n = true) : knownC s n = true := h
/-- =.. of a term. -/
theorem call_univ {t : Tm} (hc : t.check = 0) (h1 : t.kd ≠ 1) (hs : t.size ≤ 1000) (hd : t.depth ≤ 100) : CallR copB numbersB eqS [t, vx] 61000 = pairB [vx] [listB t] := by
  rw [Call2 (by decide) hc vx_check, show doubleB eqS t vx (copB t 61000) (numbersB eqS t vx) = univB t vx by simp [doubleB, eqS], univ_to h1]
  exact fin_ok (by simp [pairB, vx_check]) (by simp [pairB, listB_check hc h1 hs hd])
theorem call_back {t : Tm} (hc : t.check = 0) (h1 : t.kd ≠ 1) (hs : t.size ≤ 1000) (hd : t.depth ≤ 100) : CallR copB numbersB eqS [vx, listB t] 61000 = pairB [vx] [t] := by
  rw [Call2 (by decide) vx_check (listB_check hc h1 hs hd), show doubleB eqS vx (listB t) (copB vx 61000) (numbersB eqS vx (listB t)) = univB vx (listB t) by simp [doubleB, eqS], univ_back ((check_iff _).1 hc).1 h1]
  exact fin_ok (by simp [pairB, vx_check]) (by simp [pairB, hc])
theorem int_check {n : Int} (h1 : -9007199254740991 ≤ n) (h2 : n ≤ 9007199254740991) : (intT n).check = 0 := by
  rw [check_iff]
  simp [intT, Tm.right, Tm.rightL, partB, Tm.depth, Tm.depthL, Tm.size, Tm.sizeL, h1, h2]
theorem ar_len {t : Tm} (hr : t.right = true) (h1 : t.kd ≠ 1) : t.ar.length ≤ 16 := by
  rcases cases4 hr h1 with ⟨n, rfl⟩ | ⟨s, rfl⟩ | ⟨s, l, rfl, _, h, _⟩
  · simp [intT]
  · simp [atomT]
  · exact h
theorem arI_check {t : Tm} (hr : t.right = true) (h1 : t.kd ≠ 1) : (intT t.ar.length).check = 0 := by
  have := ar_len hr h1
  exact int_check (by omega) (by omega)
/-- functor of a term. -/
theorem call_fun {t : Tm} (hc : t.check = 0) (h1 : t.kd ≠ 1) : CallR copB numbersB functorS [t, vx, vy] 61000 = pairB [vx, vy] [nameB t, intT t.ar.length] := by
  have hr := ((check_iff _).1 hc).1
  rw [Call3 (by decide) hc vx_check vy_check, if_neg (by decide), if_pos (show functorS = ⟨#[102, 117, 110, 99, 116, 111, 114]⟩ from rfl)]
  have e : functorB t vx vy 61000 = pairB [vx, vy] [nameB t, intT t.ar.length] := by unfold functorB; rw [if_pos h1]
  rw [e]
  refine fin_ok ?_ ?_
  · simp [pairB, vx_check, vy_check]
  · simp [pairB, nameB_check hc h1, arI_check hr h1]
/-- What functor makes. -/
def skel (t : Tm) : Tm := if t.ar = [] then t else .mk 4 0 t.sv (freshB 61000 t.ar.length)
theorem fresh_right (n : Nat) (hn : n ≤ 16) : ∀ x ∈ freshB 61000 n, x.check = 0 := fun x hx => by
  obtain ⟨i, hi, rfl⟩ := mem_fresh.1 hx
  exact var_check.2 ⟨by omega, by omega⟩
theorem depthL_fresh (next : Int) : ∀ n : Nat, Tm.depthL (freshB next n) ≤ 1
  | 0 => by simp [freshB, Tm.depthL]
  | n + 1 => by rw [freshB_succ, Tm.depthL_append]; have := depthL_fresh next n; simp [Tm.depthL, Tm.var, Tm.depth]; omega
theorem rightL_of : ∀ {l : List Tm}, (∀ x ∈ l, x.right = true) → Tm.rightL l = true
  | [], _ => rfl
  | y :: ys, h => by
    have h1 := rightL_of (l := ys) fun x hx => h x (by simp [hx])
    have h2 := h y (by simp)
    simp only [Tm.rightL, h1, h2, Bool.and_self]
theorem skel_check {t : Tm} (hc : t.check = 0) (h1 : t.kd ≠ 1) : (skel t).check = 0 := by
  have hr := ((check_iff _).1 hc).1
  unfold skel
  split
  · exact hc
  rename_i hne
  rcases cases4 hr h1 with ⟨n, rfl⟩ | ⟨s, rfl⟩ | ⟨s, l, rfl, h2, h3, h4⟩
  · exact absurd rfl hne
  · exact absurd rfl hne
  · simp only [ar_mk, sv_mk]
    have e1 : Tm.rightL (freshB 61000 l.length) = true := rightL_of fun x hx => ((check_iff _).1 (fresh_right _ h3 x hx)).1
    have e2 := depthL_fresh 61000 l.length
    have e3 := size_fresh 61000 l.length
    rw [check_iff]
    refine ⟨?_, ?_, ?_⟩
    · simp only [Tm.right, e1, Bool.and_true, partB, freshB_len]
      simp; omega
    · simp only [Tm.depth]; omega
    · simp only [Tm.size]; omega
theorem skel_occ {t : Tm} (hr : t.right = true) (h1 : t.kd ≠ 1) (hv : 60000 ∉ t.occ) : 60000 ∉ (skel t).occ := by
  unfold skel
  split
  · exact hv
  rw [show (Tm.mk 4 0 t.sv (freshB 61000 t.ar.length)).occ = Tm.occL (freshB 61000 t.ar.length) by simp [Tm.occ]]
  generalize t.ar.length = n
  induction n with
  | zero => simp [freshB, Tm.occL]
  | succ n ih =>
    rw [freshB_succ]
    have : ∀ a b : List Tm, Tm.occL (a ++ b) = Tm.occL a ++ Tm.occL b := by
      intro a b
      induction a with
      | nil => simp [Tm.occL]
      | cons x xs ih => simp [Tm.occL, ih]
    rw [this]
    simp only [List.mem_append, not_or]
    refine ⟨ih, ?_⟩
    simp [Tm.occL, Tm.var, Tm.occ]; omega
theorem call_make {t : Tm} (hc : t.check = 0) (h1 : t.kd ≠ 1) : CallR copB numbersB functorS [vx, nameB t, intT t.ar.length] 61000 = pairB [vx] [skel t] := by
  have hr := ((check_iff _).1 hc).1
  have hl := ar_len hr h1
  rw [Call3 (by decide) vx_check (nameB_check hc h1) (arI_check hr h1), if_neg (by decide), if_pos (show functorS = ⟨#[102, 117, 110, 99, 116, 111, 114]⟩ from rfl)]
  have e : functorB vx (nameB t) (intT t.ar.length) 61000 = pairB [vx] [skel t] := by
    have hn : (nameB t).kd ≠ 1 := by
      rcases cases4 hr h1 with ⟨n, rfl⟩ | ⟨s, rfl⟩ | ⟨s, l, rfl, h2, h3, h4⟩ <;> simp [nameB, intT, atomT]
    unfold functorB
    rw [if_neg (by simp [vx, Tm.var]), if_neg (by simp [hn, intT]), if_neg (by simp [intT]), if_neg (by simp [intT]; omega)]
    rcases cases4 hr h1 with ⟨n, rfl⟩ | ⟨s, rfl⟩ | ⟨s, l, rfl, h2, h3, h4⟩
    · simp [nameB, intT, skel]
    · simp [nameB, atomT, intT, skel]
    · have h5 : l ≠ [] := by rintro rfl; simp at h2
      have h6 : freshB 61000 l.length ≠ [] := by intro h; have := congrArg List.length h; simp at this; exact h5 this
      have h7 : ¬ (l.length : Int) = 0 := by omega
      simp [nameB, atomT, intT, skel, h5, compT, h6]
  rw [e]
  exact fin_ok (by simp [pairB, vx_check]) (by simp [pairB, skel_check hc h1])
theorem call_arg {t : Tm} (hc : t.check = 0) (h1 : t.kd ≠ 1) {i : Nat} (hi : i < t.ar.length) : CallR copB numbersB argS [intT ((i : Int) + 1), t, vx] 61000 = pairB [vx] [t.ar[i]] := by
  have hr := ((check_iff _).1 hc).1
  have hl := ar_len hr h1
  rw [Call3 (by decide) (int_check (by omega) (by omega)) hc vx_check, if_neg (by decide), if_neg (by decide)]
  rcases cases4 hr h1 with ⟨n, rfl⟩ | ⟨s, rfl⟩ | ⟨s, l, rfl, h2, h3, h4⟩
  · simp [intT] at hi
  · simp [atomT] at hi
  · simp only [ar_mk] at hi hl ⊢
    have e : argB (intT ((i : Int) + 1)) (.mk 4 0 s l) vx = pairB [vx] [l[i]] := by
      unfold argB
      rw [if_neg (by simp [intT]), if_neg (by simp [intT]), if_neg (by simp), if_neg (by simp), if_neg (by simp [intT]; omega)]
      simp [intT, hi]
    rw [e]
    exact fin_ok (by simp [pairB, vx_check]) (by simp [pairB]; exact check_arg _ _ _ _ hc _ (List.getElem_mem hi))
/-- Two variables that come to what has none. -/
theorem sol2 {nm : Tm} {k : Int} (hn : nm.right = true) (ho : nm.occ = []) (hd : nm.depth = 1) (hs : nm.size = 1) : solT (pairB [vx, vy] [nm, intT k]) (compT pS [vx, vy]) = (.mk 4 0 pS [nm, intT k], true) := by
  have h1 : Un [] [(vx, nm), (vy, intT k)] (some [((60000 : Int), nm), ((60001 : Int), intT k)]) := by
    have h2 := un_bind (v := 60000) hn (by rw [ho]; simp)
    have h3 : Un [((60000 : Int), nm)] [(vy, intT k)] (some [((60000 : Int), nm), ((60001 : Int), intT k)]) := by
      refine .go (B' := [((60000 : Int), nm), ((60001 : Int), intT k)]) (qs := []) ?_ (.nil _)
      simp [stepU, wk, vy, Tm.var, Tm.vn, intT, bindS, Tm.sub, Tm.subL, Tm.occ, Tm.occL]
    exact (Un_app h2 [(vy, intT k)]).2 _ rfl _ h3
  have hsub : ∀ f : Int → Tm, nm.sub f = nm := fun f => by
    have : nm.sub f = nm.sub Tm.var := Tm.sub_congr _ _ _ fun n hn => by rw [ho] at hn; cases hn
    rw [this, Tm.sub_var nm hn]
  have e1 : sg [((60000 : Int), nm), ((60001 : Int), intT k)] 60000 = nm := by
    have := sg_snoc [((60000 : Int), nm)] 60001 (intT k) 60000
    simp only [List.cons_append, List.nil_append] at this
    rw [this, sg_one _ hn, hsub]
  have e2 : sg [((60000 : Int), nm), ((60001 : Int), intT k)] 60001 = intT k := by
    have := sg_snoc [((60000 : Int), nm)] 60001 (intT k) 60001
    simp only [List.cons_append, List.nil_append] at this
    rw [this, sg_unb (by simp)]
    simp [Tm.var, Tm.sub, one, intT, Tm.subL]
  unfold solT
  have h4 : outU ((pairB [vx, vy] [nm, intT k]).left.zip (pairB [vx, vy] [nm, intT k]).right) = some [((60000 : Int), nm), ((60001 : Int), intT k)] := outU_eq h1
  rw [h4]
  have e3 : (compT pS [vx, vy]).sub (sg [((60000 : Int), nm), ((60001 : Int), intT k)]) = .mk 4 0 pS [nm, intT k] := by
    simp [compT, Tm.sub, Tm.subL, vx, vy, Tm.var, e1, e2]
  simp only [appR, e3]
  rw [if_neg (by simp only [Tm.size, Tm.sizeL, hs, intT]; omega), if_neg (by simp only [Tm.depth, Tm.depthL, hd, intT]; omega)]
  simp [pairB]
theorem sol2t {t : Tm} (hc : t.check = 0) (h1 : t.kd ≠ 1) : solT (pairB [vx, vy] [nameB t, intT t.ar.length]) (compT pS [vx, vy]) = (.mk 4 0 pS [nameB t, intT t.ar.length], true) := by
  have hr := ((check_iff _).1 hc).1
  refine sol2 ((check_iff _).1 (nameB_check hc h1)).1 ?_ ?_ ?_ <;>
    (rcases cases4 hr h1 with ⟨n, rfl⟩ | ⟨s, rfl⟩ | ⟨s, l, rfl, h2, h3, h4⟩ <;> rfl)
theorem ar_occ {t : Tm} {v : Int} (h1 : t.kd ≠ 1) (hv : v ∉ t.occ) {x : Tm} (hx : x ∈ t.ar) : v ∉ x.occ := fun h => by
  obtain ⟨k, n, s, l⟩ := t
  simp at h1 hx
  exact hv (by simp only [Tm.occ, if_neg h1]; exact Tm.occ_mem hx h)
theorem skel_like {t : Tm} (hr : t.right = true) (h1 : t.kd ≠ 1) : (skel t).kd = t.kd ∧ (skel t).sv = t.sv ∧ (skel t).ar.length = t.ar.length ∧ (skel t).nm = t.nm := by
  unfold skel
  split
  · exact ⟨rfl, rfl, rfl, rfl⟩
  rename_i hne
  rcases cases4 hr h1 with ⟨n, rfl⟩ | ⟨s, rfl⟩ | ⟨s, l, rfl, h2, h3, h4⟩
  · exact absurd rfl hne
  · exact absurd rfl hne
  · simp
end Go.T1
end

section
open Go Go.Ab Go.Proofs
namespace Go.T1
theorem cg0 (t : Tm) : (t.cells 26).head? = some (.sc (.int .i64 t.kd)) := by cases t; rfl
theorem cgn (t : Tm) : ¬ (t.cells 26 = []) := by cases t; simp [Tm.cells]
theorem cg1 (t : Tm) (h : 1 < (t.cells 26).length) : (t.cells 26)[1] = .sc (.int .i64 t.nm) := by cases t; rfl
theorem cg2 (t : Tm) (h : 2 < (t.cells 26).length) : (t.cells 26)[2] = .sc (.string t.sv) := by cases t; rfl
theorem cg3 (t : Tm) (h : 3 < (t.cells 26).length) : (t.cells 26)[3] = .lst 26 (Tm.cellsL 26 t.ar) := by cases t; rfl
theorem u1c {t : Tm} (hc : t.check = 0) (h1 : t.kd ≠ 1) (hs : t.size ≤ 1000) (hd : t.depth ≤ 100) : PureCall T Tryz.prog 10 [.sc (.string eqS), .lst 26 [t.cells 26, vx.cells 26], .sc (.int .i64 61000)] (callV (pairB [vx] [listB t]) true) := by
  have h := Call_c eqS [t, vx] 61000 (by simp; exact ⟨small_ok hc, small_ok vx_check⟩) (by omega) (by omega) (by simp)
  rw [call_univ hc h1 hs hd] at h; exact h
theorem u2c {t : Tm} (hc : t.check = 0) (h1 : t.kd ≠ 1) (hs : t.size ≤ 1000) (hd : t.depth ≤ 100) : PureCall T Tryz.prog 10 [.sc (.string eqS), .lst 26 [vx.cells 26, (listB t).cells 26], .sc (.int .i64 61000)] (callV (pairB [vx] [t]) true) := by
  have h := Call_c eqS [vx, listB t] 61000 (by simp; exact ⟨small_ok vx_check, small_ok (listB_check hc h1 hs hd)⟩) (by omega) (by omega) (by simp)
  rw [call_back hc h1 hs hd] at h; exact h
theorem u3c {t : Tm} (hc : t.check = 0) (h1 : t.kd ≠ 1) : PureCall T Tryz.prog 10 [.sc (.string functorS), .lst 26 [t.cells 26, vx.cells 26, vy.cells 26], .sc (.int .i64 61000)] (callV (pairB [vx, vy] [nameB t, intT t.ar.length]) true) := by
  have h := Call_c functorS [t, vx, vy] 61000 (by simp; exact ⟨small_ok hc, small_ok vx_check, small_ok vy_check⟩) (by omega) (by omega) (by simp)
  rw [call_fun hc h1] at h; exact h
theorem u4c {t : Tm} (hc : t.check = 0) (h1 : t.kd ≠ 1) : PureCall T Tryz.prog 10 [.sc (.string functorS), .lst 26 [vx.cells 26, (nameB t).cells 26, (intT t.ar.length).cells 26], .sc (.int .i64 61000)] (callV (pairB [vx] [skel t]) true) := by
  have hr := ((check_iff _).1 hc).1
  have h := Call_c functorS [vx, nameB t, intT t.ar.length] 61000 (by simp; exact ⟨small_ok vx_check, small_ok (nameB_check hc h1), small_ok (arI_check hr h1)⟩) (by omega) (by omega) (by simp)
  rw [call_make hc h1] at h; exact h
theorem u5c {t : Tm} (hc : t.check = 0) (h1 : t.kd ≠ 1) {i : Nat} (hi : i < t.ar.length) : PureCall T Tryz.prog 10 [.sc (.string argS), .lst 26 [(intT ((i : Int) + 1)).cells 26, t.cells 26, vx.cells 26], .sc (.int .i64 61000)] (callV (pairB [vx] [t.ar[i]]) true) := by
  have hr := ((check_iff _).1 hc).1
  have hl := ar_len hr h1
  have h := Call_c argS [intT ((i : Int) + 1), t, vx] 61000 (by simp; exact ⟨small_int _, small_ok hc, small_ok vx_check⟩) (by omega) (by omega) (by simp)
  rw [call_arg hc h1 hi] at h; exact h
theorem sv1 {t : Tm} (hc : t.check = 0) (hv : 60000 ∉ t.occ) : PureCall T Tryz.prog 22 [.agg (pairB [vx] [t]).c, vx.av 26] (.tup [t.av 26, .sc (.bool true)]) := by
  have h := solved_c (pairB [vx] [t]) vx (by simp [pairB, vx_check]) (by simp [pairB, hc]) rfl (by simp [pairB]) ((check_iff _).1 vx_check).1
  rw [show solT (pairB [vx] [t]) vx = (t, true) from sol1 hc hv] at h; exact h
theorem sv2 {t : Tm} (hc : t.check = 0) (h1 : t.kd ≠ 1) : PureCall T Tryz.prog 22 [.agg (pairB [vx, vy] [nameB t, intT t.ar.length]).c, (compT pS [vx, vy]).av 26] (.tup [(Tm.mk 4 0 pS [nameB t, intT t.ar.length]).av 26, .sc (.bool true)]) := by
  have hr := ((check_iff _).1 hc).1
  have h := solved_c (pairB [vx, vy] [nameB t, intT t.ar.length]) (compT pS [vx, vy]) (by simp [pairB, vx_check, vy_check]) (by simp [pairB, nameB_check hc h1, arI_check hr h1]) rfl (by simp [pairB]) (by decide)
  rw [sol2t hc h1] at h; exact h
theorem pxy_ok : (compT pS [vx, vy]).right = true := by decide
set_option maxRecDepth 100000 in
set_option maxHeartbeats 8000000 in
theorem BuiltMakes_c (t : Tm) (nt : t.nice) : PureCall T Tryz.prog 4 [t.av 26] (.sc (.bool true)) := by
  refine PureCall.of_vc hT [4, 8, 10] ([(16, 9), (16, 10)] ++ [0, 1, 2, 3, 4, 5, 6, 7, 8, 9, 10, 11].map (Prod.mk 200016) ++ [(26, 10), (26, 11)] ++ [0, 1, 2, 3, 4, 5, 6, 7, 8, 9, 10, 11, 12].map (Prod.mk 200026) ++ [(19, 14)] ++ [0, 1, 2, 3, 4, 5, 6, 7, 8, 9, 10, 11, 12, 13, 14, 15].map (Prod.mk 200019)) follows Tryz.call4 Tryz.func4 rfl (drawsOk_of3 (by kernel_rfl)) (by simp [AV.pure, AV.pureL, AV.pureM]) (by simp [AV.pure]) ?_
  unfold Tryz.f4
  dsimp only
  refine vcC_cut (fun σ Z => σ 1 = .eptr (t.cells 26) ∧ [] = Z) (fun K hK => ?_) ?_
  · simp; exact hK _ _ (by simp)
  rintro σ Z ⟨s1, rfl⟩
  refine vcC_cut (fun σ Z => t.check = 0 ∧ t.kd ≠ 1 ∧ t.size ≤ 1000 ∧ t.depth ≤ 100 ∧ σ 1 = .eptr (t.cells 26) ∧ [] = Z) (fun K hK => ?_) ?_
  · simp [s1]
    refine vcCall_at (Large_c t nt) ?_
    simp [s1]
    cases hl : t.large
    case true =>
      simp
      refine ⟨[], .sc (.int .i64 0), fun h => (by simp at h), ?_⟩
      simp [s1, cg0, cgn]
      refine ⟨[], .sc (.int .i64 0), fun h => (by simp at h), ?_⟩
      simp [s1]
      refine ⟨[], .sc (.int .i64 0), fun h => (by simp at h), ?_⟩
      simp
      exact vcCall_at blives_c (by simp)
    have hsm := Tm.large_small hl
    simp
    refine vcCall_at (rCheck_c t hsm) ?_
    simp [s1]
    by_cases ct : t.check = 0
    case neg =>
      simp [ct, s1, cg0, cgn]
      refine ⟨[], .sc (.int .i64 0), fun h => (by simp at h), ?_⟩
      simp [s1]
      refine ⟨[], .sc (.int .i64 0), fun h => (by simp at h), ?_⟩
      simp
      exact vcCall_at blives_c (by simp)
    simp [ct, s1, cg0, cgn]
    by_cases hk : t.kd = 1
    · simp [hk]
      refine ⟨[], .sc (.int .i64 0), fun h => (by simp [hk] at h), ?_⟩
      simp [s1]
      refine ⟨[], .sc (.int .i64 0), fun h => (by simp at h), ?_⟩
      simp
      exact vcCall_at blives_c (by simp)
    simp [hk]
    refine vcCall_at (rSize_c t hsm) ?_
    simp [s1]
    by_cases hsz : (1000 : Int) < t.size
    · simp [hsz]
      refine ⟨[], .sc (.int .i64 0), fun h => (by simp [hsz] at h), ?_⟩
      simp
      exact vcCall_at blives_c (by simp)
    simp [hsz]
    refine vcCall_at (rDepth_c t hsm) ?_
    simp
    refine ⟨fun _ => vcCall_at blives_c (by simp), fun hdp => hK _ _ ?_⟩
    simp [s1, ct, hk]
    omega
  clear s1 σ
  rintro σ Z ⟨hc, h1, hs, hd, s1, rfl⟩
  have hr := ((check_iff _).1 hc).1
  have hsm := small_ok hc
  refine vcC_cut (fun σ Z => σ 1 = .eptr (t.cells 26) ∧ σ 3 = .eptr (vx.cells 26) ∧ [] = Z) (fun K hK => ?_) ?_
  · simp
    refine vcCall_at (rVar_c 60000) ?_
    simp
    exact hK _ _ (by simp [s1, vx, Tm.var])
  clear s1 σ
  rintro σ Z ⟨s1, s3, rfl⟩
  refine vcC_cut (fun σ Z => 60000 ∉ t.occ ∧ σ 1 = .eptr (t.cells 26) ∧ σ 3 = .eptr (vx.cells 26) ∧ [] = Z) (fun K hK => ?_) ?_
  · have hv := vars_two t 60000 fS
    simp [s1, s3]
    refine ⟨rfl, ?_⟩
    refine vcCall_at (rComp_c fS [t, vx]) ?_
    simp
    refine vcCall_at (rVars_c (compT fS [t, vx]) (by simp [compT, Tm.small, Tm.size, Tm.sizeL, vx, Tm.var]; omega)) ?_
    simp [s1, s3]
    refine vcCall_at (rVars_c t hsm) ?_
    simp
    refine ⟨fun _ => vcCall_at blives_c (by simp), fun he => hK _ _ ?_⟩
    have he2 : ¬ ((compT fS [t, Tm.var 60000]).vars []).length = (t.vars []).length := fun h => he (congrArg (fun n : Nat => (n : Int)) h)
    simp [s1, s3]
    exact fun h => he2 (hv.2 h)
  clear s1 s3 σ
  rintro σ Z ⟨hx, s1, s3, rfl⟩
  have hlc := listB_check hc h1 hs hd
  refine vcC_cut (fun σ Z => σ 1 = .eptr (t.cells 26) ∧ σ 3 = .eptr (vx.cells 26) ∧ σ 4 = .ptr 0 0 ∧ σ 5 = .sc (.bool true) ∧ [.cells (pairB [vx] [listB t]).c] = Z) (fun K hK => ?_) ?_
  · simp [s1, s3]
    refine ⟨rfl, ?_⟩
    refine vcCall_at (u1c hc h1 hs hd) ?_
    simp [callV]
    exact hK _ _ (by simp [s1, s3])
  clear s1 s3 σ
  rintro σ Z ⟨s1, s3, s4, s5, rfl⟩
  refine vcC_cut (fun σ Z => σ 1 = .eptr (t.cells 26) ∧ σ 3 = .eptr (vx.cells 26) ∧ σ 4 = .ptr 0 0 ∧ σ 5 = .sc (.bool true) ∧ σ 6 = .eptr ((listB t).cells 26) ∧ σ 7 = .sc (.bool true) ∧ [.cells (pairB [vx] [listB t]).c] = Z) (fun K hK => ?_) ?_
  · simp [s3, s4]
    refine vcCall_at (sv1 hlc (listB_occ h1 hx)) ?_
    simp
    exact hK _ _ (by simp [s1, s3, s4, s5])
  clear s1 s3 s4 s5 σ
  rintro σ Z ⟨s1, s3, s4, s5, s6, s7, rfl⟩
  refine vcC_cut (fun σ Z => σ 1 = .eptr (t.cells 26) ∧ σ 3 = .eptr (vx.cells 26) ∧ σ 4 = .ptr 0 0 ∧ σ 5 = .sc (.bool true) ∧ σ 7 = .sc (.bool true) ∧ σ 8 = .ptr 1 0 ∧ σ 9 = .sc (.bool true) ∧ [.cells (pairB [vx] [listB t]).c, .cells (pairB [vx] [t]).c] = Z) (fun K hK => ?_) ?_
  · simp [s3, s6]
    refine ⟨rfl, ?_⟩
    refine vcCall_at (u2c hc h1 hs hd) ?_
    simp [callV]
    exact hK _ _ (by simp [s1, s3, s4, s5, s7])
  clear s1 s3 s4 s5 s6 s7 σ
  rintro σ Z ⟨s1, s3, s4, s5, s7, s8, s9, rfl⟩
  refine vcC_cut (fun σ Z => σ 1 = .eptr (t.cells 26) ∧ σ 3 = .eptr (vx.cells 26) ∧ σ 4 = .ptr 0 0 ∧ σ 5 = .sc (.bool true) ∧ σ 7 = .sc (.bool true) ∧ σ 8 = .ptr 1 0 ∧ σ 9 = .sc (.bool true) ∧ σ 10 = .ptr 2 0 ∧ σ 11 = .sc (.bool true) ∧ [.cells (pairB [vx] [listB t]).c, .cells (pairB [vx] [t]).c, .cells (t.cells 26)] = Z) (fun K hK => ?_) ?_
  · simp [s3, s8]
    refine vcCall_at (sv1 hc hx) ?_
    simp
    exact hK _ _ (by simp [s1, s3, s4, s5, s7, s8, s9])
  clear s1 s3 s4 s5 s7 s8 s9 σ
  rintro σ Z ⟨s1, s3, s4, s5, s7, s8, s9, s10, s11, rfl⟩
  refine vcC_cut (fun σ Z => σ 1 = .eptr (t.cells 26) ∧ σ 3 = .eptr (vx.cells 26) ∧ σ 4 = .ptr 0 0 ∧ σ 8 = .ptr 1 0 ∧ σ 10 = .ptr 2 0 ∧ [.cells (pairB [vx] [listB t]).c, .cells (pairB [vx] [t]).c, .cells (t.cells 26)] = Z) (fun K hK => ?_) ?_
  · simp
    refine vcCall_at blives_c ?_
    simp [s1, s5, s7, s9, s10, s11]
    refine vcCall_at (exact_c t t) ?_
    simp
    exact hK _ _ (by simp [s1, s3, s4, s8, s10])
  clear s1 s3 s4 s5 s7 s8 s9 s10 s11 σ
  rintro σ Z ⟨s1, s3, s4, s8, s10, rfl⟩
  refine vcC_cut (fun σ Z => σ 1 = .eptr (t.cells 26) ∧ σ 3 = .eptr (vx.cells 26) ∧ σ 4 = .ptr 0 0 ∧ σ 8 = .ptr 1 0 ∧ σ 10 = .ptr 2 0 ∧ σ 12 = .eptr (vy.cells 26) ∧ [.cells (pairB [vx] [listB t]).c, .cells (pairB [vx] [t]).c, .cells (t.cells 26)] = Z) (fun K hK => ?_) ?_
  · simp
    refine vcCall_at (rVar_c 60001) ?_
    simp
    exact hK _ _ (by simp [s1, s3, s4, s8, s10, vy, Tm.var])
  clear s1 s3 s4 s8 s10 σ
  rintro σ Z ⟨s1, s3, s4, s8, s10, s12, rfl⟩
  refine vcC_cut (fun σ Z => σ 1 = .eptr (t.cells 26) ∧ σ 3 = .eptr (vx.cells 26) ∧ σ 4 = .ptr 0 0 ∧ σ 8 = .ptr 1 0 ∧ σ 10 = .ptr 2 0 ∧ σ 12 = .eptr (vy.cells 26) ∧ [.cells (pairB [vx] [listB t]).c, .cells (pairB [vx] [t]).c, .cells (t.cells 26)] = Z) (fun K hK => ?_) ?_
  · simp [s1, s12]
    refine ⟨rfl, ?_⟩
    refine vcCall_at (rComp_c fS [t, vy]) ?_
    simp
    refine vcCall_at (rVars_c (compT fS [t, vy]) (by simp [compT, Tm.small, Tm.size, Tm.sizeL, vy, Tm.var]; omega)) ?_
    simp [s1, s12]
    refine vcCall_at (rVars_c t hsm) ?_
    simp
    intro _
    exact hK _ _ (by simp [s1, s3, s4, s8, s10, s12])
  clear s1 s3 s4 s8 s10 s12 σ
  rintro σ Z ⟨s1, s3, s4, s8, s10, s12, rfl⟩
  refine vcC_cut (fun σ Z => σ 1 = .eptr (t.cells 26) ∧ σ 3 = .eptr (vx.cells 26) ∧ σ 4 = .ptr 0 0 ∧ σ 5 = .sc (.bool true) ∧ σ 8 = .ptr 1 0 ∧ σ 10 = .ptr 2 0 ∧ σ 12 = .eptr (vy.cells 26) ∧ [.cells (pairB [vx, vy] [nameB t, intT t.ar.length]).c, .cells (pairB [vx] [t]).c, .cells (t.cells 26)] = Z) (fun K hK => ?_) ?_
  · simp [s1, s3, s4, s12]
    refine ⟨rfl, ?_⟩
    refine vcCall_at (u3c hc h1) ?_
    simp [callV, s4]
    exact hK _ _ (by simp [s1, s3, s4, s8, s10, s12])
  clear s1 s3 s4 s8 s10 s12 σ
  rintro σ Z ⟨s1, s3, s4, s5, s8, s10, s12, rfl⟩
  refine vcC_cut (fun σ Z => σ 1 = .eptr (t.cells 26) ∧ σ 3 = .eptr (vx.cells 26) ∧ σ 5 = .sc (.bool true) ∧ σ 7 = .sc (.bool true) ∧ σ 8 = .ptr 1 0 ∧ σ 10 = .ptr 2 0 ∧ σ 12 = .eptr (vy.cells 26) ∧ σ 13 = .ptr 3 0 ∧ [.cells (pairB [vx, vy] [nameB t, intT t.ar.length]).c, .cells (pairB [vx] [t]).c, .cells (t.cells 26), .cells ((Tm.mk 4 0 pS [nameB t, intT t.ar.length]).cells 26)] = Z) (fun K hK => ?_) ?_
  · simp
    refine ⟨fun i r st' => if i = 9 then st' = [.cells (pairB [vx, vy] [nameB t, intT t.ar.length]).c, .cells (pairB [vx] [t]).c, .cells (t.cells 26), .cells zT] else True, ?_⟩
    simp (decide := true) [s3, s4, s12]
    refine ⟨by simp (decide := true) [s3, s4, s12], ?_⟩; simp (decide := true) [s3, s4, s12]
    refine ⟨by simp (decide := true) [s3, s4, s12], ?_⟩; simp (decide := true) [s3, s4, s12]
    refine ⟨by simp (decide := true) [s3, s4, s12], ?_⟩; simp (decide := true) [s3, s4, s12]
    refine ⟨by simp (decide := true) [s3, s4, s12], ?_⟩; simp (decide := true) [s3, s4, s12]
    refine vcCall_at (rComp_c pS [vx, vy]) ?_; simp (decide := true) [s3, s4, s12]
    refine ⟨by simp (decide := true) [s3, s4, s12] <;> (refine vcCall_at (rComp_c pS [vx, vy]) ?_; simp [s3, s4, s12]), ?_⟩; simp (decide := true) [s3, s4, s12]
    refine vcCall_at (sv2 hc h1) ?_; simp (decide := true) [s3, s4, s12]
    refine ⟨by simp (decide := true) [s3, s4, s12] <;> (refine vcCall_at (sv2 hc h1) ?_; simp [s3, s4, s12]), ?_⟩; simp (decide := true) [s3, s4, s12]
    refine ⟨by simp (decide := true) [s3, s4, s12], ?_⟩; simp (decide := true) [s3, s4, s12]
    refine ⟨by simp (decide := true) [s3, s4, s12], ?_⟩; simp (decide := true) [s3, s4, s12]
    refine ⟨by simp (decide := true) [s3, s4, s12], ?_⟩; simp (decide := true) [s3, s4, s12]
    refine vcThenQ_of (fun r st' => r = .ptr 3 0 ∧ st' = [.cells (pairB [vx, vy] [nameB t, intT t.ar.length]).c, .cells (pairB [vx] [t]).c, .cells (t.cells 26), .cells zT]) rfl (by simp) rfl (by simp [vcI, zT]) (by rintro r st' ⟨rfl, rfl⟩; simp (decide := true)) ?_
    rintro r st' ⟨rfl, rfl⟩ _
    simp (decide := true) [s3, s4, s12]
    refine vcThenQ_of (fun r st' => r = .any ∧ st' = [.cells (pairB [vx, vy] [nameB t, intT t.ar.length]).c, .cells (pairB [vx] [t]).c, .cells (t.cells 26), .cells ((Tm.mk 4 0 pS [nameB t, intT t.ar.length]).cells 26)]) rfl (by simp) rfl (by simp [vcI, zT]) (by rintro r st' ⟨rfl, rfl⟩; simp (decide := true)) ?_
    rintro r st' ⟨rfl, rfl⟩ _
    simp (decide := true) [s3, s4, s12]
    refine ⟨by simp (decide := true) [s3, s4, s12], ?_⟩; simp (decide := true) [s3, s4, s12]
    exact hK _ _ (by simp [s1, s3, s5, s8, s10, s12])
  clear s1 s3 s4 s5 s8 s10 s12 σ
  rintro σ Z ⟨s1, s3, s5, s7, s8, s10, s12, s13, rfl⟩
  refine vcC_cut (fun σ Z => σ 1 = .eptr (t.cells 26) ∧ σ 3 = .eptr (vx.cells 26) ∧ σ 8 = .ptr 1 0 ∧ σ 10 = .ptr 2 0 ∧ σ 13 = .ptr 3 0 ∧ [.cells (pairB [vx, vy] [nameB t, intT t.ar.length]).c, .cells (pairB [vx] [t]).c, .cells (t.cells 26), .cells ((Tm.mk 4 0 pS [nameB t, intT t.ar.length]).cells 26)] = Z) (fun K hK => ?_) ?_
  · simp [s5, s7, s13, Tm.cells, Tm.cellsL]
    exact hK _ _ (by simp [s1, s3, s8, s10, s13, Tm.cells, Tm.cellsL])
  clear s1 s3 s5 s7 s8 s10 s12 s13 σ
  rintro σ Z ⟨s1, s3, s8, s10, s13, rfl⟩
  refine vcC_cut (fun σ Z => σ 1 = .eptr (t.cells 26) ∧ σ 3 = .eptr (vx.cells 26) ∧ σ 8 = .ptr 1 0 ∧ σ 9 = .sc (.bool true) ∧ σ 10 = .ptr 2 0 ∧ [.cells (pairB [vx, vy] [nameB t, intT t.ar.length]).c, .cells (pairB [vx] [skel t]).c, .cells (t.cells 26), .cells ((Tm.mk 4 0 pS [nameB t, intT t.ar.length]).cells 26)] = Z) (fun K hK => ?_) ?_
  · simp
    refine ⟨fun _ _ _ => True, ?_⟩
    simp (decide := true) [s3, s8, s13, Tm.cells, Tm.cellsL, callV]
    refine ⟨by simp (decide := true) [s3, s8, s13, Tm.cells, Tm.cellsL, callV], ?_⟩; simp (decide := true) [s3, s8, s13, Tm.cells, Tm.cellsL, callV]
    refine ⟨by simp (decide := true) [s3, s8, s13, Tm.cells, Tm.cellsL, callV], ?_⟩; simp (decide := true) [s3, s8, s13, Tm.cells, Tm.cellsL, callV]
    refine ⟨by simp (decide := true) [s3, s8, s13, Tm.cells, Tm.cellsL, callV], ?_⟩; simp (decide := true) [s3, s8, s13, Tm.cells, Tm.cellsL, callV]
    refine ⟨by simp (decide := true) [s3, s8, s13, Tm.cells, Tm.cellsL, callV], ?_⟩; simp (decide := true) [s3, s8, s13, Tm.cells, Tm.cellsL, callV]
    refine ⟨by simp (decide := true) [s3, s8, s13, Tm.cells, Tm.cellsL, callV], ?_⟩; simp (decide := true) [s3, s8, s13, Tm.cells, Tm.cellsL, callV]
    refine ⟨by simp (decide := true) [s3, s8, s13, Tm.cells, Tm.cellsL, callV], ?_⟩; simp (decide := true) [s3, s8, s13, Tm.cells, Tm.cellsL, callV]
    refine ⟨by simp (decide := true) [s3, s8, s13, Tm.cells, Tm.cellsL, callV], ?_⟩; simp (decide := true) [s3, s8, s13, Tm.cells, Tm.cellsL, callV]
    refine ⟨by simp (decide := true) [s3, s8, s13, Tm.cells, Tm.cellsL, callV], ?_⟩; simp (decide := true) [s3, s8, s13, Tm.cells, Tm.cellsL, callV]
    refine ⟨by simp (decide := true) [s3, s8, s13, Tm.cells, Tm.cellsL, callV], ?_⟩; simp (decide := true) [s3, s8, s13, Tm.cells, Tm.cellsL, callV]
    refine ⟨by simp (decide := true) [s3, s8, s13, Tm.cells, Tm.cellsL, callV], ?_⟩; simp (decide := true) [s3, s8, s13, Tm.cells, Tm.cellsL, callV]
    refine vcCall_at (u4c hc h1) ?_; simp (decide := true) [s3, s8, s13, Tm.cells, Tm.cellsL, callV]
    refine ⟨by simp (decide := true) [s3, s8, s13, Tm.cells, Tm.cellsL, callV] <;> (refine vcCall_at (u4c hc h1) ?_; simp [s3, s8, s13, Tm.cells, Tm.cellsL, callV]), ?_⟩; simp (decide := true) [s3, s8, s13, Tm.cells, Tm.cellsL, callV]
    refine ⟨by simp (decide := true) [s3, s8, s13, Tm.cells, Tm.cellsL, callV], ?_⟩; simp (decide := true) [s3, s8, s13, Tm.cells, Tm.cellsL, callV]
    refine ⟨by simp (decide := true) [s3, s8, s13, Tm.cells, Tm.cellsL, callV], ?_⟩; simp (decide := true) [s3, s8, s13, Tm.cells, Tm.cellsL, callV]
    refine ⟨by simp (decide := true) [s3, s8, s13, Tm.cells, Tm.cellsL, callV], ?_⟩; simp (decide := true) [s3, s8, s13, Tm.cells, Tm.cellsL, callV]
    refine vcThenQ_of (fun r st' => r = .any ∧ st' = [.cells (pairB [vx, vy] [nameB t, intT t.ar.length]).c, .cells (pairB [vx] [skel t]).c, .cells (t.cells 26), .cells ((Tm.mk 4 0 pS [nameB t, intT t.ar.length]).cells 26)]) rfl (by simp) rfl (by simp [vcI, Tm.cells, Tm.cellsL, s8]) (by rintro r st' ⟨rfl, rfl⟩; simp (decide := true)) ?_
    rintro r st' ⟨rfl, rfl⟩ _
    simp (decide := true) [s3, s8, s13, Tm.cells, Tm.cellsL, callV]
    refine ⟨by simp (decide := true) [s3, s8, s13, Tm.cells, Tm.cellsL, callV], ?_⟩; simp (decide := true) [s3, s8, s13, Tm.cells, Tm.cellsL, callV]
    exact hK _ _ (by simp [s1, s3, s8, s10, Tm.cells, Tm.cellsL])
  clear s1 s3 s8 s10 s13 σ
  rintro σ Z ⟨s1, s3, s8, s9, s10, rfl⟩
  refine vcC_cut (fun σ Z => σ 1 = .eptr (t.cells 26) ∧ σ 3 = .eptr (vx.cells 26) ∧ σ 9 = .sc (.bool true) ∧ σ 10 = .ptr 2 0 ∧ σ 11 = .sc (.bool true) ∧ [.cells (pairB [vx, vy] [nameB t, intT t.ar.length]).c, .cells (pairB [vx] [skel t]).c, .cells ((skel t).cells 26), .cells ((Tm.mk 4 0 pS [nameB t, intT t.ar.length]).cells 26)] = Z) (fun K hK => ?_) ?_
  · simp [s3, s8, s10]
    refine vcCall_at (sv1 (skel_check hc h1) (skel_occ hr h1 hx)) ?_
    simp [s10]
    exact hK _ _ (by simp [s1, s3, s9, s10])
  clear s1 s3 s8 s9 s10 σ
  rintro σ Z ⟨s1, s3, s9, s10, s11, rfl⟩
  refine vcC_cut (fun σ Z => σ 1 = .eptr (t.cells 26) ∧ σ 3 = .eptr (vx.cells 26)) (fun K hK => ?_) ?_
  · obtain ⟨k1, k2, k3, k4⟩ := skel_like hr h1
    generalize skel t = w at k1 k2 k3 k4
    obtain ⟨kw, nw, sw, lw⟩ := w
    generalize (pairB [vx, vy] [nameB t, intT t.ar.length]).c = B1
    generalize (pairB [vx] [Tm.mk kw nw sw lw]).c = B2
    generalize (Tm.mk 4 0 pS [nameB t, intT t.ar.length]).cells 26 = B3
    obtain ⟨k, n, s, l⟩ := t
    simp at k1 k2 k3 k4
    subst k1 k2 k4
    simp [s1, s9, s10, s11, Tm.cells, k3]
    intros
    exact hK _ _ (by simp [s1, s3, Tm.cells])
  clear s1 s3 s9 s10 s11 σ
  rintro σ Z ⟨s1, s3⟩
  have ec : t.cells 26 = [.sc (.int .i64 t.kd), .sc (.int .i64 t.nm), .sc (.string t.sv), .lst 26 (Tm.cellsL 26 t.ar)] := by cases t; rfl
  have hl16 := ar_len hr h1
  refine vcC_cut (fun σ Z => True) (fun K hK => ?_) ?_
  case refine_2 =>
    rintro σ Z _
    simp
  refine vcC_cut (fun σ Z => σ 1 = .eptr (t.cells 26) ∧ σ 3 = .eptr (vx.cells 26) ∧ σ 14 = .sc (.int .i64 0)) (fun K hK => ?_) ?_
  · simp
    exact hK _ _ (by simp [s1, s3])
  clear s1 s3 σ
  rintro σ Z1 ⟨s1, s3, s14⟩
  refine vcC_blk (fun σ Z => True) (fun Kc Xc hKc hX0 hXj => ?_) hK
  clear hK
  refine vcC_loop [] (fun m σ _ => ∃ i : Nat, m = t.ar.length - i ∧ i ≤ t.ar.length ∧ σ 1 = .eptr (t.cells 26) ∧ σ 3 = .eptr (vx.cells 26) ∧ σ 14 = .sc (.int .i64 i)) t.ar.length ?_ ?_
  · exact ⟨0, by simp, by simp, s1, s3, by simp [s14]⟩
  clear s1 s3 s14 σ
  rintro m σ X ⟨i, rfl, hi, s1, s3, s14⟩
  rcases Nat.lt_or_ge i t.ar.length with hlt | hge
  case inr =>
    have hi' : ¬ i < t.ar.length := by omega
    simp [s1, s14, ec, hi']
    intros
    rw [hX0]
    exact hKc _ _ trivial
  refine vcC_cut (fun σ Z => σ 1 = .eptr (t.cells 26) ∧ σ 3 = .eptr (vx.cells 26) ∧ σ 14 = .sc (.int .i64 i) ∧ X = Z) (fun K hK => ?_) ?_
  · simp [s1, s14, ec, hlt]
    intros
    exact hK _ _ (by simp [s1, s3, s14, ec])
  clear s1 s3 s14 σ
  rintro σ Z ⟨s1, s3, s14, rfl⟩
  refine vcC_cut (fun σ Z => σ 1 = .eptr (t.cells 26) ∧ σ 3 = .eptr (vx.cells 26) ∧ σ 14 = .sc (.int .i64 i)) (fun K hK => ?_) ?_
  case refine_2 =>
    clear s1 s3 s14 σ
    rintro σ Z ⟨s1, s3, s14⟩
    simp [s14]
    exact ⟨by unfold i64ok; omega, t.ar.length - (i + 1), by omega, i + 1, rfl, by omega, s1, s3, by omega⟩
  refine vcC_blk (fun σ Z => σ 1 = .eptr (t.cells 26) ∧ σ 3 = .eptr (vx.cells 26) ∧ σ 14 = .sc (.int .i64 i)) (fun Kd Xd hKd hX1 hXd => ?_) hK
  clear hK
  have q0 := fun x l => ap0 (X := X) rfl x l
  have z0 := fun x y l => as0 (X := X) rfl x y l
  have hio : i64ok ((i : Int) + 1) := by unfold i64ok; omega
  refine vcC_cut (fun σ Z => σ 1 = .eptr (t.cells 26) ∧ σ 3 = .eptr (vx.cells 26) ∧ σ 14 = .sc (.int .i64 i) ∧ σ 15 = .ptr X.length 0 ∧ σ 16 = .sc (.bool true) ∧ X ++ [Blk.cells (pairB [vx] [t.ar[i]]).c] = Z) (fun K hK => ?_) ?_
  · simp
    refine ⟨fun i r st' => if i = 10 then st' = X ++ [Blk.cells zero8] else True, ?_⟩
    simp (decide := true) [s1, s3, s14, hio, callV]
    refine ⟨by simp (decide := true) [s1, s3, s14, hio, callV], ?_⟩; simp (decide := true) [s1, s3, s14, hio, callV]
    refine ⟨by simp (decide := true) [s1, s3, s14, hio, callV], ?_⟩; simp (decide := true) [s1, s3, s14, hio, callV]
    refine vcCall_at (rInt_c _) ?_; simp (decide := true) [s1, s3, s14, hio, callV]
    refine ⟨by simp (decide := true) [s1, s3, s14, hio, callV] <;> (refine vcCall_at (rInt_c _) ?_; simp [s1, s3, s14, hio, callV]), ?_⟩; simp (decide := true) [s1, s3, s14, hio, callV]
    refine ⟨by simp (decide := true) [s1, s3, s14, hio, callV], ?_⟩; simp (decide := true) [s1, s3, s14, hio, callV]
    refine ⟨by simp (decide := true) [s1, s3, s14, hio, callV], ?_⟩; simp (decide := true) [s1, s3, s14, hio, callV]
    refine ⟨by simp (decide := true) [s1, s3, s14, hio, callV], ?_⟩; simp (decide := true) [s1, s3, s14, hio, callV]
    refine vcCall_at (u5c hc h1 hlt) ?_; simp (decide := true) [s1, s3, s14, hio, callV]
    refine ⟨by simp (decide := true) [s1, s3, s14, hio, callV] <;> (refine vcCall_at (u5c hc h1 hlt) ?_; simp [s1, s3, s14, hio, callV]), ?_⟩; simp (decide := true) [s1, s3, s14, hio, callV]
    refine ⟨by simp (decide := true) [s1, s3, s14, hio, callV], ?_⟩; simp (decide := true) [s1, s3, s14, hio, callV]
    refine ⟨by simp (decide := true) [s1, s3, s14, hio, callV], ?_⟩; simp (decide := true) [s1, s3, s14, hio, callV]
    refine ⟨by simp (decide := true) [s1, s3, s14, hio, callV], ?_⟩; simp (decide := true) [s1, s3, s14, hio, callV]
    refine vcThenQ_of (fun r st' => r = .ptr X.length 0 ∧ st' = X ++ [Blk.cells zero8]) rfl (by simp) rfl (by simp [vcI, zero8]) (by rintro r st' ⟨rfl, rfl⟩; simp (decide := true)) ?_
    rintro r st' ⟨rfl, rfl⟩ _
    simp (decide := true) [s1, s3, s14, hio, callV]
    refine vcThenQ_of (fun r st' => r = .any ∧ st' = X ++ [Blk.cells (pairB [vx] [t.ar[i]]).c]) rfl (by simp) rfl (by simp [vcI, zero8, q0, z0]) (by rintro r st' ⟨rfl, rfl⟩; simp (decide := true)) ?_
    rintro r st' ⟨rfl, rfl⟩ _
    simp (decide := true) [s1, s3, s14, hio, callV]
    refine ⟨by simp (decide := true) [s1, s3, s14, hio, callV], ?_⟩; simp (decide := true) [s1, s3, s14, hio, callV]
    exact hK _ _ (by simp [s1, s3, s14])
  clear s1 s3 s14 σ
  rintro σ Z ⟨s1, s3, s14, s15, s16, rfl⟩
  have hmem : t.ar[i] ∈ t.ar := List.getElem_mem hlt
  have hci : (t.ar[i]).check = 0 := by
    have hh := hc
    generalize t.ar[i] = x at hmem
    obtain ⟨k, n, s, l⟩ := t
    exact check_arg _ _ _ _ hh _ hmem
  refine vcC_cut (fun σ Z => σ 1 = .eptr (t.cells 26) ∧ σ 3 = .eptr (vx.cells 26) ∧ σ 14 = .sc (.int .i64 i) ∧ σ 16 = .sc (.bool true) ∧ σ 17 = .eptr ((t.ar[i]).cells 26) ∧ σ 18 = .sc (.bool true)) (fun K hK => ?_) ?_
  · simp [s3, s15, q0]
    refine vcCall_at (sv1 hci (ar_occ h1 hx hmem)) ?_
    simp
    exact hK _ _ (by simp [s1, s3, s14, s16])
  clear s1 s3 s14 s15 s16 σ
  rintro σ Z ⟨s1, s3, s14, s16, s17, s18⟩
  simp [s1, s14, s16, s17, s18, ec, hlt]
  refine vcCall_at (exact_c t.ar[i] t.ar[i]) ?_
  simp
  exact hKd _ _ (by simp [s1, s3, s14, ec])
end Go.T1
end
