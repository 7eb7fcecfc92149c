/-
  Parts of a proof: an abstract interpreter of the model's code, and what the functions come to.
-/
import Derived.Test.YtmamikjllokmiaaGreatDoorAi07
import Derived.DataReads
import GoSem.ClaimChange
import Derived.Carry
import Derived.ChangeSame
set_option linter.unusedVariables false
set_option linter.unusedSimpArgs false
set_option linter.unnecessarySimpa false
/-
  Sorted lists of entries, and what a merge of them has. No program in sight.
-/
namespace Go.Ai
set_option linter.unusedSimpArgs false
set_option linter.unusedVariables false

/-- x may stand ahead of y -/
def LeE (asc : Bool) (x y : Ent) : Prop := aheadEnt asc y x = false

theorem leE_iff (asc : Bool) (x y : Ent) : LeE asc x y ↔ ¬ dirKey asc (keyEnt y) (keyEnt x) < 0 := by
  unfold LeE
  rw [← ahead_key]
  simp

theorem leE_trans {asc : Bool} {x y z : Ent} (h1 : LeE asc x y) (h2 : LeE asc y z) : LeE asc x z := by
  rw [leE_iff] at *
  exact (dirKey_lin asc).le_trans h1 h2

theorem ahead_trans {asc : Bool} {x y z : Ent} (h1 : LeE asc x y) (h2 : aheadEnt asc y z = true) : aheadEnt asc x z = true := by
  cases h : aheadEnt asc x z with
  | true => rfl
  | false =>
    have := leE_trans (show LeE asc z x from h) h1
    unfold LeE at this
    rw [this] at h2
    cases h2

theorem leE_flip (x y : Ent) : LeE false x y ↔ LeE true y x := by
  rw [leE_iff, leE_iff]
  simp [dirKey]

theorem leE_key {asc : Bool} {x y x' y' : Ent} (hx : keyEnt x = keyEnt x') (hy : keyEnt y = keyEnt y') : LeE asc x y ↔ LeE asc x' y' := by
  rw [leE_iff, leE_iff, hx, hy]

theorem ahead_key_eq {asc : Bool} {x y x' y' : Ent} (hx : keyEnt x = keyEnt x') (hy : keyEnt y = keyEnt y') : aheadEnt asc x y = aheadEnt asc x' y' := by
  have h1 := ahead_key asc x y
  have h2 := ahead_key asc x' y'
  rw [hx, hy] at h1
  rw [← h2] at h1
  exact Bool.eq_iff_iff.2 h1

/-! ### insertion sort -/
theorem cmp_le {x y : Ent} : cmpEnt x y < 0 ↔ aheadEnt true x y = true := by
  rw [ahead_key, cmpEnt_key]
  simp [dirKey]

theorem insGo_sorted : ∀ (A : List Ent) (x : Ent) (B : List Ent), (A.reverse ++ B).Pairwise (LeE true) → (∀ y ∈ B, LeE true x y) → (insGo A x B).Pairwise (LeE true)
  | [], x, B, h, hB => by
    simp only [insGo, List.pairwise_cons]
    exact ⟨hB, h⟩
  | y :: A, x, B, h, hB => by
    unfold insGo
    split
    · rename_i hlt
      refine insGo_sorted A x (y :: B) (by simpa using h) (fun z hz => ?_)
      rcases List.mem_cons.1 hz with rfl | hz
      · have h1 := cmp_le.1 hlt
        unfold LeE
        cases h2 : aheadEnt true z x with
        | false => rfl
        | true =>
          rw [ahead_key] at h1 h2
          exact absurd h2 ((dirKey_lin true).asymm h1)
      · exact hB z hz
    · rename_i hlt
      have hyx : LeE true y x := by
        unfold LeE
        cases h2 : aheadEnt true x y with
        | false => rfl
        | true => exact absurd (cmp_le.2 h2) hlt
      rw [List.reverse_cons, List.append_assoc, List.singleton_append, List.pairwise_append] at h
      obtain ⟨h1, h2, h3⟩ := h
      rw [List.pairwise_cons] at h2
      rw [List.reverse_cons, List.append_assoc, List.singleton_append, List.pairwise_append]
      refine ⟨h1, ?_, ?_⟩
      · rw [List.pairwise_cons, List.pairwise_cons]
        refine ⟨fun z hz => ?_, hB, h2.2⟩
        rcases List.mem_cons.1 hz with rfl | hz
        · exact hyx
        · exact h2.1 z hz
      · intro a ha b hb
        rcases List.mem_cons.1 hb with rfl | hb
        · exact h3 a ha _ List.mem_cons_self
        · rcases List.mem_cons.1 hb with rfl | hb
          · exact leE_trans (h3 a ha y List.mem_cons_self) hyx
          · exact h3 a ha b (List.mem_cons_of_mem _ hb)

theorem isort_sorted (l : List Ent) : (isort l).Pairwise (LeE true) := by
  have : ∀ (l acc : List Ent), acc.Pairwise (LeE true) → (l.foldl (fun acc x => insGo acc.reverse x []) acc).Pairwise (LeE true) := by
    intro l
    induction l with
    | nil => exact fun acc h => h
    | cons x l ih =>
      intro acc h
      rw [List.foldl_cons]
      exact ih _ (insGo_sorted _ _ _ (by simpa using h) (fun y hy => by cases hy))
  exact this l [] List.Pairwise.nil

theorem storeL_sorted (l : List Ent) : (storeL l).Pairwise (LeE true) := isort_sorted _

theorem cloneE_key (e : Ent) : keyEnt (cloneE e) = keyEnt e := by simp [keyEnt, cloneE]

theorem rangeM_sorted (a : Ask) {l : List Ent} (h : l.Pairwise (LeE true)) : (rangeM a l).Pairwise (LeE a.asc) := by
  have h1 : ((l.filter (wanted a)).map cloneE).Pairwise (LeE true) := by
    rw [List.pairwise_map]
    refine (h.sublist List.filter_sublist).imp (fun {x y} hxy => ?_)
    exact (leE_key (cloneE_key x) (cloneE_key y)).2 hxy
  unfold rangeM
  cases hasc : a.asc with
  | true => simpa using h1
  | false =>
    simp only [Bool.false_eq_true, if_false]
    rw [List.pairwise_reverse]
    exact h1.imp (fun {x y} hxy => (leE_flip y x).2 hxy)

theorem adj_of {asc : Bool} {l : List Ent} (h : l.Pairwise (LeE asc)) : Adj asc l := by
  intro i hi
  exact List.pairwise_iff_getElem.1 h i (i + 1) (by omega) hi (by omega)

theorem rangeS_adj (a : Ask) (r : Rep) (u : Slc Ent) (h : u.l.Pairwise (LeE true)) : Adj a.asc (rangeS a r u).l := by
  rw [rangeS_l]
  exact adj_of ((rangeM_sorted a h).sublist (List.take_sublist _ _))

/-! ### the first of some -/
theorem pushE_perm (asc : Bool) (l : List Ie) (e : Ent) : ∃ k, (pushE asc l e).Perm (⟨e, k⟩ :: l) :=
  ⟨l.length, (upF_perm _ _ _ _).trans (List.perm_append_singleton _ l)⟩

theorem heapE_inv (asc : Bool) : ∀ (els : List Ent) (l : List Ie), IsHeap (ahIe asc) l → IsHeap (ahIe asc) (els.foldl (pushE asc) l) ∧ (∀ y, (∃ x ∈ els.foldl (pushE asc) l, x.e = y) ↔ (y ∈ els ∨ ∃ x ∈ l, x.e = y))
  | [], l, H => ⟨H, fun y => by simp⟩
  | e :: els, l, H => by
    obtain ⟨h1, h2⟩ := heapE_inv asc els (pushE asc l e) (push_heap (ahIe_pre asc) H _)
    refine ⟨h1, fun y => ?_⟩
    rw [List.foldl_cons, h2 y]
    obtain ⟨k, hp⟩ := pushE_perm asc l e
    simp only [hp.mem_iff, List.mem_cons]
    constructor
    · rintro (h | ⟨x, rfl | hx, rfl⟩)
      · exact .inl (.inr h)
      · exact .inl (.inl rfl)
      · exact .inr ⟨x, hx, rfl⟩
    · rintro ((rfl | h) | ⟨x, hx, rfl⟩)
      · exact .inr ⟨⟨y, k⟩, .inl rfl, rfl⟩
      · exact .inl h
      · exact .inr ⟨x, .inr hx, rfl⟩

theorem firstE_none {asc : Bool} {els : List Ent} (h : firstE asc els = none) : els = [] := by
  unfold firstE at h
  rw [Option.map_eq_none_iff] at h
  have hl : els.foldl (pushE asc) [] = [] := by
    cases hh : els.foldl (pushE asc) [] with
    | nil => rfl
    | cons x l => rw [hh] at h; cases h
  obtain ⟨_, h2⟩ := heapE_inv asc els [] (fun i _ hi => by simp at hi)
  rw [hl] at h2
  cases els with
  | nil => rfl
  | cons e els => exact absurd ((h2 e).2 (.inl List.mem_cons_self)) (by simp)

theorem firstE_some {asc : Bool} {els : List Ent} {e : Ent} (h : firstE asc els = some e) : e ∈ els ∧ ∀ y ∈ els, LeE asc e y := by
  unfold firstE at h
  obtain ⟨x, hx, rfl⟩ := Option.map_eq_some_iff.1 h
  obtain ⟨h1, h2⟩ := heapE_inv asc els [] (fun i _ hi => by simp at hi)
  have hmem : x ∈ els.foldl (pushE asc) [] := List.mem_of_getElem? hx
  have he : x.e ∈ els := by
    rcases (h2 x.e).1 ⟨x, hmem, rfl⟩ with h | ⟨z, hz, _⟩
    · exact h
    · cases hz
  refine ⟨he, fun y hy => ?_⟩
  obtain ⟨z, hz, rfl⟩ := (h2 y).2 (.inl hy)
  obtain ⟨i, hi, rfl⟩ := List.mem_iff_getElem.1 hz
  have hr := heap_root (ahIe_pre asc) h1 i hi
  unfold ahAt at hr
  rw [List.getElem?_eq_getElem hi, hx] at hr
  dsimp only at hr
  unfold ahIe at hr
  simp at hr
  exact hr.1

/-! ### all the entries -/
def entsL (l : List It) : List Ent := l.flatMap fun x => x.e :: x.t
def entsC : Option It → List Ent
  | none => []
  | some x => x.e :: x.t

theorem entsL_perm {l l' : List It} (h : l.Perm l') (y : Ent) : y ∈ entsL l ↔ y ∈ entsL l' := by
  unfold entsL
  simp only [List.mem_flatMap, h.mem_iff]

theorem addU_mem (out : List Ent) (e : Ent) : (∀ y ∈ out, y ∈ addU out e) ∧ (∃ y ∈ addU out e, keyEnt y = keyEnt e) ∧ ∀ y ∈ addU out e, y ∈ out ∨ y = e := by
  unfold addU
  cases h : out.getLast? with
  | none => exact ⟨fun y hy => List.mem_append_left _ hy, ⟨e, by simp, rfl⟩, fun y hy => by simpa using hy⟩
  | some z =>
    dsimp only
    by_cases q : sameEnt z e = true
    · rw [if_pos q]
      exact ⟨fun y hy => hy, ⟨z, List.mem_of_getLast? h, (same_key _ _).1 q⟩, fun y hy => .inl hy⟩
    · rw [if_neg q]
      exact ⟨fun y hy => List.mem_append_left _ hy, ⟨e, by simp, rfl⟩, fun y hy => by simpa using hy⟩

theorem pushT_mem (asc : Bool) (l : List It) (came : Int) (x : It) (y : Ent) : y ∈ entsL (pushT asc l came x).1 ↔ y ∈ x.t ∨ y ∈ entsL l := by
  unfold pushT
  cases x.t with
  | nil => simp
  | cons e t =>
    dsimp only
    rw [entsL_perm (pushL_perm asc l _)]
    simp [entsL, or_assoc]

/-- nothing is lost -/
theorem mergeL_mem (asc : Bool) (most : Int) : ∀ (n : Nat) (out : List Ent) (l : List It) (came : Int) (cur : Option It), remL l + remC cur ≤ n → ((out.length + remL l + remC cur : Nat) : Int) ≤ most → (cur = none → l = []) →
    ∀ y, (y ∈ out ∨ y ∈ entsL l ∨ y ∈ entsC cur) → ∃ z ∈ mergeL asc most n out (l, came) cur, keyEnt z = keyEnt y
  | 0, out, l, came, cur, hn, hm, hc, y, hy => by
    have ec : cur = none := by
      cases cur with
      | none => rfl
      | some x => simp [remC] at hn
    subst ec
    have := hc rfl
    subst this
    rcases hy with hy | hy | hy
    · exact ⟨y, hy, rfl⟩
    · simp [entsL] at hy
    · simp [entsC] at hy
  | n + 1, out, l, came, none, hn, hm, hc, y, hy => by
    have := hc rfl
    subst this
    rcases hy with hy | hy | hy
    · exact ⟨y, hy, rfl⟩
    · simp [entsL] at hy
    · simp [entsC] at hy
  | n + 1, out, l, came, some x, hn, hm, hc, y, hy => by
    simp only [remC] at hn hm
    have q : (out.length : Int) < most := by omega
    obtain ⟨a1, ⟨w, a2, a3⟩, a4⟩ := addU_mem out x.e
    have hul := addU_len out x.e
    have hrem : remL (pushT asc l came x).1 = remL l + x.t.length := by
      unfold pushT
      cases x.t with
      | nil => rfl
      | cons e t => simp [remL_push]; omega
    have hpm := pushT_mem asc l came x
    unfold mergeL
    rw [if_pos q]
    -- who is where now
    have hy' : (∃ z ∈ addU out x.e, keyEnt z = keyEnt y) ∨ y ∈ entsL (pushT asc l came x).1 := by
      rcases hy with hy | hy | hy
      · exact .inl ⟨y, a1 y hy, rfl⟩
      · exact .inr ((hpm y).2 (.inr hy))
      · rcases List.mem_cons.1 hy with rfl | hy
        · exact .inl ⟨w, a2, a3⟩
        · exact .inr ((hpm y).2 (.inl hy))
    dsimp only
    generalize pushT asc l came x = st at *
    obtain ⟨l1, c1⟩ := st
    cases l1 with
    | nil =>
      dsimp only
      rcases hy' with h | h
      · exact h
      · simp [entsL] at h
    | cons v r =>
      dsimp only at hrem ⊢
      have hrp : remL (popL asc v r) + remC (some v) = remL l + x.t.length := by
        rw [remL_pop, ← hrem]
        simp [remL, remC]
        omega
      have ih := mergeL_mem asc most n (addU out x.e) (popL asc v r) c1 (some v) (by omega) (by omega) (fun e => by cases e)
      rcases hy' with ⟨z, hz, hk⟩ | h
      · obtain ⟨z', h1, h2⟩ := ih z (.inl hz)
        exact ⟨z', h1, h2.trans hk⟩
      · refine ih y (.inr ?_)
        rw [entsL_perm (popL_perm asc v r)]
        simp only [entsL, List.flatMap_cons, List.mem_append] at h
        exact h.symm

theorem gath_mem (asc : Bool) : ∀ (Ls : List (Slc Ent)) (st : List It × Int) (y : Ent), (y ∈ entsL st.1 ∨ ∃ s ∈ Ls, y ∈ s.l) → y ∈ entsL (Ls.foldl (gathS asc) st).1
  | [], st, y, h => by simpa using h
  | s :: Ls, st, y, h => by
    rw [List.foldl_cons]
    refine gath_mem asc Ls _ y ?_
    have hs : y ∈ entsL st.1 ∨ y ∈ s.l → y ∈ entsL (gathS asc st s).1 := fun h => by
      unfold gathS
      split
      · rw [entsL_perm (pushL_perm asc _ _)]
        simpa [entsL, or_assoc, or_comm, or_left_comm] using h
      · rename_i hno
        rcases h with h | h
        · exact h
        · cases s with
          | nil => simp at h
          | mk l c hx =>
            cases l with
            | nil => simp at h
            | cons e t => exact absurd rfl (hno e t c hx)
    rcases h with h | ⟨s', hs', hy⟩
    · exact .inl (hs (.inl h))
    · rcases List.mem_cons.1 hs' with rfl | hs'
      · exact .inl (hs (.inr hy))
      · exact .inr ⟨s', hs', hy⟩

theorem allF_mem (asc : Bool) (Ls : List (Slc Ent)) {s : Slc Ent} (hs : s ∈ Ls) {y : Ent} (hy : y ∈ s.l) : ∃ z ∈ allF asc (totL Ls) Ls, keyEnt z = keyEnt y := by
  have hm := gath_mem asc Ls ([], 0) y (.inr ⟨s, hs, hy⟩)
  obtain ⟨g1, g2, g3⟩ := gath_rem asc Ls ([], 0) rfl
  have g0 : remL ([] : List It) = 0 := rfl
  simp only [g0, Nat.zero_add] at g1
  unfold allF
  generalize Ls.foldl (gathS asc) ([], 0) = st at *
  obtain ⟨l, came⟩ := st
  cases l with
  | nil => simp [entsL] at hm
  | cons v r =>
    dsimp only at g1 hm ⊢
    have hrp : remL (popL asc v r) + remC (some v) = totL Ls := by
      rw [remL_pop, ← g1]
      simp [remL, remC]
      omega
    refine mergeL_mem asc (totL Ls) (totL Ls) [] (popL asc v r) came (some v) (by omega) (by simp; omega) (fun e => by cases e) y (.inr ?_)
    rw [entsL_perm (popL_perm asc v r)]
    simp only [entsL, List.flatMap_cons, List.mem_append] at hm
    exact hm.symm
end Go.Ai
/-
  What the functions come to: the loops of FanEnds.
-/
namespace Go.Ai
set_option linter.unusedSimpArgs false
set_option linter.unusedVariables false

section
variable (bar : Nat) (H : AHeap) (asc : Bool) (SA d1 d2 : Slc Ent) (hm m1 m2 : Bool) (vD : AV) (D : List Ent) (R : RSl H 3 vD (D.map encEnt)) (hD : D.length ≤ LIM)

theorem RSl.addr0 {H : AHeap} {v : AV} {l : List Ent} (R : RSl H 3 v (l.map encEnt)) {i : Nat} (hi : i < l.length) : aiaddr H none 3 v (i : Int) = some (addrOf v i) := by
  have := R.addr [] i
  rw [List.append_nil] at this
  rw [this]
  simp [hi]
theorem RSl.load0 {H : AHeap} {v : AV} {l : List Ent} (R : RSl H 3 v (l.map encEnt)) {i : Nat} (hi : i < l.length) (env vars n) : aload ⟨env, vars, H⟩ n (addrOf v i) = apart n (encEnt l[i]) 0 := by
  have := R.load env vars [] n i (by simpa using hi)
  rw [List.append_nil] at this
  rw [this]
  simp

theorem eqb_self (b : Bool) : aeqK .bool (.bool b) (.bool b) = some true := by cases b <;> rfl

/-- what stands around -/
abbrev env1 (asc : Bool) (SA d1 d2 : Slc Ent) (hm m1 m2 : Bool) (vD : AV) (r : AEnv) : AEnv :=
  (4, .bool asc) :: (11, .bool true) :: (21, SA.av encEnt 3) :: (22, .bool hm) :: (23, .int .i64 0) :: (24, d1.av encEnt 3) :: (25, .bool m1) :: (27, d2.av encEnt 3) :: (28, .bool m2) :: (30, vD) :: r

include R in
theorem loop1j (want : Bool) (i : Nat) (hi : i < D.length) : ∀ (l' : List Ent) (j : Nat) (has : Bool), SA.l.drop j = l' → j ≤ SA.l.length →
    evL (run S0 bar) bar F1_l29 [4, 11, 21, 22, 23, 24, 25, 27, 28, 30, 31, 32, 33, 34] ⟨env1 asc SA d1 d2 hm m1 m2 vD [(31, .int .i64 i), (32, .bool want), (33, .bool has), (34, .int .i64 j)], [], H⟩ =
      some (.exit 2, ⟨env1 asc SA d1 d2 hm m1 m2 vD [(31, .int .i64 i), (32, .bool want), (33, .bool (has || l'.any (fun y => sameEnt y D[i]))), (34, .int .i64 SA.l.length), (169, .bool false)], [], H⟩) := by
  have A1 := R.addr0 hi
  have A2 := R.load0 hi
  have C0 := R.ok i (by simpa using hi)
  generalize D[i] = x at *
  intro l'
  induction l' with
  | nil =>
    intro j has hd hj
    have e := dropn hd hj
    subst e
    rw [evL_rnd]
    simp [R.plain, R.clean]
  | cons y l' ih =>
    intro j has hd hj
    obtain ⟨h3, h1, h2⟩ := dropc hd
    have ih := ih (j + 1) (has || sameEnt y x) h2 h3
    have hw := wrap_succ h3 SA.le
    have e1 : (has || (y :: l').any (fun y => sameEnt y x)) = ((has || sameEnt y x) || l'.any (fun y => sameEnt y x)) := by simp [Bool.or_assoc]
    rw [evL_rnd, e1]
    generalize ((has || sameEnt y x) || l'.any (fun y => sameEnt y x)) = F at *
    cases has with
    | true =>
      simp [R.plain, R.clean, h3, hw]
      exact ih
    | false =>
      simp [R.plain, R.clean, R.ap, R.ac, h3, h1, hw, A1, A2, C0]
      exact ih

/-- behind the last entry of a reply that was cut off -/
def behind (asc : Bool) (m : Bool) (d : Slc Ent) (x : Ent) : Bool := m && (match d.l.getLast? with
  | some z => aheadEnt asc z x
  | none => false)

include R in
theorem part1 (w : Bool) (i : Nat) (hi : i < D.length) :
    ev (run S0 bar) bar (.seq (.region F1_r20 (some [4, 11, 21, 22, 23, 24, 25, 27, 28, 30, 31, 32, 127])) (.cond (.t 127) (.region F1_r21 (some [4, 11, 21, 22, 23, 24, 25, 27, 28, 30, 31, 32])) .skip)) ⟨env1 asc SA d1 d2 hm m1 m2 vD [(31, .int .i64 i), (32, .bool w)], [], H⟩ =
      some (.normal, ⟨if m1 = true ∧ d1.l ≠ [] then env1 asc SA d1 d2 hm m1 m2 vD [(31, .int .i64 i), (32, .bool (w && !behind asc m1 d1 D[i]))] else env1 asc SA d1 d2 hm m1 m2 vD [(31, .int .i64 i), (32, .bool w), (127, .bool false)], [], H⟩) := by
  have hLIM : LIM = 4294967296 := rfl
  have hle := d1.le
  have A1 := R.addr0 hi
  have A2 := R.load0 hi
  have C0 := R.ok i (by simpa using hi)
  generalize D[i] = x at *
  cases m1 with
  | false => simp [R.plain, R.clean]
  | true =>
    by_cases q : d1.l = []
    · simp [R.plain, R.clean, q]
    · obtain ⟨z, hz⟩ : ∃ z, d1.l.getLast? = some z := ⟨d1.l.getLast q, List.getLast?_eq_some_getLast q⟩
      have hpos : 0 < d1.l.length := List.length_pos_iff.2 q
      have hzi : d1.l[d1.l.length - 1]? = some z := by rw [← List.getLast?_eq_getElem?]; exact hz
      have w3 : IntKind.i64.wrap ((d1.l.length : Int) - 1) = ((d1.l.length - 1 : Nat) : Int) := by rw [wrap64 (by omega) (by omega)]; omega
      have eb : behind asc true d1 x = aheadEnt asc z x := by simp [behind, hz]
      rw [eb]
      generalize d1.l.length - 1 = k at *
      cases w with
      | false => simp [R.plain, R.clean, q, hpos]
      | true => simp [R.plain, R.clean, R.ap, R.ac, q, hpos, w3, hzi, A1, A2, C0]

include R in
theorem part2 (w : Bool) (i : Nat) (hi : i < D.length) (tl : AEnv) (htl : tl = [] ∨ tl = [(127, .bool false)]) :
    ev (run S0 bar) bar (.seq (.region F1_r22 (some [4, 11, 21, 22, 23, 24, 25, 27, 28, 30, 31, 32, 149])) (.cond (.t 149) (.region F1_r23 (some [4, 11, 21, 22, 23, 24, 25, 27, 28, 30, 31, 32])) .skip)) ⟨env1 asc SA d1 d2 hm m1 m2 vD ((31, .int .i64 i) :: (32, .bool w) :: tl), [], H⟩ =
      some (.normal, ⟨if m2 = true ∧ d2.l ≠ [] then env1 asc SA d1 d2 hm m1 m2 vD [(31, .int .i64 i), (32, .bool (w && !behind asc m2 d2 D[i]))] else env1 asc SA d1 d2 hm m1 m2 vD [(31, .int .i64 i), (32, .bool w), (149, .bool false)], [], H⟩) := by
  have hLIM : LIM = 4294967296 := rfl
  have hle := d2.le
  have A1 := R.addr0 hi
  have A2 := R.load0 hi
  have C0 := R.ok i (by simpa using hi)
  generalize D[i] = x at *
  cases m2 with
  | false => rcases htl with rfl | rfl <;> simp [R.plain, R.clean]
  | true =>
    by_cases q : d2.l = []
    · rcases htl with rfl | rfl <;> simp [R.plain, R.clean, q]
    · obtain ⟨z, hz⟩ : ∃ z, d2.l.getLast? = some z := ⟨d2.l.getLast q, List.getLast?_eq_some_getLast q⟩
      have hpos : 0 < d2.l.length := List.length_pos_iff.2 q
      have hzi : d2.l[d2.l.length - 1]? = some z := by rw [← List.getLast?_eq_getElem?]; exact hz
      have w3 : IntKind.i64.wrap ((d2.l.length : Int) - 1) = ((d2.l.length - 1 : Nat) : Int) := by rw [wrap64 (by omega) (by omega)]; omega
      have eb : behind asc true d2 x = aheadEnt asc z x := by simp [behind, hz]
      rw [eb]
      generalize d2.l.length - 1 = k at *
      rcases htl with rfl | rfl <;>
      · cases w with
        | false => simp [R.plain, R.clean, q, hpos]
        | true => simp [R.plain, R.clean, R.ap, R.ac, q, hpos, w3, hzi, A1, A2, C0]

theorem behind_not (m : Bool) (d : Slc Ent) (x : Ent) (h : ¬ (m = true ∧ d.l ≠ [])) : behind asc m d x = false := by
  unfold behind
  cases m with
  | false => rfl
  | true =>
    have : d.l = [] := by
      apply Classical.byContradiction
      intro q
      exact h ⟨rfl, q⟩
    simp [this]

include R hD in
/-- each that they have is there just if it may -/
theorem loop1x : ∀ (l' : List Ent) (i : Nat), D.drop i = l' → i ≤ D.length → (∀ x ∈ l', SA.l.any (fun y => sameEnt y x) = (!behind asc m1 d1 x && !behind asc m2 d2 x)) →
    evL (run S0 bar) bar F1_l33 [4, 11, 21, 22, 23, 24, 25, 27, 28, 30, 31] ⟨env1 asc SA d1 d2 hm m1 m2 vD [(31, .int .i64 i)], [], H⟩ =
      some (.exit 0, ⟨env1 asc SA d1 d2 hm m1 m2 vD [(31, .int .i64 D.length), (119, .bool false)], [], H⟩) := by
  intro l'
  induction l' with
  | nil =>
    intro i hd hi hx
    have e := dropn hd hi
    subst e
    have hlen := R.len H
    simp at hlen
    rw [evL_rnd]
    simp [R.plain, R.clean, hlen]
  | cons x l' ih =>
    intro i hd hi hx
    obtain ⟨h3, h1, h2⟩ := dropc hd
    have ih := ih (i + 1) h2 h3 (fun y hy => hx y (List.mem_cons_of_mem _ hy))
    have hw := wrap_succ h3 hD
    have hlen := R.len H
    simp at hlen
    have hx := hx x List.mem_cons_self
    have p1 := part1 bar H asc SA d1 d2 hm m1 m2 vD D R true i h3
    have p2 := fun w tl ht => part2 bar H asc SA d1 d2 hm m1 m2 vD D R w i h3 tl ht
    have pj := fun want => loop1j bar H asc SA d1 d2 hm m1 m2 vD D R want i h3 SA.l 0 false rfl (Nat.zero_le _)
    simp only [h1, Bool.false_or, hx, Bool.true_and] at p1 p2 pj
    have b1 := behind_not asc m1 d1 x
    have b2 := behind_not asc m2 d2 x
    generalize behind asc m1 d1 x = B1 at *
    generalize behind asc m2 d2 x = B2 at *
    have p2a := fun w => p2 w [] (.inl rfl)
    have p2b := fun w => p2 w [(127, .bool false)] (.inr rfl)
    simp only [Int.natCast_zero] at pj
    rw [evL_rnd]
    by_cases q1 : m1 = true ∧ d1.l ≠ []
    · rw [if_pos q1] at p1
      by_cases q2 : m2 = true ∧ d2.l ≠ []
      · simp only [if_pos q2] at p2a
        simp [R.plain, R.clean, h3, hlen, ↓p1, ↓p2a, pj, hw, eqb_self]
        exact ih
      · have b2 := b2 q2
        subst b2
        simp only [if_neg q2] at p2a
        simp only [Bool.not_false, Bool.and_true] at pj
        simp [R.plain, R.clean, h3, hlen, ↓p1, ↓p2a, pj, hw, eqb_self]
        exact ih
    · rw [if_neg q1] at p1
      have b1 := b1 q1
      subst b1
      by_cases q2 : m2 = true ∧ d2.l ≠ []
      · simp only [if_pos q2] at p2b
        simp only [Bool.not_false, Bool.true_and] at pj
        simp [R.plain, R.clean, h3, hlen, ↓p1, ↓p2b, pj, hw, eqb_self]
        exact ih
      · have b2 := b2 q2
        subst b2
        simp only [if_neg q2] at p2b
        simp only [Bool.not_false, Bool.and_true] at pj
        simp [R.plain, R.clean, h3, hlen, ↓p1, ↓p2b, pj, hw, eqb_self]
        exact ih
end
end Go.Ai
/-
  What FanEnds says, of what its functions come to. No program in sight.
-/
namespace Go.Ai
set_option linter.unusedSimpArgs false
set_option linter.unusedVariables false

theorem behind_iff (asc m : Bool) (d : Slc Ent) (x : Ent) : behind asc m d x = true ↔ ∃ z ∈ (if m = true then d.l.getLast?.toList else []), aheadEnt asc z x = true := by
  unfold behind
  cases m with
  | false => simp
  | true =>
    cases h : d.l.getLast? with
    | none => simp
    | some z => simp

theorem fan_law (asc : Bool) (d1 d2 : Slc Ent) (m1 m2 : Bool) (h1 : m1 = true → d1.l ≠ []) (h2 : m2 = true → d2.l ≠ []) (st : List (Slc Ent) × List Ent)
    (hst : st = ([d1, d2], (if m1 = true then d1.l.getLast?.toList else []) ++ (if m2 = true then d2.l.getLast?.toList else []))) :
    (fetchF asc st).2 = (m1 || m2) ∧ (fetchF asc st).1.length ≤ d1.l.length + d2.l.length ∧
      ∀ x, (x ∈ d1.l ∨ x ∈ d2.l) → (fetchF asc st).1.any (fun y => sameEnt y x) = (!behind asc m1 d1 x && !behind asc m2 d2 x) := by
  have hlen := fetchF_len asc st
  have htot : totL st.1 = d1.l.length + d2.l.length := by rw [hst]; simp [totL]
  have hall : ∀ x, (x ∈ d1.l ∨ x ∈ d2.l) → ∃ z ∈ allF asc (totL st.1) st.1, keyEnt z = keyEnt x := fun x hx => by
    rcases hx with hx | hx
    · exact allF_mem asc st.1 (s := d1) (by rw [hst]; simp) hx
    · exact allF_mem asc st.1 (s := d2) (by rw [hst]; simp) hx
  have hbeh : ∀ x, (!behind asc m1 d1 x && !behind asc m2 d2 x) = true ↔ ∀ z ∈ st.2, aheadEnt asc z x = false := fun x => by
    have e1 := behind_iff asc m1 d1 x
    have e2 := behind_iff asc m2 d2 x
    rw [hst]
    simp only [List.mem_append, Bool.and_eq_true, Bool.not_eq_true']
    constructor
    · rintro ⟨k1, k2⟩ z hz
      cases hc : aheadEnt asc z x with
      | false => rfl
      | true =>
        rcases hz with hz | hz
        · rw [e1.2 ⟨z, hz, hc⟩] at k1; cases k1
        · rw [e2.2 ⟨z, hz, hc⟩] at k2; cases k2
    · intro k
      constructor
      · cases hc : behind asc m1 d1 x with
        | false => rfl
        | true =>
          obtain ⟨z, hz, hh⟩ := e1.1 hc
          rw [k z (.inl hz)] at hh; cases hh
      · cases hc : behind asc m2 d2 x with
        | false => rfl
        | true =>
          obtain ⟨z, hz, hh⟩ := e2.1 hc
          rw [k z (.inr hz)] at hh; cases hh
  refine ⟨?_, by omega, fun x hx => ?_⟩
  · unfold fetchF
    cases hf : firstE asc st.2 with
    | none =>
      have := firstE_none hf
      rw [hst] at this
      simp only [List.append_eq_nil_iff] at this
      obtain ⟨k1, k2⟩ := this
      cases m1 with
      | true =>
        have := h1 rfl
        simp at k1
        exact absurd k1 this
      | false =>
        cases m2 with
        | true =>
          have := h2 rfl
          simp at k2
          exact absurd k2 this
        | false => rfl
    | some e =>
      have hm := (firstE_some hf).1
      rw [hst] at hm
      cases m1 with
      | true => rfl
      | false =>
        cases m2 with
        | true => rfl
        | false => simp at hm
  · rw [Bool.eq_iff_iff, hbeh x]
    unfold fetchF
    cases hf : firstE asc st.2 with
    | none =>
      have he := firstE_none hf
      dsimp only
      rw [he]
      simp only [List.any_eq_true, same_key]
      constructor
      · intro _ z hz; cases hz
      · intro _; exact hall x hx
    | some e =>
      obtain ⟨hm, hmin⟩ := firstE_some hf
      dsimp only
      simp only [List.any_eq_true, same_key, List.mem_filter]
      constructor
      · rintro ⟨y, ⟨hy, hu⟩, hk⟩ z hz
        cases hc : aheadEnt asc z x with
        | false => rfl
        | true =>
          have := ahead_trans (hmin z hz) hc
          rw [← ahead_key_eq (asc := asc) (rfl : keyEnt e = keyEnt e) hk] at this
          simp [uptoP, this] at hu
      · intro k
        obtain ⟨z, hz, hk⟩ := hall x hx
        refine ⟨z, ⟨hz, ?_⟩, hk⟩
        have := k e hm
        rw [← ahead_key_eq (asc := asc) (rfl : keyEnt e = keyEnt e) hk] at this
        simp [uptoP, this]
end Go.Ai
/-
  The abstract interpreter: a call from without, and what it leaves of the world.
-/
namespace Go.Ai
open Go.RowKit
set_option linter.unusedVariables false

def noX : Nat → Prop := fun _ => False
def noρ : Map := fun _ => none

/-- what is related at no heap and nothing set apart: trees -/
abbrev Tree (fm : Nat → Nat) (w : World) : AV → Value → Prop := VR fm noρ noX [] w
abbrev Trees (fm : Nat → Nat) (w : World) : List AV → List Value → Prop := VRs fm noρ noX [] w

theorem Out.none {w : World} {B : Nat} (h : B < w.heap.size) : Out noρ noX w B := ⟨fun b e => (by cases e), fun hx => hx, h⟩

/-- a call from without: the world below is as it was -/
theorem call_below {P : Program} {fm : Nat → Nat} {fmi : Nat → Option Nat} {S : SProg} (K : ProgOK P fm fmi S) {f : Nat} {as : List AV} {v : AV} {h' : AHeap} (hv : run S 0 f as [] = some (v, h'))
    {W : World} {cs : List Value} (H : Trees fm W as cs) :
    Calls P (fm f) cs.toArray W fun e W' => ∃ c ρ', e = .returned c ∧ VR fm ρ' noX h' W' v c ∧ Below W.heap.size W W' := by
  obtain ⟨n, hn⟩ := run_inv hv
  refine ((arun_ok K n 0).run f as [] v h' hn noρ noX W cs (Inv.empty fm noX W) (fun B hB => hB.elim) (Nat.le_refl _) H).mono ?_
  rintro e W' ⟨c, ρ', rfl, V, I, L, _, _⟩
  exact ⟨c, ρ', rfl, V, ⟨L.os, L.tape, L.output, L.size, fun B hB => (L.imm B (Out.none hB)).1⟩⟩

/-- an answer of one bool -/
theorem call_bool {P : Program} {fm : Nat → Nat} {fmi : Nat → Option Nat} {S : SProg} (K : ProgOK P fm fmi S) {f : Nat} {as : List AV} {b : Bool} {h' : AHeap} (hv : run S 0 f as [] = some (.bool b, h'))
    {W : World} {cs : List Value} (H : Trees fm W as cs) :
    Calls P (fm f) cs.toArray W fun e W' => e = .returned (.bool b) ∧ Below W.heap.size W W' := by
  refine (call_below K hv H).mono ?_
  rintro e W' ⟨c, ρ', rfl, V, B⟩
  cases V
  exact ⟨rfl, B⟩

end Go.Ai
/-
  The abstract interpreter: what a reading of the arguments says, as trees.
-/
namespace Go.Ai
open Go.RowKit
set_option linter.unusedVariables false

/-- how much a reading holds -/
structure Bulk (H : Type) where
  one : DataW H → Nat
  all : List (DataW H) → Nat
  str : ∀ b, one (.lit (.string b)) = b.length + 1
  slice : ∀ e s, one (.slice e s) = all e + all s + 1
  agg : ∀ l, one (.agg l) = all l + 1
  nil : all [] = 0
  cons : ∀ d r, all (d :: r) = one d + all r
  pos : ∀ d, 1 ≤ one d

section
variable {H : Type} {enc : TypeId × Value → H} {P : Program} {fm : Nat → Nat} {bk : Bulk H}

abbrev rd (enc : TypeId × Value → H) (P : Program) (w : World) (fuel : Nat) (t : Nat) (cs : List Value) : Option (DataW H × List MemPlace) := DataW.trod enc P w 0 (fun _ => true) true fuel t cs

/-- readings at type t are trees of n cells: of a value x that is good -/
structure Rd (enc : TypeId × Value → H) (P : Program) (fm : Nat → Nat) (bk : Bulk H) (t n : Nat) {α : Type} (E : α → List AV) (ok : α → Prop) (sz : α → Nat) : Prop where
  cells : P.cellsOf t = n
  one : ∀ x, (E x).all AV.one = true
  read : ∀ fuel w cs d ps, rd enc P w fuel t cs = some (d, ps) → ∃ x, Trees fm w (E x) cs ∧ (E x).length = n ∧ ok x ∧ sz x ≤ bk.one d

theorem trees_one {w : World} {a : AV} {v : Value} (h : Tree fm w a v) : Trees fm w [a] [v] := by
  refine ⟨rfl, fun j x y hx hy => ?_⟩
  cases j with
  | zero =>
    simp only [List.getElem?_cons_zero, Option.some.injEq] at hx hy
    subst hx hy
    exact h
  | succ j => simp at hx

theorem inv_bool {w : World} {fuel t : Nat} {cs : List Value} {d : DataW H} {ps : List MemPlace} (hu : P.underlying t = some .bool) (h : rd enc P w fuel t cs = some (d, ps)) : ∃ b, cs = [.bool b] ∧ d = .lit (.bool b) := by
  cases fuel with
  | zero => simp [rd, DataW.trod] at h
  | succ fuel =>
    unfold rd DataW.trod at h
    rw [hu] at h
    split at h <;> simp_all

theorem inv_int {w : World} {fuel t : Nat} {k : IntKind} {cs : List Value} {d : DataW H} {ps : List MemPlace} (hu : P.underlying t = some (.int k)) (h : rd enc P w fuel t cs = some (d, ps)) :
    ∃ n, cs = [.int k n] ∧ (Lit.int k n).wf = true ∧ d = .lit (.int k n) := by
  cases fuel with
  | zero => simp [rd, DataW.trod] at h
  | succ fuel =>
    unfold rd DataW.trod at h
    rw [hu] at h
    split at h <;> simp_all

theorem inv_str {w : World} {fuel t : Nat} {cs : List Value} {d : DataW H} {ps : List MemPlace} (hu : P.underlying t = some .string) (h : rd enc P w fuel t cs = some (d, ps)) :
    ∃ s : ByteArray, cs = [.string s] ∧ s.size ≤ maxLen ∧ d = .lit (.string s.data.toList) := by
  cases fuel with
  | zero => simp [rd, DataW.trod] at h
  | succ fuel =>
    unfold rd DataW.trod at h
    rw [hu] at h
    split at h <;> simp_all

theorem rd_bool {t : Nat} (hu : P.underlying t = some .bool) (hc : P.cellsOf t = 1) : Rd enc P fm bk t 1 (fun b : Bool => [.bool b]) (fun _ => True) (fun _ => 0) where
  cells := hc
  one _ := rfl
  read fuel w cs d ps h := by
    obtain ⟨b, rfl, rfl⟩ := inv_bool hu h
    exact ⟨b, trees_one (.bool b), rfl, trivial, Nat.zero_le _⟩

theorem rd_int {t : Nat} {k : IntKind} (hu : P.underlying t = some (.int k)) (hc : P.cellsOf t = 1) : Rd enc P fm bk t 1 (fun n : Int => [.int k n]) (fun n => (Lit.int k n).wf = true) (fun _ => 0) where
  cells := hc
  one _ := rfl
  read fuel w cs d ps h := by
    obtain ⟨n, rfl, hw, rfl⟩ := inv_int hu h
    exact ⟨n, trees_one (.int _ _), rfl, hw, Nat.zero_le _⟩

theorem rd_str {t : Nat} (hu : P.underlying t = some .string) (hc : P.cellsOf t = 1) : Rd enc P fm bk t 1 (fun s : List UInt8 => [.str s]) (fun s => True) (fun s => s.length) where
  cells := hc
  one _ := rfl
  read fuel w cs d ps h := by
    obtain ⟨s, rfl, hw, rfl⟩ := inv_str hu h
    refine ⟨s.data.toList, ?_, rfl, trivial, by rw [bk.str]; omega⟩
    have e : (⟨s.data.toList.toArray⟩ : ByteArray) = s := by cases s; simp
    have := VR.str (fm := fm) (ρ := noρ) (X := noX) (h := []) (w := w) s.data.toList
    rw [e] at this
    exact trees_one this

/-- the same tree, of another value -/
theorem Rd.map {t n : Nat} {α β : Type} {E : α → List AV} {ok : α → Prop} {sz : α → Nat} (R : Rd enc P fm bk t n E ok sz) (g : α → β) {E' : β → List AV} {ok' : β → Prop} {sz' : β → Nat}
    (h1 : ∀ y, (E' y).all AV.one = true) (h2 : ∀ x, E' (g x) = E x) (h3 : ∀ x, ok x → ok' (g x)) (h4 : ∀ x, sz' (g x) ≤ sz x) : Rd enc P fm bk t n E' ok' sz' where
  cells := R.cells
  one := h1
  read fuel w cs d ps h := by
    obtain ⟨x, a, b, c, e⟩ := R.read fuel w cs d ps h
    exact ⟨g x, by rw [h2]; exact a, by rw [h2]; exact b, h3 x c, Nat.le_trans (h4 x) e⟩

/-- the fields of a struct, from a place on -/
structure RdFs (enc : TypeId × Value → H) (P : Program) (fm : Nat → Nat) (bk : Bulk H) (fs : List Field) (off n : Nat) {α : Type} (E : α → List AV) (ok : α → Prop) (sz : α → Nat) : Prop where
  one : ∀ x, (E x).all AV.one = true
  read : ∀ fuel w (cs : List Value) xs, cs.length = off + n → (fs.mapM fun f => rd enc P w fuel f.type ((cs.drop f.offset).take (P.cellsOf f.type))) = some xs →
    ∃ x, Trees fm w (E x) (cs.drop off) ∧ (E x).length = n ∧ ok x ∧ sz x ≤ bk.all (xs.map (·.1))

theorem rdfs_nil {off : Nat} : RdFs enc P fm bk [] off 0 (fun _ : Unit => []) (fun _ => True) (fun _ => 0) where
  one _ := rfl
  read fuel w cs xs hl h := by
    have e : cs.drop off = [] := by simp; omega
    exact ⟨(), ⟨by rw [e]; rfl, by simp⟩, rfl, trivial, Nat.zero_le _⟩

theorem rdfs_cons {f : Field} {fs : List Field} {off n m : Nat} {α β : Type} {E : α → List AV} {ok : α → Prop} {sz : α → Nat} {F : β → List AV} {ok' : β → Prop} {sz' : β → Nat}
    (R : Rd enc P fm bk f.type n E ok sz) (hf : f.offset = off) (Q : RdFs enc P fm bk fs (off + n) m F ok' sz') :
    RdFs enc P fm bk (f :: fs) off (n + m) (fun x : α × β => E x.1 ++ F x.2) (fun x => ok x.1 ∧ ok' x.2) (fun x => sz x.1 + sz' x.2) where
  one x := by simp only [List.all_append, R.one, Q.one, Bool.and_self]
  read fuel w cs xs hl h := by
    simp only [List.mapM_cons, Option.bind_eq_bind, Option.bind_eq_some_iff, Option.pure_def, Option.some.injEq] at h
    obtain ⟨⟨d, ps⟩, h1, ys, h2, rfl⟩ := h
    rw [hf, R.cells] at h1
    obtain ⟨x, a1, a2, a3, a4⟩ := R.read fuel w _ d ps h1
    obtain ⟨y, b1, b2, b3, b4⟩ := Q.read fuel w cs ys (by omega) h2
    refine ⟨(x, y), ?_, by simp [a2, b2], ⟨a3, b3⟩, ?_⟩
    · have e : cs.drop off = (cs.drop off).take n ++ cs.drop (off + n) := by
        rw [← List.drop_drop, List.take_append_drop]
      rw [e]
      exact VRs.append a1 b1
    · simp only [List.map_cons, bk.cons]
      omega

theorem rd_struct {t n : Nat} {fs : Array Field} (hu : P.underlying t = some (.struct fs)) (hc : P.cellsOf t = n) {α : Type} {E : α → List AV} {ok : α → Prop} {sz : α → Nat} (Q : RdFs enc P fm bk fs.toList 0 n E ok sz) :
    Rd enc P fm bk t n E ok sz where
  cells := hc
  one := Q.one
  read fuel w cs d ps h := by
    cases fuel with
    | zero => simp [rd, DataW.trod] at h
    | succ fuel =>
      unfold rd DataW.trod at h
      rw [hu] at h
      simp only [hc] at h
      have h' : cs.length = n ∧ ∃ xs, (fs.toList.mapM fun f => DataW.trod enc P w 0 (fun _ => true) true fuel f.type ((cs.drop f.offset).take (P.cellsOf f.type))) = some xs ∧ d = .agg (xs.map (·.1)) := by
        split at h <;> simp_all
        all_goals
          obtain ⟨xs, h1, h2, h3⟩ := h
          exact ⟨xs, h1, h2.symm⟩
      obtain ⟨hl, xs, hx, rfl⟩ := h'
      obtain ⟨x, a1, a2, a3, a4⟩ := Q.read fuel w cs xs (by omega) hx
      exact ⟨x, by simpa using a1, a2, a3, by rw [bk.agg]; omega⟩

theorem inv_slice {w : World} {fuel t e : Nat} {cs : List Value} {d : DataW H} {ps : List MemPlace} (hu : P.underlying t = some (.slice e)) (h : rd enc P w fuel t cs = some (d, ps)) :
    (cs = [.slice none 0 0] ∧ d = .nil) ∨ ∃ f a len cap elems rest, cs = [.slice (some a) len cap] ∧ len ≤ cap ∧
      ((List.range len).mapM fun i => (w.cells? 0 (a.add (i * P.cellsOf e)) (P.cellsOf e)).bind (rd enc P w f e)) = some elems ∧
      ((List.range (cap - len)).mapM fun j => (w.cells? 0 (a.add ((len + j) * P.cellsOf e)) (P.cellsOf e)).bind (rd enc P w f e)) = some rest ∧ d = .slice (elems.map (·.1)) (rest.map (·.1)) := by
  cases fuel with
  | zero => simp [rd, DataW.trod] at h
  | succ fuel =>
    unfold rd DataW.trod at h
    rw [hu] at h
    split at h <;> simp_all
    obtain ⟨⟨hle, _⟩, h⟩ := h
    obtain ⟨el, h3, hm⟩ := bind_some h
    obtain ⟨re, h4, h5⟩ := map_some hm
    simp only [Prod.mk.injEq] at h5
    exact ⟨fuel, _, _, _, ⟨rfl, rfl, rfl⟩, hle, el, h3, re, h4, h5.1.symm⟩

/-- a slice: nil, or its elements and how many places it has -/
def encSl {α : Type} (E : α → List AV) (n : Nat) : Option (List α × Nat) → List AV
  | none => [.nils]
  | some (l, cap) => [.isl (l.map E) n (some cap)]

def okSl {α : Type} (ok : α → Prop) : Option (List α × Nat) → Prop
  | none => True
  | some (l, cap) => (∀ x ∈ l, ok x) ∧ l.length ≤ cap

def szSum {α : Type} (sz : α → Nat) : List α → Nat
  | [] => 0
  | x :: r => sz x + szSum sz r

theorem choose_list {α β : Type} : ∀ (els : List β) (Q : Nat → β → α → Prop), (∀ (i : Nat) y, els[i]? = some y → ∃ x, Q i y x) → ∃ l : List α, l.length = els.length ∧ ∀ (i : Nat) y x, els[i]? = some y → l[i]? = some x → Q i y x
  | [], Q, h => ⟨[], rfl, fun i y x hy => by simp at hy⟩
  | y :: r, Q, h => by
    obtain ⟨x, hx⟩ := h 0 y rfl
    obtain ⟨l, hl, hq⟩ := choose_list r (fun i => Q (i + 1)) (fun i z hz => h (i + 1) z (by simpa using hz))
    refine ⟨x :: l, by simp [hl], fun i z u hz hu => ?_⟩
    cases i with
    | zero =>
      simp only [List.getElem?_cons_zero, Option.some.injEq] at hz hu
      subst hz hu
      exact hx
    | succ i => exact hq i z u (by simpa using hz) (by simpa using hu)

theorem sum_le {α : Type} {sz : α → Nat} : ∀ (l : List α) (ds : List (DataW H)), l.length = ds.length → (∀ (i : Nat) d x, ds[i]? = some d → l[i]? = some x → sz x ≤ bk.one d) → szSum sz l ≤ bk.all ds
  | [], [], _, _ => Nat.zero_le _
  | [], _ :: _, h, _ => by simp at h
  | _ :: _, [], h, _ => by simp at h
  | x :: l, d :: ds, h, hs => by
    have h1 := hs 0 d x rfl rfl
    have h2 := sum_le l ds (by simpa using h) (fun i d x hd hx => hs (i + 1) d x (by simpa using hd) (by simpa using hx))
    simp only [szSum, bk.cons]
    omega

theorem rd_slice {t e n : Nat} (hu : P.underlying t = some (.slice e)) (hc : P.cellsOf t = 1) (hn : 0 < n) {α : Type} {E : α → List AV} {ok : α → Prop} {sz : α → Nat} (R : Rd enc P fm bk e n E ok sz) :
    Rd enc P fm bk t 1 (encSl E n) (okSl ok) (fun o => match o with | none => 0 | some (l, _) => szSum sz l) where
  cells := hc
  one x := by
    cases x with
    | none => rfl
    | some p => rfl
  read fuel w cs d ps h := by
    rcases inv_slice hu h with ⟨rfl, rfl⟩ | ⟨f, a, len, cap, els, rest, rfl, hle, h1, h2, rfl⟩
    · exact ⟨none, trees_one .nils, rfl, trivial, Nat.zero_le _⟩
    · rw [R.cells] at h1
      have hlen : els.length = len := by simpa using mapM_some_length h1
      -- each element's reading
      have hel : ∀ i, i < len → ∃ ev y, w.cells? 0 (a.add (i * n)) n = some ev ∧ els[i]? = some y ∧ rd enc P w f e ev = some y := fun i hi => by
        have := mapM_some_get h1 i i (by simp [hi])
        cases hy : els[i]? with
        | none => rw [List.getElem?_eq_none_iff] at hy; omega
        | some y =>
          rw [hy] at this
          obtain ⟨ev, g1, g2⟩ := bind_some this
          exact ⟨ev, y, g1, rfl, g2⟩
      obtain ⟨l, hl, hq⟩ := choose_list (α := α × List Value) els (fun i y p => w.cells? 0 (a.add (i * n)) n = some p.2 ∧ Trees fm w (E p.1) p.2 ∧ (E p.1).length = n ∧ ok p.1 ∧ sz p.1 ≤ bk.one y.1) (fun i y hy => by
        obtain ⟨ev, y', g1, g2, g3⟩ := hel i (by rw [← hlen]; exact (List.getElem?_eq_some_iff.1 hy).1)
        rw [hy] at g2
        injection g2 with g2
        subst g2
        obtain ⟨x, b1, b2, b3, b4⟩ := R.read f w ev y.1 y.2 g3
        exact ⟨(x, ev), g1, b1, b2, b3, b4⟩)
      have hq' : ∀ (i : Nat) p, l[i]? = some p → w.cells? 0 (a.add (i * n)) n = some p.2 ∧ Trees fm w (E p.1) p.2 ∧ (E p.1).length = n ∧ ok p.1 := fun i p hp => by
        have hi : i < els.length := by rw [← hl]; exact (List.getElem?_eq_some_iff.1 hp).1
        obtain ⟨c1, c2, c3, c4, _⟩ := hq i els[i] p (List.getElem?_eq_getElem hi) hp
        exact ⟨c1, c2, c3, c4⟩
      have hll : l.length = len := by omega
      -- the block
      have hbl : l ≠ [] → a.spot = none ∧ Out noρ noX w a.block := fun hne => by
        obtain ⟨p, hp⟩ : ∃ p, l[0]? = some p := ⟨_, List.getElem?_eq_getElem (List.length_pos_iff.2 hne)⟩
        obtain ⟨c1, c2, c3, _⟩ := hq' 0 p hp
        obtain ⟨_, d2, d3⟩ := World.cells?_some c1
        have d4 := d3 0 hn
        have hv : p.2[0]? = some p.2[0] := List.getElem?_eq_getElem (by omega)
        rw [hv] at d4
        simp only [Nat.zero_mul, Addr.add, if_true] at d4
        unfold World.cell? at d4
        split at d4
        · rename_i c0 t0 fr0 hB
          split at d4
          · cases d4
          · rename_i hsp
            exact ⟨by simpa using hsp, Out.none (Array.getElem?_eq_some_iff.1 hB).1⟩
        · cases d4
      refine ⟨some (l.map (·.1), cap), trees_one ?_, rfl, ⟨fun x hx => ?_, by simp; omega⟩, ?_⟩
      · have key := VR.isl (fm := fm) (ρ := noρ) (X := noX) (h := []) (w := w) (els := (l.map (·.1)).map E) (sz := n) (cc := cap) (cap := some cap) (a := a) (l.map (·.2)) (by simp) (by simp; omega) rfl (fun hne => ?_) (fun i x hx => ?_) (fun i ev he => ?_) (fun i ev j v he hj => ?_) (fun i x ev j y v hx he hy hv => ?_)
        · simpa [hll] using key
        · exact hbl (fun q => hne (by rw [q]; rfl))
        · simp only [List.getElem?_map, Option.map_map] at hx
          obtain ⟨p, hp, rfl⟩ := map_some hx
          exact (hq' i p hp).2.2.1
        · rw [List.getElem?_map] at he
          obtain ⟨p, hp, rfl⟩ := map_some he
          exact (World.cells?_some (hq' i p hp).1).2.1
        · rw [List.getElem?_map] at he
          obtain ⟨p, hp, rfl⟩ := map_some he
          obtain ⟨c1, c2, c3, c4⟩ := hq' i p hp
          obtain ⟨_, d2, d3⟩ := World.cells?_some c1
          have hjn : j < n := by have := (List.getElem?_eq_some_iff.1 hj).1; omega
          have hne : l ≠ [] := fun q => by rw [q] at hp; simp at hp
          have hsp := (hbl hne).1
          obtain ⟨B, o, sp⟩ := a
          simp only at hsp
          subst hsp
          refine ⟨?_, ?_⟩
          · have := d3 j hjn
            rw [addr_add, addr_add, hj] at this
            exact this
          · have hx : (E p.1)[j]? = some (E p.1)[j] := List.getElem?_eq_getElem (by omega)
            have h1 := List.all_eq_true.1 (R.one p.1) (E p.1)[j] (List.getElem_mem _)
            exact (c2.2 j _ v hx hj).one h1
        · simp only [List.getElem?_map, Option.map_map] at hx
          rw [List.getElem?_map] at he
          obtain ⟨p, hp, rfl⟩ := map_some hx
          obtain ⟨p', hp', rfl⟩ := map_some he
          rw [hp] at hp'
          injection hp' with hp'
          subst hp'
          exact (hq' i p hp).2.1.2 j y v hy hv
      · obtain ⟨p, hp, rfl⟩ := List.mem_map.1 hx
        obtain ⟨i, hi⟩ := List.getElem?_of_mem hp
        exact (hq' i p hi).2.2.2
      · have := sum_le (bk := bk) (sz := sz) (l.map (·.1)) (els.map (·.1)) (by simp [hl]) (fun i d x hd hx => by
          rw [List.getElem?_map] at hd hx
          obtain ⟨y, hy, rfl⟩ := map_some hd
          obtain ⟨p, hp, rfl⟩ := map_some hx
          exact (hq i y p hy hp).2.2.2.2)
        rw [bk.slice]
        show szSum sz (l.map (·.1)) ≤ _
        omega

/-! ### The same, of readings that hold at most so much -/
structure RdB (enc : TypeId × Value → H) (P : Program) (fm : Nat → Nat) (bk : Bulk H) (B t n : Nat) {α : Type} (E : α → List AV) : Prop where
  cells : P.cellsOf t = n
  one : ∀ x, (E x).all AV.one = true
  read : ∀ fuel w cs d ps, rd enc P w fuel t cs = some (d, ps) → bk.one d ≤ B → ∃ x, Trees fm w (E x) cs ∧ (E x).length = n

variable {B : Nat}

theorem Rd.b {t n : Nat} {α : Type} {E : α → List AV} {ok : α → Prop} {sz : α → Nat} (R : Rd enc P fm bk t n E ok sz) : RdB enc P fm bk B t n E where
  cells := R.cells
  one := R.one
  read fuel w cs d ps h _ := by
    obtain ⟨x, a, b, _, _⟩ := R.read fuel w cs d ps h
    exact ⟨x, a, b⟩

theorem rdb_u8 {t : Nat} (hu : P.underlying t = some (.int .u8)) (hc : P.cellsOf t = 1) : RdB enc P fm bk B t 1 (fun b : UInt8 => [.int .u8 (b.toNat : Int)]) where
  cells := hc
  one _ := rfl
  read fuel w cs d ps h _ := by
    obtain ⟨n, rfl, hw, rfl⟩ := inv_int hu h
    have h1 : 0 ≤ n ∧ n ≤ 255 := by simpa [Lit.wf, IntKind.min, IntKind.max, IntKind.signed, IntKind.bits] using hw
    have h2 : ((UInt8.ofNat n.toNat).toNat : Int) = n := by
      rw [UInt8.toNat_ofNat']
      omega
    refine ⟨UInt8.ofNat n.toNat, ?_, rfl⟩
    rw [h2]
    exact trees_one (.int _ _)

theorem RdB.map {t n : Nat} {α β : Type} {E : α → List AV} (R : RdB enc P fm bk B t n E) (g : α → β) {E' : β → List AV} (h1 : ∀ y, (E' y).all AV.one = true) (h2 : ∀ x, E' (g x) = E x) : RdB enc P fm bk B t n E' where
  cells := R.cells
  one := h1
  read fuel w cs d ps h hb := by
    obtain ⟨x, a, b⟩ := R.read fuel w cs d ps h hb
    exact ⟨g x, by rw [h2]; exact a, by rw [h2]; exact b⟩

structure RdBFs (enc : TypeId × Value → H) (P : Program) (fm : Nat → Nat) (bk : Bulk H) (B : Nat) (fs : List Field) (off n : Nat) {α : Type} (E : α → List AV) : Prop where
  one : ∀ x, (E x).all AV.one = true
  read : ∀ fuel w (cs : List Value) xs, cs.length = off + n → (fs.mapM fun f => rd enc P w fuel f.type ((cs.drop f.offset).take (P.cellsOf f.type))) = some xs → bk.all (xs.map (·.1)) ≤ B →
    ∃ x, Trees fm w (E x) (cs.drop off) ∧ (E x).length = n

theorem rdbfs_nil {off : Nat} : RdBFs enc P fm bk B [] off 0 (fun _ : Unit => []) where
  one _ := rfl
  read fuel w cs xs hl h _ := by
    have e : cs.drop off = [] := by simp; omega
    exact ⟨(), ⟨by rw [e]; rfl, by simp⟩, rfl⟩

theorem rdbfs_cons {f : Field} {fs : List Field} {off n m : Nat} {α β : Type} {E : α → List AV} {F : β → List AV}
    (R : RdB enc P fm bk B f.type n E) (hf : f.offset = off) (Q : RdBFs enc P fm bk B fs (off + n) m F) :
    RdBFs enc P fm bk B (f :: fs) off (n + m) (fun x : α × β => E x.1 ++ F x.2) where
  one x := by simp only [List.all_append, R.one, Q.one, Bool.and_self]
  read fuel w cs xs hl h hb := by
    simp only [List.mapM_cons, Option.bind_eq_bind, Option.bind_eq_some_iff, Option.pure_def, Option.some.injEq] at h
    obtain ⟨⟨d, ps⟩, h1, ys, h2, rfl⟩ := h
    simp only [List.map_cons, bk.cons] at hb
    rw [hf, R.cells] at h1
    obtain ⟨x, a1, a2⟩ := R.read fuel w _ d ps h1 (by omega)
    obtain ⟨y, b1, b2⟩ := Q.read fuel w cs ys (by omega) h2 (by omega)
    refine ⟨(x, y), ?_, by simp [a2, b2]⟩
    have e : cs.drop off = (cs.drop off).take n ++ cs.drop (off + n) := by
      rw [← List.drop_drop, List.take_append_drop]
    rw [e]
    exact VRs.append a1 b1

theorem rdb_struct {t n : Nat} {fs : Array Field} (hu : P.underlying t = some (.struct fs)) (hc : P.cellsOf t = n) {α : Type} {E : α → List AV} (Q : RdBFs enc P fm bk B fs.toList 0 n E) :
    RdB enc P fm bk B t n E where
  cells := hc
  one := Q.one
  read fuel w cs d ps h hb := by
    cases fuel with
    | zero => simp [rd, DataW.trod] at h
    | succ fuel =>
      unfold rd DataW.trod at h
      rw [hu] at h
      simp only [hc] at h
      have h' : cs.length = n ∧ ∃ xs, (fs.toList.mapM fun f => DataW.trod enc P w 0 (fun _ => true) true fuel f.type ((cs.drop f.offset).take (P.cellsOf f.type))) = some xs ∧ d = .agg (xs.map (·.1)) := by
        split at h <;> simp_all
        all_goals
          obtain ⟨xs, h1, h2, h3⟩ := h
          exact ⟨xs, h1, h2.symm⟩
      obtain ⟨hl, xs, hx, rfl⟩ := h'
      rw [bk.agg] at hb
      obtain ⟨x, a1, a2⟩ := Q.read fuel w cs xs (by omega) hx (by omega)
      exact ⟨x, by simpa using a1, a2⟩

theorem all_len : ∀ (ds : List (DataW H)), ds.length ≤ bk.all ds
  | [] => Nat.zero_le _
  | d :: ds => by
    have := all_len ds
    have := bk.pos d
    rw [bk.cons]
    simp only [List.length_cons]
    omega
theorem one_le_all : ∀ (ds : List (DataW H)) (i : Nat) d, ds[i]? = some d → bk.one d ≤ bk.all ds
  | [], i, d, h => by simp at h
  | e :: ds, 0, d, h => by
    simp at h
    subst h
    rw [bk.cons]
    omega
  | e :: ds, i + 1, d, h => by
    have := one_le_all ds i d (by simpa using h)
    rw [bk.cons]
    omega

theorem rdb_slice {t e n : Nat} (hu : P.underlying t = some (.slice e)) (hc : P.cellsOf t = 1) (hn : 0 < n) (hB : B ≤ LIM) {α : Type} {E : α → List AV} (R : RdB enc P fm bk B e n E) :
    RdB enc P fm bk B t 1 (fun s : Slc α => [s.av E n]) where
  cells := hc
  one x := by cases x <;> rfl
  read fuel w cs d ps h hb := by
    rcases inv_slice hu h with ⟨rfl, rfl⟩ | ⟨f, a, len, cap, els, rest, rfl, hle, h1, h2, rfl⟩
    · exact ⟨.nil, trees_one .nils, rfl⟩
    · rw [R.cells] at h1
      have hlen : els.length = len := by simpa using mapM_some_length h1
      -- each element's reading
      have hel : ∀ i, i < len → ∃ ev y, w.cells? 0 (a.add (i * n)) n = some ev ∧ els[i]? = some y ∧ rd enc P w f e ev = some y := fun i hi => by
        have := mapM_some_get h1 i i (by simp [hi])
        cases hy : els[i]? with
        | none => rw [List.getElem?_eq_none_iff] at hy; omega
        | some y =>
          rw [hy] at this
          obtain ⟨ev, g1, g2⟩ := bind_some this
          exact ⟨ev, y, g1, rfl, g2⟩
      rw [bk.slice] at hb
      obtain ⟨l, hl, hq⟩ := choose_list (α := α × List Value) els (fun i y p => w.cells? 0 (a.add (i * n)) n = some p.2 ∧ Trees fm w (E p.1) p.2 ∧ (E p.1).length = n) (fun i y hy => by
        obtain ⟨ev, y', g1, g2, g3⟩ := hel i (by rw [← hlen]; exact (List.getElem?_eq_some_iff.1 hy).1)
        rw [hy] at g2
        injection g2 with g2
        subst g2
        have hle1 := one_le_all (bk := bk) (els.map (·.1)) i y.1 (by rw [List.getElem?_map, hy]; rfl)
        obtain ⟨x, b1, b2⟩ := R.read f w ev y.1 y.2 g3 (by omega)
        exact ⟨(x, ev), g1, b1, b2⟩)
      have hq' : ∀ (i : Nat) p, l[i]? = some p → w.cells? 0 (a.add (i * n)) n = some p.2 ∧ Trees fm w (E p.1) p.2 ∧ (E p.1).length = n := fun i p hp => by
        have hi : i < els.length := by rw [← hl]; exact (List.getElem?_eq_some_iff.1 hp).1
        exact hq i els[i] p (List.getElem?_eq_getElem hi) hp
      have hll : l.length = len := by omega
      -- the block
      have hbl : l ≠ [] → a.spot = none ∧ Out noρ noX w a.block := fun hne => by
        obtain ⟨p, hp⟩ : ∃ p, l[0]? = some p := ⟨_, List.getElem?_eq_getElem (List.length_pos_iff.2 hne)⟩
        obtain ⟨c1, c2, c3⟩ := hq' 0 p hp
        obtain ⟨_, d2, d3⟩ := World.cells?_some c1
        have d4 := d3 0 hn
        have hv : p.2[0]? = some p.2[0] := List.getElem?_eq_getElem (by omega)
        rw [hv] at d4
        simp only [Nat.zero_mul, Addr.add, if_true] at d4
        unfold World.cell? at d4
        split at d4
        · rename_i c0 t0 fr0 hB
          split at d4
          · cases d4
          · rename_i hsp
            exact ⟨by simpa using hsp, Out.none (Array.getElem?_eq_some_iff.1 hB).1⟩
        · cases d4
      have hall := all_len (bk := bk) (els.map (·.1))
      rw [List.length_map] at hall
      refine ⟨.mk (l.map (·.1)) (some cap) (by rw [List.length_map]; omega), trees_one ?_, rfl⟩
      · have key := VR.isl (fm := fm) (ρ := noρ) (X := noX) (h := []) (w := w) (els := (l.map (·.1)).map E) (sz := n) (cc := cap) (cap := some cap) (a := a) (l.map (·.2)) (by simp) (by simp; omega) rfl (fun hne => ?_) (fun i x hx => ?_) (fun i ev he => ?_) (fun i ev j v he hj => ?_) (fun i x ev j y v hx he hy hv => ?_)
        · simpa [hll, Slc.av_mk] using key
        · exact hbl (fun q => hne (by rw [q]; rfl))
        · simp only [List.getElem?_map, Option.map_map] at hx
          obtain ⟨p, hp, rfl⟩ := map_some hx
          exact (hq' i p hp).2.2
        · rw [List.getElem?_map] at he
          obtain ⟨p, hp, rfl⟩ := map_some he
          exact (World.cells?_some (hq' i p hp).1).2.1
        · rw [List.getElem?_map] at he
          obtain ⟨p, hp, rfl⟩ := map_some he
          obtain ⟨c1, c2, c3⟩ := hq' i p hp
          obtain ⟨_, d2, d3⟩ := World.cells?_some c1
          have hjn : j < n := by have := (List.getElem?_eq_some_iff.1 hj).1; omega
          have hne : l ≠ [] := fun q => by rw [q] at hp; simp at hp
          have hsp := (hbl hne).1
          obtain ⟨B, o, sp⟩ := a
          simp only at hsp
          subst hsp
          refine ⟨?_, ?_⟩
          · have := d3 j hjn
            rw [addr_add, addr_add, hj] at this
            exact this
          · have hx : (E p.1)[j]? = some (E p.1)[j] := List.getElem?_eq_getElem (by omega)
            have h1 := List.all_eq_true.1 (R.one p.1) (E p.1)[j] (List.getElem_mem _)
            exact (c2.2 j _ v hx hj).one h1
        · simp only [List.getElem?_map, Option.map_map] at hx
          rw [List.getElem?_map] at he
          obtain ⟨p, hp, rfl⟩ := map_some hx
          obtain ⟨p', hp', rfl⟩ := map_some he
          rw [hp] at hp'
          injection hp' with hp'
          subst hp'
          exact (hq' i p hp).2.1.2 j y v hy hv

end
end Go.Ai
/-
  The abstract interpreter: what a row asks behind the call, of a world that is below as it was.
-/
namespace Go.Ai
open Go.RowKit Go.ChangeShapes
set_option linter.unusedVariables false

section
variable {H : Type} {enc : TypeId × Value → H} {P : Program}

theorem trodAll_below (hl : laidOutB P = true) {W W' : World} (hb : Below W.heap.size W W') (sp : Nat → Bool) : ∀ {ts : List TypeId} {vs : List Value} {ds : List (DataW H)} {ps : List MemPlace},
    (∀ t ∈ ts, P.readableRec t = true ∧ t < P.types.size) → DataW.TrodAll enc P W 0 (fun _ => true) true ts vs ds ps → (∀ p ∈ ps, p.block < W.heap.size) → (∀ p ∈ ps, sp p.block = true) → DataW.TrodAll enc P W' 0 sp true ts vs ds ps
  | [], [], [], _, _, h, _, _ => h
  | t :: ts, v :: vs, d :: ds, _, hr, ⟨p, q, h, hs, e⟩, hlt, hsp => by
    subst e
    refine ⟨p, q, WideElems.Trod_stays hl (hr t (by simp)).1 (hr t (by simp)).2 h (fun x hx => hb.same (hlt x (by simp [hx]))) (fun x hx => hsp x (by simp [hx])), trodAll_below hl hb sp (fun t ht => hr t (by simp [ht])) hs (fun x hx => hlt x (by simp [hx])) (fun x hx => hsp x (by simp [hx])), rfl⟩

/-- the kit's 'post_of_same', where below the old size nothing has turned -/
theorem post_below {f : Func} {s : ChangeSpec} {apart fresh handsOn again : Bool} {W W' : World} {args : Array Value} {v : Value} {ds gs : List (DataW H)} {before : List MemPlace}
    (hl : laidOutB P = true) (hr : ∀ t ∈ f.params.toList, P.readableRec t = true ∧ t < P.types.size) (hv : s.vars = []) (hfa : (s.fn H (ds ++ gs)).args = ds) (hfv : (s.fn H (ds ++ gs)).vars = [])
    (hW : DataW.Whole enc P f.params.toList s.vars apart W args.toList ds gs before)
    (hres : ∀ (b : Nat) (sp : Nat → Bool) (hd : Bool), DataW.TrodAll enc P W' b sp hd f.resultTypes.toList (v.resultList f.resultTypes.size) (s.fn H (ds ++ gs)).results [])
    (hb : Below W.heap.size W W')
    (hok : ∀ (j : Nat) (t : TypeId) (r : Value), f.resultTypes[j]? = some t → (v.resultList f.resultTypes.size)[j]? = some r → Value.okWide P W' .any 0 t r) :
    s.post enc P f apart fresh handsOn again W args v W' := by
  have hlt : ∀ p ∈ before, p.block < W.heap.size := fun p hp => hW.lt p hp
  have hold : ∀ p ∈ before, (fun b => decide (b < W.heap.size)) p.block = true := fun p hp => by simpa using hlt p hp
  obtain ⟨p, q, hA, hV, hpq, hz, hn⟩ := id hW
  have hq : q = [] := by
    rw [hv] at hV
    cases gs with
    | nil => exact hV
    | cons g r => exact hV.elim
  subst hq
  rw [List.append_nil] at hpq
  subst hpq
  have hargs : ∀ sp : Nat → Bool, (∀ x ∈ before, sp x.block = true) → DataW.TrodAll enc P W' 0 sp true f.params.toList args.toList (s.fn H (ds ++ gs)).args before := fun sp hsp => by
    rw [hfa]
    exact trodAll_below hl hb sp hr hA hlt hsp
  have hvars : ∀ sp : Nat → Bool, DataW.TrodVars enc P W' sp s.vars (s.fn H (ds ++ gs)).vars [] := fun sp => by
    rw [hv, hfv]
    rfl
  refine ⟨ds, gs, before, [], before, [], hW, hres _ _ _, hargs _ hold, hvars _, World.keptBut_mono (fun x hx => ⟨hx, .inr (.inl hx)⟩) (hb.frame (· ∈ before)), fun _ => ?_⟩
  refine ⟨hok, _, _, ([] ++ before) ++ [], ⟨[] ++ before, [], trodAll_append (hargs _ (fun _ _ => rfl)) (hres _ _ _), hvars _, rfl, ?_, ?_⟩, ?_⟩
  · intro b off hp
    have hp' : MemPlace.cell b off ∈ before := by simpa using hp
    rw [hb.frozen (hlt _ hp')]
    exact hz b off hp'
  · intro ha
    simpa using hn ha
  · intro x hx _
    simpa using hx

end
end Go.Ai
