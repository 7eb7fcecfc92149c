/-
  Parts of a proof: an abstract interpreter of the model's code, and what the functions come to.
-/
import Derived.Test.YtmamikjllokmiaaGreatDoorAi06
set_option linter.unusedVariables false
set_option linter.unusedSimpArgs false
set_option linter.unnecessarySimpa false
/-
  What the functions come to: a heap of lists.
-/
namespace Go.Ai
set_option linter.unusedSimpArgs false
set_option linter.unusedVariables false

section
variable (bar : Nat) (h : AHeap) (t t' : Int) (s s' : Slc Pr) (x x' : List UInt8) (asc : Bool)
@[simp] theorem sp79 : run S0 bar 79 [.agg [.int .i64 t, s.av encPr 2, .str x], .agg [.int .i64 t', s'.av encPr 2, .str x'], .iptr [.bool asc] 0] h = some (.bool (aheadEnt asc ⟨t, s, x⟩ ⟨t', s', x'⟩), h) := by
  refine run_code (sf := F79) rfl ?_
  rw [evBody_eq _ _ _ _ _ rfl]
  simp
@[simp] theorem sp77 : run S0 bar 77 [.bool asc] h = some (.fn 79 [] [.iptr [.bool asc] 0], h) := by
  refine run_code (sf := F77) rfl ?_
  rw [evBody_eq _ _ _ _ _ rfl]
  simp
end

/-- a list in the heap: its first entry, the others, and which one it is -/
structure It where
  e : Ent
  t : List Ent
  cap : Option Nat
  at_ : Int
def encL (e : Ent) (t : List Ent) : List (List AV) := (e :: t).map encEnt
@[simp] theorem encL_len (e : Ent) (t : List Ent) : (encL e t).length = t.length + 1 := by simp [encL]
@[simp] theorem encL_get0 (e : Ent) (t : List Ent) (h : 0 < (encL e t).length) : (encL e t)[0] = encEnt e := rfl
@[simp] theorem encL_get (e : Ent) (t : List Ent) : (encL e t)[0]? = some (encEnt e) := rfl
@[simp] theorem frz_encL (e : Ent) (t : List Ent) (h : AHeap) (n k : Nat) : (encL e t).map (fun x => x.map (frz h n (k + 1))) = encL e t := frz_rowEnt (e :: t) h n k
@[simp] def encIt (x : It) : List AV := [.isl (encL x.e x.t) 3 x.cap, .int .i64 x.at_]

def ahIt (asc : Bool) (x y : It) : Bool := aheadEnt asc x.e y.e || (!aheadEnt asc y.e x.e && decide (x.at_ < y.at_))

def keyIt (x : It) : Key × Int := (keyEnt x.e, x.at_)
def cIt (asc : Bool) (a b : Key × Int) : Int := orI [dirKey asc a.1 b.1, cmpI a.2 b.2]
theorem cIt_lin (asc : Bool) : Lin (cIt asc) := (dirKey_lin asc).lex cmpI_lin

theorem ahIt_iff (asc : Bool) (x y : It) : ahIt asc x y = true ↔ cIt asc (keyIt x) (keyIt y) < 0 := by
  unfold ahIt cIt keyIt
  rw [orI_2]
  simp only [Bool.or_eq_true, Bool.and_eq_true, Bool.not_eq_true', decide_eq_true_eq, ahead_key]
  have e : aheadEnt asc y.e x.e = false ↔ ¬ dirKey asc (keyEnt y.e) (keyEnt x.e) < 0 := by rw [← ahead_key]; simp
  rw [e, (dirKey_lin asc).anti (keyEnt x.e) (keyEnt y.e)]
  have hc : cmpI x.at_ y.at_ < 0 ↔ x.at_ < y.at_ := by unfold cmpI; split <;> (try split) <;> omega
  split
  · rename_i h0
    rw [h0, hc]
    omega
  · rename_i h0
    omega

theorem ahIt_pre (asc : Bool) : Pre (ahIt asc) where
  tr x y z h1 h2 := by
    have f : ∀ x y, ahIt asc x y = false ↔ ¬ cIt asc (keyIt x) (keyIt y) < 0 := fun x y => by rw [← ahIt_iff]; simp
    rw [f] at *
    exact (cIt_lin asc).le_trans h1 h2
  as x y h := by
    have f : ∀ x y, ahIt asc x y = false ↔ ¬ cIt asc (keyIt x) (keyIt y) < 0 := fun x y => by rw [← ahIt_iff]; simp
    rw [f]
    rw [ahIt_iff] at h
    exact (cIt_lin asc).asymm h

def fnA (asc : Bool) : AV := .fn 79 [] [.iptr [.bool asc] 0]

theorem sp81 (bar : Nat) (h : AHeap) (a : Nat) (asc : Bool) (e e' : Ent) (t t' : List Ent) (c c' : Option Nat) (ha : h[a]? = some (.row 1 [[fnA asc]])) :
    run S0 bar 81 [.isl (encL e t) 3 c, .isl (encL e' t') 3 c', .hptr a 1 0 0] h = some (.bool (aheadEnt asc e e'), h) := by
  refine run_code (sf := F81) rfl ?_
  rw [evBody_eq _ _ _ _ _ rfl]
  simp only [fnA] at ha
  simp [ha]

/-- how it lies in the heap -/
structure HB (asc : Bool) (h : AHeap) (a p q bl : Nat) (l : List It) (J : List (List AV)) (came : Int) : Prop where
  ha : h[a]? = some (.row 1 [[fnA asc]])
  hp : h[p]? = some (.row 3 [[.hsl q bl 0 l.length 2 none, .fn 81 [] [.hptr a 1 0 0], .int .i64 came]])
  hq : h[q]? = some (.row 2 (l.map encIt ++ J))
  hb : bl = l.length + J.length
  aq : a ≠ q
  pq : p ≠ q
  ap : a ≠ p
  le : bl ≤ LIM

section
variable {asc : Bool} {h : AHeap} {a p q bl : Nat} {l : List It} {J : List (List AV)} {came : Int}

theorem HB.set (H : HB asc h a p q bl l J came) {l' : List It} (hl : l'.length = l.length) : HB asc (h.set q (.row 2 (l'.map encIt ++ J))) a p q bl l' J came where
  ha := by rw [List.getElem?_set_ne H.aq.symm]; exact H.ha
  hp := by rw [List.getElem?_set_ne H.pq.symm, hl]; exact H.hp
  hq := by
    have := (List.getElem?_eq_some_iff.1 H.hq).1
    simp [this]
  hb := by rw [hl]; exact H.hb
  aq := H.aq
  pq := H.pq
  ap := H.ap
  le := H.le

theorem HB.row (H : HB asc h a p q bl l J came) : heapRow h q bl 2 = some (l.map encIt ++ J) := heapRow_eq H.hq (by simp [H.hb])
theorem HB.len (H : HB asc h a p q bl l J came) : (l.map encIt ++ J).length = bl := by simp [H.hb]
theorem HB.get (H : HB asc h a p q bl l J came) {i : Nat} (hi : i < l.length) : (l.map encIt ++ J)[i]? = some (encIt l[i]) := by
  rw [List.getElem?_append_left (by simpa using hi)]
  simp [hi]
theorem HB.addr (H : HB asc h a p q bl l J came) {i : Nat} (hi : i < l.length) : aiaddr h none 2 (.hsl q bl 0 l.length 2 none) (i : Int) = some (.hptr q bl i 0) := by
  have h1 : l.length ≤ (l.map encIt ++ J).length := by simp
  rw [aiaddr_hsl, H.row, if_pos hi]
  simp
theorem HB.lt (H : HB asc h a p q bl l J came) : q < h.length := (List.getElem?_eq_some_iff.1 H.hq).1

theorem sp87 (bar : Nat) (H : HB asc h a p q bl l J came) {i j : Nat} (hi : i < l.length) (hj : j < l.length) :
    run S0 bar 87 [.hptr p 1 0 0, .int .i64 i, .int .i64 j] h = some (.bool (ahAt (ahIt asc) l i j), h) := by
  refine run_code (sf := F87) rfl ?_
  rw [evBody_eq _ _ _ _ _ rfl]
  have A1 := H.addr hi
  have A2 := H.addr hj
  have G1 := H.get hi
  have G2 := H.get hj
  have L := H.len
  have h81 := fun bar e e' t t' c c' => sp81 bar h a asc e e' t t' c c' H.ha
  have eah : ahAt (ahIt asc) l i j = ahIt asc l[i] l[j] := by
    unfold ahAt
    rw [List.getElem?_eq_getElem hi, List.getElem?_eq_getElem hj]
  rw [eah]
  unfold ahIt
  generalize l[i] = X at *
  generalize l[j] = Y at *
  have hq := H.hq
  generalize l.map encIt ++ J = R at *
  simp only [encIt] at G1 G2
  cases c1 : aheadEnt asc X.e Y.e with
  | true => simp [H.hp, A1, A2, hq, L, G1, G2, h81, c1]
  | false =>
    cases c2 : aheadEnt asc Y.e X.e with
    | true => simp [H.hp, A1, A2, hq, L, G1, G2, h81, c1, c2]
    | false => simp [H.hp, A1, A2, hq, L, G1, G2, h81, c1, c2]

theorem HB.swp (H : HB asc h a p q bl l J came) {i j : Nat} (hi : i < l.length) (hj : j < l.length) :
    ((l.map encIt ++ J).set i (encIt l[j])).set j (encIt l[i]) = (swp l i j).map encIt ++ J := by
  rw [swp_eq hi hj, List.set_append_left _ _ (by simpa using hi), List.set_append_left _ _ (by simpa using hj)]
  simp

/-- going up -/
theorem loop14 (bar : Nat) (hbar : bar ≤ q) : ∀ (n : Nat) (h : AHeap) (l : List It) (k : Nat) (H : HB asc h a p q bl l J came), k ≤ n → k < l.length → ∃ k' : Nat,
    evL (run S0 bar) bar F14_l3 [0, 1] ⟨[(0, .hptr p 1 0 0), (1, .int .i64 k)], [], h⟩ = some (.exit 0, ⟨[(0, .hptr p 1 0 0), (1, .int .i64 k'), (13, .bool false)], [], h.set q (.row 2 ((upF (ahIt asc) n l k).map encIt ++ J))⟩) := by
  have hLIM : LIM = 4294967296 := rfl
  intro n
  induction n with
  | zero =>
    intro h l k H hk hkl
    have e : k = 0 := by omega
    subst e
    refine ⟨0, ?_⟩
    have es : h.set q (.row 2 ((upF (ahIt asc) 0 l 0).map encIt ++ J)) = h := set_same H.hq
    rw [es, evL_rnd]
    simp
  | succ n ih =>
    intro h l k H hk hkl
    by_cases hk0 : k = 0
    · subst hk0
      refine ⟨0, ?_⟩
      have e1 : upF (ahIt asc) (n + 1) l 0 = l := by simp [upF]
      have es : h.set q (.row 2 (l.map encIt ++ J)) = h := set_same H.hq
      rw [e1, es, evL_rnd]
      simp
    · have hk1 : 0 < k := by omega
      have hk2 : (0 : Int) < (k : Int) := by omega
      have hle := H.le
      have hb := H.hb
      have w1 : IntKind.i64.wrap ((k : Int) - 1) = ((k - 1 : Nat) : Int) := by rw [wrap64 (by omega) (by omega)]; omega
      have w2 : ((k - 1 : Nat) : Int).tdiv 2 = (((k - 1) / 2 : Nat) : Int) := tdiv_nat (k - 1) 2
      have w3 : IntKind.i64.wrap (((k - 1) / 2 : Nat) : Int) = (((k - 1) / 2 : Nat) : Int) := wrap64 (by omega) (by omega)
      have hp2 : (k - 1) / 2 < l.length := by omega
      have h87 := fun bar => sp87 bar H hkl hp2
      cases c : ahAt (ahIt asc) l k ((k - 1) / 2) with
      | false =>
        rw [c] at h87
        refine ⟨k, ?_⟩
        have e1 : upF (ahIt asc) (n + 1) l k = l := by simp [upF, c]
        have es : h.set q (.row 2 (l.map encIt ++ J)) = h := set_same H.hq
        rw [e1, es, evL_rnd]
        generalize (k - 1) / 2 = m at *
        simp [hk2, hk1, w1, w2, w3, h87]
      | true =>
        rw [c] at h87
        have e1 : upF (ahIt asc) (n + 1) l k = upF (ahIt asc) n (Go.Ai.swp l k ((k - 1) / 2)) ((k - 1) / 2) := by simp [upF, c, hk1]
        rw [e1]
        have hsl : (Go.Ai.swp l k ((k - 1) / 2)).length = l.length := swp_len _ _ _
        obtain ⟨k', ih⟩ := ih (h.set q (.row 2 ((Go.Ai.swp l k ((k - 1) / 2)).map encIt ++ J))) (Go.Ai.swp l k ((k - 1) / 2)) ((k - 1) / 2) (H.set hsl) (by omega) (by rw [hsl]; exact hp2)
        rw [List.set_set] at ih
        refine ⟨k', ?_⟩
        have A1 := H.addr hkl
        have A2 := H.addr hp2
        have G1 := H.get hkl
        have G2 := H.get hp2
        have L := H.len
        have hq := H.hq
        have hsw := H.swp hkl hp2
        have hne : k ≠ (k - 1) / 2 := by omega
        have hlt := H.lt
        generalize (k - 1) / 2 = m at *
        generalize (Go.Ai.swp l k m).map encIt ++ J = R2 at *
        generalize hR : l.map encIt ++ J = R at *
        have hset : ∀ y : ABlk, (h.set q y)[q]? = some y := fun y => by simp [hlt]
        have G3 : (R.set k (encIt l[m]))[m]? = some (encIt l[m]) := by rw [List.getElem?_set_ne hne]; exact G2
        have hpq := H.pq.symm
        have A3 : aiaddr (h.set q (.row 2 (R.set k (encIt l[m])))) none 2 (.hsl q bl 0 l.length 2 none) (m : Int) = some (.hptr q bl m 0) := by
          have hr : heapRow (h.set q (.row 2 (R.set k (encIt l[m])))) q bl 2 = some (R.set k (encIt l[m])) := heapRow_eq (hset _) (by simpa using L)
          have hll : l.length ≤ bl := by omega
          rw [aiaddr_hsl, hr, if_pos hp2]
          simp [L, hll]
        generalize l[k] = X at *
        generalize l[m] = Y at *
        simp only [encIt] at G1 G2 G3 A3 hsw
        have hpp : ∀ y : ABlk, (h.set q y)[p]? = some (.row 3 [[.hsl q bl 0 l.length 2 none, .fn 81 [] [.hptr a 1 0 0], .int .i64 came]]) := fun y => by rw [List.getElem?_set_ne hpq]; exact H.hp
        rw [evL_rnd]
        simp [hk2, hk1, w1, w2, w3, h87, H.hp, A1, A2, A3, hq, L, G1, G2, G3, hset, hsw, hbar]
        exact ih

theorem sp14 (bar : Nat) (hbar : bar ≤ q) (H : HB asc h a p q bl l J came) (k : Nat) (hk : k < l.length) :
    run S0 bar 14 [.hptr p 1 0 0, .int .i64 k] h = some (.tup [], h.set q (.row 2 ((upF (ahIt asc) k l k).map encIt ++ J))) := by
  refine run_code (sf := F14) rfl ?_
  rw [evBody_eq _ _ _ _ _ rfl]
  obtain ⟨k', hl⟩ := loop14 bar hbar k h l k H (Nat.le_refl _) hk
  simp [hl]

@[simp] theorem aiaddr_isl1 (h : AHeap) (sz : Nat) (e : List (List AV)) (c : Option Nat) : aiaddr h none sz (.isl e sz c) 1 = (e[1]?).map fun x => .iptr x 0 := aiaddr_isl h sz e c 1

/-- which one of the kids, or itself -/
theorem loop12i (bar : Nat) (H : HB asc h a p q bl l J came) (k : Nat) (hk : k ≤ l.length) :
    evL (run S0 bar) bar F12_l7 [0, 1, 4, 14, 15, 16] ⟨[(0, .hptr p 1 0 0), (1, .int .i64 k), (4, .int .i64 k), (14, .isl [[.int .i64 (2 * (k : Int) + 1)], [.int .i64 (2 * (k : Int) + 2)]] 1 (some 2)), (15, .int .i64 2), (16, .int .i64 0)], [], h⟩ =
      some (.exit 2, ⟨[(0, .hptr p 1 0 0), (1, .int .i64 k), (4, .int .i64 (least (ahIt asc) l k)), (14, .isl [[.int .i64 (2 * (k : Int) + 1)], [.int .i64 (2 * (k : Int) + 2)]] 1 (some 2)), (15, .int .i64 2), (16, .int .i64 2), (17, .bool false)], [], h⟩) := by
  have w1 : IntKind.i64.wrap (1 : Int) = 1 := rfl
  have w2 : IntKind.i64.wrap (2 : Int) = 2 := rfl
  have e1 : (2 * (k : Int) + 1) = ((2 * k + 1 : Nat) : Int) := by omega
  have e2 : (2 * (k : Int) + 2) = ((2 * k + 2 : Nat) : Int) := by omega
  rw [e1, e2]
  by_cases c1 : 2 * k + 1 < l.length
  · have h87 := fun bar => sp87 bar H (i := 2 * k + 1) (j := k) c1 (by omega)
    cases c2 : ahAt (ahIt asc) l (2 * k + 1) k with
    | true =>
      rw [c2] at h87
      by_cases c3 : 2 * k + 2 < l.length
      · have h87' := fun bar => sp87 bar H (i := 2 * k + 2) (j := 2 * k + 1) c3 c1
        have el : least (ahIt asc) l k = if ahAt (ahIt asc) l (2 * k + 2) (2 * k + 1) = true then 2 * k + 2 else 2 * k + 1 := by simp [least, c1, c2, c3]
        rw [el]
        cases c4 : ahAt (ahIt asc) l (2 * k + 2) (2 * k + 1) <;>
        · rw [c4] at h87'
          generalize 2 * k + 1 = m1 at *
          generalize 2 * k + 2 = m2 at *
          rw [evL_rnd]
          simp [c1, h87, H.hp, w1]
          rw [evL_rnd]
          simp [c3, h87', H.hp, w2]
          rw [evL_rnd]
          simp
      · have el : least (ahIt asc) l k = 2 * k + 1 := by simp [least, c1, c2, c3]
        rw [el]
        generalize 2 * k + 1 = m1 at *
        generalize 2 * k + 2 = m2 at *
        rw [evL_rnd]
        simp [c1, h87, H.hp, w1]
        rw [evL_rnd]
        simp [c3, H.hp, w2]
        rw [evL_rnd]
        simp
    | false =>
      rw [c2] at h87
      by_cases c3 : 2 * k + 2 < l.length
      · have h87' := fun bar => sp87 bar H (i := 2 * k + 2) (j := k) c3 (by omega)
        have el : least (ahIt asc) l k = if ahAt (ahIt asc) l (2 * k + 2) k = true then 2 * k + 2 else k := by simp [least, c1, c2, c3]
        rw [el]
        cases c4 : ahAt (ahIt asc) l (2 * k + 2) k <;>
        · rw [c4] at h87'
          generalize 2 * k + 1 = m1 at *
          generalize 2 * k + 2 = m2 at *
          rw [evL_rnd]
          simp [c1, h87, H.hp, w1]
          rw [evL_rnd]
          simp [c3, h87', H.hp, w2]
          rw [evL_rnd]
          simp
      · have el : least (ahIt asc) l k = k := by simp [least, c1, c2, c3]
        rw [el]
        generalize 2 * k + 1 = m1 at *
        generalize 2 * k + 2 = m2 at *
        rw [evL_rnd]
        simp [c1, h87, H.hp, w1]
        rw [evL_rnd]
        simp [c3, H.hp, w2]
        rw [evL_rnd]
        simp
  · have c3 : ¬ (2 * k + 2 < l.length) := by omega
    have el : least (ahIt asc) l k = k := by simp [least, c1, c3]
    rw [el]
    generalize 2 * k + 1 = m1 at *
    generalize 2 * k + 2 = m2 at *
    rw [evL_rnd]
    simp [c1, H.hp, w1]
    rw [evL_rnd]
    simp [c3, H.hp, w2]
    rw [evL_rnd]
    simp

/-- going down -/
theorem loop12 (bar : Nat) (hbar : bar ≤ q) : ∀ (n : Nat) (h : AHeap) (l : List It) (k : Nat) (H : HB asc h a p q bl l J came), l.length ≤ n + k → k < l.length ∨ l = [] ∧ k = 0 → ∃ s' : St, s'.heap = h.set q (.row 2 ((downF (ahIt asc) n l k).map encIt ++ J)) ∧
    evL (run S0 bar) bar F12_l11 [0, 1] ⟨[(0, .hptr p 1 0 0), (1, .int .i64 k)], [], h⟩ = some (.ret, s') := by
  have hLIM : LIM = 4294967296 := rfl
  have w0 : IntKind.i64.wrap (2 : Int) = 2 := rfl
  intro n
  induction n with
  | zero =>
    intro h l k H hn hk
    have hk' : l = [] ∧ k = 0 := by
      rcases hk with hk | hk
      · omega
      · exact hk
    obtain ⟨rfl, rfl⟩ := hk'
    have hi := fun bar => loop12i bar H 0 (by simp)
    have el : least (ahIt asc) [] 0 = 0 := by simp [least]
    rw [el] at hi
    simp at hi
    have es : h.set q (.row 2 ((downF (ahIt asc) 0 [] 0).map encIt ++ J)) = h := set_same H.hq
    rw [es]
    rw [evL_rnd]
    have e1 : IntKind.i64.wrap (1 : Int) = 1 := rfl
    refine ⟨⟨[(0, .hptr p 1 0 0), (1, .int .i64 0), (4, .int .i64 0), (37, .bool true)], [], h⟩, rfl, ?_⟩
    simp [abslice, hi, e1, w0, show IntKind.i64.wrap (0 : Int) = 0 from rfl]
  | succ n ih =>
    intro h l k H hn hk
    have hle := H.le
    have hb := H.hb
    have hkl : k ≤ l.length := by
      rcases hk with hk | ⟨rfl, rfl⟩
      · omega
      · simp
    have hi := fun bar => loop12i bar H k hkl
    have w1 : IntKind.i64.wrap (2 * (k : Int)) = 2 * (k : Int) := wrap64 (by omega) (by omega)
    have w2 : IntKind.i64.wrap (2 * (k : Int) + 1) = 2 * (k : Int) + 1 := wrap64 (by omega) (by omega)
    have w3 : IntKind.i64.wrap (2 * (k : Int) + 2) = 2 * (k : Int) + 2 := wrap64 (by omega) (by omega)
    by_cases qq : least (ahIt asc) l k = k
    · have ed : downF (ahIt asc) (n + 1) l k = l := by simp [downF, qq]
      have es : h.set q (.row 2 (l.map encIt ++ J)) = h := set_same H.hq
      rw [ed, es, evL_rnd]
      rw [qq] at hi
      refine ⟨⟨[(0, .hptr p 1 0 0), (1, .int .i64 k), (4, .int .i64 k), (37, .bool true)], [], h⟩, rfl, ?_⟩
      simp [abslice, hi, w1, w2, w3]
    · have hkl' : k < l.length := by
        rcases hk with hk | ⟨rfl, rfl⟩
        · exact hk
        · exact absurd (by simp [least]) qq
      obtain ⟨c1, _⟩ := least_cases (ahIt_pre asc) l k hkl'
      rcases c1 with c1 | ⟨c1, c3, c4, c5⟩
      · exact absurd c1 qq
      have ed : downF (ahIt asc) (n + 1) l k = downF (ahIt asc) n (Go.Ai.swp l k (least (ahIt asc) l k)) (least (ahIt asc) l k) := by simp [downF, qq]
      rw [ed]
      have hsl : (Go.Ai.swp l k (least (ahIt asc) l k)).length = l.length := swp_len _ _ _
      obtain ⟨s', hs', ih⟩ := ih (h.set q (.row 2 ((Go.Ai.swp l k (least (ahIt asc) l k)).map encIt ++ J))) (Go.Ai.swp l k (least (ahIt asc) l k)) (least (ahIt asc) l k) (H.set hsl) (by omega) (.inl (by rw [hsl]; exact c3))
      rw [List.set_set] at hs'
      refine ⟨s', hs', ?_⟩
      have A1 := H.addr hkl'
      have A2 := H.addr c3
      have G1 := H.get hkl'
      have G2 := H.get c3
      have L := H.len
      have hq := H.hq
      have hsw := H.swp hkl' c3
      have hlt := H.lt
      have hne : k ≠ least (ahIt asc) l k := by omega
      have hne2 : ¬ ((least (ahIt asc) l k : Int) = (k : Int)) := by omega
      generalize least (ahIt asc) l k = m at *
      generalize (Go.Ai.swp l k m).map encIt ++ J = R2 at *
      generalize hR : l.map encIt ++ J = R at *
      have hset : ∀ y : ABlk, (h.set q y)[q]? = some y := fun y => by simp [hlt]
      have G3 : (R.set k (encIt l[m]))[m]? = some (encIt l[m]) := by rw [List.getElem?_set_ne hne]; exact G2
      have hpq := H.pq.symm
      have A3 : aiaddr (h.set q (.row 2 (R.set k (encIt l[m])))) none 2 (.hsl q bl 0 l.length 2 none) (m : Int) = some (.hptr q bl m 0) := by
        have hr : heapRow (h.set q (.row 2 (R.set k (encIt l[m])))) q bl 2 = some (R.set k (encIt l[m])) := heapRow_eq (hset _) (by simpa using L)
        have hll : l.length ≤ bl := by omega
        rw [aiaddr_hsl, hr, if_pos c3]
        simp [L, hll]
      generalize l[k] = X at *
      generalize l[m] = Y at *
      simp only [encIt] at G1 G2 G3 A3 hsw
      have hmk : ¬ (m = k) := fun e => hne e.symm
      rw [evL_rnd]
      simp [abslice, hi, w1, w2, w3, hmk, hne2, H.hp, A1, A2, A3, hq, L, G1, G2, G3, hset, hsw, hbar]
      exact ih

theorem sp12 (bar : Nat) (hbar : bar ≤ q) (H : HB asc h a p q bl l J came) :
    run S0 bar 12 [.hptr p 1 0 0, .int .i64 0] h = some (.tup [], h.set q (.row 2 ((downF (ahIt asc) l.length l 0).map encIt ++ J))) := by
  refine run_code (sf := F12) rfl ?_
  rw [evBody_eq _ _ _ _ _ rfl]
  obtain ⟨s', hs', hl⟩ := loop12 bar hbar l.length h l 0 H (by simp) (by cases l <;> simp)
  simp at hl
  simp [hl, hs']

theorem sp83 (bar : Nat) (H : HB asc h a p q bl l J came) : run S0 bar 83 [.hptr p 1 0 0] h = some (match l with
    | [] => .tup [.nils, .bool false]
    | x :: _ => .tup [.isl (encL x.e x.t) 3 x.cap, .bool true], h) := by
  refine run_code (sf := F83) rfl ?_
  rw [evBody_eq _ _ _ _ _ rfl]
  have hp := H.hp
  cases l with
  | nil => simp [hp]
  | cons x l =>
    have A := H.addr (i := 0) (by simp)
    have G := H.get (i := 0) (by simp)
    have L := H.len
    have hq := H.hq
    simp only [List.getElem_cons_zero, encIt] at G
    generalize (x :: l).map encIt ++ J = R at *
    simp at A
    have hne : ¬ ((l.length : Int) + 1 = 0) := by omega
    simp [hp, hne, A, hq, L, G]

theorem get0 {x : It} {l : List It} {y : It} (hy : (x :: l).getLast? = some y) : (x :: l)[l.length]? = some y := by
  rw [List.getLast?_eq_getElem?] at hy
  simpa using hy

/-- the first goes -/
theorem sp6_nil (bar : Nat) (H : HB asc h a p q bl [] J came) : run S0 bar 6 [.hptr p 1 0 0] h = some (.tup [.nils, .bool false], h) := by
  refine run_code (sf := F6) rfl ?_
  rw [evBody_eq _ _ _ _ _ rfl]
  have h83 := fun bar => sp83 bar H
  simp at h83
  simp [h83]

/-- what is left, as it lies there: the last one stands behind -/
def popL (asc : Bool) (x : It) (l : List It) : List It := match l.getLast? with
  | none => []
  | some y => downF (ahIt asc) l.length (y :: l.dropLast) 0

def popJ (x : It) (l : List It) (J : List (List AV)) : List (List AV) := match l.getLast? with
  | none => encIt x :: J
  | some y => encIt y :: J

theorem popL_len (x : It) (l : List It) : (popL asc x l).length = l.length := by
  unfold popL
  cases hl : l.getLast? with
  | none =>
    have : l = [] := by simpa using hl
    subst this
    rfl
  | some y =>
    rw [(downF_perm _ _ _ _).length_eq]
    have : l ≠ [] := by intro e; subst e; simp at hl
    have := List.length_pos_iff.2 this
    simp; omega

theorem sp6 (bar : Nat) (hbar : bar ≤ q) (hbp : bar ≤ p) {x : It} (H : HB asc h a p q bl (x :: l) J came) :
    run S0 bar 6 [.hptr p 1 0 0] h = some (.tup [.isl (encL x.e x.t) 3 x.cap, .bool true], (h.set q (.row 2 ((popL asc x l).map encIt ++ popJ x l J))).set p (.row 3 [[.hsl q bl 0 l.length 2 none, .fn 81 [] [.hptr a 1 0 0], .int .i64 came]])) := by
  have hLIM : LIM = 4294967296 := rfl
  have hle := H.le
  have hb := H.hb
  simp only [List.length_cons] at hb
  -- what the row holds behind the move
  obtain ⟨M, hM, hMl, hMv⟩ : ∃ M : List It, M.length = l.length ∧ ((x :: l).map encIt ++ J).set 0 (encIt ((x :: l).getLast (by simp))) = M.map encIt ++ popJ x l J ∧ (downF (ahIt asc) M.length M 0) = popL asc x l := by
    unfold popL popJ
    cases hl : l.getLast? with
    | none =>
      have : l = [] := by simpa using hl
      subst this
      exact ⟨[], rfl, by simp, rfl⟩
    | some y =>
      have hne : l ≠ [] := by intro e; subst e; simp at hl
      have hy : l.getLast hne = y := by rw [List.getLast?_eq_some_getLast hne] at hl; simpa using hl
      have hsp : l = l.dropLast ++ [y] := by rw [← hy, List.dropLast_concat_getLast]
      have hpos := List.length_pos_iff.2 hne
      refine ⟨y :: l.dropLast, by simp; omega, ?_, by simp; congr 1; omega⟩
      have e1 : (x :: l).getLast (by simp) = y := by rw [List.getLast_cons hne, hy]
      rw [e1]
      simp only [List.map_cons, List.cons_append, List.set_cons_zero]
      congr 1
      conv => lhs; rw [hsp]
      simp
  have hg : ((x :: l).map encIt ++ J)[l.length]? = some (encIt ((x :: l).getLast (by simp))) := by
    rw [List.getElem?_append_left (by simp), List.getElem?_map]
    have : (x :: l)[l.length]? = some ((x :: l).getLast (by simp)) := by
      rw [List.getLast_eq_getElem]
      simp
    rw [this]
    rfl
  generalize (x :: l).getLast (by simp) = Y at *
  have h83 := fun bar => sp83 bar H
  simp only at h83
  have A0 := H.addr (i := 0) (by simp)
  have A1 := H.addr (i := l.length) (by simp)
  have L := H.len
  have hq := H.hq
  have hp := H.hp
  have hlt := H.lt
  have hpl : p < h.length := (List.getElem?_eq_some_iff.1 hp).1
  have G0 : ((x :: l).map encIt ++ J)[0]? = some (encIt x) := by simp
  have hset : ∀ y : ABlk, (h.set q y)[q]? = some y := fun y => by simp [hlt]
  have hsetp : ∀ y : ABlk, (h.set q y)[p]? = some (.row 3 [[.hsl q bl 0 (x :: l).length 2 none, .fn 81 [] [.hptr a 1 0 0], .int .i64 came]]) := fun y => by rw [List.getElem?_set_ne H.pq.symm]; exact hp
  have hset2 : ∀ y z : ABlk, ((h.set q y).set p z)[p]? = some z := fun y z => by simp [hpl]
  have L2 : (M.map encIt ++ popJ x l J).length = bl := by rw [← hMl]; simpa using L
  -- the heap behind the move
  have H2 : HB asc ((h.set q (.row 2 (M.map encIt ++ popJ x l J))).set p (.row 3 [[.hsl q bl 0 l.length 2 none, .fn 81 [] [.hptr a 1 0 0], .int .i64 came]])) a p q bl M (popJ x l J) came := by
    refine ⟨?_, ?_, ?_, ?_, H.aq, H.pq, H.ap, H.le⟩
    · rw [List.getElem?_set_ne H.ap.symm, List.getElem?_set_ne H.aq.symm]; exact H.ha
    · rw [hset2, hM]
    · rw [List.getElem?_set_ne H.pq]; exact hset _
    · rw [← L2]; simp
  have h12 := fun bar hb => sp12 (asc := asc) bar (q := q) hb H2
  rw [hMv, List.set_comm _ _ H.pq, List.set_set] at h12
  have h12 := h12 bar hbar
  have hr : heapRow (h.set q (.row 2 (M.map encIt ++ popJ x l J))) q bl 2 = some (M.map encIt ++ popJ x l J) := heapRow_eq (hset _) L2
  generalize M.map encIt ++ popJ x l J = R2 at *
  generalize hR : (x :: l).map encIt ++ J = R at *
  generalize (popL asc x l).map encIt ++ popJ x l J = R3 at *
  simp only [encIt] at hg G0 hMl
  have w1 : IntKind.i64.wrap (l.length : Int) = (l.length : Int) := wrap64 (by omega) (by omega)
  have g1 : l.length + 1 ≤ bl := by omega
  have g2 : l.length ≤ bl := by omega
  refine run_code (sf := F6) rfl ?_
  rw [evBody_eq _ _ _ _ _ rfl]
  simp at A0 A1 hp hsetp
  simp [h83, hp, w1, A0, A1, hq, L, L2, hg, G0, hMl, hset, hsetp, hset2, hbar, hbp, aslice, hr, atop, g1, g2, h12]

/-- what else lies there is as it was -/
def KeepsB (p q : Nat) (h h' : AHeap) : Prop := h'.length = h.length ∧ ∀ b, b ≠ p → b ≠ q → h'[b]? = h[b]?

theorem keeps_set2 (h : AHeap) (p q : Nat) (y z : ABlk) : KeepsB p q h ((h.set q y).set p z) :=
  ⟨by simp, fun b h1 h2 => by rw [List.getElem?_set_ne (fun e => h1 e.symm), List.getElem?_set_ne (fun e => h2 e.symm)]⟩

theorem HB.move (H : HB asc h a p q bl l J came) {l' : List It} {J' : List (List AV)} {bl' : Nat} {came' : Int} (hb : bl' = l'.length + J'.length) (hle : bl' ≤ LIM) :
    HB asc ((h.set q (.row 2 (l'.map encIt ++ J'))).set p (.row 3 [[.hsl q bl' 0 l'.length 2 none, .fn 81 [] [.hptr a 1 0 0], .int .i64 came']])) a p q bl' l' J' came' := by
  have hpl : p < h.length := (List.getElem?_eq_some_iff.1 H.hp).1
  have hlt := H.lt
  refine ⟨?_, ?_, ?_, hb, H.aq, H.pq, H.ap, hle⟩
  · rw [List.getElem?_set_ne H.ap.symm, List.getElem?_set_ne H.aq.symm]; exact H.ha
  · simp [hpl]
  · rw [List.getElem?_set_ne H.pq]; simp [hlt]

theorem pop_ex (bar : Nat) (hbar : bar ≤ q) (hbp : bar ≤ p) {x : It} (H : HB asc h a p q bl (x :: l) J came) :
    ∃ h', run S0 bar 6 [.hptr p 1 0 0] h = some (.tup [.isl (encL x.e x.t) 3 x.cap, .bool true], h') ∧ HB asc h' a p q bl (popL asc x l) (popJ x l J) came ∧ KeepsB p q h h' := by
  refine ⟨_, sp6 bar hbar hbp H, ?_, keeps_set2 _ _ _ _ _⟩
  have e : l.length = (popL asc x l).length := (popL_len x l).symm
  rw [e]
  refine H.move ?_ H.le
  rw [popL_len]
  have hb := H.hb
  unfold popJ
  cases l.getLast? <;> simp at hb ⊢ <;> omega

theorem push_ex (bar : Nat) (hbar : bar ≤ q) (hbp : bar ≤ p) (H : HB asc h a p q bl l J came) (e : Ent) (t : List Ent) (cap c : Option Nat) (hlim : l.length + 1 ≤ LIM) (hc0 : 0 ≤ came) (hc : came ≤ LIM) :
    ∃ h' bl', run S0 bar 8 [.hptr p 1 0 0, .isl [[.isl (encL e t) 3 cap]] 1 c] h = some (.tup [], h') ∧ HB asc h' a p q bl' (upF (ahIt asc) l.length (l ++ [⟨e, t, cap, came⟩]) l.length) (J.drop 1) (came + 1) ∧ KeepsB p q h h' := by
  have hLIM : LIM = 4294967296 := rfl
  have hb := H.hb
  have hle := H.le
  have L := H.len
  have hp := H.hp
  have hq := H.hq
  have hr := H.row
  have hlt := H.lt
  have hpl : p < h.length := (List.getElem?_eq_some_iff.1 hp).1
  let x : It := ⟨e, t, cap, came⟩
  let bl' := l.length + 1 + (J.drop 1).length
  have hble : bl' ≤ LIM := by simp only [bl', List.length_drop]; omega
  have H2 : HB asc ((h.set q (.row 2 ((l ++ [x]).map encIt ++ J.drop 1))).set p (.row 3 [[.hsl q bl' 0 (l ++ [x]).length 2 none, .fn 81 [] [.hptr a 1 0 0], .int .i64 (came + 1)]])) a p q bl' (l ++ [x]) (J.drop 1) (came + 1) := H.move (by simp [bl']) hble
  have h14 := sp14 (asc := asc) bar hbar H2 l.length (by simp)
  have hul : (upF (ahIt asc) l.length (l ++ [x]) l.length).length = (l ++ [x]).length := (upF_perm _ _ _ _).length_eq
  refine ⟨_, bl', ?_, H2.set hul, ?_⟩
  rotate_left
  · refine ⟨by simp, fun b h1 h2 => ?_⟩
    rw [List.getElem?_set_ne (fun e => h2 e.symm), List.getElem?_set_ne (fun e => h1 e.symm), List.getElem?_set_ne (fun e => h2 e.symm)]
  · have hap : aappend 2 bar h (.hsl q bl 0 l.length 2 none) [encIt x] = some (.hsl q bl' 0 (l.length + 1) 2 none, h.set q (.row 2 ((l ++ [x]).map encIt ++ J.drop 1))) := by
      cases J with
      | nil =>
        simp at hb L
        have e1 : bl' = l.length + 1 := by simp [bl']
        rw [e1]
        simp only [aappend, hr, if_true, Option.bind_some, List.append_nil, List.length_cons, List.length_nil, Nat.zero_add]
        simp [hlim, hbar, show ¬ (l.length + 1 ≤ l.length) by omega, List.take_of_length_le]
      | cons j J =>
        have e1 : bl' = bl := by simp [bl'] at hb ⊢; omega
        rw [e1]
        have hlen : l.length + 1 ≤ l.length + (J.length + 1) := by omega
        have hput : putEls (l.map encIt ++ j :: J) l.length [encIt x] = (l ++ [x]).map encIt ++ J := by
          have e2 : (l.map encIt).length = l.length := by simp
          rw [putEls, ← e2, List.take_left, ← List.drop_drop, List.drop_left]
          simp
        simp only [aappend, hr, if_true, Option.bind_some, List.length_cons, List.length_nil, Nat.zero_add, hput]
        simp [hlim, hbar]
    simp only [encIt, x] at hap
    have w1 : IntKind.i64.wrap (came + 1) = came + 1 := wrap64 (by omega) (by omega)
    have w2 : IntKind.i64.wrap (l.length : Int) = (l.length : Int) := wrap64 (by omega) (by omega)
    generalize hX : (l ++ [x]).map encIt ++ J.drop 1 = R2 at *
    have hLx : (l ++ [x]).length = l.length + 1 := by simp
    rw [hLx] at h14
    generalize hU : (upF (ahIt asc) l.length (l ++ [x]) l.length).map encIt ++ J.drop 1 = R3 at *
    rw [hLx]
    have hset : ∀ y : ABlk, (h.set q y)[q]? = some y := fun y => by simp [hlt]
    have hsetp : ∀ y : ABlk, (h.set q y)[p]? = some (.row 3 [[.hsl q bl 0 l.length 2 none, .fn 81 [] [.hptr a 1 0 0], .int .i64 came]]) := fun y => by rw [List.getElem?_set_ne H.pq.symm]; exact hp
    have hset2 : ∀ y z : ABlk, ((h.set q y).set p z)[p]? = some z := fun y z => by simp [hpl]
    generalize bl' = bl2 at *
    refine run_code (sf := F8) rfl ?_
    rw [evBody_eq _ _ _ _ _ rfl]
    simp
    rw [evL_rnd]
    simp [hp, abuild, abslice, hap, hset, hsetp, hset2, hbp, w1, w2, h14]
    rw [evL_rnd]
    simp [show IntKind.i64.wrap (1 : Int) = 1 from rfl]

/-- the first that comes -/
theorem push0_ex (bar : Nat) (hbp : bar ≤ p) (hpa : a ≠ p) (ha : h[a]? = some (.row 1 [[fnA asc]])) (hp : h[p]? = some (.row 3 [[.nils, .fn 81 [] [.hptr a 1 0 0], .int .i64 0]])) (e : Ent) (t : List Ent) (cap c : Option Nat) :
    ∃ h', run S0 bar 8 [.hptr p 1 0 0, .isl [[.isl (encL e t) 3 cap]] 1 c] h = some (.tup [], h') ∧ HB asc h' a p h.length 1 [⟨e, t, cap, 0⟩] [] 1 ∧ h'.length = h.length + 1 ∧ ∀ b, b < h.length → b ≠ p → h'[b]? = h[b]? := by
  have hLIM : LIM = 4294967296 := rfl
  have hpl : p < h.length := (List.getElem?_eq_some_iff.1 hp).1
  have hal : a < h.length := (List.getElem?_eq_some_iff.1 ha).1
  let h1 : AHeap := (h.set p (.row 3 [[.hsl h.length 1 0 1 2 none, .fn 81 [] [.hptr a 1 0 0], .int .i64 1]])) ++ [.row 2 [encIt ⟨e, t, cap, 0⟩]]
  have H1 : HB asc h1 a p h.length 1 [⟨e, t, cap, 0⟩] [] 1 := by
    refine ⟨?_, ?_, ?_, rfl, by omega, by omega, hpa, by simp [LIM]⟩
    · show (_ ++ _)[a]? = _
      rw [List.getElem?_append_left (by simpa using hal), List.getElem?_set_ne hpa.symm]; exact ha
    · show (_ ++ _)[p]? = _
      rw [List.getElem?_append_left (by simpa using hpl)]; simp [hpl]
    · show (_ ++ _)[h.length]? = _
      rw [List.getElem?_append_right (by simp)]; simp
  refine ⟨h1, ?_, H1, by simp [h1], fun b hb hne => ?_⟩
  · have h14 := sp14 (asc := asc) bar (q := h.length) (by omega) H1 0 (by simp)
    have es : h1.set h.length (.row 2 ((upF (ahIt asc) 0 [⟨e, t, cap, 0⟩] 0).map encIt ++ [])) = h1 := set_same H1.hq
    rw [es] at h14
    have w1 : IntKind.i64.wrap (1 : Int) = 1 := rfl
    have hset2 : ∀ y z : ABlk, (((h ++ [y]).set p z))[p]? = some z := fun y z => List.getElem?_set_self (by rw [List.length_append]; omega)
    have hg : ∀ y : ABlk, (h ++ [y])[p]? = some (.row 3 [[.nils, .fn 81 [] [.hptr a 1 0 0], .int .i64 0]]) := fun y => by rw [List.getElem?_append_left hpl]; exact hp
    have eh : (h ++ [ABlk.row 2 [encIt ⟨e, t, cap, 0⟩]]).set p (.row 3 [[.hsl h.length 1 0 1 2 none, .fn 81 [] [.hptr a 1 0 0], .int .i64 1]]) = h1 := by
      rw [List.set_append_left _ _ hpl]
    simp only [encIt] at eh
    refine run_code (sf := F8) rfl ?_
    rw [evBody_eq _ _ _ _ _ rfl]
    simp
    rw [evL_rnd]
    have hone : 1 ≤ LIM := by simp [LIM]
    have hp1 := H1.hp
    simp at hp1 h14
    clear_value h1
    simp [hp, abuild, abslice, aappend, hone, hg, hset2, hbp, w1, eh, hp1, show IntKind.i64.wrap (0 : Int) = 0 from rfl, h14]
    rw [evL_rnd]
    simp [w1]
  · show (_ ++ _)[b]? = _
    rw [List.getElem?_append_left (by simpa using hb), List.getElem?_set_ne (fun e => hne e.symm)]
end
end Go.Ai
/-
  What the functions come to: a heap of entries.
-/
namespace Go.Ai
set_option linter.unusedSimpArgs false
set_option linter.unusedVariables false

/-- an entry in the heap, and which one it is -/
structure Ie where
  e : Ent
  at_ : Int
@[simp] def encIe (x : Ie) : List AV := [.int .i64 x.e.ts, x.e.lb.av encPr 2, .str x.e.line, .int .i64 x.at_]

def ahIe (asc : Bool) (x y : Ie) : Bool := aheadEnt asc x.e y.e || (!aheadEnt asc y.e x.e && decide (x.at_ < y.at_))
def keyIe (x : Ie) : Key × Int := (keyEnt x.e, x.at_)

theorem ahIe_iff (asc : Bool) (x y : Ie) : ahIe asc x y = true ↔ cIt asc (keyIe x) (keyIe y) < 0 :=
  ahIt_iff asc ⟨x.e, [], none, x.at_⟩ ⟨y.e, [], none, y.at_⟩

theorem ahIe_pre (asc : Bool) : Pre (ahIe asc) where
  tr x y z h1 h2 := (ahIt_pre asc).tr ⟨x.e, [], none, x.at_⟩ ⟨y.e, [], none, y.at_⟩ ⟨z.e, [], none, z.at_⟩ h1 h2
  as x y h := (ahIt_pre asc).as ⟨x.e, [], none, x.at_⟩ ⟨y.e, [], none, y.at_⟩ h

/-- how it lies in the heap -/
structure HC (asc : Bool) (h : AHeap) (p q : Nat) (l : List Ie) (came : Int) : Prop where
  hp : h[p]? = some (.row 3 [[.hsl q l.length 0 l.length 4 none, .fn 79 [] [.iptr [.bool asc] 0], .int .i64 came]])
  hq : h[q]? = some (.row 4 (l.map encIe))
  pq : p ≠ q
  le : l.length ≤ LIM

section
variable {asc : Bool} {h : AHeap} {p q : Nat} {l : List Ie} {came : Int}

theorem HC.set (H : HC asc h p q l came) {l' : List Ie} (hl : l'.length = l.length) : HC asc (h.set q (.row 4 (l'.map encIe))) p q l' came where
  hp := by rw [List.getElem?_set_ne H.pq.symm, hl]; exact H.hp
  hq := by
    have := (List.getElem?_eq_some_iff.1 H.hq).1
    simp [this]
  pq := H.pq
  le := by rw [hl]; exact H.le

theorem HC.row (H : HC asc h p q l came) : heapRow h q l.length 4 = some (l.map encIe) := heapRow_eq H.hq (by simp)
theorem HC.len (H : HC asc h p q l came) : (l.map encIe).length = l.length := by simp
theorem HC.get (H : HC asc h p q l came) {i : Nat} (hi : i < l.length) : (l.map encIe)[i]? = some (encIe l[i]) := by simp [hi]
theorem HC.addr (H : HC asc h p q l came) {i : Nat} (hi : i < l.length) : aiaddr h none 4 (.hsl q l.length 0 l.length 4 none) (i : Int) = some (.hptr q l.length i 0) := by
  rw [aiaddr_hsl, H.row, if_pos hi]
  simp
theorem HC.lt (H : HC asc h p q l came) : q < h.length := (List.getElem?_eq_some_iff.1 H.hq).1

theorem sp89 (bar : Nat) (H : HC asc h p q l came) {i j : Nat} (hi : i < l.length) (hj : j < l.length) :
    run S0 bar 89 [.hptr p 1 0 0, .int .i64 i, .int .i64 j] h = some (.bool (ahAt (ahIe asc) l i j), h) := by
  refine run_code (sf := F89) rfl ?_
  rw [evBody_eq _ _ _ _ _ rfl]
  have A1 := H.addr hi
  have A2 := H.addr hj
  have G1 := H.get hi
  have G2 := H.get hj
  have L := H.len
  have eah : ahAt (ahIe asc) l i j = ahIe asc l[i] l[j] := by
    unfold ahAt
    rw [List.getElem?_eq_getElem hi, List.getElem?_eq_getElem hj]
  rw [eah]
  unfold ahIe
  generalize l[i] = X at *
  generalize l[j] = Y at *
  have hq := H.hq
  generalize l.map encIe = R at *
  simp only [encIe] at G1 G2
  cases c1 : aheadEnt asc X.e Y.e with
  | true => simp [H.hp, A1, A2, hq, L, G1, G2, c1]
  | false =>
    cases c2 : aheadEnt asc Y.e X.e with
    | true => simp [H.hp, A1, A2, hq, L, G1, G2, c1, c2]
    | false => simp [H.hp, A1, A2, hq, L, G1, G2, c1, c2]

theorem HC.swp (H : HC asc h p q l came) {i j : Nat} (hi : i < l.length) (hj : j < l.length) :
    ((l.map encIe).set i (encIe l[j])).set j (encIe l[i]) = (swp l i j).map encIe := by
  rw [swp_eq hi hj]
  simp

/-- going up -/
theorem loop16 (bar : Nat) (hbar : bar ≤ q) : ∀ (n : Nat) (h : AHeap) (l : List Ie) (k : Nat) (H : HC asc h p q l came), k ≤ n → k < l.length → ∃ k' : Nat,
    evL (run S0 bar) bar F16_l3 [0, 1] ⟨[(0, .hptr p 1 0 0), (1, .int .i64 k)], [], h⟩ = some (.exit 0, ⟨[(0, .hptr p 1 0 0), (1, .int .i64 k'), (13, .bool false)], [], h.set q (.row 4 ((upF (ahIe asc) n l k).map encIe))⟩) := by
  have hLIM : LIM = 4294967296 := rfl
  intro n
  induction n with
  | zero =>
    intro h l k H hk hkl
    have e : k = 0 := by omega
    subst e
    refine ⟨0, ?_⟩
    have es : h.set q (.row 4 ((upF (ahIe asc) 0 l 0).map encIe)) = h := set_same H.hq
    rw [es, evL_rnd]
    simp
  | succ n ih =>
    intro h l k H hk hkl
    by_cases hk0 : k = 0
    · subst hk0
      refine ⟨0, ?_⟩
      have e1 : upF (ahIe asc) (n + 1) l 0 = l := by simp [upF]
      have es : h.set q (.row 4 (l.map encIe)) = h := set_same H.hq
      rw [e1, es, evL_rnd]
      simp
    · have hk1 : 0 < k := by omega
      have hk2 : (0 : Int) < (k : Int) := by omega
      have hle := H.le
      have w1 : IntKind.i64.wrap ((k : Int) - 1) = ((k - 1 : Nat) : Int) := by rw [wrap64 (by omega) (by omega)]; omega
      have w2 : ((k - 1 : Nat) : Int).tdiv 2 = (((k - 1) / 2 : Nat) : Int) := tdiv_nat (k - 1) 2
      have w3 : IntKind.i64.wrap (((k - 1) / 2 : Nat) : Int) = (((k - 1) / 2 : Nat) : Int) := wrap64 (by omega) (by omega)
      have hp2 : (k - 1) / 2 < l.length := by omega
      have h87 := fun bar => sp89 bar H hkl hp2
      cases c : ahAt (ahIe asc) l k ((k - 1) / 2) with
      | false =>
        rw [c] at h87
        refine ⟨k, ?_⟩
        have e1 : upF (ahIe asc) (n + 1) l k = l := by simp [upF, c]
        have es : h.set q (.row 4 (l.map encIe)) = h := set_same H.hq
        rw [e1, es, evL_rnd]
        generalize (k - 1) / 2 = m at *
        simp [hk2, hk1, w1, w2, w3, h87]
      | true =>
        rw [c] at h87
        have e1 : upF (ahIe asc) (n + 1) l k = upF (ahIe asc) n (Go.Ai.swp l k ((k - 1) / 2)) ((k - 1) / 2) := by simp [upF, c, hk1]
        rw [e1]
        have hsl : (Go.Ai.swp l k ((k - 1) / 2)).length = l.length := swp_len _ _ _
        obtain ⟨k', ih⟩ := ih (h.set q (.row 4 ((Go.Ai.swp l k ((k - 1) / 2)).map encIe))) (Go.Ai.swp l k ((k - 1) / 2)) ((k - 1) / 2) (H.set hsl) (by omega) (by rw [hsl]; exact hp2)
        rw [List.set_set] at ih
        refine ⟨k', ?_⟩
        have A1 := H.addr hkl
        have A2 := H.addr hp2
        have G1 := H.get hkl
        have G2 := H.get hp2
        have L := H.len
        have hq := H.hq
        have hsw := H.swp hkl hp2
        have hne : k ≠ (k - 1) / 2 := by omega
        have hlt := H.lt
        generalize (k - 1) / 2 = m at *
        generalize (Go.Ai.swp l k m).map encIe = R2 at *
        generalize hR : l.map encIe = R at *
        have hset : ∀ y : ABlk, (h.set q y)[q]? = some y := fun y => by simp [hlt]
        have G3 : (R.set k (encIe l[m]))[m]? = some (encIe l[m]) := by rw [List.getElem?_set_ne hne]; exact G2
        have A3 : aiaddr (h.set q (.row 4 (R.set k (encIe l[m])))) none 4 (.hsl q l.length 0 l.length 4 none) (m : Int) = some (.hptr q l.length m 0) := by
          have hr : heapRow (h.set q (.row 4 (R.set k (encIe l[m])))) q l.length 4 = some (R.set k (encIe l[m])) := heapRow_eq (hset _) (by simpa using L)
          rw [aiaddr_hsl, hr, if_pos hp2]
          simp [L]
        generalize l[k] = X at *
        generalize l[m] = Y at *
        simp only [encIe] at G1 G2 G3 A3 hsw
        rw [evL_rnd]
        simp [hk2, hk1, w1, w2, w3, h87, H.hp, A1, A2, A3, hq, L, G1, G2, G3, hset, hsw, hbar]
        exact ih

theorem sp16 (bar : Nat) (hbar : bar ≤ q) (H : HC asc h p q l came) (k : Nat) (hk : k < l.length) :
    run S0 bar 16 [.hptr p 1 0 0, .int .i64 k] h = some (.tup [], h.set q (.row 4 ((upF (ahIe asc) k l k).map encIe))) := by
  refine run_code (sf := F16) rfl ?_
  rw [evBody_eq _ _ _ _ _ rfl]
  obtain ⟨k', hl⟩ := loop16 bar hbar k h l k H (Nat.le_refl _) hk
  simp [hl]

theorem sp85 (bar : Nat) {x : Ie} (H : HC asc h p q (x :: l) came) : run S0 bar 85 [.hptr p 1 0 0] h = some (.tup [.agg [.int .i64 x.e.ts, x.e.lb.av encPr 2, .str x.e.line], .bool true], h) := by
  refine run_code (sf := F85) rfl ?_
  rw [evBody_eq _ _ _ _ _ rfl]
  have hp := H.hp
  have A := H.addr (i := 0) (by simp)
  have hq := H.hq
  simp at A hq
  have hne : ¬ ((l.length : Int) + 1 = 0) := by omega
  simp [hp, hne, A, hq]

theorem sp85_nil (bar : Nat) (hp : h[p]? = some (.row 3 [[.nils, .fn 79 [] [.iptr [.bool asc] 0], .int .i64 0]])) : run S0 bar 85 [.hptr p 1 0 0] h = some (.tup [.agg [.int .i64 0, .nils, .str []], .bool false], h) := by
  refine run_code (sf := F85) rfl ?_
  rw [evBody_eq _ _ _ _ _ rfl]
  simp [hp]
end

/-- the heap behind some that came -/
def heapE (asc : Bool) (h : AHeap) (l : List Ie) : AHeap := match l with
  | [] => h ++ [.row 3 [[.nils, .fn 79 [] [.iptr [.bool asc] 0], .int .i64 0]]]
  | x :: l => h ++ [.row 3 [[.hsl (h.length + 1) (l.length + 1) 0 (l.length + 1) 4 none, .fn 79 [] [.iptr [.bool asc] 0], .int .i64 (l.length + 1 : Nat)]], .row 4 ((x :: l).map encIe)]

def pushE (asc : Bool) (l : List Ie) (e : Ent) : List Ie := upF (ahIe asc) l.length (l ++ [⟨e, l.length⟩]) l.length

theorem pushE_len (asc : Bool) (l : List Ie) (e : Ent) : (pushE asc l e).length = l.length + 1 := by
  unfold pushE
  rw [(upF_perm _ _ _ _).length_eq]
  simp

theorem heapE_hc {asc : Bool} {h : AHeap} {x : Ie} {l : List Ie} (hl : l.length + 1 ≤ LIM) : HC asc (heapE asc h (x :: l)) h.length (h.length + 1) (x :: l) (l.length + 1 : Nat) :=
  ⟨by simp [heapE], by simp [heapE], by omega, hl⟩


theorem heapE_push (asc : Bool) (h : AHeap) (l : List Ie) (e : Ent) (hl : l.length + 1 ≤ LIM) : ∃ y z, pushE asc l e = y :: z := by
  have := pushE_len asc l e
  cases h : pushE asc l e with
  | nil => rw [h] at this; simp at this
  | cons y z => exact ⟨y, z, rfl⟩

/-- the entries come, one by one -/
theorem loop10 (asc : Bool) (h : AHeap) (v : AV) (els : List Ent) (H : RSl h 3 v (els.map encEnt)) (hle : els.length ≤ LIM) : ∀ (l' : List Ent) (i : Nat) (l : List Ie), els.drop i = l' → i ≤ els.length → l.length = i →
    evL (run S0 h.length) h.length F10_l7 [0, 6, 7, 8] ⟨[(0, .hptr h.length 1 0 0), (6, v), (7, .int .i64 els.length), (8, .int .i64 i)], [], heapE asc h l⟩ =
      some (.exit 0, ⟨[(0, .hptr h.length 1 0 0), (6, v), (7, .int .i64 els.length), (8, .int .i64 els.length), (9, .bool false)], [], heapE asc h (l'.foldl (pushE asc) l)⟩) := by
  have hLIM : LIM = 4294967296 := rfl
  intro l'
  induction l' with
  | nil =>
    intro i l hd hi hl
    have e := dropn hd hi
    subst e
    rw [evL_rnd]
    simp [H.plain, H.clean]
  | cons e l' ih =>
    intro i l hd hi hl
    obtain ⟨h3, h1, h2⟩ := dropc hd
    have ih := ih (i + 1) (pushE asc l e) h2 h3 (by rw [pushE_len]; omega)
    rw [List.foldl_cons, evL_rnd]
    have hw := wrap_succ h3 hle
    have hB : ∀ G, aiaddr (h ++ G) none 3 v (i : Int) = some (addrOf v i) := fun G => by rw [H.addr G i]; simp [h3]
    have hBl := fun env vars G n => H.load env vars G n i (by simpa using h3)
    have C0 := H.ok i (by simpa using h3)
    have hel : (els.map encEnt)[i]'(by simpa using h3) = encEnt e := by simp [h1]
    have hLp : (l ++ [(⟨e, l.length⟩ : Ie)]).length = l.length + 1 := by simp
    cases l with
    | nil =>
      simp at hl
      subst hl
      have H1 : HC asc (heapE asc h [⟨e, 0⟩]) h.length (h.length + 1) [⟨e, 0⟩] 1 := heapE_hc (l := []) (by simp [LIM])
      have h16 := sp16 h.length (by omega) H1 0 (by simp)
      have es : (heapE asc h [⟨e, 0⟩]).set (h.length + 1) (.row 4 ((upF (ahIe asc) 0 [(⟨e, 0⟩ : Ie)] 0).map encIe)) = heapE asc h [⟨e, 0⟩] := set_same H1.hq
      rw [es] at h16
      have ep : pushE asc [] e = [⟨e, 0⟩] := rfl
      rw [ep] at ih ⊢
      have hone : 1 ≤ LIM := by simp [LIM]
      have w1 : IntKind.i64.wrap (1 : Int) = 1 := rfl
      have w0 : IntKind.i64.wrap (0 : Int) = 0 := rfl
      simp only [heapE] at h16 ⊢
      have ih' : evL (run S0 h.length) h.length F10_l7 [0, 6, 7, 8] ⟨[(0, .hptr h.length 1 0 0), (6, v), (7, .int .i64 els.length), (8, .int .i64 1)], [], h ++ [.row 3 [[.hsl (h.length + 1) 1 0 1 4 none, .fn 79 [] [.iptr [.bool asc] 0], .int .i64 1]], .row 4 [[.int .i64 e.ts, e.lb.av encPr 2, .str e.line, .int .i64 0]]]⟩ = _ := ih
      generalize hF : l'.foldl (pushE asc) [(⟨e, 0⟩ : Ie)] = F at *
      simp at h16 hB
      simp [H.plain, H.clean, H.ap, H.ac, h3, hB, hBl, C0, abuild, abslice, aappend, hone, w1, w0, hw, h1, h16]
      exact ih'
    | cons x l =>
      obtain ⟨y, z, hyz⟩ := heapE_push asc h (x :: l) e (by simp at hl ⊢; omega)
      have hyl : z.length = l.length + 1 := by
        have := pushE_len asc (x :: l) e
        rw [hyz] at this
        simpa using this
      have hH1 : HC asc (heapE asc h (x :: l)) h.length (h.length + 1) (x :: l) (l.length + 1 : Nat) := heapE_hc (by simp at hl; omega)
      obtain ⟨G, hG, hGe⟩ : ∃ G, heapE asc h (x :: l) = h ++ G ∧ G = [.row 3 [[.hsl (h.length + 1) (l.length + 1) 0 (l.length + 1) 4 none, .fn 79 [] [.iptr [.bool asc] 0], .int .i64 (l.length + 1 : Nat)]], .row 4 ((x :: l).map encIe)] := ⟨_, rfl, rfl⟩
      rw [hG] at hH1 ⊢
      let n := l.length + 1
      have hn : n = i := hl
      let X : Ie := ⟨e, n⟩
      have hap : aappend 4 h.length (h ++ G) (.hsl (h.length + 1) n 0 n 4 none) [encIe X] = some (.hsl (h.length + 1) (n + 1) 0 (n + 1) 4 none, (h ++ G).set (h.length + 1) (.row 4 ((x :: l ++ [X]).map encIe))) := by
        have hr := hH1.row
        simp only [aappend]
        simp only [List.length_cons] at hr
        rw [hr]
        have g1 : n + 1 ≤ LIM := by omega
        simp [g1, n, List.take_of_length_le]
      have H2 : HC asc (((h ++ G).set (h.length + 1) (.row 4 ((x :: l ++ [X]).map encIe))).set h.length (.row 3 [[.hsl (h.length + 1) (n + 1) 0 (n + 1) 4 none, .fn 79 [] [.iptr [.bool asc] 0], .int .i64 ((n : Int) + 1)]])) h.length (h.length + 1) (x :: l ++ [X]) ((n : Int) + 1) := by
        refine ⟨?_, ?_, by omega, ?_⟩
        · rw [hGe]; simp [n]
        · rw [hGe]; simp
        · simp [n] at hn ⊢; omega
      have h16 := sp16 (asc := asc) h.length (by omega) H2 n (by simp [n])
      have hfin : ((((h ++ G).set (h.length + 1) (.row 4 ((x :: l ++ [X]).map encIe))).set h.length (.row 3 [[.hsl (h.length + 1) (n + 1) 0 (n + 1) 4 none, .fn 79 [] [.iptr [.bool asc] 0], .int .i64 ((n : Int) + 1)]])).set (h.length + 1) (.row 4 ((upF (ahIe asc) n (x :: l ++ [X]) n).map encIe))) = heapE asc h (pushE asc (x :: l) e) := by
        have e1 : upF (ahIe asc) n (x :: l ++ [X]) n = y :: z := by rw [← hyz]; rfl
        rw [e1, hyz, hGe]
        have e2 : ((n : Int) + 1) = ((z.length + 1 : Nat) : Int) := by simp only [n]; omega
        simp only [heapE]
        rw [e2, hyl]
        simp [n]
      rw [hfin] at h16
      have hp := hH1.hp
      have hq := hH1.hq
      simp only [List.length_cons] at hp
      generalize hR2 : (x :: l ++ [X]).map encIe = R2 at *
      simp only [encIe, X] at hap
      generalize hFH : heapE asc h (pushE asc (x :: l) e) = FH at *
      have hGl : G.length = 2 := by rw [hGe]; rfl
      have hset1 : ∀ y : ABlk, ((h ++ G).set (h.length + 1) y)[h.length]? = some (.row 3 [[.hsl (h.length + 1) (l.length + 1) 0 (l.length + 1) 4 none, .fn 79 [] [.iptr [.bool asc] 0], .int .i64 (l.length + 1 : Nat)]]) := fun y => by rw [List.getElem?_set_ne (by omega)]; exact hp
      have hset2 : ∀ y z : ABlk, (((h ++ G).set (h.length + 1) y).set h.length z)[h.length]? = some z := fun y z => by simp [hGl]
      have w1 : IntKind.i64.wrap ((n : Int) + 1) = (n : Int) + 1 := wrap_succ (show n < LIM by omega) (Nat.le_refl _)
      have w2 : IntKind.i64.wrap (n : Int) = (n : Int) := wrap64 (by omega) (by omega)
      have hnn : l.length + 1 = n := rfl
      clear_value n
      clear hG hGe hfin
      have hB := hB G
      have hBl := fun env vars n => hBl env vars G n
      generalize h ++ G = h0 at *
      simp only [hnn] at *
      simp only [List.length_cons] at *
      simp [H.plain, H.clean, H.ap, H.ac, h3, hB, hBl, C0, abuild, abslice, hap, hp, hset1, hset2, w1, w2, hw, h1, h16]
      exact ih

theorem sp10 (asc : Bool) (h : AHeap) (v : AV) (els : List Ent) (H : RSl h 3 v (els.map encEnt)) (hle : els.length ≤ LIM) :
    run S0 h.length 10 [.hptr h.length 1 0 0, v] (heapE asc h []) = some (.tup [], heapE asc h (els.foldl (pushE asc) [])) := by
  have hl := loop10 asc h v els H hle els 0 [] rfl (Nat.zero_le _) rfl
  refine run_code (sf := F10) rfl ?_
  rw [evBody_eq _ _ _ _ _ rfl]
  simp only [heapE] at hl ⊢
  simp at hl
  generalize els.foldl (pushE asc) [] = F at *
  simp [H.plain, H.clean, H.len, hl]

theorem sp26 (asc : Bool) (h : AHeap) (v : AV) (els : List Ent) (H : RSl h 3 v (els.map encEnt)) (hle : els.length ≤ LIM) :
    run S0 h.length 26 [.fn 79 [] [.iptr [.bool asc] 0], v] h = some (.hptr h.length 1 0 0, heapE asc h (els.foldl (pushE asc) [])) := by
  have h10 := sp10 asc h v els H hle
  refine run_code (sf := F26) rfl ?_
  rw [evBody_eq _ _ _ _ _ rfl]
  simp only [heapE] at h10 ⊢
  generalize els.foldl (pushE asc) [] = F at *
  simp [H.plain, H.clean, H.one, H.cells, abuild, h10]
end Go.Ai
/-
  What the functions come to: Sorted, First, Upto.
-/
namespace Go.Ai
set_option linter.unusedSimpArgs false
set_option linter.unusedVariables false

section
variable (bar : Nat) (h : AHeap) (t t' : Int) (s s' : Slc Pr) (x x' : List UInt8) (asc : Bool)
@[simp] theorem sp109 : run S0 bar 109 [.agg [.int .i64 t, s.av encPr 2, .str x], .agg [.int .i64 t', s'.av encPr 2, .str x'], .iptr [.bool asc] 0] h = some (.int .i64 (if aheadEnt asc ⟨t, s, x⟩ ⟨t', s', x'⟩ = true then -1 else 0), h) := by
  refine run_code (sf := F109) rfl ?_
  rw [evBody_eq _ _ _ _ _ rfl]
  cases c : aheadEnt asc ⟨t, s, x⟩ ⟨t', s', x'⟩ <;> simp [c]
end

/-- none stands ahead of the one before it -/
def Adj (asc : Bool) (l : List Ent) : Prop := ∀ (i : Nat) (h : i + 1 < l.length), aheadEnt asc l[i + 1] l[i] = false

theorem loop111 (bar : Nat) (h : AHeap) (asc : Bool) (s : Slc Ent) (ha : Adj asc s.l) : ∀ (i : Nat), i < s.l.length → 
    evL (run S0 bar) bar F111_l6 [0, 1, 5] ⟨[(0, s.av encEnt 3), (1, .fn 109 [] [.iptr [.bool asc] 0]), (5, .int .i64 i)], [], h⟩ =
      some (.exit 0, ⟨[(0, s.av encEnt 3), (1, .fn 109 [] [.iptr [.bool asc] 0]), (5, .int .i64 0), (10, .bool false)], [], h⟩) := by
  have hLIM : LIM = 4294967296 := rfl
  have hle := s.le
  intro i
  induction i with
  | zero =>
    intro hi
    rw [evL_rnd]
    simp
  | succ i ih =>
    intro hi
    have ih := ih (by omega)
    have h1 := ha i hi
    have h0 : 0 < i + 1 := by omega
    have w1 : IntKind.i64.wrap (((i + 1 : Nat) : Int) - 1) = (i : Int) := by rw [wrap64 (by omega) (by omega)]; omega
    have g1 : s.l[i + 1]? = some s.l[i + 1] := List.getElem?_eq_getElem hi
    have g0 : s.l[i]? = some s.l[i] := List.getElem?_eq_getElem (by omega)
    generalize s.l[i + 1] = X at *
    generalize s.l[i] = Y at *
    generalize hk : i + 1 = k at *
    rw [evL_rnd]
    simp [h0, w1, g1, g0, h1]
    exact ih

@[simp] theorem sp111 (bar : Nat) (h : AHeap) (asc : Bool) (s : Slc Ent) (ha : Adj asc s.l) : run S0 bar 111 [s.av encEnt 3, .fn 109 [] [.iptr [.bool asc] 0]] h = some (.bool true, h) := by
  have hLIM : LIM = 4294967296 := rfl
  have hle := s.le
  refine run_code (sf := F111) rfl ?_
  rw [evBody_eq _ _ _ _ _ rfl]
  by_cases q : s.l.length = 0
  · have w1 : IntKind.i64.wrap (-1) = -1 := rfl
    simp [q, w1]
    rw [evL_rnd]
    simp
  · have hl := fun bar => loop111 bar h asc s ha (s.l.length - 1) (by omega)
    have w1 : IntKind.i64.wrap ((s.l.length : Int) - 1) = ((s.l.length - 1 : Nat) : Int) := by rw [wrap64 (by omega) (by omega)]; omega
    simp [w1, hl]

@[simp] theorem sp107 (bar : Nat) (h : AHeap) (asc : Bool) (s : Slc Ent) (ha : Adj asc s.l) : run S0 bar 107 [.bool asc, s.av encEnt 3] h = some (.bool true, h) := by
  refine run_code (sf := F107) rfl ?_
  rw [evBody_eq _ _ _ _ _ rfl]
  simp [sp111 _ h asc s ha]

/-! ### the first of some -/
/-- the heap's first, if there is one -/
def firstE (asc : Bool) (els : List Ent) : Option Ent := (els.foldl (pushE asc) [])[0]?.map (·.e)

theorem sp73 (bar : Nat) (h : AHeap) (asc : Bool) (v : AV) (els : List Ent) (H : RSl h 3 v (els.map encEnt)) (hle : els.length ≤ LIM) :
    run S0 bar 73 [.bool asc, v] h = some (match firstE asc els with
      | some e => .tup [.agg (encEnt e), .bool true]
      | none => .tup [.agg [.int .i64 0, .nils, .str []], .bool false], h) := by
  have h26 := sp26 asc h v els H hle
  refine run_code (sf := F73) rfl ?_
  rw [evBody_eq _ _ _ _ _ rfl]
  unfold firstE
  cases hF : els.foldl (pushE asc) [] with
  | nil =>
    rw [hF] at h26
    have hp : (heapE asc h [])[h.length]? = some (.row 3 [[.nils, .fn 79 [] [.iptr [.bool asc] 0], .int .i64 0]]) := by simp [heapE]
    have h85 := fun bar => sp85_nil bar hp
    generalize hH : heapE asc h [] = H2 at *
    simp [H.plain, H.clean, H.one, H.cells, h26, h85]
  | cons x l =>
    rw [hF] at h26
    have hlen : l.length + 1 ≤ LIM := by
      have e : ∀ (els : List Ent) (a : List Ie), (els.foldl (pushE asc) a).length = a.length + els.length := by
        intro els
        induction els with
        | nil => intro a; rfl
        | cons e els ih => intro a; rw [List.foldl_cons, ih, pushE_len]; simp; omega
      have := e els []
      rw [hF] at this
      simp at this
      omega
    have h85 := fun bar => sp85 bar (heapE_hc (asc := asc) (h := h) (x := x) hlen)
    generalize hH : heapE asc h (x :: l) = H2 at *
    simp [H.plain, H.clean, H.one, H.cells, h26, h85]

/-! ### what is not behind -/
def uptoP (asc : Bool) (e x : Ent) : Bool := !aheadEnt asc e x

theorem loop75 (h : AHeap) (asc : Bool) (e : Ent) (s : Slc Ent) : ∀ (l' : List Ent) (i : Nat) (acc : List Ent), s.l.drop i = l' → i ≤ s.l.length → acc.length ≤ i →
    evL (run S0 h.length) h.length F75_l8 [0, 4, 7, 10, 11, 12] ⟨[(0, .bool asc), (4, .iptr (encEnt e) 0), (7, colAV h 3 (acc.map encEnt)), (10, s.av encEnt 3), (11, .int .i64 s.l.length), (12, .int .i64 i)], [], colH h 3 (acc.map encEnt)⟩ =
      some (.exit 0, ⟨[(0, .bool asc), (4, .iptr (encEnt e) 0), (7, colAV h 3 ((acc ++ l'.filter (uptoP asc e)).map encEnt)), (10, s.av encEnt 3), (11, .int .i64 s.l.length), (12, .int .i64 s.l.length), (13, .bool false)], [], colH h 3 ((acc ++ l'.filter (uptoP asc e)).map encEnt)⟩) := by
  have hLIM : LIM = 4294967296 := rfl
  have hle := s.le
  intro l'
  induction l' with
  | nil =>
    intro i acc hd hi ha
    have e := dropn hd hi
    subst e
    rw [evL_rnd]
    simp
  | cons x l' ih =>
    intro i acc hd hi ha
    obtain ⟨h3, h1, h2⟩ := dropc hd
    have hw := wrap_succ h3 s.le
    rw [evL_rnd, List.filter_cons]
    cases c : aheadEnt asc e x with
    | true =>
      have c1 : uptoP asc e x = false := by simp [uptoP, c]
      have ih := ih (i + 1) acc h2 h3 (by omega)
      rw [c1]
      simp only [Bool.false_eq_true, if_false]
      generalize (acc ++ l'.filter (uptoP asc e)).map encEnt = R at *
      simp [h3, h1, c, hw]
      exact ih
    | false =>
      have c1 : uptoP asc e x = true := by simp [uptoP, c]
      have ih := ih (i + 1) (acc ++ [x]) h2 h3 (by simp; omega)
      have hap := fun y => col_append h 3 (acc.map encEnt) y (by simp; omega)
      rw [List.append_assoc, List.singleton_append] at ih
      rw [c1, if_pos rfl]
      generalize (acc ++ x :: l'.filter (uptoP asc e)).map encEnt = R at *
      have e3 : (acc ++ [x]).map encEnt = acc.map encEnt ++ [encEnt x] := by simp
      rw [e3] at ih
      simp only [encEnt] at ih hap
      generalize acc.map encEnt = A at *
      simp [h3, h1, c, hw, abslice, hap]
      exact ih

def uptoS (asc : Bool) (e : Ent) (s : Slc Ent) : Slc Ent := Slc.ofN (s.l.filter (uptoP asc e)) (Nat.le_trans (List.length_filter_le _ _) s.le)

theorem sp75 (bar : Nat) (h : AHeap) (asc : Bool) (e : Ent) (s : Slc Ent) : run S0 bar 75 [.bool asc, .agg [.int .i64 e.ts, e.lb.av encPr 2, .str e.line], s.av encEnt 3] h = some ((uptoS asc e s).av encEnt 3, h) := by
  refine run_code (sf := F75) rfl ?_
  rw [evBody_eq _ _ _ _ _ rfl]
  have hl := loop75 h asc e s s.l 0 [] rfl (Nat.zero_le _) (Nat.le_refl _)
  simp [colAV_nil, colH_nil] at hl
  unfold uptoS
  revert hl
  have hle : (s.l.filter (uptoP asc e)).length ≤ LIM := Nat.le_trans (List.length_filter_le _ _) s.le
  have : ∀ (p q : (s.l.filter (uptoP asc e)).length ≤ LIM), p = q := fun _ _ => rfl
  show _ → _ = some ((Slc.ofN _ hle).av encEnt 3, h)
  revert hle
  generalize s.l.filter (uptoP asc e) = F
  intro hle hl
  have hf := fun k => col_frz h 3 (E := encEnt) (l := F) (k + 1) (fun x => by simp) hle
  simp [hl, hf]
end Go.Ai
/-
  What the functions come to: merge.All.
-/
namespace Go.Ai
set_option linter.unusedSimpArgs false
set_option linter.unusedVariables false

theorem sp24 (bar : Nat) (h : AHeap) (a : Nat) : run S0 bar 24 [.fn 81 [] [.hptr a 1 0 0], .nils] h = some (.hptr h.length 1 0 0, h ++ [.row 3 [[.nils, .fn 81 [] [.hptr a 1 0 0], .int .i64 0]]]) := by
  have h8 : run S0 bar 8 [.hptr h.length 1 0 0, .nils] (h ++ [.row 3 [[.nils, .fn 81 [] [.hptr a 1 0 0], .int .i64 0]]]) = some (.tup [], h ++ [.row 3 [[.nils, .fn 81 [] [.hptr a 1 0 0], .int .i64 0]]]) := by
    refine run_code (sf := F8) rfl ?_
    rw [evBody_eq _ _ _ _ _ rfl]
    simp
    rw [evL_rnd]
    simp
  refine run_code (sf := F24) rfl ?_
  rw [evBody_eq _ _ _ _ _ rfl]
  simp [abuild, h8]

def pushL (asc : Bool) (l : List It) (x : It) : List It := upF (ahIt asc) l.length (l ++ [x]) l.length
theorem pushL_len (asc : Bool) (l : List It) (x : It) : (pushL asc l x).length = l.length + 1 := by
  unfold pushL
  rw [(upF_perm _ _ _ _).length_eq]
  simp

/-- the heap of lists, behind what was there -/
structure PH (asc : Bool) (h0 h : AHeap) (l : List It) (came : Int) : Prop where
  low : ∀ b, b < h0.length → h[b]? = h0[b]?
  at_ : (l = [] ∧ came = 0 ∧ h = h0 ++ [.row 1 [[fnA asc]], .row 3 [[.nils, .fn 81 [] [.hptr h0.length 1 0 0], .int .i64 0]]]) ∨
    (∃ J bl, HB asc h h0.length (h0.length + 1) (h0.length + 2) bl l J came ∧ h0.length + 3 ≤ h.length)

theorem app_of_low {h0 h : AHeap} (hl : h0.length ≤ h.length) (low : ∀ b, b < h0.length → h[b]? = h0[b]?) : ∃ G, h = h0 ++ G := by
  refine ⟨h.drop h0.length, ?_⟩
  have : h.take h0.length = h0 := by
    apply List.ext_getElem?
    intro i
    rw [List.getElem?_take]
    split
    · rename_i hi
      exact low i hi
    · rename_i hi
      rw [List.getElem?_eq_none (by omega)]
  conv => lhs; rw [← List.take_append_drop h0.length h, this]

section
variable {asc : Bool} {h0 h : AHeap} {l : List It} {came : Int}

theorem PH.len (H : PH asc h0 h l came) : h0.length + 2 ≤ h.length := by
  rcases H.at_ with ⟨_, _, e⟩ | ⟨_, _, _, e⟩
  · rw [e]; simp
  · omega

theorem PH.app (H : PH asc h0 h l came) : ∃ G, h = h0 ++ G := app_of_low (by have := H.len; omega) H.low

/-- a block more, behind -/
theorem PH.snoc (H : PH asc h0 h l came) (hl : h0.length + 3 ≤ h.length) (y : ABlk) : PH asc h0 (h ++ [y]) l came := by
  refine ⟨fun b hb => ?_, ?_⟩
  · rw [List.getElem?_append_left (by omega)]; exact H.low b hb
  · rcases H.at_ with ⟨_, _, e⟩ | ⟨J, bl, HB, e⟩
    · rw [e] at hl; simp at hl
    · refine .inr ⟨J, bl, ⟨?_, ?_, ?_, HB.hb, HB.aq, HB.pq, HB.ap, HB.le⟩, by simp; omega⟩
      · rw [List.getElem?_append_left (by omega)]; exact HB.ha
      · rw [List.getElem?_append_left (by omega)]; exact HB.hp
      · rw [List.getElem?_append_left (by omega)]; exact HB.hq

theorem PH.setO (H : PH asc h0 h l came) (hl : h0.length + 3 ≤ h.length) (y : ABlk) : PH asc h0 (h.set (h0.length + 3) y) l came := by
  refine ⟨fun b hb => ?_, ?_⟩
  · rw [List.getElem?_set_ne (by omega)]; exact H.low b hb
  · rcases H.at_ with ⟨_, _, e⟩ | ⟨J, bl, HB, e⟩
    · rw [e] at hl; simp at hl
    · refine .inr ⟨J, bl, ⟨?_, ?_, ?_, HB.hb, HB.aq, HB.pq, HB.ap, HB.le⟩, by simp; omega⟩
      · rw [List.getElem?_set_ne (by omega)]; exact HB.ha
      · rw [List.getElem?_set_ne (by omega)]; exact HB.hp
      · rw [List.getElem?_set_ne (by omega)]; exact HB.hq

theorem PH.push (H : PH asc h0 h l came) (e : Ent) (t : List Ent) (cap c : Option Nat) (hlim : l.length + 1 ≤ LIM) (hc0 : 0 ≤ came) (hc : came ≤ LIM) :
    ∃ h', run S0 h0.length 8 [.hptr (h0.length + 1) 1 0 0, .isl [[.isl (encL e t) 3 cap]] 1 c] h = some (.tup [], h') ∧ PH asc h0 h' (pushL asc l ⟨e, t, cap, came⟩) (came + 1) ∧
      h'.length = max h.length (h0.length + 3) ∧ ∀ b, h0.length + 3 ≤ b → h'[b]? = h[b]? := by
  rcases H.at_ with ⟨rfl, rfl, eh⟩ | ⟨J, bl, HB, hl⟩
  · have ha : h[h0.length]? = some (.row 1 [[fnA asc]]) := by rw [eh]; simp
    have hp : h[h0.length + 1]? = some (.row 3 [[.nils, .fn 81 [] [.hptr h0.length 1 0 0], .int .i64 0]]) := by rw [eh]; simp
    have hlen : h.length = h0.length + 2 := by rw [eh]; simp
    obtain ⟨h', h1, h2, h3, h4⟩ := push0_ex (asc := asc) h0.length (p := h0.length + 1) (a := h0.length) (by omega) (by omega) ha hp e t cap c
    rw [hlen] at h2
    refine ⟨h', h1, ⟨fun b hb => ?_, .inr ⟨[], 1, h2, by omega⟩⟩, by omega, fun b hb => ?_⟩
    · rw [h4 b (by omega) (by omega)]; exact H.low b hb
    · rw [List.getElem?_eq_none (by omega), List.getElem?_eq_none (by omega)]
  · obtain ⟨h', bl', h1, h2, h3, h4⟩ := push_ex h0.length (by omega) (by omega) HB e t cap c hlim hc0 hc
    refine ⟨h', h1, ⟨fun b hb => ?_, .inr ⟨J.drop 1, bl', h2, by omega⟩⟩, by omega, fun b hb => ?_⟩
    · rw [h4 b (by omega) (by omega)]; exact H.low b hb
    · rw [h4 b (by omega) (by omega)]

theorem PH.pop_nil (H : PH asc h0 h [] came) : run S0 h0.length 6 [.hptr (h0.length + 1) 1 0 0] h = some (.tup [.nils, .bool false], h) := by
  rcases H.at_ with ⟨_, _, eh⟩ | ⟨J, bl, HB, hl⟩
  · have hp : h[h0.length + 1]? = some (.row 3 [[.nils, .fn 81 [] [.hptr h0.length 1 0 0], .int .i64 0]]) := by rw [eh]; simp
    have h83 : ∀ bar, run S0 bar 83 [.hptr (h0.length + 1) 1 0 0] h = some (.tup [.nils, .bool false], h) := fun bar => by
      refine run_code (sf := F83) rfl ?_
      rw [evBody_eq _ _ _ _ _ rfl]
      simp [hp]
    refine run_code (sf := F6) rfl ?_
    rw [evBody_eq _ _ _ _ _ rfl]
    simp [h83]
  · exact sp6_nil _ HB

theorem PH.pop {x : It} (H : PH asc h0 h (x :: l) came) : ∃ h', run S0 h0.length 6 [.hptr (h0.length + 1) 1 0 0] h = some (.tup [.isl (encL x.e x.t) 3 x.cap, .bool true], h') ∧ PH asc h0 h' (popL asc x l) came ∧
      h'.length = h.length ∧ ∀ b, h0.length + 3 ≤ b → h'[b]? = h[b]? := by
  rcases H.at_ with ⟨e, _, eh⟩ | ⟨J, bl, HB, hl⟩
  · cases e
  · obtain ⟨h', h1, h2, h3, h4⟩ := pop_ex h0.length (by omega) (by omega) HB
    refine ⟨h', h1, ⟨fun b hb => ?_, .inr ⟨_, _, h2, by omega⟩⟩, h3, fun b hb => ?_⟩
    · rw [h4 b (by omega) (by omega)]; exact H.low b hb
    · rw [h4 b (by omega) (by omega)]

theorem PH.ini : PH asc h0 (h0 ++ [.row 1 [[fnA asc]], .row 3 [[.nils, .fn 81 [] [.hptr h0.length 1 0 0], .int .i64 0]]]) [] 0 :=
  ⟨fun b hb => List.getElem?_append_left hb, .inl ⟨rfl, rfl, rfl⟩⟩
end

/-! ### The lists come -/
def gathS (asc : Bool) (st : List It × Int) : Slc Ent → List It × Int
  | .mk (e :: t) c _ => (pushL asc st.1 ⟨e, t, c, st.2⟩, st.2 + 1)
  | _ => st

theorem gathS_len (asc : Bool) (st : List It × Int) (s : Slc Ent) : (gathS asc st s).1.length ≤ st.1.length + 1 := by
  unfold gathS
  split
  · simp [pushL_len]
  · simp

theorem gathS_came (asc : Bool) (st : List It × Int) (s : Slc Ent) (h : st.2 = st.1.length) : (gathS asc st s).2 = (gathS asc st s).1.length := by
  unfold gathS
  split
  · simp [pushL_len, h]
  · exact h

def encLs (s : Slc Ent) : List AV := [s.av encEnt 3]

theorem loop71a (h0 : AHeap) (asc : Bool) (most : Int) (v : AV) (Ls : List (Slc Ent)) (H : RSl h0 1 v (Ls.map encLs)) (hle : Ls.length ≤ LIM) (hs : ∀ s ∈ Ls, Adj asc s.l) :
    ∀ (l' : List (Slc Ent)) (i : Nat) (st : List It × Int) (h : AHeap), Ls.drop i = l' → i ≤ Ls.length → st.1.length ≤ i → st.2 = st.1.length → PH asc h0 h st.1 st.2 → h.length ≤ h0.length + 3 → ∃ h',
      evL (run S0 h0.length) h0.length F71_l11 [0, 1, 9, 19, 20, 21] ⟨[(0, .bool asc), (1, .int .i64 most), (9, .hptr (h0.length + 1) 1 0 0), (19, v), (20, .int .i64 Ls.length), (21, .int .i64 i)], [], h⟩ =
        some (.exit 0, ⟨[(0, .bool asc), (1, .int .i64 most), (9, .hptr (h0.length + 1) 1 0 0), (19, v), (20, .int .i64 Ls.length), (21, .int .i64 Ls.length), (22, .bool false)], [], h'⟩) ∧
      PH asc h0 h' (l'.foldl (gathS asc) st).1 (l'.foldl (gathS asc) st).2 ∧ h'.length ≤ h0.length + 3 := by
  have hLIM : LIM = 4294967296 := rfl
  intro l'
  induction l' with
  | nil =>
    intro i st h hd hi hl hc HP hh
    have e := dropn hd hi
    subst e
    refine ⟨h, ?_, HP, hh⟩
    rw [evL_rnd]
    simp [H.plain, H.clean]
  | cons s l' ih =>
    intro i st h hd hi hl hc HP hh
    obtain ⟨h3, h1, h2⟩ := dropc hd
    have hw := wrap_succ h3 hle
    obtain ⟨G, hG⟩ := HP.app
    have hB : aiaddr h none 1 v (i : Int) = some (addrOf v i) := by rw [hG, H.addr G i]; simp [h3]
    have hBl : ∀ env vars n, aload ⟨env, vars, h⟩ n (addrOf v i) = apart n (encLs s) 0 := fun env vars n => by
      rw [hG, H.load env vars G n i (by simpa using h3)]
      simp [h1]
    have C0 := H.ok i (by simpa using h3)
    have hadj : Adj asc s.l := hs s (by rw [← h1]; exact List.getElem_mem h3)
    have h107 := fun bar => sp107 bar h asc s hadj
    rw [List.foldl_cons]
    have hl' := gathS_len asc st s
    have hc' := gathS_came asc st s hc
    by_cases q : s.l = []
    · have e1 : gathS asc st s = st := by
        unfold gathS
        cases s with
        | nil => rfl
        | mk l c hx => simp at q; subst q; rfl
      rw [e1]
      obtain ⟨h', ih1, ih2⟩ := ih (i + 1) st h h2 h3 (by omega) hc HP hh
      refine ⟨h', ?_, ih2⟩
      rw [evL_rnd]
      simp [H.plain, H.clean, H.ap, H.ac, h3, hB, hBl, C0, encLs, apart, h107, q, hw]
      exact ih1
    · obtain ⟨e, t, c, hx, rfl⟩ : ∃ e t c hx, s = .mk (e :: t) c hx := by
        cases s with
        | nil => exact absurd rfl q
        | mk l c hx =>
          cases l with
          | nil => exact absurd rfl q
          | cons e t => exact ⟨e, t, c, hx, rfl⟩
      have e1 : gathS asc st (.mk (e :: t) c hx) = (pushL asc st.1 ⟨e, t, c, st.2⟩, st.2 + 1) := rfl
      rw [e1] at hl' hc' ⊢
      obtain ⟨hh1, k1, k2, k3, k4⟩ := HP.push e t c (some 1) (by omega) (by omega) (by omega)
      obtain ⟨h', ih1, ih2⟩ := ih (i + 1) (pushL asc st.1 ⟨e, t, c, st.2⟩, st.2 + 1) hh1 h2 h3 (by simp only [pushL_len]; omega) hc' k2 (by omega)
      refine ⟨h', ?_, ih2⟩
      rw [evL_rnd]
      have eav : (Slc.mk (e :: t) c hx).av encEnt 3 = .isl (encL e t) 3 c := rfl
      simp only [encLs, eav] at hBl h107
      have q0 : (0 : Int) < (t.length : Int) + 1 := by omega
      simp [H.plain, H.clean, H.ap, H.ac, h3, hB, hBl, C0, apart, h107, hw, abslice, k1, q0]
      exact ih1
end Go.Ai
/-
  What the functions come to: merge.All, its second loop.
-/
namespace Go.Ai
set_option linter.unusedSimpArgs false
set_option linter.unusedVariables false

/-- each once -/
def addU (out : List Ent) (e : Ent) : List Ent := match out.getLast? with
  | none => out ++ [e]
  | some z => if sameEnt z e = true then out else out ++ [e]

/-- what is left of a list comes back -/
def pushT (asc : Bool) (l : List It) (came : Int) (x : It) : List It × Int := match x.t with
  | [] => (l, came)
  | e :: t => (pushL asc l ⟨e, t, x.cap.map (· - 1), came⟩, came + 1)

def mergeL (asc : Bool) (most : Int) : Nat → List Ent → List It × Int → Option It → List Ent
  | 0, out, _, _ => out
  | n + 1, out, st, none => out
  | n + 1, out, st, some x =>
    if (out.length : Int) < most then
      match pushT asc st.1 st.2 x with
      | ([], _) => addU out x.e
      | (y :: r, came) => mergeL asc most n (addU out x.e) (popL asc y r, came) (some y)
    else out

def remL (l : List It) : Nat := (l.map fun x => x.t.length + 1).sum
def remC : Option It → Nat
  | none => 0
  | some x => x.t.length + 1
theorem remL_perm {l l' : List It} (h : l.Perm l') : remL l = remL l' := by
  unfold remL
  induction h with
  | nil => rfl
  | cons x _ ih => simp only [List.map_cons, List.sum_cons, ih]
  | swap x y l => simp only [List.map_cons, List.sum_cons]; omega
  | trans _ _ ih1 ih2 => exact ih1.trans ih2
theorem remL_len (l : List It) : l.length ≤ remL l := by
  induction l with
  | nil => simp [remL]
  | cons x l ih => simp [remL] at *; omega
theorem popL_perm (asc : Bool) (x : It) (l : List It) : (popL asc x l).Perm l := by
  unfold popL
  cases h : l.getLast? with
  | none => rw [List.getLast?_eq_none_iff.1 h]
  | some y =>
    refine (downF_perm _ _ _ _).trans ?_
    obtain ⟨l', rfl⟩ := List.getLast?_eq_some_iff.1 h
    rw [List.dropLast_concat]
    exact (List.perm_append_singleton y l').symm
theorem pushL_perm (asc : Bool) (l : List It) (x : It) : (pushL asc l x).Perm (x :: l) :=
  (upF_perm _ _ _ _).trans (by simp)
theorem remL_push (asc : Bool) (l : List It) (x : It) : remL (pushL asc l x) = remL l + x.t.length + 1 := by
  rw [remL_perm (pushL_perm asc l x)]
  simp [remL]
  omega
theorem remL_pop (asc : Bool) (x : It) (l : List It) : remL (popL asc x l) = remL l := remL_perm (popL_perm asc x l)
theorem addU_len (out : List Ent) (e : Ent) : (addU out e).length ≤ out.length + 1 := by
  unfold addU
  split
  · simp
  · split <;> simp

def curAV : Option It → AV
  | none => .nils
  | some x => .isl (encL x.e x.t) 3 x.cap
def outAV (o : Nat) (out : List Ent) : AV := if out = [] then .nils else .hsl o out.length 0 out.length 3 none

/-- the list that grows -/
structure PO (h0 h : AHeap) (out : List Ent) : Prop where
  len : h.length = h0.length + 3 + if out = [] then 0 else 1
  at_ : out ≠ [] → h[h0.length + 3]? = some (.row 3 (out.map encEnt))

section
variable (c : Option It) (o : Nat) (out : List Ent)
@[simp] theorem cur_plain : (curAV c).plain = curAV c := by cases c <;> rfl
@[simp] theorem cur_clean (vs : List (Nat × LVar)) (t : Nat) (r : AEnv) : envClean vs ((t, curAV c) :: r) = (t, curAV c) :: envClean vs r := by cases c <;> rfl
@[simp] theorem out_plain : (outAV o out).plain = outAV o out := by unfold outAV; split <;> rfl
@[simp] theorem out_clean (vs : List (Nat × LVar)) (t : Nat) (r : AEnv) : envClean vs ((t, outAV o out) :: r) = (t, outAV o out) :: envClean vs r := by unfold outAV; split <;> rfl
@[simp] theorem out_len (h : AHeap) : alen h none .slice (outAV o out) = some (out.length : Int) := by
  unfold outAV
  split
  · rename_i h; subst h; rfl
  · rfl
@[simp] theorem out_szOk : szOk 3 (outAV o out) = true := by unfold outAV; split <;> rfl
end

theorem PO.append {h0 h : AHeap} {out : List Ent} (P : PO h0 h out) (e : Ent) (hl : out.length + 1 ≤ LIM) : ∃ h', aappend 3 h0.length h (outAV (h0.length + 3) out) [encEnt e] = some (outAV (h0.length + 3) (out ++ [e]), h') ∧
    PO h0 h' (out ++ [e]) ∧ ∀ asc l came, PH asc h0 h l came → PH asc h0 h' l came := by
  have e1 : outAV (h0.length + 3) (out ++ [e]) = .hsl (h0.length + 3) (out.length + 1) 0 (out.length + 1) 3 none := by simp [outAV]
  rw [e1]
  have hlen := P.len
  by_cases q : out = []
  · subst q
    simp at hlen
    refine ⟨h ++ [.row 3 [encEnt e]], ?_, ⟨by simp [hlen], fun _ => ?_⟩, fun asc l came H => H.snoc (by omega) _⟩
    · have : 1 ≤ LIM := by simp [LIM]
      simp [outAV, aappend, this, hlen]
    · rw [List.getElem?_append_right (by omega)]
      simp [hlen]
  · have hat := P.at_ q
    rw [if_neg q] at hlen
    have hlt : h0.length + 3 < h.length := by omega
    refine ⟨h.set (h0.length + 3) (.row 3 ((out ++ [e]).map encEnt)), ?_, ⟨by simp [hlen], fun _ => by simp [hlt]⟩, fun asc l came H => H.setO (by omega) _⟩
    have hr : heapRow h (h0.length + 3) out.length 3 = some (out.map encEnt) := heapRow_eq hat (by simp)
    simp only [outAV, q, if_false, aappend, hr, Option.bind_some]
    simp [hl, List.take_of_length_le]

theorem PO.keep {h0 h h' : AHeap} {out : List Ent} (P : PO h0 h out) (hl : h'.length = h.length) (hk : h'[h0.length + 3]? = h[h0.length + 3]?) : PO h0 h' out :=
  ⟨by rw [hl]; exact P.len, fun q => by rw [hk]; exact P.at_ q⟩

/-- what one round does ahead of the pop -/
theorem pushT_spec {asc : Bool} {h0 h : AHeap} {l : List It} {came : Int} {out : List Ent} (HP : PH asc h0 h l came) (P : PO h0 h out) (x : It) (hlim : l.length + 1 ≤ LIM) (hc0 : 0 ≤ came) (hc : came ≤ LIM) :
    ∃ h', (match x.t with
      | [] => h' = h
      | e :: t => run S0 h0.length 8 [.hptr (h0.length + 1) 1 0 0, .isl [[.isl (encL e t) 3 (x.cap.map (· - 1))]] 1 (some 1)] h = some (.tup [], h')) ∧
      PH asc h0 h' (pushT asc l came x).1 (pushT asc l came x).2 ∧ PO h0 h' out := by
  unfold pushT
  cases x.t with
  | nil => exact ⟨h, rfl, HP, P⟩
  | cons e t =>
    obtain ⟨h', k1, k2, k3, k4⟩ := HP.push e t (x.cap.map (· - 1)) (some 1) hlim hc0 hc
    have := P.len
    exact ⟨h', k1, k2, P.keep (by omega) (k4 _ (Nat.le_refl _))⟩

theorem pop_spec {asc : Bool} {h0 h : AHeap} {st : List It × Int} {out : List Ent} (HP : PH asc h0 h st.1 st.2) (P : PO h0 h out) :
    ∃ h', run S0 h0.length 6 [.hptr (h0.length + 1) 1 0 0] h = some (.tup [curAV st.1.head?, .bool st.1.head?.isSome], h') ∧ PO h0 h' out ∧
      PH asc h0 h' (match st.1 with | [] => [] | x :: l => popL asc x l) st.2 := by
  obtain ⟨l, came⟩ := st
  cases l with
  | nil => exact ⟨h, HP.pop_nil, P, HP⟩
  | cons x l =>
    obtain ⟨h', k1, k2, k3, k4⟩ := HP.pop
    exact ⟨h', k1, P.keep k3 (k4 _ (Nat.le_refl _)), k2⟩

theorem loop71b (h0 : AHeap) (asc : Bool) (most : Int) : ∀ (n : Nat) (h : AHeap) (out : List Ent) (l : List It) (came : Int) (cur : Option It), PH asc h0 h l came → PO h0 h out → 0 ≤ came → came + ((remL l + remC cur : Nat) : Int) ≤ LIM → out.length + remL l + remC cur ≤ LIM → remL l + remC cur ≤ n → (cur = none → l = []) →
    ∃ h' cur',
      evL (run S0 h0.length) h0.length F71_l21 [1, 9, 12, 13, 14] ⟨[(1, .int .i64 most), (9, .hptr (h0.length + 1) 1 0 0), (12, outAV (h0.length + 3) out), (13, curAV cur), (14, .bool cur.isSome)], [], h⟩ =
        some (.exit 2, ⟨[(1, .int .i64 most), (9, .hptr (h0.length + 1) 1 0 0), (12, outAV (h0.length + 3) (mergeL asc most n out (l, came) cur)), (13, curAV cur'), (48, .bool false)], [], h'⟩) ∧
      PO h0 h' (mergeL asc most n out (l, came) cur) ∧ (∀ b, b < h0.length → h'[b]? = h0[b]?) := by
  have hLIM : LIM = 4294967296 := rfl
  intro n
  induction n with
  | zero =>
    intro h out l came cur HP P hc0 hc ho hn hcur
    have ec : cur = none := by
      cases cur with
      | none => rfl
      | some x => simp [remC] at hn
    subst ec
    refine ⟨h, none, ?_, P, HP.low⟩
    rw [evL_rnd]
    simp [mergeL]
  | succ n ih =>
    intro h out l came cur HP P hc0 hc ho hn hcur
    cases cur with
    | none =>
      refine ⟨h, none, ?_, P, HP.low⟩
      rw [evL_rnd]
      simp [mergeL]
    | some x =>
      by_cases q : (out.length : Int) < most
      · have hrl := remL_len l
        simp only [remC] at hc ho hn
        -- the heaps
        obtain ⟨hU, P1, HP1, eU⟩ : ∃ hU, PO h0 hU (addU out x.e) ∧ PH asc h0 hU l came ∧ (addU out x.e = out ∧ hU = h ∨ addU out x.e = out ++ [x.e] ∧ aappend 3 h0.length h (outAV (h0.length + 3) out) [encEnt x.e] = some (outAV (h0.length + 3) (out ++ [x.e]), hU)) := by
          by_cases qq : addU out x.e = out
          · exact ⟨h, by rw [qq]; exact P, HP, .inl ⟨qq, rfl⟩⟩
          · have qa : addU out x.e = out ++ [x.e] := by
              unfold addU at qq ⊢
              split
              · rfl
              · split
                · rename_i h1 h2
                  simp [h1, h2] at qq
                · rfl
            obtain ⟨h', k1, k2, k3⟩ := P.append x.e (by omega)
            exact ⟨h', by rw [qa]; exact k2, k3 _ _ _ HP, .inr ⟨qa, k1⟩⟩
        obtain ⟨hT, eT, HP2, P2⟩ := pushT_spec HP1 P1 x (by omega) hc0 (by omega)
        obtain ⟨hP, eP, P3, HP3⟩ := pop_spec (st := pushT asc l came x) HP2 P2
        have hrem : remL (pushT asc l came x).1 = remL l + x.t.length := by
          unfold pushT
          cases x.t with
          | nil => rfl
          | cons e t => simp [remL_push]; omega
        have hcame : 0 ≤ (pushT asc l came x).2 ∧ (pushT asc l came x).2 + (x.t.length : Int) ≤ came + (x.t.length : Int) + (if x.t = [] then 0 else 1) := by
          unfold pushT
          cases x.t with
          | nil => simp; omega
          | cons e t => simp; omega
        have hul := addU_len out x.e
        -- what comes next
        have em : mergeL asc most (n + 1) out (l, came) (some x) = mergeL asc most n (addU out x.e) ((match (pushT asc l came x).1 with | [] => [] | x :: l => popL asc x l), (pushT asc l came x).2) (pushT asc l came x).1.head? := by
          simp only [mergeL, q, if_true]
          generalize pushT asc l came x = st
          obtain ⟨l1, c1⟩ := st
          cases l1 with
          | nil => cases n <;> rfl
          | cons y r => rfl
        rw [em]
        have hrem2 : remL (match (pushT asc l came x).1 with | [] => [] | x :: l => popL asc x l) + remC (pushT asc l came x).1.head? = remL l + x.t.length := by
          rw [← hrem]
          cases (pushT asc l came x).1 with
          | nil => rfl
          | cons y r => simp [remL_pop, remC]; simp [remL]; omega
        have hne : (if x.t = [] then (0 : Int) else 1) ≤ 1 := by split <;> omega
        obtain ⟨h', cur', ih1, ih2⟩ := ih hP (addU out x.e) _ _ (pushT asc l came x).1.head? HP3 P3 hcame.1 (by rw [hrem2]; omega) (by omega) (by omega) (fun e => by
          cases hh : (pushT asc l came x).1 with
          | nil => rfl
          | cons y r => rw [hh] at e; cases e)
        refine ⟨h', cur', ?_, ih2⟩
        clear ih2 em hrem2 hrem hcame hne ih HP3 P3 HP2 P2
        have hsl : ∀ h, aslice .slice h (.isl (encL x.e x.t) 3 x.cap) (some (.int .i64 1)) none none = some (.isl (x.t.map encEnt) 3 (x.cap.map (· - 1))) := fun h => by
          have e1 : (encL x.e x.t).drop 1 = x.t.map encEnt := rfl
          have q0 : (1 : Int) ≤ (x.t.length : Int) + 1 := by omega
          have e3 : ((1 : Int)).toNat = 1 := rfl
          simp only [aslice, obound, asInt?, Option.bind_some, encL_len]
          simp [e1, q0, List.take_of_length_le]
        generalize (pushT asc l came x).1.head? = cur2 at *
        generalize (match (pushT asc l came x).1 with | [] => [] | x :: l => popL asc x l) = l2 at *
        generalize mergeL asc most n (addU out x.e) (l2, (pushT asc l came x).2) cur2 = OUT at *
        have ec : curAV (some x) = .isl (encL x.e x.t) 3 x.cap := rfl
        have es : (some x).isSome = true := rfl
        rw [ec, es]
        clear ec es
        -- what is there is told, or it was
        by_cases qo : out = []
        · subst qo
          have ea : addU [] x.e = [x.e] := rfl
          rw [ea] at eU ih1
          rcases eU with ⟨e, _⟩ | ⟨_, eU⟩
          · cases e
          have e0 : outAV (h0.length + 3) [] = .nils := rfl
          rw [e0] at eU ⊢
          simp only [encEnt, List.nil_append] at eU
          simp at q
          cases ht : x.t with
          | nil =>
            rw [ht] at eT hsl
            dsimp only at eT
            subst eT
            rw [evL_rnd]
            simp [q, abslice, eU, hsl, eP]
            exact ih1
          | cons e t =>
            rw [ht] at eT hsl
            dsimp only at eT
            have em : List.map encEnt (e :: t) = encL e t := rfl
            rw [em] at hsl
            have q0 : (0 : Int) < (t.length : Int) + 1 := by omega
            rw [evL_rnd]
            simp [q, abslice, eU, hsl, eP, eT, q0]
            exact ih1
        · obtain ⟨O, z, rfl⟩ : ∃ O z, out = O ++ [z] := ⟨out.dropLast, out.getLast qo, (List.dropLast_concat_getLast qo).symm⟩
          have hat := P.at_ qo
          have eo : outAV (h0.length + 3) (O ++ [z]) = .hsl (h0.length + 3) (O.length + 1) 0 (O.length + 1) 3 none := by simp [outAV]
          have hz : ((O ++ [z]).map encEnt)[O.length]? = some (encEnt z) := by simp
          have hzl : ((O ++ [z]).map encEnt).length = O.length + 1 := by simp
          have hr : heapRow h (h0.length + 3) (O.length + 1) 3 = some ((O ++ [z]).map encEnt) := heapRow_eq hat (by simp)
          have hia : aiaddr h none 3 (.hsl (h0.length + 3) (O.length + 1) 0 (O.length + 1) 3 none) (O.length : Int) = some (.hptr (h0.length + 3) (O.length + 1) O.length 0) := by
            rw [aiaddr_hsl, hr, if_pos (by omega)]
            simp
          have w1 : IntKind.i64.wrap (O.length : Int) = (O.length : Int) := by simp at ho; exact wrap64 (by omega) (by omega)
          have hq' : (O.length : Int) + 1 < most := by simpa using q
          have hne : ¬ ((O.length : Int) + 1 = 0) := by omega
          have ea : addU (O ++ [z]) x.e = if sameEnt z x.e = true then O ++ [z] else O ++ [z] ++ [x.e] := by simp [addU]
          have hld : ∀ env vars n, aload ⟨env, vars, h⟩ n (.hptr (h0.length + 3) (O.length + 1) O.length 0) = apart n (encEnt z) 0 := fun env vars n => by
            rw [aload_hptr, hat]
            simp only [hzl, if_true, hz, Option.bind_some]
          clear hz hzl hr hat
          have hLo : (O ++ [z]).length = O.length + 1 := by simp
          cases hs : sameEnt z x.e with
          | true =>
            rw [ea, if_pos hs] at eU ih1
            rcases eU with ⟨_, eU⟩ | ⟨e, _⟩
            · subst eU
              rw [eo] at ih1 ⊢
              cases ht : x.t with
              | nil =>
                rw [ht] at eT hsl
                dsimp only at eT
                subst eT
                rw [evL_rnd]
                simp [hq', hne, w1, hia, hld, hs, hsl, eP]
                exact ih1
              | cons e t =>
                rw [ht] at eT hsl
                dsimp only at eT
                have em : List.map encEnt (e :: t) = encL e t := rfl
                rw [em] at hsl
                have q0 : (0 : Int) < (t.length : Int) + 1 := by omega
                rw [evL_rnd]
                simp [hq', hne, w1, hia, hld, hs, abslice, hsl, eP, eT, q0]
                exact ih1
            · exact absurd (congrArg List.length e) (by simp)
          | false =>
            rw [ea, if_neg (by rw [hs]; decide)] at eU ih1
            rcases eU with ⟨e, _⟩ | ⟨_, eU⟩
            · exact absurd (congrArg List.length e) (by simp)
            have eo2 : outAV (h0.length + 3) (O ++ [z] ++ [x.e]) = .hsl (h0.length + 3) (O.length + 2) 0 (O.length + 2) 3 none := by simp [outAV]
            rw [eo, eo2] at eU
            rw [eo2] at ih1
            rw [eo]
            simp only [encEnt] at eU
            cases ht : x.t with
            | nil =>
              rw [ht] at eT hsl
              dsimp only at eT
              subst eT
              rw [evL_rnd]
              simp [hq', hne, w1, hia, hld, hs, abslice, eU, hsl, eP]
              exact ih1
            | cons e t =>
              rw [ht] at eT hsl
              dsimp only at eT
              have em : List.map encEnt (e :: t) = encL e t := rfl
              rw [em] at hsl
              have q0 : (0 : Int) < (t.length : Int) + 1 := by omega
              rw [evL_rnd]
              simp [hq', hne, w1, hia, hld, hs, abslice, eU, hsl, eP, eT, q0]
              exact ih1
      · have e1 : mergeL asc most (n + 1) out (l, came) (some x) = out := by simp [mergeL, q]
        rw [e1]
        refine ⟨h, some x, ?_, P, HP.low⟩
        rw [evL_rnd]
        simp [q]
end Go.Ai
/-
  What the functions come to: merge.All.
-/
namespace Go.Ai
set_option linter.unusedSimpArgs false
set_option linter.unusedVariables false

def totL (Ls : List (Slc Ent)) : Nat := (Ls.map fun s => s.l.length).sum

theorem gath_rem (asc : Bool) : ∀ (Ls : List (Slc Ent)) (st : List It × Int), st.2 = st.1.length → remL (Ls.foldl (gathS asc) st).1 = remL st.1 + totL Ls ∧ (Ls.foldl (gathS asc) st).2 = (Ls.foldl (gathS asc) st).1.length ∧ (Ls.foldl (gathS asc) st).1.length ≤ st.1.length + Ls.length
  | [], st, hc => ⟨by simp [totL], hc, by simp⟩
  | s :: Ls, st, hc => by
    obtain ⟨h1, h2, h3⟩ := gath_rem asc Ls (gathS asc st s) (gathS_came asc st s hc)
    have h4 := gathS_len asc st s
    rw [List.foldl_cons]
    refine ⟨?_, h2, by simp; omega⟩
    rw [h1]
    have : remL (gathS asc st s).1 = remL st.1 + s.l.length := by
      unfold gathS
      split
      · simp [remL_push]; omega
      · cases s with
        | nil => simp
        | mk l c hx =>
          cases l with
          | nil => simp
          | cons e t => rename_i hh; exact absurd rfl (hh e t c hx)
    rw [this]
    simp [totL]
    omega

/-- all the entries of some lists, each once -/
def allF (asc : Bool) (most : Int) (Ls : List (Slc Ent)) : List Ent :=
  match Ls.foldl (gathS asc) ([], 0) with
  | ([], _) => []
  | (y :: r, came) => mergeL asc most (totL Ls) [] (popL asc y r, came) (some y)

theorem mergeL_len (asc : Bool) (most : Int) : ∀ (n : Nat) (out : List Ent) (st : List It × Int) (cur : Option It), (mergeL asc most n out st cur).length ≤ out.length + n
  | 0, out, _, _ => by simp [mergeL]
  | n + 1, out, st, none => by simp [mergeL]
  | n + 1, out, st, some x => by
    unfold mergeL
    have hu := addU_len out x.e
    split
    · split
      · omega
      · rename_i y r came heq
        have := mergeL_len asc most n (addU out x.e) (popL asc y r, came) (some y)
        omega
    · omega

theorem allF_len (asc : Bool) (most : Int) (Ls : List (Slc Ent)) : (allF asc most Ls).length ≤ totL Ls := by
  unfold allF
  split
  · simp
  · rename_i y r came heq
    have := mergeL_len asc most (totL Ls) [] (popL asc y r, came) (some y)
    simpa using this

theorem out_frz (h0 h : AHeap) (out : List Ent) (P : PO h0 h out) (k : Nat) (hl : out.length ≤ LIM) : frz h h0.length (k + 3) (outAV (h0.length + 3) out) = (Slc.ofN out hl).av encEnt 3 := by
  by_cases q : out = []
  · subst q; rfl
  · have hat := P.at_ q
    simp only [outAV, q, if_false, Slc.ofN, Slc.av_mk]
    rw [frz_hsl, if_neg (by omega), hat]
    have hb := frz_rowEnt out h h0.length (k + 1)
    simp [hb, q, List.take_of_length_le]

theorem ofN_av {α : Type} (E : α → List AV) (sz : Nat) (l : List α) (h : l.length ≤ LIM) : (Slc.ofN l h).av E sz = if l = [] then .nils else .isl (l.map E) sz none := by
  unfold Slc.ofN
  split <;> rfl

theorem sp71 (bar : Nat) (h0 : AHeap) (asc : Bool) (most : Int) (v : AV) (Ls : List (Slc Ent)) (H : RSl h0 1 v (Ls.map encLs)) (hle : Ls.length + totL Ls ≤ LIM) (hs : ∀ s ∈ Ls, Adj asc s.l) :
    run S0 bar 71 [.bool asc, .int .i64 most, v] h0 = some (.tup [(Slc.ofN (allF asc most Ls) (Nat.le_trans (allF_len asc most Ls) (by omega))).av encEnt 3, .bool true], h0) := by
  have hLIM : LIM = 4294967296 := rfl
  have H0 : PH asc h0 (h0 ++ [.row 1 [[fnA asc]], .row 3 [[.nils, .fn 81 [] [.hptr h0.length 1 0 0], .int .i64 0]]]) [] 0 := PH.ini
  obtain ⟨h1, hl1, HP1, hlen1⟩ := loop71a h0 asc most v Ls H (by omega) hs Ls 0 ([], 0) _ rfl (Nat.zero_le _) (Nat.le_refl _) rfl H0 (by simp)
  obtain ⟨g1, g2, g3⟩ := gath_rem asc Ls ([], 0) rfl
  have g0 : remL ([] : List It) = 0 := rfl
  simp only [g0, Nat.zero_add, List.length_nil] at g1 g3
  have h24 := sp24 h0.length (h0 ++ [.row 1 [[fnA asc]]]) h0.length
  have es : h0 ++ [ABlk.row 1 [[fnA asc]]] ++ [.row 3 [[.nils, .fn 81 [] [.hptr h0.length 1 0 0], .int .i64 0]]] = h0 ++ [.row 1 [[fnA asc]], .row 3 [[.nils, .fn 81 [] [.hptr h0.length 1 0 0], .int .i64 0]]] := by simp
  rw [es] at h24
  simp only [fnA, List.length_append, List.length_cons, List.length_nil, Nat.zero_add] at h24
  simp at hl1
  simp only [fnA] at hl1
  have hlist := allF_len asc most Ls
  unfold allF at hlist
  rw [ofN_av]
  refine run_code (sf := F71) rfl ?_
  rw [evBody_eq _ _ _ _ _ rfl]
  clear hlist
  unfold allF
  cases hg : Ls.foldl (gathS asc) ([], 0) with
  | mk l came =>
  rw [hg] at HP1 g1 g2 g3
  dsimp only at HP1 g1 g2 g3 ⊢
  cases l with
  | nil =>
    have hpop := HP1.pop_nil
    simp [H.plain, H.clean, H.one, H.cells, h24, hl1, hpop, H.len]
    rw [evL_rnd]
    simp
  | cons y r =>
    obtain ⟨h2, hpop, HP2, hlen2, hk2⟩ := HP1.pop
    have hl3 : h0.length + 3 ≤ h1.length := by
      rcases HP1.at_ with ⟨e, _⟩ | ⟨_, _, _, e⟩
      · cases e
      · exact e
    have P2 : PO h0 h2 [] := ⟨by simp; omega, fun e => absurd rfl e⟩
    have hremp : remL (popL asc y r) + remC (some y) = totL Ls := by
      rw [remL_pop, ← g1]
      simp [remL, remC]
      omega
    obtain ⟨h3, cur', hl2, P3, low3⟩ := loop71b h0 asc most (totL Ls) h2 [] (popL asc y r) came (some y) HP2 P2 (by omega) (by rw [hremp, g2]; omega) (by simp; omega) (by omega) (fun e => by cases e)
    have hlm := mergeL_len asc most (totL Ls) [] (popL asc y r, came) (some y)
    simp at hlm
    have hfr := fun k => out_frz h0 h3 _ P3 k (by omega)
    simp only [ofN_av] at hfr
    show _ = some (AV.tup [if mergeL asc most (totL Ls) [] (popL asc y r, came) (some y) = [] then AV.nils else AV.isl ((mergeL asc most (totL Ls) [] (popL asc y r, came) (some y)).map encEnt) 3 none, AV.bool true], h0)
    generalize mergeL asc most (totL Ls) [] (popL asc y r, came) (some y) = OUT at *
    have ec : curAV (some y) = .isl (encL y.e y.t) 3 y.cap := rfl
    have eo : outAV (h0.length + 3) [] = .nils := rfl
    rw [ec, eo] at hl2
    simp at hl2
    simp [H.plain, H.clean, H.one, H.cells, h24, hl1, hpop, H.len, hl2, hfr, ofN_av]
end Go.Ai
/-
  What the functions come to: what is asked; a replica's call; turned round.
-/
namespace Go.Ai
set_option linter.unusedSimpArgs false
set_option linter.unusedVariables false

structure Ask where
  fr : Int
  to_ : Int
  asc : Bool
  most : Int
  aft : Bool
  cur : Ent
@[simp] def encAsk (a : Ask) : List AV := [.int .i64 a.fr, .int .i64 a.to_, .bool a.asc, .int .i64 a.most, .bool a.aft, .int .i64 a.cur.ts, a.cur.lb.av encPr 2, .str a.cur.line]

@[simp] theorem sp27_nil (bar : Nat) (h : AHeap) : run S0 bar 27 [.nils] h = some (.tup [.iptr [.nils] 0, .int .i64 0], h) := by
  refine run_code (sf := F27) rfl ?_
  rw [evBody_eq _ _ _ _ _ rfl]
  simp [abuild]
  rw [evL_rnd]
  simp [frz_hptr]

def rightA (a : Ask) : Bool := decide (a.fr < a.to_) && decide (0 < a.most)
@[simp] theorem sp113 (bar : Nat) (h : AHeap) (a : Ask) : run S0 bar 113 [.agg (encAsk a)] h = some (.bool (rightA a), h) := by
  refine run_code (sf := F113) rfl ?_
  rw [evBody_eq _ _ _ _ _ rfl]
  by_cases q : a.fr < a.to_ <;> simp [q, rightA]

def wanted (a : Ask) (e : Ent) : Bool := decide (a.fr ≤ e.ts) && decide (e.ts < a.to_) && (!a.aft || aheadEnt a.asc a.cur e)
@[simp] theorem sp91 (bar : Nat) (h : AHeap) (a : Ask) (e : Ent) : run S0 bar 91 [.agg (encAsk a), .agg (encEnt e)] h = some (.bool (wanted a e), h) := by
  refine run_code (sf := F91) rfl ?_
  rw [evBody_eq _ _ _ _ _ rfl]
  unfold wanted
  by_cases q1 : a.fr ≤ e.ts
  · by_cases q2 : e.ts < a.to_
    · cases q3 : a.aft <;> simp [q1, q2, q3]
    · simp [q1, q2]
  · simp [q1]

@[simp] theorem sp101_nil (bar : Nat) (h : AHeap) (v : AV) (hv : v.plain = v) (hc : ∀ vs t r, envClean vs ((t, v) :: r) = (t, v) :: envClean vs r) : run S0 bar 101 [.nils, v] h = some (.int .i64 (-1), h) := by
  refine run_code (sf := F101) rfl ?_
  rw [evBody_eq _ _ _ _ _ rfl]
  simp [hv, hc]
  rw [evL_rnd]
  simp [hv, hc]

@[simp] theorem sp95_nil (bar : Nat) (h : AHeap) (s : Slc Pr) : run S0 bar 95 [.iptr [.nils] 0, s.av encPr 2] h = some (.bool true, h) := by
  have h99 : ∀ bar, run S0 bar 99 [.nils, .fn 97 [] [.iptr [s.av encPr 2] 0]] h = some (.bool false, h) := fun bar => by
    have h101 := fun bar => sp101_nil bar h (.fn 97 [] [.iptr [s.av encPr 2] 0]) rfl (fun _ _ _ => rfl)
    refine run_code (sf := F99) rfl ?_
    rw [evBody_eq _ _ _ _ _ rfl]
    simp [h101]
  refine run_code (sf := F95) rfl ?_
  rw [evBody_eq _ _ _ _ _ rfl]
  simp [h99]

/-! ### a replica -/
/-- what it does the n-th time -/
def stepR (r : Slc Rep) (n : Nat) : Rep := (r.l[n]?).getD ⟨false, 0⟩

theorem sp20 (bar : Nat) (h : AHeap) (b : Nat) (hb : bar ≤ b) (r : Slc Rep) (n : Nat) (u : Slc Ent) (hn : n < LIM) (hx : h[b]? = some (repBlk r n u)) :
    run S0 bar 20 [.hptr b 1 0 0] h = some (.agg (encRep (stepR r n)), h.set b (repBlk r (n + 1 : Nat) u)) := by
  have hLIM : LIM = 4294967296 := rfl
  have hbl : b < h.length := (List.getElem?_eq_some_iff.1 hx).1
  have w1 : IntKind.i64.wrap ((n : Int) + 1) = (n : Int) + 1 := wrap_succ hn (Nat.le_refl _)
  refine run_code (sf := F20) rfl ?_
  rw [evBody_eq _ _ _ _ _ rfl]
  unfold stepR
  simp only [repBlk] at hx ⊢
  by_cases q : n < r.l.length
  · simp [hx, q, w1, hb]
  · simp [hx, q, w1, hb]
end Go.Ai
/-
  What the functions come to: turned round.
-/
namespace Go.Ai
set_option linter.unusedSimpArgs false
set_option linter.unusedVariables false

theorem loop36 (bar : Nat) (h : AHeap) (b n : Nat) (hb : bar ≤ b) (hbl : b < h.length) (hn : n ≤ LIM) : ∀ (k : Nat) (A M B : List Ent), M.length ≤ k → A.length + M.length + B.length = n → ∃ i' j' : Int,
    evL (run S0 bar) bar F36_l4 [0, 2, 3] ⟨[(0, .hsl b n 0 n 3 none), (2, .int .i64 A.length), (3, .int .i64 ((A.length : Int) + M.length - 1))], [], h.set b (.row 3 ((A ++ M ++ B).map encEnt))⟩ =
      some (.exit 0, ⟨[(0, .hsl b n 0 n 3 none), (2, .int .i64 i'), (3, .int .i64 j'), (9, .bool false)], [], h.set b (.row 3 ((A ++ M.reverse ++ B).map encEnt))⟩) := by
  have hLIM : LIM = 4294967296 := rfl
  intro k
  induction k with
  | zero =>
    intro A M B hM hlen
    have e : M = [] := List.length_eq_zero_iff.1 (by omega)
    subst e
    refine ⟨A.length, (A.length : Int) + (0 : Nat) - 1, ?_⟩
    have q : ¬ ((A.length : Int) < (A.length : Int) - 1) := by omega
    rw [evL_rnd]
    simp [q, -List.map_append]
  | succ k ih =>
    intro A M B hM hlen
    by_cases hM1 : M.length ≤ 1
    · have er : M.reverse = M := by
        match M, hM1 with
        | [], _ => rfl
        | [x], _ => rfl
        | _ :: _ :: _, h => simp at h
      rw [er]
      refine ⟨A.length, (A.length : Int) + M.length - 1, ?_⟩
      have q : ¬ ((A.length : Int) < (A.length : Int) + M.length - 1) := by omega
      rw [evL_rnd]
      simp [q, -List.map_append]
    · obtain ⟨x, M', y, rfl⟩ : ∃ x M' y, M = x :: (M' ++ [y]) := by
        match M, hM1 with
        | x :: y :: l, _ =>
          have hne : (y :: l) ≠ [] := by simp
          exact ⟨x, (y :: l).dropLast, (y :: l).getLast hne, by rw [List.dropLast_concat_getLast hne]⟩
        | [x], h => simp at h
        | [], h => simp at h
      simp only [List.length_cons, List.length_append, List.length_nil, Nat.zero_add] at hM hlen hM1
      obtain ⟨i', j', ih⟩ := ih (A ++ [y]) M' (x :: B) (by omega) (by simp; omega)
      refine ⟨i', j', ?_⟩
      have er : A ++ (x :: (M' ++ [y])).reverse ++ B = A ++ [y] ++ M'.reverse ++ x :: B := by simp
      rw [er]
      have ei : (((A ++ [y]).length : Nat) : Int) = (A.length : Int) + 1 := by simp
      have ej : (((A ++ [y]).length : Nat) : Int) + M'.length - 1 = (A.length : Int) + M'.length := by simp; omega
      rw [ej, ei] at ih
      have ej2 : ((A.length : Int) + (x :: (M' ++ [y])).length - 1) = ((A.length + M'.length + 1 : Nat) : Int) := by simp; omega
      rw [ej2]
      generalize hi : A.length = i at *
      generalize hj : i + M'.length + 1 = j at *
      have hij : i < j := by omega
      have hjn : j < n := by omega
      have w1 : IntKind.i64.wrap ((i : Int) + 1) = (i : Int) + 1 := wrap_succ (show i < n by omega) hn
      have w2 : IntKind.i64.wrap ((j : Int) - 1) = (i : Int) + M'.length := by rw [wrap64 (by omega) (by omega)]; omega
      have hset : ∀ y : ABlk, (h.set b y)[b]? = some y := fun y => by simp [hbl]
      have hia : ∀ (R : List (List AV)), R.length = n → ∀ k : Nat, k < n → aiaddr (h.set b (.row 3 R)) none 3 (.hsl b n 0 n 3 none) (k : Int) = some (.hptr b n k 0) := fun R hR k hk => by
        have hr : heapRow (h.set b (.row 3 R)) b n 3 = some R := heapRow_eq (hset _) hR
        rw [aiaddr_hsl, hr, if_pos hk]
        simp [hR]
      have lR : ((A ++ x :: (M' ++ [y]) ++ B).map encEnt).length = n := by simp; omega
      have gi : ((A ++ x :: (M' ++ [y]) ++ B).map encEnt)[i]? = some (encEnt x) := by simp [← hi]
      have gj : ((A ++ x :: (M' ++ [y]) ++ B).map encEnt)[j]? = some (encEnt y) := by
        have e : A ++ x :: (M' ++ [y]) ++ B = (A ++ x :: M') ++ (y :: B) := by simp
        rw [e, List.map_append, List.getElem?_append_right (by simp; omega)]
        have : j - ((A ++ x :: M').map encEnt).length = 0 := by simp; omega
        rw [this]
        rfl
      have hsw : ((((A ++ x :: (M' ++ [y]) ++ B).map encEnt).set i (encEnt y)).set j (encEnt x)) = (A ++ [y] ++ M' ++ x :: B).map encEnt := by
        have e : A ++ x :: (M' ++ [y]) ++ B = A ++ x :: (M' ++ y :: B) := by simp
        have e2 : A ++ [y] ++ M' ++ x :: B = A ++ y :: (M' ++ x :: B) := by simp
        have li : (A.map encEnt).length = i := by simp [hi]
        have lm : (M'.map encEnt).length = j - i - 1 := by simp; omega
        rw [e, e2]
        simp only [List.map_append, List.map_cons]
        rw [List.set_append_right _ _ (by omega), List.set_append_right _ _ (by simp; omega)]
        congr 1
        rw [li, Nat.sub_self, List.set_cons_zero]
        obtain ⟨d, hd⟩ : ∃ d, j - i = d + 1 := ⟨j - i - 1, by omega⟩
        rw [hd, List.set_cons_succ, List.set_append_right _ _ (by omega), show d - (M'.map encEnt).length = 0 by omega, List.set_cons_zero]
      have A1 := hia _ lR j hjn
      have A2 := hia _ lR i (by omega)
      generalize (A ++ x :: (M' ++ [y]) ++ B).map encEnt = R at *
      generalize (A ++ [y] ++ M' ++ x :: B).map encEnt = R2 at *
      generalize (A ++ [y] ++ M'.reverse ++ x :: B).map encEnt = R3 at *
      have l2 : (R.set i (encEnt y)).length = n := by simpa using lR
      have A3 := hia _ l2 j hjn
      have hli : ∀ env vars n', aload ⟨env, vars, h.set b (.row 3 R)⟩ n' (.hptr b n i 0) = apart n' (encEnt x) 0 := fun env vars n' => by
        rw [aload_hptr, hset]; simp only [lR, if_true, gi, Option.bind_some]
      have hlj : ∀ env vars n', aload ⟨env, vars, h.set b (.row 3 R)⟩ n' (.hptr b n j 0) = apart n' (encEnt y) 0 := fun env vars n' => by
        rw [aload_hptr, hset]; simp only [lR, if_true, gj, Option.bind_some]
      have gj2 : (R.set i (encEnt y))[j]? = some (encEnt y) := by rw [List.getElem?_set_ne (by omega)]; exact gj
      simp only [encEnt] at l2 A3 hsw gi gj2
      rw [evL_rnd]
      simp [hij, A1, A2, hli, hlj, A3, lR, l2, gi, gj2, hset, hsw, hb, w1, w2]
      exact ih

theorem sp36 (bar : Nat) (h : AHeap) (b : Nat) (l : List Ent) (hb : bar ≤ b) (hx : h[b]? = some (.row 3 (l.map encEnt))) (hn : l.length ≤ LIM) :
    run S0 bar 36 [.hsl b l.length 0 l.length 3 none] h = some (.tup [], h.set b (.row 3 (l.reverse.map encEnt))) := by
  have hLIM : LIM = 4294967296 := rfl
  have hbl : b < h.length := (List.getElem?_eq_some_iff.1 hx).1
  obtain ⟨i', j', hl⟩ := loop36 bar h b l.length hb hbl hn l.length [] l [] (Nat.le_refl _) (by simp)
  have e : [] ++ l ++ [] = l := by simp
  have e2 : [] ++ l.reverse ++ [] = l.reverse := by simp
  rw [e, e2, set_same hx] at hl
  have w1 : IntKind.i64.wrap ((l.length : Int) - 1) = (l.length : Int) - 1 := wrap64 (by omega) (by omega)
  refine run_code (sf := F36) rfl ?_
  rw [evBody_eq _ _ _ _ _ rfl]
  simp at hl
  simp [w1, hl]

theorem sp36_nil (bar : Nat) (h : AHeap) : run S0 bar 36 [.nils] h = some (.tup [], h) := by
  refine run_code (sf := F36) rfl ?_
  rw [evBody_eq _ _ _ _ _ rfl]
  simp [show IntKind.i64.wrap (-1) = -1 from rfl]
  rw [evL_rnd]
  simp
end Go.Ai
/-
  What the functions come to: Replica.Range.
-/
namespace Go.Ai
set_option linter.unusedSimpArgs false
set_option linter.unusedVariables false

theorem col_appendB (bar : Nat) (h : AHeap) (sz : Nat) (els : List (List AV)) (y : List AV) (hb : bar ≤ h.length) (hl : els.length + 1 ≤ LIM) : aappend sz bar (colH h sz els) (colAV h sz els) [y] = some (colAV h sz (els ++ [y]), colH h sz (els ++ [y])) := by
  unfold colAV colH
  by_cases q : els = []
  · subst q
    have : 1 ≤ LIM := by simp [LIM]
    simp [aappend, this]
  · have h1 : ¬ (els.length + 1 ≤ els.length) := by omega
    have hr : heapRow (h ++ [.row sz els]) h.length els.length sz = some els := by simp [heapRow]
    have hs : (h ++ [ABlk.row sz els]).set h.length (.row sz (els ++ [y])) = h ++ [.row sz (els ++ [y])] := by
      rw [List.set_append_right _ _ (Nat.le_refl _)]
      simp
    simp [q, aappend, hr, hl, h1, hb]

theorem loop18 (bar : Nat) (h : AHeap) (a : Ask) (u : Slc Ent) (lim : Int) (hb : bar ≤ h.length) : ∀ (l' : List Ent) (i : Nat) (acc : List Ent), u.l.drop i = l' → i ≤ u.l.length → acc.length ≤ i →
    evL (run S0 bar) bar F18_l16 [2, 4, 6, 10, 38, 39, 40] ⟨[(2, .iptr [.nils] 0), (4, .iptr (encAsk a) 0), (6, colAV h 3 (acc.map encEnt)), (10, .int .i64 lim), (38, u.av encEnt 3), (39, .int .i64 u.l.length), (40, .int .i64 i)], [], colH h 3 (acc.map encEnt)⟩ =
      some (.exit 0, ⟨[(2, .iptr [.nils] 0), (4, .iptr (encAsk a) 0), (6, colAV h 3 ((acc ++ (l'.filter (wanted a)).map cloneE).map encEnt)), (10, .int .i64 lim), (38, u.av encEnt 3), (39, .int .i64 u.l.length), (40, .int .i64 u.l.length), (41, .bool false)], [], colH h 3 ((acc ++ (l'.filter (wanted a)).map cloneE).map encEnt)⟩) := by
  have hLIM : LIM = 4294967296 := rfl
  have hle := u.le
  intro l'
  induction l' with
  | nil =>
    intro i acc hd hi ha
    have e := dropn hd hi
    subst e
    rw [evL_rnd]
    simp
  | cons x l' ih =>
    intro i acc hd hi ha
    obtain ⟨h3, h1, h2⟩ := dropc hd
    have hw := wrap_succ h3 u.le
    rw [evL_rnd, List.filter_cons]
    cases c : wanted a x with
    | false =>
      have ih := ih (i + 1) acc h2 h3 (by omega)
      simp only [Bool.false_eq_true, if_false]
      generalize (acc ++ (l'.filter (wanted a)).map cloneE).map encEnt = R at *
      have h91 := fun bar h => sp91 bar h a x
      rw [c] at h91
      simp only [encAsk, encEnt] at h91
      simp only [encAsk] at ih ⊢
      simp [h3, h1, h91, hw]
      exact ih
    | true =>
      have ih := ih (i + 1) (acc ++ [cloneE x]) h2 h3 (by simp; omega)
      have hap := fun y => col_appendB bar h 3 (acc.map encEnt) y hb (by simp; omega)
      simp only [if_true, List.map_cons]
      rw [List.append_assoc, List.singleton_append] at ih
      generalize (acc ++ cloneE x :: (l'.filter (wanted a)).map cloneE).map encEnt = R at *
      have e3 : (acc ++ [cloneE x]).map encEnt = acc.map encEnt ++ [encEnt (cloneE x)] := by simp
      rw [e3] at ih
      simp only [encEnt, cloneE] at ih hap
      generalize acc.map encEnt = A at *
      have h91 := fun bar h => sp91 bar h a x
      rw [c] at h91
      simp only [encAsk, encEnt] at h91
      simp only [encAsk] at ih ⊢
      simp [h3, h1, h91, hw, abslice, hap]
      exact ih

def limR (a : Ask) (r : Rep) : Int := if 0 < r.most then min a.most r.most else a.most
def rangeM (a : Ask) (l : List Ent) : List Ent := if a.asc = true then (l.filter (wanted a)).map cloneE else ((l.filter (wanted a)).map cloneE).reverse
theorem rangeM_len (a : Ask) (l : List Ent) : (rangeM a l).length ≤ l.length := by
  unfold rangeM
  have := List.length_filter_le (wanted a) l
  split <;> simp <;> omega
def rangeS (a : Ask) (r : Rep) (u : Slc Ent) : Slc Ent := Slc.ofN ((rangeM a u.l).take (limR a r).toNat) (by
  have h1 := rangeM_len a u.l
  have h2 := u.le
  simp only [List.length_take]
  omega)
def moreR (a : Ask) (r : Rep) (u : Slc Ent) : Bool := decide (limR a r < ((rangeM a u.l).length : Int))

theorem rev36 (bar : Nat) (h : AHeap) (l : List Ent) (hb : bar ≤ h.length) (hn : l.length ≤ LIM) : run S0 bar 36 [colAV h 3 (l.map encEnt)] (colH h 3 (l.map encEnt)) = some (.tup [], colH h 3 (l.reverse.map encEnt)) := by
  by_cases q : l = []
  · subst q
    exact sp36_nil bar h
  · have q1 : l.map encEnt ≠ [] := by simpa using q
    have q2 : l.reverse.map encEnt ≠ [] := by simpa using q
    have h36 := sp36 bar (h ++ [.row 3 (l.map encEnt)]) h.length l hb (get_last _ _) hn
    rw [set_last] at h36
    simp only [colAV, colH, q1, q2, if_false, List.length_map]
    exact h36

theorem colAV_rev (h : AHeap) (l : List Ent) : colAV h 3 (l.map encEnt) = colAV h 3 (l.reverse.map encEnt) := by
  by_cases q : l = []
  · subst q; rfl
  · have q1 : l.map encEnt ≠ [] := by simpa using q
    have q2 : l.reverse.map encEnt ≠ [] := by simpa using q
    simp only [colAV, q1, q2, if_false, List.length_map, List.length_reverse]

theorem limR_pos (a : Ask) (r : Rep) (ha : rightA a = true) : 0 < limR a r := by
  simp [rightA] at ha
  unfold limR
  split <;> omega

/-- the first so many of what was collected -/
def colTop (h : AHeap) (l : List Ent) (k : Nat) : AV := if l = [] then .nils else .hsl h.length l.length 0 k 3 none

theorem col_top (h : AHeap) (l : List Ent) (lim : Int) (hl : 0 < lim) : ∃ v : Int, aminmax false [.int .i64 (l.length : Int), .int .i64 lim] = some (.int .i64 v) ∧ aslice .slice (colH h 3 (l.map encEnt)) (colAV h 3 (l.map encEnt)) none (some (.int .i64 v)) none = some (colTop h l (min l.length lim.toNat)) := by
  refine ⟨((min l.length lim.toNat : Nat) : Int), ?_, ?_⟩
  · simp only [aminmax, List.foldl]
    congr 2
    simp only [Bool.false_eq_true, if_false, decide_eq_true_eq]
    split <;> omega
  · by_cases q : l = []
    · subst q
      simp [colTop, colAV, colH, aslice, obound, asInt?]
    · have q1 : l.map encEnt ≠ [] := by simpa using q
      have hr : heapRow (h ++ [.row 3 (l.map encEnt)]) h.length l.length 3 = some (l.map encEnt) := heapRow_eq (get_last _ _) (by simp)
      simp only [colTop, colAV, colH, q, q1, if_false, List.length_map]
      have g2 : min l.length lim.toNat ≤ l.length := Nat.min_le_left _ _
      generalize min l.length lim.toNat = k at *
      simp [aslice, obound, asInt?, hr, atop, g2]

section
variable (h : AHeap) (l : List Ent) (k : Nat)
@[simp] theorem top_plain : (colTop h l k).plain = colTop h l k := by unfold colTop; split <;> rfl
@[simp] theorem top_one : (colTop h l k).one = true := by unfold colTop; split <;> rfl
@[simp] theorem top_cells : (colTop h l k).cells = [colTop h l k] := by unfold colTop; split <;> rfl
@[simp] theorem top_clean (vs : List (Nat × LVar)) (t : Nat) (r : AEnv) : envClean vs ((t, colTop h l k) :: r) = (t, colTop h l k) :: envClean vs r := by unfold colTop; split <;> rfl
theorem top_gcF (h' : AHeap) (n k' : Nat) (acc : List Nat) : gcFind h' n k' acc (colTop h l k) = acc := by
  unfold colTop
  split
  · simp
  · exact gcF_hsl _ _ _ _ _ _ _ _ _ _ (by decide)
theorem top_ren (lim : Nat) (hk : k = min l.length lim) (hl : l.length ≤ LIM) (hlim : 0 < lim) (j : Nat) : ren (gcAt [] h.length) (colH h 3 (l.map encEnt)) (j + 3) (colTop h l k) = (Slc.ofN (l.take lim) (by simp; omega)).av encEnt 3 := by
  rw [ofN_av]
  unfold colTop
  by_cases q : l = []
  · subst q; simp
  · have q1 : l.map encEnt ≠ [] := by simpa using q
    have q2 : ¬ (l.take lim = []) := by
      intro e
      rcases List.take_eq_nil_iff.1 e with e | e
      · omega
      · exact q e
    rw [if_neg q, if_neg q2, ren_hsl, gcAt_none _ _ (Nat.le_refl _)]
    simp only [colH, q1, if_false, get_last, List.length_map, Nat.zero_add, hk, Nat.min_le_left, and_self, if_true, List.drop_zero]
    have e1 : (l.map encEnt).take (min l.length lim) = (l.take lim).map encEnt := by
      rw [List.map_take]
      apply List.ext_getElem?
      intro i
      simp only [List.getElem?_take]
      by_cases c1 : i < lim
      · by_cases c2 : i < l.length
        · rw [if_pos (by omega), if_pos c1]
        · rw [if_neg (by omega), if_pos c1, List.getElem?_eq_none (by simp; omega)]
      · rw [if_neg (by omega), if_neg c1]
    rw [e1, ren_rowEnt]
end

theorem sp18 (bar : Nat) (h : AHeap) (b n : Nat) (r : Slc Rep) (u : Slc Ent) (a : Ask) (hb : bar ≤ b) (hn : n < LIM) (hx : h[b]? = some (repBlk r n u)) (ha : rightA a = true) :
    run S0 bar 18 [.hptr b 1 0 0, .agg (encAsk a), .iptr [.nils] 0] h = some (if (stepR r n).fail = true then .tup [.nils, .bool false, .int .i64 7] else
      .tup [(rangeS a (stepR r n) u).av encEnt 3, .bool (moreR a (stepR r n) u), .int .i64 0], h.set b (repBlk r (n + 1 : Nat) u)) := by
  have hLIM : LIM = 4294967296 := rfl
  have hbl : b < h.length := (List.getElem?_eq_some_iff.1 hx).1
  have h20 := fun bar hb => sp20 bar h b hb r n u hn hx
  have h113 := fun bar h => sp113 bar h a
  rw [ha] at h113
  generalize hB : h.set b (repBlk r (n + 1 : Nat) u) = h1 at *
  have hl1 : h1.length = h.length := by rw [← hB]; simp
  have hx1 : h1[b]? = some (repBlk r (n + 1 : Nat) u) := by rw [← hB]; simp [hbl]
  have hcalm : calm h.length FZ h h1 = true := by
    rw [← hB]
    refine calm_set (calm_self _ _ _) ?_
    simp [repBlk, ABlk.low]
  refine run_code (sf := F18) rfl ?_
  rw [evBody_eq _ _ _ _ _ rfl]
  generalize stepR r n = s at *
  simp only [repBlk] at hx1
  have h20 := h20 bar hb
  cases hf : s.fail with
  | true =>
    simp only [encAsk, encRep, hf] at h113 h20
    simp [h113, h20, aeqK]
    rw [gcOut_none _ _ _ hcalm (by simp)]
    simp [← hl1]
  | false =>
    have hlim := limR_pos a s ha
    have hmin : 0 < s.most → aminmax false [.int .i64 a.most, .int .i64 s.most] = some (.int .i64 (limR a s)) := fun hp => by
      simp only [aminmax, List.foldl, limR, hp, if_true]
      congr 2
      simp only [Bool.false_eq_true, if_false, decide_eq_true_eq]
      split <;> omega
    have hmin0 : ¬ 0 < s.most → limR a s = a.most := fun hp => by simp [limR, hp]
    have hRl := rangeM_len a u.l
    have hul := u.le
    -- all that is collected
    have hl := loop18 bar h1 a u (limR a s) (by omega) u.l 0 [] rfl (Nat.zero_le _) (Nat.le_refl _)
    simp only [List.nil_append, List.map_nil, colAV_nil, colH_nil] at hl
    -- in its direction
    have hrev : rangeM a u.l = if a.asc = true then (u.l.filter (wanted a)).map cloneE else ((u.l.filter (wanted a)).map cloneE).reverse := rfl
    have hMl : ((u.l.filter (wanted a)).map cloneE).length = (rangeM a u.l).length := by rw [hrev]; split <;> simp
    obtain ⟨v, ht1, ht2⟩ := col_top h1 (rangeM a u.l) (limR a s) hlim
    have hren := fun j => top_ren h1 (rangeM a u.l) _ (limR a s).toNat rfl (by omega) (by omega) j
    have h36 := rev36 bar h1 ((u.l.filter (wanted a)).map cloneE) (by omega) (by omega)
    have hav := colAV_rev h1 ((u.l.filter (wanted a)).map cloneE)
    unfold rangeS moreR
    simp only [ofN_av] at hren ⊢
    generalize (u.l.filter (wanted a)).map cloneE = M at *
    generalize rangeM a u.l = R at *
    generalize limR a s = lim at *
    have hcalm2 : calm h.length FZ h (colH h1 3 (R.map encEnt)) = true := by
      unfold colH
      split
      · exact hcalm
      · exact calm_append hcalm
    have htk : (colH h1 3 (R.map encEnt)).take h.length = h1 := by
      unfold colH
      split
      · rw [← hl1, List.take_length]
      · rw [← hl1, List.take_left]
    have hgl : ∀ v w, gcOut (colH h1 3 (R.map encEnt)) h (.tup [colTop h1 R (min R.length lim.toNat), .bool v, .int .i64 w]) = (.tup [if R.take lim.toNat = [] then .nils else .isl ((R.take lim.toNat).map encEnt) 3 none, .bool v, .int .i64 w], h1) := fun v w => by
      rw [gcOut_none _ _ _ hcalm2 (by simp [top_gcF]), htk]
      simp [hren, ← hl1]
    have tp := top_plain h1 R (min R.length lim.toNat)
    have to_ := top_one h1 R (min R.length lim.toNat)
    have tc := top_cells h1 R (min R.length lim.toNat)
    have tl := top_clean h1 R (min R.length lim.toNat)
    generalize colTop h1 R (min R.length lim.toNat) = TOP at *
    simp only [encAsk, encRep, hf] at h113 h20 hl
    simp only [Int.natCast_zero] at hl
    by_cases hp : 0 < s.most
    · cases hasc : a.asc with
      | true =>
        simp only [hasc, if_true] at hrev hl h113 ⊢
        subst hrev
        simp [h113, h20, aeqK, hp, hmin hp, hl, hx1, hasc, ht1, ht2, tp, to_, tc, tl, hgl]
      | false =>
        simp only [hasc, Bool.false_eq_true, if_false] at hrev hl h113 ⊢
        rw [← hrev] at hav h36
        rw [hav] at hl h36
        simp [h113, h20, aeqK, hp, hmin hp, hl, hx1, hasc, ht1, ht2, tp, to_, tc, tl, hgl, h36]
    · have hml := hmin0 hp
      subst hml
      cases hasc : a.asc with
      | true =>
        simp only [hasc, if_true] at hrev hl h113 ⊢
        subst hrev
        simp [h113, h20, aeqK, hp, hl, hx1, hasc, ht1, ht2, tp, to_, tc, tl, hgl]
      | false =>
        simp only [hasc, Bool.false_eq_true, if_false] at hrev hl h113 ⊢
        rw [← hrev] at hav h36
        rw [hav] at hl h36
        simp [h113, h20, aeqK, hp, hl, hx1, hasc, ht1, ht2, tp, to_, tc, tl, hgl, h36]
end Go.Ai
/-
  What the functions come to: fan.New.
-/
namespace Go.Ai
set_option linter.unusedSimpArgs false
set_option linter.unusedVariables false

/-! ### Contains -/
def encI1 (x : Int) : List AV := [.int .i64 x]
theorem loop105 (bar : Nat) (h : AHeap) (v : AV) (l : List Int) (x : Int) (H : RSl h 1 v (l.map encI1)) (hle : l.length ≤ LIM) : ∀ (l' : List Int) (i : Nat), l.drop i = l' → i ≤ l.length →
    evL (run S0 bar) bar F105_l7 [0, 1, 7, 8] ⟨[(0, v), (1, .int .i64 x), (7, .int .i64 l.length), (8, .int .i64 i)], [], h⟩ =
      match l'.findIdx? (fun y => decide (x = y)) with
      | none => some (.exit 0, ⟨[(0, v), (1, .int .i64 x), (7, .int .i64 l.length), (8, .int .i64 l.length), (9, .bool false)], [], h⟩)
      | some k => some (.ret, ⟨[(4, .int .i64 (i + k : Nat))], [], h⟩) := by
  intro l'
  induction l' with
  | nil =>
    intro i hd hi
    have e := dropn hd hi
    subst e
    rw [evL_rnd]
    simp [H.plain, H.clean]
  | cons y l' ih =>
    intro i hd hi
    obtain ⟨h3, h1, h2⟩ := dropc hd
    have ih := ih (i + 1) h2 h3
    have hw := wrap_succ h3 hle
    have hB : aiaddr h none 1 v (i : Int) = some (addrOf v i) := by
      have := H.addr [] i
      rw [List.append_nil] at this
      rw [this]; simp [h3]
    have hBl : ∀ env vars n, aload ⟨env, vars, h⟩ n (addrOf v i) = apart n (encI1 y) 0 := fun env vars n => by
      have := H.load env vars [] n i (by simpa using h3)
      rw [List.append_nil] at this
      rw [this]; simp [h1]
    have C0 := H.ok i (by simpa using h3)
    rw [evL_rnd, List.findIdx?_cons]
    by_cases q : x = y
    · simp [H.plain, H.clean, H.ap, H.ac, h3, hB, hBl, C0, encI1, q, apart]
    · simp [H.plain, H.clean, H.ap, H.ac, h3, hB, hBl, C0, encI1, q, apart, hw]
      refine Eq.trans ih ?_
      cases l'.findIdx? (fun y => decide (x = y)) with
      | none => rfl
      | some k => simp; omega

theorem sp103 (bar : Nat) (h : AHeap) (v : AV) (l : List Int) (x : Int) (H : RSl h 1 v (l.map encI1)) (hle : l.length ≤ LIM) :
    run S0 bar 103 [v, .int .i64 x] h = some (.bool (l.any fun y => decide (x = y)), h) := by
  have h105 : ∀ bar, run S0 bar 105 [v, .int .i64 x] h = some (.int .i64 (match l.findIdx? (fun y => decide (x = y)) with | none => -1 | some k => (k : Int)), h) := fun bar => by
    have hl := fun bar => loop105 bar h v l x H hle l 0 rfl (Nat.zero_le _)
    have hlen := H.len h
    refine run_code (sf := F105) rfl ?_
    rw [evBody_eq _ _ _ _ _ rfl]
    simp at hl hlen
    cases c : l.findIdx? (fun y => decide (x = y)) with
    | none => simp [H.plain, H.clean, hlen, hl, c]
    | some k => simp [H.plain, H.clean, hlen, hl, c]
  refine run_code (sf := F103) rfl ?_
  rw [evBody_eq _ _ _ _ _ rfl]
  cases c : l.findIdx? (fun y => decide (x = y)) with
  | none =>
    have e : (l.any fun y => decide (x = y)) = false := by
      rw [List.findIdx?_eq_none_iff] at c
      simpa using c
    rw [c] at h105
    simp [H.plain, H.clean, H.one, H.cells, h105, e]
  | some k =>
    have e : (l.any fun y => decide (x = y)) = true := by
      obtain ⟨hk, hp, _⟩ := List.findIdx?_eq_some_iff_getElem.1 c
      rw [List.any_eq_true]
      exact ⟨l[k], List.getElem_mem hk, hp⟩
    rw [c] at h105
    simp [H.plain, H.clean, H.one, H.cells, h105, e]

theorem nils_rsl (h : AHeap) : RSl h 1 .nils (([] : List Int).map encI1) := Slc.rsl encI1 1 h .nil

section
variable (bar : Nat) (h : AHeap) (b1 b2 : Nat)
/-- the two replicas -/
abbrev two (b1 b2 : Nat) : List (List AV) := [[.hptr b1 1 0 0], [.hptr b2 1 0 0]]

theorem sp41 (c : Option Nat) : run S0 bar 41 [.isl (two b1 b2) 1 c, .nilp] h = some (.bool false, h) := by
  have h43 : ∀ bar, run S0 bar 43 [.isl (two b1 b2) 1 c, .nilp] h = some (.int .i64 (-1), h) := fun bar => by
    refine run_code (sf := F43) rfl ?_
    rw [evBody_eq _ _ _ _ _ rfl]
    simp
    rw [evL_rnd]
    simp [aeqK, show IntKind.i64.wrap (1 : Int) = 1 from rfl]
    rw [evL_rnd]
    simp [aeqK, show IntKind.i64.wrap (2 : Int) = 2 from rfl]
    rw [evL_rnd]
    simp
  refine run_code (sf := F41) rfl ?_
  rw [evBody_eq _ _ _ _ _ rfl]
  simp [h43]

theorem sp45 (c : Option Nat) (h1 : b1 < h.length) (h2 : b2 < h.length) : run S0 bar 45 [.isl (two b1 b2) 1 c] h = some (.isl (two b1 b2) 1 none, h) := by
  have hl : 2 ≤ LIM := by simp [LIM]
  refine run_code (sf := F45) rfl ?_
  rw [evBody_eq _ _ _ _ _ rfl]
  simp [aeqK, abslice, aappend, hl, frz_hsl, frz_hptr, h1, h2]
end
end Go.Ai
/-
  What the functions come to: fan.Order, fan.New.
-/
namespace Go.Ai
set_option linter.unusedSimpArgs false
set_option linter.unusedVariables false

theorem hsl_rsl (h : AHeap) (b sz : Nat) (els : List (List AV)) (he : h[b]? = some (.row sz els)) : RSl h sz (.hsl b els.length 0 els.length sz none) els := by
  have hbl : b < h.length := (List.getElem?_eq_some_iff.1 he).1
  have hg : ∀ G : AHeap, (h ++ G)[b]? = some (.row sz els) := fun G => by rw [List.getElem?_append_left hbl]; exact he
  have hr : ∀ G : AHeap, heapRow (h ++ G) b els.length sz = some els := fun G => heapRow_eq (hg G) rfl
  refine ⟨rfl, rfl, rfl, fun _ _ _ => rfl, by simp, fun h' => by simp, fun G => ?_, fun G i => ?_, fun env vars G k i hi => ?_, fun i => rfl, fun i vs t r => rfl, fun i hi => rfl⟩
  · simp [sliceEls, hr, List.take_of_length_le]
  · rw [aiaddr_hsl, hr]
    simp only [addrOf, Option.bind_some, Nat.zero_add, Nat.le_refl, if_true]
    by_cases hi : i < els.length
    · rw [if_pos hi, List.getElem?_eq_getElem hi]; rfl
    · rw [if_neg hi, List.getElem?_eq_none (by omega)]; rfl
  · simp only [addrOf, aload_hptr, hg, if_true, Nat.zero_add, List.getElem?_eq_getElem hi, Option.bind_some]

def fanBlk (b1 b2 : Nat) (o : AV) : ABlk := .row 2 [[.isl (two b1 b2) 1 none, o]]

theorem gcOut_bad (h' h : AHeap) (v : AV) (b : Nat) (x y : ABlk) (hx : h[b]? = some x) (hy : h'[b]? = some y) (hne : x ≠ y) (hlow : y.low h.length FZ = false) : gcOut h' h v = (.junk, h') := by
  have hc : calm h.length FZ h h' = false := by
    cases c : calm h.length FZ h h' with
    | false => rfl
    | true =>
      obtain ⟨x', y', h1, h2, h3⟩ := calm_get c b (List.getElem?_eq_some_iff.1 hx).1
      rw [hx] at h1
      rw [hy] at h2
      injection h1 with h1
      injection h2 with h2
      subst h1 h2
      rcases h3 with h3 | h3
      · exact absurd h3 hne
      · rw [hlow] at h3; cases h3
  unfold gcOut
  dsimp only
  split
  · rw [hc]; rfl
  · rfl

section
variable (bar : Nat) (h : AHeap) (b1 b2 : Nat)
theorem sp4 (hb : bar ≤ h.length) : run S0 bar 4 [.hptr h.length 1 0 0, .nils] (h ++ [fanBlk b1 b2 .nils]) =
    some (.junk, h ++ [fanBlk b1 b2 (.hsl (h.length + 3) 2 0 2 1 none), .row 1 [[.int .i64 1]], .row 1 [[.int .i64 1], [.int .i64 2]], .row 1 [[.int .i64 0], [.int .i64 1]]]) := by
  have w0 : IntKind.i64.wrap (0 : Int) = 0 := rfl
  have w1 : IntKind.i64.wrap (1 : Int) = 1 := rfl
  have w2 : IntKind.i64.wrap (2 : Int) = 2 := rfl
  have hl1 : 1 ≤ LIM := by simp [LIM]
  have hl2 : 2 ≤ LIM := by simp [LIM]
  refine run_code (sf := F4) rfl ?_
  rw [evBody_eq _ _ _ _ _ rfl]
  simp only [fanBlk]
  simp [hb]
  rw [evL_rnd]
  simp [aslice, obound, asInt?, abslice, aappend, hl1, hl2, w1, w2]
  rw [evL_rnd]
  simp [aslice, obound, asInt?, abslice, aappend, hl1, hl2, w1, w2, heapRow, atop]
  rw [evL_rnd]
  simp
  have hb3 : bar ≤ h.length + 3 := by omega
  have hA0 : ∀ x, aiaddr (h ++ [x, .row 1 [[.int .i64 1]], .row 1 [[.int .i64 1], [.int .i64 2]]]) none 1 (.hsl (h.length + 2) 2 0 2 1 none) 0 = some (.hptr (h.length + 2) 2 0 0) := fun x => by
    have := aiaddr_hsl (h ++ [x, .row 1 [[.int .i64 1]], .row 1 [[.int .i64 1], [.int .i64 2]]]) 1 none 0 (h.length + 2) 2 0 2
    simpa [heapRow] using this
  have hA1 : ∀ x z, aiaddr (h ++ [x, .row 1 [[.int .i64 1]], .row 1 [[.int .i64 1], [.int .i64 2]], z]) none 1 (.hsl (h.length + 2) 2 0 2 1 none) 1 = some (.hptr (h.length + 2) 2 1 0) := fun x z => by
    have := aiaddr_hsl (h ++ [x, .row 1 [[.int .i64 1]], .row 1 [[.int .i64 1], [.int .i64 2]], z]) 1 none 1 (h.length + 2) 2 0 2
    simpa [heapRow] using this
  have h103a : ∀ bar h, run S0 bar 103 [.nils, .int .i64 0] h = some (.bool false, h) := fun bar h => sp103 bar h .nils [] 0 (nils_rsl h) (by simp)
  have h103b : ∀ bar x, run S0 bar 103 [.hsl (h.length + 3) 1 0 1 1 none, .int .i64 1] (h ++ [x, .row 1 [[.int .i64 1]], .row 1 [[.int .i64 1], [.int .i64 2]], .row 1 [[.int .i64 0]]]) = some (.bool false, h ++ [x, .row 1 [[.int .i64 1]], .row 1 [[.int .i64 1], [.int .i64 2]], .row 1 [[.int .i64 0]]]) := fun bar x => by
    have hR := hsl_rsl (h ++ [x, .row 1 [[.int .i64 1]], .row 1 [[.int .i64 1], [.int .i64 2]], .row 1 [[.int .i64 0]]]) (h.length + 3) 1 [[.int .i64 0]] (by simp)
    exact sp103 bar _ _ [0] 1 hR (by simp [LIM])
  rw [evL_rnd]
  simp [hA0, h103a, aslice, obound, asInt?, abslice, aappend, hl1, hl2, w0, w1, w2, heapRow, atop, hb, hb3]
  rw [evL_rnd]
  simp [hA1, h103b, aslice, obound, asInt?, abslice, aappend, hl1, hl2, w0, w1, w2, heapRow, atop, hb, hb3]
  rw [evL_rnd]
  simp
  refine gcOut_bad _ _ _ h.length _ _ (get_last _ _) (by simp; rfl) (by simp) (by simp [ABlk.low])

theorem gcF_isl1 (h : AHeap) (n k : Nat) (acc : List Nat) (els : List (List AV)) (c : Option Nat) : gcFind h n (k + 1) acc (.isl els 1 c) = els.foldl (fun acc e => e.foldl (gcFind h n k) acc) acc := (rfl)
theorem gcF_hsl1 (h : AHeap) (n k : Nat) (acc : List Nat) (b bl i l sz : Nat) (c : Option Nat) (els : List (List AV)) (hx : h[b]? = some (.row sz els)) (hb : n ≤ b) : gcFind h n (k + 1) acc (.hsl b bl i l 1 c) = els.foldl (fun acc e => e.foldl (gcFind h n k) acc) acc := by
  show (if 1 = 1 ∧ n ≤ b then _ else acc) = _
  rw [if_pos ⟨rfl, hb⟩, hx]

theorem sp22 (hb : bar ≤ h.length) (c : Option Nat) (h1 : b1 < h.length) (h2 : b2 < h.length) : run S0 bar 22 [.isl (two b1 b2) 1 c] h =
    some (.tup [.hptr h.length 1 0 0, .int .i64 0], h ++ [fanBlk b1 b2 (.isl [[.int .i64 0], [.int .i64 1]] 1 none)]) := by
  have h41 := fun bar => sp41 bar h b1 b2 c
  have h45 := fun bar => sp45 bar h b1 b2 c h1 h2
  have h4 := sp4 bar h b1 b2 hb
  simp only [fanBlk] at h4
  refine run_code (sf := F22) rfl ?_
  rw [evBody_eq _ _ _ _ _ rfl]
  simp [h41, h45, abuild, h4]
  rw [gcOut_one (b := h.length) (x := fanBlk b1 b2 (.hsl (h.length + 3) 2 0 2 1 none))]
  · have q1 : ¬ (h.length + 3 < h.length) := by omega
    simp [fanBlk, gcAt_same, gcAt_low, gcAt_other, h1, h2, ren_hptr, ren_hsl, renBlk]
  · exact calm_refl _ _ _ _
  · have e := fun k acc x y z => gcF_hsl1 (h ++ [x, y, z, .row 1 [[.int .i64 0], [.int .i64 1]]]) h.length k acc (h.length + 3) 2 0 2 1 none [[.int .i64 0], [.int .i64 1]] (by simp) (by omega)
    simp [h1, h2, gcF_isl1, e]
  · simp [fanBlk]
  · omega
end
end Go.Ai
/-
  What the functions come to: fan.Fetch, its loop.
-/
namespace Go.Ai
set_option linter.unusedSimpArgs false
set_option linter.unusedVariables false

theorem rangeS_l (a : Ask) (r : Rep) (u : Slc Ent) : (rangeS a r u).l = (rangeM a u.l).take (limR a r).toNat := Slc.ofN_l _ _

theorem rangeS_ne {a : Ask} {r : Rep} {u : Slc Ent} (ha : rightA a = true) (hm : moreR a r u = true) : (rangeS a r u).l ≠ [] := by
  have := limR_pos a r ha
  rw [rangeS_l]
  simp [moreR] at hm
  intro e
  rcases List.take_eq_nil_iff.1 e with e | e
  · omega
  · rw [e] at hm; simp at hm; omega

/-- a slice that was made by appending, at its place -/
def genAV (N sz : Nat) (els : List (List AV)) : AV := if els = [] then .nils else .hsl N els.length 0 els.length sz none
section
variable (N sz : Nat) (els : List (List AV))
@[simp] theorem gen_plain : (genAV N sz els).plain = genAV N sz els := by unfold genAV; split <;> rfl
@[simp] theorem gen_one : (genAV N sz els).one = true := by unfold genAV; split <;> rfl
@[simp] theorem gen_cells : (genAV N sz els).cells = [genAV N sz els] := by unfold genAV; split <;> rfl
@[simp] theorem gen_clean (vs : List (Nat × LVar)) (t : Nat) (r : AEnv) : envClean vs ((t, genAV N sz els) :: r) = (t, genAV N sz els) :: envClean vs r := by unfold genAV; split <;> rfl
@[simp] theorem gen_szOk : szOk sz (genAV N sz els) = true := by unfold genAV; split <;> simp
@[simp] theorem gen_len (h : AHeap) : alen h none .slice (genAV N sz els) = some (els.length : Int) := by
  unfold genAV
  split
  · rename_i h; subst h; rfl
  · rfl
theorem genAV_nil : genAV N sz [] = .nils := rfl
end

theorem gen_append (bar N sz : Nat) (H : AHeap) (els : List (List AV)) (y : List AV) (hb : bar ≤ N) (hN : els = [] → H.length = N) (hx : els ≠ [] → H[N]? = some (.row sz els)) (hl : els.length + 1 ≤ LIM) :
    aappend sz bar H (genAV N sz els) [y] = some (genAV N sz (els ++ [y]), if els = [] then H ++ [.row sz [y]] else H.set N (.row sz (els ++ [y]))) := by
  by_cases q : els = []
  · subst q
    have : 1 ≤ LIM := by simp [LIM]
    simp [genAV, aappend, this, hN rfl]
  · have hr : heapRow H N els.length sz = some els := heapRow_eq (hx q) rfl
    simp [genAV, q, aappend, hr, hl, hb]

theorem gen_rsl (h : AHeap) (N sz : Nat) (els : List (List AV)) (hx : els ≠ [] → h[N]? = some (.row sz els)) : RSl h sz (genAV N sz els) els := by
  by_cases q : els = []
  · subst q
    exact Slc.rsl (fun _ : Unit => []) sz h .nil
  · have := hsl_rsl h N sz els (hx q)
    simpa [genAV, q] using this

/-- a replica, where it lies, and what it is -/
structure Rp where
  b : Nat
  r : Slc Rep
  n : Nat
  u : Slc Ent
def Rp.blk (x : Rp) : ABlk := repBlk x.r x.n x.u
def Rp.next (x : Rp) : ABlk := repBlk x.r (x.n + 1 : Nat) x.u
def Rp.step (x : Rp) : Rep := stepR x.r x.n

/-- what the replies come to -/
def fetS (a : Ask) (st : List (Slc Ent) × List Ent) (x : Rp) : List (Slc Ent) × List Ent :=
  if x.step.fail = true then st
  else (st.1 ++ [rangeS a x.step x.u], st.2 ++ if moreR a x.step x.u = true then (rangeS a x.step x.u).l.getLast?.toList else [])

/-- the lists, and the last ones, behind what was there -/
def fH (hc : AHeap) (st : List (Slc Ent) × List Ent) : AHeap :=
  hc ++ (if st.1 = [] then [] else .row 1 (st.1.map encLs) :: (if st.2 = [] then [] else [.row 3 (st.2.map encEnt)]))

theorem fH_low (hc : AHeap) (st : List (Slc Ent) × List Ent) {b : Nat} (hb : b < hc.length) : (fH hc st)[b]? = hc[b]? := List.getElem?_append_left hb
theorem fH_set (hc : AHeap) (st : List (Slc Ent) × List Ent) {b : Nat} (hb : b < hc.length) (x : ABlk) : (fH hc st).set b x = fH (hc.set b x) st := List.set_append_left _ _ hb

def fanB (bs os : List Nat) : ABlk := .row 2 [[.isl (bs.map fun (b : Nat) => [.hptr b 1 0 0]) 1 none, .isl (os.map fun (j : Nat) => [.int .i64 (j : Int)]) 1 none]]

/-- lists ahead of the last ones -/
def StOK (st : List (Slc Ent) × List Ent) : Prop := st.1 = [] → st.2 = []

theorem fetS_ok {a : Ask} {st : List (Slc Ent) × List Ent} (x : Rp) (h : StOK st) : StOK (fetS a st x) := by
  unfold fetS StOK
  split
  · exact h
  · intro e; simp at e

theorem fH_app1 (bar N : Nat) (hc : AHeap) (st : List (Slc Ent) × List Ent) (s : Slc Ent) (hb : bar ≤ N) (hN : hc.length = N) (h : StOK st) (hl : st.1.length + 1 ≤ LIM) :
    aappend 1 bar (fH hc st) (genAV N 1 (st.1.map encLs)) [encLs s] = some (genAV N 1 ((st.1 ++ [s]).map encLs), fH hc (st.1 ++ [s], st.2)) := by
  obtain ⟨ls, es⟩ := st
  have e0 : (ls ++ [s]).map encLs = ls.map encLs ++ [encLs s] := by simp
  rw [e0, gen_append bar N 1 _ _ _ hb (fun e => by
    have e : ls = [] := by simpa using e
    simp [fH, e, hN]) (fun e => by
    have e : ¬ ls = [] := by simpa using e
    simp [fH, e, ← hN]) (by simpa using hl)]
  congr 2
  by_cases q : ls = []
  · have q2 := h q
    dsimp only at q2
    subst q q2
    simp [fH]
  · have q1 : ¬ (ls.map encLs = []) := by simpa using q
    rw [if_neg q1]
    subst hN
    simp [fH, q]

theorem fH_app2 (bar N : Nat) (hc : AHeap) (st : List (Slc Ent) × List Ent) (e : Ent) (hb : bar ≤ N + 1) (hN : hc.length = N) (h : st.1 ≠ []) (hl : st.2.length + 1 ≤ LIM) :
    aappend 3 bar (fH hc st) (genAV (N + 1) 3 (st.2.map encEnt)) [encEnt e] = some (genAV (N + 1) 3 ((st.2 ++ [e]).map encEnt), fH hc (st.1, st.2 ++ [e])) := by
  obtain ⟨ls, es⟩ := st
  dsimp only at h
  have e0 : (es ++ [e]).map encEnt = es.map encEnt ++ [encEnt e] := by simp
  rw [e0, gen_append bar (N + 1) 3 _ _ _ hb (fun e => by
    have e : es = [] := by simpa using e
    simp [fH, h, e, hN]) (fun e => by
    have e : ¬ es = [] := by simpa using e
    simp [fH, h, e, ← hN]) (by simpa using hl)]
  congr 2
  subst hN
  by_cases q : es = []
  · subst q
    simp [fH, h]
  · have q1 : ¬ (es.map encEnt = []) := by simpa using q
    rw [if_neg q1]
    simp [fH, h, q]

theorem rangeS_len (a : Ask) (r : Rep) (u : Slc Ent) : (rangeS a r u).l.length ≤ u.l.length := by
  rw [rangeS_l]
  have := rangeM_len a u.l
  simp only [List.length_take]
  omega

theorem loop2 (bar f N : Nat) (reps : List Rp) (os : List Nat) (a : Ask) (ha : rightA a = true) (hbar : bar ≤ N) (hf : f < N) (hos : os.length ≤ LIM) (hlt : ∀ j ∈ os, j < reps.length) :
    ∀ (l' : List Nat) (i : Nat) (hc : AHeap) (st : List (Slc Ent) × List Ent), os.drop i = l' → i ≤ os.length → hc.length = N → hc[f]? = some (fanB (reps.map (·.b)) os) →
      (∀ x ∈ l'.filterMap (fun j => reps[j]?), hc[x.b]? = some x.blk ∧ bar ≤ x.b ∧ x.b < N ∧ x.b ≠ f ∧ x.n < LIM) → ((l'.filterMap (fun j => reps[j]?)).map (·.b)).Nodup → StOK st → st.1.length ≤ i → st.2.length ≤ i →
      totL st.1 + ((l'.filterMap (fun j => reps[j]?)).map (fun x => x.u.l.length)).sum ≤ LIM →
      evL (run S0 bar) bar F2_l15 [0, 2, 4, 9, 10, 11, 28, 29, 30] ⟨[(0, .hptr f 1 0 0), (2, .iptr [.nils] 0), (4, .iptr (encAsk a) 0), (9, genAV N 1 (st.1.map encLs)), (10, genAV (N + 1) 3 (st.2.map encEnt)), (11, .int .i64 (totL st.1)), (28, .isl (os.map fun (j : Nat) => [.int .i64 (j : Int)]) 1 none), (29, .int .i64 os.length), (30, .int .i64 i)], [], fH hc st⟩ =
        some (.exit 0, ⟨[(0, .hptr f 1 0 0), (2, .iptr [.nils] 0), (4, .iptr (encAsk a) 0), (9, genAV N 1 (((l'.filterMap (fun j => reps[j]?)).foldl (fetS a) st).1.map encLs)), (10, genAV (N + 1) 3 (((l'.filterMap (fun j => reps[j]?)).foldl (fetS a) st).2.map encEnt)), (11, .int .i64 (totL ((l'.filterMap (fun j => reps[j]?)).foldl (fetS a) st).1)), (28, .isl (os.map fun (j : Nat) => [.int .i64 (j : Int)]) 1 none), (29, .int .i64 os.length), (30, .int .i64 os.length), (31, .bool false)], [],
          fH ((l'.filterMap (fun j => reps[j]?)).foldl (fun h x => h.set x.b x.next) hc) ((l'.filterMap (fun j => reps[j]?)).foldl (fetS a) st)⟩) := by
  have hLIM : LIM = 4294967296 := rfl
  intro l'
  induction l' with
  | nil =>
    intro i hc st hd hi hN hfan hx hnd hst h1 h2 ht
    have e := dropn hd hi
    subst e
    rw [evL_rnd]
    simp
  | cons j l' ih =>
    intro i hc st hd hi hN hfan hx hnd hst hl1 hl2 ht
    obtain ⟨h3, h1, h2⟩ := dropc hd
    have hw := wrap_succ h3 hos
    have hj : j < reps.length := hlt j (by rw [← h1]; exact List.getElem_mem h3)
    obtain ⟨x, hxj⟩ : ∃ x, reps[j]? = some x := ⟨_, List.getElem?_eq_getElem hj⟩
    have efm : (j :: l').filterMap (fun j => reps[j]?) = x :: l'.filterMap (fun j => reps[j]?) := by simp [hxj]
    rw [efm] at hx hnd ht ⊢
    simp only [List.map_cons, List.nodup_cons, List.foldl_cons, List.sum_cons] at hnd ht ⊢
    obtain ⟨k1, k2, k3, k4, k5⟩ := hx x List.mem_cons_self
    -- what is there when it comes round again
    have hN' : (hc.set x.b x.next).length = N := by simp [hN]
    have hfan' : (hc.set x.b x.next)[f]? = some (fanB (reps.map (·.b)) os) := by rw [List.getElem?_set_ne k4]; exact hfan
    have hx' : ∀ y ∈ l'.filterMap (fun j => reps[j]?), (hc.set x.b x.next)[y.b]? = some y.blk ∧ bar ≤ y.b ∧ y.b < N ∧ y.b ≠ f ∧ y.n < LIM := fun y hy => by
      obtain ⟨m1, m2⟩ := hx y (List.mem_cons_of_mem _ hy)
      refine ⟨?_, m2⟩
      rw [List.getElem?_set_ne (fun e => hnd.1 (by rw [e]; exact List.mem_map_of_mem hy))]
      exact m1
    have hrl := rangeS_len a x.step x.u
    have ht' : totL (fetS a st x).1 ≤ totL st.1 + x.u.l.length := by
      unfold fetS
      split
      · omega
      · simp [totL]; omega
    have hl1' : (fetS a st x).1.length ≤ i + 1 := by unfold fetS; split <;> (try simp) <;> omega
    have hl2' : (fetS a st x).2.length ≤ i + 1 := by
      unfold fetS
      split
      · omega
      · simp only [List.length_append]
        have : (if moreR a x.step x.u = true then (rangeS a x.step x.u).l.getLast?.toList else []).length ≤ 1 := by
          split
          · cases (rangeS a x.step x.u).l.getLast? <;> simp
          · simp
        omega
    have ih := ih (i + 1) (hc.set x.b x.next) (fetS a st x) h2 h3 hN' hfan' hx' hnd.2 (fetS_ok x hst) hl1' hl2' (by omega)
    generalize (l'.filterMap (fun j => reps[j]?)).foldl (fetS a) (fetS a st x) = FS at *
    generalize (l'.filterMap (fun j => reps[j]?)).foldl (fun h x => h.set x.b x.next) (hc.set x.b x.next) = FH at *
    -- one reply
    have hHb : (fH hc st)[x.b]? = some (repBlk x.r x.n x.u) := by rw [fH_low _ _ (by omega)]; exact k1
    have h18 := sp18 bar (fH hc st) x.b x.n x.r x.u a k2 k5 hHb ha
    have e18 : (fH hc st).set x.b (repBlk x.r (x.n + 1 : Nat) x.u) = fH (hc.set x.b x.next) st := fH_set _ _ (by omega) _
    rw [e18] at h18
    have hHf : (fH hc st)[f]? = some (fanB (reps.map (·.b)) os) := by rw [fH_low _ _ (by omega)]; exact hfan
    have hap1 := fH_app1 bar N (hc.set x.b x.next) st (rangeS a x.step x.u) hbar hN' hst (by omega)
    have hap2 := fun e => fH_app2 bar N (hc.set x.b x.next) (st.1 ++ [rangeS a x.step x.u], st.2) e (by omega) hN' (by simp) (by show st.2.length + 1 ≤ LIM; omega)
    have hmne : moreR a x.step x.u = true → (rangeS a x.step x.u).l ≠ [] := fun hm => rangeS_ne ha hm
    have hbe : ((reps.map (·.b)).map fun (b : Nat) => [AV.hptr b 1 0 0])[j]? = some [.hptr x.b 1 0 0] := by simp [hxj]
    have hoe : (os.map fun (j : Nat) => [AV.int .i64 (j : Int)])[i]? = some [.int .i64 (j : Int)] := by simp [h3, h1]
    unfold fetS at ih
    have hstep : stepR x.r x.n = x.step := rfl
    rw [hstep] at h18
    generalize x.step = s at *
    generalize hc.set x.b x.next = hc1 at *
    generalize fH hc st = H0 at *
    simp only [fanB] at hHf
    generalize ((reps.map (·.b)).map fun (b : Nat) => [AV.hptr b 1 0 0]) = BE at *
    generalize hOE : (os.map fun (j : Nat) => [AV.int .i64 (j : Int)]) = OE at *
    cases hs : s.fail with
    | true =>
      simp only [hs, if_true] at ih h18
      simp only [encAsk] at ih h18 ⊢
      rw [evL_rnd]
      simp [h3, hoe, hHf, hbe, h18, hw]
      exact ih
    | false =>
      simp only [hs, Bool.false_eq_true, if_false] at ih h18
      have hSle := (rangeS a s x.u).le
      have htot : totL (st.1 ++ [rangeS a s x.u]) = totL st.1 + (rangeS a s x.u).l.length := by simp [totL]
      have w2 : IntKind.i64.wrap ((totL st.1 : Int) + ((rangeS a s x.u).l.length : Int)) = (totL st.1 : Int) + ((rangeS a s x.u).l.length : Int) := wrap64 (by omega) (by omega)
      have etot : ((totL (st.1 ++ [rangeS a s x.u]) : Nat) : Int) = (totL st.1 : Int) + ((rangeS a s x.u).l.length : Int) := by rw [htot]; omega
      rw [etot] at ih
      clear etot htot
      generalize rangeS a s x.u = S at *
      cases hm : moreR a s x.u with
      | false =>
        simp only [hm, Bool.false_eq_true, if_false, List.append_nil] at ih h18
        generalize (st.1 ++ [S]).map encLs = L1 at *
        generalize st.1.map encLs = L0 at *
        generalize st.2.map encEnt = E0 at *
        simp only [encAsk, encLs] at ih h18 hap1 ⊢
        rw [evL_rnd]
        simp [h3, hoe, hHf, hbe, h18, hw, abslice, hap1, w2]
        exact ih
      | true =>
        have hne := hmne hm
        obtain ⟨z, hz⟩ : ∃ z, S.l.getLast? = some z := ⟨S.l.getLast hne, List.getLast?_eq_some_getLast hne⟩
        have hpos : 0 < S.l.length := List.length_pos_iff.2 hne
        have hzi : S.l[S.l.length - 1]? = some z := by rw [← List.getLast?_eq_getElem?]; exact hz
        have w3 : IntKind.i64.wrap ((S.l.length : Int) - 1) = ((S.l.length - 1 : Nat) : Int) := by rw [wrap64 (by omega) (by omega)]; omega
        simp only [hm, if_true, hz, Option.toList_some] at ih h18
        have hap2 := hap2 z
        generalize (st.1 ++ [S]).map encLs = L1 at *
        generalize st.1.map encLs = L0 at *
        generalize (st.2 ++ [z]).map encEnt = E1 at *
        generalize st.2.map encEnt = E0 at *
        simp only [encAsk, encLs, encEnt] at ih h18 hap1 hap2 ⊢
        generalize S.l.length - 1 = k at *
        rw [evL_rnd]
        simp [h3, hoe, hHf, hbe, h18, hw, abslice, hap1, hap2, w2, w3, hzi]
        exact ih
end Go.Ai
/-
  What the functions come to: fan.Fetch.
-/
namespace Go.Ai
set_option linter.unusedSimpArgs false
set_option linter.unusedVariables false

/-- what is told, and whether there is more -/
def fetchF (asc : Bool) (st : List (Slc Ent) × List Ent) : List Ent × Bool :=
  match firstE asc st.2 with
  | none => (allF asc (totL st.1) st.1, false)
  | some e => ((allF asc (totL st.1) st.1).filter (uptoP asc e), true)

theorem fetchF_len (asc : Bool) (st : List (Slc Ent) × List Ent) : (fetchF asc st).1.length ≤ totL st.1 := by
  have h1 := allF_len asc (totL st.1) st.1
  unfold fetchF
  split
  · exact h1
  · exact Nat.le_trans (List.length_filter_le _ _) h1

theorem fets_len (a : Ask) : ∀ (xs : List Rp) (st : List (Slc Ent) × List Ent), (xs.foldl (fetS a) st).1.length ≤ st.1.length + xs.length ∧ (xs.foldl (fetS a) st).2.length ≤ st.2.length + xs.length ∧ totL (xs.foldl (fetS a) st).1 ≤ totL st.1 + (xs.map (fun x => x.u.l.length)).sum ∧ (StOK st → StOK (xs.foldl (fetS a) st))
  | [], st => ⟨by simp, by simp, by simp, id⟩
  | x :: xs, st => by
    obtain ⟨h1, h2, h3, h4⟩ := fets_len a xs (fetS a st x)
    have hrl := rangeS_len a x.step x.u
    have ht' : totL (fetS a st x).1 ≤ totL st.1 + x.u.l.length := by
      unfold fetS
      split
      · omega
      · simp [totL]; omega
    have hl1' : (fetS a st x).1.length ≤ st.1.length + 1 := by unfold fetS; split <;> (try simp) <;> omega
    have hl2' : (fetS a st x).2.length ≤ st.2.length + 1 := by
      unfold fetS
      split
      · omega
      · simp only [List.length_append]
        have : (if moreR a x.step x.u = true then (rangeS a x.step x.u).l.getLast?.toList else []).length ≤ 1 := by
          split
          · cases (rangeS a x.step x.u).l.getLast? <;> simp
          · simp
        omega
    simp only [List.foldl_cons, List.length_cons, List.map_cons, List.sum_cons]
    exact ⟨by omega, by omega, by omega, fun h => h4 (fetS_ok x h)⟩

/-- the replicas behind it -/
def nextH (h : AHeap) (xs : List Rp) : AHeap := xs.foldl (fun h x => h.set x.b x.next) h
theorem nextH_len : ∀ (xs : List Rp) (h : AHeap), (nextH h xs).length = h.length
  | [], h => rfl
  | x :: xs, h => by simp only [nextH, List.foldl_cons]; exact (nextH_len xs _).trans (by simp)
theorem nextH_calm (n : Nat) : ∀ (xs : List Rp) (h h' : AHeap), calm n FZ h h' = true → calm n FZ h (nextH h' xs) = true
  | [], h, h', hc => hc
  | x :: xs, h, h', hc => nextH_calm n xs h (h'.set x.b x.next) (calm_set hc (by simp [Rp.next, repBlk, ABlk.low]))
theorem nextH_get : ∀ (xs : List Rp) (h : AHeap) (b : Nat), (∀ x ∈ xs, x.b ≠ b) → (nextH h xs)[b]? = h[b]?
  | [], h, b, _ => rfl
  | x :: xs, h, b, hx => by
    simp only [nextH, List.foldl_cons]
    rw [show xs.foldl (fun h x => h.set x.b x.next) (h.set x.b x.next) = nextH (h.set x.b x.next) xs from rfl, nextH_get xs _ b (fun y hy => hx y (List.mem_cons_of_mem _ hy)), List.getElem?_set_ne (hx x List.mem_cons_self)]

def fetchV (a : Ask) (st : List (Slc Ent) × List Ent) : AV :=
  if st.1 = [] then .tup [.nils, .bool false, .int .i64 7]
  else .tup [if (fetchF a.asc st).1 = [] then .nils else .isl ((fetchF a.asc st).1.map encEnt) 3 none, .bool (fetchF a.asc st).2, .int .i64 0]

theorem sp2 (bar : Nat) (h : AHeap) (f : Nat) (reps : List Rp) (os : List Nat) (a : Ask) (ha : rightA a = true) (hbar : bar ≤ h.length) (hlt : ∀ j ∈ os, j < reps.length)
    (hf : h[f]? = some (fanB (reps.map (·.b)) os)) (hx : ∀ x ∈ os.filterMap (fun j => reps[j]?), h[x.b]? = some x.blk ∧ bar ≤ x.b ∧ x.b ≠ f ∧ x.n < LIM) (hnd : ((os.filterMap (fun j => reps[j]?)).map (·.b)).Nodup)
    (hle : os.length + ((os.filterMap (fun j => reps[j]?)).map (fun x => x.u.l.length)).sum ≤ LIM) (hadj : ∀ s ∈ ((os.filterMap (fun j => reps[j]?)).foldl (fetS a) ([], [])).1, Adj a.asc s.l) :
    run S0 bar 2 [.hptr f 1 0 0, .agg (encAsk a), .iptr [.nils] 0] h = some (fetchV a ((os.filterMap (fun j => reps[j]?)).foldl (fetS a) ([], [])), nextH h (os.filterMap (fun j => reps[j]?))) := by
  have hLIM : LIM = 4294967296 := rfl
  have hfl : f < h.length := (List.getElem?_eq_some_iff.1 hf).1
  have hl := loop2 bar f h.length reps os a ha hbar hfl (by omega) hlt os 0 h ([], []) rfl (Nat.zero_le _) rfl hf (fun x hxx => by
    obtain ⟨k1, k2, k3, k4⟩ := hx x hxx
    exact ⟨k1, k2, (List.getElem?_eq_some_iff.1 k1).1, k3, k4⟩) hnd (fun _ => rfl) (Nat.le_refl _) (Nat.le_refl _) (by simp [totL]; omega)
  have hxl : (os.filterMap (fun j => reps[j]?)).length ≤ os.length := List.length_filterMap_le _ _
  generalize os.filterMap (fun j => reps[j]?) = xs at *
  obtain ⟨l1, l2, l3, l4⟩ := fets_len a xs ([], [])
  have hok := l4 (fun _ => rfl)
  simp only [List.length_nil, Nat.zero_add] at l1 l2
  have l3' : totL (xs.foldl (fetS a) ([], [])).1 ≤ (xs.map (fun x => x.u.l.length)).sum := by simpa [totL] using l3
  have h113 := fun bar h => sp113 bar h a
  rw [ha] at h113
  have hN : (nextH h xs).length = h.length := nextH_len xs h
  have hcalm : calm h.length FZ h (fH (nextH h xs) (xs.foldl (fetS a) ([], []))) = true := calm_append (nextH_calm _ xs h h (calm_self _ _ _))
  have htk : (fH (nextH h xs) (xs.foldl (fetS a) ([], []))).take h.length = nextH h xs := by rw [← hN]; exact List.take_left
  have enx : xs.foldl (fun h x => h.set x.b x.next) h = nextH h xs := rfl
  rw [enx] at hl
  generalize hst : xs.foldl (fetS a) ([], []) = st at *
  -- the lists and the last ones
  have R1 : RSl (fH (nextH h xs) st) 1 (genAV h.length 1 (st.1.map encLs)) (st.1.map encLs) := gen_rsl _ _ _ _ (fun e => by
    have e : ¬ st.1 = [] := by simpa using e
    simp [fH, e, ← hN])
  have R2 : RSl (fH (nextH h xs) st) 3 (genAV (h.length + 1) 3 (st.2.map encEnt)) (st.2.map encEnt) := gen_rsl _ _ _ _ (fun e => by
    have e2 : ¬ st.2 = [] := by simpa using e
    have e : ¬ st.1 = [] := fun q => e2 (hok q)
    simp [fH, e, e2, ← hN])
  have hal := allF_len a.asc (totL st.1) st.1
  obtain ⟨SA, hSl, hSv, h71⟩ : ∃ SA : Slc Ent, SA.l = allF a.asc (totL st.1) st.1 ∧ (SA.av encEnt 3 = if allF a.asc (totL st.1) st.1 = [] then AV.nils else AV.isl ((allF a.asc (totL st.1) st.1).map encEnt) 3 none) ∧
      ∀ bar, run S0 bar 71 [.bool a.asc, .int .i64 (totL st.1), genAV h.length 1 (st.1.map encLs)] (fH (nextH h xs) st) = some (.tup [SA.av encEnt 3, .bool true], fH (nextH h xs) st) :=
    ⟨_, Slc.ofN_l _ (by omega), ofN_av _ _ _ _, fun bar => sp71 bar (fH (nextH h xs) st) a.asc (totL st.1) _ st.1 R1 (by omega) hadj⟩
  have h73 := fun bar => sp73 bar (fH (nextH h xs) st) a.asc _ st.2 R2 (by omega)
  have hgo : ∀ v, gcFind (fH (nextH h xs) st) h.length FZ [] v = [] → gcOut (fH (nextH h xs) st) h v = (ren (gcAt [] h.length) (fH (nextH h xs) st) FZ v, nextH h xs) := fun v hv => by
    rw [gcOut_none _ _ _ hcalm hv, htk]
  have hfh0 : fH h ([], []) = h := by simp [fH]
  have ht0 : totL ([] : List (Slc Ent)) = 0 := rfl
  rw [hfh0] at hl
  simp only [List.map_nil, genAV_nil, ht0, Int.natCast_zero] at hl
  unfold fetchV fetchF
  generalize allF a.asc (totL st.1) st.1 = A at *
  generalize totL st.1 = T at *
  simp only [encAsk] at h113 hl
  simp only [fanB] at hf
  generalize hH : fH (nextH h xs) st = H at *
  have hren : ∀ k, ren (gcAt [] h.length) H (k + 2) (SA.av encEnt 3) = SA.av encEnt 3 := fun k => ren_avEnt SA _ _ _
  refine run_code (sf := F2) rfl ?_
  rw [evBody_eq _ _ _ _ _ rfl]
  by_cases q : st.1 = []
  · simp [h113, aeqK, hf, hl, q, genAV_nil]
    rw [hgo _ (by simp)]
    simp
  · have q0 : ¬ ((st.1.length : Int) = 0) := by
      have := List.length_pos_iff.2 q
      omega
    cases hfe : firstE a.asc st.2 with
    | none =>
      rw [hfe] at h73
      dsimp only at h73 ⊢
      rw [if_neg q, ← hSv]
      simp [h113, aeqK, hf, hl, q, h71, h73]
      rw [hgo _ (by simp [gcF_av])]
      simp
    | some e =>
      rw [hfe] at h73
      have h75 := fun bar => sp75 bar H a.asc e SA
      have hu : (uptoS a.asc e SA).av encEnt 3 = if A.filter (uptoP a.asc e) = [] then AV.nils else AV.isl ((A.filter (uptoP a.asc e)).map encEnt) 3 none := by
        unfold uptoS
        rw [ofN_av, hSl]
      simp only [encEnt] at h73
      dsimp only
      rw [if_neg q, ← hu]
      simp [h113, aeqK, hf, hl, q, h71, h73, h75]
      rw [hgo _ (by simp [gcF_av])]
      simp
end Go.Ai
