/-
  Parts of a proof: an abstract interpreter of the model's code, and what the functions come to.
-/
import Derived.Test.YtmamikjllokmiaaGreatDoorAi05
set_option linter.unusedVariables false
set_option linter.unusedSimpArgs false
set_option linter.unnecessarySimpa false
/-
  slices.Insert of one element into a slice of the heap whose room is not known: what it comes to, whatever the room is.
-/
namespace Go.Ai
open Go.RowKit
set_option linter.unusedVariables false
set_option linter.unusedSimpArgs false

def lookF : List (Nat × SFunc) → Nat → Option SFunc
  | [], _ => none
  | (a, b) :: r, x => if a = x then some b else lookF r x

/-- the function alone -/
def S34 : SProg := fun f => if f = 34 then some (.code F34) else none

theorem heapRow_eq {h : AHeap} {b bl sz : Nat} {els : List (List AV)} (he : h[b]? = some (.row sz els)) (hl : els.length = bl) : heapRow h b bl sz = some els := by
  simp [heapRow, he, hl]

theorem wrap64 {x : Int} (h1 : -9223372036854775808 ≤ x) (h2 : x ≤ 9223372036854775807) : IntKind.i64.wrap x = x := by
  rw [IntKind.wrap_i64]
  omega

/-- at the end, with room -/
theorem ins_end (bar : Nat) (h : AHeap) (b cc n : Nat) (els J : List (List AV)) (x : List AV) (xcap : Option Nat) (hb : bar ≤ b) (hn : els.length = n) (hJ : n + J.length = cc) (he : h[b]? = some (.row 2 (els ++ J))) (hlim : n + 1 ≤ LIM) (hroom : n + 1 ≤ cc) :
    run S34 bar 34 [.hsl b cc 0 n 2 (some cc), .int .i64 n, .isl [x] 2 xcap] h = some (.hsl b cc 0 (n + 1) 2 (some cc), h.set b (.row 2 (els ++ [x] ++ J.drop 1))) := by
  subst hn
  refine run_code (sf := F34) rfl ?_
  rw [evBody_eq _ _ _ _ _ rfl]
  have hr : heapRow h b cc 2 = some (els ++ J) := heapRow_eq he (by simp; omega)
  have hput : putEls (els ++ J) els.length [x] = els ++ x :: J.drop 1 := by simp [putEls, List.drop_append]
  have h1 : els.length ≤ min cc (els.length + J.length) := by omega
  have h2 : els.length ≤ cc := by omega
  have h3 : 1 ≤ J.length := by omega
  simp [aslice, obound, asInt?, hr, atop, szOk, alen, sliceEls, aappend, hb, hput, h1, h2, h3, hroom, hlim]

/-- at the end, without room -/
theorem ins_endg (bar : Nat) (h : AHeap) (b n : Nat) (els : List (List AV)) (x : List AV) (xcap : Option Nat) (hb : bar ≤ b) (hn : els.length = n) (he : h[b]? = some (.row 2 els)) (hlim : n + 1 ≤ LIM) :
    run S34 bar 34 [.hsl b n 0 n 2 (some n), .int .i64 n, .isl [x] 2 xcap] h = some (.hsl h.length (n + 1) 0 (n + 1) 2 none, h ++ [.row 2 (els ++ [x])]) := by
  subst hn
  refine run_code (sf := F34) rfl ?_
  rw [evBody_eq _ _ _ _ _ rfl]
  have hr : heapRow h b els.length 2 = some els := heapRow_eq he rfl
  simp [aslice, obound, asInt?, hr, atop, szOk, alen, sliceEls, aappend, hb, hlim, show ¬ (els.length + 1 ≤ els.length) by omega]

theorem ins_nil (bar : Nat) (h : AHeap) (x : List AV) (xcap : Option Nat) :
    run S34 bar 34 [.nils, .int .i64 0, .isl [x] 2 xcap] h = some (.hsl h.length 1 0 1 2 none, h ++ [.row 2 [x]]) := by
  refine run_code (sf := F34) rfl ?_
  rw [evBody_eq _ _ _ _ _ rfl]
  simp [aslice, obound, asInt?, szOk, alen, sliceEls, aappend, show 1 ≤ LIM by simp [LIM]]

/-- in the middle, with room -/
theorem ins_mid (bar : Nat) (h : AHeap) (b cc n i : Nat) (A B J : List (List AV)) (c x : List AV) (xcap : Option Nat) (hb : bar ≤ b) (hA : A.length = i) (hn : i + 1 + B.length = n) (hJ : n + J.length = cc) (he : h[b]? = some (.row 2 (A ++ c :: B ++ J))) (hbl : b < h.length) (hlim : n + 1 ≤ LIM) (hroom : n + 1 ≤ cc) :
    run S34 bar 34 [.hsl b cc 0 n 2 (some cc), .int .i64 i, .isl [x] 2 xcap] h = some (.hsl b cc 0 (n + 1) 2 (some cc), h.set b (.row 2 (A ++ x :: c :: B ++ J.drop 1))) := by
  obtain ⟨j, J', rfl⟩ : ∃ j J', J = j :: J' := by
    cases J with
    | nil => simp at hJ; omega
    | cons j J' => exact ⟨j, J', rfl⟩
  simp only [List.length_cons] at hJ
  refine run_code (sf := F34) rfl ?_
  rw [evBody_eq _ _ _ _ _ rfl]
  have hlen0 : (A ++ c :: B ++ j :: J').length = cc := by simp; omega
  have s1 : ((A ++ c :: B ++ j :: J').drop i).take (n + 1 - i) = c :: B ++ [j] := by
    subst hA hn
    have e : A.length + 1 + B.length + 1 - A.length = (c :: B ++ [j]).length := by simp; omega
    rw [e, List.append_assoc, List.drop_left, show c :: B ++ j :: J' = (c :: B ++ [j]) ++ J' by simp, List.take_left]
  have s2 : putEls (A ++ c :: B ++ j :: J') (i + 1) (c :: B) = A ++ c :: c :: B ++ J' := by
    subst hA hn
    have e0 : (A ++ c :: B ++ j :: J') = (A ++ [c]) ++ (B ++ j :: J') := by simp
    have e1 : A.length + 1 = (A ++ [c]).length := by simp
    rw [putEls, e0, e1, List.take_left, List.length_cons, ← List.drop_drop, List.drop_left, show B ++ j :: J' = (B ++ [j]) ++ J' by simp, show B.length + 1 = (B ++ [j]).length by simp, List.drop_left]
    simp
  have s3 : putEls (A ++ c :: c :: B ++ J') i [x] = A ++ x :: c :: B ++ J' := by
    subst hA
    rw [putEls, show A ++ c :: c :: B ++ J' = A ++ (c :: c :: B ++ J') by simp, List.take_left, ← List.drop_drop, List.drop_left]
    simp
  have hlen1 : (A ++ c :: c :: B ++ J').length = cc := by simp; omega
  have hgoal : A ++ x :: c :: B ++ List.drop 1 (j :: J') = A ++ x :: c :: B ++ J' := by simp
  rw [hgoal]
  have hBl : (c :: B ++ [j]).length = n + 1 - i := by simp; omega
  have hBt : (c :: B ++ [j]).take (n - i) = c :: B := by
    have e : n - i = (c :: B).length := by simp; omega
    rw [e, List.take_left]
  have hcBl : (c :: B).length = (n - i) := by simp; omega
  generalize A ++ c :: B ++ j :: J' = R0 at *
  generalize A ++ c :: c :: B ++ J' = R1 at *
  generalize A ++ x :: c :: B ++ J' = R2 at *
  generalize c :: B ++ [j] = R3 at *
  generalize c :: B = R4 at *
  have hr : heapRow h b cc 2 = some R0 := heapRow_eq he hlen0
  have hL := hlim
  simp only [LIM] at hL
  have h0 : i ≤ n := by omega
  have h1 : ¬ ((i : Int) = (n : Int)) := by omega
  have w1 : IntKind.i64.wrap ((n : Int) + 1) = (n : Int) + 1 := wrap64 (by omega) (by omega)
  have w2 : IntKind.i64.wrap ((i : Int) + 1) = (i : Int) + 1 := wrap64 (by omega) (by omega)
  have g9 : 0 ≤ (n : Int) + 1 := by omega
  have g10 : (n : Int) + 1 ≤ cc := by omega
  have g11 : 0 ≤ (i : Int) + 1 := by omega
  have t1 : ((n : Int) + 1).toNat = n + 1 := by omega
  have t2 : ((i : Int) + 1).toNat = i + 1 := by omega
  have t3 : ((n : Int) + 1 - ((i : Int) + 1)).toNat = (n - i) := by omega
  have t4 : ((n : Int) + 1 - (i : Int)).toNat = n + 1 - i := by omega
  have hr2 : ∀ R : List (List AV), R.length = cc → heapRow (h.set b (.row 2 R)) b cc 2 = some R := fun R hR => heapRow_eq (by simp [hbl]) hR
  have g1 : n ≤ cc := by omega
  have g2 : ¬ ((cc : Int) < (n : Int) + 1) := by omega
  have g3 : (i : Int) + 1 ≤ (n : Int) + 1 := by omega
  have g4 : (i : Int) ≤ (n : Int) + 1 := by omega
  have g5 : i + (n + 1 - i) ≤ cc := by omega
  have g6 : i + 1 + ((n - i)) ≤ cc := by omega
  have g7 : min (n + 1 - i) ((n - i)) = (n - i) := by omega
  have g8 : min 1 (n + 1 - i) = 1 := by omega
  simp [aslice, obound, asInt?, hr, atop, szOk, alen, sliceEls, aappend, hb, hlen0, h0, h1, w1, w2, acap, aext, aoverl, aun, g1, g2, g3, g4, g5, g6, g7, acopy, s1, s2, s3, hr2, hBl, hBt, g8, g9, g10, g11, t1, t2, t3, t4, hlen1, hcBl, hroom]

/-- in the middle, without room -/
theorem ins_midg (bar : Nat) (h : AHeap) (b n i : Nat) (A B : List (List AV)) (c x : List AV) (xcap : Option Nat) (hb : bar ≤ h.length) (hA : A.length = i) (hn : i + 1 + B.length = n) (he : h[b]? = some (.row 2 (A ++ c :: B))) (hbl : b < h.length) (hlim : n + 1 ≤ LIM) :
    run S34 bar 34 [.hsl b n 0 n 2 (some n), .int .i64 i, .isl [x] 2 xcap] h = some (.hsl h.length (n + 1) 0 (n + 1) 2 none, h ++ [.row 2 (A ++ x :: c :: B)]) := by
  refine run_code (sf := F34) rfl ?_
  rw [evBody_eq _ _ _ _ _ rfl]
  have hlen0 : (A ++ c :: B).length = n := by simp; omega
  have s0 : (A ++ c :: B).take i = A := by rw [← hA, List.take_left]
  have s1 : ((A ++ c :: B).drop i).take (n - i) = c :: B := by
    rw [← hA, List.drop_left, List.take_of_length_le (by simp; omega)]
  have s2 : putEls (A ++ List.replicate (n + 1 - i) [AV.str [], AV.str []]) i [x] = A ++ x :: List.replicate (n - i) [AV.str [], AV.str []] := by
    have e : n + 1 - i = (n - i) + 1 := by omega
    rw [putEls, ← hA, List.take_left, ← List.drop_drop, List.drop_left, hA, e, List.replicate_succ]
    simp
  have s3 : putEls (A ++ x :: List.replicate (n - i) [AV.str [], AV.str []]) (i + 1) (c :: B) = A ++ x :: c :: B := by
    have e0 : A ++ x :: List.replicate (n - i) [AV.str [], AV.str []] = (A ++ [x]) ++ List.replicate (n - i) [AV.str [], AV.str []] := by simp
    have e1 : i + 1 = (A ++ [x]).length := by simp [hA]
    rw [putEls, e0, e1, List.take_left, ← List.drop_drop, List.drop_left, List.drop_replicate, show n - i - (c :: B).length = 0 by simp; omega]
    simp
  have hlen1 : (A ++ List.replicate (n + 1 - i) [AV.str [], AV.str []]).length = n + 1 := by simp; omega
  have hlen2 : (A ++ x :: List.replicate (n - i) [AV.str [], AV.str []]).length = n + 1 := by simp; omega
  have hBl : (c :: B).length = n - i := by simp; omega
  generalize A ++ c :: B = R0 at *
  generalize hR1 : A ++ List.replicate (n + 1 - i) [AV.str [], AV.str []] = R1 at *
  generalize hR2 : A ++ x :: List.replicate (n - i) [AV.str [], AV.str []] = R2 at *
  generalize A ++ x :: c :: B = R3 at *
  generalize c :: B = R4 at *
  have hr : heapRow h b n 2 = some R0 := heapRow_eq he hlen0
  have hr1 : ∀ R : List (List AV), heapRow (h ++ [.row 2 R]) b n 2 = some R0 := fun R => heapRow_eq (by rw [List.getElem?_append_left hbl]; exact he) hlen0
  have hr2 : ∀ R : List (List AV), R.length = n + 1 → heapRow (h ++ [.row 2 R]) h.length (n + 1) 2 = some R := fun R hR => heapRow_eq (by simp) hR
  have hL := hlim
  simp only [LIM] at hL
  have h0 : i ≤ n := by omega
  have h1 : ¬ ((i : Int) = (n : Int)) := by omega
  have w1 : IntKind.i64.wrap ((n : Int) + 1) = (n : Int) + 1 := wrap64 (by omega) (by omega)
  have w2 : IntKind.i64.wrap ((i : Int) + 1) = (i : Int) + 1 := wrap64 (by omega) (by omega)
  have w3 : IntKind.i64.wrap ((n : Int) + 1 - i) = (n : Int) + 1 - i := wrap64 (by omega) (by omega)
  have g2 : (n : Int) < (n : Int) + 1 := by omega
  have g3 : 0 ≤ (n : Int) + 1 - i := by omega
  have g4 : (n : Int) + 1 - i ≤ (LIM : Int) := by simp [LIM]; omega
  have g5 : i + (n + 1 - i) = n + 1 := by omega
  have g6 : ¬ (n + 1 ≤ n) := by omega
  have g7 : (i : Int) ≤ (n : Int) + 1 := by omega
  have g8 : min 1 (n + 1 - i) = 1 := by omega
  have g9 : 0 ≤ (n : Int) + 1 := by omega
  have g11 : 0 ≤ (i : Int) + 1 := by omega
  have g12 : i ≤ n + 1 := by omega
  have g13 : i + 1 + (n - i) = n + 1 := by omega
  have g14 : ¬ (n + 1 - i = 0) := by omega
  have t1 : ((n : Int) + 1).toNat = n + 1 := by omega
  have t2 : ((i : Int) + 1).toNat = i + 1 := by omega
  have t3 : ((n : Int) + 1 - ((i : Int) + 1)).toNat = n - i := by omega
  have t4 : ((n : Int) + 1 - (i : Int)).toNat = n + 1 - i := by omega
  simp [aslice, obound, asInt?, hr, atop, szOk, alen, sliceEls, aappend, hb, hlen0, h0, h1, w1, w2, w3, acap, aext, aun, g2, g3, g4, g5, g6, g7, g8, g9, g11, g12, g13, g14, hR1, t1, t2, t3, t4, acopy, s0, s1, s2, s3, hr1, hr2, hBl, hlen1, hlen2, hlim, List.take_of_length_le]

end Go.Ai
/-
  slices.Insert of one element, as an answer by itself.
-/
namespace Go.Ai
open Go.RowKit
set_option linter.unusedVariables false
set_option linter.unusedSimpArgs false

def prim34 : Prim := fun bar args h =>
  match args with
  | [.nils, .int .i64 i, .isl [x] 2 c] => if i = 0 ∧ bar ≤ h.length then some (.hsl h.length 1 0 1 2 none, h ++ [.row 2 [x]]) else none
  | [.hsl b bl 0 n 2 none, .int .i64 i, .isl [x] 2 c] =>
    if bar ≤ b ∧ bl = n ∧ n + 1 ≤ LIM ∧ 0 ≤ i ∧ i ≤ n then (heapRow h b bl 2).map fun els => (.hsl b (n + 1) 0 (n + 1) 2 none, h.set b (.row 2 (els.take i.toNat ++ x :: els.drop i.toNat))) else none
  | _ => none

section
variable {fm : Nat → Nat} {ρ ρ' ρ2 : Map} {X : Nat → Prop} {h h1 h2 : AHeap} {w w' : World} {b : Nat}

/-- block b has grown, the others are as they were -/
structure Renew (ρ ρ' ρ2 : Map) (h h1 h2 : AHeap) (b : Nat) : Prop where
  len : h2.length = h.length
  oth : ∀ c, c < h.length → c ≠ b → ρ2 c = ρ' c ∧ h2[c]? = h1[c]?
  grown : ∃ B sz els els2, ρ b = some B ∧ h[b]? = some (.row sz els) ∧ h2[b]? = some (.row sz els2) ∧ els.length < els2.length
  back : ∀ c B, ρ2 c = some B → c < h.length ∧ ∃ c', ρ' c' = some B

theorem Renew.out (C : Renew ρ ρ' ρ2 h h1 h2 b) {B : Nat} (hB : Out ρ' X w' B) : Out ρ2 X w' B :=
  ⟨fun c e => by
    obtain ⟨_, c', e'⟩ := C.back c B e
    exact hB.heap c' e', hB.apart, hB.lt⟩

theorem VR.renew (C : Renew ρ ρ' ρ2 h h1 h2 b) {a : AV} {c : Value} (H : VR fm ρ' X h1 w' a c) : ∀ {c0 : Value} {X0 : Nat → Prop} {w : World}, VR fm ρ X0 h w a c0 → VR fm ρ2 X h2 w' a c := by
  obtain ⟨B0, sz0, els0, els2, g1, g2, g3, g4⟩ := C.grown
  induction H with
  | bool b => intros; exact .bool b
  | int k n => intros; exact .int k n
  | str s => intros; exact .str s
  | nilp => intros; exact .nilp
  | @hptr b' bl i off a hb ha =>
    intro c0 X0 w H0
    cases H0 with
    | hptr hb0 ha0 =>
      refine .hptr (by rw [C.len]; exact hb0) fun B sz els e he => ?_
      by_cases q : b' = b
      · subst q
        rw [g3] at he
        simp only [Option.some.injEq, ABlk.row.injEq] at he
        obtain ⟨rfl, rfl⟩ := he
        have := (ha0 B0 _ els0 g1 g2).1
        exact ⟨by omega, fun q => by omega⟩
      · obtain ⟨e1, e2⟩ := C.oth b' hb0 q
        exact ha B sz els (by rw [← e1]; exact e) (by rw [← e2]; exact he)
  | iptr vs hB hl hc hv ih =>
    intro c0 X0 w H0
    cases H0 with
    | iptr vs0 _ hl0 _ hv0 =>
      refine .iptr vs (C.out hB) hl hc fun j a v ha hv' => ?_
      obtain ⟨b, hb⟩ := get_of_len hl0 ha
      exact ih j a v ha hv' (hv0 j a b ha hb)
  | nils => intros; exact .nils
  | @hsl b' bl i len sz cc cap a hb hlc ha hs =>
    intro c0 X0 w H0
    cases H0 with
    | hsl hb0 _ _ hs0 =>
      refine .hsl (by rw [C.len]; exact hb0) hlc (fun B els e he => ?_) (fun B sz' els e he => ?_)
      · by_cases q : b' = b
        · subst q
          rw [g3] at he
          simp only [Option.some.injEq, ABlk.row.injEq] at he
          obtain ⟨rfl, rfl⟩ := he
          have := hs0 B0 _ els0 g1 g2
          exact ⟨by omega, fun q => by omega⟩
        · obtain ⟨e1, e2⟩ := C.oth b' hb0 q
          exact ha B els (by rw [← e1]; exact e) (by rw [← e2]; exact he)
      · by_cases q : b' = b
        · subst q
          rw [g3] at he
          simp only [Option.some.injEq, ABlk.row.injEq] at he
          obtain ⟨rfl, rfl⟩ := he
          have := hs0 B0 _ els0 g1 g2
          omega
        · obtain ⟨e1, e2⟩ := C.oth b' hb0 q
          exact hs B sz' els (by rw [← e1]; exact e) (by rw [← e2]; exact he)
  | isl vss hl hlc hcap hB hsz hvs hc hv ih =>
    intro c0 X0 w H0
    cases H0 with
    | isl vss0 hl0 _ _ _ _ hvs0 _ hv0 =>
      refine .isl vss hl hlc hcap (fun hne => ⟨(hB hne).1, C.out (hB hne).2⟩) hsz hvs hc fun i e e' j x v he he' hx hv' => ?_
      obtain ⟨e0, he0⟩ := get_of_len hl0 he
      obtain ⟨b, hb⟩ := get_of_len ((hvs0 i e0 he0).trans (hsz i e he).symm) hx
      exact ih i e e' j x v he he' hx hv' (hv0 i e e0 j x b he he0 hx hb)
  | nilm => intros; exact .nilm
  | @hmap b' r hb ha =>
    intro c0 X0 w H0
    cases H0 with
    | hmap hb0 _ =>
      refine .hmap (by rw [C.len]; exact hb0) fun B es e he => ?_
      by_cases q : b' = b
      · subst q
        rw [g3] at he
        simp at he
      · obtain ⟨e1, e2⟩ := C.oth b' hb0 q
        exact ha B es (by rw [← e1]; exact e) (by rw [← e2]; exact he)
  | fn us vs hu hy hx hv ih1 ih2 =>
    intro c0 X0 w H0
    cases H0 with
    | fn us0 vs0 hu0 hy0 hx0 hv0 =>
      refine .fn us vs hu hy (fun j a v ha hv' => ?_) (fun j a v ha hv' => ?_)
      · obtain ⟨b, hb⟩ := get_of_len hu0 ha
        exact ih1 j a v ha hv' (hx0 j a b ha hb)
      · obtain ⟨b, hb⟩ := get_of_len hy0 ha
        exact ih2 j a v ha hv' (hv0 j a b ha hb)
  | nilf => intros; exact .nilf
  | ifc hx ih =>
    intro c0 X0 w H0
    cases H0 with
    | ifc hx0 => exact .ifc (ih hx0)
  | nili => intros; exact .nili
  | agg vs hl hv ih =>
    intro c0 X0 w H0
    cases H0 with
    | agg vs0 hl0 hv0 =>
      refine .agg vs hl (fun j a v ha hv' => ?_)
      obtain ⟨b, hb⟩ := get_of_len hl0 ha
      exact ih j a v ha hv' (hv0 j a b ha hb)
  | tup vs hl hv ih =>
    intro c0 X0 w H0
    cases H0 with
    | tup vs0 hl0 hv0 =>
      refine .tup vs hl (fun j a v ha hv' => ?_)
      obtain ⟨b, hb⟩ := get_of_len hl0 ha
      exact ih j a v ha hv' (hv0 j a b ha hb)
  | junk v => intros; exact .junk v

/-- the invariant behind it: b's row is known there, of cells that were known -/
theorem Inv.renew (C : Renew ρ ρ' ρ2 h h1 h2 b) (I0 : Inv fm ρ X h w) (I : Inv fm ρ' X h1 w') (hsame : ∀ c, c < h.length → c ≠ b → h1[c]? = h[c]?)
    (hinj : ∀ c B, c ≠ b → c < h.length → ρ2 b = some B → ρ' c ≠ some B) (htot : ∃ B, ρ2 b = some B) (hrow : ∀ B sz els, ρ2 b = some B → h2[b]? = some (.row sz els) → RowR fm ρ2 X h2 w' B sz els) : Inv fm ρ2 X h2 w' where
  dom c B e := by
    obtain ⟨h3, c', e'⟩ := C.back c B e
    exact ⟨by rw [C.len]; exact h3, (I.dom c' B e').2⟩
  inj c c' B e e' := by
    have hc := (C.back c B e).1
    have hc' := (C.back c' B e').1
    by_cases q : c = b
    · by_cases q' : c' = b
      · rw [q, q']
      · subst q
        rw [(C.oth c' hc' q').1] at e'
        exact absurd e' (hinj c' B q' hc' e)
    · by_cases q' : c' = b
      · subst q'
        rw [(C.oth c hc q).1] at e
        exact absurd e (hinj c B q hc e')
      · rw [(C.oth c hc q).1] at e
        rw [(C.oth c' hc' q').1] at e'
        exact I.inj c c' B e e'
  tot c hc := by
    rw [C.len] at hc
    by_cases q : c = b
    · subst q; exact htot
    · rw [(C.oth c hc q).1]
      cases hx : h1[c]? with
      | none =>
        rw [hsame c hc q, List.getElem?_eq_getElem hc] at hx
        cases hx
      | some x => exact I.tot c (List.getElem?_eq_some_iff.1 hx).1
  row c B sz els e he := by
    have hc := (C.back c B e).1
    by_cases q : c = b
    · subst q; exact hrow B sz els e he
    · rw [(C.oth c hc q).1] at e
      rw [(C.oth c hc q).2] at he
      obtain ⟨B0, hB0⟩ := I0.tot c hc
      obtain ⟨_, arr0, _, _, _, _, _, a4⟩ := I0.row c B0 sz els hB0 (by rw [← hsame c hc q]; exact he)
      obtain ⟨hw1, arr, t, fz, b1, b2, b3, b4⟩ := I.row c B sz els e he
      refine ⟨hw1, arr, t, fz, b1, b2, b3, fun i x j a hx ha => ?_⟩
      obtain ⟨v, c1, c2, c3⟩ := b4 i x j a hx ha
      obtain ⟨v0, _, _, g3⟩ := a4 i x j a hx ha
      exact ⟨v, c1, c2, c3.renew C g3⟩
  map c B es e he := by
    have hc := (C.back c B e).1
    by_cases q : c = b
    · subst q
      obtain ⟨_, _, _, _, _, _, g3, _⟩ := C.grown
      rw [g3] at he
      simp at he
    · rw [(C.oth c hc q).1] at e
      rw [(C.oth c hc q).2] at he
      obtain ⟨B0, hB0⟩ := I0.tot c hc
      obtain ⟨arr0, _, _, _, a4⟩ := I0.map c B0 es hB0 (by rw [← hsame c hc q]; exact he)
      obtain ⟨arr, cl, b1, b2, b3⟩ := I.map c B es e he
      refine ⟨arr, cl, b1, b2, fun i k x hx => ?_⟩
      obtain ⟨me, c1, c2, c3⟩ := b3 i k x hx
      obtain ⟨_, _, _, g3⟩ := a4 i k x hx
      exact ⟨me, c1, c2, c3.renew C g3⟩

theorem Le.renew (C : Renew ρ ρ' ρ2 h h1 h2 b) (L : Le ρ X h w ρ' X h1 w') : Le ρ X h w ρ2 X h2 w' where
  len := by rw [C.len]; exact Nat.le_refl _
  size := L.size
  os := L.os
  tape := L.tape
  output := L.output
  imm B hB := ⟨(L.imm B hB).1, fun c e => by
    obtain ⟨_, c', e'⟩ := C.back c B e
    exact (L.imm B hB).2.1 c' e', (L.imm B hB).2.2⟩
  blk c hc B' e := by
    by_cases q : c = b
    · subst q
      obtain ⟨B0, sz0, els0, els2, g1, g2, g3, g4⟩ := C.grown
      exact .inr ⟨B0, sz0, els0, els2, g1, g2, g3, g4⟩
    · rw [(C.oth c hc q).1] at e
      have := L.blk c hc B' e
      rw [← (C.oth c hc q).2] at this
      exact this

/-- a row of fewer elements, of cells that are known elsewhere -/
theorem RowR.cut {B sz : Nat} {els els2 : List (List AV)} (R : RowR fm ρ' X h1 w' B sz els) (hp : ∃ J, els = els2 ++ J) (hc : ∀ (i : Nat) x (j : Nat) a, els2[i]? = some x → x[j]? = some a → ∀ v, VR fm ρ' X h1 w' a v → VR fm ρ2 X h2 w' a v) : RowR fm ρ2 X h2 w' B sz els2 := by
  obtain ⟨J, rfl⟩ := hp
  obtain ⟨hw1, arr, t, fz, b1, b2, b3, b4⟩ := R
  have hget : ∀ (i : Nat) x, els2[i]? = some x → (els2 ++ J)[i]? = some x := fun i x hx => by
    rw [List.getElem?_append_left (List.getElem?_eq_some_iff.1 hx).1]; exact hx
  refine ⟨fun i x hx => hw1 i x (hget i x hx), arr, t, fz, b1, ?_, b3, fun i x j a hx ha => ?_⟩
  · have : els2.length * sz ≤ (els2 ++ J).length * sz := Nat.mul_le_mul_right _ (by simp)
    omega
  · obtain ⟨v, c1, c2, c3⟩ := b4 i x j a (hget i x hx) ha
    exact ⟨v, c1, c2, hc i x j a hx ha v c3⟩


/-- what is handed back, behind it -/
theorem ins_post {P : Program} {bar n i : Nat} {els J : List (List AV)} {x : List AV} {w0 : World} (I0 : Inv fm ρ X h w) (hbar : bar ≤ b) (hb : b < h.length) (hrow : h[b]? = some (.row 2 els)) (hn : els.length = n)
    {new : List (List AV)} (hnl : new.length = n + 1) (hnew : ∀ (i : Nat) y (j : Nat) a, new[i]? = some y → y[j]? = some a → ∃ c0, VR fm ρ X h w a c0)
    {src bl : Nat} {cap : Option Nat} {e : Ending} {v : Value} (he : e = .returned v)
    (V : VR fm ρ' X h1 w' (.hsl src bl 0 (n + 1) 2 cap) v) (I1 : Inv fm ρ' X h1 w') (L : Le ρ X h w ρ' X h1 w')
    (hout : ∀ B, B < w.heap.size → X B → w'.heap[B]? = w.heap[B]?) (hlow : ∀ c, c < bar → ρ' c = ρ c ∧ h1[c]? = h[c]?)
    (hsame : ∀ c, c < h.length → c ≠ b → h1[c]? = h[c]?) (hsrc : h1[src]? = some (.row 2 (new ++ J))) (hbl : bl = (new ++ J).length)
    (hb2 : ρ2 b = ρ' src) (ho : ∀ c, c < h.length → c ≠ b → ρ2 c = ρ' c) (hhi : ∀ c, h.length ≤ c → ρ2 c = none) (hne : ∀ c, c < h.length → c ≠ b → c ≠ src) (hcap : capIs cap (new ++ J).length ((new ++ J).length) ∨ cap = none) :
    CallPost fm X bar ρ h w (.hsl b (n + 1) 0 (n + 1) 2 none) (h.set b (.row 2 new)) e w' := by
  obtain ⟨B0, hB0⟩ := I0.tot b hb
  have hsl : src < h1.length := (List.getElem?_eq_some_iff.1 hsrc).1
  obtain ⟨B, hB⟩ := I1.tot src hsl
  have hset : (h.set b (.row 2 new))[b]? = some (.row 2 new) := by simp [hb]
  have C : Renew ρ ρ' ρ2 h h1 (h.set b (.row 2 new)) b := by
    refine ⟨by simp, fun c hc hcb => ⟨ho c hc hcb, ?_⟩, ⟨B0, 2, els, new, hB0, hrow, hset, by omega⟩, fun c B e => ?_⟩
    · rw [List.getElem?_set_ne (fun q => hcb q.symm), hsame c hc hcb]
    · have hc : c < h.length := by
        rcases Nat.lt_or_ge c h.length with q | q
        · exact q
        · rw [hhi c q] at e; cases e
      refine ⟨hc, ?_⟩
      by_cases q : c = b
      · subst q; exact ⟨src, by rw [← hb2]; exact e⟩
      · exact ⟨c, by rw [← ho c hc q]; exact e⟩
  have hR : ∀ B sz els', ρ2 b = some B → (h.set b (.row 2 new))[b]? = some (.row sz els') → RowR fm ρ2 X (h.set b (.row 2 new)) w' B sz els' := by
    intro B' sz els' e' he'
    rw [hset] at he'
    simp only [Option.some.injEq, ABlk.row.injEq] at he'
    obtain ⟨rfl, rfl⟩ := he'
    rw [hb2] at e'
    refine (I1.row src B' 2 _ e' hsrc).cut ⟨J, rfl⟩ (fun k y j a hy ha v hv => ?_)
    obtain ⟨c0, h0⟩ := hnew k y j a hy ha
    exact hv.renew C h0
  refine ⟨v, ρ2, he, ?_, Inv.renew C I0 I1 hsame (fun c B' hcb hc e1 e2 => ?_) ⟨B, by rw [hb2]; exact hB⟩ hR, Le.renew C L, hout, fun c hc => ?_⟩
  · cases V with
    | @hsl _ _ _ _ _ cc _ a hb1 hlc ha hs =>
      obtain ⟨g1, g2⟩ := ha B _ hB hsrc
      obtain ⟨g3, g4, arr, t, fr, g5, g6⟩ := g2 hbl.symm
      refine .hsl (by simpa using hb) hlc (fun B' els' e1 e2 => ?_) (fun B' sz' els' e1 e2 => ?_)
      · rw [hset] at e2
        simp only [Option.some.injEq, ABlk.row.injEq, true_and] at e2
        subst e2
        rw [hb2, hB] at e1
        injection e1 with e1
        subst e1
        exact ⟨by omega, fun _ => ⟨g3, by simp only [capIs]; omega, arr, t, fr, g5, g6⟩⟩
      · rw [hset] at e2
        simp only [Option.some.injEq, ABlk.row.injEq] at e2
        obtain ⟨_, rfl⟩ := e2
        omega
  · rw [hb2] at e1
    exact hne c hc hcb (I1.inj c src B' e2 e1)
  · have hcb : c ≠ b := by omega
    exact ⟨by rw [ho c (by omega) hcb]; exact (hlow c hc).1, by rw [List.getElem?_set_ne (fun q => hcb q.symm)]⟩

end

theorem prim34_ok {P : Program} {fm : Nat → Nat} {fmi : Nat → Option Nat} (hm : P.follows .mixedOrders = true) (hfm : ∀ f g, fmi f = some g → fm g = f)
    (hF : ∃ fn hint, P.funcs[fm 34]? = some fn ∧ bodied P (fm 34) = true ∧ lFunc P fmi hint fn = some F34) : PrimOK P fm 34 prim34 := by
  have K : ProgOK P fm fmi S34 := by
    refine ⟨hm, hfm, fun f sf h => ?_, fun f p h => ?_, fun f hf => ⟨fun sf h => ?_, fun p h => ?_⟩⟩
    · unfold S34 at h
      split at h
      · rename_i q
        subst q
        simp only [Option.some.injEq, SFun.code.injEq] at h
        subst h
        exact hF
      · cases h
    · unfold S34 at h
      split at h <;> cases h
    · unfold S34 at h
      split at h
      · rename_i q
        subst q
        cases hf
      · cases h
    · unfold S34 at h
      split at h <;> cases h
  refine ⟨?_, fun bar as h v h' hp ρ X w cs I hX hbar H => ?_⟩
  · obtain ⟨fn, hint, _, h2, _⟩ := hF
    exact h2
  have go : ∀ {as' : List AV} {hh : AHeap} {r : AV × AHeap}, run S34 bar 34 as' hh = some r → Inv fm ρ X hh w → bar ≤ hh.length → VRs fm ρ X hh w as' cs → Calls P (fm 34) cs.toArray w (CallPost fm X bar ρ hh w r.1 r.2) := by
    intro as' hh r hr I' hb' H'
    obtain ⟨n, hn⟩ := run_inv hr
    exact (arun_ok K n bar).run 34 as' hh r.1 r.2 hn ρ X w cs I' hX hb' H'
  unfold prim34 at hp
  split at hp
  · rename_i i x c
    obtain ⟨⟨hi, _⟩, hp2⟩ := of_ite hp
    clear hp
    subst hi
    have hr := ins_nil bar h x c
    rw [hp2] at hr
    exact go hr I hbar H
  · rename_i b bl n i x c
    obtain ⟨⟨hb, rfl, hlim, hi0, hin⟩, hp⟩ := of_ite hp
    obtain ⟨els, hels, he⟩ := map_some hp
    simp only [Prod.mk.injEq] at he
    obtain ⟨rfl, rfl⟩ := he
    obtain ⟨hrow, hel⟩ := heapRow_some hels
    obtain ⟨k, rfl⟩ : ∃ k : Nat, i = (k : Int) := ⟨i.toNat, by omega⟩
    simp only [Int.toNat_natCast]
    have hkn : k ≤ bl := by omega
    match cs, H with
    | [c0, c1, c2], H =>
      have g0 := H.2 0 _ c0 rfl rfl
      have g1 := H.2 1 _ c1 rfl rfl
      have g2 := H.2 2 _ c2 rfl rfl
      have hblt : b < h.length := (List.getElem?_eq_some_iff.1 hrow).1
      have hnew : ∀ (p : Nat) y (j : Nat) a, (els.take k ++ x :: els.drop k)[p]? = some y → y[j]? = some a → ∃ c0, VR fm ρ X h w a c0 := by
        intro p y j a hy ha
        have hmem : y ∈ els.take k ++ x :: els.drop k := List.mem_of_getElem? hy
        have : y = x ∨ y ∈ els := by
          rcases List.mem_append.1 hmem with q | q
          · exact .inr (List.mem_of_mem_take q)
          · rcases List.mem_cons.1 q with q | q
            · exact .inl q
            · exact .inr (List.mem_of_mem_drop q)
        rcases this with rfl | q
        · cases g2 with
          | isl vss hl _ _ _ hsz hvs _ hv =>
            obtain ⟨e0, he0⟩ := get_of_len (l := vss) (m := [y]) (j := 0) hl rfl
            obtain ⟨u, hu⟩ := get_of_len ((hvs 0 e0 he0).trans (hsz 0 y rfl).symm) ha
            exact ⟨u, hv 0 y e0 j a u rfl he0 ha hu⟩
        · obtain ⟨p', hp'⟩ := List.getElem?_of_mem q
          obtain ⟨B, hB⟩ := I.tot b hblt
          obtain ⟨_, arr, _, _, _, _, _, a4⟩ := I.row b B 2 els hB hrow
          obtain ⟨v, _, _, c3⟩ := a4 p' y j a hp' ha
          exact ⟨v, c3⟩
      have hnl : (els.take k ++ x :: els.drop k).length = bl + 1 := by simp; omega
      cases g0 with
      | @hsl _ _ _ _ _ cc _ a hb1 hlc ha hs =>
        obtain ⟨B, hB⟩ := I.tot b hblt
        obtain ⟨q1, q2, arr, t, fr, q3, q4⟩ := (ha B els hB hrow).2 hel
        by_cases hcc : cc = bl
        · -- no room: a new block
          subst hcc
          have hrun : run S34 bar 34 [.hsl b cc 0 cc 2 (some cc), .int .i64 k, .isl [x] 2 c] h = some (.hsl h.length (cc + 1) 0 (cc + 1) 2 none, h ++ [.row 2 (els.take k ++ x :: els.drop k)]) := by
            by_cases hk : k = cc
            · subst hk
              have := ins_endg bar h b k els x c hb hel hrow hlim
              rw [List.take_of_length_le (by omega), List.drop_eq_nil_of_le (by omega)]
              exact this
            · have hlt : k < els.length := by omega
              have e1 : els = els.take k ++ els[k] :: els.drop (k + 1) := by
                rw [← List.drop_eq_getElem_cons hlt, List.take_append_drop]
              have := ins_midg bar h b cc k (els.take k) (els.drop (k + 1)) els[k] x c hbar (by simp; omega) (by simp; omega) (by rw [← e1]; exact hrow) hblt hlim
              rw [← List.drop_eq_getElem_cons hlt] at this
              exact this
          refine (go hrun I hbar ⟨H.1, fun j y v hy hv => ?_⟩).mono ?_
          · match j with
            | 0 =>
              simp only [List.getElem?_cons_zero, Option.some.injEq] at hy hv
              subst hy hv
              refine .hsl hb1 hlc (fun B' els' e1 e2 => ?_) hs
              obtain ⟨u1, u2⟩ := ha B' els' e1 e2
              exact ⟨u1, fun q => ⟨(u2 q).1, rfl, (u2 q).2.2⟩⟩
            | j + 1 => exact H.2 (j + 1) y v (by simpa using hy) hv
          · rintro e w' ⟨v, ρ', he, V, I1, L, ho, hl⟩
            have hsl : (h ++ [ABlk.row 2 (els.take k ++ x :: els.drop k)])[h.length]? = some (.row 2 ((els.take k ++ x :: els.drop k) ++ [])) := by simp
            refine ins_post (P := P) (i := k) (w0 := w) (x := x) (J := []) (ρ2 := fun c => if c = b then ρ' h.length else if c < h.length then ρ' c else none) I hb hblt hrow hel hnl hnew he V I1 L ho hl (fun c hc hcb => List.getElem?_append_left hc) hsl (by rw [List.append_nil, hnl]) (by simp) (fun c hc hcb => by simp [hc, hcb]) (fun c hc => ?_) (fun c hc hcb => by omega) (.inr rfl)
            have h1 : ¬ c = b := by omega
            have h2 : ¬ c < h.length := by omega
            simp [h1, h2]
        · -- room
          have hcl : bl < cc := by omega
          generalize hJ : List.replicate (cc - bl) [AV.junk, AV.junk] = J
          have hJl : J.length = cc - bl := by rw [← hJ]; simp
          have hws : w.setRow B arr = w := setRow_self w B arr t fr q3
          have hrowR : RowR fm ρ X (h.set b (.row 2 (els ++ J))) w B 2 (els ++ J) := by
            have L0 := Le.set I hB hrow (els' := els ++ J) (by simp) q3 (arr' := arr) rfl
            rw [hws] at L0
            obtain ⟨hw1, arr0, t0, fz, b1, b2, b3, b4⟩ := I.row b B 2 els hB hrow
            rw [q3] at b1
            simp only [Option.some.injEq, Obj.cells.injEq] at b1
            obtain ⟨rfl, rfl, rfl⟩ := b1
            refine ⟨fun p y hy => ?_, arr, t, fr, q3, by simp; omega, b3, fun p y j a' hy ha' => ?_⟩
            · rcases List.mem_append.1 (List.mem_of_getElem? hy) with q | q
              · obtain ⟨p', hp'⟩ := List.getElem?_of_mem q
                exact hw1 p' y hp'
              · rw [← hJ] at q
                rw [List.eq_of_mem_replicate q]
                rfl
            · by_cases q : p < els.length
              · rw [List.getElem?_append_left q] at hy
                obtain ⟨v, c1, c2, c3⟩ := b4 p y j a' hy ha'
                exact ⟨v, c1, c2, c3.mono L0⟩
              · rw [List.getElem?_append_right (by omega)] at hy
                have hpl := (List.getElem?_eq_some_iff.1 hy).1
                have hyj : y = [AV.junk, AV.junk] := by
                  have := List.mem_of_getElem? hy
                  rw [← hJ] at this
                  exact List.eq_of_mem_replicate this
                subst hyj
                have hj2 : j < 2 := by have := (List.getElem?_eq_some_iff.1 ha').1; simpa using this
                have haj : a' = AV.junk := by
                  match j, hj2 with
                  | 0, _ => simpa using ha'.symm
                  | 1, _ => simpa using ha'.symm
                subst haj
                have hlt : p * 2 + j < arr.size := by omega
                exact ⟨arr[p * 2 + j], Array.getElem?_eq_getElem hlt, b3.2 _ _ (Array.getElem?_eq_getElem hlt), .junk _⟩
          have Lw : Le ρ X h w ρ X (h.set b (.row 2 (els ++ J))) w := by
            have := Le.set I hB hrow (els' := els ++ J) (by simp) q3 (arr' := arr) rfl
            rwa [hws] at this
          have Iw : Inv fm ρ X (h.set b (.row 2 (els ++ J))) w := by
            have := Inv.set (fm := fm) I hB hrow (els' := els ++ J) (by simp) q3 (arr' := arr) rfl
            rw [hws] at this
            exact this hrowR
          have hset : ∀ y, (h.set b y)[b]? = some y := fun y => by simp [hblt]
          have hrun : run S34 bar 34 [.hsl b cc 0 bl 2 (some cc), .int .i64 k, .isl [x] 2 c] (h.set b (.row 2 (els ++ J))) = some (.hsl b cc 0 (bl + 1) 2 (some cc), h.set b (.row 2 ((els.take k ++ x :: els.drop k) ++ J.drop 1))) := by
            by_cases hk : k = bl
            · subst hk
              have := ins_end bar (h.set b (.row 2 (els ++ J))) b cc k els J x c hb hel (by omega) (hset _) hlim (by omega)
              rw [List.take_of_length_le (by omega), List.drop_eq_nil_of_le (by omega)]
              rw [List.set_set] at this
              exact this
            · have hlt : k < els.length := by omega
              have e1 : els = els.take k ++ els[k] :: els.drop (k + 1) := by
                rw [← List.drop_eq_getElem_cons hlt, List.take_append_drop]
              have := ins_mid bar (h.set b (.row 2 (els ++ J))) b cc bl k (els.take k) (els.drop (k + 1)) J els[k] x c hb (by simp; omega) (by simp; omega) (by omega) (by rw [← e1]; exact hset _) (by simpa using hblt) hlim (by omega)
              rw [← List.drop_eq_getElem_cons hlt, List.set_set] at this
              exact this
          refine (go hrun Iw (by simpa using hbar) ⟨H.1, fun j y v hy hv => ?_⟩).mono ?_
          · match j with
            | 0 =>
              simp only [List.getElem?_cons_zero, Option.some.injEq] at hy hv
              subst hy hv
              refine .hsl (by simpa using hb1) hlc (fun B' els' e1 e2 => ?_) (fun B' sz' els' e1 e2 => ?_)
              · rw [hset] at e2
                simp only [Option.some.injEq, ABlk.row.injEq, true_and] at e2
                subst e2
                rw [hB] at e1
                injection e1 with e1
                subst e1
                exact ⟨by simp; omega, fun _ => ⟨q1, rfl, arr, t, fr, q3, q4⟩⟩
              · rw [hset] at e2
                simp only [Option.some.injEq, ABlk.row.injEq] at e2
                obtain ⟨_, rfl⟩ := e2
                simp; omega
            | j + 1 => exact (H.2 (j + 1) y v (by simpa using hy) hv).mono Lw
          · rintro e w' ⟨v, ρ', he, V, I1, L, ho, hl⟩
            refine ins_post (P := P) (i := k) (w0 := w) (x := x) (J := J.drop 1) (ρ2 := ρ') I hb hblt hrow hel hnl hnew he V I1 (Lw.trans L) ho (fun c hc => ⟨(hl c hc).1, ?_⟩) (fun c hc hcb => ?_) (hset _) ?_ rfl (fun c hc hcb => rfl) (fun c hc => ?_) (fun c hc hcb => hcb) (.inl ?_)
            · rw [List.getElem?_set_ne (by omega)]
            · rw [List.getElem?_set_ne (fun q => hcb q.symm)]
            · rw [List.length_append, hnl, List.length_drop, hJl]; omega
            · cases hx : ρ' c with
              | none => rfl
              | some B' => have := (I1.dom c B' hx).1; simp at this; omega
            · simp only [capIs]
              rw [List.length_append, hnl, List.length_drop, hJl]; omega
    | [], H => exact absurd H.1 (by simp)
    | [_], H => exact absurd H.1 (by simp)
    | [_, _], H => exact absurd H.1 (by simp)
    | _ :: _ :: _ :: _ :: _, H => exact absurd H.1 (by simp)
  · cases hp

end Go.Ai
/-
  The program of functions, by number; what is asked of a program for each.
-/
namespace Go.Ai
theorem lookF_mem : ∀ {l : List (Nat × SFunc)} {f : Nat} {sf : SFunc}, lookF l f = some sf → (f, sf) ∈ l
  | [], f, sf, h => by cases h
  | (a, b) :: r, f, sf, h => by
    simp only [lookF] at h
    split at h
    · rename_i q
      injection h with h
      subst q h
      exact List.mem_cons_self ..
    · exact List.mem_cons_of_mem _ (lookF_mem h)

def lookN : List (Nat × Nat) → Nat → Option Nat
  | [], _ => none
  | (a, b) :: r, x => if a = x then some b else lookN r x

theorem lookN_mem : ∀ {l : List (Nat × Nat)} {f g : Nat}, lookN l f = some g → (f, g) ∈ l
  | [], f, g, h => by cases h
  | (a, b) :: r, f, g, h => by
    simp only [lookN] at h
    split at h
    · rename_i q
      injection h with h
      subst q h
      exact List.mem_cons_self ..
    · exact List.mem_cons_of_mem _ (lookN_mem h)

/-- the model's number of an own number, by the table turned -/
def backN : List (Nat × Nat) → Nat → Nat
  | [], _ => 0
  | (a, b) :: r, x => if b = x then a else backN r x

theorem hfm_of {l : List (Nat × Nat)} (h : (l.all fun p => backN l p.2 == p.1) = true) : ∀ f g, lookN l f = some g → backN l g = f := by
  intro f g hg
  have := List.all_eq_true.1 h _ (lookN_mem hg)
  simpa using this

def FnOK (P : Program) (fm : Nat → Nat) (fmi : Nat → Option Nat) (p : Nat × SFunc) : Prop :=
  ∃ fn hint, P.funcs[fm p.1]? = some fn ∧ bodied P (fm p.1) = true ∧ lFunc P fmi hint fn = some p.2 ∧ (pureId p.1 = true → p.2.pol = .pure)

/-- a program of a table of functions and some that answer by themselves -/
def progOf (l : List (Nat × SFunc)) (prims : List (Nat × Prim)) : SProg := fun f =>
  match lookF l f with
  | some sf => some (.code sf)
  | none => (prims.find? fun p => p.1 == f).map fun p => .prim p.2

theorem progOK_of {P : Program} {fm : Nat → Nat} {fmi : Nat → Option Nat} {l : List (Nat × SFunc)} {prims : List (Nat × Prim)} (hm : P.follows .mixedOrders = true) (hfm : ∀ f g, fmi f = some g → fm g = f)
    (hl : ∀ p ∈ l, FnOK P fm fmi p) (hp : ∀ p ∈ prims, PrimOK P fm p.1 p.2 ∧ (pureId p.1 = true → ∀ bar as h v h', p.2 bar as h = some (v, h') → h' = h)) : ProgOK P fm fmi (progOf l prims) where
  mixed := hm
  hfm := hfm
  code f sf h := by
    unfold progOf at h
    split at h
    · rename_i sf' hs
      injection h with h
      injection h with h
      subst h
      obtain ⟨fn, hint, h1, h2, h3, _⟩ := hl _ (lookF_mem hs)
      exact ⟨fn, hint, h1, h2, h3⟩
    · cases hq : prims.find? (fun p => p.1 == f) with
      | none => rw [hq] at h; cases h
      | some q => rw [hq] at h; cases h
  prim f p h := by
    unfold progOf at h
    split at h
    · cases h
    · cases hq : prims.find? (fun p => p.1 == f) with
      | none => rw [hq] at h; cases h
      | some q =>
        rw [hq] at h
        simp only [Option.map_some, Option.some.injEq, SFun.prim.injEq] at h
        have hqf : q.1 = f := by simpa using List.find?_some hq
        have := (hp q (List.mem_of_find?_eq_some hq)).1
        rw [hqf, h] at this
        exact this
  pure f hf := by
    refine ⟨fun sf h => ?_, fun p h => ?_⟩
    · unfold progOf at h
      split at h
      · rename_i sf' hs
        injection h with h
        injection h with h
        subst h
        obtain ⟨_, _, _, _, _, h4⟩ := hl _ (lookF_mem hs)
        exact h4 hf
      · cases hq : prims.find? (fun p => p.1 == f) with
        | none => rw [hq] at h; cases h
        | some q => rw [hq] at h; cases h
    · unfold progOf at h
      split at h
      · cases h
      · cases hq : prims.find? (fun p => p.1 == f) with
        | none => rw [hq] at h; cases h
        | some q =>
          rw [hq] at h
          simp only [Option.map_some, Option.some.injEq, SFun.prim.injEq] at h
          have hqf : q.1 = f := by simpa using List.find?_some hq
          have := (hp q (List.mem_of_find?_eq_some hq)).2
          rw [hqf, h] at this
          exact this hf

end Go.Ai
/-
  The program of functions: printed by wip/gen/mkS.py.
-/
namespace Go.Ai
def ST0 : List (Nat × SFunc) := [
  (1, F1),
  (2, F2),
  (3, F3),
  (4, F4),
  (5, F5),
  (6, F6),
  (7, F7),
  (8, F8),
  (9, F9),
  (10, F10),
  (11, F11),
  (12, F12),
  (13, F13),
  (14, F14),
  (15, F15),
  (16, F16),
  (17, F17),
  (18, F18),
  (19, F19),
  (20, F20),
  (21, F21),
  (22, F22),
  (23, F23),
  (24, F24),
  (26, F26),
  (27, F27),
  (28, F28),
  (30, F30),
  (31, F31),
  (32, F32),
  (33, F33),
  (35, F35),
  (36, F36),
  (37, F37),
  (38, F38),
  (39, F39),
  (40, F40),
  (41, F41),
  (42, F42),
  (43, F43),
  (45, F45),
  (47, F47),
  (49, F49),
  (51, F51),
  (53, F53),
  (55, F55),
  (57, F57),
  (59, F59),
  (61, F61),
  (63, F63),
  (65, F65),
  (67, F67),
  (69, F69),
  (71, F71),
  (73, F73),
  (75, F75),
  (77, F77),
  (79, F79),
  (81, F81),
  (83, F83),
  (85, F85),
  (87, F87),
  (89, F89),
  (91, F91),
  (93, F93),
  (95, F95),
  (97, F97),
  (99, F99),
  (101, F101),
  (103, F103),
  (105, F105),
  (107, F107),
  (109, F109),
  (111, F111),
  (113, F113),
  (119, F119),
  (121, F121),
  (123, F123)]

def PR0 : List (Nat × Prim) := [(34, prim34)]

def S0 : SProg := progOf ST0 PR0
end Go.Ai
/-
  What the functions come to: comparisons.
-/
namespace Go.Ai
set_option linter.unusedSimpArgs false
set_option linter.unusedVariables false

@[simp] theorem sp63 (bar : Nat) (a : Int) (h : AHeap) : run S0 bar 63 [.int .i64 a] h = some (.bool false, h) := by
  refine run_code (sf := F63) rfl ?_
  rw [evBody_eq _ _ _ _ _ rfl]
  simp

def cmpI (a b : Int) : Int := if a < b then -1 else if b < a then 1 else 0

@[simp] theorem sp61 (bar : Nat) (a b : Int) (h : AHeap) : run S0 bar 61 [.int .i64 a, .int .i64 b] h = some (.int .i64 (cmpI a b), h) := by
  refine run_code (sf := F61) rfl ?_
  rw [evBody_eq _ _ _ _ _ rfl]
  unfold cmpI
  by_cases h1 : a < b
  · simp [h1]
  · by_cases h2 : b < a
    · simp [h1, h2]
    · simp [h1, h2]

/-- the next place -/
theorem wrap_succ {i n : Nat} (h : i < n) (hn : n ≤ LIM) : IntKind.i64.wrap ((i : Int) + 1) = (i : Int) + 1 := by
  have hl : LIM = 4294967296 := rfl
  exact wrap64 (by omega) (by omega)

def encI (n : Int) : List AV := [.int .i64 n]
/-- the first that is not nought -/
def orI (ns : List Int) : Int := (ns.find? (fun x => x != 0)).getD 0

theorem dropc {α : Type} {l : List α} {i : Nat} {a : α} {l' : List α} (h : l.drop i = a :: l') : ∃ h : i < l.length, l[i] = a ∧ l.drop (i + 1) = l' := by
  have h1 : i < l.length := by
    rcases Nat.lt_or_ge i l.length with q | q
    · exact q
    · rw [List.drop_eq_nil_of_le q] at h; cases h
  rw [List.drop_eq_getElem_cons h1] at h
  injection h with h2 h3
  exact ⟨h1, h2, h3⟩

theorem dropn {α : Type} {l : List α} {i : Nat} (h : l.drop i = []) (hi : i ≤ l.length) : i = l.length := by
  have := List.drop_eq_nil_iff.1 h
  omega

theorem loop59 (c : Caller) (bar : Nat) (s : Slc Int) (h : AHeap) : ∀ (l' : List Int) (i : Nat), s.l.drop i = l' → i ≤ s.l.length →
    evL c bar F59_l8 [3, 6, 7, 8] ⟨[(3, .int .i64 0), (6, s.av encI 1), (7, .int .i64 s.l.length), (8, .int .i64 i)], [], h⟩ = 
      match l'.find? (fun x => x != 0) with
      | some x => some (.ret, ⟨[(2, .int .i64 x)], [], h⟩)
      | none => some (.exit 0, ⟨[(3, .int .i64 0), (6, s.av encI 1), (7, .int .i64 s.l.length), (8, .int .i64 s.l.length), (9, .bool false)], [], h⟩) := by
  intro l'
  induction l' with
  | nil =>
    intro i hd hi
    have e := dropn hd hi
    subst e
    rw [evL_rnd]
    simp
  | cons a l' ih =>
    intro i hd hi
    obtain ⟨h3, h1, h2⟩ := dropc hd
    have ih := ih (i + 1) h2 h3
    rw [evL_rnd]
    have hw := wrap_succ h3 s.le
    by_cases q : a = 0
    · simp [h1, h3, encI, q, hw]
      exact ih
    · simp [h1, h3, encI, q, hw]

@[simp] theorem sp59 (bar : Nat) (s : Slc Int) (h : AHeap) : run S0 bar 59 [s.av encI 1] h = some (.int .i64 (orI s.l), h) := by
  refine run_code (sf := F59) rfl ?_
  rw [evBody_eq _ _ _ _ _ rfl]
  have hl := fun c bar => loop59 c bar s h s.l 0 (by simp) (by simp)
  simp at hl
  simp [hl, orI]
  cases hf : s.l.find? (fun x => x != 0) <;> simp


@[simp] theorem sp23 (bar : Nat) (a b : List UInt8) (h : AHeap) : run S0 bar 23 [.str a, .str b] h = some (.int .i64 (Lib.compareBytes a b), h) := by
  refine run_code (sf := F23) rfl ?_
  rw [evBody_eq _ _ _ _ _ rfl]
  simp [aext]

@[simp] theorem sp21 (bar : Nat) (a b : List UInt8) (h : AHeap) : run S0 bar 21 [.str a, .str b] h = some (.int .i64 (Lib.compareBytes a b), h) := by
  refine run_code (sf := F21) rfl ?_
  rw [evBody_eq _ _ _ _ _ rfl]
  simp

@[simp] theorem sp59_2 (bar : Nat) (a b : Int) (c : Option Nat) (h : AHeap) : run S0 bar 59 [.isl [[.int .i64 a], [.int .i64 b]] 1 c] h = some (.int .i64 (orI [a, b]), h) :=
  sp59 bar (.mk [a, b] c (by simp [LIM])) h
@[simp] theorem sp59_3 (bar : Nat) (a b d : Int) (c : Option Nat) (h : AHeap) : run S0 bar 59 [.isl [[.int .i64 a], [.int .i64 b], [.int .i64 d]] 1 c] h = some (.int .i64 (orI [a, b, d]), h) :=
  sp59 bar (.mk [a, b, d] c (by simp [LIM])) h

/-- a label: its name, its value -/
abbrev Pr := List UInt8 × List UInt8
@[simp] def encPr (p : Pr) : List AV := [.str p.1, .str p.2]

@[simp high] theorem frz_avPr (s : Slc Pr) (h : AHeap) (n k : Nat) : frz h n (k + 1) (s.av encPr 2) = s.av encPr 2 := by cases s <;> simp [Slc.av_nil, Slc.av_mk]
@[simp high] theorem ren_avPr (s : Slc Pr) (σ : Nat → Option Nat) (h : AHeap) (k : Nat) : ren σ h (k + 1) (s.av encPr 2) = s.av encPr 2 := by cases s <;> simp [Slc.av_nil, Slc.av_mk]
@[simp high] theorem low_avPr (s : Slc Pr) (n k : Nat) : AV.low n (k + 2) (s.av encPr 2) = true := by cases s <;> simp [Slc.av_nil, Slc.av_mk]
theorem frz_rowPr (l : List Pr) (h : AHeap) (n k : Nat) : (l.map encPr).map (fun e => e.map (frz h n k)) = l.map encPr := by simp
theorem ren_rowPr (l : List Pr) (σ : Nat → Option Nat) (h : AHeap) (k : Nat) : (l.map encPr).map (fun e => e.map (ren σ h k)) = l.map encPr := by simp

@[simp] theorem sp19 (bar : Nat) (a b c d : List UInt8) (h : AHeap) : run S0 bar 19 [.agg [.str a, .str b], .agg [.str c, .str d]] h = some (.int .i64 (Lib.compareBytes a c), h) := by
  refine run_code (sf := F19) rfl ?_
  rw [evBody_eq _ _ _ _ _ rfl]
  simp

def cmpPr (a b : Pr) : Int := orI [Lib.compareBytes a.1 b.1, Lib.compareBytes a.2 b.2]

@[simp] theorem sp67 (bar : Nat) (a b c d : List UInt8) (h : AHeap) : run S0 bar 67 [.agg [.str a, .str b], .agg [.str c, .str d]] h = some (.int .i64 (cmpPr (a, b) (c, d)), h) := by
  refine run_code (sf := F67) rfl ?_
  rw [evBody_eq _ _ _ _ _ rfl]
  simp [abslice, cmpPr]

/-- the first place at which two sets part -/
def cmpLoop : List Pr → List Pr → Option Int
  | [], _ => none
  | _ :: _, [] => some 1
  | a :: l, b :: m => if cmpPr a b = 0 then cmpLoop l m else some (cmpPr a b)

theorem loop69 (bar : Nat) (h : AHeap) (v w : Slc Pr) : ∀ (l' : List Pr) (i : Nat), v.l.drop i = l' → i ≤ v.l.length → i ≤ w.l.length →
    evL (run S0 bar) bar F69_l11 [0, 1, 2, 11, 12, 13] ⟨[(0, v.av encPr 2), (1, w.av encPr 2), (2, .fn 67 [] []), (11, v.av encPr 2), (12, .int .i64 v.l.length), (13, .int .i64 i)], [], h⟩ =
      match cmpLoop l' (w.l.drop i) with
      | some c => some (.ret, ⟨[(6, .int .i64 c)], [], h⟩)
      | none => some (.exit 0, ⟨[(0, v.av encPr 2), (1, w.av encPr 2), (2, .fn 67 [] []), (11, v.av encPr 2), (12, .int .i64 v.l.length), (13, .int .i64 v.l.length), (14, .bool false)], [], h⟩) := by
  intro l'
  induction l' with
  | nil =>
    intro i hd hi hw
    have e := dropn hd hi
    subst e
    rw [evL_rnd]
    simp [cmpLoop]
  | cons a l' ih =>
    intro i hd hi hw
    obtain ⟨h3, h1, h2⟩ := dropc hd
    rw [evL_rnd]
    have hwr := wrap_succ h3 v.le
    by_cases q : i = w.l.length
    · subst q
      simp [h3, cmpLoop]
    · have hlt : i < w.l.length := by omega
      have hnle : ¬ w.l.length ≤ i := by omega
      have hdw : w.l.drop i = w.l[i] :: w.l.drop (i + 1) := List.drop_eq_getElem_cons hlt
      have ih := ih (i + 1) h2 h3 hlt
      by_cases c : cmpPr a w.l[i] = 0
      · rw [hdw]
        simp [h3, h1, hlt, hnle, cmpLoop, c, hwr]
        exact ih
      · rw [hdw]
        simp [h3, h1, hlt, hnle, cmpLoop, c, hwr]

def cmpSet (l m : List Pr) : Int := match cmpLoop l m with
  | some c => c
  | none => if l.length < m.length then -1 else 0

@[simp] theorem sp69 (bar : Nat) (h : AHeap) (v w : Slc Pr) : run S0 bar 69 [v.av encPr 2, w.av encPr 2, .fn 67 [] []] h = some (.int .i64 (cmpSet v.l w.l), h) := by
  refine run_code (sf := F69) rfl ?_
  rw [evBody_eq _ _ _ _ _ rfl]
  have hl := fun bar => loop69 bar h v w v.l 0 (by simp) (by simp) (by simp)
  simp at hl
  simp [hl, cmpSet]
  cases cmpLoop v.l w.l with
  | some c => simp
  | none =>
    by_cases q : v.l.length < w.l.length <;> simp [q]

@[simp] theorem sp65 (bar : Nat) (h : AHeap) (v w : Slc Pr) : run S0 bar 65 [v.av encPr 2, w.av encPr 2] h = some (.int .i64 (cmpSet v.l w.l), h) := by
  refine run_code (sf := F65) rfl ?_
  rw [evBody_eq _ _ _ _ _ rfl]
  simp

/-- an entry -/
structure Ent where
  ts : Int
  lb : Slc Pr
  line : List UInt8
@[simp] def encEnt (e : Ent) : List AV := [.int .i64 e.ts, e.lb.av encPr 2, .str e.line]

@[simp high] theorem frz_avEnt (s : Slc Ent) (h : AHeap) (n k : Nat) : frz h n (k + 2) (s.av encEnt 3) = s.av encEnt 3 := by cases s <;> simp [Slc.av_nil, Slc.av_mk]
@[simp high] theorem ren_avEnt (s : Slc Ent) (σ : Nat → Option Nat) (h : AHeap) (k : Nat) : ren σ h (k + 2) (s.av encEnt 3) = s.av encEnt 3 := by cases s <;> simp [Slc.av_nil, Slc.av_mk]
@[simp high] theorem low_avEnt (s : Slc Ent) (n k : Nat) : AV.low n (k + 4) (s.av encEnt 3) = true := by cases s <;> simp [Slc.av_nil, Slc.av_mk]
theorem frz_rowEnt (l : List Ent) (h : AHeap) (n k : Nat) : (l.map encEnt).map (fun e => e.map (frz h n (k + 1))) = l.map encEnt := by simp
theorem ren_rowEnt (l : List Ent) (σ : Nat → Option Nat) (h : AHeap) (k : Nat) : (l.map encEnt).map (fun e => e.map (ren σ h (k + 1))) = l.map encEnt := by simp

def cmpEnt (a b : Ent) : Int := orI [cmpI a.ts b.ts, cmpSet a.lb.l b.lb.l, Lib.compareBytes a.line b.line]

section
variable (bar : Nat) (h : AHeap) (t t' : Int) (s s' : Slc Pr) (x x' : List UInt8)
@[simp] theorem sp35 : run S0 bar 35 [.agg [.int .i64 t, s.av encPr 2, .str x], .agg [.int .i64 t', s'.av encPr 2, .str x']] h = some (.int .i64 (cmpEnt ⟨t, s, x⟩ ⟨t', s', x'⟩), h) := by
  refine run_code (sf := F35) rfl ?_
  rw [evBody_eq _ _ _ _ _ rfl]
  simp [abslice, cmpEnt]

def sameEnt (a b : Ent) : Bool := decide (cmpEnt a b = 0)
def aheadEnt (asc : Bool) (a b : Ent) : Bool := if asc then decide (cmpEnt a b < 0) else decide (cmpEnt b a < 0)

@[simp] theorem sp33 : run S0 bar 33 [.agg [.int .i64 t, s.av encPr 2, .str x], .agg [.int .i64 t', s'.av encPr 2, .str x']] h = some (.bool (sameEnt ⟨t, s, x⟩ ⟨t', s', x'⟩), h) := by
  refine run_code (sf := F33) rfl ?_
  rw [evBody_eq _ _ _ _ _ rfl]
  simp [sameEnt]

@[simp] theorem sp31 (asc : Bool) : run S0 bar 31 [.agg [.int .i64 t, s.av encPr 2, .str x], .agg [.int .i64 t', s'.av encPr 2, .str x'], .bool asc] h = some (.bool (aheadEnt asc ⟨t, s, x⟩ ⟨t', s', x'⟩), h) := by
  refine run_code (sf := F31) rfl ?_
  rw [evBody_eq _ _ _ _ _ rfl]
  cases asc <;> simp [aheadEnt, aun]
end
end Go.Ai
/-
  How things stand to each other: linear orders by numbers below, at, above nought. No program in sight.
-/
namespace Go.Ai
set_option linter.unusedVariables false

structure Lin {α : Type} (c : α → α → Int) : Prop where
  eq : ∀ a b, c a b = 0 ↔ a = b
  anti : ∀ a b, c b a = - c a b
  trans : ∀ a b d, c a b < 0 → c b d < 0 → c a d < 0

namespace Lin
variable {α : Type} {c : α → α → Int} (L : Lin c)
include L
theorem refl (a : α) : c a a = 0 := (L.eq a a).2 rfl
theorem lt_irrefl (a : α) : ¬ c a a < 0 := by rw [L.refl]; omega
theorem pos_iff (a b : α) : 0 < c a b ↔ c b a < 0 := by rw [L.anti a b]; omega
theorem le_total (a b : α) : c a b ≤ 0 ∨ c b a ≤ 0 := by rw [L.anti a b]; omega
theorem lt_of_le_of_ne {a b : α} (h : ¬ c b a < 0) (hne : a ≠ b) : c a b < 0 := by
  have h1 := L.anti a b
  have h2 : c a b ≠ 0 := fun q => hne ((L.eq a b).1 q)
  omega
theorem le_trans {a b d : α} (h1 : ¬ c b a < 0) (h2 : ¬ c d b < 0) : ¬ c d a < 0 := by
  intro h
  by_cases e : a = b
  · subst e; exact h2 h
  · have h3 := L.lt_of_le_of_ne h1 e
    exact h2 (L.trans d a b h h3)
theorem lt_of_lt_of_le {a b d : α} (h1 : c a b < 0) (h2 : ¬ c d b < 0) : c a d < 0 := by
  by_cases e : b = d
  · subst e; exact h1
  · exact L.trans a b d h1 (L.lt_of_le_of_ne h2 e)
theorem lt_of_le_of_lt {a b d : α} (h1 : ¬ c b a < 0) (h2 : c b d < 0) : c a d < 0 := by
  by_cases e : a = b
  · subst e; exact h2
  · exact L.trans a b d (L.lt_of_le_of_ne h1 e) h2
theorem asymm {a b : α} (h : c a b < 0) : ¬ c b a < 0 := by rw [L.anti a b]; omega
theorem ne_of_lt {a b : α} (h : c a b < 0) : a ≠ b := by
  rintro rfl
  exact L.lt_irrefl _ h
end Lin

theorem cmpI_lin : Lin cmpI where
  eq a b := by unfold cmpI; split <;> (try split) <;> omega
  anti a b := by unfold cmpI; split <;> split <;> (try split) <;> omega
  trans a b d := by unfold cmpI; split <;> split <;> (try split) <;> (try split) <;> (try split) <;> omega

theorem orI_2 (x y : Int) : orI [x, y] = if x = 0 then y else x := by
  unfold orI
  by_cases h : x = 0
  · subst h
    by_cases h2 : y = 0
    · subst h2; rfl
    · simp [h2]
  · simp [h]

theorem orI_3 (x y z : Int) : orI [x, y, z] = orI [x, orI [y, z]] := by
  rw [orI_2, orI_2]
  unfold orI
  by_cases h : x = 0
  · subst h
    by_cases h2 : y = 0
    · subst h2
      by_cases h3 : z = 0
      · subst h3; rfl
      · simp [h3]
    · simp [h2]
  · simp [h]

theorem Lin.lex {α β : Type} {c : α → α → Int} {d : β → β → Int} (C : Lin c) (D : Lin d) : Lin (fun (p q : α × β) => orI [c p.1 q.1, d p.2 q.2]) where
  eq a b := by
    simp only [orI_2]
    constructor
    · intro h
      split at h
      · rename_i h1
        exact Prod.ext ((C.eq _ _).1 h1) ((D.eq _ _).1 h)
      · rename_i h1
        exact absurd h h1
    · rintro rfl
      simp [C.refl, D.refl]
  anti a b := by
    simp only [orI_2, C.anti a.1 b.1, D.anti a.2 b.2]
    by_cases h : c a.1 b.1 = 0
    · simp [h]
    · have : ¬ (- c a.1 b.1 = 0) := by omega
      simp [h]
  trans a b e h1 h2 := by
    simp only [orI_2] at *
    by_cases q1 : c a.1 b.1 = 0
    · rw [if_pos q1] at h1
      have e1 := (C.eq _ _).1 q1
      by_cases q2 : c b.1 e.1 = 0
      · rw [if_pos q2] at h2
        have e2 := (C.eq _ _).1 q2
        rw [e1, e2, C.refl, if_pos rfl]
        exact D.trans _ _ _ h1 h2
      · rw [if_neg q2] at h2
        rw [e1, if_neg q2]
        exact h2
    · rw [if_neg q1] at h1
      by_cases q2 : c b.1 e.1 = 0
      · rw [if_pos q2] at h2
        have e2 := (C.eq _ _).1 q2
        rw [← e2, if_neg q1]
        exact h1
      · rw [if_neg q2] at h2
        have h3 := C.trans _ _ _ h1 h2
        have : ¬ c a.1 e.1 = 0 := by omega
        rw [if_neg this]
        exact h3

/-- lists, as words in a lexicon -/
def lexL {α : Type} (c : α → α → Int) : List α → List α → Int
  | [], [] => 0
  | [], _ :: _ => -1
  | _ :: _, [] => 1
  | a :: l, b :: m => if c a b = 0 then lexL c l m else c a b

theorem Lin.list {α : Type} {c : α → α → Int} (C : Lin c) : Lin (lexL c) where
  eq := by
    intro a
    induction a with
    | nil => intro b; cases b <;> simp [lexL]
    | cons x l ih =>
      intro b
      cases b with
      | nil => simp [lexL]
      | cons y m =>
        simp only [lexL]
        by_cases h : c x y = 0
        · have e := (C.eq _ _).1 h
          subst e
          rw [if_pos h, ih]
          simp
        · rw [if_neg h]
          constructor
          · intro q; exact absurd q h
          · intro q
            injection q with q1 q2
            exact absurd ((C.eq _ _).2 q1) h
  anti := by
    intro a
    induction a with
    | nil => intro b; cases b <;> simp [lexL]
    | cons x l ih =>
      intro b
      cases b with
      | nil => simp [lexL]
      | cons y m =>
        simp only [lexL, C.anti x y, ih m]
        by_cases h : c x y = 0
        · simp [h]
        · have : ¬ (- c x y = 0) := by omega
          simp [h]
  trans := by
    intro a
    induction a with
    | nil =>
      intro b d h1 h2
      cases d with
      | nil => cases b <;> simp [lexL] at h1 h2
      | cons z k => simp [lexL]
    | cons x l ih =>
      intro b d h1 h2
      cases b with
      | nil => simp [lexL] at h1
      | cons y m =>
        cases d with
        | nil => simp [lexL] at h2
        | cons z k =>
          simp only [lexL] at *
          by_cases q1 : c x y = 0
          · rw [if_pos q1] at h1
            have e1 := (C.eq _ _).1 q1
            subst e1
            by_cases q2 : c x z = 0
            · rw [if_pos q2] at h2 ⊢
              exact ih _ _ h1 h2
            · rw [if_neg q2] at h2 ⊢
              exact h2
          · rw [if_neg q1] at h1
            by_cases q2 : c y z = 0
            · have e2 := (C.eq _ _).1 q2
              subst e2
              rw [if_neg q1]
              exact h1
            · rw [if_neg q2] at h2
              have h3 := C.trans _ _ _ h1 h2
              have : ¬ c x z = 0 := by omega
              rw [if_neg this]
              exact h3

def cmpU (a b : UInt8) : Int := if a < b then -1 else if b < a then 1 else 0

theorem cmpU_lin : Lin cmpU where
  eq a b := by
    unfold cmpU
    have h1 : a < b ↔ a.toNat < b.toNat := UInt8.lt_iff_toNat_lt
    have h2 : b < a ↔ b.toNat < a.toNat := UInt8.lt_iff_toNat_lt
    have h3 : a = b ↔ a.toNat = b.toNat := UInt8.toNat_inj.symm
    rw [h3]
    split
    · rename_i h; rw [h1] at h; omega
    · rename_i h; rw [h1] at h
      split
      · rename_i h'; rw [h2] at h'; omega
      · rename_i h'; rw [h2] at h'; omega
  anti a b := by
    unfold cmpU
    have h1 : a < b ↔ a.toNat < b.toNat := UInt8.lt_iff_toNat_lt
    have h2 : b < a ↔ b.toNat < a.toNat := UInt8.lt_iff_toNat_lt
    by_cases q1 : a < b
    · have q2 : ¬ b < a := by rw [h2]; rw [h1] at q1; omega
      simp [q1, q2]
    · by_cases q2 : b < a <;> simp [q1, q2]
  trans a b d h1 h2 := by
    unfold cmpU at *
    have e1 : a < b ↔ a.toNat < b.toNat := UInt8.lt_iff_toNat_lt
    have e2 : b < d ↔ b.toNat < d.toNat := UInt8.lt_iff_toNat_lt
    have e3 : a < d ↔ a.toNat < d.toNat := UInt8.lt_iff_toNat_lt
    have q1 : a < b := by
      split at h1
      · assumption
      · split at h1 <;> omega
    have q2 : b < d := by
      split at h2
      · assumption
      · split at h2 <;> omega
    have q3 : a < d := by rw [e3]; rw [e1] at q1; rw [e2] at q2; omega
    simp [q3]

theorem compareBytes_lex : ∀ a b : List UInt8, Lib.compareBytes a b = lexL cmpU a b
  | [], [] => rfl
  | [], _ :: _ => rfl
  | _ :: _, [] => rfl
  | a :: as, b :: bs => by
    simp only [Lib.compareBytes, lexL, compareBytes_lex as bs]
    unfold cmpU
    by_cases h1 : a < b
    · simp [h1]
    · by_cases h2 : b < a <;> simp [h1, h2]

theorem cmpB_lin : Lin Lib.compareBytes := by
  have : Lib.compareBytes = lexL cmpU := by
    funext a b
    exact compareBytes_lex a b
  rw [this]
  exact cmpU_lin.list

theorem cmpPr_lin : Lin cmpPr := cmpB_lin.lex cmpB_lin

theorem cmpSet_lex : ∀ a b : List Pr, cmpSet a b = lexL cmpPr a b
  | [], [] => rfl
  | [], _ :: _ => by simp [cmpSet, cmpLoop, lexL]
  | _ :: _, [] => rfl
  | a :: as, b :: bs => by
    have ih := cmpSet_lex as bs
    by_cases h : cmpPr a b = 0
    · rw [lexL, if_pos h, ← ih]
      simp [cmpSet, cmpLoop, h]
    · rw [lexL, if_neg h]
      simp [cmpSet, cmpLoop, h]

theorem cmpSet_lin : Lin cmpSet := by
  have : cmpSet = lexL cmpPr := by
    funext a b
    exact cmpSet_lex a b
  rw [this]
  exact cmpPr_lin.list

/-- what of an entry counts -/
abbrev Key := Int × List Pr × List UInt8
def keyEnt (e : Ent) : Key := (e.ts, e.lb.l, e.line)
def cmpKey (a b : Key) : Int := orI [cmpI a.1 b.1, orI [cmpSet a.2.1 b.2.1, Lib.compareBytes a.2.2 b.2.2]]

theorem cmpKey_lin : Lin cmpKey := cmpI_lin.lex (cmpSet_lin.lex cmpB_lin)

theorem cmpEnt_key (a b : Ent) : cmpEnt a b = cmpKey (keyEnt a) (keyEnt b) := orI_3 _ _ _

theorem same_key (a b : Ent) : sameEnt a b = true ↔ keyEnt a = keyEnt b := by
  simp only [sameEnt, decide_eq_true_eq, cmpEnt_key]
  exact cmpKey_lin.eq _ _

/-- the order upwards, or downwards -/
def dirKey (asc : Bool) (a b : Key) : Int := if asc then cmpKey a b else cmpKey b a

theorem Lin.flip {α : Type} {c : α → α → Int} (C : Lin c) : Lin (fun a b => c b a) where
  eq a b := by rw [C.eq]; exact eq_comm
  anti a b := C.anti b a
  trans a b d h1 h2 := C.trans d b a h2 h1

theorem dirKey_lin (asc : Bool) : Lin (dirKey asc) := by
  cases asc
  · exact cmpKey_lin.flip
  · exact cmpKey_lin

theorem ahead_key (asc : Bool) (a b : Ent) : aheadEnt asc a b = true ↔ dirKey asc (keyEnt a) (keyEnt b) < 0 := by
  cases asc <;> simp [aheadEnt, dirKey, cmpEnt_key]

end Go.Ai
/-
  What the functions come to: names, sets of labels.
-/
namespace Go.Ai
set_option linter.unusedSimpArgs false
set_option linter.unusedVariables false

/-! ### A text's bytes -/
def encB (b : UInt8) : List AV := [.int .u8 (b.toNat : Int)]
theorem bytesEls_eq (s : List UInt8) : bytesEls s = s.map encB := rfl

/-- a letter made small -/
def lowB (b : UInt8) : Int := IntKind.u8.wrap ((BitVec.ofInt IntKind.u8.bits (b.toNat : Int) ||| BitVec.ofInt IntKind.u8.bits 32).toNat)

/-- a byte of a name -/
def okB (b : UInt8) : Bool :=
  decide ((b.toNat : Int) = 95) || (decide ((48 : Int) ≤ b.toNat) && decide ((b.toNat : Int) ≤ 57)) || (decide ((65 : Int) ≤ b.toNat) && decide (97 ≤ lowB b) && decide (lowB b ≤ 122))

def allB : List UInt8 → Bool
  | [] => true
  | b :: l => okB b && allB l

theorem aint_or (k : IntKind) (a b : Int) : aint .or k a b = some (.int k (k.wrap ((BitVec.ofInt k.bits a ||| BitVec.ofInt k.bits b).toNat))) := rfl

theorem loop15 (c : Caller) (bar : Nat) (s : List UInt8) (h : AHeap) (hs : s.length ≤ LIM) : ∀ (l' : List UInt8) (i : Nat), s.drop i = l' → i ≤ s.length →
    evL c bar F15_l10 [24, 25, 26] ⟨[(24, .isl (bytesEls s) 1 none), (25, .int .i64 s.length), (26, .int .i64 i)], [], h⟩ =
      if allB l' = true then some (.exit 0, ⟨[(24, .isl (bytesEls s) 1 none), (25, .int .i64 s.length), (26, .int .i64 s.length), (27, .bool false)], [], h⟩)
      else some (.ret, ⟨[(2, .bool false)], [], h⟩) := by
  intro l'
  induction l' with
  | nil =>
    intro i hd hi
    have e := dropn hd hi
    subst e
    rw [evL_rnd]
    simp [allB]
  | cons b l' ih =>
    intro i hd hi
    obtain ⟨h3, h1, h2⟩ := dropc hd
    have ih := ih (i + 1) h2 h3
    rw [evL_rnd]
    have hw := wrap_succ h3 hs
    have hel : (bytesEls s)[i]? = some [.int .u8 (b.toNat : Int)] := by
      simp [bytesEls, h3, h1]
    have hia : aiaddr h none 1 (.isl (bytesEls s) 1 none) (i : Int) = some (.iptr [.int .u8 (b.toNat : Int)] 0) := by
      simp [aiaddr, hel]
    have hlow : aint .or .u8 (b.toNat : Int) 32 = some (.int .u8 (lowB b)) := rfl
    have hn : (b.toNat : Int) < 256 := by have := b.toNat_lt; omega
    have e : allB (b :: l') = (okB b && allB l') := rfl
    rw [e]
    have hok := okB.eq_1 b
    generalize lowB b = L at *
    generalize hq : (b.toNat : Int) = n at *
    have hn0 : 0 ≤ n := by omega
    clear e
    by_cases q1 : n = 95
    · subst q1
      simp at hok
      simp [h3, hia, hlow, hw, hok]
      exact ih
    · by_cases q2 : n < 48
      · have q3 : n < 65 := by omega
        have q4 : ¬ (48 ≤ n) := by omega
        have q5 : ¬ (65 ≤ n) := by omega
        simp [q1, q4, q5] at hok
        simp [h3, hia, hlow, hw, hok, q1, q2, q3]
      · by_cases q3 : n ≤ 57
        · have q4 : 48 ≤ n := by omega
          have q5 : ¬ (57 < n) := by omega
          simp [q1, q3, q4] at hok
          simp [h3, hia, hlow, hw, hok, q1, q2, q5]
          exact ih
        · have q4 : 57 < n := by omega
          by_cases q5 : n < 65
          · have q6 : ¬ (65 ≤ n) := by omega
            simp [q1, q3, q6] at hok
            simp [h3, hia, hlow, hw, hok, q1, q2, q4, q5]
          · have q6 : 65 ≤ n := by omega
            by_cases q7 : L < 97
            · have q8 : ¬ (97 ≤ L) := by omega
              simp [q1, q3, q6, q8] at hok
              simp [h3, hia, hlow, hw, hok, q1, q2, q4, q5, q7]
            · have q8 : 97 ≤ L := by omega
              by_cases q9 : 122 < L
              · have q10 : ¬ (L ≤ 122) := by omega
                simp [q1, q3, q6, q8, q10] at hok
                simp [h3, hia, hlow, hw, hok, q1, q2, q4, q5, q7, q9]
              · have q10 : L ≤ 122 := by omega
                simp [q1, q3, q6, q8, q10] at hok
                simp [h3, hia, hlow, hw, hok, q1, q2, q4, q5, q7, q9]
                exact ih

/-- may a text be a label's name? -/
def nameB (s : List UInt8) : Bool :=
  match s with
  | [] => false
  | b :: _ => decide (s.length ≤ 32) && !(decide ((48 : Int) ≤ b.toNat) && decide ((b.toNat : Int) ≤ 57)) && allB s

@[simp] theorem sp15 (bar : Nat) (s : List UInt8) (h : AHeap) : run S0 bar 15 [.str s] h = some (.bool (nameB s), h) := by
  refine run_code (sf := F15) rfl ?_
  rw [evBody_eq _ _ _ _ _ rfl]
  cases s with
  | nil => simp [nameB]
  | cons b l =>
    by_cases q1 : 32 < l.length + 1
    · have q2 : ¬ (l.length + 1 ≤ 32) := by omega
      have q3 : (32 : Int) < (l.length : Int) + 1 := by omega
      simp [nameB, q2, q3]
    · have q2 : l.length + 1 ≤ 32 := by omega
      have q3 : ¬ ((32 : Int) < (l.length : Int) + 1) := by omega
      have q4 : l.length + 1 ≤ LIM := by simp [LIM]; omega
      have hl := fun c bar => loop15 c bar (b :: l) h (by simpa using q4) (b :: l) 0 rfl (by simp)
      simp at hl
      by_cases q5 : (48 : Int) ≤ (b.toNat : Int)
      · by_cases q6 : (b.toNat : Int) ≤ 57
        · simp [nameB, q2, q3, q5, q6]
        · have hbl : (bytesEls (b :: l)).length = l.length + 1 := by simp [bytesEls]
          cases ha : allB (b :: l) <;> simp [nameB, q2, q3, q5, q6, q4, hbl, hl, ha]
      · have hbl : (bytesEls (b :: l)).length = l.length + 1 := by simp [bytesEls]
        cases ha : allB (b :: l) <;> simp [nameB, q2, q3, q5, q4, hbl, hl, ha]

/-! ### Where a name is to stand -/
def insPos (l : List Pr) (a : List UInt8) : Nat := (l.takeWhile fun p => decide (Lib.compareBytes p.1 a < 0)).length

theorem insPos_eq {l : List Pr} {a : List UInt8} {i : Nat} (hi : i ≤ l.length) (h1 : ∀ (m : Nat) (hm : m < l.length), m < i → Lib.compareBytes l[m].1 a < 0) (h2 : ∀ (m : Nat) (hm : m < l.length), i ≤ m → ¬ Lib.compareBytes l[m].1 a < 0) : insPos l a = i := by
  induction l generalizing i with
  | nil => simp at hi; subst hi; rfl
  | cons p l ih =>
    unfold insPos
    cases i with
    | zero =>
      have := h2 0 (by simp) (Nat.le_refl _)
      simp only [List.getElem_cons_zero] at this
      simp [List.takeWhile_cons, this]
    | succ i =>
      have := h1 0 (by simp) (by omega)
      simp only [List.getElem_cons_zero] at this
      have := ih (i := i) (by simpa using hi) (fun m hm hlt => h1 (m + 1) (by simpa using hm) (by omega)) (fun m hm hge => h2 (m + 1) (by simpa using hm) (by omega))
      unfold insPos at this
      simp_all [List.takeWhile_cons]

def Srt (l : List Pr) : Prop := l.Pairwise fun p q => Lib.compareBytes p.1 q.1 < 0

theorem Srt.get {l : List Pr} (H : Srt l) {i j : Nat} (hi : i < l.length) (hj : j < l.length) (hij : i < j) : Lib.compareBytes l[i].1 l[j].1 < 0 := List.pairwise_iff_getElem.1 H i j hi hj hij

theorem loop17 (bar : Nat) (h : AHeap) (b : Nat) (l : List Pr) (a v : List UInt8) (he : h[b]? = some (.row 2 (l.map encPr))) (hs : Srt l) (hl : l.length ≤ LIM) : ∀ (k i j : Nat), j - i ≤ k → i ≤ j → j ≤ l.length →
    (∀ (m : Nat) (hm : m < l.length), m < i → Lib.compareBytes l[m].1 a < 0) → (∀ (m : Nat) (hm : m < l.length), j ≤ m → ¬ Lib.compareBytes l[m].1 a < 0) →
    evL (run S0 bar) bar F17_l8 [0, 2, 4, 8, 9, 10] ⟨[(0, .hsl b l.length 0 l.length 2 none), (2, .fn 19 [] []), (4, .iptr [.str a, .str v] 0), (8, .int .i64 l.length), (9, .int .i64 i), (10, .int .i64 j)], [], h⟩ =
      some (.exit 0, ⟨[(0, .hsl b l.length 0 l.length 2 none), (2, .fn 19 [] []), (4, .iptr [.str a, .str v] 0), (8, .int .i64 l.length), (9, .int .i64 (insPos l a)), (10, .int .i64 (insPos l a)), (17, .bool false)], [], h⟩) := by
  have hLIM : LIM = 4294967296 := rfl
  intro k
  induction k with
  | zero =>
    intro i j hk hij hj h1 h2
    have e : i = j := by omega
    subst e
    rw [insPos_eq hj h1 h2, evL_rnd]
    simp
  | succ k ih =>
    intro i j hk hij hj h1 h2
    by_cases q : i = j
    · subst q
      rw [insPos_eq hj h1 h2, evL_rnd]
      simp
    · have hlt : i < j := by omega
      have w1 : IntKind.i64.wrap ((i : Int) + j) = (i : Int) + j := wrap64 (by omega) (by omega)
      have w2 : IntKind.u64.wrap ((i : Int) + j) = (i : Int) + j := by
        rw [IntKind.wrap]
        simp [IntKind.bits, IntKind.signed]
        omega
      have w3 : ashift .shr .u64 ((i : Int) + j) 1 = some (.int .u64 (((i + j) / 2 : Nat) : Int)) := by
        simp [ashift, IntKind.bits]
        rw [Int.fdiv_eq_ediv_of_nonneg _ (by decide)]
      have w4 : IntKind.i64.wrap (((i + j) / 2 : Nat) : Int) = (((i + j) / 2 : Nat) : Int) := wrap64 (by omega) (by omega)
      generalize hm : (i + j) / 2 = m at *
      have hml : m < l.length := by omega
      have hrow : heapRow h b l.length 2 = some (l.map encPr) := heapRow_eq he (by simp)
      have w5 : IntKind.i64.wrap ((m : Int) + 1) = (m : Int) + 1 := wrap64 (by omega) (by omega)
      rw [evL_rnd]
      by_cases c : Lib.compareBytes l[m].1 a < 0
      · have := ih (m + 1) j (by omega) (by omega) hj (fun p hp hpm => ?_) h2
        · simp [hlt, w1, w2, w3, w4, w5, aiaddr_hsl, hrow, hml, he, c]
          all_goals exact this
        · by_cases q2 : p = m
          · subst q2; exact c
          · exact cmpB_lin.trans _ _ _ (hs.get hp hml (by omega)) c
      · have := ih i m (by omega) (by omega) (by omega) h1 (fun p hp hpm => ?_)
        · simp [hlt, w1, w2, w3, w4, w5, aiaddr_hsl, hrow, hml, he, c]
          all_goals exact this
        · by_cases q2 : p = m
          · subst q2; exact c
          · intro hlt2
            exact c (cmpB_lin.trans _ _ _ (hs.get hml hp (by omega)) hlt2)

theorem insPos_le (l : List Pr) (a : List UInt8) : insPos l a ≤ l.length := (List.takeWhile_sublist _).length_le

def thereP (l : List Pr) (a : List UInt8) : Bool := match l[insPos l a]? with
  | some p => decide (p.1 = a)
  | none => false

theorem sp17 (bar : Nat) (h : AHeap) (b : Nat) (l : List Pr) (a v : List UInt8) (he : h[b]? = some (.row 2 (l.map encPr))) (hs : Srt l) (hl : l.length ≤ LIM) :
    run S0 bar 17 [.hsl b l.length 0 l.length 2 none, .agg [.str a, .str v], .fn 19 [] []] h = some (.tup [.int .i64 (insPos l a), .bool (thereP l a)], h) := by
  refine run_code (sf := F17) rfl ?_
  rw [evBody_eq _ _ _ _ _ rfl]
  have hloop := fun bar => loop17 bar h b l a v he hs hl l.length 0 l.length (by omega) (by omega) (by omega) (fun m hm hlt => by omega) (fun m hm hge => by omega)
  simp at hloop
  have hrow : heapRow h b l.length 2 = some (l.map encPr) := heapRow_eq he (by simp)
  have hle := insPos_le l a
  simp [hloop]
  by_cases q : insPos l a < l.length
  · have q2 : thereP l a = decide (Lib.compareBytes l[insPos l a].1 a = 0) := by
      simp [thereP, q, cmpB_lin.eq]
    simp [q, aiaddr_hsl, hrow, he, q2]
  · have q2 : thereP l a = false := by simp [thereP, q]
    simp [q, q2]

theorem sp17_nil (bar : Nat) (h : AHeap) (a v : List UInt8) :
    run S0 bar 17 [.nils, .agg [.str a, .str v], .fn 19 [] []] h = some (.tup [.int .i64 0, .bool false], h) := by
  refine run_code (sf := F17) rfl ?_
  rw [evBody_eq _ _ _ _ _ rfl]
  simp
  rw [evL_rnd]
  simp

/-! ### label.Of -/
def insP (out : List Pr) (p : Pr) : List Pr :=
  if thereP out p.1 then out.set (insPos out p.1) p else out.take (insPos out p.1) ++ p :: out.drop (insPos out p.1)

def ofStep (out : List Pr) (p : Pr) : List Pr := if nameB p.1 then insP out p else out
def labelOf (l : List Pr) : List Pr := l.foldl ofStep []

theorem cmpPos (l : List Pr) (a : List UInt8) (hs : Srt l) : (∀ (m : Nat) (hm : m < l.length), m < insPos l a → Lib.compareBytes l[m].1 a < 0) ∧ (∀ (m : Nat) (hm : m < l.length), insPos l a ≤ m → ¬ Lib.compareBytes l[m].1 a < 0) := by
  induction l with
  | nil => simp
  | cons p l ih =>
    have hs' : Srt l := (List.pairwise_cons.1 hs).2
    have ih := ih hs'
    by_cases c : Lib.compareBytes p.1 a < 0
    · have e : insPos (p :: l) a = insPos l a + 1 := by simp [insPos, List.takeWhile_cons, c]
      rw [e]
      refine ⟨fun m hm hlt => ?_, fun m hm hge => ?_⟩
      · cases m with
        | zero => exact c
        | succ m => exact ih.1 m (by simpa using hm) (by omega)
      · cases m with
        | zero => omega
        | succ m => exact ih.2 m (by simpa using hm) (by omega)
    · have e : insPos (p :: l) a = 0 := by simp [insPos, List.takeWhile_cons, c]
      rw [e]
      refine ⟨fun m hm hlt => by omega, fun m hm hge hlt => ?_⟩
      cases m with
      | zero => exact c hlt
      | succ m => exact c (cmpB_lin.trans _ _ _ (hs.get (i := 0) (by simp) hm (by omega)) hlt)

theorem srt_mid {A B : List Pr} {p : Pr} (h1 : Srt (A ++ B)) (hA : ∀ x ∈ A, Lib.compareBytes x.1 p.1 < 0) (hB : ∀ x ∈ B, Lib.compareBytes p.1 x.1 < 0) : Srt (A ++ p :: B) := by
  unfold Srt at *
  rw [List.pairwise_append] at h1 ⊢
  refine ⟨h1.1, List.pairwise_cons.2 ⟨hB, h1.2.1⟩, fun x hx y hy => ?_⟩
  rcases List.mem_cons.1 hy with rfl | hy
  · exact hA x hx
  · exact h1.2.2 x hx y hy

theorem insP_srt {out : List Pr} (hs : Srt out) (p : Pr) : Srt (insP out p) := by
  obtain ⟨c1, c2⟩ := cmpPos out p.1 hs
  have hsplit : out.take (insPos out p.1) ++ out.drop (insPos out p.1) = out := List.take_append_drop _ _
  unfold insP
  split
  · rename_i ht
    unfold thereP at ht
    have hlt : insPos out p.1 < out.length := by
      rcases Nat.lt_or_ge (insPos out p.1) out.length with q | q
      · exact q
      · rw [List.getElem?_eq_none q] at ht; cases ht
    rw [List.getElem?_eq_getElem hlt] at ht
    have ht : out[insPos out p.1].1 = p.1 := by simpa using ht
    unfold Srt
    rw [List.pairwise_iff_getElem]
    intro i j hi hj hij
    simp only [List.length_set] at hi hj
    rw [List.getElem_set, List.getElem_set]
    have := hs.get hi hj hij
    split
    · rename_i e
      subst e
      split
      · omega
      · have h9 : Lib.compareBytes (out[insPos out p.1]).1 out[j].1 < 0 := this
        rwa [ht] at h9
    · split
      · rename_i e
        subst e
        have h9 : Lib.compareBytes out[i].1 (out[insPos out p.1]).1 < 0 := this
        rwa [ht] at h9
      · exact this
  · rename_i ht
    refine srt_mid (by rw [hsplit]; exact hs) (fun x hx => ?_) (fun x hx => ?_)
    · obtain ⟨m, hm, rfl⟩ := List.mem_iff_getElem.1 hx
      simp only [List.length_take] at hm
      rw [List.getElem_take]
      exact c1 m (by omega) (by omega)
    · obtain ⟨m, hm, rfl⟩ := List.mem_iff_getElem.1 hx
      simp only [List.length_drop] at hm
      rw [List.getElem_drop]
      have h3 := c2 (insPos out p.1 + m) (by omega) (by omega)
      refine cmpB_lin.lt_of_le_of_ne h3 (fun e => ?_)
      cases m with
      | zero =>
        apply ht
        unfold thereP
        rw [List.getElem?_eq_getElem (by omega)]
        simpa using e.symm
      | succ m =>
        have h4 := hs.get (i := insPos out p.1) (j := insPos out p.1 + (m + 1)) (by omega) (by omega) (by omega)
        rw [← e] at h4
        exact c2 _ (by omega) (Nat.le_refl _) h4

theorem insP_len (out : List Pr) (p : Pr) : (insP out p).length ≤ out.length + 1 := by
  unfold insP
  split
  · simp
  · have := insPos_le out p.1
    simp; omega
end Go.Ai
/-
  What the functions come to: label.Of.
-/
namespace Go.Ai
set_option linter.unusedSimpArgs false
set_option linter.unusedVariables false

theorem set_last {α : Type} (h : List α) (x y : α) : (h ++ [x]).set h.length y = h ++ [y] := by
  rw [List.set_append_right _ _ (Nat.le_refl _)]
  simp
theorem get_last {α : Type} (h : List α) (x : α) : (h ++ [x])[h.length]? = some x := by simp

theorem sp34_nil (h : AHeap) (x : List AV) (c : Option Nat) (bar : Nat) (hb : bar ≤ h.length) : run S0 bar 34 [.nils, .int .i64 0, .isl [x] 2 c] h = some (.hsl h.length 1 0 1 2 none, h ++ [.row 2 [x]]) :=
  run_prim (p := prim34) rfl (by simp [prim34, hb])

theorem sp34 (bar : Nat) (h : AHeap) (b n i : Nat) (els : List (List AV)) (x : List AV) (c : Option Nat) (hb : bar ≤ b) (he : h[b]? = some (.row 2 els)) (hn : els.length = n) (hl : n + 1 ≤ LIM) (hi : i ≤ n) :
    run S0 bar 34 [.hsl b n 0 n 2 none, .int .i64 i, .isl [x] 2 c] h = some (.hsl b (n + 1) 0 (n + 1) 2 none, h.set b (.row 2 (els.take i ++ x :: els.drop i))) :=
  run_prim (p := prim34) rfl (by simp [prim34, hb, hl, hi, heapRow_eq he hn])

def ofAV (h : AHeap) (out : List Pr) : AV := if out = [] then .nils else .hsl h.length out.length 0 out.length 2 none
def ofH (h : AHeap) (out : List Pr) : AHeap := if out = [] then h else h ++ [.row 2 (out.map encPr)]

theorem insP_ne (out : List Pr) (p : Pr) : insP out p ≠ [] := by
  unfold insP
  split
  · rename_i h
    intro q
    have : out = [] := by
      have := congrArg List.length q
      simpa using this
    subst this
    simp [thereP, insPos] at h
  · simp

theorem loop13 (h : AHeap) (v0 : AV) (sl : List Pr) (H : RSl h 2 v0 (sl.map encPr)) (hle0 : sl.length ≤ LIM) : ∀ (l' : List Pr) (i : Nat) (out : List Pr), sl.drop i = l' → i ≤ sl.length → Srt out → out.length ≤ i →
    evL (run S0 h.length) h.length F13_l11 [3, 8, 9, 10] ⟨[(3, ofAV h out), (8, v0), (9, .int .i64 sl.length), (10, .int .i64 i)], [], ofH h out⟩ =
      some (.exit 0, ⟨[(3, ofAV h (l'.foldl ofStep out)), (8, v0), (9, .int .i64 sl.length), (10, .int .i64 sl.length), (11, .bool false)], [], ofH h (l'.foldl ofStep out)⟩) := by
  intro l'
  induction l' with
  | nil =>
    intro i out hd hi hs ho
    have e := dropn hd hi
    subst e
    rw [evL_rnd]
    by_cases q : out = []
    · simp [ofAV, ofH, q, H.plain, H.clean]
    · simp [ofAV, ofH, q, H.plain, H.clean]
  | cons p l' ih =>
    intro i out hd hi hs ho
    obtain ⟨h3, h1, h2⟩ := dropc hd
    rw [evL_rnd]
    have hw := wrap_succ h3 hle0
    have A0 := H.addr []
    have A1 := fun x => H.addr [x]
    have B0 := fun env vars n => H.load env vars [] n i (by simpa using h3)
    have B1 := fun x env vars n => H.load env vars [x] n i (by simpa using h3)
    have C0 := H.ok i (by simpa using h3)
    simp only [List.append_nil] at A0 B0
    have hLIM : out.length + 1 ≤ LIM := by have := hle0; omega
    obtain ⟨a, v⟩ := p
    cases hname : nameB a with
    | false =>
      have ih := ih (i + 1) out h2 h3 hs (by omega)
      have e : ofStep out (a, v) = out := by simp [ofStep, hname]
      rw [List.foldl_cons, e]
      by_cases q : out = []
      · simp [ofAV, ofH, q] at ih
        simp [ofAV, ofH, q, h3, h1, hw, hname, H.plain, H.clean, H.ap, H.ac, A0, A1, B0, B1, C0]
        exact ih
      · simp [ofAV, ofH, q] at ih
        simp [ofAV, ofH, q, h3, h1, hw, hname, H.plain, H.clean, H.ap, H.ac, A0, A1, B0, B1, C0]
        exact ih
    | true =>
      have e : ofStep out (a, v) = insP out (a, v) := by simp [ofStep, hname]
      have hlen := insP_len out (a, v)
      have ih := ih (i + 1) (insP out (a, v)) h2 h3 (insP_srt hs _) (by omega)
      rw [List.foldl_cons, e]
      have hne := insP_ne out (a, v)
      simp only [ofAV, ofH, hne, if_false] at ih
      by_cases q : out = []
      · subst q
        have e2 : insP [] (a, v) = [(a, v)] := by simp [insP, thereP, insPos]
        rw [e2] at ih ⊢
        simp [abslice] at ih
        simp [ofAV, ofH, h3, h1, hw, hname, H.plain, H.clean, H.ap, H.ac, A0, A1, B0, B1, C0, sp17_nil, abslice, sp34_nil]
        exact ih
      · have h17 := fun bar v => sp17 bar (h ++ [.row 2 (out.map encPr)]) h.length out a v (get_last _ _) hs (by omega)
        have hrow : heapRow (h ++ [.row 2 (out.map encPr)]) h.length out.length 2 = some (out.map encPr) := heapRow_eq (get_last _ _) (by simp)
        have hle := insPos_le out a
        cases ht : thereP out a with
        | true =>
          have hlt : insPos out a < out.length := by
            rcases Nat.lt_or_ge (insPos out a) out.length with q' | q'
            · exact q'
            · unfold thereP at ht
              rw [List.getElem?_eq_none q'] at ht; cases ht
          have e2 : insP out (a, v) = out.set (insPos out a) (a, v) := by simp [insP, ht]
          rw [e2] at ih ⊢
          simp [q] at ih
          simp [ofAV, ofH, q, h3, h1, hw, hname, H.plain, H.clean, H.ap, H.ac, A0, A1, B0, B1, C0, h17, ht, aiaddr_hsl, hrow, hlt, set_last]
          exact ih
        | false =>
          have e2 : insP out (a, v) = out.take (insPos out a) ++ (a, v) :: out.drop (insPos out a) := by simp [insP, ht]
          have h34 := sp34 h.length (h ++ [.row 2 (out.map encPr)]) h.length out.length (insPos out a) (out.map encPr) [.str a, .str v] (some 1) (Nat.le_refl _) (get_last _ _) (by simp) hLIM hle
          rw [e2] at ih ⊢
          have hL : (out.take (insPos out a) ++ (a, v) :: out.drop (insPos out a)).length = out.length + 1 := by simp; omega
          rw [hL] at ih
          simp at ih
          simp [ofAV, ofH, q, h3, h1, hw, hname, H.plain, H.clean, H.ap, H.ac, A0, A1, B0, B1, C0, h17, ht, abslice, h34, set_last]
          exact ih

theorem ofFold_len (l : List Pr) : ∀ out : List Pr, (l.foldl ofStep out).length ≤ out.length + l.length := by
  induction l with
  | nil => intro out; simp
  | cons p l ih =>
    intro out
    rw [List.foldl_cons]
    have h1 := ih (ofStep out p)
    have h2 : (ofStep out p).length ≤ out.length + 1 := by
      unfold ofStep
      split
      · exact insP_len out p
      · omega
    simp; omega

theorem ofFold_srt (l : List Pr) : ∀ out : List Pr, Srt out → Srt (l.foldl ofStep out) := by
  induction l with
  | nil => intro out h; exact h
  | cons p l ih =>
    intro out h
    rw [List.foldl_cons]
    refine ih _ ?_
    unfold ofStep
    split
    · exact insP_srt h p
    · exact h

theorem labelOf_len (l : List Pr) : (labelOf l).length ≤ l.length := by
  have := ofFold_len l []
  simpa [labelOf] using this

theorem labelOf_srt (l : List Pr) : Srt (labelOf l) := ofFold_srt l [] List.Pairwise.nil

def labelOfS (s : Slc Pr) : Slc Pr := Slc.ofN (labelOf s.l) (Nat.le_trans (labelOf_len _) s.le)
@[simp] theorem labelOfS_l (s : Slc Pr) : (labelOfS s).l = labelOf s.l := by simp [labelOfS]

theorem sp13g (bar : Nat) (h : AHeap) (v0 : AV) (sl : List Pr) (H : RSl h 2 v0 (sl.map encPr)) (hle : sl.length ≤ LIM) : run S0 bar 13 [v0] h = some ((Slc.ofN (labelOf sl) (Nat.le_trans (labelOf_len _) hle)).av encPr 2, h) := by
  refine run_code (sf := F13) rfl ?_
  rw [evBody_eq _ _ _ _ _ rfl]
  have hl := loop13 h v0 sl H hle sl 0 [] (by simp) (by simp) List.Pairwise.nil (by simp)
  have e : sl.foldl ofStep [] = labelOf sl := rfl
  have hlen := H.len h
  rw [e] at hl
  simp [ofAV, ofH] at hl
  simp [hl, H.plain, H.clean, hlen]
  unfold Slc.ofN
  by_cases q : labelOf sl = []
  · simp [q, Slc.av_nil]
  · simp [q, Slc.av_mk, frz_hsl, -List.map_map, frz_rowPr, List.take_of_length_le]

@[simp] theorem sp13 (bar : Nat) (s : Slc Pr) (h : AHeap) : run S0 bar 13 [s.av encPr 2] h = some ((labelOfS s).av encPr 2, h) :=
  sp13g bar h _ s.l (s.rsl encPr 2 h) s.le

theorem sp13c (bar : Nat) (h : AHeap) (l : List Pr) (hle : l.length ≤ LIM) : run S0 bar 13 [colAV h 2 (l.map encPr)] (colH h 2 (l.map encPr)) = some ((Slc.ofN (labelOf l) (Nat.le_trans (labelOf_len _) hle)).av encPr 2, colH h 2 (l.map encPr)) :=
  sp13g bar _ _ l (col_rsl h 2 _) hle
end Go.Ai
/-
  What the functions come to: the law's arguments, read.
-/
namespace Go.Ai
set_option linter.unusedSimpArgs false
set_option linter.unusedVariables false

theorem tmod_nat (a b : Nat) : ((a : Int).tmod (b : Int)) = ((a % b : Nat) : Int) := by
  rw [Int.tmod_eq_emod_of_nonneg (by omega)]
  omega
theorem tdiv_nat (a b : Nat) : ((a : Int).tdiv (b : Int)) = ((a / b : Nat) : Int) := by
  rw [Int.tdiv_eq_ediv_of_nonneg (by omega)]
  omega

structure Tag where
  p : Pr
  own : Bool
  k : UInt8
@[simp] def encTag (t : Tag) : List AV := [.str t.p.1, .str t.p.2, .bool t.own, .int .u8 (t.k.toNat : Int)]

theorem tag_ex (a b : List UInt8) (own : Bool) (k : UInt8) : ∃ p : Pr, ∀ bar h, run S0 bar 11 [.agg [.str a, .str b, .bool own, .int .u8 (k.toNat : Int)]] h = some (.agg [.str p.1, .str p.2], h) := by
  cases own with
  | false =>
    refine ⟨(a, b), fun bar h => ?_⟩
    refine run_code (sf := F11) rfl ?_
    rw [evBody_eq _ _ _ _ _ rfl]
    simp
  | true =>
    have e1 : ((k.toNat : Int).tmod 5) = ((k.toNat % 5 : Nat) : Int) := tmod_nat k.toNat 5
    have e2 : ((k.toNat : Int).tdiv 5) = ((k.toNat / 5 : Nat) : Int) := tdiv_nat k.toNat 5
    have hk := k.toNat_lt
    have e3 : IntKind.u8.wrap ((k.toNat / 5 : Nat) : Int) = ((k.toNat / 5 : Nat) : Int) := by
      rw [IntKind.wrap]
      simp [IntKind.bits, IntKind.signed]
      omega
    have e4 : (((k.toNat / 5 : Nat) : Int).tmod 8) = ((k.toNat / 5 % 8 : Nat) : Int) := tmod_nat (k.toNat / 5) 8
    have hi : k.toNat % 5 < 5 := Nat.mod_lt _ (by omega)
    have hj : k.toNat / 5 % 8 < 8 := Nat.mod_lt _ (by omega)
    generalize k.toNat % 5 = i at *
    generalize k.toNat / 5 % 8 = j at *
    generalize k.toNat / 5 = q at *
    obtain ⟨s1, h1⟩ : ∃ s : List UInt8, ([[.str [97, 112, 112]], [.str [101, 110, 118]], [.str [108, 118, 108]], [.str [100, 117, 114]], [.str [110]]] : List (List AV))[i]? = some [.str s] := by
      match i, hi with
      | 0, _ => exact ⟨_, rfl⟩
      | 1, _ => exact ⟨_, rfl⟩
      | 2, _ => exact ⟨_, rfl⟩
      | 3, _ => exact ⟨_, rfl⟩
      | 4, _ => exact ⟨_, rfl⟩
    obtain ⟨s2, h2⟩ : ∃ s : List UInt8, ([[.str [97]], [.str [98]], [.str [120, 49]], [.str [53, 109]], [.str [55]], [.str []], [.str [50, 75, 66]], [.str [97, 98]]] : List (List AV))[j]? = some [.str s] := by
      match j, hj with
      | 0, _ => exact ⟨_, rfl⟩
      | 1, _ => exact ⟨_, rfl⟩
      | 2, _ => exact ⟨_, rfl⟩
      | 3, _ => exact ⟨_, rfl⟩
      | 4, _ => exact ⟨_, rfl⟩
      | 5, _ => exact ⟨_, rfl⟩
      | 6, _ => exact ⟨_, rfl⟩
      | 7, _ => exact ⟨_, rfl⟩
    refine ⟨(s1, s2), fun bar h => ?_⟩
    refine run_code (sf := F11) rfl ?_
    rw [evBody_eq _ _ _ _ _ rfl]
    simp [abslice, abuild, e1, e2, e3, e4, h1, h2]

noncomputable def tagOf (t : Tag) : Pr := Classical.choose (tag_ex t.p.1 t.p.2 t.own t.k)
@[simp] theorem sp11 (bar : Nat) (a b : List UInt8) (own : Bool) (k : UInt8) (h : AHeap) : run S0 bar 11 [.agg [.str a, .str b, .bool own, .int .u8 (k.toNat : Int)]] h = some (.agg [.str (tagOf ⟨(a, b), own, k⟩).1, .str (tagOf ⟨(a, b), own, k⟩).2], h) :=
  Classical.choose_spec (tag_ex a b own k) bar h

/-- at most two of them, all of few -/
noncomputable def few2L (l : List Tag) : List Pr := (l.take 2).map fun t => tagOf { t with own := true }

theorem few2L_len (l : List Tag) : (few2L l).length ≤ 2 := by simp [few2L]; omega

theorem few2L_all (l : List Tag) (i : Nat) (hi : i = min l.length 2) : few2L (l.take i) = few2L l := by
  unfold few2L
  rw [List.take_take]
  have : min 2 i = i := by omega
  rw [this]
  congr 1
  by_cases q : l.length ≤ 2
  · rw [List.take_of_length_le (by omega), List.take_of_length_le (by omega)]
  · have : i = 2 := by omega
    rw [this]

theorem few2L_succ (l : List Tag) (i : Nat) (q1 : i < l.length) (q2 : i < 2) : few2L (l.take (i + 1)) = few2L (l.take i) ++ [tagOf { l[i] with own := true }] := by
  unfold few2L
  rw [List.take_take, List.take_take, show min 2 (i + 1) = i + 1 by omega, show min 2 i = i by omega, List.take_add_one, List.getElem?_eq_getElem q1, List.map_append]
  rfl

theorem loop9 (h : AHeap) (s : Slc Tag) : ∀ (k i : Nat), i + k = min s.l.length 2 →
    evL (run S0 h.length) h.length F9_l8 [0, 3, 4] ⟨[(0, s.av encTag 4), (3, colAV h 2 ((few2L (s.l.take i)).map encPr)), (4, .int .i64 i)], [], colH h 2 ((few2L (s.l.take i)).map encPr)⟩ =
      some (.exit 0, ⟨[(0, s.av encTag 4), (3, colAV h 2 ((few2L s.l).map encPr)), (4, .int .i64 (min s.l.length 2 : Nat)), (13, .bool false)], [], colH h 2 ((few2L s.l).map encPr)⟩) := by
  intro k
  induction k with
  | zero =>
    intro i hi
    have hi' : i = min s.l.length 2 := by omega
    rw [few2L_all _ _ hi', evL_rnd]
    rw [← hi']
    by_cases q : i < s.l.length
    · have q2 : ¬ (i < 2) := by omega
      have q3 : ¬ ((i : Int) < 2) := by omega
      simp [q, q2, q3]
    · simp [q]
  | succ k ih =>
    intro i hi
    have q1 : i < s.l.length := by omega
    have q2 : (i : Int) < 2 := by omega
    have ih := ih (i + 1) (by omega)
    rw [evL_rnd]
    have hw := wrap_succ q1 s.le
    rw [few2L_succ _ _ q1 (by omega)] at ih
    have hlen := few2L_len (s.l.take i)
    have hap := fun y => col_append h 2 ((few2L (s.l.take i)).map encPr) y (by simp [LIM]; omega)
    simp at ih
    simp [q1, q2, hw, abslice, hap]
    exact ih

noncomputable def few2S (s : Slc Tag) : Slc Pr := Slc.ofN (labelOf (few2L s.l)) (by have := labelOf_len (few2L s.l); have := few2L_len s.l; simp [LIM]; omega)

@[simp] theorem sp9 (bar : Nat) (s : Slc Tag) (h : AHeap) : run S0 bar 9 [s.av encTag 4] h = some ((few2S s).av encPr 2, h) := by
  refine run_code (sf := F9) rfl ?_
  rw [evBody_eq _ _ _ _ _ rfl]
  have hl := loop9 h s (min s.l.length 2) 0 (by omega)
  have e0 : few2L (s.l.take 0) = [] := rfl
  rw [e0] at hl
  have h13 := fun bar => sp13c bar h (few2L s.l) (by have := few2L_len s.l; simp [LIM]; omega)
  unfold few2S
  simp [colAV_nil, colH_nil] at hl
  simp [hl, h13]

structure Item where
  e : Ent
  own : Bool
  t : Int
  l : Slc Tag
  line : UInt8
@[simp] def encItem (x : Item) : List AV := [.int .i64 x.e.ts, x.e.lb.av encPr 2, .str x.e.line, .bool x.own, .int .i8 x.t, x.l.av encTag 4, .int .u8 (x.line.toNat : Int)]

theorem item_ex (t0 : Int) (lb : Slc Pr) (s0 : List UInt8) (own : Bool) (t : Int) (l : Slc Tag) (k : UInt8) : ∃ e : Ent, ∀ bar h, run S0 bar 7 [.agg [.int .i64 t0, lb.av encPr 2, .str s0, .bool own, .int .i8 t, l.av encTag 4, .int .u8 (k.toNat : Int)]] h = some (.agg [.int .i64 e.ts, e.lb.av encPr 2, .str e.line], h) := by
  cases own with
  | false =>
    refine ⟨⟨t0, lb, s0⟩, fun bar h => ?_⟩
    refine run_code (sf := F7) rfl ?_
    rw [evBody_eq _ _ _ _ _ rfl]
    simp
  | true =>
    have e1 : ((k.toNat : Int).tmod 8) = ((k.toNat % 8 : Nat) : Int) := tmod_nat k.toNat 8
    have hj : k.toNat % 8 < 8 := Nat.mod_lt _ (by omega)
    generalize k.toNat % 8 = j at *
    obtain ⟨s2, h2⟩ : ∃ s : List UInt8, ([[.str [97]], [.str [98]], [.str [110, 61, 55]], [.str [108, 118, 108, 61, 98, 32, 110, 61, 51]], [.str [120, 49]], [.str []], [.str [100, 117, 114, 61, 53, 109]], [.str [101, 114, 114, 111, 114, 58, 32, 97]]] : List (List AV))[j]? = some [.str s] := by
      match j, hj with
      | 0, _ => exact ⟨_, rfl⟩
      | 1, _ => exact ⟨_, rfl⟩
      | 2, _ => exact ⟨_, rfl⟩
      | 3, _ => exact ⟨_, rfl⟩
      | 4, _ => exact ⟨_, rfl⟩
      | 5, _ => exact ⟨_, rfl⟩
      | 6, _ => exact ⟨_, rfl⟩
      | 7, _ => exact ⟨_, rfl⟩
    refine ⟨⟨IntKind.i64.wrap (t.tmod 12), few2S l, s2⟩, fun bar h => ?_⟩
    refine run_code (sf := F7) rfl ?_
    rw [evBody_eq _ _ _ _ _ rfl]
    simp [abslice, abuild, e1, h2]

noncomputable def itemOf (x : Item) : Ent := Classical.choose (item_ex x.e.ts x.e.lb x.e.line x.own x.t x.l x.line)
@[simp] theorem sp7 (bar : Nat) (t0 : Int) (lb : Slc Pr) (s0 : List UInt8) (own : Bool) (t : Int) (l : Slc Tag) (k : UInt8) (h : AHeap) : run S0 bar 7 [.agg [.int .i64 t0, lb.av encPr 2, .str s0, .bool own, .int .i8 t, l.av encTag 4, .int .u8 (k.toNat : Int)]] h =
    some (.agg [.int .i64 (itemOf ⟨⟨t0, lb, s0⟩, own, t, l, k⟩).ts, (itemOf ⟨⟨t0, lb, s0⟩, own, t, l, k⟩).lb.av encPr 2, .str (itemOf ⟨⟨t0, lb, s0⟩, own, t, l, k⟩).line], h) :=
  Classical.choose_spec (item_ex t0 lb s0 own t l k) bar h

/-- entries, at most so many -/
noncomputable def itemsL (l : List Item) (n : Nat) : List Ent := (l.take n).map itemOf
theorem itemsL_len (l : List Item) (n : Nat) : (itemsL l n).length ≤ n := by simp [itemsL]; omega
theorem itemsL_all (l : List Item) (n i : Nat) (hi : i = min l.length n) : itemsL (l.take i) n = itemsL l n := by
  unfold itemsL
  rw [List.take_take]
  have : min n i = i := by omega
  rw [this]
  congr 1
  by_cases q : l.length ≤ n
  · rw [List.take_of_length_le (by omega), List.take_of_length_le (by omega)]
  · have : i = n := by omega
    rw [this]
theorem itemsL_succ (l : List Item) (n i : Nat) (q1 : i < l.length) (q2 : i < n) : itemsL (l.take (i + 1)) n = itemsL (l.take i) n ++ [itemOf l[i]] := by
  unfold itemsL
  rw [List.take_take, List.take_take, show min n (i + 1) = i + 1 by omega, show min n i = i by omega, List.take_add_one, List.getElem?_eq_getElem q1, List.map_append]
  rfl

theorem loop5 (h : AHeap) (s : Slc Item) (n : Nat) (hn : n ≤ 1000) : ∀ (k i : Nat), i + k = min s.l.length n →
    evL (run S0 h.length) h.length F5_l6 [0, 1, 5, 6] ⟨[(0, s.av encItem 7), (1, .int .i64 n), (5, colAV h 3 ((itemsL (s.l.take i) n).map encEnt)), (6, .int .i64 i)], [], colH h 3 ((itemsL (s.l.take i) n).map encEnt)⟩ =
      some (.exit 0, ⟨[(0, s.av encItem 7), (1, .int .i64 n), (5, colAV h 3 ((itemsL s.l n).map encEnt)), (6, .int .i64 (min s.l.length n : Nat)), (15, .bool false)], [], colH h 3 ((itemsL s.l n).map encEnt)⟩) := by
  intro k
  induction k with
  | zero =>
    intro i hi
    have hi' : i = min s.l.length n := by omega
    rw [itemsL_all _ _ _ hi', evL_rnd]
    rw [← hi']
    by_cases q : i < s.l.length
    · have q2 : ¬ (i < n) := by omega
      simp [q, q2]
    · simp [q]
  | succ k ih =>
    intro i hi
    have q1 : i < s.l.length := by omega
    have q2 : i < n := by omega
    have ih := ih (i + 1) (by omega)
    rw [evL_rnd]
    have hw := wrap_succ q1 s.le
    rw [itemsL_succ _ _ _ q1 q2] at ih
    have hlen := itemsL_len (s.l.take i) n
    have hap := fun y => col_append h 3 ((itemsL (s.l.take i) n).map encEnt) y (by simp [LIM]; omega)
    simp at ih
    simp [q1, q2, hw, abslice, hap]
    exact ih

noncomputable def itemsS (s : Slc Item) (n : Nat) (hn : n ≤ 1000) : Slc Ent := Slc.ofN (itemsL s.l n) (by have := itemsL_len s.l n; simp [LIM]; omega)

theorem sp5 (bar : Nat) (s : Slc Item) (n : Nat) (hn : n ≤ 1000) (h : AHeap) : run S0 bar 5 [s.av encItem 7, .int .i64 n] h = some ((itemsS s n hn).av encEnt 3, h) := by
  refine run_code (sf := F5) rfl ?_
  rw [evBody_eq _ _ _ _ _ rfl]
  have hl := loop5 h s n hn (min s.l.length n) 0 (by omega)
  have e0 : itemsL (s.l.take 0) n = [] := by simp [itemsL]
  rw [e0] at hl
  have hlen := itemsL_len s.l n
  have hf := fun k => col_frz h 3 (E := encEnt) (l := itemsL s.l n) (k + 1) (fun x => by simp) (by simp [LIM]; omega)
  unfold itemsS
  simp [colAV_nil, colH_nil] at hl
  simp [hl, hf]
end Go.Ai
/-
  What the functions come to: sorting entries.
-/
namespace Go.Ai
set_option linter.unusedSimpArgs false
set_option linter.unusedVariables false

/-- x goes left past those that it comes ahead of -/
def insGo : List Ent → Ent → List Ent → List Ent
  | [], x, B => x :: B
  | y :: A, x, B => if cmpEnt x y < 0 then insGo A x (y :: B) else (y :: A).reverse ++ x :: B

def isort (l : List Ent) : List Ent := l.foldl (fun acc x => insGo acc.reverse x []) []

theorem insGo_len : ∀ (A : List Ent) (x : Ent) (B : List Ent), (insGo A x B).length = A.length + 1 + B.length
  | [], x, B => by simp [insGo]; omega
  | y :: A, x, B => by
    unfold insGo
    split
    · rw [insGo_len A x (y :: B)]; simp; omega
    · simp; omega

theorem foldIns_len (l : List Ent) : ∀ acc : List Ent, (l.foldl (fun acc x => insGo acc.reverse x []) acc).length = acc.length + l.length := by
  induction l with
  | nil => intro acc; simp
  | cons x l ih => intro acc; rw [List.foldl_cons, ih, insGo_len]; simp; omega

theorem isort_len (l : List Ent) : (isort l).length = l.length := by simp [isort, foldIns_len]

theorem set_same {α : Type} {h : List α} {b : Nat} {y : α} (e : h[b]? = some y) : h.set b y = h := by
  apply List.ext_getElem?
  intro i
  by_cases q : b = i
  · subst q
    rw [e]
    simp [(List.getElem?_eq_some_iff.1 e).1]
  · rw [List.getElem?_set_ne q]

/-- the inner loop -/
theorem loop40i (bar : Nat) (h : AHeap) (b n m i : Nat) (T : List Ent) (hb : bar ≤ b) (hbl : b < h.length) (hn : n ≤ LIM) (hm : m ≤ n) : ∀ (A : List Ent) (x : Ent) (B : List Ent) (j : Nat), A.length = j → j + 1 + B.length ≤ m → j + 1 + B.length + T.length = n → ∃ j' : Nat,
    evL (run S0 bar) bar F40_l6 [0, 1, 2, 3, 8, 9] ⟨[(0, .hsl b n 0 m 3 none), (1, .int .i64 0), (2, .int .i64 m), (3, .fn 35 [] []), (8, .int .i64 i), (9, .int .i64 j)], [], h.set b (.row 3 ((A.reverse ++ x :: B ++ T).map encEnt))⟩ =
    some (.exit 2, ⟨[(0, .hsl b n 0 m 3 none), (1, .int .i64 0), (2, .int .i64 m), (3, .fn 35 [] []), (8, .int .i64 i), (9, .int .i64 j'), (34, .bool false)], [], h.set b (.row 3 ((insGo A x B ++ T).map encEnt))⟩) := by
  have hset : ∀ y : ABlk, (h.set b y)[b]? = some y := fun y => by simp [hbl]
  have hLIM : LIM = 4294967296 := rfl
  intro A
  induction A with
  | nil =>
    intro x B j hA hj hl
    simp at hA
    subst hA
    refine ⟨0, ?_⟩
    rw [evL_rnd]
    simp [insGo]
  | cons y A ih =>
    intro x B j hA hj hl
    simp only [List.length_cons] at hA
    have hj0 : (0 : Int) < (j : Int) := by omega
    have hj0' : 0 < j := by omega
    have hjm : j < m := by omega
    have hj1m : j - 1 < m := by omega
    have w1 : IntKind.i64.wrap ((j : Int) - 1) = ((j - 1 : Nat) : Int) := by rw [wrap64 (by omega) (by omega)]; omega
    have eR : ((y :: A).reverse ++ x :: B ++ T).map encEnt = A.reverse.map encEnt ++ encEnt y :: encEnt x :: (B ++ T).map encEnt := by simp
    have eR2 : (A.reverse ++ x :: (y :: B) ++ T).map encEnt = A.reverse.map encEnt ++ encEnt x :: encEnt y :: (B ++ T).map encEnt := by simp
    have hAl : (A.reverse.map encEnt).length = j - 1 := by simp; omega
    have hTl : ((B ++ T).map encEnt).length = B.length + T.length := by simp
    rw [eR]
    by_cases c : cmpEnt x y < 0
    · obtain ⟨j', ih⟩ := ih x (y :: B) (j - 1) (by omega) (by simp; omega) (by simp; omega)
      refine ⟨j', ?_⟩
      have e : insGo (y :: A) x B = insGo A x (y :: B) := by simp [insGo, c]
      rw [e, evL_rnd]
      rw [eR2] at ih
      generalize hRB : (B ++ T).map encEnt = C at *
      generalize hRA : A.reverse.map encEnt = D at *
      have g1 : (D ++ encEnt y :: encEnt x :: C)[j]? = some (encEnt x) := by rw [List.getElem?_append_right (by omega), show j - D.length = 1 by omega]; rfl
      have g2 : (D ++ encEnt y :: encEnt x :: C)[j - 1]? = some (encEnt y) := by rw [List.getElem?_append_right (by omega), show j - 1 - D.length = 0 by omega]; rfl
      have s1 : (D ++ encEnt y :: encEnt x :: C).set j (encEnt y) = D ++ encEnt y :: encEnt y :: C := by rw [List.set_append_right _ _ (by omega), show j - D.length = 1 by omega]; rfl
      have g3 : (D ++ encEnt y :: encEnt y :: C)[j - 1]? = some (encEnt y) := by rw [List.getElem?_append_right (by omega), show j - 1 - D.length = 0 by omega]; rfl
      have s2 : (D ++ encEnt y :: encEnt y :: C).set (j - 1) (encEnt x) = D ++ encEnt x :: encEnt y :: C := by rw [List.set_append_right _ _ (by omega), show j - 1 - D.length = 0 by omega]; rfl
      have l1 : (D ++ encEnt y :: encEnt x :: C).length = n := by simp; omega
      have l2 : (D ++ encEnt y :: encEnt y :: C).length = n := by simp; omega
      generalize D ++ encEnt y :: encEnt x :: C = R1 at *
      generalize D ++ encEnt y :: encEnt y :: C = R2 at *
      generalize D ++ encEnt x :: encEnt y :: C = R3 at *
      have r1 : heapRow (h.set b (.row 3 R1)) b n 3 = some R1 := heapRow_eq (hset _) l1
      have r2 : heapRow (h.set b (.row 3 R2)) b n 3 = some R2 := heapRow_eq (hset _) l2
      simp only [encEnt] at g1 g2 g3 s1 s2
      simp [hj0, hj0', aiaddr_hsl, r1, r2, hjm, hj1m, hm, l1, l2, hset, hbl, g1, g2, g3, s1, s2, w1, c, hb, -List.map_append]
      exact ih
    · refine ⟨j, ?_⟩
      have e : insGo (y :: A) x B = (y :: A).reverse ++ x :: B := by simp [insGo, c]
      rw [e, eR, evL_rnd]
      generalize hRB : (B ++ T).map encEnt = C at *
      generalize hRA : A.reverse.map encEnt = D at *
      have g1 : (D ++ encEnt y :: encEnt x :: C)[j]? = some (encEnt x) := by rw [List.getElem?_append_right (by omega), show j - D.length = 1 by omega]; rfl
      have g2 : (D ++ encEnt y :: encEnt x :: C)[j - 1]? = some (encEnt y) := by rw [List.getElem?_append_right (by omega), show j - 1 - D.length = 0 by omega]; rfl
      have l1 : (D ++ encEnt y :: encEnt x :: C).length = n := by simp; omega
      generalize D ++ encEnt y :: encEnt x :: C = R1 at *
      have r1 : heapRow (h.set b (.row 3 R1)) b n 3 = some R1 := heapRow_eq (hset _) l1
      simp only [encEnt] at g1 g2
      simp [hj0, hj0', aiaddr_hsl, r1, hjm, hj1m, hm, l1, hset, hbl, g1, g2, w1, c]

/-- the outer loop -/
theorem loop40o (bar : Nat) (h : AHeap) (b n m : Nat) (T : List Ent) (hb : bar ≤ b) (hbl : b < h.length) (hn : n ≤ LIM) (hm : m + T.length = n) : ∀ (L S : List Ent) (i : Nat), S.length = i → 0 < i → i + L.length = m → 
    evL (run S0 bar) bar F40_l8 [0, 1, 2, 3, 8] ⟨[(0, .hsl b n 0 m 3 none), (1, .int .i64 0), (2, .int .i64 m), (3, .fn 35 [] []), (8, .int .i64 i)], [], h.set b (.row 3 ((S ++ L ++ T).map encEnt))⟩ =
    some (.exit 0, ⟨[(0, .hsl b n 0 m 3 none), (1, .int .i64 0), (2, .int .i64 m), (3, .fn 35 [] []), (8, .int .i64 m), (14, .bool false)], [], h.set b (.row 3 ((L.foldl (fun acc x => insGo acc.reverse x []) S ++ T).map encEnt))⟩) := by
  have hLIM : LIM = 4294967296 := rfl
  intro L
  induction L with
  | nil =>
    intro S i hS hi hL
    have e : i = m := by simpa using hL
    subst e
    rw [evL_rnd]
    simp
  | cons x L ih =>
    intro S i hS hi hL
    simp only [List.length_cons] at hL
    have him : i < m := by omega
    have w : IntKind.i64.wrap ((i : Int) + 1) = (i : Int) + 1 := wrap64 (by omega) (by omega)
    obtain ⟨j', hin⟩ := loop40i bar h b n m i (L ++ T) hb hbl hn (by omega) S.reverse x [] i (by simpa using hS) (by simp; omega) (by simp; omega)
    have ih := ih (insGo S.reverse x []) (i + 1) (by rw [insGo_len]; simp; omega) (by omega) (by omega)
    rw [evL_rnd]
    have e1 : S.reverse.reverse ++ x :: [] ++ (L ++ T) = S ++ x :: L ++ T := by simp
    rw [e1] at hin
    have e2 : insGo S.reverse x [] ++ L ++ T = insGo S.reverse x [] ++ (L ++ T) := by simp
    rw [e2] at ih
    rw [List.foldl_cons]
    generalize (S ++ x :: L ++ T).map encEnt = R1 at *
    generalize (insGo S.reverse x [] ++ (L ++ T)).map encEnt = R2 at *
    simp [him, hin, w, -List.map_append]
    exact ih

theorem sp40 (bar : Nat) (h : AHeap) (b n m : Nat) (S T : List Ent) (hb : bar ≤ b) (he : h[b]? = some (.row 3 ((S ++ T).map encEnt))) (hS : S.length = m) (hm : m + T.length = n) (hn : n ≤ LIM) :
    run S0 bar 40 [.hsl b n 0 m 3 none, .int .i64 0, .int .i64 m, .fn 35 [] []] h = some (.tup [], h.set b (.row 3 ((isort S ++ T).map encEnt))) := by
  refine run_code (sf := F40) rfl ?_
  rw [evBody_eq _ _ _ _ _ rfl]
  have hbl : b < h.length := (List.getElem?_eq_some_iff.1 he).1
  have w : IntKind.i64.wrap (1 : Int) = 1 := rfl
  cases S with
  | nil =>
    simp at hS
    subst hS
    have e : h.set b (.row 3 ((isort [] ++ T).map encEnt)) = h := set_same he
    simp [w, -List.map_append]
    rw [e, evL_rnd]
    simp
  | cons x L =>
    have e : h = h.set b (.row 3 (([x] ++ L ++ T).map encEnt)) := (set_same he).symm
    have hl := loop40o bar h b n m T hb hbl hn hm L [x] 1 rfl (by omega) (by simp at hS; omega)
    rw [← e] at hl
    have e2 : isort (x :: L) = L.foldl (fun acc x => insGo acc.reverse x []) [x] := rfl
    rw [e2]
    simp [-List.map_append, -List.foldl_cons] at hl
    simp [hl, w, -List.map_append, -List.foldl_cons]

theorem sp42 (bar : Nat) (h : AHeap) (b n m : Nat) (S T : List Ent) (hb : bar ≤ b) (he : h[b]? = some (.row 3 ((S ++ T).map encEnt))) (hS : S.length = m) (hm : m + T.length = n) (hn : n ≤ LIM) (hm2 : m < 20) :
    run S0 bar 42 [.hsl b n 0 m 3 none, .int .i64 m, .fn 35 [] []] h = some (.tup [], h.set b (.row 3 ((isort S ++ T).map encEnt))) := by
  refine run_code (sf := F42) rfl ?_
  rw [evBody_eq _ _ _ _ _ rfl]
  have h40 := sp40 bar h b n m S T hb he hS hm hn
  have h1 : ¬ ((20 : Int) ≤ (m : Int)) := by omega
  have h2 : ¬ ((20 : Int) < (m : Int)) := by omega
  simp
  rw [evL_rnd]
  simp [h1, h40]
  rw [evL_rnd]
  simp [h2]

theorem sp38 (bar : Nat) (h : AHeap) (b n m : Nat) (S T : List Ent) (hb : bar ≤ b) (he : h[b]? = some (.row 3 ((S ++ T).map encEnt))) (hS : S.length = m) (hm : m + T.length = n) (hn : n ≤ LIM) (hm2 : m < 20) :
    run S0 bar 38 [.hsl b n 0 m 3 none, .fn 35 [] []] h = some (.tup [], h.set b (.row 3 ((isort S ++ T).map encEnt))) := by
  refine run_code (sf := F38) rfl ?_
  rw [evBody_eq _ _ _ _ _ rfl]
  have h42 := sp42 bar h b n m S T hb he hS hm hn hm2
  simp [h42]
end Go.Ai
/-
  What the functions come to: right entries; a slice's elements that are deleted.
-/
namespace Go.Ai
set_option linter.unusedSimpArgs false
set_option linter.unusedVariables false

/-- a label that may not stand there -/
def badP (prev : Option Pr) (p : Pr) : Bool :=
  !nameB p.1 || decide (256 < (p.2.length : Int)) || match prev with
    | some q => decide (0 ≤ Lib.compareBytes q.1 p.1)
    | none => false

def rightGo : Option Pr → List Pr → Bool
  | _, [] => true
  | prev, p :: l => !badP prev p && rightGo (some p) l

def rightL (l : List Pr) : Bool := rightGo none l && decide ((l.length : Int) ≤ 16)

theorem loop57 (c : Nat → Caller) (bar : Nat) (s : Slc Pr) (h : AHeap) : ∀ (l' : List Pr) (i : Nat), s.l.drop i = l' → i ≤ s.l.length →
    evL (run S0 bar) bar F57_l7 [0, 5, 6, 7] ⟨[(0, s.av encPr 2), (5, s.av encPr 2), (6, .int .i64 s.l.length), (7, .int .i64 i)], [], h⟩ =
      if rightGo (if i = 0 then none else s.l[i - 1]?) l' = true then some (.exit 0, ⟨[(0, s.av encPr 2), (5, s.av encPr 2), (6, .int .i64 s.l.length), (7, .int .i64 s.l.length), (8, .bool false)], [], h⟩)
      else some (.ret, ⟨[(2, .bool false)], [], h⟩) := by
  intro l'
  induction l' with
  | nil =>
    intro i hd hi
    have e := dropn hd hi
    subst e
    rw [evL_rnd]
    simp [rightGo]
  | cons p l' ih =>
    intro i hd hi
    obtain ⟨h3, h1, h2⟩ := dropc hd
    have ih := ih (i + 1) h2 h3
    have e0 : (if i + 1 = 0 then none else s.l[i + 1 - 1]?) = some p := by simp [h3, h1]
    rw [e0] at ih
    rw [evL_rnd, rightGo]
    have hw := wrap_succ h3 s.le
    obtain ⟨a, v⟩ := p
    cases hn : nameB a with
    | false => simp [h3, h1, hn, badP]
    | true =>
      by_cases q : (256 : Int) < (v.length : Int)
      · simp [h3, h1, hn, badP, q]
      · by_cases q2 : i = 0
        · subst q2
          have hb : badP none (a, v) = false := by simp [badP, hn, q]
          simp [h3, h1, hn, q, hb, hw]
          simp at ih
          simp at hw
          simp [hw]
          exact ih
        · have hi0 : (0 : Int) < (i : Int) := by omega
          have hi0' : 0 < i := by omega
          have w1 : IntKind.i64.wrap ((i : Int) - 1) = ((i - 1 : Nat) : Int) := by
            have := s.le
            have hL : LIM = 4294967296 := rfl
            rw [wrap64 (by omega) (by omega)]; omega
          have hlt : i - 1 < s.l.length := by omega
          cases hb : decide (0 ≤ Lib.compareBytes s.l[i - 1].1 a) with
          | true =>
            have hb' : 0 ≤ Lib.compareBytes s.l[i - 1].1 a := by simpa using hb
            have hbad : badP (some s.l[i - 1]) (a, v) = true := by simp [badP, hb']
            simp [h3, h1, hn, q, q2, hi0, hi0', w1, hlt, hb', hbad]
          | false =>
            have hb' : ¬ (0 ≤ Lib.compareBytes s.l[i - 1].1 a) := by simpa using hb
            have hbad : badP (some s.l[i - 1]) (a, v) = false := by simp only [badP, hn, q, hb]; simp
            simp [h3, h1, hn, q, q2, hi0, hi0', w1, hlt, hb', hbad, hw]
            exact ih

@[simp] theorem sp57 (bar : Nat) (s : Slc Pr) (h : AHeap) : run S0 bar 57 [s.av encPr 2] h = some (.bool (rightL s.l), h) := by
  refine run_code (sf := F57) rfl ?_
  rw [evBody_eq _ _ _ _ _ rfl]
  have hl := fun bar => loop57 (run S0) bar s h s.l 0 (by simp) (by simp)
  simp at hl
  simp [hl, rightL]
  cases rightGo none s.l <;> simp

def rightE (e : Ent) : Bool := rightL e.lb.l && decide ((e.line.length : Int) ≤ 256)

section
variable (bar : Nat) (h : AHeap) (t : Int) (s : Slc Pr) (x : List UInt8)
@[simp] theorem sp55 : run S0 bar 55 [.agg [.int .i64 t, s.av encPr 2, .str x]] h = some (.bool (rightE ⟨t, s, x⟩), h) := by
  refine run_code (sf := F55) rfl ?_
  rw [evBody_eq _ _ _ _ _ rfl]
  cases hr : rightL s.l <;> simp [rightE, hr]

@[simp] theorem sp53 : run S0 bar 53 [.agg [.int .i64 t, s.av encPr 2, .str x]] h = some (.bool (!rightE ⟨t, s, x⟩), h) := by
  refine run_code (sf := F53) rfl ?_
  rw [evBody_eq _ _ _ _ _ rfl]
  simp

theorem frz_compPr (h : AHeap) (n k : Nat) : (fun e => List.map (frz h n k) e) ∘ encPr = encPr := by funext p; simp
/-- a copy, of its own -/
def cloneS : Slc Pr → Slc Pr
  | .nil => .nil
  | .mk [] _ h => .mk [] (some 0) h
  | .mk l _ h => .mk l none h
@[simp] theorem cloneS_l (s : Slc Pr) : (cloneS s).l = s.l := by
  cases s with
  | nil => rfl
  | mk l c h => cases l <;> rfl

@[simp] theorem sp49 : run S0 bar 49 [s.av encPr 2] h = some ((cloneS s).av encPr 2, h) := by
  refine run_code (sf := F49) rfl ?_
  rw [evBody_eq _ _ _ _ _ rfl]
  cases s with
  | nil => simp [cloneS, Slc.av_nil, aeqK]
  | mk l c hl =>
    cases l with
    | nil => simp [cloneS, Slc.av_mk, aeqK, abslice, aappend]
    | cons p l =>
      have hl' : l.length + 1 ≤ LIM := by simpa using hl
      simp [cloneS, Slc.av_mk, aeqK, abslice, aappend, hl', frz_hsl, frz_compPr, List.take_of_length_le]
end

/-! ### Replies -/
structure Rep where
  fail : Bool
  most : Int
@[simp] def encRep (r : Rep) : List AV := [.bool r.fail, .int .i64 r.most]
@[simp high] theorem frz_avRep (s : Slc Rep) (h : AHeap) (n k : Nat) : frz h n (k + 1) (s.av encRep 2) = s.av encRep 2 := by cases s <;> simp [Slc.av_nil, Slc.av_mk]
@[simp high] theorem ren_avRep (s : Slc Rep) (σ : Nat → Option Nat) (h : AHeap) (k : Nat) : ren σ h (k + 1) (s.av encRep 2) = s.av encRep 2 := by cases s <;> simp [Slc.av_nil, Slc.av_mk]
@[simp high] theorem low_avRep (s : Slc Rep) (n k : Nat) : AV.low n (k + 2) (s.av encRep 2) = true := by cases s <;> simp [Slc.av_nil, Slc.av_mk]

theorem frz_compRep (h : AHeap) (n k : Nat) : (fun e => List.map (frz h n k) e) ∘ encRep = encRep := by funext p; simp
def cloneR : Slc Rep → Slc Rep
  | .nil => .nil
  | .mk [] _ h => .mk [] (some 0) h
  | .mk l _ h => .mk l none h
@[simp] theorem cloneR_l (s : Slc Rep) : (cloneR s).l = s.l := by
  cases s with
  | nil => rfl
  | mk l c h => cases l <;> rfl

@[simp] theorem sp47 (bar : Nat) (h : AHeap) (s : Slc Rep) : run S0 bar 47 [s.av encRep 2] h = some ((cloneR s).av encRep 2, h) := by
  refine run_code (sf := F47) rfl ?_
  rw [evBody_eq _ _ _ _ _ rfl]
  cases s with
  | nil => simp [cloneR, Slc.av_nil, aeqK]
  | mk l c hl =>
    cases l with
    | nil => simp [cloneR, Slc.av_mk, aeqK, abslice, aappend]
    | cons p l =>
      have hl' : l.length + 1 ≤ LIM := by simpa using hl
      simp [cloneR, Slc.av_mk, aeqK, abslice, aappend, hl', frz_hsl, frz_compRep, List.take_of_length_le]


/-! ### A slice's elements of which something is so -/
section
variable (bar : Nat) (f : Nat) (ca cc : List AV) (P : Ent → Bool) (hh : AHeap)

def idxP (P : Ent → Bool) : List Ent → Int
  | [] => -1
  | e :: l => if P e then 0 else if idxP P l = -1 then -1 else idxP P l + 1

theorem idxP_find (P : Ent → Bool) : ∀ (l : List Ent), idxP P l = match l.findIdx? P with
    | some i => (i : Int)
    | none => -1
  | [] => rfl
  | e :: l => by
    rw [idxP, idxP_find P l, List.findIdx?_cons]
    by_cases q : P e = true
    · simp [q]
    · simp only [q, Bool.false_eq_true, if_false]
      cases l.findIdx? P with
      | none => rfl
      | some i =>
        have : ¬ ((i : Int) = -1) := by omega
        simp [this]

theorem loop51 (hf : ∀ bar t s x, run S0 bar f (ca ++ [.agg [.int .i64 t, Slc.av encPr 2 s, .str x]] ++ cc) hh = some (.bool (P ⟨t, s, x⟩), hh)) (v : AV) (l : List Ent) (H : RSl hh 3 v (l.map encEnt)) (hle : l.length ≤ LIM) : ∀ (l' : List Ent) (i : Nat), l.drop i = l' → i ≤ l.length →
    evL (run S0 bar) bar F51_l7 [0, 1, 7, 8] ⟨[(0, v), (1, .fn f ca cc), (7, .int .i64 l.length), (8, .int .i64 i)], [], hh⟩ =
      match l'.findIdx? P with
      | some k => some (.ret, ⟨[(4, .int .i64 ((i + k : Nat) : Int))], [], hh⟩)
      | none => some (.exit 0, ⟨[(0, v), (1, .fn f ca cc), (7, .int .i64 l.length), (8, .int .i64 l.length), (9, .bool false)], [], hh⟩) := by
  intro l'
  induction l' with
  | nil =>
    intro i hd hi
    have e := dropn hd hi
    subst e
    rw [evL_rnd]
    simp [H.plain, H.clean]
  | cons e l' ih =>
    intro i hd hi
    obtain ⟨h3, h1, h2⟩ := dropc hd
    have ih := ih (i + 1) h2 h3
    rw [evL_rnd]
    have hw := wrap_succ h3 hle
    have A0 := H.addr []
    have B0 := fun env vars n => H.load env vars [] n i (by simpa using h3)
    have C0 := H.ok i (by simpa using h3)
    simp only [List.append_nil] at A0 B0
    have hf' := fun bar => hf bar e.ts e.lb e.line
    simp only [List.append_assoc, List.cons_append, List.nil_append] at hf'
    rw [List.findIdx?_cons]
    by_cases q : P e = true
    · simp [h3, h1, H.plain, H.clean, H.ap, H.ac, A0, B0, C0, hf', q]
    · have q' : P e = false := by simpa using q
      simp [h3, h1, H.plain, H.clean, H.ap, H.ac, A0, B0, C0, hf', q', hw]
      simp at ih
      rw [ih]
      cases l'.findIdx? P with
      | none => rfl
      | some k => simp; omega

theorem sp51 (hf : ∀ bar t s x, run S0 bar f (ca ++ [.agg [.int .i64 t, Slc.av encPr 2 s, .str x]] ++ cc) hh = some (.bool (P ⟨t, s, x⟩), hh)) (v : AV) (l : List Ent) (H : RSl hh 3 v (l.map encEnt)) (hle : l.length ≤ LIM) :
    run S0 bar 51 [v, .fn f ca cc] hh = some (.int .i64 (idxP P l), hh) := by
  refine run_code (sf := F51) rfl ?_
  rw [evBody_eq _ _ _ _ _ rfl]
  have hl := fun bar => loop51 bar f ca cc P hh hf v l H hle l 0 (by simp) (by simp)
  have hlen := H.len hh
  simp at hl
  simp [hl, H.plain, H.clean, hlen, idxP_find]
  cases l.findIdx? P <;> simp

/-! ### DeleteFunc -/
def zeroEnt : Ent := ⟨0, .nil, []⟩

/-- the loop: j elements are read, those that are left stand ahead -/
theorem loop32 (h : AHeap) (b n : Nat) (l : List Ent) (hb : bar ≤ b) (hbl : b < h.length) (hn : l.length = n) (hle : n ≤ LIM) (hf : ∀ bar t s x hh, run S0 bar f (ca ++ [.agg [.int .i64 t, Slc.av encPr 2 s, .str x]] ++ cc) hh = some (.bool (P ⟨t, s, x⟩), hh)) :
    ∀ (l' : List Ent) (i j : Nat) (R : List Ent), l.drop j = l' → j ≤ n → i < j → R.length = n → R.drop j = l' → R.take i = (l.take j).filter (fun e => !P e) → ∃ R' : List Ent, R'.length = n ∧ R'.take (l.filter (fun e => !P e)).length = l.filter (fun e => !P e) ∧ 
    evL (run S0 bar) bar F32_l11 [0, 1, 5, 6] ⟨[(0, .hsl b n 0 n 3 none), (1, .fn f ca cc), (5, .int .i64 i), (6, .int .i64 j)], [], h.set b (.row 3 (R.map encEnt))⟩ =
      some (.exit 0, ⟨[(0, .hsl b n 0 n 3 none), (1, .fn f ca cc), (5, .int .i64 (l.filter (fun e => !P e)).length), (6, .int .i64 n), (19, .bool false)], [], h.set b (.row 3 (R'.map encEnt))⟩) := by
  have hset : ∀ y : ABlk, (h.set b y)[b]? = some y := fun y => by simp [hbl]
  intro l'
  induction l' with
  | nil =>
    intro i j R hd hj hij hR hRd hRt
    have e : j = n := by rw [← hn]; exact dropn hd (by omega)
    subst e
    rw [← hn, List.take_length] at hRt
    have hil : i = (l.filter (fun e => !P e)).length := by rw [← hRt]; simp; omega
    refine ⟨R, hR, by rw [← hil]; exact hRt, ?_⟩
    rw [evL_rnd, hil]
    simp
  | cons e l' ih =>
    intro i j R hd hj hij hR hRd hRt
    obtain ⟨h3, h1, h2⟩ := dropc hd
    obtain ⟨h3', h1', h2'⟩ := dropc hRd
    have hjn : j < n := by omega
    have hw := wrap_succ hjn hle
    have hw2 := wrap_succ (show i < n by omega) hle
    have r1 : heapRow (h.set b (.row 3 (R.map encEnt))) b n 3 = some (R.map encEnt) := heapRow_eq (hset _) (by simpa using hR)
    have htake : (l.take (j + 1)).filter (fun e => !P e) = (l.take j).filter (fun e => !P e) ++ if P e then [] else [e] := by
      rw [List.take_add_one, List.getElem?_eq_getElem h3, h1, List.filter_append]
      cases hp : P e <;> simp [hp]
    have hf' := fun bar hh => hf bar e.ts e.lb e.line hh
    simp only [List.append_assoc, List.cons_append, List.nil_append] at hf'
    by_cases q : P e = true
    · obtain ⟨R', k1, k2, ih⟩ := ih i (j + 1) R h2 (by omega) (by omega) hR h2' (by rw [htake]; simp [q, hRt])
      refine ⟨R', k1, k2, ?_⟩
      rw [evL_rnd]
      simp [hjn, aiaddr_hsl, r1, hR, hset, h3', h1', hf', q, hw]
      exact ih
    · have q' : P e = false := by simpa using q
      have hin : i < n := by omega
      obtain ⟨R', k1, k2, ih⟩ := ih (i + 1) (j + 1) (R.set i e) h2 (by omega) (by omega) (by simpa using hR) (by rw [List.drop_set]; simp [show i < j + 1 by omega, h2']) (by
        rw [htake, ← hRt, List.take_add_one, List.take_set]
        simp [q', hR, hin]
        rw [List.set_eq_of_length_le (by simp; omega)])
      refine ⟨R', k1, k2, ?_⟩
      rw [evL_rnd]
      have hRi : i < R.length := by omega
      simp [hjn, hin, aiaddr_hsl, r1, hR, hset, h3', h1', hf', q', hw, hw2, hRi, hb]
      have e2 : (R.map encEnt).set i [.int .i64 e.ts, e.lb.av encPr 2, .str e.line] = (R.set i e).map encEnt := by simp
      rw [e2]
      exact ih
end
end Go.Ai
/-
  What the functions come to: store.New.
-/
namespace Go.Ai
set_option linter.unusedSimpArgs false
set_option linter.unusedVariables false

section
variable (bar : Nat) (f : Nat) (ca cc : List AV) (P : Ent → Bool)

theorem sp32 (h : AHeap) (b n : Nat) (l : List Ent) (hb : bar ≤ b) (he : h[b]? = some (.row 3 (l.map encEnt))) (hn : l.length = n) (hle : n ≤ LIM) (hf : ∀ bar t s x hh, run S0 bar f (ca ++ [.agg [.int .i64 t, Slc.av encPr 2 s, .str x]] ++ cc) hh = some (.bool (P ⟨t, s, x⟩), hh)) :
    ∃ T : List Ent, (l.filter (fun e => !P e)).length + T.length = n ∧ run S0 bar 32 [.hsl b n 0 n 3 none, .fn f ca cc] h = some (.hsl b n 0 (l.filter (fun e => !P e)).length 3 none, h.set b (.row 3 ((l.filter (fun e => !P e) ++ T).map encEnt))) := by
  have hbl : b < h.length := (List.getElem?_eq_some_iff.1 he).1
  have hset : ∀ y : ABlk, (h.set b y)[b]? = some y := fun y => by simp [hbl]
  have hrow : heapRow h b n 3 = some (l.map encEnt) := heapRow_eq he (by simpa using hn)
  have H : RSl h 3 (.hsl b n 0 n 3 none) (l.map encEnt) := by
    have hg : ∀ G : AHeap, (h ++ G)[b]? = some (.row 3 (l.map encEnt)) := fun G => by rw [List.getElem?_append_left hbl]; exact he
    have hr : ∀ G : AHeap, heapRow (h ++ G) b n 3 = some (l.map encEnt) := fun G => heapRow_eq (hg G) (by simpa using hn)
    refine ⟨rfl, rfl, rfl, fun _ _ _ => rfl, by simp, fun h' => by simp [hn], fun G => ?_, fun G i => ?_, fun env vars G k i hi => ?_, fun i => rfl, fun i vs t r => rfl, fun i hi => rfl⟩
    · simp [sliceEls, hr, hn, List.take_of_length_le]
    · rw [aiaddr_hsl, hr]
      simp only [addrOf, Option.bind_some, List.length_map, hn, Nat.zero_add, Nat.le_refl, if_true, List.getElem?_map, Option.map_map]
      by_cases hi : i < n
      · rw [if_pos hi, List.getElem?_eq_getElem (by omega)]; rfl
      · rw [if_neg hi, List.getElem?_eq_none (by omega)]; rfl
    · simp only [addrOf, aload_hptr, hg, List.length_map, hn, if_true, Nat.zero_add, List.getElem?_eq_getElem hi, Option.bind_some]
  have h51 := fun bar => sp51 bar f ca cc P h (fun bar t s x => hf bar t s x h) _ l H (by omega)
  rw [idxP_find] at h51
  cases hfi : l.findIdx? P with
  | none =>
    rw [hfi] at h51
    have hfil : l.filter (fun e => !P e) = l := by
      rw [List.filter_eq_self]
      intro e hemem
      have := List.findIdx?_eq_none_iff.1 hfi e hemem
      simp [this]
    refine ⟨[], by simp [hfil, hn], ?_⟩
    rw [hfil, List.append_nil, set_same he, hn]
    refine run_code (sf := F32) rfl ?_
    rw [evBody_eq _ _ _ _ _ rfl]
    simp [h51]
  | some i0 =>
    rw [hfi] at h51
    obtain ⟨hlt, hp, hmin⟩ := List.findIdx?_eq_some_iff_getElem.1 hfi
    have htk : (l.take (i0 + 1)).filter (fun e => !P e) = l.take i0 := by
      rw [List.take_add_one, List.getElem?_eq_getElem hlt, List.filter_append]
      have : (l.take i0).filter (fun e => !P e) = l.take i0 := by
        rw [List.filter_eq_self]
        intro e hemem
        obtain ⟨k, hk, rfl⟩ := List.mem_iff_getElem.1 hemem
        simp only [List.length_take] at hk
        rw [List.getElem_take]
        have := hmin k (by omega)
        simpa using this
      rw [this]
      simp [hp]
    obtain ⟨R', k1, k2, hl⟩ := loop32 bar f ca cc P h b n l hb hbl hn hle hf (l.drop (i0 + 1)) i0 (i0 + 1) l rfl (by omega) (by omega) hn rfl htk.symm
    have hmn : (l.filter (fun e => !P e)).length < n := by
      have h1 : (l.filter (fun e => !P e)).length ≤ l.length := List.length_filter_le _ _
      rcases Nat.lt_or_eq_of_le h1 with q | q
      · omega
      · exfalso
        have := List.length_filter_eq_length_iff.1 q l[i0] (List.getElem_mem hlt)
        simp [hp] at this
    rw [set_same he] at hl
    generalize hK : l.filter (fun e => !P e) = K at *
    refine ⟨List.replicate (n - K.length) zeroEnt, by simp; omega, ?_⟩
    refine run_code (sf := F32) rfl ?_
    rw [evBody_eq _ _ _ _ _ rfl]
    have hw := wrap_succ (show i0 < n by omega) hle
    have r1 : heapRow (h.set b (.row 3 (R'.map encEnt))) b n 3 = some (R'.map encEnt) := heapRow_eq (hset _) (by simpa using k1)
    have hz : [AV.int IntKind.i64 0, AV.nils, AV.str []] = encEnt zeroEnt := rfl
    have hput : putEls (R'.map encEnt) K.length (List.replicate (n - K.length) (encEnt zeroEnt)) = (K ++ List.replicate (n - K.length) zeroEnt).map encEnt := by
      simp only [putEls, List.length_replicate, ← List.map_take, k2, List.map_append, List.map_replicate]
      rw [show K.length + (n - K.length) = n by omega, List.drop_eq_nil_of_le (by simp [k1])]
      simp
    have hne : ¬ ((i0 : Int) = -1) := by omega
    have g1 : K.length ≤ n := by omega
    have g2 : ¬ (n - K.length = 0) := by omega
    have g3 : K.length + (n - K.length) = n := by omega
    have g4 : ((n : Int) - (K.length : Int)).toNat = n - K.length := by omega
    have r2 : heapRow (h.set b (.row 3 ((K ++ List.replicate (n - K.length) zeroEnt).map encEnt))) b n 3 = some ((K ++ List.replicate (n - K.length) zeroEnt).map encEnt) := heapRow_eq (hset _) (by simp; omega)
    have l2 : ((K ++ List.replicate (n - K.length) zeroEnt).map encEnt).length = n := by simp; omega
    generalize (K ++ List.replicate (n - K.length) zeroEnt).map encEnt = R2 at *
    rw [← hz] at hput
    clear hz
    have e0 : ((i0 + 1 : Nat) : Int) = (i0 : Int) + 1 := rfl
    rw [e0] at hl
    simp [h51, hne, hw, hl, aslice, r1, k1, atop, aclear, g1, g2, g3, g4, hb, hput, r2, l2, -encEnt]
end

theorem sp30_nil (bar : Nat) (h : AHeap) : run S0 bar 30 [.nils] h = some (.nils, h) := by
  refine run_code (sf := F30) rfl ?_
  rw [evBody_eq _ _ _ _ _ rfl]
  simp [aeqK]

theorem sp30_mt (bar : Nat) (h : AHeap) (c : Option Nat) : run S0 bar 30 [.isl [] 3 c] h = some (.isl [] 3 (some 0), h) := by
  refine run_code (sf := F30) rfl ?_
  rw [evBody_eq _ _ _ _ _ rfl]
  simp [aeqK, abslice, aappend]

theorem sp30 (bar : Nat) (h : AHeap) (l : List Ent) (c : Option Nat) (hne : l ≠ []) (hl : l.length ≤ LIM) : run S0 bar 30 [.isl (l.map encEnt) 3 c] h = some (.hsl h.length l.length 0 l.length 3 none, h ++ [.row 3 (l.map encEnt)]) := by
  refine run_code (sf := F30) rfl ?_
  rw [evBody_eq _ _ _ _ _ rfl]
  have h1 : 0 < l.length := List.length_pos_iff.2 hne
  simp [aeqK, abslice, aappend, hne, hl, h1, -encEnt]

/-! ### What is left of the heap -/
section
variable (h : AHeap) (n k : Nat) (acc : List Nat)
@[simp] theorem gcF_bool (b : Bool) : gcFind h n k acc (.bool b) = acc := by cases k <;> exact (rfl)
@[simp] theorem gcF_int (i : IntKind) (x : Int) : gcFind h n k acc (.int i x) = acc := by cases k <;> exact (rfl)
@[simp] theorem gcF_str (s : List UInt8) : gcFind h n k acc (.str s) = acc := by cases k <;> exact (rfl)
@[simp] theorem gcF_nils : gcFind h n k acc .nils = acc := by cases k <;> exact (rfl)
@[simp] theorem gcF_nilp : gcFind h n k acc .nilp = acc := by cases k <;> exact (rfl)
theorem gcF_isl (e : List (List AV)) (sz : Nat) (c : Option Nat) (hs : sz ≠ 1) : gcFind h n k acc (.isl e sz c) = acc := by cases k <;> simp [gcFind, hs]
theorem gcF_hsl (b bl i l sz : Nat) (c : Option Nat) (hs : sz ≠ 1) : gcFind h n k acc (.hsl b bl i l sz c) = acc := by cases k <;> simp [gcFind, hs]
theorem gcF_av {α : Type} (E : α → List AV) (sz : Nat) (s : Slc α) (hs : sz ≠ 1) : gcFind h n k acc (s.av E sz) = acc := by
  cases s with
  | nil => simp [Slc.av_nil]
  | mk l c hl => rw [Slc.av_mk, gcF_isl _ _ _ _ _ _ _ hs]
@[simp] theorem gcF_iptr (cs : List AV) (o : Nat) : gcFind h n k acc (.iptr cs o) = acc := by cases k <;> exact (rfl)
@[simp] theorem gcF_hptr (b bl i o : Nat) : gcFind h n (k + 1) acc (.hptr b bl i o) = if b < n ∨ acc.contains b = true then acc else match h[b]? with
      | some (.row _ [cs]) => cs.foldl (gcFind h n k) (acc ++ [b])
      | _ => acc := (rfl)
@[simp] theorem gcF_tup (cs : List AV) : gcFind h n (k + 1) acc (.tup cs) = cs.foldl (gcFind h n k) acc := (rfl)
end

/-- nothing new is left -/
theorem gcOut_none (h' h : AHeap) (v : AV) (hc : calm h.length FZ h h' = true) (hf : gcFind h' h.length FZ [] v = []) : gcOut h' h v = (ren (gcAt [] h.length) h' FZ v, h'.take h.length) := by
  simp only [gcOut, hf, getBlks, hc, noDup, List.all_nil, Bool.and_self, if_true, List.map_nil, List.append_nil]

/-- one new block is left -/
theorem gcOut_one (h' h : AHeap) (v : AV) (b : Nat) (x : ABlk) (hc : calm h.length FZ h h' = true) (hf : gcFind h' h.length FZ [] v = [b]) (hx : h'[b]? = some x) (hb : h.length ≤ b) :
    gcOut h' h v = (ren (gcAt [b] h.length) h' FZ v, h'.take h.length ++ [renBlk (gcAt [b] h.length) h' FZ x]) := by
  simp only [gcOut, hf, getBlks, hx, Option.map_some, hc, noDup, List.contains_nil, Bool.not_false, List.all_cons, hb, decide_true, List.all_nil, Bool.and_self, if_true, List.map_cons, List.map_nil]

theorem gcAt_same (b n : Nat) (hb : n ≤ b) : gcAt [b] n b = some n := by
  have : ¬ b < n := by omega
  simp [gcAt, this]
theorem gcAt_other (b c n : Nat) (hc : n ≤ c) (hne : c ≠ b) : gcAt [b] n c = none := by
  have : ¬ c < n := by omega
  have h2 : ¬ b = c := fun q => hne q.symm
  simp [gcAt, this, h2]
theorem gcAt_low (R : List Nat) (b n : Nat) (hb : b < n) : gcAt R n b = some b := by simp [gcAt, hb]
theorem gcAt_none (b n : Nat) (hb : n ≤ b) : gcAt [] n b = none := by
  have : ¬ b < n := by omega
  simp [gcAt, this]

/-! ### store.New -/
def cloneE (e : Ent) : Ent := { e with lb := cloneS e.lb }

theorem loop28 (bar : Nat) (h : AHeap) (b n m : Nat) (r : Slc Rep) (T : List Ent) (hb : bar ≤ b) (hbl : b < h.length) (hm : m + T.length = n) (hle : n ≤ LIM) : ∀ (L D : List Ent) (i : Nat), D.length = i → i + L.length = m →
    evL (run S0 bar) bar F28_l8 [1, 5, 16, 17] ⟨[(1, r.av encRep 2), (5, .hsl b n 0 m 3 none), (16, .int .i64 m), (17, .int .i64 i)], [], h.set b (.row 3 ((D ++ L ++ T).map encEnt))⟩ =
      some (.exit 0, ⟨[(1, r.av encRep 2), (5, .hsl b n 0 m 3 none), (16, .int .i64 m), (17, .int .i64 m), (18, .bool false)], [], h.set b (.row 3 ((D ++ L.map cloneE ++ T).map encEnt))⟩) := by
  have hset : ∀ y : ABlk, (h.set b y)[b]? = some y := fun y => by simp [hbl]
  intro L
  induction L with
  | nil =>
    intro D i hD hL
    have e : i = m := by simpa using hL
    subst e
    rw [evL_rnd]
    simp
  | cons e L ih =>
    intro D i hD hL
    simp only [List.length_cons] at hL
    have him : i < m := by omega
    have hw := wrap_succ (show i < n by omega) hle
    have ih := ih (D ++ [cloneE e]) (i + 1) (by simp [hD]) (by omega)
    have hl1 : ((D ++ e :: L ++ T).map encEnt).length = n := by simp; omega
    have g1 : ((D ++ e :: L ++ T).map encEnt)[i]? = some (encEnt e) := by simp [← hD]
    have s1 : ((D ++ e :: L ++ T).map encEnt).set i (encEnt (cloneE e)) = (D ++ [cloneE e] ++ L ++ T).map encEnt := by simp [← hD]
    have e3 : (D ++ [cloneE e] ++ L.map cloneE ++ T).map encEnt = (D ++ (e :: L).map cloneE ++ T).map encEnt := by simp
    rw [e3] at ih
    generalize (D ++ e :: L ++ T).map encEnt = R1 at *
    generalize (D ++ [cloneE e] ++ L ++ T).map encEnt = R2 at *
    generalize (D ++ (e :: L).map cloneE ++ T).map encEnt = R3 at *
    have r1 : heapRow (h.set b (.row 3 R1)) b n 3 = some R1 := heapRow_eq (hset _) hl1
    have hmn : m ≤ n := by omega
    simp only [encEnt, cloneE] at g1 s1
    rw [evL_rnd]
    simp [him, aiaddr_hsl, r1, hl1, hmn, hset, hbl, hb, g1, s1, hw]
    exact ih

/-- what a replica has of some entries -/
def storeL (l : List Ent) : List Ent := isort ((l.filter rightE).map cloneE)

theorem storeL_len (l : List Ent) : (storeL l).length ≤ l.length := by
  unfold storeL
  rw [isort_len, List.length_map]
  exact List.length_filter_le _ _

/-- a replica, as it lies in the heap -/
def repBlk (r : Slc Rep) (n : Int) (s : Slc Ent) : ABlk := .row 3 [[r.av encRep 2, .int .i64 n, s.av encEnt 3]]

theorem sp51_nil (bar : Nat) (h : AHeap) (g : AV) (hg : g.plain = g) (hc : ∀ vs t r, envClean vs ((t, g) :: r) = (t, g) :: envClean vs r) : run S0 bar 51 [.nils, g] h = some (.int .i64 (-1), h) := by
  refine run_code (sf := F51) rfl ?_
  rw [evBody_eq _ _ _ _ _ rfl]
  simp [hg, hc]
  rw [evL_rnd]
  simp [hg, hc]
theorem sp32_nil (bar : Nat) (h : AHeap) : run S0 bar 32 [.nils, .fn 53 [] []] h = some (.nils, h) := by
  refine run_code (sf := F32) rfl ?_
  rw [evBody_eq _ _ _ _ _ rfl]
  have h51 := fun bar => sp51_nil bar h (.fn 53 [] []) rfl (fun _ _ _ => rfl)
  simp [h51]
theorem sp40_nil (bar : Nat) (h : AHeap) : run S0 bar 40 [.nils, .int .i64 0, .int .i64 0, .fn 35 [] []] h = some (.tup [], h) := by
  refine run_code (sf := F40) rfl ?_
  rw [evBody_eq _ _ _ _ _ rfl]
  have w : IntKind.i64.wrap (1 : Int) = 1 := rfl
  simp [w]
  rw [evL_rnd]
  simp
theorem sp42_nil (bar : Nat) (h : AHeap) : run S0 bar 42 [.nils, .int .i64 0, .fn 35 [] []] h = some (.tup [], h) := by
  refine run_code (sf := F42) rfl ?_
  rw [evBody_eq _ _ _ _ _ rfl]
  simp
  rw [evL_rnd]
  simp [sp40_nil]
  rw [evL_rnd]
  simp
theorem sp38_nil (bar : Nat) (h : AHeap) : run S0 bar 38 [.nils, .fn 35 [] []] h = some (.tup [], h) := by
  refine run_code (sf := F38) rfl ?_
  rw [evBody_eq _ _ _ _ _ rfl]
  simp [sp42_nil]

theorem amin_nat (a b : Nat) : aminmax false [.int .i64 (a : Int), .int .i64 (b : Int)] = some (.int .i64 ((min a b : Nat) : Int)) := by
  simp only [aminmax, List.foldl]
  by_cases q : b < a
  · have : ((b : Int) < (a : Int)) := by omega
    rw [show min a b = b by omega]
    simp [q]
  · rw [show min a b = a by omega]
    simp [q]

theorem sp28_nil (bar : Nat) (h : AHeap) (r : Slc Rep) : run S0 bar 28 [.nils, r.av encRep 2] h = some (.hptr h.length 1 0 0, h ++ [repBlk (cloneR r) 0 .nil]) := by
  refine run_code (sf := F28) rfl ?_
  rw [evBody_eq _ _ _ _ _ rfl]
  have h0 := amin_nat 0 512
  simp at h0
  simp [sp30_nil, sp32_nil, h0, aslice]
  rw [evL_rnd]
  simp [sp38_nil, abuild]
  rw [gcOut_one (b := h.length) (x := repBlk (cloneR r) 0 .nil)]
  · simp [gcAt_same, ren_hptr, renBlk, repBlk, Slc.av_nil]
  · exact calm_refl _ _ _ _
  · simp [gcF_av]
  · simp [repBlk, Slc.av_nil]
  · omega

theorem sp28 (bar : Nat) (h : AHeap) (l : List Ent) (c : Option Nat) (r : Slc Rep) (hb : bar ≤ h.length) (hne : l ≠ []) (hl : l.length < 20) : ∃ u : Slc Ent, u.l = storeL l ∧
    run S0 bar 28 [.isl (l.map encEnt) 3 c, r.av encRep 2] h = some (.hptr h.length 1 0 0, h ++ [repBlk (cloneR r) 0 u]) := by
  have hLIM : LIM = 4294967296 := rfl
  have h30 := fun bar => sp30 bar h l c hne (by omega)
  obtain ⟨T, hT, h32⟩ := sp32 bar 53 [] [] (fun e => !rightE e) (h ++ [.row 3 (l.map encEnt)]) h.length l.length l hb (get_last _ _) rfl (by omega) (fun bar t s x hh => by simp)
  simp only [Bool.not_not] at hT h32
  rw [set_last] at h32
  generalize hK : l.filter rightE = K at *
  have hKl : K.length ≤ l.length := by omega
  have hmin : aminmax false [.int .i64 (K.length : Int), .int .i64 512] = some (.int .i64 (K.length : Int)) := by
    have := amin_nat K.length 512
    rw [show min K.length 512 = K.length by omega] at this
    exact this
  have hloop := loop28 bar (h ++ [.row 3 ((K ++ T).map encEnt)]) h.length l.length K.length r T hb (by simp) (by omega) (by omega) K [] 0 rfl (by simp)
  simp only [List.nil_append, set_last, Int.natCast_zero] at hloop
  have h38 := sp38 bar (h ++ [.row 3 ((K.map cloneE ++ T).map encEnt)]) h.length l.length K.length (K.map cloneE) T hb (get_last _ _) (by simp) (by omega) (by omega) (by omega)
  rw [set_last] at h38
  have hst : storeL l = isort (K.map cloneE) := by rw [storeL, hK]
  have hsl : (isort (K.map cloneE)).length = K.length := by rw [isort_len]; simp
  rw [hst]
  refine ⟨.mk (isort (K.map cloneE)) none (by omega), rfl, ?_⟩
  have hr0 : heapRow (h ++ [.row 3 ((K ++ T).map encEnt)]) h.length l.length 3 = some ((K ++ T).map encEnt) := heapRow_eq (get_last _ _) (by simp; omega)
  have hl0 : ((K ++ T).map encEnt).length = l.length := by simp; omega
  have hl3 : ((isort (K.map cloneE) ++ T).map encEnt).length = l.length := by simp; omega
  have htk : ((isort (K.map cloneE) ++ T).map encEnt).take K.length = (isort (K.map cloneE)).map encEnt := by
    rw [List.map_append, List.take_append_of_le_length (by simp; omega), List.take_of_length_le (by simp; omega)]
  refine run_code (sf := F28) rfl ?_
  rw [evBody_eq _ _ _ _ _ rfl]
  generalize (K ++ T).map encEnt = R0 at *
  generalize (K.map cloneE ++ T).map encEnt = R1 at *
  generalize hR2 : (isort (K.map cloneE) ++ T).map encEnt = R2 at *
  simp [h30, h32, hmin, aslice, hr0, hl0, hKl, atop, hloop, h38, abuild]
  have hg : ∀ x : ABlk, (h ++ [.row 3 R2, x])[h.length]? = some (.row 3 R2) := fun x => by simp
  rw [gcOut_one (b := h.length + 1) (x := .row 3 [[(cloneR r).av encRep 2, .int .i64 0, .hsl h.length l.length 0 K.length 3 none]])]
  · simp [gcAt_same, gcAt_other, ren_hptr, ren_hsl, renBlk, repBlk, hg, hl3, hKl, Slc.av_mk, htk, -encEnt]
    intro a _
    simp
  · exact calm_refl _ _ _ _
  · simp [gcF_av, gcF_hsl]
  · simp
  · omega
end Go.Ai
/-
  A heap as a list: what goes up or down comes to its place, and the first is the least. No program in sight.
-/
namespace Go.Ai
set_option linter.unusedVariables false

section
variable {α : Type} (ah : α → α → Bool)

def ahAt (l : List α) (a b : Nat) : Bool := match l[a]?, l[b]? with
  | some x, some y => ah x y
  | _, _ => false

def swp (l : List α) (a b : Nat) : List α := match l[a]?, l[b]? with
  | some x, some y => (l.set a y).set b x
  | _, _ => l

theorem swp_len (l : List α) (a b : Nat) : (swp l a b).length = l.length := by
  unfold swp
  split <;> simp

theorem swp_eq {l : List α} {a b : Nat} (ha : a < l.length) (hb : b < l.length) : swp l a b = (l.set a l[b]).set b l[a] := by
  unfold swp
  rw [List.getElem?_eq_getElem ha, List.getElem?_eq_getElem hb]

theorem swp_perm (l : List α) (a b : Nat) : (swp l a b).Perm l := by
  by_cases ha : a < l.length
  · by_cases hb : b < l.length
    · rw [swp_eq ha hb]
      exact List.set_set_perm ha hb
    · unfold swp
      rw [List.getElem?_eq_none (l := l) (i := b) (by omega)]
      cases l[a]? <;> exact List.Perm.refl _
  · unfold swp
    rw [List.getElem?_eq_none (l := l) (i := a) (by omega)]

theorem swp_get {l : List α} {a b : Nat} (ha : a < l.length) (hb : b < l.length) (i : Nat) : (swp l a b)[i]? = if i = b then l[a]? else if i = a then l[b]? else l[i]? := by
  rw [swp_eq ha hb, List.getElem?_set, List.getElem?_set]
  by_cases q1 : b = i
  · subst q1
    simp [hb]
  · have q1' : ¬ i = b := fun e => q1 e.symm
    by_cases q2 : a = i
    · subst q2
      simp [q1, q1', ha, hb]
    · have q2' : ¬ i = a := fun e => q2 e.symm
      simp [q1, q1', q2, q2']

def upF : Nat → List α → Nat → List α
  | 0, l, _ => l
  | n + 1, l, k => if 0 < k ∧ ahAt ah l k ((k - 1) / 2) = true then upF n (swp l k ((k - 1) / 2)) ((k - 1) / 2) else l

def least (l : List α) (k : Nat) : Nat :=
  let a := if 2 * k + 1 < l.length ∧ ahAt ah l (2 * k + 1) k = true then 2 * k + 1 else k
  if 2 * k + 2 < l.length ∧ ahAt ah l (2 * k + 2) a = true then 2 * k + 2 else a

def downF : Nat → List α → Nat → List α
  | 0, l, _ => l
  | n + 1, l, k => if least ah l k = k then l else downF n (swp l k (least ah l k)) (least ah l k)

theorem upF_perm : ∀ (n : Nat) (l : List α) (k : Nat), (upF ah n l k).Perm l
  | 0, l, k => List.Perm.refl _
  | n + 1, l, k => by
    unfold upF
    split
    · exact (upF_perm n _ _).trans (swp_perm l _ _)
    · exact List.Perm.refl _

theorem downF_perm : ∀ (n : Nat) (l : List α) (k : Nat), (downF ah n l k).Perm l
  | 0, l, k => List.Perm.refl _
  | n + 1, l, k => by
    unfold downF
    split
    · exact List.Perm.refl _
    · exact (downF_perm n _ _).trans (swp_perm l _ _)

/-- none stands ahead of its parent -/
def IsHeap (l : List α) : Prop := ∀ (i : Nat), 0 < i → i < l.length → ahAt ah l i ((i - 1) / 2) = false

structure Pre (ah : α → α → Bool) : Prop where
  tr : ∀ x y z, ah y x = false → ah z y = false → ah z x = false
  as : ∀ x y, ah x y = true → ah y x = false

variable {ah} (W : Pre ah)
include W

theorem ahAt_tr {l : List α} {i j k : Nat} (hi : i < l.length) (hj : j < l.length) (hk : k < l.length) (h1 : ahAt ah l j i = false) (h2 : ahAt ah l k j = false) : ahAt ah l k i = false := by
  unfold ahAt at *
  rw [List.getElem?_eq_getElem hi, List.getElem?_eq_getElem hj] at h1
  rw [List.getElem?_eq_getElem hk, List.getElem?_eq_getElem hj] at h2
  rw [List.getElem?_eq_getElem hi, List.getElem?_eq_getElem hk]
  exact W.tr _ _ _ h1 h2

theorem ahAt_as {l : List α} {i j : Nat} (h : ahAt ah l i j = true) : ahAt ah l j i = false := by
  unfold ahAt at *
  cases hi : l[i]? with
  | none => rw [hi] at h; cases h
  | some x =>
    cases hj : l[j]? with
    | none => simp [hi, hj] at h
    | some y =>
      rw [hi, hj] at h
      exact W.as _ _ h

theorem heap_root {l : List α} (H : IsHeap ah l) : ∀ (i : Nat), i < l.length → ahAt ah l i 0 = false := by
  intro i
  induction i using Nat.strongRecOn with
  | _ i ih =>
    intro hi
    by_cases q : i = 0
    · subst q
      have h0 := H
      cases hx : ahAt ah l 0 0 with
      | false => rfl
      | true => have := ahAt_as W hx; rw [hx] at this; cases this
    · have h1 := H i (by omega) hi
      have h2 := ih ((i - 1) / 2) (by omega) (by omega)
      exact ahAt_tr W (by omega) (by omega) hi h2 h1

theorem upF_heap : ∀ (n : Nat) (l : List α) (k : Nat), k ≤ n → k < l.length →
    (∀ (i : Nat), 0 < i → i < l.length → i ≠ k → ahAt ah l i ((i - 1) / 2) = false) →
    (∀ (i : Nat), 0 < i → i < l.length → (i - 1) / 2 = k → 0 < k → ahAt ah l i ((k - 1) / 2) = false) → IsHeap ah (upF ah n l k)
  | 0, l, k, hk, hkl, h1, h2 => fun i hi hil => h1 i hi hil (by omega)
  | n + 1, l, k, hk, hkl, h1, h2 => by
    unfold upF
    by_cases q : 0 < k ∧ ahAt ah l k ((k - 1) / 2) = true
    · rw [if_pos q]
      obtain ⟨hk0, ha⟩ := q
      generalize hp : (k - 1) / 2 = p at *
      have hpl : p < l.length := by omega
      have hpk : p ≠ k := by omega
      have hg := swp_get (l := l) hkl hpl
      have hat : ∀ i j, ahAt ah (swp l k p) i j = ahAt ah l (if i = p then k else if i = k then p else i) (if j = p then k else if j = k then p else j) := by
        intro i j
        have he : ∀ i, (swp l k p)[i]? = l[if i = p then k else if i = k then p else i]? := fun i => by
          rw [hg i]
          split
          · rfl
          · split <;> rfl
        unfold ahAt
        rw [he i, he j]
      refine upF_heap n _ _ (by omega) (by rw [swp_len]; exact hpl) (fun i hi hil hne => ?_) (fun i hi hil hpar hp0 => ?_)
      · rw [swp_len] at hil
        rw [hat]
        by_cases qi : i = k
        · subst qi
          rw [if_neg (fun e => hpk e.symm), if_pos rfl, hp, if_pos rfl]
          exact ahAt_as W ha
        · rw [if_neg hne, if_neg qi]
          by_cases qp : (i - 1) / 2 = p
          · rw [if_pos qp]
            have h3 := h1 i hi hil qi
            rw [qp] at h3
            exact ahAt_tr W hkl hpl hil (ahAt_as W ha) h3
          · rw [if_neg qp]
            by_cases qk : (i - 1) / 2 = k
            · rw [if_pos qk]
              exact h2 i hi hil qk hk0
            · rw [if_neg qk]
              exact h1 i hi hil qi
      · rw [swp_len] at hil
        rw [hat]
        have hpp : ¬ ((p - 1) / 2 = p) := by omega
        have hppk : ¬ ((p - 1) / 2 = k) := by omega
        rw [if_neg hpp, if_neg hppk]
        have h4 := h1 p hp0 hpl hpk
        by_cases qi : i = k
        · subst qi
          have e1 : ¬ i = p := fun e => hpk e.symm
          rw [if_neg e1, if_pos rfl]
          exact h4
        · have qip : ¬ i = p := by omega
          rw [if_neg qip, if_neg qi]
          have h3 := h1 i hi hil qi
          rw [hpar] at h3
          exact ahAt_tr W (by omega) hpl hil h4 h3
    · rw [if_neg q]
      intro i hi hil
      by_cases qi : i = k
      · subst qi
        cases hx : ahAt ah l i ((i - 1) / 2) with
        | false => rfl
        | true => exact absurd ⟨hi, hx⟩ q
      · exact h1 i hi hil qi

theorem least_cases (l : List α) (k : Nat) (hk : k < l.length) : (least ah l k = k ∨ (k < least ah l k ∧ least ah l k < l.length ∧ (least ah l k - 1) / 2 = k ∧ ahAt ah l (least ah l k) k = true)) ∧
    (∀ (i : Nat), 0 < i → i < l.length → (i - 1) / 2 = k → ahAt ah l i (least ah l k) = false) := by
  have irr : ∀ i, ahAt ah l i i = false := fun i => by
    cases hx : ahAt ah l i i with
    | false => rfl
    | true => have := ahAt_as W hx; rw [hx] at this; cases this
  unfold least
  dsimp only
  by_cases q1 : 2 * k + 1 < l.length ∧ ahAt ah l (2 * k + 1) k = true
  · rw [if_pos q1]
    by_cases q2 : 2 * k + 2 < l.length ∧ ahAt ah l (2 * k + 2) (2 * k + 1) = true
    · rw [if_pos q2]
      refine ⟨.inr ⟨by omega, q2.1, by omega, ?_⟩, fun i hi hil hpar => ?_⟩
      · cases hx : ahAt ah l (2 * k + 2) k with
        | true => rfl
        | false =>
          have h3 := ahAt_as W q1.2
          have := ahAt_tr W q1.1 hk q2.1 h3 hx
          rw [q2.2] at this
          cases this
      · have : i = 2 * k + 1 ∨ i = 2 * k + 2 := by omega
        rcases this with rfl | rfl
        · exact ahAt_as W q2.2
        · exact irr _
    · rw [if_neg q2]
      refine ⟨.inr ⟨by omega, q1.1, by omega, q1.2⟩, fun i hi hil hpar => ?_⟩
      have : i = 2 * k + 1 ∨ i = 2 * k + 2 := by omega
      rcases this with rfl | rfl
      · exact irr _
      · cases hx : ahAt ah l (2 * k + 2) (2 * k + 1) with
        | false => rfl
        | true => exact absurd ⟨hil, hx⟩ q2
  · rw [if_neg q1]
    by_cases q2 : 2 * k + 2 < l.length ∧ ahAt ah l (2 * k + 2) k = true
    · rw [if_pos q2]
      refine ⟨.inr ⟨by omega, q2.1, by omega, q2.2⟩, fun i hi hil hpar => ?_⟩
      have : i = 2 * k + 1 ∨ i = 2 * k + 2 := by omega
      rcases this with rfl | rfl
      · have h1 : ahAt ah l (2 * k + 1) k = false := by
          cases hx : ahAt ah l (2 * k + 1) k with
          | false => rfl
          | true => exact absurd ⟨hil, hx⟩ q1
        exact ahAt_tr W q2.1 hk hil (ahAt_as W q2.2) h1
      · exact irr _
    · rw [if_neg q2]
      refine ⟨.inl rfl, fun i hi hil hpar => ?_⟩
      have : i = 2 * k + 1 ∨ i = 2 * k + 2 := by omega
      rcases this with rfl | rfl
      · cases hx : ahAt ah l (2 * k + 1) k with
        | false => rfl
        | true => exact absurd ⟨hil, hx⟩ q1
      · cases hx : ahAt ah l (2 * k + 2) k with
        | false => rfl
        | true => exact absurd ⟨hil, hx⟩ q2

theorem downF_heap : ∀ (n : Nat) (l : List α) (k : Nat), l.length ≤ n + k → k < l.length →
    (∀ (i : Nat), 0 < i → i < l.length → (i - 1) / 2 ≠ k → ahAt ah l i ((i - 1) / 2) = false) →
    (∀ (i : Nat), 0 < i → i < l.length → (i - 1) / 2 = k → 0 < k → ahAt ah l i ((k - 1) / 2) = false) → IsHeap ah (downF ah n l k)
  | 0, l, k, hn, hkl, h1, h2 => by omega
  | n + 1, l, k, hn, hkl, h1, h2 => by
    obtain ⟨c1, c2⟩ := least_cases W l k hkl
    unfold downF
    by_cases q : least ah l k = k
    · rw [if_pos q]
      intro i hi hil
      by_cases qp : (i - 1) / 2 = k
      · have := c2 i hi hil qp
        rw [q] at this
        rw [qp]
        exact this
      · exact h1 i hi hil qp
    · rw [if_neg q]
      rcases c1 with c1 | ⟨c1, c3, c4, c5⟩
      · exact absurd c1 q
      generalize least ah l k = m at *
      have hg := swp_get (l := l) hkl c3
      have hat : ∀ i j, ahAt ah (swp l k m) i j = ahAt ah l (if i = m then k else if i = k then m else i) (if j = m then k else if j = k then m else j) := by
        intro i j
        have he : ∀ i, (swp l k m)[i]? = l[if i = m then k else if i = k then m else i]? := fun i => by
          rw [hg i]
          split
          · rfl
          · split <;> rfl
        unfold ahAt
        rw [he i, he j]
      refine downF_heap n _ _ (by rw [swp_len]; omega) (by rw [swp_len]; exact c3) (fun i hi hil hne => ?_) (fun i hi hil hpar hm0 => ?_)
      · rw [swp_len] at hil
        rw [hat, if_neg hne]
        by_cases qi : i = m
        · subst qi
          rw [if_pos rfl, if_pos c4]
          exact ahAt_as W c5
        · rw [if_neg qi]
          by_cases qk : i = k
          · subst qk
            rw [if_pos rfl]
            by_cases qq : (i - 1) / 2 = i
            · omega
            · rw [if_neg qq]
              exact h2 m (by omega) c3 c4 hi
          · rw [if_neg qk]
            by_cases qp : (i - 1) / 2 = k
            · rw [if_pos qp]
              exact c2 i hi hil qp
            · rw [if_neg qp]
              exact h1 i hi hil qp
      · rw [swp_len] at hil
        rw [hat, c4, if_neg (show ¬ k = m by omega), if_pos rfl]
        have qi : ¬ i = m := by omega
        have qk : ¬ i = k := by omega
        rw [if_neg qi, if_neg qk]
        have := h1 i hi hil (by omega)
        rw [hpar] at this
        exact this

/-- one more -/
theorem push_heap {l : List α} (H : IsHeap ah l) (x : α) : IsHeap ah (upF ah l.length (l ++ [x]) l.length) := by
  have hat : ∀ i j, i < l.length → j < l.length → ahAt ah (l ++ [x]) i j = ahAt ah l i j := fun i j hi hj => by
    unfold ahAt
    rw [List.getElem?_append_left hi, List.getElem?_append_left hj]
  refine upF_heap W _ _ _ (Nat.le_refl _) (by simp) (fun i hi hil hne => ?_) (fun i hi hil hpar h0 => ?_)
  · simp at hil
    rw [hat i _ (by omega) (by omega)]
    exact H i hi (by omega)
  · simp at hil
    omega

/-- the first gone, the last in its place -/
theorem pop_heap {l : List α} (H : IsHeap ah l) {y : α} (hne : l.dropLast ≠ []) : IsHeap ah (downF ah l.length (l.dropLast.set 0 y) 0) := by
  have hl : l.dropLast.length = l.length - 1 := by simp
  have hpos : 0 < l.dropLast.length := List.length_pos_iff.2 hne
  refine downF_heap W _ _ _ (by simp) (by simpa using hpos) (fun i hi hil hpar => ?_) (fun i hi hil hpar h0 => by omega)
  simp at hil
  have e : ∀ j, 0 < j → j < l.length - 1 → (l.dropLast.set 0 y)[j]? = l[j]? := fun j hj hj2 => by
    rw [List.getElem?_set_ne (by omega), List.getElem?_dropLast, if_pos hj2]
  have := H i hi (by omega)
  unfold ahAt at *
  rw [e i hi hil, e _ (by omega) (by omega)]
  exact this

end
end Go.Ai
