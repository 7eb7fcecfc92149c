/-
  Parts of a proof: an abstract interpreter of the model's code, and what the functions come to.
-/
import Derived.Test.YtmamikjllokmiaaGreatDoorAi03
set_option linter.unusedVariables false
set_option linter.unusedSimpArgs false
set_option linter.unnecessarySimpa false
/-
  The abstract interpreter: of what is new those blocks are left that the answer reaches; the rest is frozen. No program in sight.
-/
namespace Go.Ai
open Go.RowKit
set_option linter.unusedVariables false
set_option linter.unusedSimpArgs false

/-! ### The same -/
mutual
theorem AV.same_eq : ∀ (a b : AV), AV.same a b = true → a = b
  | .bool a, b, h => by cases b <;> simp_all [AV.same]
  | .int k a, b, h => by cases b <;> simp_all [AV.same]
  | .str a, b, h => by cases b <;> simp_all [AV.same]
  | .nilp, b, h => by cases b <;> simp_all [AV.same]
  | .hptr .., b, h => by cases b <;> simp_all [AV.same]
  | .iptr cs o, b, h => by
    cases b <;> simp [AV.same] at h ⊢
    exact ⟨sameL_eq _ _ h.1, h.2⟩
  | .lptr .., b, h => by cases b <;> simp_all [AV.same]
  | .nils, b, h => by cases b <;> simp_all [AV.same]
  | .hsl .., b, h => by cases b <;> simp_all [AV.same]
  | .isl e z c, b, h => by
    cases b <;> simp [AV.same] at h ⊢
    exact ⟨sameLL_eq _ _ h.1.1, h.1.2, h.2⟩
  | .nilm, b, h => by cases b <;> simp_all [AV.same]
  | .hmap _, b, h => by cases b <;> simp_all [AV.same]
  | .fn f a c, b, h => by
    cases b <;> simp [AV.same] at h ⊢
    exact ⟨h.1.1, sameL_eq _ _ h.1.2, sameL_eq _ _ h.2⟩
  | .nilf, b, h => by cases b <;> simp_all [AV.same]
  | .ifc t v, b, h => by
    cases b <;> simp [AV.same] at h ⊢
    exact ⟨h.1, AV.same_eq _ _ h.2⟩
  | .nili, b, h => by cases b <;> simp_all [AV.same]
  | .agg cs, b, h => by
    cases b <;> simp [AV.same] at h ⊢
    exact sameL_eq _ _ h
  | .tup cs, b, h => by
    cases b <;> simp [AV.same] at h ⊢
    exact sameL_eq _ _ h
  | .junk, b, h => by cases b <;> simp_all [AV.same]
theorem sameL_eq : ∀ (a b : List AV), sameL a b = true → a = b
  | [], b, h => by cases b <;> simp_all [sameL]
  | x :: l, b, h => by
    cases b with
    | nil => simp [sameL] at h
    | cons y m =>
      simp only [sameL, Bool.and_eq_true] at h
      rw [AV.same_eq _ _ h.1, sameL_eq _ _ h.2]
theorem sameLL_eq : ∀ (a b : List (List AV)), sameLL a b = true → a = b
  | [], b, h => by cases b <;> simp_all [sameLL]
  | x :: l, b, h => by
    cases b with
    | nil => simp [sameLL] at h
    | cons y m =>
      simp only [sameLL, Bool.and_eq_true] at h
      rw [sameL_eq _ _ h.1, sameLL_eq _ _ h.2]
end

mutual
theorem AV.same_refl : ∀ (a : AV), AV.same a a = true
  | .bool a => by simp [AV.same]
  | .int k a => by simp [AV.same]
  | .str a => by simp [AV.same]
  | .nilp => rfl
  | .hptr .. => by simp [AV.same]
  | .iptr cs o => by simp [AV.same, sameL_refl cs]
  | .lptr .. => by simp [AV.same]
  | .nils => rfl
  | .hsl .. => by simp [AV.same]
  | .isl e z c => by simp [AV.same, sameLL_refl e]
  | .nilm => rfl
  | .hmap _ => by simp [AV.same]
  | .fn f a c => by simp [AV.same, sameL_refl a, sameL_refl c]
  | .nilf => rfl
  | .ifc t v => by simp [AV.same, AV.same_refl v]
  | .nili => rfl
  | .agg cs => by simp [AV.same, sameL_refl cs]
  | .tup cs => by simp [AV.same, sameL_refl cs]
  | .junk => rfl
theorem sameL_refl : ∀ (a : List AV), sameL a a = true
  | [] => rfl
  | x :: l => by simp [sameL, AV.same_refl x, sameL_refl l]
theorem sameLL_refl : ∀ (a : List (List AV)), sameLL a a = true
  | [] => rfl
  | x :: l => by simp [sameLL, sameL_refl x, sameLL_refl l]
end

theorem sameM_eq : ∀ (a b : List (List UInt8 × AV)), sameM a b = true → a = b
  | [], b, h => by cases b <;> simp_all [sameM]
  | (k, x) :: l, b, h => by
    cases b with
    | nil => simp [sameM] at h
    | cons y m =>
      obtain ⟨k', y⟩ := y
      simp only [sameM, Bool.and_eq_true, decide_eq_true_eq] at h
      rw [h.1.1, AV.same_eq _ _ h.1.2, sameM_eq _ _ h.2]

theorem sameM_refl : ∀ (a : List (List UInt8 × AV)), sameM a a = true
  | [] => rfl
  | (k, x) :: l => by simp [sameM, AV.same_refl x, sameM_refl l]

theorem ABlk.same_eq {a b : ABlk} (h : a.same b = true) : a = b := by
  cases a <;> cases b <;> simp [ABlk.same] at h ⊢
  · exact ⟨h.1, sameLL_eq _ _ h.2⟩
  · exact sameM_eq _ _ h

theorem ABlk.same_refl (a : ABlk) : a.same a = true := by
  cases a <;> simp [ABlk.same, sameLL_refl, sameM_refl]

/-! ### Calm -/
theorem calm_get {n k : Nat} : ∀ {h h' : AHeap}, calm n k h h' = true → ∀ b, b < h.length → ∃ x y, h[b]? = some x ∧ h'[b]? = some y ∧ (x = y ∨ y.low n k = true)
  | [], h', _, b, hb => by simp at hb
  | x :: h, [], hc, b, hb => by simp [calm] at hc
  | x :: h, y :: h', hc, b, hb => by
    simp only [calm, Bool.and_eq_true, Bool.or_eq_true] at hc
    cases b with
    | zero => exact ⟨x, y, rfl, rfl, hc.1.imp ABlk.same_eq id⟩
    | succ b => exact calm_get hc.2 b (by simpa using hb)

theorem calm_refl (n k : Nat) : ∀ (h G : AHeap), calm n k h (h ++ G) = true
  | [], G => by simp [calm]
  | x :: h, G => by simp [calm, ABlk.same_refl, calm_refl n k h G]

theorem calm_self (n k : Nat) (h : AHeap) : calm n k h h = true := by
  have := calm_refl n k h []
  rwa [List.append_nil] at this

theorem calm_set {n k : Nat} : ∀ {h h' : AHeap} {r : Nat} {x : ABlk}, calm n k h h' = true → x.low n k = true → calm n k h (h'.set r x) = true
  | [], h', r, x, _, _ => by simp [calm]
  | y :: h, [], r, x, hc, _ => by simp [calm] at hc
  | y :: h, z :: h', 0, x, hc, hx => by
    simp only [calm, Bool.and_eq_true, Bool.or_eq_true] at hc
    simp [calm, hx, hc.2]
  | y :: h, z :: h', r + 1, x, hc, hx => by
    simp only [calm, Bool.and_eq_true, Bool.or_eq_true] at hc
    simp only [List.set_cons_succ, calm, Bool.and_eq_true, Bool.or_eq_true]
    exact ⟨hc.1, calm_set hc.2 hx⟩

theorem calm_append {n k : Nat} : ∀ {h h' G : AHeap}, calm n k h h' = true → calm n k h (h' ++ G) = true
  | [], h', G, _ => by simp [calm]
  | y :: h, [], G, hc => by simp [calm] at hc
  | y :: h, z :: h', G, hc => by
    simp only [calm, Bool.and_eq_true, Bool.or_eq_true] at hc
    simp only [List.cons_append, calm, Bool.and_eq_true, Bool.or_eq_true]
    exact ⟨hc.1, calm_append hc.2⟩

section
variable {fm : Nat → Nat} {ρ ρ' ρ'' : Map} {X : Nat → Prop} {h h' h'' : AHeap} {w w' : World} {σ : Nat → Option Nat} {n : Nat}

/-- of the heap some blocks are left, at other places -/
structure Mov (ρ' ρ'' : Map) (h' h'' : AHeap) (σ : Nat → Option Nat) (n : Nat) : Prop where
  at_ : ∀ b c, σ b = some c → c < h''.length ∧ ρ'' c = ρ' b
  row : ∀ b c, σ b = some c → ∀ sz els', h''[c]? = some (.row sz els') → ∃ els, h'[b]? = some (.row sz els) ∧ els.length = els'.length
  map : ∀ b c, σ b = some c → ∀ es', h''[c]? = some (.map es') → ∃ es, h'[b]? = some (.map es)
  low : ∀ b, b < n → σ b = some b
  back : ∀ c B, ρ'' c = some B → ∃ b, σ b = some c ∧ ρ' b = some B

theorem Mov.out (C : Mov ρ' ρ'' h' h'' σ n) {B : Nat} (hB : Out ρ' X w B) : Out ρ'' X w B :=
  ⟨fun c e => by
    obtain ⟨b, _, h2⟩ := C.back c B e
    exact hB.heap b h2, hB.apart, hB.lt⟩

theorem Mov.hptr (C : Mov ρ' ρ'' h' h'' σ n) {b c bl i off : Nat} {a : Addr} (hb : σ b = some c)
    (ha : ∀ B sz els, ρ' b = some B → h'[b]? = some (.row sz els) → bl ≤ els.length ∧ (els.length = bl → a = ⟨B, i * sz + off, none⟩)) : VR fm ρ'' X h'' w (.hptr c bl i off) (.pointer (some a)) :=
  .hptr (C.at_ b c hb).1 fun B sz els e he => by
    obtain ⟨els0, h1, h2⟩ := C.row b c hb sz els he
    obtain ⟨h3, h4⟩ := ha B sz els0 (by rw [← (C.at_ b c hb).2]; exact e) h1
    exact ⟨by omega, fun q => h4 (by omega)⟩

theorem Mov.hsl (C : Mov ρ' ρ'' h' h'' σ n) {b c bl i len sz cc : Nat} {cap : Option Nat} {a : Addr} (hb : σ b = some c) (hlc : len ≤ cc)
    (ha : ∀ B els, ρ' b = some B → h'[b]? = some (.row sz els) → bl ≤ els.length ∧ (els.length = bl →
        (cc ≠ 0 → a = ⟨B, i * sz, none⟩) ∧ capIs cap (els.length - i) cc ∧ ∃ arr e fr, w.heap[B]? = some (.cells arr e fr) ∧ (i + cc) * sz ≤ arr.size))
    (hs : ∀ B sz' els, ρ' b = some B → h'[b]? = some (.row sz' els) → bl ≤ els.length) : VR fm ρ'' X h'' w (.hsl c bl i len sz cap) (.slice (some a) len cc) :=
  .hsl (C.at_ b c hb).1 hlc (fun B els e he => by
    obtain ⟨els0, h1, h2⟩ := C.row b c hb sz els he
    obtain ⟨h3, h4⟩ := ha B els0 (by rw [← (C.at_ b c hb).2]; exact e) h1
    refine ⟨by omega, fun q => ?_⟩
    rw [← h2]
    exact h4 (by omega)) (fun B sz' els e he => by
    obtain ⟨els0, h1, h2⟩ := C.row b c hb sz' els he
    have := hs B sz' els0 (by rw [← (C.at_ b c hb).2]; exact e) h1
    omega)

theorem Mov.hmap (C : Mov ρ' ρ'' h' h'' σ n) {b c r : Nat} (hb : σ b = some c) (ha : ∀ B es, ρ' b = some B → h'[b]? = some (.map es) → r = B) : VR fm ρ'' X h'' w (.hmap c) (.map (some r)) :=
  .hmap (C.at_ b c hb).1 fun B es e he => by
    obtain ⟨es0, h1⟩ := C.map b c hb es he
    exact ha B es0 (by rw [← (C.at_ b c hb).2]; exact e) h1

/-- what was known of the old heap is known there -/
theorem VR.downM (C : Mov ρ' ρ'' h' h'' σ n) {a : AV} {c : Value} (H : VR fm ρ' X h' w' a c) : ∀ {c0 : Value} {ρ : Map} {X0 : Nat → Prop} {w : World} {h : AHeap}, h.length = n → VR fm ρ X0 h w a c0 → VR fm ρ'' X h'' w' a c := by
  induction H with
  | bool b => intros; exact .bool b
  | int k n => intros; exact .int k n
  | str s => intros; exact .str s
  | nilp => intros; exact .nilp
  | hptr hb ha =>
    intro c0 ρ X0 w h hn H0
    cases H0 with
    | hptr hb0 _ => exact C.hptr (C.low _ (by omega)) ha
  | iptr vs hB hl hc hv ih =>
    intro c0 ρ X0 w h hn H0
    cases H0 with
    | iptr vs0 _ hl0 _ hv0 =>
      refine .iptr vs (C.out hB) hl hc fun j a v ha hv' => ?_
      obtain ⟨b, hb⟩ := get_of_len hl0 ha
      exact ih j a v ha hv' hn (hv0 j a b ha hb)
  | nils => intros; exact .nils
  | hsl hb hlc ha hs =>
    intro c0 ρ X0 w h hn H0
    cases H0 with
    | hsl hb0 _ _ _ => exact C.hsl (C.low _ (by omega)) hlc ha hs
  | isl vss hl hlc hcap hB hsz hvs hc hv ih =>
    intro c0 ρ X0 w h hn H0
    cases H0 with
    | isl vss0 hl0 _ _ _ _ hvs0 _ hv0 =>
      refine .isl vss hl hlc hcap (fun hne => ⟨(hB hne).1, C.out (hB hne).2⟩) hsz hvs hc fun i e e' j x v he he' hx hv' => ?_
      obtain ⟨e0, he0⟩ := get_of_len hl0 he
      obtain ⟨b, hb⟩ := get_of_len ((hvs0 i e0 he0).trans (hsz i e he).symm) hx
      exact ih i e e' j x v he he' hx hv' hn (hv0 i e e0 j x b he he0 hx hb)
  | nilm => intros; exact .nilm
  | hmap hb ha =>
    intro c0 ρ X0 w h hn H0
    cases H0 with
    | hmap hb0 _ => exact C.hmap (C.low _ (by omega)) ha
  | fn us vs hu hy hx hv ih1 ih2 =>
    intro c0 ρ X0 w h hn H0
    cases H0 with
    | fn us0 vs0 hu0 hy0 hx0 hv0 =>
      refine .fn us vs hu hy (fun j a v ha hv' => ?_) (fun j a v ha hv' => ?_)
      · obtain ⟨b, hb⟩ := get_of_len hu0 ha
        exact ih1 j a v ha hv' hn (hx0 j a b ha hb)
      · obtain ⟨b, hb⟩ := get_of_len hy0 ha
        exact ih2 j a v ha hv' hn (hv0 j a b ha hb)
  | nilf => intros; exact .nilf
  | ifc hx ih =>
    intro c0 ρ X0 w h hn H0
    cases H0 with
    | ifc hx0 => exact .ifc (ih hn hx0)
  | nili => intros; exact .nili
  | agg vs hl hv ih =>
    intro c0 ρ X0 w h hn H0
    cases H0 with
    | agg vs0 hl0 hv0 =>
      refine .agg vs hl (fun j a v ha hv' => ?_)
      obtain ⟨b, hb⟩ := get_of_len hl0 ha
      exact ih j a v ha hv' hn (hv0 j a b ha hb)
  | tup vs hl hv ih =>
    intro c0 ρ X0 w h hn H0
    cases H0 with
    | tup vs0 hl0 hv0 =>
      refine .tup vs hl (fun j a v ha hv' => ?_)
      obtain ⟨b, hb⟩ := get_of_len hl0 ha
      exact ih j a v ha hv' hn (hv0 j a b ha hb)
  | junk v => intros; exact .junk v

/-- what has no pointer to what is new -/
theorem VR.lowM (C : Mov ρ' ρ'' h' h'' σ n) : ∀ (k : Nat) {a : AV} {c : Value}, a.low n k = true → VR fm ρ' X h' w a c → VR fm ρ'' X h'' w a c
  | 0, a, c, hl, H => by cases H <;> simp only [AV.low, Bool.false_eq_true] at hl <;> constructor
  | k + 1, a, c, hlow, H => by
    have ih := fun {a : AV} {c : Value} => VR.lowM C k (a := a) (c := c)
    cases H with
    | bool b => exact .bool b
    | int k n => exact .int k n
    | str s => exact .str s
    | nilp => exact .nilp
    | hptr hb ha =>
      simp only [AV.low, decide_eq_true_eq] at hlow
      exact C.hptr (C.low _ hlow) ha
    | iptr vs hB hl hc hv =>
      simp only [AV.low, List.all_eq_true] at hlow
      exact .iptr vs (C.out hB) hl hc fun j a v ha hv' => ih (hlow _ (List.mem_of_getElem? ha)) (hv j a v ha hv')
    | nils => exact .nils
    | hsl hb hlc ha hs =>
      simp only [AV.low, decide_eq_true_eq] at hlow
      exact C.hsl (C.low _ hlow) hlc ha hs
    | isl vss hl hlc hcap hB hsz hvs hc hv =>
      simp only [AV.low, List.all_eq_true] at hlow
      exact .isl vss hl hlc hcap (fun hne => ⟨(hB hne).1, C.out (hB hne).2⟩) hsz hvs hc fun i e e' j x v he he' hx hv' =>
        ih (hlow _ (List.mem_of_getElem? he) _ (List.mem_of_getElem? hx)) (hv i e e' j x v he he' hx hv')
    | nilm => exact .nilm
    | hmap hb ha =>
      simp only [AV.low, decide_eq_true_eq] at hlow
      exact C.hmap (C.low _ hlow) ha
    | fn us vs hu hy hx hv =>
      simp only [AV.low, Bool.and_eq_true, List.all_eq_true] at hlow
      exact .fn us vs hu hy (fun j a v ha hv' => ih (hlow.1 _ (List.mem_of_getElem? ha)) (hx j a v ha hv')) (fun j a v ha hv' => ih (hlow.2 _ (List.mem_of_getElem? ha)) (hv j a v ha hv'))
    | nilf => exact .nilf
    | ifc hx =>
      simp only [AV.low] at hlow
      exact .ifc (ih hlow hx)
    | nili => exact .nili
    | agg vs hl hv =>
      simp only [AV.low, List.all_eq_true] at hlow
      exact .agg vs hl fun j a v ha hv' => ih (hlow _ (List.mem_of_getElem? ha)) (hv j a v ha hv')
    | tup vs hl hv =>
      simp only [AV.low, List.all_eq_true] at hlow
      exact .tup vs hl fun j a v ha hv' => ih (hlow _ (List.mem_of_getElem? ha)) (hv j a v ha hv')
    | junk => exact .junk _

theorem ren_sound (I : Inv fm ρ' X h' w) (C : Mov ρ' ρ'' h' h'' σ n) : ∀ (k : Nat) {a : AV} {c : Value}, VR fm ρ' X h' w a c → VR fm ρ'' X h'' w (ren σ h' k a) c
  | 0, a, c, H => by
    cases H <;> simp only [ren] <;> first | exact .junk _ | constructor
  | k + 1, a, c, H => by
    have ih := fun {a : AV} {c : Value} => ren_sound I C k (a := a) (c := c)
    have hnew : ∀ b B, σ b = none → ρ' b = some B → Out ρ'' X w B := fun b B hb e => by
      refine ⟨fun c' e' => ?_, (I.dom b B e).2.2, (I.dom b B e).2.1⟩
      obtain ⟨b', h1, h2⟩ := C.back c' B e'
      have := I.inj b b' B e h2
      subst this
      rw [hb] at h1
      cases h1
    cases H with
    | bool b => exact .bool b
    | int k n => exact .int k n
    | str s => exact .str s
    | nilp => exact .nilp
    | @hptr b bl i off a hb ha =>
      simp only [ren]
      split
      · rename_i c hc
        exact C.hptr hc ha
      · rename_i hc
        split
        · rename_i sz els he
          split
          · rename_i hbl
            split
            · rename_i cs hcs
              obtain ⟨B, hB⟩ := I.tot b hb
              have hA := (ha B sz els hB he).2 hbl
              subst hA
              obtain ⟨vs, h1, h2, h3, h4⟩ := (I.row b B sz els hB he).cellsAt hcs
              obtain ⟨h5, h6⟩ := VRs.mapf (g := ren σ h' k) h2 (fun j a v hx hy => ih (h4 j a v hx hy))
              exact .iptr vs (hnew b B hc hB) h5 (fun j v hj => ⟨h1 j v hj, h3 v (List.mem_of_getElem? hj)⟩) h6
            · exact .junk _
          · exact .junk _
        · exact .junk _
    | @iptr cs off B o vs hB hl hc hv =>
      simp only [ren]
      obtain ⟨h5, h6⟩ := VRs.mapf (g := ren σ h' k) hl (fun j a v hx hy => ih (hv j a v hx hy))
      exact .iptr vs (C.out hB) h5 hc h6
    | nils => exact .nils
    | @hsl b bl i len sz cc cap a hb hlc ha hs =>
      simp only [ren]
      split
      · rename_i c hc
        exact C.hsl hc hlc ha hs
      · rename_i hc
        split
        · rename_i sz' els he
          split
          · rename_i hcond
            obtain ⟨hbl, rfl, hle⟩ := hcond
            obtain ⟨B, hB⟩ := I.tot b hb
            obtain ⟨h1, h2, _⟩ := (ha B els hB he).2 hbl
            refine RowR.isl (I.row b B sz' els hB he) hle (hnew b B hc hB) (fun q => h1 (by omega)) hlc ?_ _ (fun a v => ih)
            cases cap with
            | none => simp only [capIs] at h2 ⊢; exact hlc
            | some c => exact h2
          · exact .junk _
        · exact .junk _
    | @isl els sz cc cap a vss hl hlc hcap hB hsz hvs hc hv =>
      simp only [ren]
      have key := VR.isl (fm := fm) (ρ := ρ'') (X := X) (h := h'') (w := w) (els := els.map fun e => e.map (ren σ h' k)) (sz := sz) (cc := cc) (cap := cap) (a := a) vss
        (by simpa using hl) (by simpa using hlc) (by simpa using hcap) (fun hne => ?_) (fun i e he => ?_) hvs hc (fun i e e' j x v he he' hx hv' => ?_)
      · rw [List.length_map] at key
        exact key
      · have hne' : els ≠ [] := fun q => hne (by rw [q]; rfl)
        exact ⟨(hB hne').1, C.out (hB hne').2⟩
      · rw [List.getElem?_map] at he
        obtain ⟨e0, h0, rfl⟩ := map_some he
        simp [hsz i e0 h0]
      · rw [List.getElem?_map] at he
        obtain ⟨e0, h0, rfl⟩ := map_some he
        rw [List.getElem?_map] at hx
        obtain ⟨x0, h1, rfl⟩ := map_some hx
        exact ih (hv i e0 e' j x0 v h0 he' h1 hv')
    | nilm => exact .nilm
    | @hmap b r hb ha =>
      simp only [ren]
      split
      · rename_i c hc
        exact C.hmap hc ha
      · exact .junk _
    | @fn f xs ys us vs hu hy hx hv =>
      simp only [ren]
      obtain ⟨h1, h2⟩ := VRs.mapf (g := ren σ h' k) hu (fun j a v ha hb => ih (hx j a v ha hb))
      obtain ⟨h3, h4⟩ := VRs.mapf (g := ren σ h' k) hy (fun j a v ha hb => ih (hv j a v ha hb))
      exact .fn us vs h1 h3 h2 h4
    | nilf => exact .nilf
    | ifc hx => simp only [ren]; exact .ifc (ih hx)
    | nili => exact .nili
    | @agg cs vs hl hv =>
      simp only [ren]
      obtain ⟨h1, h2⟩ := VRs.mapf (g := ren σ h' k) hl (fun j a v ha hb => ih (hv j a v ha hb))
      exact .agg vs h1 h2
    | @tup cs vs hl hv =>
      simp only [ren]
      obtain ⟨h1, h2⟩ := VRs.mapf (g := ren σ h' k) hl (fun j a v ha hb => ih (hv j a v ha hb))
      exact .tup vs h1 h2
    | junk v => exact .junk _

/-! ### The blocks that are left -/
theorem getBlks_get : ∀ {R : List Nat} {bs : List ABlk}, getBlks h' R = some bs → bs.length = R.length ∧ ∀ (i b : Nat), R[i]? = some b → ∃ x, h'[b]? = some x ∧ bs[i]? = some x
  | [], bs, hg => by
    simp only [getBlks, Option.some.injEq] at hg
    subst hg
    exact ⟨rfl, by simp⟩
  | b :: R, bs, hg => by
    simp only [getBlks] at hg
    split at hg
    · rename_i x hx
      obtain ⟨l, hl, rfl⟩ := map_some hg
      obtain ⟨h1, h2⟩ := getBlks_get hl
      refine ⟨by simp [h1], fun i b' hb => ?_⟩
      cases i with
      | zero =>
        simp only [List.getElem?_cons_zero, Option.some.injEq] at hb
        subst hb
        exact ⟨x, hx, rfl⟩
      | succ i => exact h2 i b' (by simpa using hb)
    · cases hg

theorem noDup_inj : ∀ {R : List Nat}, noDup R = true → ∀ (i j b : Nat), R[i]? = some b → R[j]? = some b → i = j
  | [], _, i, j, b, hi, _ => by simp at hi
  | a :: R, hd, i, j, b, hi, hj => by
    simp only [noDup, Bool.and_eq_true, Bool.not_eq_true', List.contains_eq_mem, decide_eq_false_iff_not] at hd
    cases i with
    | zero =>
      cases j with
      | zero => rfl
      | succ j =>
        simp only [List.getElem?_cons_zero, Option.some.injEq] at hi
        subst hi
        exact absurd (List.mem_of_getElem? (by simpa using hj)) hd.1
    | succ i =>
      cases j with
      | zero =>
        simp only [List.getElem?_cons_zero, Option.some.injEq] at hj
        subst hj
        exact absurd (List.mem_of_getElem? (by simpa using hi)) hd.1
      | succ j => rw [noDup_inj hd.2 i j b (by simpa using hi) (by simpa using hj)]

theorem idxOf_get : ∀ {R : List Nat} {b i : Nat}, R.idxOf? b = some i → R[i]? = some b := by
  intro R b i hi
  rw [List.idxOf?_eq_some_iff] at hi
  obtain ⟨h1, h2, _⟩ := hi
  rw [List.getElem?_eq_getElem h1]
  simpa using h2

theorem get_idxOf {R : List Nat} (hd : noDup R = true) {b i : Nat} (hi : R[i]? = some b) : R.idxOf? b = some i := by
  cases hx : R.idxOf? b with
  | none =>
    rw [List.idxOf?_eq_none_iff] at hx
    exact absurd (List.mem_of_getElem? hi) hx
  | some j => rw [noDup_inj hd i j b hi (idxOf_get hx)]

/-- **what is handed back** -/
theorem gc_sound {bar : Nat} (I0 : Inv fm ρ X h w) (I : Inv fm ρ' X h' w') (L : Le ρ X h w ρ' X h' w') (hbar : bar ≤ h.length) (hb : ∀ b, b < bar → ρ' b = ρ b ∧ h'[b]? = h[b]?)
    {v : AV} {c : Value} (V : VR fm ρ' X h' w' v c) {v2 : AV} {h2 : AHeap} (hv : gcOut h' h v = (v2, h2)) :
    ∃ ρ2, VR fm ρ2 X h2 w' v2 c ∧ Inv fm ρ2 X h2 w' ∧ Le ρ X h w ρ2 X h2 w' ∧ ∀ b, b < bar → ρ2 b = ρ b ∧ h2[b]? = h[b]? := by
  unfold gcOut at hv
  dsimp only at hv
  generalize hR : gcFind h' h.length FZ [] v = R at hv
  split at hv
  · rename_i bs hbs
    split at hv
    · rename_i hok
      simp only [Bool.and_eq_true, List.all_eq_true, decide_eq_true_eq] at hok
      obtain ⟨⟨hcalm, hdup⟩, hge⟩ := hok
      simp only [Prod.mk.injEq] at hv
      obtain ⟨rfl, rfl⟩ := hv
      obtain ⟨hlen, hget⟩ := getBlks_get hbs
      have hle : h.length ≤ h'.length := L.len
      generalize hσ : gcAt R h.length = σ
      let ρ2 : Map := fun c => if c < h.length then ρ' c else (R[c - h.length]?).bind ρ'
      have hlow : ∀ c, c < h.length → ρ2 c = ρ' c := fun c hc => by simp only [ρ2, hc, if_true]
      have hhigh : ∀ i, ρ2 (h.length + i) = (R[i]?).bind ρ' := fun i => by
        have : ¬ h.length + i < h.length := by omega
        simp only [ρ2, this, if_false, Nat.add_sub_cancel_left]
      have hσlow : ∀ b, b < h.length → σ b = some b := fun b hb => by rw [← hσ]; simp [gcAt, hb]
      have hσhigh : ∀ b c, ¬ b < h.length → σ b = some c → ∃ i, c = h.length + i ∧ R[i]? = some b := fun b c hb hc => by
        rw [← hσ] at hc
        simp only [gcAt, hb, if_false] at hc
        obtain ⟨i, hi, rfl⟩ := map_some hc
        exact ⟨i, rfl, idxOf_get hi⟩
      have hlen2 : (h'.take h.length ++ bs.map (renBlk σ h' FZ)).length = h.length + R.length := by simp; omega
      have htlen : (h'.take h.length).length = h.length := by simp; omega
      have h2low : ∀ b, b < h.length → (h'.take h.length ++ bs.map (renBlk σ h' FZ))[b]? = h'[b]? := fun b hb => by
        rw [List.getElem?_append_left (by omega), List.getElem?_take, if_pos hb]
      have h2high : ∀ i, (h'.take h.length ++ bs.map (renBlk σ h' FZ))[h.length + i]? = (bs[i]?).map (renBlk σ h' FZ) := fun i => by
        rw [List.getElem?_append_right (by omega), htlen, Nat.add_sub_cancel_left, List.getElem?_map]
      generalize h2e : h'.take h.length ++ bs.map (renBlk σ h' FZ) = h2 at hlen2 h2low h2high ⊢
      have C : Mov ρ' ρ2 h' h2 σ h.length := by
        refine ⟨fun b c hc => ?_, fun b c hc sz els' he => ?_, fun b c hc es' he => ?_, hσlow, fun c B e => ?_⟩
        · by_cases q : b < h.length
          · rw [hσlow b q] at hc
            injection hc with hc
            subst hc
            exact ⟨by omega, hlow b q⟩
          · obtain ⟨i, rfl, hi⟩ := hσhigh b c q hc
            have : i < R.length := (List.getElem?_eq_some_iff.1 hi).1
            exact ⟨by omega, by rw [hhigh, hi]; rfl⟩
        · by_cases q : b < h.length
          · rw [hσlow b q] at hc
            injection hc with hc
            subst hc
            rw [h2low b q] at he
            exact ⟨els', he, rfl⟩
          · obtain ⟨i, rfl, hi⟩ := hσhigh b c q hc
            obtain ⟨x, h3, h4⟩ := hget i b hi
            rw [h2high, h4] at he
            cases x with
            | row sz0 els0 =>
              simp only [Option.map_some, renBlk, Option.some.injEq, ABlk.row.injEq] at he
              obtain ⟨rfl, rfl⟩ := he
              exact ⟨els0, h3, by simp⟩
            | map es => simp [renBlk] at he
        · by_cases q : b < h.length
          · rw [hσlow b q] at hc
            injection hc with hc
            subst hc
            rw [h2low b q] at he
            exact ⟨es', he⟩
          · obtain ⟨i, rfl, hi⟩ := hσhigh b c q hc
            obtain ⟨x, h3, h4⟩ := hget i b hi
            rw [h2high, h4] at he
            cases x with
            | row sz0 els0 => simp [renBlk] at he
            | map es => exact ⟨es, h3⟩
        · by_cases q : c < h.length
          · exact ⟨c, hσlow c q, by rw [← hlow c q]; exact e⟩
          · obtain ⟨i, rfl⟩ : ∃ i, c = h.length + i := ⟨c - h.length, by omega⟩
            rw [hhigh] at e
            obtain ⟨b, hb1, hb2⟩ := bind_some e
            have hbg := hge b (List.mem_of_getElem? hb1)
            refine ⟨b, ?_, hb2⟩
            rw [← hσ]
            simp only [gcAt, show ¬ b < h.length by omega, if_false, get_idxOf hdup hb1, Option.map_some]
      refine ⟨ρ2, ren_sound I C FZ V, ?_, ?_, fun b hb' => ⟨by rw [hlow b (by omega)]; exact (hb b hb').1, by rw [h2low b (by omega)]; exact (hb b hb').2⟩⟩
      · refine ⟨fun c B e => ?_, fun c c' B e e' => ?_, fun c hc => ?_, fun c B sz els e he => ?_, fun c B es e he => ?_⟩
        · obtain ⟨b, h3, h4⟩ := C.back c B e
          exact ⟨(C.at_ b c h3).1, (I.dom b B h4).2⟩
        · obtain ⟨b, h3, h4⟩ := C.back c B e
          obtain ⟨b', h5, h6⟩ := C.back c' B e'
          have := I.inj b b' B h4 h6
          subst this
          rw [h3] at h5
          injection h5
        · by_cases q : c < h.length
          · obtain ⟨B, hB⟩ := I.tot c (by omega)
            exact ⟨B, by rw [hlow c q]; exact hB⟩
          · obtain ⟨i, rfl⟩ : ∃ i, c = h.length + i := ⟨c - h.length, by omega⟩
            have hi : i < R.length := by omega
            have hRi : R[i]? = some R[i] := List.getElem?_eq_getElem hi
            obtain ⟨x, h3, _⟩ := hget i _ hRi
            obtain ⟨B, hB⟩ := I.tot R[i] (List.getElem?_eq_some_iff.1 h3).1
            exact ⟨B, by rw [hhigh, hRi]; exact hB⟩
        · by_cases q : c < h.length
          · rw [h2low c q] at he
            rw [hlow c q] at e
            obtain ⟨hw1, arr, t, fz, b1, b2, b3, b4⟩ := I.row c B sz els e he
            refine ⟨hw1, arr, t, fz, b1, b2, b3, fun i x j a hx ha => ?_⟩
            obtain ⟨v, c1, c2, c3⟩ := b4 i x j a hx ha
            refine ⟨v, c1, c2, ?_⟩
            obtain ⟨x0, y0, d1, d2, d3⟩ := calm_get hcalm c q
            rw [he] at d2
            injection d2 with d2
            subst d2
            rcases d3 with rfl | d3
            · obtain ⟨B0, hB0⟩ := I0.tot c q
              obtain ⟨_, arr0, _, _, _, _, _, a4⟩ := I0.row c B0 sz els hB0 d1
              obtain ⟨v0, _, _, g3⟩ := a4 i x j a hx ha
              exact VR.downM C c3 rfl g3
            · simp only [ABlk.low, List.all_eq_true] at d3
              exact VR.lowM C FZ (d3 _ (List.mem_of_getElem? hx) _ (List.mem_of_getElem? ha)) c3
          · obtain ⟨i, rfl⟩ : ∃ i, c = h.length + i := ⟨c - h.length, by omega⟩
            rw [hhigh] at e
            obtain ⟨b, hb1, hb2⟩ := bind_some e
            obtain ⟨x, h3, h4⟩ := hget i b hb1
            rw [h2high, h4] at he
            cases x with
            | map es => simp [renBlk] at he
            | row sz0 els0 =>
              simp only [Option.map_some, renBlk, Option.some.injEq, ABlk.row.injEq] at he
              obtain ⟨rfl, rfl⟩ := he
              obtain ⟨hw1, arr, t, fz, b1, b2, b3, b4⟩ := I.row b B sz0 els0 hb2 h3
              refine ⟨fun i x hx => ?_, arr, t, fz, b1, by simpa using b2, b3, fun i x j a hx ha => ?_⟩
              · rw [List.getElem?_map] at hx
                obtain ⟨x0, hx0, rfl⟩ := map_some hx
                simp [hw1 i x0 hx0]
              · rw [List.getElem?_map] at hx
                obtain ⟨x0, hx0, rfl⟩ := map_some hx
                rw [List.getElem?_map] at ha
                obtain ⟨a0, ha0, rfl⟩ := map_some ha
                obtain ⟨v, c1, c2, c3⟩ := b4 i x0 j a0 hx0 ha0
                exact ⟨v, c1, c2, ren_sound I C FZ c3⟩
        · by_cases q : c < h.length
          · rw [h2low c q] at he
            rw [hlow c q] at e
            obtain ⟨arr, cl, b1, b2, b3⟩ := I.map c B es e he
            refine ⟨arr, cl, b1, b2, fun i k x hx => ?_⟩
            obtain ⟨me, c1, c2, c3⟩ := b3 i k x hx
            refine ⟨me, c1, c2, ?_⟩
            obtain ⟨x0, y0, d1, d2, d3⟩ := calm_get hcalm c q
            rw [he] at d2
            injection d2 with d2
            subst d2
            rcases d3 with rfl | d3
            · obtain ⟨B0, hB0⟩ := I0.tot c q
              obtain ⟨arr0, _, _, _, a4⟩ := I0.map c B0 es hB0 d1
              obtain ⟨v0, _, _, g3⟩ := a4 i k x hx
              exact VR.downM C c3 rfl g3
            · simp only [ABlk.low, List.all_eq_true] at d3
              exact VR.lowM C FZ (d3 _ (List.mem_of_getElem? hx)) c3
          · obtain ⟨i, rfl⟩ : ∃ i, c = h.length + i := ⟨c - h.length, by omega⟩
            rw [hhigh] at e
            obtain ⟨b, hb1, hb2⟩ := bind_some e
            obtain ⟨x, h3, h4⟩ := hget i b hb1
            rw [h2high, h4] at he
            cases x with
            | row sz0 els0 => simp [renBlk] at he
            | map es0 =>
              simp only [Option.map_some, renBlk, Option.some.injEq, ABlk.map.injEq] at he
              subst he
              obtain ⟨arr, cl, b1, b2, b3⟩ := I.map b B es0 hb2 h3
              refine ⟨arr, cl, b1, by simpa using b2, fun i k x hx => ?_⟩
              rw [List.getElem?_map] at hx
              obtain ⟨x0, hx0, hxe⟩ := map_some hx
              simp only [Prod.mk.injEq] at hxe
              obtain ⟨rfl, rfl⟩ := hxe
              obtain ⟨me, c1, c2, c3⟩ := b3 i x0.1 x0.2 hx0
              exact ⟨me, c1, c2, ren_sound I C FZ c3⟩
      · refine ⟨by omega, L.size, L.os, L.tape, L.output, fun B hB => ⟨(L.imm B hB).1, fun c e => ?_, (L.imm B hB).2.2⟩, fun b hb' B' e => ?_⟩
        · obtain ⟨b, _, h4⟩ := C.back c B e
          exact (L.imm B hB).2.1 b h4
        · rw [hlow b hb'] at e
          have := L.blk b hb' B' e
          rw [← h2low b hb'] at this
          exact this
    · simp only [Prod.mk.injEq] at hv
      obtain ⟨rfl, rfl⟩ := hv
      exact ⟨ρ', .junk _, I, L, hb⟩
  · simp only [Prod.mk.injEq] at hv
    obtain ⟨rfl, rfl⟩ := hv
    exact ⟨ρ', .junk _, I, L, hb⟩

end
end Go.Ai
/-
  The abstract interpreter: functions, and the whole.
-/
namespace Go.Ai
open Go.RowKit
set_option linter.unusedVariables false
set_option linter.unusedSimpArgs false

def lRes (P : Program) : List ResultVar → Option (List SRes)
  | [] => some []
  | .tmp t :: r => (lRes P r).map fun l => .t t :: l
  | .cell a ty :: r => (tPart P ty).bind fun n => (lRes P r).map fun l => .cell a n :: l

def lFunc (P : Program) (fmi : Nat → Option Nat) (hint : SFunc) (fn : Func) : Option SFunc :=
  match fn.body with
  | some c =>
    if hint.nparams ≤ fn.ntmps then
      (lCode P fmi fn.ntmps c hint.body).bind fun b => (lRes P fn.results.toList).map fun r => { nparams := hint.nparams, pol := hint.pol, body := b, results := r }
    else none
  | none => none

section
variable {P : Program} {fm : Nat → Nat} {fmi : Nat → Option Nat} {X : Nat → Prop} {bar N : Nat} {s s' sf : St} {w w' : World} {call : Caller} {a : Act} {o : Oper} {v : AV} {ρ ρ' PV : Map} {h h' : AHeap} {tmps : Array Value}
variable {ρ0 PV0 : Map} {h0 : AHeap} {w0 : World}

def resVal (tmps : Array Value) : ResultVar → Sem Value
  | .tmp t => pure (tmps.getD t undef)
  | .cell a t => do loadVar t (← asAddr (tmps.getD a undef))

theorem run_resVals (F : FR fm ρ X PV s w tmps) : ∀ (rs : List ResultVar) (sr : List SRes) (vs : List AV), lRes P rs = some sr → ares s sr = some vs →
    ∃ cs, (rs.mapM (resVal tmps)).run P w = .ok cs w ∧ VRs fm ρ (XP X PV) s.heap w vs cs
  | [], sr, vs, hl, hv => by
    simp only [lRes, Option.some.injEq] at hl
    subst hl
    simp only [ares, Option.some.injEq] at hv
    subst hv
    exact ⟨[], rfl, rfl, by simp⟩
  | .tmp t :: r, sr, vs, hl, hv => by
    simp only [lRes] at hl
    obtain ⟨l, hl1, rfl⟩ := map_some hl
    simp only [ares] at hv
    obtain ⟨vs1, hv1, rfl⟩ := map_some hv
    obtain ⟨cs, h1, h2⟩ := run_resVals F r l vs1 hl1 hv1
    refine ⟨tmps.getD t undef :: cs, ?_, by simp [h2.1], fun j a v ha hv => ?_⟩
    · simp only [List.mapM_cons, resVal, Sem.run_bind, Sem.run_pure, Result.andThen_ok, h1]
    · cases j with
      | zero =>
        simp only [List.getElem?_cons_zero, Option.some.injEq] at ha hv
        subst ha hv
        exact (F.env t).plain
      | succ j => exact h2.2 j a v (by simpa using ha) (by simpa using hv)
  | .cell t ty :: r, sr, vs, hl, hv => by
    simp only [lRes] at hl
    obtain ⟨n, hn, hl⟩ := bind_some hl
    obtain ⟨l, hl1, rfl⟩ := map_some hl
    simp only [ares] at hv
    obtain ⟨v0, hv0, hv⟩ := bind_some hv
    obtain ⟨vs1, hv1, rfl⟩ := map_some hv
    obtain ⟨cs, h1, h2⟩ := run_resVals F r l vs1 hl1 hv1
    obtain ⟨A, c', h3, h4, h5⟩ := run_load_any (P := P) F hn (F.env t) hv0
    refine ⟨c' :: cs, ?_, by simp [h2.1], fun j a v ha hv => ?_⟩
    · simp only [List.mapM_cons, resVal, Sem.run_bind, h3, asAddr, Sem.run_pure, Result.andThen_ok, h4, h1]
    · cases j with
      | zero =>
        simp only [List.getElem?_cons_zero, Option.some.injEq] at ha hv
        subst ha hv
        exact h5
      | succ j => exact h2.2 j a v (by simpa using ha) (by simpa using hv)

theorem results_sound (F : FR fm ρ X PV s w tmps) {fn : Func} {sr : List SRes} {vs : List AV} (hl : lRes P fn.results.toList = some sr) (hv : ares s sr = some vs) :
    ∃ c, (results fn tmps).run P w = .ok c w ∧ VR fm ρ (XP X PV) s.heap w (packRes vs) c := by
  obtain ⟨cs, h1, h2⟩ := run_resVals F fn.results.toList sr vs hl hv
  have hm : (fn.results.mapM (resVal tmps)).run P w = .ok cs.toArray w := by
    rw [Array.mapM_eq_mapM_toList]
    simp [h1]
  have hr : results fn tmps = (do let vs ← fn.results.mapM (resVal tmps); pure (if h : vs.size = 1 then vs[0] else .tuple vs)) := rfl
  rw [hr]
  simp only [Sem.run_bind, hm, Result.andThen_ok, Sem.run_pure]
  refine ⟨_, rfl, ?_⟩
  match vs, cs, h2 with
  | [x], [c], h2 => exact h2.2 0 x c rfl rfl
  | [], [], h2 => exact .tup [] rfl (by simp)
  | x :: y :: r, c :: d :: q, h2 => exact .tup _ h2.1 h2.2
  | [], _ :: _, h2 => exact absurd h2.1 (by simp)
  | [_], [], h2 => exact absurd h2.1 (by simp)
  | [_], _ :: _ :: _, h2 => exact absurd h2.1 (by simp)
  | _ :: _ :: _, [], h2 => exact absurd h2.1 (by simp)
  | _ :: _ :: _, [_], h2 => exact absurd h2.1 (by simp)

/-! ### A call -/
theorem envOf_get : ∀ (i : Nat) (vs : List AV) (t : Nat), (envOf i vs).get t = if i ≤ t then (vs[t - i]?).getD .junk else .junk
  | i, [], t => by simp [envOf, AEnv.get]
  | i, v :: r, t => by
    simp only [envOf, AEnv.get, envOf_get (i + 1) r t]
    by_cases q : i = t
    · subst q; simp
    · by_cases q' : i ≤ t
      · have h1 : i + 1 ≤ t := by omega
        have h2 : t - i = (t - (i + 1)) + 1 := by omega
        simp [q, q', h1, h2]
      · have h1 : ¬ i + 1 ≤ t := by omega
        simp [q, q', h1]

theorem XP_none {B : Nat} (hx : XP X (fun _ => none) B) : X B := by
  rcases hx with h | ⟨d, h⟩
  · exact h
  · cases h

theorem At.enter (I : Inv fm ρ X h w) (hX : ∀ B, X B → B < w.heap.size) {as : List AV} {cs : List Value} (H : VRs fm ρ X h w as cs) (hn : as.length ≤ N) :
    At fm X bar N ρ (fun _ => none) h w { env := envOf 0 as, vars := [], heap := h } { tmps := cs.toArray ++ Array.replicate (N - cs.toArray.size) undef, defers := [] } w := by
  refine ⟨ρ, fun _ => none, ⟨I.weakX (fun B => XP_none), (fun d B e => nomatch e), (fun d d' B e => nomatch e), fun t => ?_, (fun d v e => by simp [varGet] at e), hX, (fun d B e => nomatch e)⟩, ?_, rfl, Step.refl _ _ _ _ _ _⟩
  · show ER fm ρ (XP X fun _ => none) _ h w ((envOf 0 as).get t) _
    rw [envOf_get]
    simp only [Nat.zero_le, if_true, Nat.sub_zero]
    by_cases q : t < as.length
    · have hc : t < cs.length := by rw [H.1]; exact q
      have e1 : as[t]? = some as[t] := List.getElem?_eq_getElem q
      have e2 : cs[t]? = some cs[t] := List.getElem?_eq_getElem hc
      have e3 : (cs.toArray ++ Array.replicate (N - cs.toArray.size) undef).getD t undef = cs[t] := by
        rw [Array.getD_eq_getD_getElem?, Array.getElem?_append_left (by simpa using hc)]
        simp [e2]
      rw [e1, e3]
      exact ER.of ((H.2 t _ _ e1 e2).weakX fun B => XP_none)
    · rw [List.getElem?_eq_none (by omega)]
      exact .junk _
  · have := H.1
    simp
    omega

theorem Le.unX {PV' : Map} (L : Le ρ (XP X fun _ => none) h w ρ' (XP X PV') h' w') : Le ρ X h w ρ' X h' w' where
  len := L.len
  size := L.size
  os := L.os
  tape := L.tape
  output := L.output
  imm B hB := by
    obtain ⟨h1, h2, h3⟩ := L.imm B ⟨hB.heap, fun hx => hB.apart (XP_none hx), hB.lt⟩
    exact ⟨h1, h2, fun hx => h3 (.inl hx)⟩
  blk := L.blk

structure PrimOK (P : Program) (fm : Nat → Nat) (f : Nat) (p : Nat → List AV → AHeap → Option (AV × AHeap)) : Prop where
  bodied : bodied P (fm f) = true
  run : ∀ bar as h v h', p bar as h = some (v, h') → ∀ ρ X w cs, Inv fm ρ X h w → (∀ B, X B → B < w.heap.size) → bar ≤ h.length → VRs fm ρ X h w as cs →
    Calls P (fm f) cs.toArray w (CallPost fm X bar ρ h w v h')

/-- the program's functions are those of the model -/
structure ProgOK (P : Program) (fm : Nat → Nat) (fmi : Nat → Option Nat) (S : SProg) : Prop where
  mixed : P.follows .mixedOrders = true
  hfm : ∀ f g, fmi f = some g → fm g = f
  code : ∀ f sf, S f = some (.code sf) → ∃ fn hint, P.funcs[fm f]? = some fn ∧ bodied P (fm f) = true ∧ lFunc P fmi hint fn = some sf
  prim : ∀ f p, S f = some (.prim p) → PrimOK P fm f p
  pure : ∀ f, pureId f = true → (∀ sf, S f = some (.code sf) → sf.pol = .pure) ∧ (∀ p, S f = some (.prim p) → ∀ bar as h v h', p bar as h = some (v, h') → h' = h)

theorem abody_pure {c : Nat → Caller} {fuel : Nat} {sf : SFunc} {as : List AV} (hp : sf.pol = .pure) (hv : abody c bar fuel sf as h = some (v, h')) : h' = h := by
  unfold abody at hv
  simp only [hp, Pol.out] at hv
  obtain ⟨_, hv⟩ := of_ite hv
  split at hv
  · obtain ⟨vs, _, he⟩ := map_some hv
    simp only [Prod.mk.injEq] at he
    exact he.2.symm
  · obtain ⟨vs, _, he⟩ := map_some hv
    simp only [Prod.mk.injEq] at he
    exact he.2.symm
  · cases hv

theorem arun_pure {S : SProg} (K : ProgOK P fm fmi S) (n : Nat) : ∀ f as h v h', pureId f = true → arun S n bar f as h = some (v, h') → h' = h := by
  intro f as h v h' hf hv
  cases n with
  | zero => simp [arun] at hv
  | succ n =>
    simp only [arun] at hv
    split at hv
    · rename_i sf hs
      exact abody_pure ((K.pure f hf).1 sf hs) hv
    · rename_i p hs
      exact (K.pure f hf).2 p hs bar as h v h' hv
    · cases hv

/-- a body that is known -/
theorem abody_sound {c : Nat → Caller} (hm : P.follows .mixedOrders = true) (O : ∀ bar, CallOK P fm (c bar) bar) (hp : ∀ bar f as h v h', pureId f = true → c bar f as h = some (v, h') → h' = h) (hfm : ∀ f g, fmi f = some g → fm g = f) {f : Nat} {fn : Func} (hf : P.funcs[fm f]? = some fn)
    {hint sf : SFunc} (hl : lFunc P fmi hint fn = some sf) {fuel : Nat} {as : List AV} (hv : abody c bar fuel sf as h = some (v, h')) (I : Inv fm ρ X h w) (hX : ∀ B, X B → B < w.heap.size) (hbar : bar ≤ h.length)
    {cs : List Value} (H : VRs fm ρ X h w as cs) : Calls P (fm f) cs.toArray w (CallPost fm X bar ρ h w v h') := by
  unfold lFunc at hl
  split at hl
  · rename_i code hb
    obtain ⟨hnp, hl⟩ := of_ite hl
    obtain ⟨b, hb1, hl⟩ := bind_some hl
    obtain ⟨r, hr1, rfl⟩ := map_some hl
    refine calls_of_wp hf hb ?_
    unfold abody at hv
    obtain ⟨hlen, hv⟩ := of_ite hv
    dsimp only at hlen hv
    have hbar' : hint.pol.bar bar h.length ≤ h.length := by
      cases hint.pol
      · exact hbar
      · exact Nat.le_refl _
      · exact hbar
    generalize hq : hint.pol.bar bar h.length = bar' at hbar' hv
    have A := At.enter (bar := bar') (N := fn.ntmps) I hX H (by omega)
    -- what is shown behind the body
    have fin : ∀ s', (ares s' r).map (fun vs => hint.pol.out s'.heap h (packRes vs)) = some (v, h') →
        ∀ a' w', At fm X bar' fn.ntmps ρ (fun _ => none) h w s' a' w' → a'.defers = [] ∧ ∃ v1, (results fn a'.tmps).run P w' = .ok v1 w' ∧ CallPost fm X bar ρ h w v h' (.returned v1) w' := by
      intro s' he a' w' ⟨ρ', PV', F', hN', hd', S'⟩
      obtain ⟨vs, hvs, he⟩ := map_some he
      obtain ⟨c1, h1, h2⟩ := results_sound F' hr1 hvs
      refine ⟨hd', c1, h1, ?_⟩
      have hV : VR fm ρ' X s'.heap w' (packRes vs) c1 := h2.weakX fun B hB => .inl hB
      have hI : Inv fm ρ' X s'.heap w' := F'.inv.weakX fun B hB => .inl hB
      have hL : Le ρ X h w ρ' X s'.heap w' := S'.le.unX
      cases hpol : hint.pol with
      | keep =>
        rw [hpol] at he hq
        simp only [Pol.out, Pol.bar] at he hq
        simp only [Prod.mk.injEq] at he
        obtain ⟨rfl, rfl⟩ := he
        subst hq
        exact ⟨c1, ρ', rfl, hV, hI, hL, S'.out, S'.bar⟩
      | gc =>
        rw [hpol] at he hq
        simp only [Pol.out, Pol.bar, Option.some.injEq] at he hq
        subst hq
        obtain ⟨ρ2, g1, g2, g3, g4⟩ := gc_sound I hI hL hbar S'.bar hV he
        exact ⟨c1, ρ2, rfl, g1, g2, g3, S'.out, g4⟩
      | pure =>
        rw [hpol] at he hq
        simp only [Pol.out, Pol.bar] at he hq
        simp only [Prod.mk.injEq] at he
        obtain ⟨rfl, rfl⟩ := he
        subst hq
        have C : Cut ρ' (fun b => if b < h.length then ρ' b else none) h s'.heap := ⟨fun b hb => ⟨by simp [hb], (S'.bar b hb).2⟩, fun b hb => by simp; omega⟩
        refine ⟨c1, _, rfl, frz_sound hI C FZ hV, I.cut hI C (fun b hb => (S'.bar b hb).1), hL.cut C, S'.out, fun b hb => ⟨?_, rfl⟩⟩
        have hb' : b < h.length := by omega
        simp only [hb', if_true]
        exact (S'.bar b hb').1
    split at hv
    · rename_i s' hs'
      exact acode_sound hm (O bar') (hp bar') hfm hbar' fuel code hint.body b hb1 _ _ w s' .normal A hs' _ (fin s' hv)
    · rename_i s' hs'
      exact acode_sound hm (O bar') (hp bar') hfm hbar' fuel code hint.body b hb1 _ _ w s' .ret A hs' _ (fin s' hv)
    · cases hv
  · cases hl

/-- **the interpreter is true of the model** -/
theorem arun_ok {S : SProg} (K : ProgOK P fm fmi S) : ∀ (n bar : Nat), CallOK P fm (fun f as h => arun S n bar f as h) bar
  | 0, bar => ⟨fun f as h v h' hv => by simp [arun] at hv, fun f as h v h' hv => by simp [arun] at hv⟩
  | n + 1, bar => by
    have ih := arun_ok K n
    refine ⟨fun f as h v h' hv => ?_, fun f as h v h' hv ρ X w cs I hX hbar H => ?_⟩
    · simp only [arun] at hv
      split at hv
      · rename_i sf hs
        obtain ⟨fn, hint, h1, h2, h3⟩ := K.code f sf hs
        exact h2
      · rename_i p hs
        exact (K.prim f p hs).bodied
      · cases hv
    · simp only [arun] at hv
      split at hv
      · rename_i sf hs
        obtain ⟨fn, hint, h1, h2, h3⟩ := K.code f sf hs
        exact abody_sound (c := fun bar g as h => arun S n bar g as h) K.mixed ih (fun bar f as h v h' hf hv => arun_pure K n f as h v h' hf hv) K.hfm h1 h3 hv I hX hbar H
      · rename_i p hs
        exact (K.prim f p hs).run bar as h v h' hv ρ X w cs I hX hbar H
      · cases hv

end
end Go.Ai
/-
  The abstract interpreter without fuel: what is computed with some fuel, as equations.
-/
namespace Go.Ai
open Go.RowKit
set_option linter.unusedVariables false
set_option linter.unusedSimpArgs false

/-! ### More fuel, the same answer -/
def CallLe (c c' : Caller) : Prop := ∀ f as h r, c f as h = some r → c' f as h = some r

theorem aop_mono {c c' : Caller} (L : CallLe c c') {bar : Nat} {s : St} {op : SOp} {r : AV × St} (h : aop c bar s op = some r) : aop c' bar s op = some r := by
  cases op <;> first | exact h | skip
  case callf f xs =>
    simp only [aop] at h ⊢
    obtain ⟨y, h1, rfl⟩ := map_some h
    rw [L _ _ _ _ h1]
    rfl
  case callv p f xs =>
    simp only [aop] at h ⊢
    split at h
    · rename_i g first cap hf
      obtain ⟨hn, h⟩ := of_ite' h
      rw [if_neg hn]
      obtain ⟨y, h1, rfl⟩ := map_some h
      rw [L _ _ _ _ h1]
      rfl
    · cases h

theorem aops_mono {c c' : Caller} (L : CallLe c c') {bar : Nat} : ∀ (ops : List SI) {s r : St}, aops c bar ops s = some r → aops c' bar ops s = some r
  | [], s, r, h => h
  | i :: ops, s, r, h => by
    simp only [aops] at h ⊢
    split at h
    · rename_i hw
      obtain ⟨y, h1, h2⟩ := bind_some h
      rw [aop_mono L h1]
      exact aops_mono L ops h2
    · exact aops_mono L ops h
    · cases h

theorem aiter_mono {f f' : St → Option (AExit × St)} (L : ∀ s r, f s = some r → f' s = some r) {keep : List Nat} : ∀ (k k' : Nat) {s : St} {r : AExit × St}, k ≤ k' → aiter f keep k s = some r → aiter f' keep k' s = some r
  | 0, _, s, r, _, h => by simp [aiter] at h
  | k + 1, 0, s, r, hk, h => by omega
  | k + 1, k' + 1, s, r, hk, h => by
    simp only [aiter] at h ⊢
    cases hf : f (s.keep keep) with
    | none => rw [hf] at h; cases h
    | some p =>
      obtain ⟨e, s1⟩ := p
      rw [hf] at h
      rw [L _ _ hf]
      cases e with
      | normal => exact aiter_mono L k k' (by omega) h
      | exit id => exact h
      | ret => exact h

theorem acode_mono {c c' : Caller} (L : CallLe c c') {bar n n' : Nat} (hn : n ≤ n') : ∀ (code : SCode) {s : St} {r : AExit × St}, acode c bar n code s = some r → acode c' bar n' code s = some r
  | .skip, s, r, h => h
  | .region ops ks, s, r, h => by
    simp only [acode] at h ⊢
    obtain ⟨y, h1, rfl⟩ := map_some h
    rw [aops_mono L ops h1]
    rfl
  | .seq a b, s, r, h => by
    simp only [acode] at h ⊢
    cases ha : acode c bar n a s with
    | none => rw [ha] at h; cases h
    | some p =>
      obtain ⟨e, s1⟩ := p
      rw [ha] at h
      rw [acode_mono L hn a ha]
      cases e with
      | normal => exact acode_mono L hn b h
      | exit id => exact h
      | ret => exact h
  | .cond x a b, s, r, h => by
    simp only [acode] at h ⊢
    split at h
    · exact acode_mono L hn a h
    · exact acode_mono L hn b h
    · cases h
  | .block id b, s, r, h => by
    simp only [acode] at h ⊢
    cases hb : acode c bar n b s with
    | none => rw [hb] at h; cases h
    | some p =>
      rw [hb] at h
      rw [acode_mono L hn b hb]
      exact h
  | .loop ks b, s, r, h => by
    simp only [acode] at h ⊢
    exact aiter_mono (fun s r h => acode_mono L hn b h) n n' hn h
  | .exit id, s, r, h => h
  | .ret, s, r, h => h

theorem abody_mono {c c' : Nat → Caller} (L : ∀ bar, CallLe (c bar) (c' bar)) {bar n n' : Nat} (hn : n ≤ n') {f : SFunc} {as : List AV} {h : AHeap} {r : AV × AHeap} (hv : abody c bar n f as h = some r) : abody c' bar n' f as h = some r := by
  unfold abody at hv ⊢
  obtain ⟨h1, hv⟩ := of_ite hv
  rw [if_pos h1]
  generalize hq : ({ env := envOf 0 as, vars := [], heap := h } : St) = s0 at hv ⊢
  cases ha : acode (c (f.pol.bar bar h.length)) (f.pol.bar bar h.length) n f.body s0 with
  | none => rw [ha] at hv; cases hv
  | some p =>
    rw [ha] at hv
    rw [acode_mono (L _) hn f.body ha]
    exact hv

theorem arun_step {S : SProg} : ∀ (n : Nat) (bar : Nat), CallLe (fun f as h => arun S n bar f as h) (fun f as h => arun S (n + 1) bar f as h)
  | 0, bar, f, as, h, r, hv => by simp [arun] at hv
  | n + 1, bar, f, as, h, r, hv => by
    simp only [arun] at hv ⊢
    split at hv
    · exact abody_mono (fun bar => arun_step n bar) (Nat.le_succ n) hv
    · exact hv
    · cases hv

theorem arun_mono {S : SProg} {n n' : Nat} (hn : n ≤ n') (bar : Nat) : CallLe (fun f as h => arun S n bar f as h) (fun f as h => arun S n' bar f as h) := by
  induction hn with
  | refl => exact fun f as h r hv => hv
  | step _ ih => exact fun f as h r hv => arun_step _ bar f as h r (ih f as h r hv)

/-! ### The limit -/
open Classical in
noncomputable def lim {α : Type} (F : Nat → Option α) : Option α := if h : ∃ n, (F n).isSome then F (Classical.choose h) else none

theorem lim_inv {α : Type} {F : Nat → Option α} {r : α} (h : lim F = some r) : ∃ n, F n = some r := by
  unfold lim at h
  split at h
  · exact ⟨_, h⟩
  · cases h

theorem lim_some {α : Type} {F : Nat → Option α} (hm : ∀ n n' r, n ≤ n' → F n = some r → F n' = some r) {n : Nat} {r : α} (h : F n = some r) : lim F = some r := by
  have hex : ∃ n, (F n).isSome := ⟨n, by rw [h]; rfl⟩
  unfold lim
  rw [dif_pos hex]
  cases hc : F (Classical.choose hex) with
  | none => have := Classical.choose_spec hex; rw [hc] at this; cases this
  | some r' =>
    have h1 := hm n (max n (Classical.choose hex)) r (Nat.le_max_left _ _) h
    have h2 := hm _ (max n (Classical.choose hex)) r' (Nat.le_max_right _ _) hc
    rw [h1] at h2
    exact h2.symm

theorem lim_none {α : Type} {F : Nat → Option α} (h : ∀ n, F n = none) : lim F = none := by
  unfold lim
  rw [dif_neg]
  rintro ⟨n, hn⟩
  rw [h n] at hn
  cases hn

/-- a function's answer -/
noncomputable def run (S : SProg) (bar : Nat) : Caller := fun f as h => lim fun n => arun S n bar f as h

theorem run_some {S : SProg} {bar f n : Nat} {as : List AV} {h : AHeap} {r : AV × AHeap} (hv : arun S n bar f as h = some r) : run S bar f as h = some r :=
  lim_some (fun _ _ r hn h1 => arun_mono hn bar f as h r h1) hv

theorem run_inv {S : SProg} {bar f : Nat} {as : List AV} {h : AHeap} {r : AV × AHeap} (hv : run S bar f as h = some r) : ∃ n, arun S n bar f as h = some r := lim_inv hv

/-- a loop -/
noncomputable def evLoop (f : St → Option (AExit × St)) (keep : List Nat) (s : St) : Option (AExit × St) := lim fun k => aiter f keep k s

theorem evLoop_eq (f : St → Option (AExit × St)) (keep : List Nat) (s : St) : evLoop f keep s = match f (s.keep keep) with
    | some (.normal, s') => evLoop f keep s'
    | r => r := by
  have hm : ∀ s n n' r, n ≤ n' → aiter f keep n s = some r → aiter f keep n' s = some r := fun s n n' r hn h => aiter_mono (fun _ _ h => h) n n' hn h
  cases hf : f (s.keep keep) with
  | none =>
    refine lim_none fun n => ?_
    cases n with
    | zero => rfl
    | succ n => simp [aiter, hf]
  | some p =>
    obtain ⟨e, s1⟩ := p
    cases e with
    | normal =>
      simp only
      cases hl : evLoop f keep s1 with
      | none =>
        refine lim_none fun n => ?_
        cases n with
        | zero => rfl
        | succ n =>
          simp only [aiter, hf]
          cases ha : aiter f keep n s1 with
          | none => rfl
          | some r =>
            have := lim_some (hm s1) ha
            unfold evLoop at hl
            rw [this] at hl
            cases hl
      | some r =>
        obtain ⟨n, hn⟩ := lim_inv hl
        exact lim_some (hm s) (n := n + 1) (by simp only [aiter, hf]; exact hn)
    | exit id => exact lim_some (hm s) (n := 1) (by simp [aiter, hf])
    | ret => exact lim_some (hm s) (n := 1) (by simp [aiter, hf])

noncomputable def ev (call : Caller) (bar : Nat) : SCode → St → Option (AExit × St)
  | .skip, s => some (.normal, s)
  | .region ops ks, s => (aops call bar ops s).map fun s => (.normal, keepOpt ks s)
  | .seq a b, s =>
    match ev call bar a s with
    | some (.normal, s') => ev call bar b s'
    | r => r
  | .cond c a b, s =>
    match s.val c with
    | .bool true => ev call bar a s
    | .bool false => ev call bar b s
    | _ => none
  | .block id b, s =>
    match ev call bar b s with
    | some (.exit id', s') => if id' = id then some (.normal, s') else some (.exit id', s')
    | r => r
  | .loop keep b, s => evLoop (fun s => ev call bar b s) keep s
  | .exit id, s => some (.exit id, s)
  | .ret, s => some (.ret, s)

section
variable {S : SProg} {bar : Nat}

abbrev fuelled (S : SProg) (bar n : Nat) : Caller := fun f as h => arun S n bar f as h

theorem aop_lim {s : St} {op : SOp} {r : AV × St} (h : aop (run S bar) bar s op = some r) : ∃ n, aop (fuelled S bar n) bar s op = some r := by
  cases op <;> first | exact ⟨0, h⟩ | skip
  case callf f xs =>
    simp only [aop] at h ⊢
    obtain ⟨y, h1, rfl⟩ := map_some h
    obtain ⟨n, hn⟩ := run_inv h1
    exact ⟨n, by rw [fuelled, hn]; rfl⟩
  case callv p f xs =>
    simp only [aop] at h ⊢
    split at h
    · rename_i g first cap hf
      obtain ⟨hp, h⟩ := of_ite' h
      obtain ⟨y, h1, rfl⟩ := map_some h
      obtain ⟨n, hn⟩ := run_inv h1
      exact ⟨n, by rw [if_neg hp, fuelled, hn]; rfl⟩
    · cases h

theorem aops_lim : ∀ (ops : List SI) {s r : St}, aops (run S bar) bar ops s = some r → ∃ n, aops (fuelled S bar n) bar ops s = some r
  | [], s, r, h => ⟨0, h⟩
  | i :: ops, s, r, h => by
    simp only [aops] at h ⊢
    split at h
    · rename_i hw
      obtain ⟨y, h1, h2⟩ := bind_some h
      obtain ⟨n1, h3⟩ := aop_lim h1
      obtain ⟨n2, h4⟩ := aops_lim ops h2
      refine ⟨max n1 n2, ?_⟩
      rw [aop_mono (arun_mono (Nat.le_max_left n1 n2) bar) h3]
      exact aops_mono (arun_mono (Nat.le_max_right n1 n2) bar) ops h4
    · obtain ⟨n, h4⟩ := aops_lim ops h
      exact ⟨n, h4⟩
    · cases h

theorem fuelled_mono {n n' : Nat} (hn : n ≤ n') {c : SCode} {s : St} {r : AExit × St} (h : acode (fuelled S bar n) bar n c s = some r) : acode (fuelled S bar n') bar n' c s = some r :=
  acode_mono (arun_mono hn bar) hn c h

theorem aiter_lim {f : St → Option (AExit × St)} {g : Nat → St → Option (AExit × St)} (hg : ∀ n n' s r, n ≤ n' → g n s = some r → g n' s = some r) (hf : ∀ s r, f s = some r → ∃ n, g n s = some r) {keep : List Nat} :
    ∀ (k : Nat) {s : St} {r : AExit × St}, aiter f keep k s = some r → ∃ n, aiter (g n) keep n s = some r
  | 0, s, r, h => by simp [aiter] at h
  | k + 1, s, r, h => by
    simp only [aiter] at h
    cases hs : f (s.keep keep) with
    | none => rw [hs] at h; cases h
    | some p =>
      obtain ⟨e, s1⟩ := p
      rw [hs] at h
      obtain ⟨n1, h1⟩ := hf _ _ hs
      have hone : ∀ r, some (e, s1) = some r → e ≠ .normal → ∃ n, aiter (g n) keep n s = some r := by
        intro r hr hne
        refine ⟨n1 + 1, ?_⟩
        simp only [aiter, hg n1 (n1 + 1) _ _ (by omega) h1]
        cases e with
        | normal => exact absurd rfl hne
        | exit id => exact hr
        | ret => exact hr
      cases e with
      | normal =>
        obtain ⟨n2, h2⟩ := aiter_lim hg hf k h
        refine ⟨max n1 n2 + 1, ?_⟩
        simp only [aiter, hg n1 (max n1 n2 + 1) _ _ (by omega) h1]
        exact aiter_mono (fun s r h => hg n2 (max n1 n2 + 1) s r (by omega) h) n2 _ (by omega) h2
      | exit id => exact hone r h (by simp)
      | ret => exact hone r h (by simp)

theorem ev_lim : ∀ (c : SCode) {s : St} {r : AExit × St}, ev (run S bar) bar c s = some r → ∃ n, acode (fuelled S bar n) bar n c s = some r
  | .skip, s, r, h => ⟨0, h⟩
  | .region ops ks, s, r, h => by
    simp only [ev, acode] at h ⊢
    obtain ⟨y, h1, rfl⟩ := map_some h
    obtain ⟨n, hn⟩ := aops_lim ops h1
    exact ⟨n, by rw [hn]; rfl⟩
  | .seq a b, s, r, h => by
    simp only [ev] at h
    cases ha : ev (run S bar) bar a s with
    | none => rw [ha] at h; cases h
    | some p =>
      obtain ⟨e, s1⟩ := p
      rw [ha] at h
      obtain ⟨n1, h1⟩ := ev_lim a ha
      cases e with
      | normal =>
        obtain ⟨n2, h2⟩ := ev_lim b h
        refine ⟨max n1 n2, ?_⟩
        simp only [acode, fuelled_mono (Nat.le_max_left n1 n2) h1]
        exact fuelled_mono (Nat.le_max_right n1 n2) h2
      | exit id => exact ⟨n1, by simp only [acode, h1]; exact h⟩
      | ret => exact ⟨n1, by simp only [acode, h1]; exact h⟩
  | .cond x a b, s, r, h => by
    simp only [ev] at h
    split at h
    · rename_i hx
      obtain ⟨n, hn⟩ := ev_lim a h
      exact ⟨n, by simp only [acode, hx]; exact hn⟩
    · rename_i hx
      obtain ⟨n, hn⟩ := ev_lim b h
      exact ⟨n, by simp only [acode, hx]; exact hn⟩
    · cases h
  | .block id b, s, r, h => by
    simp only [ev] at h
    cases hb : ev (run S bar) bar b s with
    | none => rw [hb] at h; cases h
    | some p =>
      rw [hb] at h
      obtain ⟨n1, h1⟩ := ev_lim b hb
      exact ⟨n1, by simp only [acode, h1]; exact h⟩
  | .loop ks b, s, r, h => by
    simp only [ev] at h
    obtain ⟨k, hk⟩ := lim_inv h
    simp only [acode]
    exact aiter_lim (g := fun n s => acode (fuelled S bar n) bar n b s) (fun n n' s r hn h => fuelled_mono hn h) (fun s r h => ev_lim b h) k hk
  | .exit id, s, r, h => ⟨0, h⟩
  | .ret, s, r, h => ⟨0, h⟩

/-- a function's answer, out of its body's -/
noncomputable def evBody (S : SProg) (bar : Nat) (f : SFunc) (args : List AV) (h : AHeap) : Option (AV × AHeap) :=
  if args.length = f.nparams then
    match ev (run S (f.pol.bar bar h.length)) (f.pol.bar bar h.length) f.body { env := envOf 0 args, vars := [], heap := h } with
    | some (.normal, s) | some (.ret, s) => (ares s f.results).map fun vs => f.pol.out s.heap h (packRes vs)
    | _ => none
  else none

theorem run_code {f : Nat} {sf : SFunc} (hs : S f = some (.code sf)) {as : List AV} {h : AHeap} {r : AV × AHeap} (hv : evBody S bar sf as h = some r) : run S bar f as h = some r := by
  unfold evBody at hv
  obtain ⟨h1, hv⟩ := of_ite hv
  generalize hb : sf.pol.bar bar h.length = bar' at hv
  have key : ∀ e s, ev (run S bar') bar' sf.body { env := envOf 0 as, vars := [], heap := h } = some (e, s) → (e = .normal ∨ e = .ret) → (ares s sf.results).map (fun vs => sf.pol.out s.heap h (packRes vs)) = some r → run S bar f as h = some r := by
    intro e s he hee hr
    obtain ⟨n, hn⟩ := ev_lim sf.body he
    refine run_some (n := n + 1) ?_
    simp only [arun, hs, abody, hb]
    rw [if_pos h1]
    have hn' : acode (fun g as h => arun S n bar' g as h) bar' n sf.body { env := envOf 0 as, vars := [], heap := h } = some (e, s) := hn
    rw [hn']
    rcases hee with rfl | rfl
    · exact hr
    · exact hr
  split at hv
  · rename_i s he
    exact key _ s he (.inl rfl) hv
  · rename_i s he
    exact key _ s he (.inr rfl) hv
  · cases hv

theorem run_prim {f : Nat} {p : Prim} (hs : S f = some (.prim p)) {as : List AV} {h : AHeap} {r : AV × AHeap} (hv : p bar as h = some r) : run S bar f as h = some r :=
  run_some (n := 1) (by simp only [arun, hs]; exact hv)

end
end Go.Ai
/-
  Laws by which the interpreter's equations are worked out.
-/
namespace Go.Ai
set_option linter.unusedVariables false

theorem frz_bool (h : AHeap) (n k : Nat) (b : Bool) : frz h n k (.bool b) = .bool b := by cases k <;> exact (rfl)
theorem frz_int (h : AHeap) (n k : Nat) (i : IntKind) (x : Int) : frz h n k (.int i x) = .int i x := by cases k <;> exact (rfl)
theorem frz_str (h : AHeap) (n k : Nat) (s : List UInt8) : frz h n k (.str s) = .str s := by cases k <;> exact (rfl)

theorem aops_nil (c : Caller) (bar : Nat) (s : St) : aops c bar [] s = some s := (rfl)
theorem aops_go (c : Caller) (bar : Nat) (d : Option Nat) (op : SOp) (r : List SI) (s : St) : aops c bar (⟨d, op, none⟩ :: r) s = (aop c bar s op).bind fun p => aops c bar r (p.2.set d p.1) := (rfl)
theorem aops_guard (c : Caller) (bar : Nat) (d : Option Nat) (op : SOp) (t : Nat) (w : Bool) (r : List SI) (s : St) : aops c bar (⟨d, op, some (t, w)⟩ :: r) s = match s.env.get t with
    | .bool b => if b = w then (aop c bar s op).bind fun p => aops c bar r (p.2.set d p.1) else aops c bar r (s.set d .undef)
    | .tup [] => aops c bar r (s.set d .undef)
    | _ => none := by
  simp only [aops, SI.wanted]
  split
  · rename_i h
    split at h
    · rename_i b hb
      simp at h
      subst h
      simp [hb]
    · cases h
    · cases h
  · rename_i h
    split at h
    · rename_i b hb
      simp at h
      simp [hb, h]
    · rename_i hb
      simp [hb]
    · cases h
  · rename_i h
    split at h
    · cases h
    · cases h
    · rename_i h1 h2
      split
      · rename_i b hb; exact absurd hb (h1 b)
      · rename_i hb; exact absurd hb h2
      · rfl

/-- what a body's end comes to -/
def endBody (f : SFunc) (h : AHeap) : Option (AExit × St) → Option (AV × AHeap)
  | some (.normal, s) | some (.ret, s) => (ares s f.results).map fun vs => f.pol.out s.heap h (packRes vs)
  | _ => none

theorem evBody_eq (S : SProg) (bar : Nat) (f : SFunc) (as : List AV) (h : AHeap) (hn : as.length = f.nparams) :
    evBody S bar f as h = endBody f h (ev (run S (f.pol.bar bar h.length)) (f.pol.bar bar h.length) f.body { env := envOf 0 as, vars := [], heap := h }) := by
  unfold evBody
  rw [if_pos hn]
  cases ev (run S (f.pol.bar bar h.length)) (f.pol.bar bar h.length) f.body { env := envOf 0 as, vars := [], heap := h } with
  | none => rfl
  | some p =>
    obtain ⟨e, s⟩ := p
    cases e <;> rfl

theorem varKeep_nil : ∀ ks : List Nat, varKeep [] ks = []
  | [] => rfl
  | k :: ks => by simp [varKeep, varGet, varKeep_nil ks]

/-- a loop, by its body -/
noncomputable def evL (c : Caller) (bar : Nat) (b : SCode) (keep : List Nat) (s : St) : Option (AExit × St) := evLoop (fun s => ev c bar b s) keep s

theorem evL_eq (c : Caller) (bar : Nat) (b : SCode) (keep : List Nat) (s : St) : evL c bar b keep s = match ev c bar b (s.keep keep) with
    | some (.normal, s') => evL c bar b keep s'
    | r => r := evLoop_eq _ _ _

section
variable (c : Caller) (bar : Nat) (s : St)
theorem ev_skip : ev c bar .skip s = some (.normal, s) := (rfl)
theorem ev_region (ops : List SI) (ks : Option (List Nat)) : ev c bar (.region ops ks) s = (aops c bar ops s).map fun s => (.normal, keepOpt ks s) := (rfl)
theorem ev_seq (a b : SCode) : ev c bar (.seq a b) s = match ev c bar a s with
    | some (.normal, s') => ev c bar b s'
    | r => r := (rfl)
theorem ev_cond (x : SOpd) (a b : SCode) : ev c bar (.cond x a b) s = match s.val x with
    | .bool true => ev c bar a s
    | .bool false => ev c bar b s
    | _ => none := (rfl)
theorem ev_block (id : Nat) (b : SCode) : ev c bar (.block id b) s = match ev c bar b s with
    | some (.exit id', s') => if id' = id then some (.normal, s') else some (.exit id', s')
    | r => r := (rfl)
theorem ev_loop (ks : List Nat) (b : SCode) : ev c bar (.loop ks b) s = evL c bar b ks s := (rfl)
theorem ev_exit (id : Nat) : ev c bar (.exit id) s = some (.exit id, s) := (rfl)
theorem ev_ret : ev c bar .ret s = some (.ret, s) := (rfl)
end

theorem plain_bool (b : Bool) : AV.plain (.bool b) = .bool b := (rfl)
theorem plain_int (k : IntKind) (n : Int) : AV.plain (.int k n) = .int k n := (rfl)
theorem plain_str (s : List UInt8) : AV.plain (.str s) = .str s := (rfl)
theorem plain_nilp  : AV.plain (.nilp) = .nilp := (rfl)
theorem plain_hptr (b bl i o : Nat) : AV.plain (.hptr b bl i o) = .hptr b bl i o := (rfl)
theorem plain_iptr (cs : List AV) (o : Nat) : AV.plain (.iptr cs o) = .iptr cs o := (rfl)
theorem plain_nils  : AV.plain (.nils) = .nils := (rfl)
theorem plain_hsl (b bl i l z : Nat) (c : Option Nat) : AV.plain (.hsl b bl i l z c) = .hsl b bl i l z c := (rfl)
theorem plain_isl (e : List (List AV)) (z : Nat) (c : Option Nat) : AV.plain (.isl e z c) = .isl e z c := (rfl)
theorem plain_nilm  : AV.plain (.nilm) = .nilm := (rfl)
theorem plain_hmap (b : Nat) : AV.plain (.hmap b) = .hmap b := (rfl)
theorem plain_fn (f : Nat) (a c : List AV) : AV.plain (.fn f a c) = .fn f a c := (rfl)
theorem plain_nilf  : AV.plain (.nilf) = .nilf := (rfl)
theorem plain_ifc (t : Nat) (v : AV) : AV.plain (.ifc t v) = .ifc t v := (rfl)
theorem plain_nili  : AV.plain (.nili) = .nili := (rfl)
theorem plain_agg (l : List AV) : AV.plain (.agg l) = .agg l := (rfl)
theorem plain_tup (l : List AV) : AV.plain (.tup l) = .tup l := (rfl)
theorem plain_junk  : AV.plain (.junk) = .junk := (rfl)
theorem plain_lptr (d o : Nat) : AV.plain (.lptr d o) = .junk := (rfl)

theorem envClean_nil (vs : List (Nat × LVar)) : envClean vs [] = [] := (rfl)
theorem envClean_plain (vs : List (Nat × LVar)) (t : Nat) (v : AV) (r : AEnv) (h : v.plain = v) : envClean vs ((t, v) :: r) = (t, v) :: envClean vs r := by
  cases v <;> first | rfl | (cases h; done)
theorem envClean_lptr' (vs : List (Nat × LVar)) (t d o : Nat) (r : AEnv) : envClean vs ((t, .lptr d o) :: r) = match varGet vs d with
    | some _ => (t, .lptr d o) :: envClean vs r
    | none => (t, .junk) :: envClean vs r := (rfl)

theorem ok_any (v : AV) : Mode.ok .any v = true := by cases v <;> rfl
theorem ok_imm (cs : List AV) (o : Nat) : Mode.ok .imm (.iptr cs o) = true := (rfl)
theorem ok_own (d o : Nat) : Mode.ok .own (.lptr d o) = true := (rfl)
theorem ok_heap (b bl i o : Nat) : Mode.ok .heap (.hptr b bl i o) = true := (rfl)
theorem ok_heapi (cs : List AV) (o : Nat) : Mode.ok .heap (.iptr cs o) = true := (rfl)

theorem aload_lptr (s : St) (n : Option Nat) (d o : Nat) : aload s n (.lptr d o) = match varGet s.vars d with
    | some (.cells cs) => apart n cs o
    | _ => none := by
  unfold aload
  simp only
  cases varGet s.vars d with
  | none => rfl
  | some v => cases v <;> cases n <;> rfl
theorem aload_iptr (s : St) (n : Option Nat) (cs : List AV) (o : Nat) : aload s n (.iptr cs o) = apart n cs o := by
  cases n <;> rfl


/-! ### Which laws work by themselves: what is to be worked out first stands alone under its head; code and what follows is left as it is -/
@[congr] theorem ev_congr {c : Caller} {bar : Nat} {b : SCode} {s s' : St} (h : s = s') : ev c bar b s = ev c bar b s' := by rw [h]
@[congr] theorem evL_congr {c : Caller} {bar : Nat} {b : SCode} {ks : List Nat} {s s' : St} (h : s = s') : evL c bar b ks s = evL c bar b ks s' := by rw [h]
@[congr] theorem aops_congr {c : Caller} {bar : Nat} {l : List SI} {s s' : St} (h : s = s') : aops c bar l s = aops c bar l s' := by rw [h]
@[congr] theorem aop_congr {c : Caller} {bar : Nat} {o : SOp} {s s' : St} (h : s = s') : aop c bar s o = aop c bar s' o := by rw [h]

def goK (c : Caller) (bar : Nat) (d : Option Nat) (r : List SI) (x : Option (AV × St)) : Option St := x.bind fun p => aops c bar r (p.2.set d p.1)
@[congr] theorem goK_congr {c : Caller} {bar : Nat} {d : Option Nat} {r : List SI} {x y : Option (AV × St)} (h : x = y) : goK c bar d r x = goK c bar d r y := by rw [h]
@[simp] theorem goK_some (c : Caller) (bar : Nat) (d : Option Nat) (r : List SI) (v : AV) (s : St) : goK c bar d r (some (v, s)) = aops c bar r (s.set d v) := (rfl)
@[simp] theorem goK_none (c : Caller) (bar : Nat) (d : Option Nat) (r : List SI) : goK c bar d r none = none := (rfl)
@[simp] theorem aops_goK (c : Caller) (bar : Nat) (d : Option Nat) (op : SOp) (r : List SI) (s : St) : aops c bar (⟨d, op, none⟩ :: r) s = goK c bar d r (aop c bar s op) := (rfl)

/-- a guarded operation -/
def gdK (c : Caller) (bar : Nat) (d : Option Nat) (op : SOp) (w : Bool) (r : List SI) (s : St) (g : AV) : Option St := match g with
    | .bool b => if b = w then goK c bar d r (aop c bar s op) else aops c bar r (s.set d .undef)
    | .tup [] => aops c bar r (s.set d .undef)
    | _ => none
@[congr] theorem gdK_congr {c : Caller} {bar : Nat} {d : Option Nat} {op : SOp} {w : Bool} {r : List SI} {s : St} {g g' : AV} (h : g = g') : gdK c bar d op w r s g = gdK c bar d op w r s g' := by rw [h]
@[simp] theorem aops_gdK (c : Caller) (bar : Nat) (d : Option Nat) (op : SOp) (t : Nat) (w : Bool) (r : List SI) (s : St) : aops c bar (⟨d, op, some (t, w)⟩ :: r) s = gdK c bar d op w r s (s.env.get t) := aops_guard c bar d op t w r s
@[simp] theorem gdK_tt (c : Caller) (bar : Nat) (d : Option Nat) (op : SOp) (r : List SI) (s : St) : gdK c bar d op true r s (.bool true) = goK c bar d r (aop c bar s op) := (rfl)
@[simp] theorem gdK_ff (c : Caller) (bar : Nat) (d : Option Nat) (op : SOp) (r : List SI) (s : St) : gdK c bar d op false r s (.bool false) = goK c bar d r (aop c bar s op) := (rfl)
@[simp] theorem gdK_tf (c : Caller) (bar : Nat) (d : Option Nat) (op : SOp) (r : List SI) (s : St) : gdK c bar d op true r s (.bool false) = aops c bar r (s.set d .undef) := (rfl)
@[simp] theorem gdK_ft (c : Caller) (bar : Nat) (d : Option Nat) (op : SOp) (r : List SI) (s : St) : gdK c bar d op false r s (.bool true) = aops c bar r (s.set d .undef) := (rfl)
@[simp] theorem gdK_u (c : Caller) (bar : Nat) (d : Option Nat) (op : SOp) (w : Bool) (r : List SI) (s : St) : gdK c bar d op w r s (.tup []) = aops c bar r (s.set d .undef) := (rfl)

def regK (ks : Option (List Nat)) (x : Option St) : Option (AExit × St) := x.map fun s => (.normal, keepOpt ks s)
@[simp] theorem regK_some (ks : Option (List Nat)) (s : St) : regK ks (some s) = some (.normal, keepOpt ks s) := (rfl)
@[simp] theorem regK_none (ks : Option (List Nat)) : regK ks none = none := (rfl)
@[simp] theorem ev_regK (c : Caller) (bar : Nat) (s : St) (ops : List SI) (ks : Option (List Nat)) : ev c bar (.region ops ks) s = regK ks (aops c bar ops s) := (rfl)

noncomputable def seqK (c : Caller) (bar : Nat) (b : SCode) (x : Option (AExit × St)) : Option (AExit × St) := match x with
    | some (.normal, s') => ev c bar b s'
    | r => r
@[congr] theorem seqK_congr {c : Caller} {bar : Nat} {b : SCode} {x y : Option (AExit × St)} (h : x = y) : seqK c bar b x = seqK c bar b y := by rw [h]
@[simp] theorem seqK_n (c : Caller) (bar : Nat) (b : SCode) (s : St) : seqK c bar b (some (.normal, s)) = ev c bar b s := (rfl)
@[simp] theorem seqK_r (c : Caller) (bar : Nat) (b : SCode) (s : St) : seqK c bar b (some (.ret, s)) = some (.ret, s) := (rfl)
@[simp] theorem seqK_e (c : Caller) (bar : Nat) (b : SCode) (i : Nat) (s : St) : seqK c bar b (some (.exit i, s)) = some (.exit i, s) := (rfl)
@[simp] theorem seqK_0 (c : Caller) (bar : Nat) (b : SCode) : seqK c bar b none = none := (rfl)
@[simp] theorem ev_seqK (c : Caller) (bar : Nat) (s : St) (a b : SCode) : ev c bar (.seq a b) s = seqK c bar b (ev c bar a s) := (rfl)

noncomputable def condK (c : Caller) (bar : Nat) (a b : SCode) (s : St) (g : AV) : Option (AExit × St) := match g with
    | .bool true => ev c bar a s
    | .bool false => ev c bar b s
    | _ => none
@[congr] theorem condK_congr {c : Caller} {bar : Nat} {a b : SCode} {s : St} {g g' : AV} (h : g = g') : condK c bar a b s g = condK c bar a b s g' := by rw [h]
@[simp] theorem condK_t (c : Caller) (bar : Nat) (a b : SCode) (s : St) : condK c bar a b s (.bool true) = ev c bar a s := (rfl)
@[simp] theorem condK_f (c : Caller) (bar : Nat) (a b : SCode) (s : St) : condK c bar a b s (.bool false) = ev c bar b s := (rfl)
@[simp] theorem ev_condK (c : Caller) (bar : Nat) (s : St) (x : SOpd) (a b : SCode) : ev c bar (.cond x a b) s = condK c bar a b s (s.val x) := (rfl)
/-- both roads, by a test -/
theorem condK_ite (c : Caller) (bar : Nat) (a b : SCode) (s : St) (p : Bool) : condK c bar a b s (.bool p) = if p = true then ev c bar a s else ev c bar b s := by cases p <;> rfl

def blkK (id : Nat) (x : Option (AExit × St)) : Option (AExit × St) := match x with
    | some (.exit id', s') => if id' = id then some (.normal, s') else some (.exit id', s')
    | r => r
@[simp] theorem blkK_n (id : Nat) (s : St) : blkK id (some (.normal, s)) = some (.normal, s) := (rfl)
@[simp] theorem blkK_r (id : Nat) (s : St) : blkK id (some (.ret, s)) = some (.ret, s) := (rfl)
@[simp] theorem blkK_e (id i : Nat) (s : St) : blkK id (some (.exit i, s)) = if i = id then some (.normal, s) else some (.exit i, s) := (rfl)
@[simp] theorem blkK_0 (id : Nat) : blkK id none = none := (rfl)
@[simp] theorem ev_blkK (c : Caller) (bar : Nat) (s : St) (id : Nat) (b : SCode) : ev c bar (.block id b) s = blkK id (ev c bar b s) := (rfl)

/-- one round of a loop -/
noncomputable def rndK (c : Caller) (bar : Nat) (b : SCode) (ks : List Nat) (x : Option (AExit × St)) : Option (AExit × St) := match x with
    | some (.normal, s') => evL c bar b ks s'
    | r => r
@[congr] theorem rndK_congr {c : Caller} {bar : Nat} {b : SCode} {ks : List Nat} {x y : Option (AExit × St)} (h : x = y) : rndK c bar b ks x = rndK c bar b ks y := by rw [h]
@[simp] theorem rndK_n (c : Caller) (bar : Nat) (b : SCode) (ks : List Nat) (s : St) : rndK c bar b ks (some (.normal, s)) = evL c bar b ks s := (rfl)
@[simp] theorem rndK_r (c : Caller) (bar : Nat) (b : SCode) (ks : List Nat) (s : St) : rndK c bar b ks (some (.ret, s)) = some (.ret, s) := (rfl)
@[simp] theorem rndK_e (c : Caller) (bar : Nat) (b : SCode) (ks : List Nat) (i : Nat) (s : St) : rndK c bar b ks (some (.exit i, s)) = some (.exit i, s) := (rfl)
@[simp] theorem rndK_0 (c : Caller) (bar : Nat) (b : SCode) (ks : List Nat) : rndK c bar b ks none = none := (rfl)
theorem evL_rnd (c : Caller) (bar : Nat) (b : SCode) (ks : List Nat) (s : St) : evL c bar b ks s = rndK c bar b ks (ev c bar b (s.keep ks)) := evL_eq c bar b ks s

attribute [simp] ev_skip ev_loop ev_exit ev_ret aops_nil
attribute [simp] St.raw St.val AEnv.get St.set envPut envOf keepOpt St.keep envKeep varKeep_nil varKeep varGet varSet envClean_nil envClean_lptr' St.pure St.newVar
attribute [simp] plain_bool plain_int plain_str plain_nilp plain_hptr plain_iptr plain_nils plain_hsl plain_isl plain_nilm plain_hmap plain_fn plain_nilf plain_ifc plain_nili plain_agg plain_tup plain_junk plain_lptr
attribute [simp] ok_any ok_imm ok_own ok_heap ok_heapi aload_lptr aload_iptr frz_bool frz_int frz_str endBody ares packRes Pol.out Pol.bar AV.undef apart afaddr setSeg

section
variable (vs : List (Nat × LVar)) (t : Nat) (r : AEnv)
@[simp] theorem clean_bool (b : Bool) : envClean vs ((t, .bool b) :: r) = (t, .bool b) :: envClean vs r := (rfl)
@[simp] theorem clean_int (k : IntKind) (n : Int) : envClean vs ((t, .int k n) :: r) = (t, .int k n) :: envClean vs r := (rfl)
@[simp] theorem clean_str (s : List UInt8) : envClean vs ((t, .str s) :: r) = (t, .str s) :: envClean vs r := (rfl)
@[simp] theorem clean_nilp : envClean vs ((t, .nilp) :: r) = (t, .nilp) :: envClean vs r := (rfl)
@[simp] theorem clean_hptr (b bl i o : Nat) : envClean vs ((t, .hptr b bl i o) :: r) = (t, .hptr b bl i o) :: envClean vs r := (rfl)
@[simp] theorem clean_iptr (cs : List AV) (o : Nat) : envClean vs ((t, .iptr cs o) :: r) = (t, .iptr cs o) :: envClean vs r := (rfl)
@[simp] theorem clean_nils : envClean vs ((t, .nils) :: r) = (t, .nils) :: envClean vs r := (rfl)
@[simp] theorem clean_hsl (b bl i l z : Nat) (c : Option Nat) : envClean vs ((t, .hsl b bl i l z c) :: r) = (t, .hsl b bl i l z c) :: envClean vs r := (rfl)
@[simp] theorem clean_isl (e : List (List AV)) (z : Nat) (c : Option Nat) : envClean vs ((t, .isl e z c) :: r) = (t, .isl e z c) :: envClean vs r := (rfl)
@[simp] theorem clean_nilm : envClean vs ((t, .nilm) :: r) = (t, .nilm) :: envClean vs r := (rfl)
@[simp] theorem clean_hmap (b : Nat) : envClean vs ((t, .hmap b) :: r) = (t, .hmap b) :: envClean vs r := (rfl)
@[simp] theorem clean_fn (f : Nat) (a c : List AV) : envClean vs ((t, .fn f a c) :: r) = (t, .fn f a c) :: envClean vs r := (rfl)
@[simp] theorem clean_nilf : envClean vs ((t, .nilf) :: r) = (t, .nilf) :: envClean vs r := (rfl)
@[simp] theorem clean_ifc (k : Nat) (v : AV) : envClean vs ((t, .ifc k v) :: r) = (t, .ifc k v) :: envClean vs r := (rfl)
@[simp] theorem clean_nili : envClean vs ((t, .nili) :: r) = (t, .nili) :: envClean vs r := (rfl)
@[simp] theorem clean_agg (l : List AV) : envClean vs ((t, .agg l) :: r) = (t, .agg l) :: envClean vs r := (rfl)
@[simp] theorem clean_tup (l : List AV) : envClean vs ((t, .tup l) :: r) = (t, .tup l) :: envClean vs r := (rfl)
@[simp] theorem clean_junk : envClean vs ((t, .junk) :: r) = (t, .junk) :: envClean vs r := (rfl)
end

@[simp] theorem one_bool (b : Bool) : AV.one (.bool b) = true := (rfl)
@[simp] theorem cells_bool (b : Bool) : AV.cells (.bool b) = [(.bool b)] := (rfl)
@[simp] theorem one_int (k : IntKind) (n : Int) : AV.one (.int k n) = true := (rfl)
@[simp] theorem cells_int (k : IntKind) (n : Int) : AV.cells (.int k n) = [(.int k n)] := (rfl)
@[simp] theorem one_str (s : List UInt8) : AV.one (.str s) = true := (rfl)
@[simp] theorem cells_str (s : List UInt8) : AV.cells (.str s) = [(.str s)] := (rfl)
@[simp] theorem one_nilp  : AV.one .nilp = true := (rfl)
@[simp] theorem cells_nilp  : AV.cells .nilp = [.nilp] := (rfl)
@[simp] theorem one_hptr (b bl i o : Nat) : AV.one (.hptr b bl i o) = true := (rfl)
@[simp] theorem cells_hptr (b bl i o : Nat) : AV.cells (.hptr b bl i o) = [(.hptr b bl i o)] := (rfl)
@[simp] theorem one_iptr (cs : List AV) (o : Nat) : AV.one (.iptr cs o) = true := (rfl)
@[simp] theorem cells_iptr (cs : List AV) (o : Nat) : AV.cells (.iptr cs o) = [(.iptr cs o)] := (rfl)
@[simp] theorem one_lptr (d o : Nat) : AV.one (.lptr d o) = false := (rfl)
@[simp] theorem cells_lptr (d o : Nat) : AV.cells (.lptr d o) = [(.lptr d o)] := (rfl)
@[simp] theorem one_nils  : AV.one .nils = true := (rfl)
@[simp] theorem cells_nils  : AV.cells .nils = [.nils] := (rfl)
@[simp] theorem one_hsl (b bl i l z : Nat) (c : Option Nat) : AV.one (.hsl b bl i l z c) = true := (rfl)
@[simp] theorem cells_hsl (b bl i l z : Nat) (c : Option Nat) : AV.cells (.hsl b bl i l z c) = [(.hsl b bl i l z c)] := (rfl)
@[simp] theorem one_isl (e : List (List AV)) (z : Nat) (c : Option Nat) : AV.one (.isl e z c) = true := (rfl)
@[simp] theorem cells_isl (e : List (List AV)) (z : Nat) (c : Option Nat) : AV.cells (.isl e z c) = [(.isl e z c)] := (rfl)
@[simp] theorem one_nilm  : AV.one .nilm = true := (rfl)
@[simp] theorem cells_nilm  : AV.cells .nilm = [.nilm] := (rfl)
@[simp] theorem one_hmap (b : Nat) : AV.one (.hmap b) = true := (rfl)
@[simp] theorem cells_hmap (b : Nat) : AV.cells (.hmap b) = [(.hmap b)] := (rfl)
@[simp] theorem one_fn (f : Nat) (a c : List AV) : AV.one (.fn f a c) = true := (rfl)
@[simp] theorem cells_fn (f : Nat) (a c : List AV) : AV.cells (.fn f a c) = [(.fn f a c)] := (rfl)
@[simp] theorem one_nilf  : AV.one .nilf = true := (rfl)
@[simp] theorem cells_nilf  : AV.cells .nilf = [.nilf] := (rfl)
@[simp] theorem one_ifc (t : Nat) (v : AV) : AV.one (.ifc t v) = true := (rfl)
@[simp] theorem cells_ifc (t : Nat) (v : AV) : AV.cells (.ifc t v) = [(.ifc t v)] := (rfl)
@[simp] theorem one_nili  : AV.one .nili = true := (rfl)
@[simp] theorem cells_nili  : AV.cells .nili = [.nili] := (rfl)
@[simp] theorem one_agg (l : List AV) : AV.one (.agg l) = false := (rfl)
@[simp] theorem cells_agg (l : List AV) : AV.cells (.agg l) = l := (rfl)
@[simp] theorem one_tup (l : List AV) : AV.one (.tup l) = false := (rfl)
@[simp] theorem cells_tup (l : List AV) : AV.cells (.tup l) = [(.tup l)] := (rfl)
@[simp] theorem one_junk  : AV.one .junk = false := (rfl)
@[simp] theorem cells_junk  : AV.cells .junk = [.junk] := (rfl)

/-- fuel for what is frozen, seen from above -/
def FZ0 : Nat := 990
@[simp] theorem FZ_eq : FZ = FZ0 + 10 := (rfl)

section
variable (h : AHeap) (n k : Nat)
@[simp] theorem frz_nilp : frz h n (k + 1) .nilp = .nilp := (rfl)
@[simp] theorem frz_nils : frz h n (k + 1) .nils = .nils := (rfl)
@[simp] theorem frz_nilm : frz h n (k + 1) .nilm = .nilm := (rfl)
@[simp] theorem frz_nilf : frz h n (k + 1) .nilf = .nilf := (rfl)
@[simp] theorem frz_nili : frz h n (k + 1) .nili = .nili := (rfl)
@[simp] theorem frz_junk : frz h n (k + 1) .junk = .junk := (rfl)
@[simp] theorem frz_isl (e : List (List AV)) (z : Nat) (c : Option Nat) : frz h n (k + 1) (.isl e z c) = .isl (e.map fun x => x.map (frz h n k)) z c := (rfl)
@[simp] theorem frz_iptr (cs : List AV) (o : Nat) : frz h n (k + 1) (.iptr cs o) = .iptr (cs.map (frz h n k)) o := (rfl)
@[simp] theorem frz_tup (cs : List AV) : frz h n (k + 1) (.tup cs) = .tup (cs.map (frz h n k)) := (rfl)
@[simp] theorem frz_agg (cs : List AV) : frz h n (k + 1) (.agg cs) = .agg (cs.map (frz h n k)) := (rfl)
@[simp] theorem frz_fn (f : Nat) (a c : List AV) : frz h n (k + 1) (.fn f a c) = .fn f (a.map (frz h n k)) (c.map (frz h n k)) := (rfl)
theorem frz_hsl (b bl i len sz : Nat) (cap : Option Nat) : frz h n (k + 1) (.hsl b bl i len sz cap) = if b < n then .hsl b bl i len sz cap else match h[b]? with
      | some (.row sz' els) => if els.length = bl ∧ sz' = sz ∧ i + len ≤ els.length then .isl (((els.drop i).take len).map fun e => e.map (frz h n k)) sz cap else .junk
      | _ => .junk := (rfl)
theorem frz_hptr (b bl i o : Nat) : frz h n (k + 1) (.hptr b bl i o) = if b < n then .hptr b bl i o else match h[b]? with
      | some (.row _ els) => if els.length = bl then (match els[i]? with | some cs => .iptr (cs.map (frz h n k)) o | none => .junk) else .junk
      | _ => .junk := (rfl)
end

section
variable (σ : Nat → Option Nat) (h : AHeap) (k : Nat)
@[simp] theorem ren_bool (b : Bool) : ren σ h k (.bool b) = .bool b := by cases k <;> exact (rfl)
@[simp] theorem ren_int (i : IntKind) (x : Int) : ren σ h k (.int i x) = .int i x := by cases k <;> exact (rfl)
@[simp] theorem ren_str (s : List UInt8) : ren σ h k (.str s) = .str s := by cases k <;> exact (rfl)
@[simp] theorem ren_nilp : ren σ h (k + 1) .nilp = .nilp := (rfl)
@[simp] theorem ren_nils : ren σ h (k + 1) .nils = .nils := (rfl)
@[simp] theorem ren_nilm : ren σ h (k + 1) .nilm = .nilm := (rfl)
@[simp] theorem ren_nilf : ren σ h (k + 1) .nilf = .nilf := (rfl)
@[simp] theorem ren_nili : ren σ h (k + 1) .nili = .nili := (rfl)
@[simp] theorem ren_junk : ren σ h (k + 1) .junk = .junk := (rfl)
@[simp] theorem ren_isl (e : List (List AV)) (z : Nat) (c : Option Nat) : ren σ h (k + 1) (.isl e z c) = .isl (e.map fun x => x.map (ren σ h k)) z c := (rfl)
@[simp] theorem ren_iptr (cs : List AV) (o : Nat) : ren σ h (k + 1) (.iptr cs o) = .iptr (cs.map (ren σ h k)) o := (rfl)
@[simp] theorem ren_tup (cs : List AV) : ren σ h (k + 1) (.tup cs) = .tup (cs.map (ren σ h k)) := (rfl)
@[simp] theorem ren_agg (cs : List AV) : ren σ h (k + 1) (.agg cs) = .agg (cs.map (ren σ h k)) := (rfl)
@[simp] theorem ren_fn (f : Nat) (a c : List AV) : ren σ h (k + 1) (.fn f a c) = .fn f (a.map (ren σ h k)) (c.map (ren σ h k)) := (rfl)
theorem ren_hsl (b bl i len sz : Nat) (cap : Option Nat) : ren σ h (k + 1) (.hsl b bl i len sz cap) = match σ b with
      | some c => .hsl c bl i len sz cap
      | none => match h[b]? with
        | some (.row sz' els) => if els.length = bl ∧ sz' = sz ∧ i + len ≤ els.length then .isl (((els.drop i).take len).map fun e => e.map (ren σ h k)) sz cap else .junk
        | _ => .junk := (rfl)
theorem ren_hptr (b bl i o : Nat) : ren σ h (k + 1) (.hptr b bl i o) = match σ b with
      | some c => .hptr c bl i o
      | none => match h[b]? with
        | some (.row _ els) => if els.length = bl then (match els[i]? with | some cs => .iptr (cs.map (ren σ h k)) o | none => .junk) else .junk
        | _ => .junk := (rfl)
end

theorem astore_lptr (env : AEnv) (vars : List (Nat × LVar)) (h : AHeap) (bar n d off : Nat) (v : AV) : astore ⟨env, vars, h⟩ bar n (.lptr d off) v =
    if v.cells.length = n ∧ v.cells.all AV.one = true then match varGet vars d with
      | some (.cells cs) => if off + n ≤ cs.length then some ⟨env, varSet vars d (.cells (setSeg cs off v.cells)), h⟩ else none
      | _ => none
    else none := by
  simp only [astore]
  cases varGet vars d with
  | none => rfl
  | some v => cases v <;> rfl
theorem astore_hptr (env : AEnv) (vars : List (Nat × LVar)) (h : AHeap) (bar n b bl i off : Nat) (v : AV) : astore ⟨env, vars, h⟩ bar n (.hptr b bl i off) v =
    if v.cells.length = n ∧ v.cells.all AV.one = true then match h[b]? with
      | some (.row sz els) => if els.length = bl ∧ bar ≤ b then
          (els[i]?).bind fun cs => if off + n ≤ cs.length then some ⟨env, vars, h.set b (.row sz (els.set i (setSeg cs off v.cells)))⟩ else none
          else none
      | _ => none
    else none := by
  simp only [astore]
  cases h[b]? with
  | none => rfl
  | some v => cases v <;> rfl
attribute [simp] astore_lptr astore_hptr

section
variable (n k : Nat)
@[simp] theorem low_bool (b : Bool) : AV.low n k (.bool b) = true := by cases k <;> rfl
@[simp] theorem low_int (i : IntKind) (x : Int) : AV.low n k (.int i x) = true := by cases k <;> rfl
@[simp] theorem low_str (s : List UInt8) : AV.low n k (.str s) = true := by cases k <;> rfl
@[simp] theorem low_nilp : AV.low n k .nilp = true := by cases k <;> rfl
@[simp] theorem low_nils : AV.low n k .nils = true := by cases k <;> rfl
@[simp] theorem low_hptr (b bl i o : Nat) : AV.low n (k + 1) (.hptr b bl i o) = decide (b < n) := (rfl)
@[simp] theorem low_hsl (b bl i l z : Nat) (c : Option Nat) : AV.low n (k + 1) (.hsl b bl i l z c) = decide (b < n) := (rfl)
@[simp] theorem low_isl (e : List (List AV)) (z : Nat) (c : Option Nat) : AV.low n (k + 1) (.isl e z c) = e.all fun x => x.all (AV.low n k) := (rfl)
@[simp] theorem low_iptr (cs : List AV) (o : Nat) : AV.low n (k + 1) (.iptr cs o) = cs.all (AV.low n k) := (rfl)
end

/-! ### Slices that are never written -/
inductive Slc (α : Type) where
  | nil
  | mk (l : List α) (cap : Option Nat) (h : l.length ≤ LIM)

namespace Slc
variable {α : Type} (E : α → List AV) (sz : Nat) (h : AHeap)
def l : Slc α → List α
  | .nil => []
  | .mk l _ _ => l
def av : Slc α → AV
  | .nil => .nils
  | .mk l c _ => .isl (l.map E) sz c
def isNil : Slc α → Bool
  | .nil => true
  | .mk _ _ _ => false
theorem av_nil : (Slc.nil : Slc α).av E sz = .nils := (rfl)
theorem av_mk (l : List α) (c : Option Nat) (h : l.length ≤ LIM) : (Slc.mk l c h).av E sz = .isl (l.map E) sz c := (rfl)
@[simp] theorem l_nil : (Slc.nil : Slc α).l = [] := (rfl)
@[simp] theorem l_mk (l : List α) (c : Option Nat) (h : l.length ≤ LIM) : (Slc.mk l c h).l = l := (rfl)
variable (s : Slc α)
theorem le : s.l.length ≤ LIM := by cases s <;> simp_all [l]
@[simp] theorem plain_av : (s.av E sz).plain = s.av E sz := by cases s <;> rfl
@[simp] theorem one_av : (s.av E sz).one = true := by cases s <;> rfl
@[simp] theorem cells_av : (s.av E sz).cells = [s.av E sz] := by cases s <;> rfl
@[simp] theorem clean_av (vs : List (Nat × LVar)) (t : Nat) (r : AEnv) : envClean vs ((t, s.av E sz) :: r) = (t, s.av E sz) :: envClean vs r := by cases s <;> rfl
@[simp] theorem szOk_av : szOk sz (s.av E sz) = true := by cases s <;> simp [av, szOk]
@[simp] theorem len_av : alen h none .slice (s.av E sz) = some (s.l.length : Int) := by cases s <;> simp [av, alen, l]
@[simp] theorem els_av : sliceEls h sz (s.av E sz) = some (s.l.map E) := by cases s <;> simp [av, sliceEls, l]
@[simp] theorem iaddr_av (i : Nat) : aiaddr h none sz (s.av E sz) (i : Int) = (s.l[i]?).map fun x => .iptr (E x) 0 := by
  cases s with
  | nil => simp [av, aiaddr, l]
  | mk l c => simp [av, aiaddr, Slc.l, Function.comp_def]
@[simp] theorem iaddr0_av : aiaddr h none sz (s.av E sz) 0 = (s.l[0]?).map fun x => .iptr (E x) 0 := iaddr_av E sz h s 0
@[simp] theorem eqn_av : aeqK .slice (s.av E sz) .nils = some s.isNil := by cases s <;> rfl
@[simp] theorem neq_av : aeqK .slice .nils (s.av E sz) = some s.isNil := by cases s <;> rfl
@[simp] theorem frz_av (n k : Nat) : frz h n (k + 1) (s.av E sz) = s.av (fun x => (E x).map (frz h n k)) sz := by cases s <;> simp [av]
@[simp] theorem ren_av (σ : Nat → Option Nat) (k : Nat) : ren σ h (k + 1) (s.av E sz) = s.av (fun x => (E x).map (ren σ h k)) sz := by cases s <;> simp [av]
@[simp] theorem low_av (n k : Nat) : AV.low n (k + 1) (s.av E sz) = s.l.all fun x => (E x).all (AV.low n k) := by cases s <;> simp [av, AV.low, l, Function.comp_def]
end Slc

section
variable (k : IntKind) (a b : Int) (x y : List UInt8)
@[simp] theorem aint_add : aint .add k a b = some (.int k (k.wrap (a + b))) := (rfl)
@[simp] theorem aint_sub : aint .sub k a b = some (.int k (k.wrap (a - b))) := (rfl)
@[simp] theorem aint_mul : aint .mul k a b = some (.int k (k.wrap (a * b))) := (rfl)
@[simp] theorem aint_quo : aint .quo k a b = if b = 0 then none else some (.int k (k.wrap (a.tdiv b))) := (rfl)
@[simp] theorem aint_rem : aint .rem k a b = if b = 0 then none else some (.int k (a.tmod b)) := (rfl)
theorem beq_dec {α : Type} [BEq α] [LawfulBEq α] [DecidableEq α] (a b : α) : (a == b) = decide (a = b) := by
  by_cases h : a = b
  · subst h; simp
  · have : (a == b) = false := by simpa using h
    simp [h, this]
@[simp] theorem aint_eql : aint .eql k a b = some (.bool (decide (a = b))) := by rw [← beq_dec a b]; rfl
@[simp] theorem aint_neq : aint .neq k a b = some (.bool (decide (¬ a = b))) := by rw [decide_not, ← beq_dec a b]; rfl
@[simp] theorem aint_lss : aint .lss k a b = some (.bool (decide (a < b))) := (rfl)
@[simp] theorem aint_leq : aint .leq k a b = some (.bool (decide (a ≤ b))) := (rfl)
@[simp] theorem aint_gtr : aint .gtr k a b = some (.bool (decide (b < a))) := (rfl)
@[simp] theorem aint_geq : aint .geq k a b = some (.bool (decide (b ≤ a))) := (rfl)
@[simp] theorem astr_eql : astr .eql x y = some (.bool (decide (x = y))) := by rw [← beq_dec x y]; rfl
@[simp] theorem astr_neq : astr .neq x y = some (.bool (decide (¬ x = y))) := by rw [decide_not, ← beq_dec x y]; rfl
@[simp] theorem astr_lss : astr .lss x y = some (.bool (Op.bytesLess x y)) := (rfl)
end
attribute [simp] abin aop


section
variable (h : AHeap) (n sz : Nat) (e : List (List AV)) (c : Option Nat) (s : List UInt8)
@[simp] theorem alen_arr (k : TK) (x : AV) : alen h (some n) k x = some (n : Int) := (rfl)
@[simp] theorem alen_str : alen h none .str (.str s) = some (s.length : Int) := (rfl)
@[simp] theorem alen_nils : alen h none .slice .nils = some 0 := (rfl)
@[simp] theorem alen_isl : alen h none .slice (.isl e sz c) = some (e.length : Int) := (rfl)
@[simp] theorem alen_hsl (b bl i l : Nat) : alen h none .slice (.hsl b bl i l sz c) = some (l : Int) := (rfl)
@[simp] theorem alen_nilm : alen h none .map .nilm = some 0 := (rfl)
@[simp] theorem aidx_str (i : Nat) : aidx none (.str s) (i : Int) = (s[i]?).map fun b => .int .u8 (b.toNat : Int) := by simp [aidx]
@[simp] theorem aidx_str0 : aidx none (.str s) 0 = (s[0]?).map fun b => .int .u8 (b.toNat : Int) := aidx_str s 0
@[simp] theorem aiaddr_isl (i : Nat) : aiaddr h none sz (.isl e sz c) (i : Int) = (e[i]?).map fun x => .iptr x 0 := by simp [aiaddr]
@[simp] theorem aiaddr_isl0 : aiaddr h none sz (.isl e sz c) 0 = (e[0]?).map fun x => .iptr x 0 := aiaddr_isl h sz e c 0
theorem aiaddr_hsl (i : Nat) (b bl o l : Nat) : aiaddr h none sz (.hsl b bl o l sz c) (i : Int) = if i < l then (heapRow h b bl sz).bind fun els => if o + l ≤ els.length then some (.hptr b bl (o + i) 0) else none else none := by simp [aiaddr]
@[simp] theorem aun_not (b : Bool) : aun .not (.bool b) = some (.bool !b) := (rfl)
@[simp] theorem aun_neg (k : IntKind) (x : Int) : aun .neg (.int k x) = some (.int k (k.wrap (0 - x))) := (rfl)
@[simp] theorem szOk_isl : szOk sz (.isl e sz c) = true := by simp [szOk]
@[simp] theorem szOk_hsl (b bl i l : Nat) : szOk sz (.hsl b bl i l sz c) = true := by simp [szOk]
@[simp] theorem szOk_nils : szOk sz .nils = true := (rfl)
@[simp] theorem szOk_str : szOk sz (.str s) = true := (rfl)
@[simp] theorem els_isl : sliceEls h sz (.isl e sz c) = some e := by simp [sliceEls]
@[simp] theorem els_nils : sliceEls h sz .nils = some [] := (rfl)
@[simp] theorem els_str : sliceEls h 1 (.str s) = some (bytesEls s) := (rfl)
attribute [simp] obound asInt?
end

theorem aload_hptr (env : AEnv) (vars : List (Nat × LVar)) (h : AHeap) (n : Option Nat) (b bl i off : Nat) : aload ⟨env, vars, h⟩ n (.hptr b bl i off) = match h[b]? with
    | some (.row _ els) => if els.length = bl then (els[i]?).bind fun cs => apart n cs off else none
    | _ => none := by
  simp only [aload]
  cases h[b]? with
  | none => rfl
  | some v => cases v <;> cases n <;> rfl
attribute [simp] aload_hptr

/-- a list as it is handed back: nil, if it is empty -/
def Slc.ofN {α : Type} (l : List α) (h : l.length ≤ LIM) : Slc α := if l = [] then .nil else .mk l none h
@[simp] theorem Slc.ofN_l {α : Type} (l : List α) (h : l.length ≤ LIM) : (Slc.ofN l h).l = l := by
  unfold Slc.ofN
  split
  · rename_i q; rw [q]; rfl
  · rfl


/-! ### A list that is made by append -/
def colAV (h : AHeap) (sz : Nat) (els : List (List AV)) : AV := if els = [] then .nils else .hsl h.length els.length 0 els.length sz none
def colH (h : AHeap) (sz : Nat) (els : List (List AV)) : AHeap := if els = [] then h else h ++ [.row sz els]
section
variable (h : AHeap) (sz : Nat) (els : List (List AV))
theorem colAV_nil : colAV h sz [] = .nils := (rfl)
theorem colH_nil : colH h sz [] = h := (rfl)
@[simp] theorem col_plain : (colAV h sz els).plain = colAV h sz els := by unfold colAV; split <;> rfl
@[simp] theorem col_one : (colAV h sz els).one = true := by unfold colAV; split <;> rfl
@[simp] theorem col_cells : (colAV h sz els).cells = [colAV h sz els] := by unfold colAV; split <;> rfl
@[simp] theorem col_clean (vs : List (Nat × LVar)) (t : Nat) (r : AEnv) : envClean vs ((t, colAV h sz els) :: r) = (t, colAV h sz els) :: envClean vs r := by unfold colAV; split <;> rfl
@[simp] theorem col_szOk : szOk sz (colAV h sz els) = true := by unfold colAV; split <;> simp
@[simp] theorem col_len (h' : AHeap) : alen h' none .slice (colAV h sz els) = some (els.length : Int) := by
  unfold colAV
  split
  · rename_i q; subst q; rfl
  · rfl
@[simp] theorem col_els : sliceEls (colH h sz els) sz (colAV h sz els) = some els := by
  unfold colAV colH
  split
  · rename_i q; subst q; rfl
  · simp [sliceEls, heapRow]
theorem col_append (y : List AV) (hl : els.length + 1 ≤ LIM) : aappend sz h.length (colH h sz els) (colAV h sz els) [y] = some (colAV h sz (els ++ [y]), colH h sz (els ++ [y])) := by
  unfold colAV colH
  by_cases q : els = []
  · subst q
    have : 1 ≤ LIM := by simp [LIM]
    simp [aappend, this]
  · have h1 : ¬ (els.length + 1 ≤ els.length) := by omega
    have hr : heapRow (h ++ [.row sz els]) h.length els.length sz = some els := by simp [heapRow]
    have hs : (h ++ [ABlk.row sz els]).set h.length (.row sz (els ++ [y])) = h ++ [.row sz (els ++ [y])] := by
      rw [List.set_append_right _ _ (Nat.le_refl _)]
      simp
    simp [q, aappend, hr, hl, h1]
theorem col_iaddr (i : Nat) (hi : i < els.length) : aiaddr (colH h sz els) none sz (colAV h sz els) (i : Int) = some (.hptr h.length els.length i 0) := by
  have q : els ≠ [] := by intro e; subst e; simp at hi
  have hr : heapRow (h ++ [.row sz els]) h.length els.length sz = some els := by simp [heapRow]
  simp [colAV, colH, q, aiaddr_hsl, hr, hi]
theorem col_frz {α : Type} {E : α → List AV} {l : List α} (k : Nat) (hE : ∀ x, (E x).map (frz (colH h sz (l.map E)) h.length k) = E x) (hl : l.length ≤ LIM) :
    frz (colH h sz (l.map E)) h.length (k + 1) (colAV h sz (l.map E)) = (Slc.ofN l hl).av E sz := by
  by_cases q : l = []
  · subst q
    rfl
  · have q' : l.map E ≠ [] := by simpa using q
    simp only [colH, q', if_false] at hE
    simp only [colAV, colH, q', if_false, Slc.ofN, q, Slc.av_mk]
    rw [frz_hsl, if_neg (Nat.lt_irrefl _)]
    simp only [List.getElem?_concat_length, Nat.zero_add, Nat.le_refl, and_self, if_true, List.drop_zero, List.take_length, List.map_map]
    congr 1
    apply List.map_congr_left
    intro x _
    exact hE x
end


/-! ### A slice that is read, wherever it lies -/
def addrOf : AV → Nat → AV
  | .isl els _ _, i => .iptr (els.getD i []) 0
  | .hsl b bl o _ _ _, i => .hptr b bl (o + i) 0
  | _, _ => .nilp

structure RSl (h : AHeap) (sz : Nat) (v : AV) (els : List (List AV)) : Prop where
  plain : v.plain = v
  one : v.one = true
  cells : v.cells = [v]
  clean : ∀ (vs : List (Nat × LVar)) (t : Nat) (r : AEnv), envClean vs ((t, v) :: r) = (t, v) :: envClean vs r
  szOk : szOk sz v = true
  len : ∀ h', alen h' none .slice v = some (els.length : Int)
  all : ∀ G, sliceEls (h ++ G) sz v = some els
  addr : ∀ G (i : Nat), aiaddr (h ++ G) none sz v (i : Int) = (els[i]?).map fun _ => addrOf v i
  load : ∀ env vars G n (i : Nat) (hi : i < els.length), aload ⟨env, vars, h ++ G⟩ n (addrOf v i) = apart n els[i] 0
  ap : ∀ i, (addrOf v i).plain = addrOf v i
  ac : ∀ (i : Nat) (vs : List (Nat × LVar)) (t : Nat) (r : AEnv), envClean vs ((t, addrOf v i) :: r) = (t, addrOf v i) :: envClean vs r
  ok : ∀ (i : Nat) , i < els.length → Mode.ok .heap (addrOf v i) = true

theorem Slc.rsl {α : Type} (E : α → List AV) (sz : Nat) (h : AHeap) (s : Slc α) : RSl h sz (s.av E sz) (s.l.map E) where
  plain := by simp
  one := by simp
  cells := by simp
  clean := by simp
  szOk := by simp
  len := by simp
  all := by simp
  addr G i := by
    rw [Slc.iaddr_av]
    cases s with
    | nil => simp
    | mk l c hl =>
      simp only [Slc.l_mk, List.getElem?_map, Option.map_map]
      cases hx : l[i]? with
      | none => rfl
      | some x =>
        have hy : (l.map E)[i]? = some (E x) := by simp [hx]
        simp [Slc.av_mk, addrOf, List.getD, hy, hx]
  load env vars G n i hi := by
    cases s with
    | nil => simp at hi
    | mk l c hl => simp [Slc.av_mk, addrOf, List.getD, hi] at hi ⊢; simp [hi]
  ap i := by cases s <;> rfl
  ac i vs t r := by cases s <;> rfl
  ok i hi := by
    cases s with
    | nil => simp at hi
    | mk l c hl => rfl

theorem col_rsl (h : AHeap) (sz : Nat) (els : List (List AV)) : RSl (colH h sz els) sz (colAV h sz els) els where
  plain := by simp
  one := by simp
  cells := by simp
  clean := by simp
  szOk := by simp
  len := by simp
  all G := by
    unfold colAV colH
    split
    · rename_i q; subst q; rfl
    · have hr : heapRow (h ++ [.row sz els] ++ G) h.length els.length sz = some els := by simp [heapRow]
      simp only [sliceEls, hr, if_true, Option.bind_some, Nat.zero_add, Nat.le_refl, List.drop_zero, List.take_length]
  addr G i := by
    by_cases q : els = []
    · subst q; simp [colAV, colH, aiaddr]
    · have hr : heapRow (h ++ [.row sz els] ++ G) h.length els.length sz = some els := by simp [heapRow]
      simp only [colAV, colH, q, if_false, aiaddr_hsl, hr, addrOf, Option.bind_some, Nat.zero_add, Nat.le_refl, if_true]
      by_cases hi : i < els.length
      · simp [hi]
      · simp [hi]
  load env vars G n i hi := by
    have q : els ≠ [] := by intro e; subst e; simp at hi
    have hg : (h ++ [ABlk.row sz els] ++ G)[h.length]? = some (.row sz els) := by simp
    simp only [colAV, colH, q, if_false, addrOf, aload_hptr, hg, Nat.zero_add, if_true, List.getElem?_eq_getElem hi, Option.bind_some]
  ap i := by unfold colAV; split <;> rfl
  ac i vs t r := by unfold colAV; split <;> rfl
  ok i hi := by
    have q : els ≠ [] := by intro e; subst e; simp at hi
    simp [colAV, q, addrOf]

end Go.Ai
