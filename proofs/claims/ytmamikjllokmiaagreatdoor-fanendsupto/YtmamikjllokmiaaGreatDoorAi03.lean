/-
  Parts of a proof: an abstract interpreter of the model's code, and what the functions come to.
-/
import Derived.Test.YtmamikjllokmiaaGreatDoorAi02
import Derived.Laws.Externs
import Derived.KernelRfl
import Derived.Orders
set_option linter.unusedVariables false
set_option linter.unusedSimpArgs false
set_option linter.unnecessarySimpa false
/-
  The abstract interpreter: min and max of integers.
-/
namespace Go.Ai
open Go.RowKit
set_option linter.unusedVariables false
set_option linter.unusedSimpArgs false

section
variable {P : Program} {fm : Nat → Nat} {fmi : Nat → Option Nat} {ρ : Map} {X : Nat → Prop} {PV : Map} {bar : Nat} {s s' : St} {w w' : World} {h : AHeap} {call : Caller} {a : Act} {o : Oper} {v : AV} {tmps : Array Value}

def mmf (mx : Bool) (acc : Option AV) (y : AV) : Option AV :=
  match acc, y with
  | some (.int k x), .int _ y => some (.int k (if (if mx then y > x else y < x) then y else x))
  | _, _ => none

theorem mmf_none (mx : Bool) : ∀ (r : List AV), r.foldl (mmf mx) none = none
  | [] => rfl
  | y :: r => by simpa [mmf] using mmf_none mx r

theorem aminmax_some {mx : Bool} {xs : List AV} (hv : aminmax mx xs = some v) : ∃ k x r, xs = .int k x :: r ∧ r.foldl (mmf mx) (some (.int k x)) = some v := by
  unfold aminmax at hv
  split at hv
  · rename_i k x r
    exact ⟨k, x, r, rfl, hv⟩
  · cases hv

theorem fold_mm {X : Nat → Prop} (mx : Bool) (f : Value → Value → Sem Value) (hf : ∀ k x k' y, f (.int k x) (.int k' y) = pure (.int k (if (if mx then y > x else y < x) then y else x))) :
    ∀ (r : List AV) (cs : List Value) (k : IntKind) (x : Int), VRs fm ρ X h w r cs → r.foldl (mmf mx) (some (.int k x)) = some v → ∃ c, (cs.foldlM f (.int k x)).run P w = .ok c w ∧ VR fm ρ X h w v c
  | [], cs, k, x, H, hv => by
    have : cs = [] := List.length_eq_zero_iff.1 H.1
    subst this
    simp only [List.foldl_nil, Option.some.injEq] at hv
    subst hv
    exact ⟨_, rfl, .int _ _⟩
  | y :: r, cs, k, x, H, hv => by
    cases cs with
    | nil => exact absurd H.1 (by simp)
    | cons c cs =>
      have h0 := H.2 0 y c rfl rfl
      simp only [List.foldl_cons] at hv
      cases y with
      | int k' y =>
        cases h0
        obtain ⟨c', h1, h2⟩ := fold_mm mx f hf r cs k _ ⟨by simpa using H.1, fun j a v ha hv => H.2 (j + 1) a v (by simpa using ha) (by simpa using hv)⟩ hv
        refine ⟨c', ?_, h2⟩
        simp only [List.foldlM_cons, Sem.run_bind, hf, Sem.run_pure, Result.andThen_ok]
        exact h1
      | _ => simp [mmf, mmf_none] at hv

theorem op_minmax (C : Ctx P fm fmi ρ X PV bar s w a) {c : Call} {mx : Bool} (hb : c.callee = .builtin (if mx then .max else .min)) {sxs : List SOpd} (hx : lOpds fmi c.args.toList = some sxs) (hop : o.op = .call c)
    (hv : aop call bar s (.minmax mx sxs) = some (v, s')) : Good fm ρ X PV bar s w a.tmps ((execOp a.eval o).run P w) v s' := by
  obtain ⟨hv1, rfl⟩ := St.pure_some hv
  clear hv
  obtain ⟨k, x, r, he, hv⟩ := aminmax_some hv1
  have hxv := C.F.vals C.hfm (a := a) rfl hx
  rw [he] at hxv
  generalize hcs : c.args.toList.map a.eval = cs at hxv
  cases cs with
  | nil => exact absurd hxv.1 (by simp)
  | cons c0 cs =>
    have h0 := hxv.2 0 _ c0 rfl rfl
    cases h0
    have ht : VRs fm ρ (XP X PV) s.heap w r cs := ⟨by simpa using hxv.1, fun j a v ha hv => hxv.2 (j + 1) a v (by simpa using ha) (by simpa using hv)⟩
    cases mx with
    | true =>
      obtain ⟨c', h1, h2⟩ := fold_mm (P := P) true Builtin.max2 (fun _ _ _ _ => by simp [Builtin.max2]) r cs k x ht hv
      have hbi : ∀ consts, builtin .max c.argTypes o.type consts (c.args.toList.map a.eval).toArray = (do pure (.value (← Builtin.max_ c.argTypes o.type (c.args.toList.map a.eval).toArray))) := fun _ => rfl
      refine Good.same C.F (c := c') (lCall_builtin hb hop (args := c.args.toList) (by simp) rfl hbi ?_) (ER.of h2)
      simp only [Builtin.max_, hcs]
      exact h1
    | false =>
      obtain ⟨c', h1, h2⟩ := fold_mm (P := P) false Builtin.min2 (fun _ _ _ _ => by simp [Builtin.min2]) r cs k x ht hv
      have hbi : ∀ consts, builtin .min c.argTypes o.type consts (c.args.toList.map a.eval).toArray = (do pure (.value (← Builtin.min_ c.argTypes o.type (c.args.toList.map a.eval).toArray))) := fun _ => rfl
      refine Good.same C.F (c := c') (lCall_builtin hb hop (args := c.args.toList) (by simp) rfl hbi ?_) (ER.of h2)
      simp only [Builtin.min_, hcs]
      exact h1

theorem find_cmp {fn : Func} (hn : fn.name = "internal/bytealg.abigen_runtime_cmpstring") : Extern.find fn = some Extern.BytealgCompare.compare := by
  have h1 : Extern.allGenericRows.lookup "internal/bytealg.abigen_runtime_cmpstring" = none := by kernel_rfl
  have h2 : Extern.allTypedRows.lookup "internal/bytealg.abigen_runtime_cmpstring" = none := by kernel_rfl
  have h3 : Extern.allRows.lookup "internal/bytealg.abigen_runtime_cmpstring" = some Extern.BytealgCompare.compare := by kernel_rfl
  simp [Extern.find, hn, h1, h2, h3]

theorem find_idx {fn : Func} (hn : fn.name = "internal/bytealg.IndexByteString") : Extern.find fn = some Extern.BytealgIndexByte.indexByte := by
  have h1 : Extern.allGenericRows.lookup "internal/bytealg.IndexByteString" = none := by kernel_rfl
  have h2 : Extern.allTypedRows.lookup "internal/bytealg.IndexByteString" = none := by kernel_rfl
  have h3 : Extern.allRows.lookup "internal/bytealg.IndexByteString" = some Extern.BytealgIndexByte.indexByte := by kernel_rfl
  simp [Extern.find, hn, h1, h2, h3]

theorem findNext_none {fn : Func} {n : String} (hn : fn.name = n) (ho : fn.origin = "") (h1 : Extern.allNextRows.lookup n = none) : Extern.findNext fn = none := by
  have h2 : Extern.allNextRows.lookup "" = none := by kernel_rfl
  simp [Extern.findNext, hn, ho, h1, h2]

theorem find_overl {fn : Func} (hn : fn.name = "slices.overlaps[archivist/label.Pair]") (ho : fn.origin = "slices.overlaps") : Extern.find fn = some (Extern.SlicesOverlaps.overlaps fn.params fn.resultTypes) := by
  have h1 : Extern.allGenericRows.lookup "slices.overlaps[archivist/label.Pair]" = none := by kernel_rfl
  have h2 : Extern.allTypedRows.lookup "slices.overlaps[archivist/label.Pair]" = none := by kernel_rfl
  have h3 : Extern.allRows.lookup "slices.overlaps[archivist/label.Pair]" = none := by kernel_rfl
  have h4 : Extern.allGenericRows.lookup "slices.overlaps" = none := by kernel_rfl
  have h5 : Extern.allTypedRows.lookup "slices.overlaps" = some Extern.SlicesOverlaps.overlaps := by kernel_rfl
  simp [Extern.find, hn, ho, h1, h2, h3, h4, h5]

theorem findNext_overl {fn : Func} (hn : fn.name = "slices.overlaps[archivist/label.Pair]") (ho : fn.origin = "slices.overlaps") : Extern.findNext fn = none := by
  have h1 : Extern.allNextRows.lookup "slices.overlaps[archivist/label.Pair]" = none := by kernel_rfl
  have h2 : Extern.allNextRows.lookup "slices.overlaps" = none := by kernel_rfl
  simp [Extern.findNext, hn, ho, h1, h2]

/-- two slices in two blocks, none of which is of a string's bytes -/
theorem run_overl {tS u e size : Nat} (ht : P.underlying tS = some (.slice e)) (hz : tSize P e = some size) (a b : Addr) (la ca lb cb : Nat) {arr arr' : Array Value} {tA tB : TypeId} {fa fb : Nat × Nat}
    (hne : la ≠ 0 → lb ≠ 0 → a.block ≠ b.block ∧ w.heap[a.block]? = some (.cells arr tA fa) ∧ w.heap[b.block]? = some (.cells arr' tB fb) ∧ arr.size ≠ 0 ∧ fb.2 ≤ fb.1) (rs : Array TypeId) :
    (Extern.SlicesOverlaps.overlaps #[tS, u] rs #[.slice (some a) la ca, .slice (some b) lb cb]).run P w = .ok (.bool false) w := by
  change Sem.run P (α := Value) (do
    let some t := (#[tS, u] : Array TypeId)[0]? | stuck "slices.overlaps: no parameter types"
    let .slice elem ← underlying t | stuck "slices.overlaps: slice type expected"
    let size ← sizeOf elem
    match (some a : Option Addr), (some b : Option Addr) with
    | some a, some b =>
      if la = 0 ∨ lb = 0 ∨ size = 0 then pure (Value.bool false)
      else if a.block != b.block && (← frozen a) && (← frozen b) then unsupported .addressObserved
      else do
        if a.block != b.block then do
          noView a; noView b
          if ← mayBeOne a b then return Value.bool ((← choose (.extern "sameAddr.stringBytes" 2)) == 1)
        pure (Value.bool (a.block == b.block && a.off < b.off + lb * size && b.off < a.off + la * size))
    | _, _ => pure (Value.bool false)) w = _
  by_cases h0 : la = 0 ∨ lb = 0 ∨ size = 0
  · simp [run_underlying' ht, run_sizeOf' hz, h0]
  · obtain ⟨h1, h2, h3, h4, h5⟩ := hne (fun q => h0 (.inl q)) (fun q => h0 (.inr (.inl q)))
    have hnb : (a.block != b.block) = true := by simpa using h1
    have hnb' : (a.block == b.block) = false := by simpa using h1
    have hs1 : w.shape? a.block = some (tA, arr.size) := by simp [World.shape?, h2]
    have hs2 : w.shape? b.block = some (tB, arr'.size) := by simp [World.shape?, h3]
    have hfb : ∀ o s, w.frozen? ⟨b.block, o, s⟩ = false := fun o s => by
      obtain ⟨lo, hi⟩ := fb
      simp only [World.frozen?, h3]
      simp only at h5
      by_cases q : lo ≤ o
      · have : ¬ o < hi := by omega
        simp [this]
      · simp [q]
    have hfb' : w.frozen? b = false := hfb b.off b.spot
    obtain ⟨k, hk⟩ : ∃ k, arr.size = k + 1 := ⟨arr.size - 1, by omega⟩
    rw [hk] at hs1
    have hnone : ∀ x : Option (TypeId × Nat), (x matches some (_, 0)) = true → x = some (tA, k + 1) → False := by
      intro x hx he
      subst he
      cases hx
    by_cases q : w.frozen? a = true
    · simp [run_underlying' ht, run_sizeOf' hz, h0, hnb, hnb', frozen, noView, viewAt, mayBeOne, stringish, shape, Sem.run, hs1, hs2, hfb', hfb, q]
    · by_cases q2 : w.frozen? { block := a.block, off := k + 1 } = true
      · simp [run_underlying' ht, run_sizeOf' hz, h0, hnb, hnb', frozen, noView, viewAt, mayBeOne, stringish, shape, Sem.run, hs1, hs2, hfb', hfb, q, q2]
      · simp [run_underlying' ht, run_sizeOf' hz, h0, hnb, hnb', frozen, noView, viewAt, mayBeOne, stringish, shape, Sem.run, hs1, hs2, hfb', hfb, q, q2]

theorem op_ext (C : Ctx P fm fmi ρ X PV bar s w a) {c : Call} {f k : Nat} (hb : c.callee = .value (.func f)) (he : extOf P f = some k) {sxs : List SOpd} (hx : lOpds fmi c.args.toList = some sxs) (hop : o.op = .call c)
    (hv : aop call bar s (.ext k sxs) = some (v, s')) : Good fm ρ X PV bar s w a.tmps ((execOp a.eval o).run P w) v s' := by
  obtain ⟨hv1, rfl⟩ := St.pure_some hv
  clear hv
  have H := C.F.vals C.hfm (a := a) rfl hx
  have e : c.args.map a.eval = (c.args.toList.map a.eval).toArray := Array.toList_inj.1 (by simp)
  generalize hxs : sxs.map s.val = xs at H hv1
  generalize hcs : c.args.toList.map a.eval = cs at H e
  have hrun : (execOp a.eval o).run P w = (callFunc f cs.toArray).run P w := by
    simp only [execOp, hop, resolve, hb, Act.eval, Deferred.ofValue, Sem.run_bind, Sem.run_pure, Result.andThen_ok, invoke, Array.append_empty, Array.empty_append, e]
  have two : ∀ {x y : AV}, xs = [x, y] → ∃ c1 c2, cs = [c1, c2] ∧ VR fm ρ (XP X PV) s.heap w x c1 ∧ VR fm ρ (XP X PV) s.heap w y c2 := by
    intro x y hxy
    subst hxy
    match cs, H with
    | [c1, c2], H => exact ⟨c1, c2, rfl, H.2 0 _ c1 rfl rfl, H.2 1 _ c2 rfl rfl⟩
    | [], H => exact absurd H.1 (by simp)
    | [_], H => exact absurd H.1 (by simp)
    | _ :: _ :: _ :: _, H => exact absurd H.1 (by simp)
  unfold extOf at he
  split at he
  · rename_i fn hf
    split at he
    · rename_i h1
      simp only [Bool.and_eq_true, beq_iff_eq] at h1
      split at he
      · rename_i hn
        have hn : fn.name = "internal/bytealg.abigen_runtime_cmpstring" := by simpa using hn
        injection he with he
        subst he
        unfold aext at hv1
        split at hv1 <;> rename_i hk <;> first | (exact absurd hk (by decide)) | skip
        · rename_i x y
          obtain ⟨c1, c2, rfl, g1, g2⟩ := two rfl
          cases g1
          cases g2
          injection hv1 with hv1
          subst hv1
          refine Good.same C.F (c := .int .i64 (Lib.compareBytes x y)) ?_ (VR.int _ _)
          rw [hrun, run_callFunc_extern hf (by rw [hn]; decide) h1.1 (findNext_none hn h1.2 (by kernel_rfl)) (find_cmp hn), Lib.run_compareString]
          rfl
        · cases hv1
      · split at he
        · rename_i hn
          have hn : fn.name = "internal/bytealg.IndexByteString" := by simpa using hn
          injection he with he
          subst he
          unfold aext at hv1
          split at hv1 <;> rename_i hk <;> first | (exact absurd hk (by decide)) | skip
          · rename_i x y
            obtain ⟨c1, c2, rfl, g1, g2⟩ := two rfl
            cases g1
            cases g2
            injection hv1 with hv1
            subst hv1
            refine Good.same C.F (c := .int .i64 (Lib.indexByte x y.toNat.toUInt8)) ?_ (VR.int _ _)
            rw [hrun, run_callFunc_extern hf (by rw [hn]; decide) h1.1 (findNext_none hn h1.2 (by kernel_rfl)) (find_idx hn), Lib.run_indexByteString]
            rfl
          · cases hv1
        · cases he
    · split at he
      · rename_i _ hc
        simp only [Bool.and_eq_true, beq_iff_eq] at hc
        obtain ⟨⟨hnb, hn⟩, ho⟩ := hc
        obtain ⟨t, el, hps, hel, hsz, he⟩ : ∃ t el, fn.params.toList = [t, t] ∧ P.underlying t = some (.slice el) ∧ (tSize P el).isSome = true ∧ some 2 = some k := by
          split at he
          · rename_i t u hps
            by_cases htu : (t == u) = true
            · rw [if_pos htu] at he
              have htu : t = u := by simpa using htu
              subst htu
              cases hu : P.underlying t with
              | none => rw [hu] at he; cases he
              | some d =>
                rw [hu] at he
                cases d <;> first | (cases he; done) | skip
                rename_i el
                obtain ⟨h5, h6⟩ := of_ite he
                exact ⟨t, el, hps, hu, h5, h6⟩
            · rw [if_neg htu] at he
              cases he
          · cases he
        obtain ⟨size, hsize⟩ := Option.isSome_iff_exists.1 hsz
        injection he with he
        subst he
        have hpar : fn.params = #[t, t] := by
          rw [← Array.toList_inj, hps]
        have hfin : ∀ {c1 c2 : Value}, cs = [c1, c2] → v = .bool false → (Extern.SlicesOverlaps.overlaps #[t, t] fn.resultTypes #[c1, c2]).run P w = .ok (.bool false) w → Good fm ρ X PV bar s w a.tmps ((execOp a.eval o).run P w) v s := by
          intro c1 c2 hcc hvv hr
          subst hvv
          refine Good.same C.F (c := .bool false) ?_ (VR.bool _)
          rw [hrun, run_callFunc_extern hf (by rw [hn]; decide) hnb (findNext_overl hn ho) (find_overl hn ho), hpar, hcc, hr]
          rfl
        unfold aext at hv1
        split at hv1 <;> rename_i hk <;> first | (exact absurd hk (by decide)) | skip
        · rename_i x y
          obtain ⟨c1, c2, hcc, g1, g2⟩ := two rfl
          unfold aoverl at hv1
          have hnil : ∀ (b0 : Option Addr) (l0 k0 : Nat), (Extern.SlicesOverlaps.overlaps #[t, t] fn.resultTypes #[.slice none 0 0, .slice b0 l0 k0]).run P w = .ok (.bool false) w := fun b0 l0 k0 => by
            change Sem.run P (α := Value) (do
              let some t := (#[t, t] : Array TypeId)[0]? | stuck "slices.overlaps: no parameter types"
              let .slice elem ← underlying t | stuck "slices.overlaps: slice type expected"
              let size ← sizeOf elem
              pure (Value.bool false)) w = _
            simp [run_underlying' hel, run_sizeOf' hsize]
          split at hv1 <;> first | (cases hv1; done) | skip
          · cases g1
            cases g2
            injection hv1 with hv1
            exact hfin hcc hv1.symm (hnil _ _ _)
          · cases g1
            cases g2
            injection hv1 with hv1
            exact hfin hcc hv1.symm (hnil _ _ _)
          · rename_i els sz cap b' bl' i' len' sz' cap'
            obtain ⟨⟨hs1, hs2, hr2⟩, hv1⟩ := of_ite hv1
            injection hv1 with hv1
            cases g1 with
            | @isl _ _ cc _ ad vss hl hlc hcap hBo hszs hvs hcell hvals =>
              cases g2 with
              | @hsl _ _ _ _ _ cc' _ ad' hb2 hlc2 ha2 hss2 =>
                obtain ⟨els', hels'⟩ := Option.isSome_iff_exists.1 hr2
                obtain ⟨hrow', hbl'⟩ := heapRow_some hels'
                obtain ⟨B', hB'⟩ := C.F.inv.tot b' hb2
                obtain ⟨q1', q2', _⟩ := (ha2 B' els' hB' hrow').2 hbl'
                obtain ⟨_, arr', tB, fb, hw2, _, hf2, _⟩ := C.F.inv.row b' B' sz' els' hB' hrow'
                by_cases hne : els = []
                · subst hne
                  refine hfin hcc hv1.symm (run_overl (arr := #[]) (arr' := arr') (tA := tB) (tB := tB) (fa := (0, 0)) (fb := fb) hel hsize ad ad' _ cc len' cc' (fun n1 n2 => absurd rfl n1) _)
                · obtain ⟨hspot, hout⟩ := hBo hne
                  have hpos : 0 < els.length := List.length_pos_iff.2 hne
                  have hv0 : vss[0]? = some vss[0] := List.getElem?_eq_getElem (by omega)
                  have hl0 := hvs 0 _ hv0
                  have hc0 := (hcell 0 _ 0 _ hv0 (List.getElem?_eq_getElem (by omega))).1
                  simp only [World.cell?] at hc0
                  cases hob : w.heap[ad.block]? with
                  | none => rw [hob] at hc0; cases hc0
                  | some ob =>
                    rw [hob] at hc0
                    cases ob <;> first | (cases hc0; done) | skip
                    rename_i arr tA fa
                    have hsize0 : arr.size ≠ 0 := by
                      intro hz
                      have hc1 := (Array.getElem?_eq_some_iff.1 hc0).1
                      omega
                    refine hfin hcc hv1.symm (run_overl (arr := arr) (arr' := arr') (tA := tA) (tB := tB) (fa := fa) (fb := fb) hel hsize ad ad' _ cc len' cc' (fun n1 n2 => ?_) _)
                    have e2 := q1' (by omega)
                    subst e2
                    exact ⟨fun q => hout.heap b' (by rw [q]; exact hB'), hob, hw2, hsize0, hf2.1.resolve_right (fun q => hs2 q.2)⟩
        · cases hv1
      · cases he
  · cases he

end
end Go.Ai
/-
  The abstract interpreter: every operation but a call, out of the code's own IR.
-/
namespace Go.Ai
open Go.RowKit
set_option linter.unusedVariables false
set_option linter.unusedSimpArgs false

/-- what is proved of the operations -/
def SOp.known : SOp → Bool
  | .s2b h _ => !h
  | .slicearr .. | .lookup .. | .mapupd .. | .mkmap | .callf .. | .callv .. => false
  | _ => true

section
variable {P : Program} {fm : Nat → Nat} {fmi : Nat → Option Nat} {ρ : Map} {X : Nat → Prop} {PV : Map} {bar : Nat} {s s' : St} {w w' : World} {h : AHeap} {call : Caller} {a : Act} {o : Oper} {v : AV} {tmps : Array Value}

theorem bind_some {α β : Type} {x : Option α} {f : α → Option β} {b : β} (h : x.bind f = some b) : ∃ a, x = some a ∧ f a = some b := by
  cases x with
  | none => cases h
  | some a => exact ⟨a, rfl, h⟩

theorem map_some {α β : Type} {x : Option α} {f : α → β} {b : β} (h : x.map f = some b) : ∃ a, x = some a ∧ f a = b := by
  cases x with
  | none => cases h
  | some a => exact ⟨a, rfl, by simpa using h⟩

theorem lCall_sound (C : Ctx P fm fmi ρ X PV bar s w a) {c : Call} {hint so : SOp} (hl : lCall P fmi c o.type hint = some so) (hk : so.known = true) (hop : o.op = .call c) (hv : aop call bar s so = some (v, s')) :
    Good fm ρ X PV bar s w a.tmps ((execOp a.eval o).run P w) v s' := by
  unfold lCall at hl
  split at hl
  · cases hl
  · split at hl
    · obtain ⟨g, _, hl⟩ := bind_some hl
      obtain ⟨as, _, rfl⟩ := map_some hl
      cases hk
    · rename_i f hb _
      obtain ⟨k, he, hl⟩ := bind_some hl
      obtain ⟨as, has, rfl⟩ := map_some hl
      exact op_ext C hb he has hop hv
  · obtain ⟨g, _, hl⟩ := bind_some hl
    obtain ⟨as, _, rfl⟩ := map_some hl
    cases hk
  · rename_i b hb
    split at hl
    · rename_i x t hx ht
      obtain ⟨sx, hsx, hl⟩ := bind_some hl
      have ha : c.args = #[x] := Array.toList_inj.1 (by simpa using hx)
      have hat : c.argTypes = #[t] := Array.toList_inj.1 (by simpa using ht)
      split at hl <;> first | (cases hl; done) | skip
      · rename_i n e hu
        injection hl with hl
        subst hl
        exact op_len C hb ha hat hop (.inl ⟨n, e, hu, rfl⟩) hsx hv
      · rename_i hu
        injection hl with hl
        subst hl
        exact op_len C hb ha hat hop (.inr (.inl ⟨hu, rfl, rfl⟩)) hsx hv
      · rename_i e hu
        injection hl with hl
        subst hl
        exact op_len C hb ha hat hop (.inr (.inr (.inl ⟨e, hu, rfl, rfl⟩))) hsx hv
      · rename_i k e hu
        injection hl with hl
        subst hl
        exact op_len C hb ha hat hop (.inr (.inr (.inr ⟨k, e, hu, rfl, rfl⟩))) hsx hv
    · rename_i x t hx ht
      obtain ⟨sx, hsx, hl⟩ := bind_some hl
      have ha : c.args = #[x] := Array.toList_inj.1 (by simpa using hx)
      have hat : c.argTypes = #[t] := Array.toList_inj.1 (by simpa using ht)
      split at hl <;> first | (cases hl; done) | skip
      rename_i e hu
      injection hl with hl
      subst hl
      exact op_cap C hb ha hat hop hu hsx hv
    · rename_i d x t u hx ht
      obtain ⟨sd, hsd, hl⟩ := bind_some hl
      obtain ⟨sx, hsx, hl⟩ := bind_some hl
      have ha : c.args = #[d, x] := Array.toList_inj.1 (by simpa using hx)
      have hat : c.argTypes = #[t, u] := Array.toList_inj.1 (by simpa using ht)
      split at hl <;> first | (cases hl; done) | skip
      rename_i e hu
      obtain ⟨sz, hsz, hl⟩ := bind_some hl
      obtain ⟨by_, hby, hl⟩ := bind_some hl
      obtain ⟨z, hz, hl⟩ := bind_some hl
      obtain ⟨⟨h1, h2, h3, h4, h5⟩, hl⟩ := of_ite hl
      have T : ElemT P t e sz by_ z := ⟨hu, hsz, hby, hz, h1, h2, h3, h4, h5⟩
      split at hl <;> first | (cases hl; done) | skip
      · rename_i k hu2
        injection hl with hl
        subst hl
        exact op_append0 C hb ha hat hop T hsd hsx hu2 hv
      · rename_i e2 hu2
        injection hl with hl
        subst hl
        exact op_append C hb ha hat hop T hsd hsx hu2 (fun k h => by cases h) hv
      · rename_i hu2
        injection hl with hl
        subst hl
        exact op_append C hb ha hat hop T hsd hsx hu2 (fun k h => by cases h) hv
    · rename_i d x t u hx ht
      obtain ⟨sd, hsd, hl⟩ := bind_some hl
      obtain ⟨sx, hsx, hl⟩ := bind_some hl
      have ha : c.args = #[d, x] := Array.toList_inj.1 (by simpa using hx)
      have hat : c.argTypes = #[t, u] := Array.toList_inj.1 (by simpa using ht)
      split at hl <;> first | (cases hl; done) | skip
      rename_i e hu
      obtain ⟨sz, hsz, hl⟩ := bind_some hl
      obtain ⟨h1, hl⟩ := of_ite hl
      injection hl with hl
      subst hl
      exact op_copy C hb ha hat hop hu hsz h1 hsd hsx hv
    · rename_i x t hx ht
      obtain ⟨sx, hsx, hl⟩ := bind_some hl
      have ha : c.args = #[x] := Array.toList_inj.1 (by simpa using hx)
      have hat : c.argTypes = #[t] := Array.toList_inj.1 (by simpa using ht)
      split at hl <;> first | (cases hl; done) | skip
      rename_i e hu
      obtain ⟨sz, hsz, hl⟩ := bind_some hl
      obtain ⟨z, hz, hl⟩ := bind_some hl
      obtain ⟨⟨h1, h2, h3⟩, hl⟩ := of_ite hl
      injection hl with hl
      subst hl
      exact op_clear C hb ha hat hop hu hz h1 h2 h3 hsx hv
    · obtain ⟨as, has, rfl⟩ := map_some hl
      exact op_minmax (mx := true) C hb has hop hv
    · obtain ⟨as, has, rfl⟩ := map_some hl
      exact op_minmax (mx := false) C hb has hop hv
    · cases hl

theorem matches_u8 {P : Program} {e : Nat} (h : (match P.underlying e with | some (.int .u8) => true | _ => false) = true) : P.underlying e = some (.int .u8) := by
  split at h
  · assumption
  · cases h

theorem aop_sound (C : Ctx P fm fmi ρ X PV bar s w a) {hint so : SOp} (hl : lOp P fmi hint o = some so) (hk : so.known = true) (hv : aop call bar s so = some (v, s')) :
    Good fm ρ X PV bar s w a.tmps ((execOp a.eval o).run P w) v s' := by
  unfold lOp at hl
  split at hl
  · rename_i x hop
    obtain ⟨sx, hsx, rfl⟩ := map_some hl
    exact op_mv C hsx (.inl hop) hv
  · rename_i x hop
    obtain ⟨sx, hsx, rfl⟩ := map_some hl
    exact op_mv C hsx (.inr hop) hv
  · rename_i x y z hop
    obtain ⟨sx, hsx, hl⟩ := bind_some hl
    obtain ⟨sy, hsy, hl⟩ := bind_some hl
    obtain ⟨sz, hsz, rfl⟩ := map_some hl
    exact op_pick C hsx hsy hsz hop hv
  · rename_i t hop
    obtain ⟨z, hz, hl⟩ := bind_some hl
    obtain ⟨h1, hl⟩ := of_ite hl
    split at hl
    · rename_i sz _
      split at hl <;> first | (cases hl; done) | skip
      rename_i n e hu
      obtain ⟨⟨h2, h3⟩, hl⟩ := of_ite hl
      injection hl with hl
      subst hl
      exact op_newrow (e := e) C hz h1 h3 hop hv
    · injection hl with hl
      subst hl
      exact op_new C hz h1 hop hv
  · rename_i t x hop
    obtain ⟨sx, hsx, rfl⟩ := map_some hl
    exact op_box C hsx hop hv
  · rename_i t parts hop
    obtain ⟨z, hz, hl⟩ := bind_some hl
    obtain ⟨h1, hl⟩ := of_ite hl
    split at hl <;> first | (cases hl; done) | skip
    · rename_i fs hu
      obtain ⟨pl, hpl, hl⟩ := bind_some hl
      obtain ⟨sp, hsp, rfl⟩ := map_some hl
      exact op_build C hz h1 (.inl ⟨fs, pl, hu, hpl, hsp⟩) hop hv
    · rename_i n e hu
      obtain ⟨sz, hsz, hl⟩ := bind_some hl
      obtain ⟨sp, hsp, rfl⟩ := map_some hl
      exact op_build C hz h1 (.inr ⟨n, e, sz, hu, hsz, hsp⟩) hop hv
  · rename_i t n parts hop
    split at hl <;> first | (cases hl; done) | skip
    rename_i e hu
    obtain ⟨sz, hsz, hl⟩ := bind_some hl
    obtain ⟨z, hz, hl⟩ := bind_some hl
    obtain ⟨⟨h1, h2, h3, h4⟩, hl⟩ := of_ite hl
    obtain ⟨sp, hsp, rfl⟩ := map_some hl
    exact op_bslice C hu hsz hz h1 h2 h3 h4 hsp hop hv
  · rename_i t x hop
    obtain ⟨sx, hsx, hl⟩ := bind_some hl
    obtain ⟨n, hn, rfl⟩ := map_some hl
    exact op_load C hsx hn hop hv
  · rename_i t x y hop
    obtain ⟨sx, hsx, hl⟩ := bind_some hl
    obtain ⟨sy, hsy, hl⟩ := bind_some hl
    obtain ⟨n, hn, rfl⟩ := map_some hl
    exact op_store C hsx hsy hn hop hv
  · rename_i x hop
    obtain ⟨sx, hsx, rfl⟩ := map_some hl
    exact op_nilchk C hsx hop hv
  · rename_i op t x y t' hop
    obtain ⟨k, hkk, hl⟩ := bind_some hl
    obtain ⟨sx, hsx, hl⟩ := bind_some hl
    obtain ⟨sy, hsy, rfl⟩ := map_some hl
    exact op_bin C hsx hsy hkk hop hv
  · rename_i op t x hop
    obtain ⟨sx, hsx, rfl⟩ := map_some hl
    exact op_un C hsx hop hv
  · rename_i src dst x hop
    obtain ⟨sx, hsx, hl⟩ := bind_some hl
    split at hl
    · rename_i hs hd
      injection hl with hl
      subst hl
      exact op_cvint C hsx hs hd hop hv
    · rename_i hs hd
      injection hl with hl
      subst hl
      exact op_cvid C hsx hs hd hop hv
    · rename_i e hs hd
      obtain ⟨he, hl⟩ := of_ite hl
      injection hl with hl
      subst hl
      have hh : hintH hint = false := by simpa [SOp.known] using hk
      rw [hh] at hv
      exact op_s2b C hsx hs hd (matches_u8 he) hop hv
    · rename_i e hs hd
      obtain ⟨he, hl⟩ := of_ite hl
      injection hl with hl
      subst hl
      exact op_b2s C hsx hs hd (matches_u8 he) hop hv
    · cases hl
  · rename_i t x hop
    obtain ⟨h1, hl⟩ := of_ite' hl
    obtain ⟨h2, hl⟩ := of_ite' hl
    obtain ⟨sx, hsx, rfl⟩ := map_some hl
    cases hd : P.underlying t with
    | none => rw [hd] at h2; exact absurd rfl h2
    | some d =>
      refine op_mkif C hsx hd (fun m hm => ?_) hop hv
      rw [hd, hm] at h1
      exact h1 rfl
  · rename_i f xs ys hop
    obtain ⟨g, hg, hl⟩ := bind_some hl
    obtain ⟨sxs, hsx, hl⟩ := bind_some hl
    obtain ⟨sys, hsy, rfl⟩ := map_some hl
    exact op_mkfn C hg hsx hsy hop hv
  · injection hl with hl
    subst hl
    cases hk
  · rename_i t x y hop
    split at hl <;> first | (cases hl; done) | skip
    rename_i e hu
    obtain ⟨sz, hsz, hl⟩ := bind_some hl
    obtain ⟨z, hz, hl⟩ := bind_some hl
    obtain ⟨by_, hby, hl⟩ := bind_some hl
    obtain ⟨⟨h1, h2, h3, h4, h5⟩, hl⟩ := of_ite hl
    obtain ⟨sx, hsx, hl⟩ := bind_some hl
    obtain ⟨sy, hsy, rfl⟩ := map_some hl
    exact op_mkslice C ⟨hu, hsz, hby, hz, h1, h2, h3, h4, h5⟩ hsx hsy hop hv
  · rename_i t x lo hi mx hop
    obtain ⟨sx, hsx, hl⟩ := bind_some hl
    obtain ⟨slo, hlo, hl⟩ := bind_some hl
    obtain ⟨shi, hhi, hl⟩ := bind_some hl
    obtain ⟨smx, hmx, hl⟩ := bind_some hl
    split at hl <;> first | (cases hl; done) | skip
    · rename_i hu
      obtain ⟨h1, hl⟩ := of_ite hl
      injection hl with hl
      subst hl
      have h2 : smx = none := by simpa using h1
      subst h2
      exact op_slice C hsx hlo hhi hmx (.inl ⟨hu, rfl, rfl⟩) hop hv
    · rename_i e hu
      obtain ⟨sz, hsz, hl⟩ := bind_some hl
      obtain ⟨⟨h1, h2⟩, hl⟩ := of_ite hl
      injection hl with hl
      subst hl
      exact op_slice C hsx hlo hhi hmx (.inr ⟨e, sz, hu, hsz, h1, h2, rfl, rfl⟩) hop hv
    · rename_i n e hu
      obtain ⟨h1, hl⟩ := of_ite hl
      obtain ⟨sz, hsz, rfl⟩ := map_some hl
      cases hk
  · rename_i t x f hop
    split at hl <;> first | (cases hl; done) | skip
    rename_i fs hu
    obtain ⟨fd, hf, hl⟩ := bind_some hl
    obtain ⟨n, hn, hl⟩ := bind_some hl
    obtain ⟨h1, hl⟩ := of_ite hl
    obtain ⟨sx, hsx, rfl⟩ := map_some hl
    exact op_faddr C hsx hu hf hn h1 hop hv
  · rename_i t x f hop
    split at hl <;> first | (cases hl; done) | skip
    rename_i fs hu
    obtain ⟨fd, hf, hl⟩ := bind_some hl
    obtain ⟨n, hn, hl⟩ := bind_some hl
    obtain ⟨sx, hsx, rfl⟩ := map_some hl
    exact op_field C hsx hu hf hn hop hv
  · rename_i t x i hop
    obtain ⟨sx, hsx, hl⟩ := bind_some hl
    obtain ⟨si, hsi, hl⟩ := bind_some hl
    split at hl <;> first | (cases hl; done) | skip
    · rename_i n e hu
      obtain ⟨sz, hsz, hl⟩ := bind_some hl
      obtain ⟨h1, hl⟩ := of_ite hl
      injection hl with hl
      subst hl
      exact op_iaddr C hsx hsi h1 hsz (.inl ⟨n, hu, rfl⟩) hop hv
    · rename_i e hu
      obtain ⟨sz, hsz, hl⟩ := bind_some hl
      obtain ⟨h1, hl⟩ := of_ite hl
      injection hl with hl
      subst hl
      exact op_iaddr C hsx hsi h1 hsz (.inr ⟨hu, rfl⟩) hop hv
  · rename_i t x i hop
    obtain ⟨sx, hsx, hl⟩ := bind_some hl
    obtain ⟨si, hsi, hl⟩ := bind_some hl
    split at hl <;> first | (cases hl; done) | skip
    · rename_i n e hu
      obtain ⟨sz, hsz, hl⟩ := bind_some hl
      obtain ⟨ag, hag, rfl⟩ := map_some hl
      exact op_idx C hsx hsi (.inl ⟨n, e, sz, ag, hu, hsz, hag, rfl⟩) hop hv
    · rename_i hu
      injection hl with hl
      subst hl
      exact op_idx C hsx hsi (.inr ⟨hu, rfl⟩) hop hv
  · rename_i x i hop
    obtain ⟨sx, hsx, rfl⟩ := map_some hl
    exact op_extract C hsx hop hv
  · rename_i t x hop
    split at hl <;> first | (cases hl; done) | skip
    rename_i d hu _
    obtain ⟨sx, hsx, rfl⟩ := map_some hl
    exact op_srange C hsx hu hop hv
  · rename_i x hop
    obtain ⟨sx, hsx, rfl⟩ := map_some hl
    exact op_snext C hsx hop hv
  · split at hl <;> first | (cases hl; done) | skip
    obtain ⟨_, hl⟩ := of_ite hl
    obtain ⟨z, hz, hl⟩ := bind_some hl
    obtain ⟨z, hz, hl⟩ := bind_some hl
    obtain ⟨sx, hsx, rfl⟩ := map_some hl
    cases hk
  · split at hl <;> first | (cases hl; done) | skip
    obtain ⟨_, hl⟩ := of_ite hl
    obtain ⟨z, hz, hl⟩ := bind_some hl
    obtain ⟨z, hz, hl⟩ := bind_some hl
    obtain ⟨sx, hsx, rfl⟩ := map_some hl
    cases hk
  · rename_i c hop
    exact lCall_sound C hl hk hop hv
  · cases hl

end
end Go.Ai
/-
  The abstract interpreter: calls, and what follows an operation.
-/
namespace Go.Ai
open Go.RowKit
set_option linter.unusedVariables false
set_option linter.unusedSimpArgs false

section
variable {P : Program} {fm : Nat → Nat} {fmi : Nat → Option Nat} {ρ : Map} {X : Nat → Prop} {PV : Map} {bar : Nat} {s s' : St} {w w' : World} {h : AHeap} {call : Caller} {a : Act} {o : Oper} {v : AV} {tmps : Array Value}

/-- what a call comes to -/
def CallPost (fm : Nat → Nat) (X : Nat → Prop) (bar : Nat) (ρ : Map) (h : AHeap) (w : World) (v : AV) (h' : AHeap) (e : Ending) (w' : World) : Prop :=
  ∃ c ρ', e = .returned c ∧ VR fm ρ' X h' w' v c ∧ Inv fm ρ' X h' w' ∧ Le ρ X h w ρ' X h' w' ∧ (∀ B, B < w.heap.size → X B → w'.heap[B]? = w.heap[B]?) ∧
    (∀ b, b < bar → ρ' b = ρ b ∧ h'[b]? = h[b]?)

/-- calls that are known, are true of the model -/
structure CallOK (P : Program) (fm : Nat → Nat) (call : Caller) (bar : Nat) : Prop where
  bodied : ∀ f as h v h', call f as h = some (v, h') → bodied P (fm f) = true
  run : ∀ f as h v h', call f as h = some (v, h') → ∀ ρ X w cs, Inv fm ρ X h w → (∀ B, X B → B < w.heap.size) → bar ≤ h.length → VRs fm ρ X h w as cs →
    Calls P (fm f) cs.toArray w (CallPost fm X bar ρ h w v h')

theorem run_callFunc {f : Nat} (hb : bodied P f = true) (args : Array Value) (w : World) : (callFunc f args).run P w = .ok (.enter f args) w := by
  unfold bodied at hb
  split at hb
  · rename_i fn hf
    simp only [Bool.and_eq_true, Bool.not_eq_true', beq_eq_false_iff_ne] at hb
    obtain ⟨h1, h2⟩ := hb
    have h3 : fn.body.isNone = false := by cases e : fn.body <;> simp_all
    have h4 : fn.body ≠ none := fun e => by rw [e] at h1; cases h1
    simp [callFunc, hf, h2, h4]
  · cases hb

theorem VR.weakX {X' : Nat → Prop} {a : AV} {c : Value} (H : VR fm ρ X h w a c) (hX : ∀ B, X' B → X B) : VR fm ρ X' h w a c := by
  have ho : ∀ B, Out ρ X w B → Out ρ X' w B := fun B hB => ⟨hB.heap, fun hx => hB.apart (hX B hx), hB.lt⟩
  induction H with
  | bool b => exact .bool b
  | int k n => exact .int k n
  | str s => exact .str s
  | nilp => exact .nilp
  | hptr hb ha => exact .hptr hb ha
  | iptr vs hB hl hc hv ih => exact .iptr vs (ho _ hB) hl hc ih
  | nils => exact .nils
  | hsl hb hlc ha hs => exact .hsl hb hlc ha hs
  | isl vss hl hlc hcap hB hsz hvs hc hv ih => exact .isl vss hl hlc hcap (fun hne => ⟨(hB hne).1, ho _ (hB hne).2⟩) hsz hvs hc ih
  | nilm => exact .nilm
  | hmap hb ha => exact .hmap hb ha
  | fn us vs hu hy hx hv ih1 ih2 => exact .fn us vs hu hy ih1 ih2
  | nilf => exact .nilf
  | ifc hx ih => exact .ifc ih
  | nili => exact .nili
  | agg vs hl hv ih => exact .agg vs hl ih
  | tup vs hl hv ih => exact .tup vs hl ih
  | junk v => exact .junk v

theorem Inv.weakX {X' : Nat → Prop} (I : Inv fm ρ X h w) (hX : ∀ B, X' B → X B) : Inv fm ρ X' h w where
  dom b B e := ⟨(I.dom b B e).1, (I.dom b B e).2.1, fun hx => (I.dom b B e).2.2 (hX B hx)⟩
  inj := I.inj
  tot := I.tot
  row b B sz els e he := by
    obtain ⟨h1, arr, t, fz, h2, h3, h4, h5⟩ := I.row b B sz els e he
    refine ⟨h1, arr, t, fz, h2, h3, h4, fun i x j a hx ha => ?_⟩
    obtain ⟨v, h6, h7, h8⟩ := h5 i x j a hx ha
    exact ⟨v, h6, h7, h8.weakX hX⟩
  map b B es e he := by
    obtain ⟨arr, cl, h2, h3, h5⟩ := I.map b B es e he
    refine ⟨arr, cl, h2, h3, fun i k x hx => ?_⟩
    obtain ⟨me, h6, h7, h8⟩ := h5 i k x hx
    exact ⟨me, h6, h7, h8.weakX hX⟩

/-- what follows an operation that is carried out -/
def After (fm : Nat → Nat) (ρ : Map) (X : Nat → Prop) (PV : Map) (bar : Nat) (s : St) (w : World) (tmps : Array Value) (v : AV) (s' : St) (c : Value) (w' : World) : Prop :=
  ∃ ρ' PV', FR fm ρ' X PV' s' w' tmps ∧ ER fm ρ' (XP X PV') PV' s'.heap w' v c ∧ Step X bar ρ PV s.heap w ρ' PV' s'.heap w'

theorem Good.upon {K : Act → World → Prop} {Q : Exit → Act → World → Prop} {R : Result Next} (G : Good fm ρ X PV bar s w a.tmps R v s')
    (hK : ∀ c w', After fm ρ X PV bar s w a.tmps v s' c w' → K (a.put o.dst c) w') : o.upon P a K Q R := by
  obtain ⟨nx, w', c, ρ', PV', rfl, hn, F, E, S⟩ := G
  rcases hn with rfl | ⟨rfl, rfl⟩
  · rw [Oper.upon_value]
    exact hK _ _ ⟨ρ', PV', F, E, S⟩
  · rw [Oper.upon_skip]
    exact hK _ _ ⟨ρ', PV', F, E, S⟩

/-- a call that is known -/
theorem call_upon (C : Ctx P fm fmi ρ X PV bar s w a) (O : CallOK P fm call bar) {f : Nat} {as : List AV} {cs : List Value} {h' : AHeap} (hv : call f as s.heap = some (v, h')) (H : VRs fm ρ (XP X PV) s.heap w as cs)
    {K : Act → World → Prop} {Q : Exit → Act → World → Prop} {R : Result Next} (hR : R = .ok (.enter (fm f) cs.toArray) w)
    (hK : ∀ c w', After fm ρ X PV bar s w a.tmps v { s with heap := h' } c w' → K (a.put o.dst c) w') : o.upon P a K Q R := by
  subst hR
  rw [Oper.upon_enter]
  refine (O.run f as s.heap v h' hv ρ (XP X PV) w cs C.F.inv (fun B hB => ?_) C.bar H).mono ?_
  · rcases hB with h1 | ⟨d, h1⟩
    · exact C.F.new B h1
    · exact (C.F.pv d B h1).2
  · rintro e w' ⟨c, ρ', rfl, V, I, L, hx, hb⟩
    have F : FR fm ρ' X PV { s with heap := h' } w' a.tmps := C.F.setHeap L I (fun d B e => hx B (C.F.pv d B e).2 (.inr ⟨d, e⟩))
    exact hK c w' ⟨ρ', PV, F, ER.of V, ⟨L, fun B hB hX => hx B hB (.inl hX), hb, fun d B e => .inl e⟩⟩

theorem VRs.append {as bs : List AV} {cs ds : List Value} (H : VRs fm ρ X h w as cs) (K : VRs fm ρ X h w bs ds) : VRs fm ρ X h w (as ++ bs) (cs ++ ds) := by
  refine ⟨by simp [H.1, K.1], fun j a v ha hv => ?_⟩
  by_cases q : j < as.length
  · rw [List.getElem?_append_left q] at ha
    rw [List.getElem?_append_left (by rw [H.1]; exact q)] at hv
    exact H.2 j a v ha hv
  · rw [List.getElem?_append_right (by omega)] at ha
    rw [List.getElem?_append_right (by rw [H.1]; omega), H.1] at hv
    exact K.2 _ a v ha hv

theorem op_callf (C : Ctx P fm fmi ρ X PV bar s w a) (O : CallOK P fm call bar) {c : Call} {f g : Nat} (hb : c.callee = .value (.func f)) (hbo : bodied P f = true) (hg : fmi f = some g) {sxs : List SOpd} (hx : lOpds fmi c.args.toList = some sxs)
    (hop : o.op = .call c) (hv : aop call bar s (.callf g sxs) = some (v, s')) {K : Act → World → Prop} {Q : Exit → Act → World → Prop}
    (hK : ∀ c w', After fm ρ X PV bar s w a.tmps v s' c w' → K (a.put o.dst c) w') : o.wp P a w K Q := by
  simp only [aop] at hv
  obtain ⟨⟨v1, h1⟩, hc, he⟩ := map_some hv
  simp only [Prod.mk.injEq] at he
  obtain ⟨rfl, rfl⟩ := he
  have H := C.F.vals C.hfm (a := a) rfl hx
  have hf : fm g = f := C.hfm f g hg
  unfold Oper.wp
  refine call_upon C O hc H ?_ hK
  have e : (c.args.toList.map a.eval).toArray = c.args.map a.eval := Array.toList_inj.1 (by simp)
  simp only [execOp, hop, resolve, hb, Act.eval, Deferred.ofValue, Sem.run_bind, Sem.run_pure, Result.andThen_ok, invoke, Array.append_empty, Array.empty_append, hf, e]
  exact run_callFunc hbo _ _

theorem op_callv (C : Ctx P fm fmi ρ X PV bar s w a) (O : CallOK P fm call bar) {c : Call} {x : Operand} {sx : SOpd} (hb : c.callee = .value x) (hs : lOpd fmi x = some sx) {sxs : List SOpd} (hx : lOpds fmi c.args.toList = some sxs)
    (hop : o.op = .call c) {p : Bool} (hv : aop call bar s (.callv p sx sxs) = some (v, s')) {K : Act → World → Prop} {Q : Exit → Act → World → Prop}
    (hK : ∀ c w', After fm ρ X PV bar s w a.tmps v s' c w' → K (a.put o.dst c) w') : o.wp P a w K Q := by
  simp only [aop] at hv
  split at hv <;> first | (cases hv; done) | skip
  rename_i g first cap hf
  obtain ⟨_, hv⟩ := of_ite' hv
  obtain ⟨⟨v1, h1⟩, hc, he⟩ := map_some hv
  simp only [Prod.mk.injEq] at he
  obtain ⟨rfl, rfl⟩ := he
  have H := C.F.vals C.hfm (a := a) rfl hx
  have hxv := C.F.val C.hfm (a := a) hs rfl
  rw [hf] at hxv
  generalize hcx : a.eval x = cx at hxv
  cases hxv with
  | fn us vs hu hy hxx hvv =>
    unfold Oper.wp
    refine call_upon C O hc ((VRs.append (VRs.append ⟨hu, hxx⟩ H) ⟨hy, hvv⟩)) ?_ hK
    have e : (c.args.toList.map a.eval).toArray = c.args.map a.eval := Array.toList_inj.1 (by simp)
    simp only [execOp, hop, resolve, hb, hcx, Deferred.ofValue, Sem.run_bind, Sem.run_pure, Result.andThen_ok, invoke]
    have e2 : (us ++ c.args.toList.map a.eval ++ vs).toArray = us.toArray ++ c.args.map a.eval ++ vs.toArray := by simp
    rw [e2]
    exact run_callFunc (O.bodied _ _ _ _ _ hc) _ _

def SOp.isCall : SOp → Bool
  | .callf .. | .callv .. => true
  | _ => false

/-- every operation that is known -/
theorem op_wp (C : Ctx P fm fmi ρ X PV bar s w a) (O : CallOK P fm call bar) {hint so : SOp} (hl : lOp P fmi hint o = some so) (hk : (so.known || so.isCall) = true) (hv : aop call bar s so = some (v, s'))
    {K : Act → World → Prop} {Q : Exit → Act → World → Prop} (hK : ∀ c w', After fm ρ X PV bar s w a.tmps v s' c w' → K (a.put o.dst c) w') : o.wp P a w K Q := by
  by_cases hkn : so.known = true
  · exact (aop_sound C hl hkn hv).upon hK
  · have hcall : so.isCall = true := by simpa [hkn] using hk
    have hnew : ∃ c, o.op = .call c ∧ lCall P fmi c o.type hint = some so := by
      unfold lOp at hl
      split at hl <;> first
        | exact ⟨_, by assumption, hl⟩
        | skip
      all_goals exfalso
      all_goals first
        | (cases hl; done)
        | (cases so <;> first | (cases hcall; done) | skip)
      all_goals (repeat' split at hl)
      all_goals simp [Option.bind_eq_some_iff, Option.map_eq_some_iff] at hl
    obtain ⟨c, hop, hl⟩ := hnew
    unfold lCall at hl
    split at hl
    · cases hl
    · rename_i f hb
      split at hl
      · rename_i hbo
        obtain ⟨g, hg, hl⟩ := bind_some hl
        obtain ⟨as, has, rfl⟩ := map_some hl
        exact op_callf C O hb hbo hg has hop hv hK
      · obtain ⟨k, _, hl⟩ := bind_some hl
        obtain ⟨as, has, rfl⟩ := map_some hl
        cases hcall
    · rename_i x hb hnf
      obtain ⟨g, hg, hl⟩ := bind_some hl
      obtain ⟨as, has, rfl⟩ := map_some hl
      exact op_callv C O hnf hg has hop hv hK
    · exfalso
      cases so <;> first | (cases hcall; done) | skip
      all_goals (repeat' split at hl)
      all_goals simp [Option.bind_eq_some_iff, Option.map_eq_some_iff] at hl

end
end Go.Ai
/-
  The abstract interpreter: code.
-/
namespace Go.Ai
open Go.RowKit
set_option linter.unusedVariables false
set_option linter.unusedSimpArgs false

/-! ### The IR out of the code -/
section
variable (P : Program) (fmi : Nat → Option Nat) (N : Nat)

def dstOk : Option Nat → Bool
  | some d => decide (d < N)
  | none => true

def lSI (ops : Array Oper) (hint : SI) (o : Oper) : Option SI :=
  (lOp P fmi hint.op o).bind fun op =>
  if (op.known || op.isCall) && dstOk N o.dst then
    match o.guard with
    | none => some ⟨o.dst, op, none⟩
    | some (j, want) => ((ops[j]?).bind (·.dst)).map fun t => ⟨o.dst, op, some (t, want)⟩
  else none

def lSIs (ops : Array Oper) : List SI → List Oper → Option (List SI)
  | [], [] => some []
  | h :: hs, o :: os => (lSI P fmi N ops h o).bind fun x => (lSIs ops hs os).map fun l => x :: l
  | _, _ => none
end

/-! ### One step of a region -/
def astep (call : Caller) (bar : Nat) (i : SI) (s : St) : Option St :=
  match i.wanted s with
  | some true => (aop call bar s i.op).map fun (v, s') => s'.set i.dst v
  | some false => some (s.set i.dst .undef)
  | none => none

theorem aops_cons (call : Caller) (bar : Nat) (i : SI) (r : List SI) (s : St) : aops call bar (i :: r) s = (astep call bar i s).bind (aops call bar r) := by
  simp only [aops, astep]
  cases hw : i.wanted s with
  | none => rfl
  | some b =>
    cases b with
    | false => rfl
    | true => cases aop call bar s i.op <;> rfl

section
variable {P : Program} {fm : Nat → Nat} {fmi : Nat → Option Nat} {ρ : Map} {X : Nat → Prop} {PV : Map} {bar N : Nat} {s s' : St} {w w' : World} {h : AHeap} {call : Caller} {a : Act} {o : Oper} {v : AV} {tmps : Array Value}

/-- a frame on its way -/
def At (fm : Nat → Nat) (X : Nat → Prop) (bar N : Nat) (ρ0 : Map) (PV0 : Map) (h0 : AHeap) (w0 : World) (s : St) (a : Act) (w : World) : Prop :=
  ∃ ρ PV, FR fm ρ X PV s w a.tmps ∧ a.tmps.size = N ∧ a.defers = [] ∧ Step X bar ρ0 PV0 h0 w0 ρ PV s.heap w

variable {ρ0 PV0 : Map} {h0 : AHeap} {w0 : World}

theorem put_get (a : Act) (dst : Option Nat) (c : Value) (hN : a.tmps.size = N) (hd : dstOk N dst = true) (t : Nat) :
    (a.put dst c).tmps.getD t undef = match dst with | some d => if d = t then c else a.tmps.getD t undef | none => a.tmps.getD t undef := by
  cases dst with
  | none => rfl
  | some d =>
    simp only [dstOk, decide_eq_true_eq] at hd
    simp only [Act.put, Array.getD_eq_getD_getElem?, Array.getElem?_setIfInBounds]
    by_cases q : d = t
    · subst q
      simp [hN, hd]
    · simp [q]

theorem put_size (a : Act) (dst : Option Nat) (c : Value) : (a.put dst c).tmps.size = a.tmps.size := by
  cases dst <;> simp [Act.put]

theorem put_defers (a : Act) (dst : Option Nat) (c : Value) : (a.put dst c).defers = a.defers := by
  cases dst <;> simp [Act.put]

theorem set_heap (s : St) (dst : Option Nat) (v : AV) : (s.set dst v).heap = s.heap := by
  cases dst <;> rfl

theorem set_vars (s : St) (dst : Option Nat) (v : AV) : (s.set dst v).vars = s.vars := by
  cases dst <;> rfl

theorem envPut_get (d t : Nat) (v : AV) : ∀ (e : AEnv), (envPut e d v).get t = if d = t then v else e.get t
  | [] => by simp [envPut, AEnv.get]
  | (k, u) :: r => by
    have ih := envPut_get d t v r
    simp only [envPut]
    split
    · rfl
    · split
      · rename_i h1 h2
        subst h2
        simp only [AEnv.get]
        split <;> rfl
      · simp only [AEnv.get, ih]
        by_cases q : k = t
        · have : d ≠ t := by omega
          simp [q, this]
        · simp [q]

theorem envPut_comm {d d' : Nat} (hd : d ≠ d') (v v' : AV) : ∀ (e : AEnv), envPut (envPut e d v) d' v' = envPut (envPut e d' v') d v
  | [] => by
    simp only [envPut]
    by_cases q : d < d'
    · have h1 : ¬ d' < d := by omega
      have h2 : ¬ d' = d := by omega
      simp [q, h1, h2]
    · have h1 : d' < d := by omega
      have h2 : ¬ d = d' := by omega
      simp [q, h1, h2]
  | (k, u) :: r => by
    have ih := envPut_comm hd v v' r
    simp only [envPut]
    by_cases a1 : d < k <;> by_cases a2 : d' < k <;> by_cases b1 : d = k <;> by_cases b2 : d' = k <;> by_cases c1 : d < d' <;> by_cases c2 : d' < d <;>
      first
        | omega
        | simp [envPut, a1, a2, b1, b2, c1, c2, hd, Ne.symm hd, ih]
        | skip
    all_goals (first | (subst b1; simp [envPut, *, Ne.symm hd]) | (subst b2; simp [envPut, *, Ne.symm hd]) | skip)

theorem set_get (s : St) (dst : Option Nat) (v : AV) (t : Nat) : (s.set dst v).env.get t = match dst with | some d => if d = t then v else s.env.get t | none => s.env.get t := by
  cases dst with
  | none => rfl
  | some d => exact envPut_get d t v s.env

theorem FR.put (F : FR fm ρ X PV s w a.tmps) {c : Value} (E : ER fm ρ (XP X PV) PV s.heap w v c) {dst : Option Nat} (hN : a.tmps.size = N) (hd : dstOk N dst = true) :
    FR fm ρ X PV (s.set dst v) w (a.put dst c).tmps where
  inv := by rw [set_heap]; exact F.inv
  pv := F.pv
  pvinj := F.pvinj
  env t := by
    rw [set_heap, set_get, put_get a dst c hN hd]
    cases dst with
    | none => exact F.env t
    | some d =>
      simp only
      split
      · exact E
      · exact F.env t
  vars d u e := by
    rw [set_heap]
    rw [set_vars] at e
    exact F.vars d u e
  new := F.new
  pvdom d B e := by
    rw [set_vars]
    exact F.pvdom d B e

theorem At.put {c : Value} (F : FR fm ρ X PV s w a.tmps) (E : ER fm ρ (XP X PV) PV s.heap w v c) {dst : Option Nat} (hN : a.tmps.size = N) (hf : a.defers = []) (hd : dstOk N dst = true)
    (S : Step X bar ρ0 PV0 h0 w0 ρ PV s.heap w) : At fm X bar N ρ0 PV0 h0 w0 (s.set dst v) (a.put dst c) w :=
  ⟨ρ, PV, F.put E hN hd, (put_size a dst c).trans hN, (put_defers a dst c).trans hf, by rw [set_heap]; exact S⟩

theorem lSI_some {ops : Array Oper} {hint si : SI} (hl : lSI P fmi N ops hint o = some si) :
    lOp P fmi hint.op o = some si.op ∧ (si.op.known || si.op.isCall) = true ∧ dstOk N o.dst = true ∧ si.dst = o.dst ∧
      ((o.guard = none ∧ si.guard = none) ∨ ∃ j want t, o.guard = some (j, want) ∧ (ops[j]?).bind (·.dst) = some t ∧ si.guard = some (t, want)) := by
  unfold lSI at hl
  obtain ⟨op, h1, hl⟩ := bind_some hl
  obtain ⟨h2, hl⟩ := of_ite hl
  simp only [Bool.and_eq_true] at h2
  split at hl
  · rename_i hg
    injection hl with hl
    subst hl
    exact ⟨h1, h2.1, h2.2, rfl, .inl ⟨hg, rfl⟩⟩
  · rename_i j want hg
    obtain ⟨t, ht, rfl⟩ := map_some hl
    exact ⟨h1, h2.1, h2.2, rfl, .inr ⟨j, want, t, hg, ht, rfl⟩⟩

theorem wanted_sound {ops : Array Oper} {si : SI} (F : FR fm ρ X PV s w tmps)
    (hg : (o.guard = none ∧ si.guard = none) ∨ ∃ j want t, o.guard = some (j, want) ∧ (ops[j]?).bind (·.dst) = some t ∧ si.guard = some (t, want)) {b : Bool} (hw : si.wanted s = some b) :
    Region.wanted o (yielded ops tmps) = b := by
  rcases hg with ⟨h1, h2⟩ | ⟨j, want, t, h1, h2, h3⟩
  · simp only [SI.wanted, h2, Option.some.injEq] at hw
    subst hw
    simp [Region.wanted, h1]
  · have E := F.env t
    simp only [SI.wanted, h3] at hw
    simp only [Region.wanted, h1, yielded, h2, Option.bind_some]
    rw [Array.getD_eq_getD_getElem?] at E
    split at hw
    · rename_i c hc
      rw [hc] at E
      injection hw with hw
      subst hw
      cases e : tmps[t]? with
      | none => rw [e] at E; simp only [Option.getD_none, undef] at E; cases E
      | some x =>
        rw [e] at E
        simp only [Option.getD_some] at E
        cases E
        simp
    · rename_i hc
      rw [hc] at E
      injection hw with hw
      subst hw
      cases e : tmps[t]? with
      | none => simp
      | some x =>
        rw [e] at E
        simp only [Option.getD_some] at E
        cases E
        simp
    · cases hw

theorem step_wp (O : CallOK P fm call bar) (hfm : ∀ f g, fmi f = some g → fm g = f) (hbar : bar ≤ h0.length) {ops : Array Oper} {i : Nat} {hint si : SI} (ho : ops[i]? = some o) (hl : lSI P fmi N ops hint o = some si)
    (H : At fm X bar N ρ0 PV0 h0 w0 s a w) (hs : astep call bar si s = some s') {K : Act → World → Prop} {Q : Exit → Act → World → Prop} (hK : ∀ a' w', At fm X bar N ρ0 PV0 h0 w0 s' a' w' → K a' w') :
    wpOp P ops Q i K a w := by
  obtain ⟨ρ, PV, F, hN, hf, S⟩ := H
  obtain ⟨h1, h2, h3, h4, h5⟩ := lSI_some hl
  unfold wpOp
  simp only [ho]
  unfold astep at hs
  split at hs
  · rename_i hw
    rw [wanted_sound F h5 hw]
    obtain ⟨⟨v, s1⟩, hv, rfl⟩ := map_some hs
    simp only [if_true]
    refine .inl (op_wp ⟨hfm, F, Nat.le_trans hbar S.le.len⟩ O h1 h2 hv ?_)
    rintro c w' ⟨ρ', PV', F', E', S'⟩
    refine hK _ _ ?_
    rw [h4]
    exact At.put F' E' hN hf h3 (S.trans S')
  · rename_i hw
    rw [wanted_sound F h5 hw]
    injection hs with hs
    subst hs
    simp only [Bool.false_eq_true, if_false]
    refine hK _ _ ?_
    rw [h4]
    exact At.put F (ER.of (VR.tup [] rfl (by simp))) hN hf h3 S
  · cases hs

theorem lSIs_len {ops : Array Oper} : ∀ {hs : List SI} {os : List Oper} {sis : List SI}, lSIs P fmi N ops hs os = some sis → sis.length = os.length
  | [], [], _, hl => by simp only [lSIs, Option.some.injEq] at hl; subst hl; rfl
  | [], _ :: _, _, hl => by simp [lSIs] at hl
  | _ :: _, [], _, hl => by simp [lSIs] at hl
  | h :: hs, o :: os, _, hl => by
    simp only [lSIs] at hl
    obtain ⟨x, _, hl⟩ := bind_some hl
    obtain ⟨l, h2, rfl⟩ := map_some hl
    simp [lSIs_len h2]

theorem lSIs_get {ops : Array Oper} : ∀ {hs : List SI} {os : List Oper} {sis : List SI}, lSIs P fmi N ops hs os = some sis → ∀ (i : Nat) o, os[i]? = some o → ∃ hint si, sis[i]? = some si ∧ lSI P fmi N ops hint o = some si
  | [], [], _, hl, i, o, ho => by simp at ho
  | [], _ :: _, _, hl, i, o, ho => by simp [lSIs] at hl
  | _ :: _, [], _, hl, i, o, ho => by simp [lSIs] at hl
  | h :: hs, o1 :: os, _, hl, i, o, ho => by
    simp only [lSIs] at hl
    obtain ⟨x, h1, hl⟩ := bind_some hl
    obtain ⟨l, h2, rfl⟩ := map_some hl
    cases i with
    | zero =>
      simp only [List.getElem?_cons_zero, Option.some.injEq] at ho
      subst ho
      exact ⟨h, x, rfl, h1⟩
    | succ i => exact lSIs_get h2 i o (by simpa using ho)

/-- a region whose operations come in the text's order -/
theorem aops_sound (O : CallOK P fm call bar) (hfm : ∀ f g, fmi f = some g → fm g = f) (hbar : bar ≤ h0.length) {ops : Array Oper} {hs sis : List SI} (hl : lSIs P fmi N ops hs ops.toList = some sis) {Q : Exit → Act → World → Prop} :
    ∀ (n k : Nat) (s : St) (a : Act) (w : World), k + n = ops.size → At fm X bar N ρ0 PV0 h0 w0 s a w → aops call bar (sis.drop k) s = some s' → (∀ a' w', At fm X bar N ρ0 PV0 h0 w0 s' a' w' → Q .normal a' w') →
      wpOps P ops Q (List.range' k n) a w
  | 0, k, s, a, w, hk, H, hv, hQ => by
    have hlen : sis.length = ops.size := by rw [lSIs_len hl]; simp
    rw [List.drop_of_length_le (by omega)] at hv
    simp only [aops, Option.some.injEq] at hv
    subst hv
    exact hQ a w H
  | n + 1, k, s, a, w, hk, H, hv, hQ => by
    have hlen : sis.length = ops.size := by rw [lSIs_len hl]; simp
    have hlt : k < ops.size := by omega
    have ho : ops[k]? = some ops[k] := Array.getElem?_eq_getElem hlt
    obtain ⟨hint, si, hsi, hl1⟩ := lSIs_get hl k ops[k] (by simpa using ho)
    have hd : sis.drop k = si :: sis.drop (k + 1) := by
      have h1 := List.getElem?_eq_some_iff.1 hsi
      obtain ⟨h2, h3⟩ := h1
      rw [← h3]
      exact List.drop_eq_getElem_cons h2
    rw [hd, aops_cons] at hv
    obtain ⟨s1, hs1, hv⟩ := bind_some hv
    rw [List.range'_succ, wpOps_cons]
    exact step_wp O hfm hbar ho hl1 H hs1 (fun a' w' H' => aops_sound O hfm hbar hl n (k + 1) s1 a' w' (by omega) H' hv hQ)

/-! ### What is kept -/
theorem envKeep_get (e : AEnv) : ∀ (ks : List Nat) (t : Nat), (envKeep e ks).get t = e.get t ∨ (envKeep e ks).get t = .junk
  | [], t => .inr rfl
  | k :: ks, t => by
    simp only [envKeep, AEnv.get]
    split
    · rename_i h
      subst h
      exact .inl rfl
    · exact envKeep_get e ks t

theorem envClean_get (vs : List (Nat × LVar)) : ∀ (e : AEnv) (t : Nat), (envClean vs e).get t = e.get t ∨ (envClean vs e).get t = .junk
  | [], t => .inl rfl
  | (k, v) :: r, t => by
    have ih := envClean_get vs r t
    by_cases q : k = t
    · cases v
      case lptr d o =>
        simp only [envClean]
        split <;> simp [AEnv.get, q]
      all_goals simp [envClean, AEnv.get, q]
    · cases v
      case lptr d o =>
        simp only [envClean]
        split <;> simpa [AEnv.get, q] using ih
      all_goals simpa [envClean, AEnv.get, q] using ih

theorem varKeep_get (vs : List (Nat × LVar)) : ∀ (ks : List Nat) (d : Nat) (v : LVar), varGet (varKeep vs ks) d = some v → varGet vs d = some v
  | [], d, v, h => by simp [varKeep, varGet] at h
  | k :: ks, d, v, h => by
    simp only [varKeep] at h
    split at h
    · rename_i u hu
      simp only [varGet] at h
      split at h
      · rename_i q
        subst q
        rw [hu]; exact h
      · exact varKeep_get vs ks d v h
    · exact varKeep_get vs ks d v h

theorem envClean_lptr (vs : List (Nat × LVar)) : ∀ (e : AEnv) (t d off : Nat), (envClean vs e).get t = .lptr d off → ∃ v, varGet vs d = some v
  | [], t, d, off, h => by simp [envClean, AEnv.get] at h
  | (k, x) :: r, t, d, off, h => by
    have ih := envClean_lptr vs r t d off
    cases x
    case lptr d' o =>
      simp only [envClean] at h
      split at h
      · rename_i u hu
        simp only [AEnv.get] at h
        split at h
        · injection h with h1 h2
          subst h1
          exact ⟨u, hu⟩
        · exact ih h
      · simp only [AEnv.get] at h
        split at h
        · cases h
        · exact ih h
    all_goals
      simp only [envClean, AEnv.get] at h
      split at h
      · cases h
      · exact ih h

/-- the frame's own variables that are kept -/
def keepPV (vs : List (Nat × LVar)) (PV : Map) : Map := fun d => match varGet vs d with | some _ => PV d | none => none

theorem keepPV_some {vs : List (Nat × LVar)} {d B : Nat} (h : keepPV vs PV d = some B) : PV d = some B ∧ ∃ v, varGet vs d = some v := by
  unfold keepPV at h
  split at h
  · rename_i v hv
    exact ⟨h, v, hv⟩
  · cases h

theorem keepPV_of {vs : List (Nat × LVar)} {d : Nat} {v : LVar} (h : varGet vs d = some v) : keepPV vs PV d = PV d := by
  unfold keepPV
  rw [h]

theorem XP_keep {vs : List (Nat × LVar)} {B : Nat} (h : XP X (keepPV vs PV) B) : XP X PV B := by
  rcases h with h | ⟨d, h⟩
  · exact .inl h
  · exact .inr ⟨d, (keepPV_some h).1⟩

theorem Le.keep (vs : List (Nat × LVar)) : Le ρ (XP X PV) h w ρ (XP X (keepPV vs PV)) h w :=
  Le.same (Nat.le_refl _) rfl rfl rfl (fun _ _ => rfl) (fun B _ hn hx => hn (XP_keep hx))

theorem FR.keep (F : FR fm ρ X PV s w tmps) (ks : List Nat) : FR fm ρ X (keepPV (varKeep s.vars ks) PV) (s.keep ks) w tmps where
  inv := F.inv.mono (Le.keep _) (fun _ _ _ => rfl) (fun b B e hx => (F.inv.dom b B e).2.2 (XP_keep hx))
  pv d B e := F.pv d B (keepPV_some e).1
  pvinj d d' B e e' := F.pvinj d d' B (keepPV_some e).1 (keepPV_some e').1
  env t := by
    have E := F.env t
    show ER fm ρ (XP X _) _ s.heap w ((envClean (varKeep s.vars ks) (envKeep s.env ks)).get t) _
    cases hg : (envClean (varKeep s.vars ks) (envKeep s.env ks)).get t with
    | lptr d off =>
      obtain ⟨v, hv⟩ := envClean_lptr _ _ t d off hg
      rcases envClean_get (varKeep s.vars ks) (envKeep s.env ks) t with h1 | h1
      · rcases envKeep_get s.env ks t with h2 | h2
        · rw [h1, h2] at hg
          rw [hg] at E
          obtain ⟨B, e1, e2⟩ := E
          exact ⟨B, by rw [keepPV_of hv]; exact e1, e2⟩
        · rw [h1, h2] at hg; cases hg
      · rw [h1] at hg; cases hg
    | _ =>
      rcases envClean_get (varKeep s.vars ks) (envKeep s.env ks) t with h1 | h1
      · rcases envKeep_get s.env ks t with h2 | h2
        · rw [h1, h2] at hg
          rw [hg] at E
          exact VR.mono (Le.keep _) E
        · rw [h1, h2] at hg
          first
            | (cases hg; done)
            | (cases hg; exact .junk _)
      · rw [h1] at hg
        first
          | (cases hg; done)
          | (cases hg; exact .junk _)
  vars d v e := by
    obtain ⟨B, h1, h2⟩ := F.vars d v (varKeep_get s.vars ks d v e)
    exact ⟨B, (keepPV_of (PV := PV) (vs := varKeep s.vars ks) e).trans h1, h2.mono (Le.keep _) rfl⟩
  new := F.new
  pvdom d B e := (keepPV_some e).2

theorem At.keep (H : At fm X bar N ρ0 PV0 h0 w0 s a w) (ks : List Nat) : At fm X bar N ρ0 PV0 h0 w0 (s.keep ks) a w :=
  let ⟨ρ, PV, F, hN, hf, S⟩ := H
  ⟨ρ, _, F.keep ks, hN, hf, S.trans ⟨Le.keep _, fun _ _ _ => rfl, fun _ _ => ⟨rfl, rfl⟩, fun d B e => .inl (keepPV_some e).1⟩⟩

theorem At.keepOpt (H : At fm X bar N ρ0 PV0 h0 w0 s a w) (ks : Option (List Nat)) : At fm X bar N ρ0 PV0 h0 w0 (keepOpt ks s) a w := by
  cases ks with
  | none => exact H
  | some ks => exact H.keep ks

theorem At.drew (H : At fm X bar N ρ0 PV0 h0 w0 s a w) : At fm X bar N ρ0 PV0 h0 w0 s a w.drew :=
  let ⟨ρ, PV, F, hN, hf, S⟩ := H
  ⟨ρ, PV, F.drew, hN, hf, S.trans (Step.drew F)⟩

end
end Go.Ai
/-
  The abstract interpreter: operations of a region that may change places.
-/
namespace Go.Ai
open Go.RowKit
set_option linter.unusedVariables false
set_option linter.unusedSimpArgs false

def SOpd.tmp : SOpd → List Nat
  | .t n => [n]
  | _ => []

def opdTmps (xs : List SOpd) : List Nat := xs.flatMap SOpd.tmp
def optTmps (x : Option SOpd) : List Nat := (x.map SOpd.tmp).getD []

/-- what an operation looks at -/
def SOp.looks : SOp → List Nat
  | .mv x | .box _ x | .nilchk x | .un _ x | .cvint _ x | .cvid x | .s2b _ x | .b2s x | .mkif _ x | .faddr _ x | .field _ _ x | .extract _ x | .srange _ x | .snext x | .len _ _ x | .cap x | .clear _ _ x | .load _ _ x => x.tmp
  | .pick c a b => c.tmp ++ a.tmp ++ b.tmp
  | .new _ _ | .newrow _ _ | .mkmap => []
  | .build _ parts => opdTmps (parts.map fun p => p.2.2)
  | .bslice _ _ _ parts => opdTmps (parts.map fun p => p.2)
  | .store _ _ a x | .copy _ a x | .append _ _ a x | .bin _ _ a x | .iaddr _ _ a x | .idx _ a x | .mkslice _ _ a x => a.tmp ++ x.tmp
  | .mkfn _ xs ys => opdTmps xs ++ opdTmps ys
  | .slice _ _ x lo hi mx => x.tmp ++ optTmps lo ++ optTmps hi ++ optTmps mx
  | .slicearr _ _ x lo hi => x.tmp ++ optTmps lo ++ optTmps hi
  | .minmax _ xs => opdTmps xs
  | .ext _ xs => opdTmps xs
  | .lookup _ _ m k => m.tmp ++ k.tmp
  | .mapupd m k x => m.tmp ++ k.tmp ++ x.tmp
  | .callf _ xs => opdTmps xs
  | .callv _ f xs => f.tmp ++ opdTmps xs

def Place.isHeap : Place → Bool
  | .heap => true
  | _ => false
def Place.isLoc : Place → Bool
  | .loc _ => true
  | _ => false
def Mode.heapy : Mode → Bool
  | .any | .heap => true
  | _ => false
def Mode.owny : Mode → Bool
  | .any | .own => true
  | _ => false

/-- looks at the heap, or writes it -/
def SOp.onHeap : SOp → Bool
  | .load m _ _ => m.heapy
  | .store m _ _ _ => m.heapy
  | .box p _ => p.isHeap
  | .new p _ => p.isHeap
  | .bslice h _ _ _ => h
  | .s2b h _ => h
  | .iaddr arr _ _ _ => arr.isNone
  | .len arr k _ => arr.isNone && k == .map
  | .ext k _ => k == 2
  | .newrow .. | .b2s _ | .mkslice .. | .mkmap | .slice .. | .slicearr .. | .cap _ | .append .. | .copy .. | .clear .. | .lookup .. | .mapupd .. | .callf .. | .callv .. => true
  | _ => false

def SOp.wHeap : SOp → Bool
  | .store m _ _ _ => m.heapy
  | .box p _ => p.isHeap
  | .new p _ => p.isHeap
  | .bslice h _ _ _ => h
  | .s2b h _ => h
  | .callf f _ => !pureId f
  | .callv p _ _ => !p
  | .newrow .. | .mkslice .. | .mkmap | .append .. | .copy .. | .clear .. | .mapupd .. => true
  | _ => false

/-- looks at the frame's own variables, or writes them -/
def SOp.onVars : SOp → Bool
  | .load m _ _ => m.owny
  | .store m _ _ _ => m.owny
  | .box p _ => p.isLoc
  | .new p _ => p.isLoc
  | .srange .. | .snext _ => true
  | _ => false

def SOp.wVars : SOp → Bool
  | .load .. => false
  | o => o.onVars

/-- reads alone -/
def SOp.still0 : SOp → Bool
  | .load .. | .b2s _ | .slice .. | .slicearr .. | .iaddr .. | .len .. | .cap _ | .lookup .. => true
  | _ => false

/-- lays a new block of the heap, and does nothing else -/
def SOp.push : SOp → Bool
  | .box .heap _ | .new .heap _ | .newrow .. | .bslice true .. | .s2b true _ | .mkslice .. | .mkmap => true
  | _ => false

section
variable {call : Caller} {bar : Nat} {s s' : St} {v u : AV} {d : Nat}

theorem raw_set {x : SOpd} (hd : d ∉ x.tmp) : (s.set (some d) u).raw x = s.raw x := by
  cases x with
  | t n =>
    have : d ≠ n := by simpa [SOpd.tmp] using hd
    simp [St.raw, set_get, this]
  | _ => rfl

theorem val_set {x : SOpd} (hd : d ∉ x.tmp) : (s.set (some d) u).val x = s.val x := by simp [St.val, raw_set hd]

theorem vals_set : ∀ {xs : List SOpd}, d ∉ opdTmps xs → xs.map (s.set (some d) u).val = xs.map s.val
  | [], _ => rfl
  | x :: r, hd => by
    simp only [opdTmps, List.flatMap_cons, List.mem_append, not_or] at hd
    simp [val_set hd.1, vals_set hd.2]

theorem optval_set {x : Option SOpd} (hd : d ∉ optTmps x) : x.map (s.set (some d) u).val = x.map s.val := by
  cases x with
  | none => rfl
  | some x => simp [val_set (by simpa [optTmps] using hd)]

theorem parts_set {α : Type} : ∀ {xs : List (α × SOpd)}, d ∉ opdTmps (xs.map fun p => p.2) → (xs.map fun p => (p.1, (s.set (some d) u).val p.2)) = xs.map fun p => (p.1, s.val p.2)
  | [], _ => rfl
  | x :: r, hd => by
    simp only [opdTmps, List.map_cons, List.flatMap_cons, List.mem_append, not_or] at hd
    simp [val_set hd.1, parts_set hd.2]

theorem parts3_set {α β : Type} : ∀ {xs : List (α × β × SOpd)}, d ∉ opdTmps (xs.map fun p => p.2.2) → (xs.map fun p => (p.1, p.2.1, (s.set (some d) u).val p.2.2)) = xs.map fun p => (p.1, p.2.1, s.val p.2.2)
  | [], _ => rfl
  | x :: r, hd => by
    simp only [opdTmps, List.map_cons, List.flatMap_cons, List.mem_append, not_or] at hd
    simp [val_set hd.1, parts3_set hd.2]

theorem newVar_set (e : Nat) (lv : LVar) : (s.set (some d) u).newVar e lv = (s.newVar e lv).map fun p => (p.1, p.2.set (some d) u) := by
  unfold St.newVar
  rw [set_vars]
  split <;> rfl

def setSnd (d : Nat) (u : AV) (p : AV × St) : AV × St := (p.1, p.2.set (some d) u)

theorem aload_set (n : Option Nat) (p : AV) : aload (s.set (some d) u) n p = aload s n p := rfl

theorem astore_set (n : Nat) (p v : AV) : astore (s.set (some d) u) bar n p v = (astore s bar n p v).map fun s' => s'.set (some d) u := by
  unfold astore
  simp only [set_heap, set_vars]
  split
  · cases p with
    | hptr b bl i off =>
      simp only
      cases s.heap[b]? with
      | none => rfl
      | some blk =>
        cases blk with
        | map es => rfl
        | row sz els =>
          simp only
          split
          · cases els[i]? with
            | none => rfl
            | some cs => simp only [Option.bind_some]; split <;> rfl
          · rfl
    | lptr dd off =>
      simp only
      cases varGet s.vars dd with
      | none => rfl
      | some lv =>
        cases lv with
        | iter _ _ => rfl
        | cells cs => simp only; split <;> rfl
    | _ => rfl
  · rfl

/-- what an operation does not look at makes no difference to it -/
theorem aop_set {op : SOp} (hd : d ∉ op.looks) : aop call bar (s.set (some d) u) op = (aop call bar s op).map (setSnd d u) := by
  cases op <;> simp only [SOp.looks, List.mem_append, not_or, List.append_assoc] at hd
  case mv x => simp [aop, raw_set hd, setSnd]
  case pick c a b =>
    simp only [aop, val_set hd.1, val_set hd.2.1, val_set hd.2.2]
    split <;> rfl
  case box p x =>
    simp only [aop, val_set hd, set_heap]
    split
    · cases p
      · rfl
      · exact newVar_set _ _
      · rfl
    · rfl
  case new p cs =>
    cases p
    · rfl
    · exact newVar_set _ _
    · rfl
  case newrow => rfl
  case mkmap => rfl
  case build zero parts => simp only [aop, parts3_set hd, Option.map_map]; rfl
  case bslice h sz els parts =>
    simp only [aop, parts_set hd, Option.map_map, set_heap]
    congr 1
    funext els
    simp only [Function.comp]
    split <;> rfl
  case load m n x =>
    simp only [aop, raw_set hd, aload_set, St.pure]
    split
    · simp only [Option.map_map]; rfl
    · rfl
  case store m n a x =>
    simp only [aop, raw_set hd.1, val_set hd.2, astore_set]
    split
    · simp only [Option.map_map]; rfl
    · rfl
  case nilchk x =>
    simp only [aop, raw_set hd]
    split <;> rfl
  case bin op k x y => simp only [aop, val_set hd.1, val_set hd.2, St.pure, Option.map_map]; rfl
  case un op x => simp only [aop, val_set hd, St.pure, Option.map_map]; rfl
  case cvint k x =>
    simp only [aop, val_set hd]
    split <;> rfl
  case cvid x =>
    simp only [aop, val_set hd]
    split <;> rfl
  case s2b h x =>
    simp only [aop, val_set hd, set_heap]
    split
    · split
      · split <;> rfl
      · rfl
    · rfl
  case b2s x =>
    simp only [aop, val_set hd, set_heap]
    split
    · rfl
    · simp only [Option.map_map]; rfl
  case mkif t x =>
    simp only [aop, val_set hd]
    split <;> rfl
  case mkfn fid xs ys => simp only [aop, vals_set hd.1, vals_set hd.2]; rfl
  case mkslice sz zero l c =>
    simp only [aop, val_set hd.1, val_set hd.2, set_heap]
    split
    · split <;> rfl
    · rfl
  case slice k sz x lo hi mx => simp only [aop, val_set hd.1, optval_set hd.2.1, optval_set hd.2.2.1, optval_set hd.2.2.2, St.pure, set_heap, Option.map_map]; rfl
  case slicearr n sz x lo hi =>
    simp only [aop, raw_set hd.1, optval_set hd.2.1, optval_set hd.2.2, set_heap]
    split
    · cases obound (lo.map s.val) 0 with
      | none => rfl
      | some l =>
        cases obound (hi.map s.val) n with
        | none => rfl
        | some r =>
          simp only [Option.bind_some]
          cases heapRow s.heap _ _ sz with
          | none => rfl
          | some els => simp only [Option.bind_some]; split <;> rfl
    · rfl
  case faddr off x => simp only [aop, raw_set hd, St.pure, Option.map_map]; rfl
  case field off n x =>
    simp only [aop, val_set hd]
    split
    · simp only [St.pure, Option.map_map]; rfl
    · rfl
  case iaddr arr sz x i =>
    simp only [aop, raw_set hd.1, val_set hd.2, set_heap]
    split
    · simp only [St.pure, Option.map_map]; rfl
    · rfl
  case idx arr x i =>
    simp only [aop, val_set hd.1, val_set hd.2]
    split
    · simp only [St.pure, Option.map_map]; rfl
    · rfl
  case extract i x =>
    simp only [aop, val_set hd]
    split
    · simp only [St.pure, Option.map_map]; rfl
    · rfl
  case srange e x =>
    simp only [aop, val_set hd]
    split
    · exact newVar_set _ _
    · rfl
  case snext x =>
    simp only [aop, raw_set hd, set_vars]
    split
    · split
      · split <;> rfl
      · rfl
    · rfl
  case len arr k x => simp only [aop, val_set hd, set_heap, St.pure, Option.map_map]; rfl
  case cap x => simp only [aop, val_set hd, set_heap, St.pure, Option.map_map]; rfl
  case append sz zero a x =>
    simp only [aop, val_set hd.1, val_set hd.2, set_heap]
    split
    · cases sliceEls s.heap sz (s.val x) with
      | none => rfl
      | some ys => simp only [Option.bind_some, Option.map_map]; rfl
    · split
      · split
        · simp only [Option.map_map]; rfl
        · rfl
      · rfl
  case copy sz a x => simp only [aop, val_set hd.1, val_set hd.2, set_heap, Option.map_map]; rfl
  case clear sz zero x => simp only [aop, val_set hd, set_heap, Option.map_map]; rfl
  case minmax mx xs => simp only [aop, vals_set hd, St.pure, Option.map_map]; rfl
  case ext k xs => simp only [aop, vals_set hd, set_heap, St.pure, Option.map_map]; rfl
  case lookup zero ok m k =>
    simp only [aop, val_set hd.1, val_set hd.2, set_heap]
    split
    · split
      · rfl
      · split
        · split <;> rfl
        · rfl
      · rfl
    · rfl
  case mapupd m k x =>
    simp only [aop, val_set hd.1, val_set hd.2.1, val_set hd.2.2, set_heap]
    split
    · split
      · split <;> split <;> rfl
      · rfl
    · rfl
  case callf f xs => simp only [aop, vals_set hd, set_heap, Option.map_map]; rfl
  case callv p f xs =>
    simp only [aop, val_set hd.1, vals_set hd.2, set_heap]
    split
    · split
      · rfl
      · simp only [Option.map_map]; rfl
    · rfl

end
end Go.Ai
/-
  The abstract interpreter: two operations of a region change places.
-/
namespace Go.Ai
open Go.RowKit
set_option linter.unusedVariables false
set_option linter.unusedSimpArgs false

section
variable {call : Caller} {bar : Nat} {s s' s2 : St} {v u : AV} {d : Nat}

theorem raw_env (he : s2.env = s.env) : s2.raw = s.raw := by
  funext x
  cases x <;> simp [St.raw, he]

theorem val_env (he : s2.env = s.env) : s2.val = s.val := by
  funext x
  simp [St.val, raw_env he]

theorem newVar_heap (d : Nat) (lv : LVar) (h2 : AHeap) : ({ s with heap := h2 } : St).newVar d lv = (s.newVar d lv).map fun p => (p.1, { p.2 with heap := h2 }) := by
  unfold St.newVar
  simp only
  split <;> rfl

/-- who does not look at the heap -/
theorem off_heap {op : SOp} (h : op.onHeap = false) (h2 : AHeap) : aop call bar { s with heap := h2 } op = (aop call bar s op).map fun p => (p.1, { p.2 with heap := h2 }) := by
  have hr : ({ s with heap := h2 } : St).raw = s.raw := raw_env rfl
  have hv : ({ s with heap := h2 } : St).val = s.val := val_env rfl
  cases op <;> first | (cases h; done) | skip
  case mv x => simp [aop, hr]
  case pick c a b => simp only [aop, hv]; split <;> rfl
  case box p x =>
    cases p <;> first | (cases h; done) | skip
    · simp only [aop, hv]
      split
      · exact newVar_heap _ _ _
      · rfl
    · simp only [aop, hv]
      split <;> rfl
  case new p x =>
    cases p <;> first | (cases h; done) | skip
    · exact newVar_heap _ _ _
    · rfl
  case build zero parts => simp only [aop, hv, Option.map_map]; rfl
  case bslice hh sz els parts =>
    cases hh
    · simp only [aop, hv, Option.map_map]; rfl
    · cases h
  case load m n x =>
    simp only [aop, hr]
    cases m <;> first | (cases h; done) | skip
    · cases s.raw x <;> first | rfl | (simp only [Mode.ok, if_true, St.pure, Option.map_map]; rfl)
    · cases s.raw x <;> first | rfl | (simp only [Mode.ok, if_true, St.pure, Option.map_map]; rfl)
  case store m n a x =>
    simp only [aop, hr, hv]
    cases m <;> first | (cases h; done) | skip
    · cases s.raw a <;> first | rfl | skip
      simp only [Mode.ok, if_true, astore]
      split <;> rfl
    · cases s.raw a <;> first | rfl | skip
      rename_i dd off
      simp only [Mode.ok, if_true, astore]
      split
      · cases varGet s.vars dd with
        | none => rfl
        | some lv =>
          cases lv with
          | iter _ _ => rfl
          | cells cs => simp only; split <;> rfl
      · rfl
  case nilchk x => simp only [aop, hr]; split <;> rfl
  case bin op k x y => simp only [aop, hv, St.pure, Option.map_map]; rfl
  case un op x => simp only [aop, hv, St.pure, Option.map_map]; rfl
  case cvint k x => simp only [aop, hv]; split <;> rfl
  case cvid x => simp only [aop, hv]; split <;> rfl
  case s2b hh x =>
    cases hh
    · simp only [aop, hv]
      split
      · split <;> rfl
      · rfl
    · cases h
  case mkif t x => simp only [aop, hv]; split <;> rfl
  case mkfn f xs ys => simp only [aop, hv]; rfl
  case faddr off x => simp only [aop, hr, St.pure, Option.map_map]; rfl
  case field off n x =>
    simp only [aop, hv]
    split
    · simp only [St.pure, Option.map_map]; rfl
    · rfl
  case iaddr arr sz x i =>
    cases arr
    · cases h
    · simp only [aop, hr, hv]
      split
      · simp only [St.pure, Option.map_map, aiaddr]; rfl
      · rfl
  case idx arr x i =>
    simp only [aop, hv]
    split
    · simp only [St.pure, Option.map_map]; rfl
    · rfl
  case extract i x =>
    simp only [aop, hv]
    split
    · simp only [St.pure, Option.map_map]; rfl
    · rfl
  case srange d x =>
    simp only [aop, hv]
    split
    · exact newVar_heap _ _ _
    · rfl
  case snext x =>
    simp only [aop, hr]
    split
    · split
      · split <;> rfl
      · rfl
    · rfl
  case len arr k x =>
    cases arr with
    | some n => rfl
    | none =>
      cases k
      · simp only [aop, hv, St.pure, Option.map_map, alen]
        cases s.val x <;> rfl
      · simp only [aop, hv, St.pure, Option.map_map, alen]
        cases s.val x <;> rfl
      · cases h
  case minmax mx xs => simp only [aop, hv, St.pure, Option.map_map]; rfl
  case ext k xs =>
    have hk : k ≠ 2 := by simpa [SOp.onHeap] using h
    have he : ∀ h0 args, aext h2 k args = aext h0 k args := fun h0 args => by
      unfold aext
      split <;> first | rfl | (exact absurd rfl hk)
    simp only [aop, hv, he s.heap, St.pure, Option.map_map]; rfl

/-- who does not look at the frame's own variables -/
theorem off_vars {op : SOp} (h : op.onVars = false) (vs2 : List (Nat × LVar)) : aop call bar { s with vars := vs2 } op = (aop call bar s op).map fun p => (p.1, { p.2 with vars := vs2 }) := by
  have hr : ({ s with vars := vs2 } : St).raw = s.raw := raw_env rfl
  have hv : ({ s with vars := vs2 } : St).val = s.val := val_env rfl
  cases op <;> first | (cases h; done) | skip
  case mv x => simp [aop, hr]
  case pick c a b => simp only [aop, hv]; split <;> rfl
  case box p x =>
    cases p <;> first | (cases h; done) | skip
    all_goals
      simp only [aop, hv]
      split <;> rfl
  case new p x =>
    cases p <;> first | (cases h; done) | skip
    all_goals rfl
  case newrow => rfl
  case mkmap => rfl
  case build zero parts => simp only [aop, hv, Option.map_map]; rfl
  case bslice hh sz els parts =>
    simp only [aop, hv, Option.map_map]
    congr 1
    funext els
    simp only [Function.comp]
    split <;> rfl
  case load m n x =>
    simp only [aop, hr]
    cases m <;> first | (cases h; done) | skip
    · cases s.raw x <;> first | rfl | (simp only [Mode.ok, if_true, St.pure, Option.map_map]; rfl)
    · cases s.raw x <;> first | rfl | (simp only [Mode.ok, if_true, St.pure, Option.map_map]; rfl)
  case store m n a x =>
    simp only [aop, hr, hv]
    cases m <;> first | (cases h; done) | skip
    all_goals
      cases s.raw a <;> first | rfl | skip
      all_goals simp only [Mode.ok, if_true, astore]
      all_goals first
        | (split <;> rfl; done)
        | skip
    rename_i b bl i off
    split
    · cases s.heap[b]? with
      | none => rfl
      | some blk =>
        cases blk with
        | map es => rfl
        | row sz els =>
          simp only
          split
          · cases els[i]? with
            | none => rfl
            | some cs => simp only [Option.bind_some]; split <;> rfl
          · rfl
    · rfl
  case nilchk x => simp only [aop, hr]; split <;> rfl
  case bin op k x y => simp only [aop, hv, St.pure, Option.map_map]; rfl
  case un op x => simp only [aop, hv, St.pure, Option.map_map]; rfl
  case cvint k x => simp only [aop, hv]; split <;> rfl
  case cvid x => simp only [aop, hv]; split <;> rfl
  case s2b hh x =>
    simp only [aop, hv]
    split
    · split
      · split <;> rfl
      · rfl
    · rfl
  case b2s x =>
    simp only [aop, hv]
    split
    · rfl
    · simp only [Option.map_map]; rfl
  case mkif t x => simp only [aop, hv]; split <;> rfl
  case mkfn f xs ys => simp only [aop, hv]; rfl
  case mkslice sz zero l c =>
    simp only [aop, hv]
    split
    · split <;> rfl
    · rfl
  case slice k sz x lo hi mx => simp only [aop, hv, St.pure, Option.map_map]; rfl
  case slicearr n sz x lo hi =>
    simp only [aop, hr, hv]
    split
    · cases obound (lo.map s.val) 0 with
      | none => rfl
      | some l =>
        cases obound (hi.map s.val) n with
        | none => rfl
        | some r =>
          simp only [Option.bind_some]
          cases heapRow s.heap _ _ sz with
          | none => rfl
          | some els => simp only [Option.bind_some]; split <;> rfl
    · rfl
  case faddr off x => simp only [aop, hr, St.pure, Option.map_map]; rfl
  case field off n x =>
    simp only [aop, hv]
    split
    · simp only [St.pure, Option.map_map]; rfl
    · rfl
  case iaddr arr sz x i =>
    simp only [aop, hr, hv]
    split
    · simp only [St.pure, Option.map_map]; rfl
    · rfl
  case idx arr x i =>
    simp only [aop, hv]
    split
    · simp only [St.pure, Option.map_map]; rfl
    · rfl
  case extract i x =>
    simp only [aop, hv]
    split
    · simp only [St.pure, Option.map_map]; rfl
    · rfl
  case len arr k x => simp only [aop, hv, St.pure, Option.map_map]; rfl
  case cap x => simp only [aop, hv, St.pure, Option.map_map]; rfl
  case append sz zero a x =>
    simp only [aop, hv]
    split
    · cases sliceEls s.heap sz (s.val x) with
      | none => rfl
      | some ys => simp only [Option.bind_some, Option.map_map]; rfl
    · split
      · split
        · simp only [Option.map_map]; rfl
        · rfl
      · rfl
  case copy sz a x => simp only [aop, hv, Option.map_map]; rfl
  case clear sz zero x => simp only [aop, hv, Option.map_map]; rfl
  case minmax mx xs => simp only [aop, hv, St.pure, Option.map_map]; rfl
  case ext k xs => simp only [aop, hv, St.pure, Option.map_map]; rfl
  case lookup zero ok m k =>
    simp only [aop, hv]
    split
    · split
      · rfl
      · split
        · split <;> rfl
        · rfl
      · rfl
    · rfl
  case mapupd m k x =>
    simp only [aop, hv]
    split
    · split
      · split <;> split <;> rfl
      · rfl
    · rfl
  case callf f xs => simp only [aop, hv, Option.map_map]; rfl
  case callv p f xs =>
    simp only [aop, hv]
    split
    · split
      · rfl
      · simp only [Option.map_map]; rfl
    · rfl

theorem pure_same {x : Option AV} (h : s.pure x = some (v, s')) : s' = s := by
  simp only [St.pure, Option.map_eq_some_iff, Prod.mk.injEq] at h
  obtain ⟨_, _, _, rfl⟩ := h
  rfl

/-- what an operation leaves alone -/
structure Keeps (op : SOp) (s s' : St) : Prop where
  env : s'.env = s.env
  vars : op.wVars = false → s'.vars = s.vars
  heap : op.wHeap = false → s'.heap = s.heap

theorem Keeps.same {op : SOp} (h : s' = s) : Keeps op s s' := by
  subst h
  exact ⟨rfl, fun _ => rfl, fun _ => rfl⟩

theorem Keeps.pure {op : SOp} {x : Option AV} (h : s.pure x = some (v, s')) : Keeps op s s' := .same (pure_same h)

theorem Keeps.newVar {op : SOp} {dd : Nat} {lv : LVar} (ho : op.wVars = true) (h : s.newVar dd lv = some (v, s')) : Keeps op s s' := by
  unfold St.newVar at h
  split at h
  · simp only [Option.some.injEq, Prod.mk.injEq] at h
    obtain ⟨_, rfl⟩ := h
    exact ⟨rfl, (fun q => by rw [ho] at q; cases q), fun _ => rfl⟩
  · cases h

theorem astore_shape {n : Nat} {p x : AV} (h : astore s bar n p x = some s') : s'.env = s.env ∧ ((∃ b bl i off, p = .hptr b bl i off ∧ s'.vars = s.vars) ∨ (∃ dd off, p = .lptr dd off ∧ s'.heap = s.heap)) := by
  unfold astore at h
  simp only at h
  obtain ⟨_, h⟩ := of_ite h
  split at h
  · split at h
    · obtain ⟨_, h⟩ := of_ite h
      obtain ⟨cs, _, h⟩ := bind_some h
      obtain ⟨_, h⟩ := of_ite h
      injection h with h
      subst h
      exact ⟨rfl, .inl ⟨_, _, _, _, rfl, rfl⟩⟩
    · cases h
  · split at h
    · obtain ⟨_, h⟩ := of_ite h
      injection h with h
      subst h
      exact ⟨rfl, .inr ⟨_, _, rfl, rfl⟩⟩
    · cases h
  · cases h

theorem aop_keeps {op : SOp} (hp : ∀ f as h v h', pureId f = true → call f as h = some (v, h') → h' = h) (hv : aop call bar s op = some (v, s')) : Keeps op s s' := by
  have hcall : ∀ {f : Nat} {as : List AV} {y : AV × AHeap}, call f as s.heap = some y → s' = { s with heap := y.2 } → (op.wHeap = false → pureId f = true) → Keeps op s s' := by
    intro f as y hc he hw
    subst he
    exact ⟨rfl, fun _ => rfl, fun q => hp f as s.heap y.1 y.2 (hw q) hc⟩
  cases op
  case mv x => simp only [aop, Option.some.injEq, Prod.mk.injEq] at hv; exact .same hv.2.symm
  case pick c a b =>
    simp only [aop] at hv
    split at hv
    · simp only [Option.some.injEq, Prod.mk.injEq] at hv; exact .same hv.2.symm
    · cases hv
  case box p x =>
    simp only [aop] at hv
    obtain ⟨_, hv⟩ := of_ite hv
    cases p
    · simp only [Option.some.injEq, Prod.mk.injEq] at hv; obtain ⟨_, rfl⟩ := hv; exact ⟨rfl, fun _ => rfl, fun q => by cases q⟩
    · exact .newVar rfl hv
    · simp only [Option.some.injEq, Prod.mk.injEq] at hv; exact .same hv.2.symm
  case new p x =>
    simp only [aop] at hv
    cases p
    · simp only [Option.some.injEq, Prod.mk.injEq] at hv; obtain ⟨_, rfl⟩ := hv; exact ⟨rfl, fun _ => rfl, fun q => by cases q⟩
    · exact .newVar rfl hv
    · simp only [Option.some.injEq, Prod.mk.injEq] at hv; exact .same hv.2.symm
  case newrow => simp only [aop, Option.some.injEq, Prod.mk.injEq] at hv; obtain ⟨_, rfl⟩ := hv; exact ⟨rfl, fun _ => rfl, fun q => by cases q⟩
  case mkmap => simp only [aop, Option.some.injEq, Prod.mk.injEq] at hv; obtain ⟨_, rfl⟩ := hv; exact ⟨rfl, fun _ => rfl, fun q => by cases q⟩
  case build zero parts =>
    simp only [aop] at hv
    obtain ⟨y, _, he⟩ := map_some hv
    simp only [Prod.mk.injEq] at he
    exact .same he.2.symm
  case bslice hh sz els parts =>
    simp only [aop] at hv
    obtain ⟨y, _, he⟩ := map_some hv
    cases hh
    · simp only [Bool.false_eq_true, if_false, Prod.mk.injEq] at he
      exact .same he.2.symm
    · simp only [if_true, Prod.mk.injEq] at he
      obtain ⟨_, rfl⟩ := he
      exact ⟨rfl, fun _ => rfl, fun q => by cases q⟩
  case load m n x =>
    simp only [aop] at hv
    obtain ⟨_, hv⟩ := of_ite hv
    exact .pure hv
  case store m n a x =>
    simp only [aop] at hv
    obtain ⟨hm, hv⟩ := of_ite hv
    obtain ⟨s1, h1, he⟩ := map_some hv
    simp only [Prod.mk.injEq] at he
    obtain ⟨_, rfl⟩ := he
    obtain ⟨he, h2⟩ := astore_shape h1
    rcases h2 with ⟨b, bl, i, off, hp1, hv1⟩ | ⟨dd, off, hp1, hh1⟩
    · rw [hp1] at hm
      exact ⟨he, fun _ => hv1, (fun q => by cases m <;> first | (cases hm; done) | (cases q; done))⟩
    · rw [hp1] at hm
      exact ⟨he, (fun q => by cases m <;> first | (cases hm; done) | (cases q; done)), fun _ => hh1⟩
  case nilchk x =>
    simp only [aop] at hv
    split at hv <;> first | (cases hv; done) | (simp only [Option.some.injEq, Prod.mk.injEq] at hv; exact .same hv.2.symm)
  case bin op k x y => exact .pure hv
  case un op x => exact .pure hv
  case cvint k x =>
    simp only [aop] at hv
    split at hv <;> first | (cases hv; done) | (simp only [Option.some.injEq, Prod.mk.injEq] at hv; exact .same hv.2.symm)
  case cvid x =>
    simp only [aop] at hv
    split at hv <;> first | (cases hv; done) | (simp only [Option.some.injEq, Prod.mk.injEq] at hv; exact .same hv.2.symm)
  case s2b hh x =>
    simp only [aop] at hv
    split at hv
    · obtain ⟨_, hv⟩ := of_ite hv
      cases hh
      · simp only [Bool.false_eq_true, if_false, Option.some.injEq, Prod.mk.injEq] at hv
        exact .same hv.2.symm
      · simp only [if_true, Option.some.injEq, Prod.mk.injEq] at hv
        obtain ⟨_, rfl⟩ := hv
        exact ⟨rfl, fun _ => rfl, fun q => by cases q⟩
    · cases hv
  case b2s x =>
    simp only [aop] at hv
    split at hv
    · cases hv
    · obtain ⟨b, _, he⟩ := map_some hv
      simp only [Prod.mk.injEq] at he
      exact .same he.2.symm
  case mkif t x =>
    simp only [aop] at hv
    split at hv <;> split at hv <;> first | (cases hv; done) | (simp only [Option.some.injEq, Prod.mk.injEq] at hv; exact .same hv.2.symm)
  case mkfn f xs ys => simp only [aop, Option.some.injEq, Prod.mk.injEq] at hv; exact .same hv.2.symm
  case mkslice sz zero l c =>
    simp only [aop] at hv
    split at hv
    · obtain ⟨_, hv⟩ := of_ite hv
      simp only [Option.some.injEq, Prod.mk.injEq] at hv
      obtain ⟨_, rfl⟩ := hv
      exact ⟨rfl, fun _ => rfl, fun q => by cases q⟩
    · cases hv
  case slice k sz x lo hi mx => exact .pure hv
  case slicearr n sz x lo hi =>
    simp only [aop] at hv
    split at hv
    · obtain ⟨l, _, hv⟩ := bind_some hv
      obtain ⟨r, _, hv⟩ := bind_some hv
      obtain ⟨els, _, hv⟩ := bind_some hv
      obtain ⟨_, hv⟩ := of_ite hv
      simp only [Option.some.injEq, Prod.mk.injEq] at hv
      exact .same hv.2.symm
    · cases hv
  case faddr off x => exact .pure hv
  case field off n x =>
    simp only [aop] at hv
    split at hv <;> first | (cases hv; done) | exact .pure hv
  case iaddr arr sz x i =>
    simp only [aop] at hv
    split at hv <;> first | (cases hv; done) | exact .pure hv
  case idx arr x i =>
    simp only [aop] at hv
    split at hv <;> first | (cases hv; done) | exact .pure hv
  case extract i x =>
    simp only [aop] at hv
    split at hv <;> first | (cases hv; done) | exact .pure hv
  case srange dd x =>
    simp only [aop] at hv
    split at hv
    · exact .newVar rfl hv
    · cases hv
  case snext x =>
    simp only [aop] at hv
    split at hv
    · split at hv
      · split at hv <;> (simp only [Option.some.injEq, Prod.mk.injEq] at hv; obtain ⟨_, rfl⟩ := hv; exact ⟨rfl, (fun q => by cases q), fun _ => rfl⟩)
      · cases hv
    · cases hv
  case len arr k x => exact .pure hv
  case cap x => exact .pure hv
  case append sz zero a x =>
    simp only [aop] at hv
    split at hv
    · obtain ⟨ys, _, hv⟩ := bind_some hv
      obtain ⟨y, _, he⟩ := map_some hv
      simp only [Prod.mk.injEq] at he
      obtain ⟨_, rfl⟩ := he
      exact ⟨rfl, fun _ => rfl, fun q => by cases q⟩
    · split at hv
      · obtain ⟨_, hv⟩ := of_ite hv
        obtain ⟨y, _, he⟩ := map_some hv
        simp only [Prod.mk.injEq] at he
        obtain ⟨_, rfl⟩ := he
        exact ⟨rfl, fun _ => rfl, fun q => by cases q⟩
      · cases hv
  case copy sz a x =>
    simp only [aop] at hv
    obtain ⟨y, _, he⟩ := map_some hv
    simp only [Prod.mk.injEq] at he
    obtain ⟨_, rfl⟩ := he
    exact ⟨rfl, fun _ => rfl, fun q => by cases q⟩
  case clear sz zero x =>
    simp only [aop] at hv
    obtain ⟨y, _, he⟩ := map_some hv
    simp only [Prod.mk.injEq] at he
    obtain ⟨_, rfl⟩ := he
    exact ⟨rfl, fun _ => rfl, fun q => by cases q⟩
  case minmax mx xs => exact .pure hv
  case ext k xs => exact .pure hv
  case lookup zero ok m k =>
    simp only [aop] at hv
    split at hv
    · split at hv
      · simp only [Option.some.injEq, Prod.mk.injEq] at hv
        exact .same hv.2.symm
      · split at hv
        · split at hv <;> (simp only [Option.some.injEq, Prod.mk.injEq] at hv; exact .same hv.2.symm)
        · cases hv
      · cases hv
    · cases hv
  case mapupd m k x =>
    simp only [aop] at hv
    split at hv
    · split at hv
      · obtain ⟨_, hv⟩ := of_ite hv
        simp only [Option.some.injEq, Prod.mk.injEq] at hv
        obtain ⟨_, rfl⟩ := hv
        exact ⟨rfl, fun _ => rfl, fun q => by cases q⟩
      · cases hv
    · cases hv
  case callf f xs =>
    simp only [aop] at hv
    obtain ⟨y, hc, he⟩ := map_some hv
    simp only [Prod.mk.injEq] at he
    exact hcall hc he.2.symm (fun q => by simpa [SOp.wHeap] using q)
  case callv p f xs =>
    simp only [aop] at hv
    split at hv
    · rename_i g first cap hf
      obtain ⟨hn, hv⟩ := of_ite' hv
      obtain ⟨y, hc, he⟩ := map_some hv
      simp only [Prod.mk.injEq] at he
      refine hcall hc he.2.symm (fun q => ?_)
      have hpt : p = true := by simpa [SOp.wHeap] using q
      simpa [hpt] using hn
    · cases hv

/-! ### What is laid behind is not seen -/
theorem get_push {h : AHeap} {b : Nat} {blk x : ABlk} (e : h[b]? = some x) : (h ++ [blk])[b]? = some x := by
  rw [List.getElem?_append_left (List.getElem?_eq_some_iff.1 e).1]
  exact e

theorem heapRow_push {h : AHeap} {b bl sz : Nat} {blk : ABlk} {els : List (List AV)} (e : heapRow h b bl sz = some els) : heapRow (h ++ [blk]) b bl sz = some els := by
  obtain ⟨h1, h2⟩ := heapRow_some e
  simp [heapRow, get_push h1, h2]

theorem sliceEls_push {h : AHeap} {sz : Nat} {x : AV} {blk : ABlk} {els : List (List AV)} (e : sliceEls h sz x = some els) : sliceEls (h ++ [blk]) sz x = some els := by
  cases x <;> first | exact e | skip
  simp only [sliceEls] at e ⊢
  obtain ⟨h1, e⟩ := of_ite e
  obtain ⟨r, h2, h3⟩ := bind_some e
  rw [if_pos h1, heapRow_push h2]
  exact h3

theorem aload_push {n : Option Nat} {p : AV} {blk : ABlk} (e : aload s n p = some v) : aload { s with heap := s.heap ++ [blk] } n p = some v := by
  cases p <;> first | exact e | skip
  simp only [aload] at e ⊢
  split at e
  · rename_i sz els he
    rw [get_push he]
    exact e
  · cases e

theorem aslice_push {k : TK} {h : AHeap} {x : AV} {lo hi mx : Option AV} {blk : ABlk} (e : aslice k h x lo hi mx = some v) : aslice k (h ++ [blk]) x lo hi mx = some v := by
  cases k <;> cases x <;> first | exact e | skip
  simp only [aslice] at e ⊢
  obtain ⟨l, h1, e⟩ := bind_some e
  obtain ⟨r, h2, e⟩ := bind_some e
  rw [h1]
  simp only [Option.bind_some]
  rw [heapRow_push h2]
  exact e

theorem still0_push {op : SOp} (h : op.still0 = true) {blk : ABlk} (hv : aop call bar s op = some (v, s')) : aop call bar { s with heap := s.heap ++ [blk] } op = some (v, { s with heap := s.heap ++ [blk] }) := by
  have hr : ({ s with heap := s.heap ++ [blk] } : St).raw = s.raw := raw_env rfl
  have hva : ({ s with heap := s.heap ++ [blk] } : St).val = s.val := val_env rfl
  have hpu : ∀ {x y : Option AV}, (∀ v, x = some v → y = some v) → s.pure x = some (v, s') → ({ s with heap := s.heap ++ [blk] } : St).pure y = some (v, { s with heap := s.heap ++ [blk] }) := by
    intro x y hxy hx
    simp only [St.pure] at hx ⊢
    obtain ⟨u, h1, h2⟩ := map_some hx
    simp only [Prod.mk.injEq] at h2
    obtain ⟨rfl, _⟩ := h2
    rw [hxy _ h1]
    rfl
  cases op <;> first | (cases h; done) | skip
  case load m n x =>
    simp only [aop, hr] at hv ⊢
    obtain ⟨hm, hv⟩ := of_ite hv
    rw [if_pos hm]
    exact hpu (fun v => aload_push) hv
  case b2s x =>
    simp only [aop, hva] at hv ⊢
    split at hv
    · cases hv
    · rename_i y hy
      obtain ⟨b, h1, h2⟩ := map_some hv
      obtain ⟨els, h3, h4⟩ := bind_some h1
      simp only [Prod.mk.injEq] at h2
      obtain ⟨rfl, _⟩ := h2
      rw [sliceEls_push h3]
      simp only [Option.bind_some, h4, Option.map_some]
  case slice k sz x lo hi mx =>
    simp only [aop, hva] at hv ⊢
    refine hpu (fun v hx => ?_) hv
    obtain ⟨h1, h2⟩ := of_ite' hx
    rw [if_neg h1]
    exact aslice_push h2
  case slicearr n sz x lo hi =>
    simp only [aop, hr, hva] at hv ⊢
    split at hv
    · obtain ⟨l, h1, hv⟩ := bind_some hv
      obtain ⟨r, h2, hv⟩ := bind_some hv
      obtain ⟨els, h3, hv⟩ := bind_some hv
      obtain ⟨h4, hv⟩ := of_ite hv
      simp only [Option.some.injEq, Prod.mk.injEq] at hv
      obtain ⟨rfl, _⟩ := hv
      simp only [h1, h2, Option.bind_some]
      rw [heapRow_push h3]
      simp only [Option.bind_some]
      rw [if_pos h4]
    · cases hv
  case iaddr arr sz x i =>
    simp only [aop, hr, hva] at hv ⊢
    split at hv
    · refine hpu (fun v hx => ?_) hv
      cases arr with
      | some n => exact hx
      | none =>
        cases hraw : s.raw x <;> rw [hraw] at hx <;> first | exact hx | skip
        simp only [aiaddr] at hx ⊢
        obtain ⟨h1, hx⟩ := of_ite hx
        obtain ⟨els, h2, hx⟩ := bind_some hx
        rw [if_pos h1, heapRow_push h2]
        exact hx
    · cases hv
  case len arr k x =>
    simp only [aop, hva] at hv ⊢
    refine hpu (fun v hx => ?_) hv
    obtain ⟨n, h1, h2⟩ := map_some hx
    have : alen (s.heap ++ [blk]) arr k (s.val x) = some n := by
      cases arr with
      | some m => exact h1
      | none =>
        cases k <;> cases hraw : s.val x <;> rw [hraw] at h1 <;> first | exact h1 | skip
        simp only [alen] at h1 ⊢
        split at h1
        · rename_i es he
          rw [get_push he]
          exact h1
        · cases h1
    rw [this, ← h2]
    rfl
  case cap x =>
    simp only [aop, hva] at hv ⊢
    refine hpu (fun v hx => ?_) hv
    obtain ⟨n, h1, h2⟩ := map_some hx
    have : acap (s.heap ++ [blk]) (s.val x) = some n := by
      unfold acap at h1 ⊢
      split at h1
      · exact h1
      · exact h1
      · obtain ⟨els, h3, h4⟩ := map_some h1
        rw [heapRow_push h3, ← h4]
        rfl
      · cases h1
    rw [this, ← h2]
    rfl
  case lookup zero ok m k =>
    simp only [aop, hva] at hv ⊢
    split at hv
    · split at hv
      · simp only [Option.some.injEq, Prod.mk.injEq] at hv
        obtain ⟨rfl, _⟩ := hv
        rfl
      · split at hv
        · rename_i es he
          rw [get_push he]
          simp only
          split at hv <;> rename_i hg <;> (simp only [Option.some.injEq, Prod.mk.injEq] at hv; obtain ⟨rfl, _⟩ := hv; rfl)
        · cases hv
      · cases hv
    · cases hv

theorem push_shape {op : SOp} (h : op.push = true) (hv : aop call bar s op = some (v, s')) : ∃ blk, s' = { s with heap := s.heap ++ [blk] } := by
  cases op <;> first | (cases h; done) | skip
  case box p x =>
    cases p <;> first | (cases h; done) | skip
    simp only [aop] at hv
    obtain ⟨_, hv⟩ := of_ite hv
    simp only [Option.some.injEq, Prod.mk.injEq] at hv
    exact ⟨_, hv.2.symm⟩
  case new p x =>
    cases p <;> first | (cases h; done) | skip
    simp only [aop, Option.some.injEq, Prod.mk.injEq] at hv
    exact ⟨_, hv.2.symm⟩
  case newrow =>
    simp only [aop, Option.some.injEq, Prod.mk.injEq] at hv
    exact ⟨_, hv.2.symm⟩
  case bslice hh sz els parts =>
    cases hh
    · cases h
    · simp only [aop] at hv
      obtain ⟨y, _, hv⟩ := map_some hv
      simp only [if_true, Prod.mk.injEq] at hv
      exact ⟨_, hv.2.symm⟩
  case s2b hh x =>
    cases hh
    · cases h
    · simp only [aop] at hv
      split at hv
      · obtain ⟨_, hv⟩ := of_ite hv
        simp only [if_true, Option.some.injEq, Prod.mk.injEq] at hv
        exact ⟨_, hv.2.symm⟩
      · cases hv
  case mkslice sz zero l c =>
    simp only [aop] at hv
    split at hv
    · obtain ⟨_, hv⟩ := of_ite hv
      simp only [Option.some.injEq, Prod.mk.injEq] at hv
      exact ⟨_, hv.2.symm⟩
    · cases hv
  case mkmap =>
    simp only [aop, Option.some.injEq, Prod.mk.injEq] at hv
    exact ⟨_, hv.2.symm⟩


/-! ### One step -/
def acore (call : Caller) (bar : Nat) (i : SI) (s : St) : Option (AV × St) :=
  match i.wanted s with
  | some true => aop call bar s i.op
  | some false => some (.undef, s)
  | none => none

theorem astep_core (i : SI) (s : St) : astep call bar i s = (acore call bar i s).map fun p => p.2.set i.dst p.1 := by
  unfold astep acore
  cases i.wanted s with
  | none => rfl
  | some b => cases b <;> rfl

def SI.looks (i : SI) : List Nat := i.op.looks ++ (match i.guard with | some (t, _) => [t] | none => [])

def apartD (dst : Option Nat) (y : SI) : Bool :=
  match dst with
  | some d => !(y.looks.contains d) && y.dst != some d
  | none => true

def apartSI (x y : SI) : Bool := apartD x.dst y && apartD y.dst x

def heapOK (x y : SOp) : Bool := !x.onHeap || !y.onHeap || (!x.wHeap && !y.wHeap)
def varsOK (x y : SOp) : Bool := !x.onVars || !y.onVars || (!x.wVars && !y.wVars)

def SOp.slot : SOp → Option Nat
  | .box (.loc d) _ => some d
  | .new (.loc d) _ => some d
  | .srange d _ => some d
  | _ => none

def slotsOK (x y : SOp) : Bool :=
  match x.slot, y.slot with
  | some d, some e => d != e
  | _, _ => false

def freeSI (x y : SI) : Bool := apartSI x y && ((heapOK x.op y.op && varsOK x.op y.op) || (x.op.still0 && y.op.push) || slotsOK x.op y.op)

theorem newVar_some {dd : Nat} {lv : LVar} (h : s.newVar dd lv = some (v, s')) : v = .lptr dd 0 ∧ varGet s.vars dd = none ∧ s' = { s with vars := varSet s.vars dd lv } := by
  unfold St.newVar at h
  split at h
  · rename_i hf
    simp only [Option.some.injEq, Prod.mk.injEq] at h
    exact ⟨h.1.symm, hf, h.2.symm⟩
  · cases h

theorem newVar_of {dd : Nat} {lv : LVar} (h : varGet s.vars dd = none) : s.newVar dd lv = some (.lptr dd 0, { s with vars := varSet s.vars dd lv }) := by
  unfold St.newVar
  rw [h]

theorem slot_shape {op : SOp} {dd : Nat} (h : op.slot = some dd) (hv : aop call bar s op = some (v, s')) :
    ∃ lv, v = .lptr dd 0 ∧ varGet s.vars dd = none ∧ s' = { s with vars := varSet s.vars dd lv } ∧
      ∀ s2 : St, s2.env = s.env → varGet s2.vars dd = none → aop call bar s2 op = some (.lptr dd 0, { s2 with vars := varSet s2.vars dd lv }) := by
  cases op <;> first | (cases h; done) | skip
  case box p x =>
    cases p <;> first | (cases h; done) | skip
    simp only [SOp.slot, Option.some.injEq] at h
    subst h
    simp only [aop] at hv
    obtain ⟨h1, hv⟩ := of_ite hv
    obtain ⟨h2, h3, h4⟩ := newVar_some hv
    refine ⟨_, h2, h3, h4, fun s2 he hf => ?_⟩
    simp only [aop, val_env he]
    rw [if_pos h1]
    exact newVar_of hf
  case new p cs =>
    cases p <;> first | (cases h; done) | skip
    simp only [SOp.slot, Option.some.injEq] at h
    subst h
    simp only [aop] at hv
    obtain ⟨h2, h3, h4⟩ := newVar_some hv
    exact ⟨_, h2, h3, h4, fun s2 he hf => newVar_of hf⟩
  case srange d x =>
    simp only [SOp.slot, Option.some.injEq] at h
    subst h
    simp only [aop] at hv
    split at hv
    · rename_i b hb
      obtain ⟨h2, h3, h4⟩ := newVar_some hv
      refine ⟨_, h2, h3, h4, fun s2 he hf => ?_⟩
      simp only [aop, val_env he, hb]
      exact newVar_of hf
    · cases hv

theorem acore_slot {i : SI} {dd : Nat} (h : i.op.slot = some dd) (hv : acore call bar i s = some (v, s')) :
    (s' = s ∧ ∀ s2 : St, s2.env = s.env → acore call bar i s2 = some (v, s2)) ∨
    ∃ lv, varGet s.vars dd = none ∧ s' = { s with vars := varSet s.vars dd lv } ∧
      ∀ s2 : St, s2.env = s.env → varGet s2.vars dd = none → acore call bar i s2 = some (v, { s2 with vars := varSet s2.vars dd lv }) := by
  unfold acore at hv
  split at hv
  · rename_i hw
    obtain ⟨lv, h1, h2, h3, h4⟩ := slot_shape h hv
    refine .inr ⟨lv, h2, h3, fun s2 he hf => ?_⟩
    have : i.wanted s2 = some true := by rw [← hw]; simp [SI.wanted, he]
    unfold acore
    rw [this, h1]
    exact h4 s2 he hf
  · rename_i hw
    simp only [Option.some.injEq, Prod.mk.injEq] at hv
    refine .inl ⟨hv.2.symm, fun s2 he => ?_⟩
    have : i.wanted s2 = some false := by rw [← hw]; simp [SI.wanted, he]
    unfold acore
    rw [this, ← hv.1]
  · cases hv

theorem wanted_set {i : SI} (hd : d ∉ i.looks) : i.wanted (s.set (some d) u) = i.wanted s := by
  unfold SI.wanted
  cases hg : i.guard with
  | none => rfl
  | some p =>
    obtain ⟨t, want⟩ := p
    have : d ≠ t := by
      simp only [SI.looks, hg, List.mem_append, List.mem_singleton, not_or] at hd
      exact hd.2
    simp [set_get, this]

theorem acore_set {i : SI} {dst : Option Nat} (hd : apartD dst i = true) : acore call bar i (s.set dst u) = (acore call bar i s).map fun p => (p.1, p.2.set dst u) := by
  cases dst with
  | none =>
    show acore call bar i s = (acore call bar i s).map fun p => p
    simp
  | some d =>
    simp only [apartD, Bool.and_eq_true, Bool.not_eq_true', List.contains_eq_mem, decide_eq_false_iff_not] at hd
    have hd1 := hd.1
    unfold acore
    rw [wanted_set hd1]
    cases i.wanted s with
    | none => rfl
    | some b =>
      cases b
      · rfl
      · exact aop_set (fun h => hd1 (by simp [SI.looks, h]))

theorem acore_keeps {i : SI} (hp : ∀ f as h v h', pureId f = true → call f as h = some (v, h') → h' = h) (hv : acore call bar i s = some (v, s')) : Keeps i.op s s' := by
  unfold acore at hv
  split at hv
  · exact aop_keeps hp hv
  · simp only [Option.some.injEq, Prod.mk.injEq] at hv
    exact .same hv.2.symm
  · cases hv

theorem off_w {op : SOp} : op.onHeap = false → op.wHeap = false := by
  intro h
  cases op <;> first | rfl | exact h | cases h

theorem off_wv {op : SOp} : op.onVars = false → op.wVars = false := by
  intro h
  cases op <;> first | rfl | exact h

theorem acore_heap {i : SI} (h : i.op.onHeap = false) (h2 : AHeap) : acore call bar i { s with heap := h2 } = (acore call bar i s).map fun p => (p.1, { p.2 with heap := h2 }) := by
  unfold acore
  have : i.wanted { s with heap := h2 } = i.wanted s := rfl
  rw [this]
  cases i.wanted s with
  | none => rfl
  | some b =>
    cases b
    · rfl
    · exact off_heap h h2

theorem acore_vars {i : SI} (h : i.op.onVars = false) (vs2 : List (Nat × LVar)) : acore call bar i { s with vars := vs2 } = (acore call bar i s).map fun p => (p.1, { p.2 with vars := vs2 }) := by
  unfold acore
  have : i.wanted { s with vars := vs2 } = i.wanted s := rfl
  rw [this]
  cases i.wanted s with
  | none => rfl
  | some b =>
    cases b
    · rfl
    · exact off_vars h vs2

/-- in another state that is alike where it is looked at -/
theorem acore_move {i : SI} (hp : ∀ f as h v h', pureId f = true → call f as h = some (v, h') → h' = h) (hv : acore call bar i s = some (v, s')) (he : s2.env = s.env) (hh : s2.heap = s.heap ∨ i.op.onHeap = false) (hvs : s2.vars = s.vars ∨ i.op.onVars = false) :
    ∃ s2', acore call bar i s2 = some (v, s2') ∧ s2'.env = s2.env ∧ s2'.heap = (if i.op.onHeap then s'.heap else s2.heap) ∧ s2'.vars = (if i.op.onVars then s'.vars else s2.vars) := by
  have K := acore_keeps hp hv
  -- the heap first
  have h1 : ∃ s1', acore call bar i { s with heap := s2.heap } = some (v, s1') ∧ s1'.env = s.env ∧ s1'.heap = (if i.op.onHeap then s'.heap else s2.heap) ∧ s1'.vars = s'.vars := by
    by_cases q : i.op.onHeap = true
    · have e : s2.heap = s.heap := hh.resolve_right (by rw [q]; simp)
      have e2 : ({ s with heap := s2.heap } : St) = s := by rw [e]
      rw [e2]
      exact ⟨s', hv, K.env, by simp [q], rfl⟩
    · have q' : i.op.onHeap = false := by simpa using q
      rw [acore_heap q', hv]
      exact ⟨_, rfl, K.env, by simp [q'], rfl⟩
  obtain ⟨s1', h2, h3, h4, h5⟩ := h1
  by_cases q : i.op.onVars = true
  · have e : s2.vars = s.vars := hvs.resolve_right (by rw [q]; simp)
    have e2 : ({ s with heap := s2.heap } : St) = s2 := by
      obtain ⟨e1, v1, h1⟩ := s2
      simp only at e he
      subst e he
      rfl
    rw [e2] at h2
    exact ⟨s1', h2, h3.trans he.symm, h4, by simp [q, h5]⟩
  · have q' : i.op.onVars = false := by simpa using q
    have e2 : s2 = { ({ s with heap := s2.heap } : St) with vars := s2.vars } := by
      obtain ⟨e1, v1, h1⟩ := s2
      simp only at he
      subst he
      rfl
    have h6 := acore_vars (call := call) (bar := bar) (s := { s with heap := s2.heap }) q' s2.vars
    rw [← e2, h2] at h6
    exact ⟨_, h6, h3.trans he.symm, h4, by simp [q']⟩

theorem set_comm (s : St) {x y : Option Nat} (v u : AV) (h : ∀ d, x = some d → y ≠ some d) : (s.set x v).set y u = (s.set y u).set x v := by
  cases x with
  | none => rfl
  | some d =>
    cases y with
    | none => rfl
    | some e =>
      have hne : d ≠ e := fun q => h d rfl (by rw [q])
      simp [St.set, envPut_comm hne]

theorem apartD_ne {dst : Option Nat} {y : SI} (h : apartD dst y = true) : ∀ d, dst = some d → y.dst ≠ some d := by
  intro d hd
  subst hd
  simp only [apartD, Bool.and_eq_true, bne_iff_ne] at h
  exact h.2

theorem still0_same {op : SOp} (h : op.still0 = true) (hv : aop call bar s op = some (v, s')) : s' = s := by
  have K := aop_keeps (op := op) (call := call) (bar := bar) (s := s) (s' := s') (v := v)
  cases op <;> first | (cases h; done) | skip
  case load m n x =>
    simp only [aop] at hv
    obtain ⟨_, hv⟩ := of_ite hv
    exact pure_same hv
  case b2s x =>
    simp only [aop] at hv
    split at hv
    · cases hv
    · obtain ⟨b, _, he⟩ := map_some hv
      simp only [Prod.mk.injEq] at he
      exact he.2.symm
  case slice k sz x lo hi mx => exact pure_same hv
  case slicearr n sz x lo hi =>
    simp only [aop] at hv
    split at hv
    · obtain ⟨l, _, hv⟩ := bind_some hv
      obtain ⟨r, _, hv⟩ := bind_some hv
      obtain ⟨els, _, hv⟩ := bind_some hv
      obtain ⟨_, hv⟩ := of_ite hv
      simp only [Option.some.injEq, Prod.mk.injEq] at hv
      exact hv.2.symm
    · cases hv
  case iaddr arr sz x i =>
    simp only [aop] at hv
    split at hv
    · exact pure_same hv
    · cases hv
  case len arr k x => exact pure_same hv
  case cap x => exact pure_same hv
  case lookup zero ok m k =>
    simp only [aop] at hv
    split at hv
    · split at hv
      · simp only [Option.some.injEq, Prod.mk.injEq] at hv
        exact hv.2.symm
      · split at hv
        · split at hv <;> (simp only [Option.some.injEq, Prod.mk.injEq] at hv; exact hv.2.symm)
        · cases hv
      · cases hv
    · cases hv

theorem acore_push {x y : SI} (hx : x.op.still0 = true) (hy : y.op.push = true) {vx vy : AV} {sx sy : St} (h1 : acore call bar x s = some (vx, sx)) (h2 : acore call bar y s = some (vy, sy)) : sx = s ∧ acore call bar x sy = some (vx, sy) := by
  have hs : sy = s ∨ ∃ blk, sy = { s with heap := s.heap ++ [blk] } := by
    unfold acore at h2
    split at h2
    · exact .inr (push_shape hy h2)
    · simp only [Option.some.injEq, Prod.mk.injEq] at h2
      exact .inl h2.2.symm
    · cases h2
  have hsx : sx = s := by
    unfold acore at h1
    split at h1
    · exact still0_same hx h1
    · simp only [Option.some.injEq, Prod.mk.injEq] at h1
      exact h1.2.symm
    · cases h1
  subst hsx
  refine ⟨rfl, ?_⟩
  rcases hs with rfl | ⟨blk, rfl⟩
  · exact h1
  · unfold acore at h1 ⊢
    have hw : x.wanted { sx with heap := sx.heap ++ [blk] } = x.wanted sx := rfl
    rw [hw]
    split at h1
    · exact still0_push hx h1
    · simp only [Option.some.injEq, Prod.mk.injEq] at h1
      rw [h1.1]
    · cases h1

/-- two operations change places -/
theorem swap {x y : SI} {s1 : St} (hp : ∀ f as h v h', pureId f = true → call f as h = some (v, h') → h' = h) (hf : freeSI x y = true) (h1 : astep call bar x s = some s1) (h2 : astep call bar y s1 = some s2) :
    ∃ s1', astep call bar y s = some s1' ∧ astep call bar x s1' = some s2 := by
  simp only [freeSI, apartSI, Bool.and_eq_true, Bool.or_eq_true] at hf
  obtain ⟨⟨hxy, hyx⟩, hf⟩ := hf
  rw [astep_core] at h1 h2
  obtain ⟨⟨vx, sx⟩, hx, rfl⟩ := map_some h1
  rw [acore_set hxy] at h2
  obtain ⟨⟨vy, sy'⟩, hy', rfl⟩ := map_some h2
  obtain ⟨⟨vy1, sy⟩, hy, he⟩ := map_some hy'
  simp only [Prod.mk.injEq] at he
  obtain ⟨rfl, rfl⟩ := he
  simp only [astep_core]
  rcases hf with (⟨hh, hv⟩ | hf) | hf
  · have Kx := acore_keeps hp hx
    have Ky := acore_keeps hp hy
    have hh' : x.op.onHeap = false ∨ y.op.onHeap = false ∨ (x.op.wHeap = false ∧ y.op.wHeap = false) := by
      simp only [heapOK, Bool.or_eq_true, Bool.and_eq_true, Bool.not_eq_true'] at hh
      rcases hh with (h | h) | h
      · exact .inl h
      · exact .inr (.inl h)
      · exact .inr (.inr h)
    have hv' : x.op.onVars = false ∨ y.op.onVars = false ∨ (x.op.wVars = false ∧ y.op.wVars = false) := by
      simp only [varsOK, Bool.or_eq_true, Bool.and_eq_true, Bool.not_eq_true'] at hv
      rcases hv with (h | h) | h
      · exact .inl h
      · exact .inr (.inl h)
      · exact .inr (.inr h)
    obtain ⟨sy1, a1, a2, a3, a4⟩ := acore_move (s2 := s) hp hy Kx.env.symm
      (by rcases hh' with h | h | h
          · exact .inl (Kx.heap (off_w h)).symm
          · exact .inr h
          · exact .inl (Kx.heap h.1).symm)
      (by rcases hv' with h | h | h
          · exact .inl (Kx.vars (off_wv h)).symm
          · exact .inr h
          · exact .inl (Kx.vars h.1).symm)
    obtain ⟨sx1, b1, b2, b3, b4⟩ := acore_move (s2 := sy1) hp hx a2
      (by rcases hh' with h | h | h
          · exact .inr h
          · exact .inl (by rw [a3, h]; rfl)
          · refine .inl ?_
            rw [a3]
            split
            · rw [Ky.heap h.2, Kx.heap h.1]
            · rfl)
      (by rcases hv' with h | h | h
          · exact .inr h
          · exact .inl (by rw [a4, h]; rfl)
          · refine .inl ?_
            rw [a4]
            split
            · rw [Ky.vars h.2, Kx.vars h.1]
            · rfl)
    have e : sx1 = sy := by
      have e1 : sx1.env = sy.env := by rw [b2, a2, Ky.env, Kx.env]
      have e2 : sx1.heap = sy.heap := by
        rw [b3, a3]
        by_cases q : x.op.onHeap = true
        · rw [if_pos q]
          rcases hh' with h | h | h
          · rw [q] at h; cases h
          · exact (Ky.heap (off_w h)).symm
          · exact (Ky.heap h.2).symm
        · rw [if_neg q]
          have qx := Kx.heap (off_w (by simpa using q))
          split
          · rfl
          · rename_i q2
            rw [Ky.heap (off_w (by simpa using q2)), qx]
      have e3 : sx1.vars = sy.vars := by
        rw [b4, a4]
        by_cases q : x.op.onVars = true
        · rw [if_pos q]
          rcases hv' with h | h | h
          · rw [q] at h; cases h
          · exact (Ky.vars (off_wv h)).symm
          · exact (Ky.vars h.2).symm
        · rw [if_neg q]
          have qx := Kx.vars (off_wv (by simpa using q))
          split
          · rfl
          · rename_i q2
            rw [Ky.vars (off_wv (by simpa using q2)), qx]
      obtain ⟨x1, x2, x3⟩ := sx1
      obtain ⟨y1, y2, y3⟩ := sy
      simp only at e1 e2 e3
      rw [e1, e2, e3]
    subst e
    refine ⟨_, by rw [a1]; rfl, ?_⟩
    rw [acore_set hyx, b1]
    simp only [Option.map_some]
    rw [set_comm _ _ _ (apartD_ne hxy)]
  · have hsx : sx = s := by
      unfold acore at hx
      split at hx
      · exact still0_same hf.1 hx
      · simp only [Option.some.injEq, Prod.mk.injEq] at hx
        exact hx.2.symm
      · cases hx
    subst hsx
    refine ⟨_, by rw [hy]; rfl, ?_⟩
    rw [acore_set hyx, (acore_push hf.1 hf.2 hx hy).2]
    simp only [Option.map_some]
    rw [set_comm _ _ _ (apartD_ne hxy)]
  · unfold slotsOK at hf
    split at hf
    · rename_i dx dy hdx hdy
      have hne : dx ≠ dy := by simpa using hf
      have fin : ∀ {sy1 sx1 : St}, acore call bar y s = some (vy1, sy1) → acore call bar x sy1 = some (vx, sx1) → sx1 = sy → ∃ s1', (acore call bar y s).map (fun p => p.2.set y.dst p.1) = some s1' ∧ (acore call bar x s1').map (fun p => p.2.set x.dst p.1) = some ((sy.set x.dst vx).set y.dst vy1) := by
        intro sy1 sx1 g1 g2 g3
        refine ⟨_, by rw [g1]; rfl, ?_⟩
        rw [acore_set hyx, g2, ← g3]
        simp only [Option.map_some]
        rw [set_comm _ _ _ (apartD_ne hxy)]
      rcases acore_slot hdx hx with ⟨e1, k1⟩ | ⟨lx, f1, e1, k1⟩
      · subst e1
        have Ky := acore_keeps hp hy
        exact fin hy (k1 sy Ky.env) rfl
      · rcases acore_slot hdy hy with ⟨e2, k2⟩ | ⟨ly, f2, e2, k2⟩
        · have he : s.env = sx.env := by rw [e1]
          exact fin (k2 s he) hx e2.symm
        · have he : s.env = sx.env := by rw [e1]
          have f2' : varGet s.vars dy = none := by
            rw [e1] at f2
            simp only [varGet_set] at f2
            rwa [if_neg (Ne.symm hne)] at f2
          refine fin (k2 s he f2') (k1 _ rfl ?_) ?_
          · simp only [varGet_set]
            rw [if_neg hne]
            exact f1
          · rw [e2, e1]
            simp only
            rw [varSet_comm hne]
    · cases hf

end
end Go.Ai
/-
  The abstract interpreter: a region whose operations come in any order.
-/
namespace Go.Ai
open Go.RowKit
set_option linter.unusedVariables false
set_option linter.unusedSimpArgs false

def edgesOf (o : Oper) : List Nat := (o.after.toList.filter fun e => Region.binds .any e).map (·.on)

def bitOf (B : List Nat) (i k : Nat) : Bool := (B.getD i 0).testBit k

def opEdges (ops : Array Oper) (i : Nat) : List Nat := ((ops[i]?).map edgesOf).getD []

def pairOK (sis : List SI) (k i : Nat) : Bool :=
  match sis[k]?, sis[i]? with
  | some x, some y => freeSI x y
  | _, _ => false

/-- whatever order is picked: what may come before another may as well come behind it -/
def orderOK (ops : Array Oper) (sis : List SI) (B : List Nat) : Bool :=
  (List.range ops.size).all fun i =>
    (opEdges ops i).all (fun e => decide (e < i)) &&
    (List.range ops.size).all (fun k => !bitOf B i k || (opEdges ops i).any fun e => e == k || bitOf B e k) &&
    (List.range i).all (fun k => bitOf B i k || pairOK sis k i)

def aopsI (call : Caller) (bar : Nat) (sis : List SI) : List Nat → St → Option St
  | [], s => some s
  | i :: r, s =>
    match sis[i]? with
    | some x => (astep call bar x s).bind (aopsI call bar sis r)
    | none => none

section
variable {P : Program} {fm : Nat → Nat} {fmi : Nat → Option Nat} {X : Nat → Prop} {bar N : Nat} {s s' sf : St} {w w' : World} {call : Caller} {a : Act} {o : Oper} {v : AV}
variable {ρ0 PV0 : Map} {h0 : AHeap} {w0 : World} {sis : List SI} {ops : Array Oper}

theorem aopsI_bubble (hp : ∀ f as h v h', pureId f = true → call f as h = some (v, h') → h' = h) {i : Nat} {post : List Nat} : ∀ (pre : List Nat) (s : St), (∀ k ∈ pre, pairOK sis k i = true) → aopsI call bar sis (pre ++ i :: post) s = some sf →
    ∃ y s1, sis[i]? = some y ∧ astep call bar y s = some s1 ∧ aopsI call bar sis (pre ++ post) s1 = some sf
  | [], s, _, h => by
    simp only [List.nil_append, aopsI] at h
    cases hy : sis[i]? with
    | none => rw [hy] at h; cases h
    | some y =>
      rw [hy] at h
      obtain ⟨s1, h1, h2⟩ := bind_some h
      exact ⟨y, s1, rfl, h1, h2⟩
  | k :: pre, s, hk, h => by
    simp only [List.cons_append, aopsI] at h
    cases hx : sis[k]? with
    | none => rw [hx] at h; cases h
    | some x =>
      rw [hx] at h
      obtain ⟨sk, h1, h2⟩ := bind_some h
      obtain ⟨y, s1, hy, h3, h4⟩ := aopsI_bubble hp pre sk (fun j hj => hk j (by simp [hj])) h2
      have hf := hk k (by simp)
      simp only [pairOK, hx, hy] at hf
      obtain ⟨s1', h5, h6⟩ := swap hp hf h1 h3
      refine ⟨y, s1', hy, h5, ?_⟩
      simp only [List.cons_append, aopsI, hx, h6, Option.bind_some]
      exact h4

theorem aopsI_range : ∀ (n k : Nat) (s : St), k + n = sis.length → aopsI call bar sis (List.range' k n) s = aops call bar (sis.drop k) s
  | 0, k, s, h => by
    rw [List.drop_of_length_le (by omega)]
    rfl
  | n + 1, k, s, h => by
    have hlt : k < sis.length := by omega
    rw [List.range'_succ, List.drop_eq_getElem_cons hlt, aops_cons]
    simp only [aopsI, List.getElem?_eq_getElem hlt]
    congr 1
    funext s1
    exact aopsI_range n (k + 1) s1 (by omega)

structure OrderOK (ops : Array Oper) (sis : List SI) (B : List Nat) : Prop where
  edge : ∀ i o, ops[i]? = some o → ∀ e ∈ o.after, Region.binds .any e = true → e.on < i
  bits : ∀ i o, ops[i]? = some o → ∀ k, k < ops.size → bitOf B i k = true → ∃ e ∈ o.after, Region.binds .any e = true ∧ (e.on = k ∨ bitOf B e.on k = true)
  pair : ∀ i, i < ops.size → ∀ k, k < i → bitOf B i k = true ∨ pairOK sis k i = true

theorem orderOK_spec {B : List Nat} (h : orderOK ops sis B = true) : OrderOK ops sis B := by
  simp only [orderOK, Bool.and_eq_true, List.all_eq_true, List.mem_range] at h
  have h2 := h
  have hmem : ∀ i o, ops[i]? = some o → ∀ e, e ∈ opEdges ops i ↔ ∃ e' ∈ o.after, Region.binds .any e' = true ∧ e'.on = e := fun i o ho e => by
    simp [opEdges, ho, edgesOf, and_assoc]
  refine ⟨fun i o ho e he hb => ?_, fun i o ho k hk hb => ?_, fun i hi k hk => ?_⟩
  · have hi := (Array.getElem?_eq_some_iff.1 ho).1
    have := (h2 i hi).1.1 e.on ((hmem i o ho e.on).2 ⟨e, he, hb, rfl⟩)
    simpa using this
  · have hi := (Array.getElem?_eq_some_iff.1 ho).1
    have := (h2 i hi).1.2 k hk
    rw [hb] at this
    simp only [Bool.not_true, Bool.false_or, List.any_eq_true, Bool.or_eq_true, beq_iff_eq] at this
    obtain ⟨e, he, hx⟩ := this
    obtain ⟨e', he', hb', rfl⟩ := (hmem i o ho e).1 he
    exact ⟨e', he', hb', hx⟩
  · have := (h2 i hi).2 k hk
    simpa using this

theorem getD_set {l : Array Bool} {i k : Nat} (hi : i < l.size) (b : Bool) : (l.setIfInBounds i true).getD k b = if i = k then true else l.getD k b := by
  simp only [Array.getD_eq_getD_getElem?, Array.getElem?_setIfInBounds]
  by_cases q : i = k
  · subst q; simp [hi]
  · simp [q]

theorem getD_bools {l : Array Bool} {k : Nat} (hk : k < l.size) (b c : Bool) : l.getD k b = l.getD k c := by
  simp [Array.getD_eq_getD_getElem?, hk]

theorem any_sound (O : CallOK P fm call bar) (hp : ∀ f as h v h', pureId f = true → call f as h = some (v, h') → h' = h) (hfm : ∀ f g, fmi f = some g → fm g = f) (hbar : bar ≤ h0.length) {hs : List SI}
    (hl : lSIs P fmi N ops hs ops.toList = some sis) {B : List Nat} (K : OrderOK ops sis B) {Q : Exit → Act → World → Prop} (hQ : ∀ a' w', At fm X bar N ρ0 PV0 h0 w0 sf a' w' → Q .normal a' w') :
    ∀ (fuel : Nat) (listed : Array Bool) (rem : List Nat) (s : St) (a : Act) (w : World), rem.length = fuel → listed.size = ops.size → rem = (List.range ops.size).filter (fun i => !listed.getD i true) →
      (∀ i k, listed.getD i false = true → k < ops.size → bitOf B i k = true → listed.getD k false = true) → At fm X bar N ρ0 PV0 h0 w0 s a w → aopsI call bar sis rem s = some sf →
      wpAny P .any ops Q fuel listed a w
  | 0, listed, rem, s, a, w, hn, hsz, hrem, hD, H, hv => by
    have h0 : rem = [] := List.length_eq_zero_iff.1 hn
    subst h0
    simp only [aopsI, Option.some.injEq] at hv
    subst hv
    refine ⟨List.eq_nil_iff_forall_not_mem.2 fun j hj => ?_, hQ _ _ H⟩
    obtain ⟨h1, oj, h2, _⟩ := mem_ready.1 hj
    have : j ∈ (List.range ops.size).filter (fun i => !listed.getD i true) := by
      simp only [List.mem_filter, List.mem_range, h1]
      exact ⟨(Array.getElem?_eq_some_iff.1 h2).1, rfl⟩
    rw [← hrem] at this
    cases this
  | fuel + 1, listed, rem, s, a, w, hn, hsz, hrem, hD, H, hv => by
    have hun : ∀ j, j ∈ rem ↔ j < ops.size ∧ listed.getD j true = false := fun j => by
      rw [hrem]; simp [List.mem_filter]
    refine ⟨fun h0 => ?_, fun i hi => ?_⟩
    · exfalso
      have key : ∀ m j, j < m → j ∈ rem → False := by
        intro m
        induction m with
        | zero => intro j hj; omega
        | succ m ih =>
          intro j hjm hj
          obtain ⟨hjn, hju⟩ := (hun j).1 hj
          have hoj : ops[j]? = some ops[j] := Array.getElem?_eq_getElem hjn
          by_cases hall : ∀ e ∈ ops[j].after, Region.binds .any e = true → listed.getD e.on false = true
          · have : j ∈ Region.ready .any ops listed := mem_ready.2 ⟨hju, ops[j], hoj, hall⟩
            rw [h0] at this
            cases this
          · simp only [Classical.not_forall] at hall
            obtain ⟨e, he, hb, hl1⟩ := hall
            have hlt := K.edge j _ hoj e he hb
            refine ih e.on (by omega) ((hun e.on).2 ⟨by omega, ?_⟩)
            rw [getD_bools (by omega) true false]
            simpa using hl1
      cases rem with
      | nil => simp at hn
      | cons j r => exact key (j + 1) j (Nat.lt_succ_self j) (by simp)
    · obtain ⟨hiu, oi, hoi, hall⟩ := mem_ready.1 hi
      have hin : i < ops.size := (Array.getElem?_eq_some_iff.1 hoi).1
      have hir : i ∈ rem := (hun i).2 ⟨hin, hiu⟩
      have hlst : ∀ k, k < ops.size → bitOf B i k = true → listed.getD k false = true := fun k hk hb => by
        obtain ⟨e, he, hbe, hx⟩ := K.bits i oi hoi k hk hb
        have h1 := hall e he hbe
        rcases hx with rfl | hx
        · exact h1
        · exact hD e.on k h1 hk hx
      obtain ⟨pre, post, hpp⟩ := List.append_of_mem hir
      have hsorted : rem.Pairwise (· < ·) := by rw [hrem]; exact List.pairwise_lt_range.filter _
      rw [hpp] at hsorted
      have hpre : ∀ k ∈ pre, k < i := fun k hk => (List.pairwise_append.1 hsorted).2.2 k hk i (by simp)
      have hpost : ∀ k ∈ post, i < k := fun k hk => (List.pairwise_cons.1 (List.pairwise_append.1 hsorted).2.1).1 k hk
      have hpair : ∀ k ∈ pre, pairOK sis k i = true := fun k hk => by
        obtain ⟨hkn, hku⟩ := (hun k).1 (by rw [hpp]; simp [hk])
        rcases K.pair i hin k (hpre k hk) with hb | hb
        · have := hlst k hkn hb
          rw [getD_bools (by omega) true false] at hku
          rw [hku] at this
          cases this
        · exact hb
      rw [hpp] at hv
      obtain ⟨y, s1, hy, h1, h2⟩ := aopsI_bubble hp pre s hpair hv
      obtain ⟨hint, si, hsi, hl1⟩ := lSIs_get hl i oi (by simpa using hoi)
      rw [hy] at hsi
      injection hsi with hsi
      subst hsi
      refine step_wp O hfm hbar hoi hl1 H h1 (fun a' w' H' => ?_)
      refine any_sound O hp hfm hbar hl K hQ fuel _ (pre ++ post) s1 a' w' ?_ (by simpa using hsz) ?_ ?_ H' h2
      · rw [hpp] at hn
        simp at hn ⊢
        omega
      · have e1 : rem.filter (fun k => k != i) = pre ++ post := by
          rw [hpp, List.filter_append, List.filter_cons]
          simp only [bne_self_eq_false, Bool.false_eq_true, if_false]
          congr 1
          · exact List.filter_eq_self.2 fun k hk => by have := hpre k hk; simp; omega
          · exact List.filter_eq_self.2 fun k hk => by have := hpost k hk; simp; omega
        rw [← e1, hrem, List.filter_filter]
        refine List.filter_congr fun k hk => ?_
        rw [getD_set (by omega)]
        by_cases q : i = k
        · subst q; simp
        · simp [q, Ne.symm q]
      · intro j k hj hk hb
        rw [getD_set (by omega)] at hj ⊢
        by_cases q : i = k
        · simp [q]
        · rw [if_neg q]
          by_cases q' : i = j
          · subst q'
            exact hlst k hk hb
          · rw [if_neg q'] at hj
            exact hD j k hj hk hb

/-- a region that asks the tape -/
theorem draw_sound (hm : P.follows .mixedOrders = true) (O : CallOK P fm call bar) (hp : ∀ f as h v h', pureId f = true → call f as h = some (v, h') → h' = h) (hfm : ∀ f g, fmi f = some g → fm g = f) (hbar : bar ≤ h0.length) {hs : List SI}
    (hl : lSIs P fmi N ops hs ops.toList = some sis) {B : List Nat} (hB : orderOK ops sis B = true) {Q : Exit → Act → World → Prop} (hQ : ∀ a' w', At fm X bar N ρ0 PV0 h0 w0 sf a' w' → Q .normal a' w')
    (H : At fm X bar N ρ0 PV0 h0 w0 s a w) (hv : aops call bar sis s = some sf) {id : Nat} : (Code.region id ops true).wp P Q a w := by
  have K := orderOK_spec hB
  refine wp_region_draw fun t => ?_
  have hlen : sis.length = ops.size := by rw [lSIs_len hl]; simp
  have hsch : Region.schedule (P.follows .mixedOrders) ops t = Region.linearise .any ops t := by
    simp [Region.schedule, hm]
  rw [hsch]
  refine wpAny_sound ops.size t _ a _ (any_sound O hp hfm hbar hl K hQ ops.size _ (List.range ops.size) s a w.drew (by simp) (by simp) ?_ ?_ H.drew ?_)
  · symm
    refine List.filter_eq_self.2 fun k hk => ?_
    have : k < ops.size := by simpa using hk
    simp [Array.getD_eq_getD_getElem?, this]
  · intro i k hi
    exfalso
    by_cases q : i < ops.size
    · simp [Array.getD_eq_getD_getElem?, q] at hi
    · simp [Array.getD_eq_getD_getElem?, q] at hi
  · rw [List.range_eq_range', aopsI_range ops.size 0 s (by omega), List.drop_zero]
    exact hv

end
end Go.Ai
/-
  The abstract interpreter: code, loops and all.
-/
namespace Go.Ai
open Go.RowKit
set_option linter.unusedVariables false
set_option linter.unusedSimpArgs false

def lCode (P : Program) (fmi : Nat → Option Nat) (N : Nat) : Code → SCode → Option SCode
  | .skip, .skip => some .skip
  | .region _ ops draw, .region sops keep =>
    (lSIs P fmi N ops sops ops.toList).bind fun l =>
      if draw then (if orderOK ops l (Region.before ops).toList then some (.region l keep) else none) else some (.region l keep)
  | .seq a b, .seq x y => (lCode P fmi N a x).bind fun x => (lCode P fmi N b y).map fun y => .seq x y
  | .cond c a b, .cond _ x y => (lOpd fmi c).bind fun c => (lCode P fmi N a x).bind fun x => (lCode P fmi N b y).map fun y => .cond c x y
  | .block id b, .block _ y => (lCode P fmi N b y).map fun y => .block id y
  | .loop b, .loop keep y => (lCode P fmi N b y).map fun y => .loop keep y
  | .exit id, .exit _ => some (.exit id)
  | .ret, .ret => some .ret
  | _, _ => none

def exitOf : AExit → Exit
  | .normal => .normal
  | .exit id => .exit id
  | .ret => .ret

section
variable {P : Program} {fm : Nat → Nat} {fmi : Nat → Option Nat} {X : Nat → Prop} {bar N : Nat} {s s' sf : St} {w w' : World} {call : Caller} {a : Act} {o : Oper} {v : AV}
variable {ρ0 PV0 : Map} {h0 : AHeap} {w0 : World}

theorem At.val (hfm : ∀ f g, fmi f = some g → fm g = f) (H : At fm X bar N ρ0 PV0 h0 w0 s a w) {x : Operand} {sx : SOpd} (hx : lOpd fmi x = some sx) {b : Bool} (hb : s.val sx = .bool b) : a.eval x = .bool b := by
  obtain ⟨ρ, PV, F, _⟩ := H
  have := F.val hfm hx (a := a) rfl
  rw [hb] at this
  generalize a.eval x = c at this
  cases this
  rfl

theorem aiter_sound {c : Code} {f : St → Option (AExit × St)} {keep : List Nat} {Q : Exit → Act → World → Prop}
    (hf : ∀ s a w s' e, At fm X bar N ρ0 PV0 h0 w0 s a w → f s = some (e, s') → ∀ Q : Exit → Act → World → Prop, (∀ a' w', At fm X bar N ρ0 PV0 h0 w0 s' a' w' → Q (exitOf e) a' w') → c.wp P Q a w) :
    ∀ (k : Nat) (s : St) (a : Act) (w : World) (s' : St) (e : AExit), At fm X bar N ρ0 PV0 h0 w0 s a w → aiter f keep k s = some (e, s') → (∀ a' w', At fm X bar N ρ0 PV0 h0 w0 s' a' w' → Q (exitOf e) a' w') → Code.rounds P c Q k a w
  | 0, s, a, w, s', e, H, hv, hQ => by simp [aiter] at hv
  | k + 1, s, a, w, s', e, H, hv, hQ => by
    simp only [aiter] at hv
    rw [rounds_succ]
    split at hv
    · rename_i s1 h1
      refine hf _ a w s1 .normal (H.keep keep) h1 _ (fun a' w' H' => ?_)
      exact aiter_sound hf k s1 a' w' s' e H' hv hQ
    · rename_i r hne
      cases e with
      | normal => exact absurd hv (hne s')
      | exit id => exact hf _ a w s' _ (H.keep keep) hv _ (fun a' w' H' => hQ a' w' H')
      | ret => exact hf _ a w s' _ (H.keep keep) hv _ (fun a' w' H' => hQ a' w' H')

theorem acode_sound (hm : P.follows .mixedOrders = true) (O : CallOK P fm call bar) (hp : ∀ f as h v h', pureId f = true → call f as h = some (v, h') → h' = h) (hfm : ∀ f g, fmi f = some g → fm g = f) (hbar : bar ≤ h0.length) (fuel : Nat) :
    ∀ (c : Code) (hint sc : SCode), lCode P fmi N c hint = some sc → ∀ (s : St) (a : Act) (w : World) (s' : St) (e : AExit), At fm X bar N ρ0 PV0 h0 w0 s a w → acode call bar fuel sc s = some (e, s') →
      ∀ Q : Exit → Act → World → Prop, (∀ a' w', At fm X bar N ρ0 PV0 h0 w0 s' a' w' → Q (exitOf e) a' w') → c.wp P Q a w := by
  intro c
  induction c with
  | skip =>
    intro hint sc hl s a w s' e H hv Q hQ
    cases hint <;> first | (simp [lCode] at hl; done) | skip
    simp only [lCode, Option.some.injEq] at hl
    subst hl
    simp only [acode, Option.some.injEq, Prod.mk.injEq] at hv
    obtain ⟨rfl, rfl⟩ := hv
    exact wp_skip (hQ _ _ H)
  | region id ops draw =>
    intro hint sc hl s a w s' e H hv Q hQ
    cases hint <;> first | (simp [lCode] at hl; done) | skip
    rename_i sops keep
    simp only [lCode] at hl
    obtain ⟨l, hl1, hl⟩ := bind_some hl
    have hsc : sc = .region l keep ∧ (draw = true → orderOK ops l (Region.before ops).toList = true) := by
      cases draw with
      | true =>
        simp only [if_true] at hl
        obtain ⟨h1, hl⟩ := of_ite hl
        injection hl with hl
        exact ⟨hl.symm, fun _ => h1⟩
      | false =>
        simp only [Bool.false_eq_true, if_false, Option.some.injEq] at hl
        exact ⟨hl.symm, fun h => by cases h⟩
    obtain ⟨rfl, hB⟩ := hsc
    simp only [acode] at hv
    obtain ⟨s1, hv1, he⟩ := map_some hv
    simp only [Prod.mk.injEq] at he
    obtain ⟨rfl, rfl⟩ := he
    have hQ1 : ∀ a' w', At fm X bar N ρ0 PV0 h0 w0 s1 a' w' → Q .normal a' w' := fun a' w' H' => hQ a' w' (H'.keepOpt keep)
    cases draw with
    | true => exact draw_sound hm O hp hfm hbar hl1 (hB rfl) hQ1 H hv1
    | false =>
      refine wp_region ?_
      rw [List.range_eq_range']
      exact aops_sound O hfm hbar hl1 ops.size 0 s a w (by omega) H (by rw [List.drop_zero]; exact hv1) hQ1
  | seq x y ihx ihy =>
    intro hint sc hl s a w s' e H hv Q hQ
    cases hint <;> first | (simp [lCode] at hl; done) | skip
    simp only [lCode] at hl
    obtain ⟨sx, hlx, hl⟩ := bind_some hl
    obtain ⟨sy, hly, rfl⟩ := map_some hl
    simp only [acode] at hv
    refine wp_seq ?_
    split at hv
    · rename_i s1 h1
      exact ihx _ _ hlx s a w s1 .normal H h1 _ (fun a' w' H' => ihy _ _ hly s1 a' w' s' e H' hv Q hQ)
    · rename_i r hne
      cases e with
      | normal => exact absurd hv (hne s')
      | exit id => exact ihx _ _ hlx s a w s' _ H hv _ (fun a' w' H' => hQ a' w' H')
      | ret => exact ihx _ _ hlx s a w s' _ H hv _ (fun a' w' H' => hQ a' w' H')
  | cond c x y ihx ihy =>
    intro hint sc hl s a w s' e H hv Q hQ
    cases hint <;> first | (simp [lCode] at hl; done) | skip
    simp only [lCode] at hl
    obtain ⟨c1, hlc, hl⟩ := bind_some hl
    obtain ⟨sx, hlx, hl⟩ := bind_some hl
    obtain ⟨sy, hly, rfl⟩ := map_some hl
    simp only [acode] at hv
    split at hv
    · rename_i hc
      exact wp_cond_true (H.val hfm hlc hc) (ihx _ _ hlx s a w s' e H hv Q hQ)
    · rename_i hc
      exact wp_cond_false (H.val hfm hlc hc) (ihy _ _ hly s a w s' e H hv Q hQ)
    · cases hv
  | block id b ih =>
    intro hint sc hl s a w s' e H hv Q hQ
    cases hint <;> first | (simp [lCode] at hl; done) | skip
    simp only [lCode] at hl
    obtain ⟨sb, hlb, rfl⟩ := map_some hl
    simp only [acode] at hv
    refine wp_block ?_
    split at hv
    · rename_i id' s1 h1
      refine ih _ _ hlb s a w s1 (.exit id') H h1 _ (fun a' w' H' => ?_)
      simp only [exitOf, Exit.inBlock]
      split at hv
      · rename_i hid
        simp only [Option.some.injEq, Prod.mk.injEq] at hv
        obtain ⟨rfl, rfl⟩ := hv
        simp only [hid, if_true]
        exact hQ a' w' H'
      · rename_i hid
        simp only [Option.some.injEq, Prod.mk.injEq] at hv
        obtain ⟨rfl, rfl⟩ := hv
        simp only [hid, if_false]
        exact hQ a' w' H'
    · rename_i r hne
      cases e with
      | normal => exact ih _ _ hlb s a w s' _ H hv _ (fun a' w' H' => hQ a' w' H')
      | exit id => exact absurd hv (hne id s')
      | ret => exact ih _ _ hlb s a w s' _ H hv _ (fun a' w' H' => hQ a' w' H')
  | loop b ih =>
    intro hint sc hl s a w s' e H hv Q hQ
    cases hint <;> first | (simp [lCode] at hl; done) | skip
    simp only [lCode] at hl
    obtain ⟨sb, hlb, rfl⟩ := map_some hl
    simp only [acode] at hv
    exact wp_loop_rounds fuel (aiter_sound (fun s a w s' e H hv Q hQ => ih _ _ hlb s a w s' e H hv Q hQ) fuel s a w s' e H hv hQ)
  | exit id =>
    intro hint sc hl s a w s' e H hv Q hQ
    cases hint <;> first | (simp [lCode] at hl; done) | skip
    simp only [lCode, Option.some.injEq] at hl
    subst hl
    simp only [acode, Option.some.injEq, Prod.mk.injEq] at hv
    obtain ⟨rfl, rfl⟩ := hv
    exact wp_exit (hQ _ _ H)
  | ret =>
    intro hint sc hl s a w s' e H hv Q hQ
    cases hint <;> first | (simp [lCode] at hl; done) | skip
    simp only [lCode, Option.some.injEq] at hl
    subst hl
    simp only [acode, Option.some.injEq, Prod.mk.injEq] at hv
    obtain ⟨rfl, rfl⟩ := hv
    exact wp_ret (hQ _ _ H)
  | _ =>
    intro hint sc hl
    cases hint <;> simp [lCode] at hl

end
end Go.Ai
/-
  The abstract interpreter: what a function that writes nothing hands back is never written: a tree.
-/
namespace Go.Ai
open Go.RowKit
set_option linter.unusedVariables false
set_option linter.unusedSimpArgs false

section
variable {fm : Nat → Nat} {ρ ρ' ρ'' : Map} {X : Nat → Prop} {h h' : AHeap} {w w' : World}

/-- of the new heap the old part is left -/
structure Cut (ρ' ρ'' : Map) (h h' : AHeap) : Prop where
  low : ∀ b, b < h.length → ρ'' b = ρ' b ∧ h'[b]? = h[b]?
  high : ∀ b, h.length ≤ b → ρ'' b = none

theorem Cut.le (C : Cut ρ' ρ'' h h') {b B : Nat} (e : ρ'' b = some B) : b < h.length ∧ ρ' b = some B := by
  by_cases q : b < h.length
  · exact ⟨q, by rw [← (C.low b q).1]; exact e⟩
  · rw [C.high b (by omega)] at e
    cases e

theorem Cut.out (C : Cut ρ' ρ'' h h') {B : Nat} (hB : Out ρ' X w B) : Out ρ'' X w B :=
  ⟨fun b e => hB.heap b (C.le e).2, hB.apart, hB.lt⟩

theorem Cut.hptr (C : Cut ρ' ρ'' h h') {b bl i off : Nat} {a : Addr} (hb : b < h.length)
    (ha : ∀ B sz els, ρ' b = some B → h'[b]? = some (.row sz els) → bl ≤ els.length ∧ (els.length = bl → a = ⟨B, i * sz + off, none⟩)) : VR fm ρ'' X h w (.hptr b bl i off) (.pointer (some a)) :=
  .hptr hb fun B sz els e he => ha B sz els (C.le e).2 (by rw [(C.low b hb).2]; exact he)

theorem Cut.hsl (C : Cut ρ' ρ'' h h') {b bl i len sz cc : Nat} {cap : Option Nat} {a : Addr} (hb : b < h.length) (hlc : len ≤ cc)
    (ha : ∀ B els, ρ' b = some B → h'[b]? = some (.row sz els) → bl ≤ els.length ∧ (els.length = bl →
        (cc ≠ 0 → a = ⟨B, i * sz, none⟩) ∧ capIs cap (els.length - i) cc ∧ ∃ arr e fr, w.heap[B]? = some (.cells arr e fr) ∧ (i + cc) * sz ≤ arr.size))
    (hs : ∀ B sz' els, ρ' b = some B → h'[b]? = some (.row sz' els) → bl ≤ els.length) : VR fm ρ'' X h w (.hsl b bl i len sz cap) (.slice (some a) len cc) :=
  .hsl hb hlc (fun B els e he => ha B els (C.le e).2 (by rw [(C.low b hb).2]; exact he)) (fun B sz' els e he => hs B sz' els (C.le e).2 (by rw [(C.low b hb).2]; exact he))

theorem Cut.hmap (C : Cut ρ' ρ'' h h') {b r : Nat} (hb : b < h.length) (ha : ∀ B es, ρ' b = some B → h'[b]? = some (.map es) → r = B) : VR fm ρ'' X h w (.hmap b) (.map (some r)) :=
  .hmap hb fun B es e he => ha B es (C.le e).2 (by rw [(C.low b hb).2]; exact he)

theorem get_of_len {α β : Type} {l : List α} {m : List β} (hl : l.length = m.length) {j : Nat} {a : β} (h : m[j]? = some a) : ∃ b, l[j]? = some b :=
  ⟨_, List.getElem?_eq_getElem (by rw [hl]; exact (List.getElem?_eq_some_iff.1 h).1)⟩

/-- what stood in the old heap is known there -/
theorem VR.down (C : Cut ρ' ρ'' h h') {a : AV} {c : Value} (H : VR fm ρ' X h' w' a c) : ∀ {c0 : Value} {ρ : Map} {X0 : Nat → Prop} {w : World}, VR fm ρ X0 h w a c0 → VR fm ρ'' X h w' a c := by
  induction H with
  | bool b => intros; exact .bool b
  | int k n => intros; exact .int k n
  | str s => intros; exact .str s
  | nilp => intros; exact .nilp
  | hptr hb ha =>
    intro c0 ρ X0 w H0
    cases H0 with
    | hptr hb0 _ => exact C.hptr hb0 ha
  | iptr vs hB hl hc hv ih =>
    intro c0 ρ X0 w H0
    cases H0 with
    | iptr vs0 _ hl0 _ hv0 =>
      refine .iptr vs (C.out hB) hl hc fun j a v ha hv' => ?_
      obtain ⟨b, hb⟩ := get_of_len hl0 ha
      exact ih j a v ha hv' (hv0 j a b ha hb)
  | nils => intros; exact .nils
  | hsl hb hlc ha hs =>
    intro c0 ρ X0 w H0
    cases H0 with
    | hsl hb0 _ _ _ => exact C.hsl hb0 hlc ha hs
  | isl vss hl hlc hcap hB hsz hvs hc hv ih =>
    intro c0 ρ X0 w H0
    cases H0 with
    | isl vss0 hl0 _ _ _ _ hvs0 _ hv0 =>
      refine .isl vss hl hlc hcap (fun hne => ⟨(hB hne).1, C.out (hB hne).2⟩) hsz hvs hc fun i e e' j x v he he' hx hv' => ?_
      obtain ⟨e0, he0⟩ := get_of_len hl0 he
      obtain ⟨b, hb⟩ := get_of_len ((hvs0 i e0 he0).trans (hsz i e he).symm) hx
      exact ih i e e' j x v he he' hx hv' (hv0 i e e0 j x b he he0 hx hb)
  | nilm => intros; exact .nilm
  | hmap hb ha =>
    intro c0 ρ X0 w H0
    cases H0 with
    | hmap hb0 _ => exact C.hmap hb0 ha
  | fn us vs hu hy hx hv ih1 ih2 =>
    intro c0 ρ X0 w H0
    cases H0 with
    | fn us0 vs0 hu0 hy0 hx0 hv0 =>
      refine .fn us vs hu hy (fun j a v ha hv' => ?_) (fun j a v ha hv' => ?_)
      · obtain ⟨b, hb⟩ := get_of_len hu0 ha
        exact ih1 j a v ha hv' (hx0 j a b ha hb)
      · obtain ⟨b, hb⟩ := get_of_len hy0 ha
        exact ih2 j a v ha hv' (hv0 j a b ha hb)
  | nilf => intros; exact .nilf
  | ifc hx ih =>
    intro c0 ρ X0 w H0
    cases H0 with
    | ifc hx0 => exact .ifc (ih hx0)
  | nili => intros; exact .nili
  | agg vs hl hv ih =>
    intro c0 ρ X0 w H0
    cases H0 with
    | agg vs0 hl0 hv0 =>
      refine .agg vs hl (fun j a v ha hv' => ?_)
      obtain ⟨b, hb⟩ := get_of_len hl0 ha
      exact ih j a v ha hv' (hv0 j a b ha hb)
  | tup vs hl hv ih =>
    intro c0 ρ X0 w H0
    cases H0 with
    | tup vs0 hl0 hv0 =>
      refine .tup vs hl (fun j a v ha hv' => ?_)
      obtain ⟨b, hb⟩ := get_of_len hl0 ha
      exact ih j a v ha hv' (hv0 j a b ha hb)
  | junk v => intros; exact .junk v

theorem RowR.isl {B sz i len cc : Nat} {els : List (List AV)} {cap : Option Nat} {a : Addr} (R : RowR fm ρ' X h' w B sz els) (hi : i + len ≤ els.length) (hB : Out ρ'' X w B)
    (ha : len ≠ 0 → a = ⟨B, i * sz, none⟩) (hlc : len ≤ cc) (hcap : capIs cap len cc) (g : AV → AV) (hg : ∀ a v, VR fm ρ' X h' w a v → VR fm ρ'' X h w (g a) v) :
    VR fm ρ'' X h w (.isl (((els.drop i).take len).map fun e => e.map g) sz cap) (.slice (some a) len cc) := by
  obtain ⟨hwid, arr, t, fz, hw, hle, _, hval⟩ := R
  have hlen : (((els.drop i).take len).map fun e => e.map g).length = len := by simp; omega
  have hget : ∀ (k : Nat) e, (((els.drop i).take len).map fun e => e.map g)[k]? = some e → k < len ∧ ∃ e0, els[i + k]? = some e0 ∧ e = e0.map g := fun k e he => by
    rw [List.getElem?_map, List.getElem?_take] at he
    split at he
    · rename_i hk
      rw [List.getElem?_drop] at he
      obtain ⟨e0, h0, rfl⟩ := map_some he
      exact ⟨hk, e0, h0, rfl⟩
    · cases he
  have hv : ∀ (k : Nat) ev, ((List.range len).map fun k => (arr.toList.drop ((i + k) * sz)).take sz)[k]? = some ev → k < len ∧ ev = (arr.toList.drop ((i + k) * sz)).take sz := fun k ev he => by
    rw [List.getElem?_map] at he
    by_cases q : k < len
    · rw [List.getElem?_range q] at he
      simp only [Option.map_some, Option.some.injEq] at he
      exact ⟨q, he.symm⟩
    · rw [List.getElem?_eq_none (by simp; omega)] at he
      cases he
  have hfit : ∀ k, k < len → (i + k) * sz + sz ≤ arr.size := fun k hk => by
    have h1 : (i + k + 1) * sz ≤ els.length * sz := Nat.mul_le_mul_right _ (by omega)
    rw [Nat.add_mul (i + k) 1 sz] at h1
    omega
  have key := VR.isl (fm := fm) (ρ := ρ'') (X := X) (h := h) (w := w) (els := ((els.drop i).take len).map fun e => e.map g) (sz := sz) (cc := cc) (cap := cap) (a := a)
    ((List.range len).map fun k => (arr.toList.drop ((i + k) * sz)).take sz) (by rw [hlen]; simp) (by rw [hlen]; exact hlc) (by rw [hlen]; exact hcap) (fun hne => ?_) (fun k e he => ?_) (fun k ev he => ?_) (fun k ev j v he hj => ?_) (fun k e ev j x v he hev hx hv' => ?_)
  · rw [hlen] at key
    exact key
  · have h0 : len ≠ 0 := by
      intro q
      apply hne
      rw [← List.length_eq_zero_iff]
      omega
    rw [ha h0]
    exact ⟨rfl, hB⟩
  · obtain ⟨hk, e0, h0, rfl⟩ := hget k e he
    simp [hwid _ e0 h0]
  · obtain ⟨hk, rfl⟩ := hv k ev he
    have := hfit k hk
    simp; omega
  · obtain ⟨hk, rfl⟩ := hv k ev he
    rw [List.getElem?_take] at hj
    split at hj
    · rename_i hjs
      rw [List.getElem?_drop] at hj
      have hx : els[i + k]? = some els[i + k] := List.getElem?_eq_getElem (by omega)
      obtain ⟨v', h1, h2, _⟩ := hval (i + k) els[i + k] j _ hx (List.getElem?_eq_getElem (by rw [hwid _ _ hx]; exact hjs))
      have hvv : v = v' := by
        have : arr.toList[(i + k) * sz + j]? = some v' := by simpa using h1
        rw [this] at hj
        injection hj with hj
        exact hj.symm
      subst hvv
      rw [ha (by omega)]
      refine ⟨?_, h2⟩
      simp only [World.cell?, hw]
      rw [← h1, Nat.add_mul]
      rfl
    · cases hj
  · obtain ⟨hk, e0, h0, rfl⟩ := hget k e he
    obtain ⟨_, rfl⟩ := hv k ev hev
    rw [List.getElem?_map] at hx
    obtain ⟨x0, hx0, rfl⟩ := map_some hx
    rw [List.getElem?_take] at hv'
    split at hv'
    · rw [List.getElem?_drop] at hv'
      obtain ⟨v', h1, _, h3⟩ := hval (i + k) e0 j x0 h0 hx0
      have hvv : v = v' := by
        have : arr.toList[(i + k) * sz + j]? = some v' := by simpa using h1
        rw [this] at hv'
        injection hv' with hv'
        exact hv'.symm
      subst hvv
      exact hg _ _ h3
    · cases hv'

theorem VRs.mapf {ρ : Map} {cs : List AV} {vs : List Value} {g : AV → AV} (hl : vs.length = cs.length) (hv : ∀ (j : Nat) a v, cs[j]? = some a → vs[j]? = some v → VR fm ρ X h w (g a) v) :
    vs.length = (cs.map g).length ∧ ∀ (j : Nat) a v, (cs.map g)[j]? = some a → vs[j]? = some v → VR fm ρ X h w a v := by
  refine ⟨by simpa using hl, fun j a v ha hv' => ?_⟩
  rw [List.getElem?_map] at ha
  obtain ⟨a0, h0, rfl⟩ := map_some ha
  exact hv j a0 v h0 hv'

theorem frz_sound (I : Inv fm ρ' X h' w) (C : Cut ρ' ρ'' h h') : ∀ (k : Nat) {a : AV} {c : Value}, VR fm ρ' X h' w a c → VR fm ρ'' X h w (frz h' h.length k a) c
  | 0, a, c, H => by
    cases H <;> simp only [frz] <;> first | exact .junk _ | constructor
  | k + 1, a, c, H => by
    have ih := fun {a : AV} {c : Value} => frz_sound I C k (a := a) (c := c)
    have hnew : ∀ b B, h.length ≤ b → ρ' b = some B → Out ρ'' X w B := fun b B hb e => ⟨fun b' e' => by
      obtain ⟨h1, h2⟩ := C.le e'
      have := I.inj b b' B e h2
      omega, (I.dom b B e).2.2, (I.dom b B e).2.1⟩
    cases H with
    | bool b => exact .bool b
    | int k n => exact .int k n
    | str s => exact .str s
    | nilp => exact .nilp
    | @hptr b bl i off a hb ha =>
      simp only [frz]
      split
      · rename_i hlt
        exact C.hptr hlt ha
      · rename_i hge
        split
        · rename_i sz els he
          split
          · rename_i hbl
            split
            · rename_i cs hcs
              obtain ⟨B, hB⟩ := I.tot b hb
              have hA := (ha B sz els hB he).2 hbl
              subst hA
              obtain ⟨vs, h1, h2, h3, h4⟩ := (I.row b B sz els hB he).cellsAt hcs
              obtain ⟨h5, h6⟩ := VRs.mapf (g := frz h' h.length k) h2 (fun j a v hx hy => ih (h4 j a v hx hy))
              exact .iptr vs (hnew b B (by omega) hB) h5 (fun j v hj => ⟨h1 j v hj, h3 v (List.mem_of_getElem? hj)⟩) h6
            · exact .junk _
          · exact .junk _
        · exact .junk _
    | @iptr cs off B o vs hB hl hc hv =>
      simp only [frz]
      obtain ⟨h5, h6⟩ := VRs.mapf (g := frz h' h.length k) hl (fun j a v hx hy => ih (hv j a v hx hy))
      exact .iptr vs (C.out hB) h5 hc h6
    | nils => exact .nils
    | @hsl b bl i len sz cc cap a hb hlc ha hs =>
      simp only [frz]
      split
      · rename_i hlt
        exact C.hsl hlt hlc ha hs
      · rename_i hge
        split
        · rename_i sz' els he
          split
          · rename_i hcond
            obtain ⟨hbl, rfl, hle⟩ := hcond
            obtain ⟨B, hB⟩ := I.tot b hb
            obtain ⟨h1, h2, _⟩ := (ha B els hB he).2 hbl
            refine RowR.isl (I.row b B sz' els hB he) hle (hnew b B (by omega) hB) (fun q => h1 (by omega)) hlc ?_ _ (fun a v => ih)
            cases cap with
            | none => simp only [capIs] at h2 ⊢; exact hlc
            | some c => exact h2
          · exact .junk _
        · exact .junk _
    | @isl els sz cc cap a vss hl hlc hcap hB hsz hvs hc hv =>
      simp only [frz]
      have key := VR.isl (fm := fm) (ρ := ρ'') (X := X) (h := h) (w := w) (els := els.map fun e => e.map (frz h' h.length k)) (sz := sz) (cc := cc) (cap := cap) (a := a) vss
        (by simpa using hl) (by simpa using hlc) (by simpa using hcap) (fun hne => ?_) (fun i e he => ?_) hvs hc (fun i e e' j x v he he' hx hv' => ?_)
      · rw [List.length_map] at key
        exact key
      · have hne' : els ≠ [] := fun q => hne (by rw [q]; rfl)
        exact ⟨(hB hne').1, C.out (hB hne').2⟩
      · rw [List.getElem?_map] at he
        obtain ⟨e0, h0, rfl⟩ := map_some he
        simp [hsz i e0 h0]
      · rw [List.getElem?_map] at he
        obtain ⟨e0, h0, rfl⟩ := map_some he
        rw [List.getElem?_map] at hx
        obtain ⟨x0, h1, rfl⟩ := map_some hx
        exact ih (hv i e0 e' j x0 v h0 he' h1 hv')
    | nilm => exact .nilm
    | @hmap b r hb ha =>
      simp only [frz]
      split
      · rename_i hlt
        exact C.hmap hlt ha
      · exact .junk _
    | @fn f xs ys us vs hu hy hx hv =>
      simp only [frz]
      obtain ⟨h1, h2⟩ := VRs.mapf (g := frz h' h.length k) hu (fun j a v ha hb => ih (hx j a v ha hb))
      obtain ⟨h3, h4⟩ := VRs.mapf (g := frz h' h.length k) hy (fun j a v ha hb => ih (hv j a v ha hb))
      exact .fn us vs h1 h3 h2 h4
    | nilf => exact .nilf
    | ifc hx => simp only [frz]; exact .ifc (ih hx)
    | nili => exact .nili
    | @agg cs vs hl hv =>
      simp only [frz]
      obtain ⟨h1, h2⟩ := VRs.mapf (g := frz h' h.length k) hl (fun j a v ha hb => ih (hv j a v ha hb))
      exact .agg vs h1 h2
    | @tup cs vs hl hv =>
      simp only [frz]
      obtain ⟨h1, h2⟩ := VRs.mapf (g := frz h' h.length k) hl (fun j a v ha hb => ih (hv j a v ha hb))
      exact .tup vs h1 h2
    | junk v => exact .junk _

/-- what is left of the heap is as it was -/
theorem Inv.cut (I0 : Inv fm ρ X h w) (I : Inv fm ρ' X h' w') (C : Cut ρ' ρ'' h h') (hρ : ∀ b, b < h.length → ρ' b = ρ b) : Inv fm ρ'' X h w' where
  dom b B e := by
    obtain ⟨h1, h2⟩ := C.le e
    exact ⟨h1, (I.dom b B h2).2.1, (I.dom b B h2).2.2⟩
  inj b b' B e e' := I.inj b b' B (C.le e).2 (C.le e').2
  tot b hb := by
    obtain ⟨B, hB⟩ := I0.tot b hb
    exact ⟨B, by rw [(C.low b hb).1, hρ b hb]; exact hB⟩
  row b B sz els e he := by
    obtain ⟨h1, h2⟩ := C.le e
    obtain ⟨hw0, arr0, t0, fz0, a1, a2, a3, a4⟩ := I0.row b B sz els (by rw [← hρ b h1]; exact h2) he
    obtain ⟨hw1, arr, t, fz, b1, b2, b3, b4⟩ := I.row b B sz els h2 (by rw [(C.low b h1).2]; exact he)
    refine ⟨hw1, arr, t, fz, b1, b2, b3, fun i x j a hx ha => ?_⟩
    obtain ⟨v, c1, c2, c3⟩ := b4 i x j a hx ha
    obtain ⟨v0, _, _, d3⟩ := a4 i x j a hx ha
    exact ⟨v, c1, c2, c3.down C d3⟩
  map b B es e he := by
    obtain ⟨h1, h2⟩ := C.le e
    obtain ⟨arr0, cl0, a1, a2, a3⟩ := I0.map b B es (by rw [← hρ b h1]; exact h2) he
    obtain ⟨arr, cl, b1, b2, b3⟩ := I.map b B es h2 (by rw [(C.low b h1).2]; exact he)
    refine ⟨arr, cl, b1, b2, fun i k x hx => ?_⟩
    obtain ⟨me, c1, c2, c3⟩ := b3 i k x hx
    obtain ⟨me0, _, _, d3⟩ := a3 i k x hx
    exact ⟨me, c1, c2, c3.down C d3⟩

theorem Le.cut (L : Le ρ X h w ρ' X h' w') (C : Cut ρ' ρ'' h h') : Le ρ X h w ρ'' X h w' where
  len := Nat.le_refl _
  size := L.size
  os := L.os
  tape := L.tape
  output := L.output
  imm B hB := ⟨(L.imm B hB).1, fun b e => (L.imm B hB).2.1 b (C.le e).2, (L.imm B hB).2.2⟩
  blk b hb B' e := by
    obtain ⟨_, h2⟩ := C.le e
    rcases L.blk b hb B' h2 with ⟨h3, h4, h5, h6⟩ | ⟨B, sz, els, els', h3, h4, h5, h6⟩
    · exact .inl ⟨h3, fun sz els' q => ⟨els', q, rfl⟩, fun es' q => ⟨es', q⟩, h6⟩
    · exfalso
      rw [(C.low b hb).2, h4] at h5
      simp only [Option.some.injEq, ABlk.row.injEq] at h5
      obtain ⟨_, rfl⟩ := h5
      omega

end
end Go.Ai
