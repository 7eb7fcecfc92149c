/-
  Parts of a proof: an abstract interpreter of the model's code, and what the functions come to.
-/
import Derived.Test.YtmamikjllokmiaaGreatDoorAi01
set_option linter.unusedVariables false
set_option linter.unusedSimpArgs false
set_option linter.unnecessarySimpa false
/-
  The abstract interpreter: each operation's run, one by one (1).
-/
namespace Go.Ai
open Go.RowKit
set_option linter.unusedVariables false
set_option linter.unusedSimpArgs false

section
variable {P : Program} {fm : Nat → Nat} {fmi : Nat → Option Nat} {ρ : Map} {X : Nat → Prop} {PV : Map} {bar : Nat} {s s' : St} {w : World} {tmps : Array Value} {h : AHeap} {call : Caller} {a : Act} {o : Oper} {hint : SOp} {v : AV}

theorem run_v {m : Sem Value} {c : Value} {w w' : World} (h : m.run P w = .ok c w') : (do pure (Next.value (← m)) : Sem Next).run P w = .ok (.value c) w' := by
  simp [h]
theorem run_u {m : Sem Unit} {w w' : World} (h : m.run P w = .ok () w') : (do m; pure Next.skip : Sem Next).run P w = .ok .skip w' := by
  simp [h]

theorem St.pure_some {x : Option AV} (h : s.pure x = some (v, s')) : x = some v ∧ s = s' := by
  unfold St.pure at h
  simp only [Option.map_eq_some_iff, Prod.mk.injEq] at h
  obtain ⟨y, h1, h2, h3⟩ := h
  exact ⟨by rw [h1, h2], h3⟩

/-- what the lowering says, and what the operation comes to -/
structure Ctx (P : Program) (fm : Nat → Nat) (fmi : Nat → Option Nat) (ρ : Map) (X : Nat → Prop) (PV : Map) (bar : Nat) (s : St) (w : World) (a : Act) : Prop where
  hfm : ∀ f g, fmi f = some g → fm g = f
  F : FR fm ρ X PV s w a.tmps
  bar : bar ≤ s.heap.length

theorem op_mv (C : Ctx P fm fmi ρ X PV bar s w a) {x : Operand} {sx : SOpd} (hx : lOpd fmi x = some sx) (hop : o.op = .move x ∨ o.op = .assign x) (hv : aop call bar s (.mv sx) = some (v, s')) :
    Good fm ρ X PV bar s w a.tmps ((execOp a.eval o).run P w) v s' := by
  simp only [aop, Option.some.injEq, Prod.mk.injEq] at hv
  obtain ⟨rfl, rfl⟩ := hv
  refine Good.same C.F (c := a.eval x) ?_ (C.F.raw C.hfm hx rfl)
  rcases hop with hop | hop <;> simp [execOp, hop]

theorem op_pick (C : Ctx P fm fmi ρ X PV bar s w a) {x y z : Operand} {sx sy sz : SOpd} (hx : lOpd fmi x = some sx) (hy : lOpd fmi y = some sy) (hz : lOpd fmi z = some sz)
    (hop : o.op = .pick x y z) (hv : aop call bar s (.pick sx sy sz) = some (v, s')) : Good fm ρ X PV bar s w a.tmps ((execOp a.eval o).run P w) v s' := by
  simp only [aop] at hv
  split at hv
  · rename_i t ht
    simp only [Option.some.injEq, Prod.mk.injEq] at hv
    obtain ⟨rfl, rfl⟩ := hv
    have h1 := C.F.val C.hfm hx rfl
    rw [ht] at h1
    have e1 : a.eval x = .bool t := by generalize a.eval x = c at h1; cases h1; rfl
    refine Good.same C.F (c := if t then a.eval y else a.eval z) ?_ ?_
    · simp only [execOp, hop, e1, asBool, pure_bind]
      cases t <;> simp
    · cases t
      · exact ER.of (C.F.val C.hfm hz rfl)
      · exact ER.of (C.F.val C.hfm hy rfl)
  · cases hv

theorem op_load (C : Ctx P fm fmi ρ X PV bar s w a) {t : Nat} {x : Operand} {sx : SOpd} {n : Option Nat} (hx : lOpd fmi x = some sx) (hn : tPart P t = some n)
    (hop : o.op = .load t x) {m : Mode} (hv : aop call bar s (.load m n sx) = some (v, s')) : Good fm ρ X PV bar s w a.tmps ((execOp a.eval o).run P w) v s' := by
  simp only [aop] at hv
  obtain ⟨_, hv⟩ := of_ite hv
  obtain ⟨hv1, rfl⟩ := St.pure_some hv
  clear hv
  obtain ⟨A, c', h1, h2, h3⟩ := run_load_any C.F hn (C.F.raw C.hfm hx rfl) hv1
  refine Good.same C.F (c := c') ?_ (ER.of h3)
  simp only [execOp, hop]
  refine run_v ?_
  simp [Instr.loadAt, h1, Instr.sureAddr, h2]

theorem op_nilchk (C : Ctx P fm fmi ρ X PV bar s w a) {x : Operand} {sx : SOpd} (hx : lOpd fmi x = some sx) (hop : o.op = .nilCheck x) (hv : aop call bar s (.nilchk sx) = some (v, s')) :
    Good fm ρ X PV bar s w a.tmps ((execOp a.eval o).run P w) v s' := by
  have h1 := C.F.raw C.hfm hx rfl
  simp only [aop] at hv
  split at hv <;> first | (cases hv; done) | skip
  all_goals
    rename_i hr
    simp only [Option.some.injEq, Prod.mk.injEq] at hv
    obtain ⟨rfl, rfl⟩ := hv
    rw [hr] at h1
    refine Good.same C.F (c := a.eval x) ?_ h1
  · have h2 : VR fm ρ (XP X PV) s.heap w _ (a.eval x) := h1
    generalize he : a.eval x = c at h2
    cases h2
    simp [execOp, hop, he]
  · have h2 : VR fm ρ (XP X PV) s.heap w _ (a.eval x) := h1
    generalize he : a.eval x = c at h2
    cases h2
    simp [execOp, hop, he]
  · obtain ⟨B, _, he⟩ := h1
    simp [execOp, hop, he]
  · have h2 : VR fm ρ (XP X PV) s.heap w _ (a.eval x) := h1
    generalize he : a.eval x = c at h2
    cases h2
    simp [execOp, hop, he]

theorem op_bin (C : Ctx P fm fmi ρ X PV bar s w a) {op : BinOp} {t t' : Nat} {x y : Operand} {sx sy : SOpd} {k : EqK} (hx : lOpd fmi x = some sx) (hy : lOpd fmi y = some sy) (hk : lBin P op t x y = some k)
    (hop : o.op = .binOp op t x y t') (hv : aop call bar s (.bin op k sx sy) = some (v, s')) : Good fm ρ X PV bar s w a.tmps ((execOp a.eval o).run P w) v s' := by
  obtain ⟨hv1, rfl⟩ := St.pure_some hv
  clear hv
  obtain ⟨c, h1, h2⟩ := abin_sound hk (C.F.val C.hfm hx rfl) (C.F.val C.hfm hy rfl) hv1
  refine Good.same C.F (c := c) ?_ (ER.of h2)
  simp only [execOp, hop]
  exact run_v h1

theorem op_un (C : Ctx P fm fmi ρ X PV bar s w a) {op : UnOp} {t : Nat} {x : Operand} {sx : SOpd} (hx : lOpd fmi x = some sx)
    (hop : o.op = .unOp op t x) (hv : aop call bar s (.un op sx) = some (v, s')) : Good fm ρ X PV bar s w a.tmps ((execOp a.eval o).run P w) v s' := by
  obtain ⟨hv1, rfl⟩ := St.pure_some hv
  clear hv
  obtain ⟨c, h1, h2⟩ := aun_sound (P := P) (C.F.val C.hfm hx rfl) hv1
  refine Good.same C.F (c := c) ?_ (ER.of h2)
  simp only [execOp, hop]
  exact run_v h1

theorem op_cvint (C : Ctx P fm fmi ρ X PV bar s w a) {src dst : Nat} {x : Operand} {sx : SOpd} {k k' : IntKind} (hx : lOpd fmi x = some sx) (hs : P.underlying src = some (.int k')) (hd : P.underlying dst = some (.int k))
    (hop : o.op = .convert src dst x) (hv : aop call bar s (.cvint k sx) = some (v, s')) : Good fm ρ X PV bar s w a.tmps ((execOp a.eval o).run P w) v s' := by
  simp only [aop] at hv
  split at hv
  · rename_i k0 n hr
    simp only [Option.some.injEq, Prod.mk.injEq] at hv
    obtain ⟨rfl, rfl⟩ := hv
    have h1 := C.F.val C.hfm hx rfl
    rw [hr] at h1
    have e1 : a.eval x = .int k0 n := by generalize a.eval x = c at h1; cases h1; rfl
    refine Good.same C.F (c := .int k (k.wrap n)) ?_ (VR.int _ _)
    simp only [execOp, hop, e1]
    refine run_v ?_
    simp [convert, run_underlying' hs, run_underlying' hd, Conv.intToInt]
  · cases hv

theorem op_cvid (C : Ctx P fm fmi ρ X PV bar s w a) {src dst : Nat} {x : Operand} {sx : SOpd} (hx : lOpd fmi x = some sx) (hs : P.underlying src = some .string) (hd : P.underlying dst = some .string)
    (hop : o.op = .convert src dst x) (hv : aop call bar s (.cvid sx) = some (v, s')) : Good fm ρ X PV bar s w a.tmps ((execOp a.eval o).run P w) v s' := by
  simp only [aop] at hv
  split at hv
  · rename_i b hr
    simp only [Option.some.injEq, Prod.mk.injEq] at hv
    obtain ⟨rfl, rfl⟩ := hv
    have h1 := C.F.val C.hfm hx rfl
    rw [hr] at h1
    refine Good.same C.F (c := a.eval x) ?_ (ER.of h1)
    generalize he : a.eval x = c at h1
    cases h1
    simp only [execOp, hop, he]
    refine run_v ?_
    simp [convert, run_underlying' hs, run_underlying' hd]
  · cases hv

theorem op_mkif (C : Ctx P fm fmi ρ X PV bar s w a) {t : Nat} {d : TypeDesc} {x : Operand} {sx : SOpd} (hx : lOpd fmi x = some sx) (hd : P.underlying t = some d) (hn : ∀ m, d ≠ .interface m)
    (hop : o.op = .makeInterface t x) {t' : Nat} (hv : aop call bar s (.mkif t' sx) = some (v, s')) : Good fm ρ X PV bar s w a.tmps ((execOp a.eval o).run P w) v s' := by
  simp only [aop] at hv
  obtain ⟨_, hv⟩ := of_ite' hv
  simp only [Option.some.injEq, Prod.mk.injEq] at hv
  obtain ⟨rfl, rfl⟩ := hv
  refine Good.same C.F (c := .iface t (a.eval x)) ?_ (VR.ifc (C.F.val C.hfm hx rfl))
  simp only [execOp, hop]
  refine run_v ?_
  simp only [Instr.makeInterface, Sem.run_bind, run_underlying' hd, Result.andThen_ok]
  cases d <;> first | rfl | exact absurd rfl (hn _)

theorem op_mkfn (C : Ctx P fm fmi ρ X PV bar s w a) {f g : Nat} {xs ys : Array Operand} {sxs sys : List SOpd} (hg : fmi f = some g) (hx : lOpds fmi xs.toList = some sxs) (hy : lOpds fmi ys.toList = some sys)
    (hop : o.op = .makeFunc (.func f) xs ys) (hv : aop call bar s (.mkfn g sxs sys) = some (v, s')) : Good fm ρ X PV bar s w a.tmps ((execOp a.eval o).run P w) v s' := by
  simp only [aop, Option.some.injEq, Prod.mk.injEq] at hv
  obtain ⟨rfl, rfl⟩ := hv
  have h1 := C.F.vals C.hfm rfl hx
  have h2 := C.F.vals C.hfm rfl hy
  refine Good.same C.F (c := .func (.func f) (xs.map a.eval) (ys.map a.eval)) ?_ ?_
  · simp only [execOp, hop]
    exact run_v rfl
  · have := VR.fn (fm := fm) (f := g) _ _ h1.1 h2.1 h1.2 h2.2
    rw [C.hfm f g hg] at this
    have e1 : (List.map a.eval xs.toList).toArray = xs.map a.eval := by rw [← Array.toList_map]
    have e2 : (List.map a.eval ys.toList).toArray = ys.map a.eval := by rw [← Array.toList_map]
    rw [e1, e2] at this
    exact this

theorem op_extract (C : Ctx P fm fmi ρ X PV bar s w a) {x : Operand} {i : Nat} {sx : SOpd} (hx : lOpd fmi x = some sx)
    (hop : o.op = .extract x i) (hv : aop call bar s (.extract i sx) = some (v, s')) : Good fm ρ X PV bar s w a.tmps ((execOp a.eval o).run P w) v s' := by
  simp only [aop] at hv
  split at hv
  · rename_i vs hr
    obtain ⟨hv1, rfl⟩ := St.pure_some hv
    clear hv
    have h1 := C.F.val C.hfm hx rfl
    rw [hr] at h1
    generalize he : a.eval x = c at h1
    cases h1 with
    | tup us hl hu =>
      have hlt : i < us.length := by have := (List.getElem?_eq_some_iff.1 hv1).1; omega
      have hg := List.getElem?_eq_getElem hlt
      refine Good.same C.F (c := us[i]) ?_ (ER.of (hu i v _ hv1 hg))
      simp only [execOp, hop, he]
      refine run_v ?_
      simp [Instr.extract, hg]
  · cases hv

theorem op_field (C : Ctx P fm fmi ρ X PV bar s w a) {t f : Nat} {fs : Array Field} {fd : Field} {n : Option Nat} {x : Operand} {sx : SOpd} (hx : lOpd fmi x = some sx)
    (hu : P.underlying t = some (.struct fs)) (hf : fs[f]? = some fd) (hn : tPart P fd.type = some n)
    (hop : o.op = .field t x f) (hv : aop call bar s (.field fd.offset n sx) = some (v, s')) : Good fm ρ X PV bar s w a.tmps ((execOp a.eval o).run P w) v s' := by
  simp only [aop] at hv
  split at hv
  · rename_i cs hr
    obtain ⟨hv1, rfl⟩ := St.pure_some hv
    clear hv
    have h1 := C.F.val C.hfm hx rfl
    rw [hr] at h1
    generalize he : a.eval x = c at h1
    cases h1 with
    | agg us hl hu' =>
      obtain ⟨c', h2, h3⟩ := run_part hn ⟨hl, hu'⟩ hv1
      refine Good.same C.F (c := c') ?_ (ER.of h3)
      simp only [execOp, hop, he]
      refine run_v ?_
      simp [Instr.field, run_underlying' hu, hf, asAgg, h2]
  · cases hv

theorem op_faddr (C : Ctx P fm fmi ρ X PV bar s w a) {t f n : Nat} {fs : Array Field} {fd : Field} {x : Operand} {sx : SOpd} (hx : lOpd fmi x = some sx)
    (hu : P.underlying t = some (.struct fs)) (hf : fs[f]? = some fd) (hs : tSize P fd.type = some n) (hn : 0 < n)
    (hop : o.op = .fieldAddr t x f) (hv : aop call bar s (.faddr fd.offset sx) = some (v, s')) : Good fm ρ X PV bar s w a.tmps ((execOp a.eval o).run P w) v s' := by
  obtain ⟨hv1, rfl⟩ := St.pure_some hv
  clear hv
  obtain ⟨c, h1, h2⟩ := afaddr_sound hu hf hs hn (C.F.raw C.hfm hx rfl) hv1
  refine Good.same C.F (c := c) ?_ h2
  simp only [execOp, hop]
  exact run_v h1

theorem op_iaddr (C : Ctx P fm fmi ρ X PV bar s w a) {t e sz : Nat} {arr : Option Nat} {x i : Operand} {sx si : SOpd} (hx : lOpd fmi x = some sx) (hi : lOpd fmi i = some si) (hsz : 0 < sz) (hs : tSize P e = some sz)
    (ht : (∃ n, P.underlying t = some (.array n e) ∧ arr = some n) ∨ (P.underlying t = some (.slice e) ∧ arr = none))
    (hop : o.op = .indexAddr t x i) (hv : aop call bar s (.iaddr arr sz sx si) = some (v, s')) : Good fm ρ X PV bar s w a.tmps ((execOp a.eval o).run P w) v s' := by
  simp only [aop] at hv
  split at hv
  · rename_i k j hr
    obtain ⟨hv1, rfl⟩ := St.pure_some hv
    clear hv
    have h1 := C.F.val C.hfm hi rfl
    rw [hr] at h1
    generalize he : a.eval i = c at h1
    cases h1
    obtain ⟨c, h1, h2⟩ := aiaddr_sound (k := k) hsz hs ht C.F.inv (C.F.raw C.hfm hx rfl) hv1
    refine Good.same C.F (c := c) ?_ h2
    simp only [execOp, hop, he]
    exact run_v h1
  · cases hv

theorem op_idx (C : Ctx P fm fmi ρ X PV bar s w a) {t : Nat} {arr : Option (Nat × Nat × Bool)} {x i : Operand} {sx si : SOpd} (hx : lOpd fmi x = some sx) (hi : lOpd fmi i = some si)
    (ht : (∃ n e sz ag, P.underlying t = some (.array n e) ∧ tSize P e = some sz ∧ tAgg P e = some ag ∧ arr = some (n, sz, ag)) ∨ (P.underlying t = some .string ∧ arr = none))
    (hop : o.op = .index t x i) (hv : aop call bar s (.idx arr sx si) = some (v, s')) : Good fm ρ X PV bar s w a.tmps ((execOp a.eval o).run P w) v s' := by
  simp only [aop] at hv
  split at hv
  · rename_i k j hr
    obtain ⟨hv1, rfl⟩ := St.pure_some hv
    clear hv
    have h1 := C.F.val C.hfm hi rfl
    rw [hr] at h1
    generalize he : a.eval i = c at h1
    cases h1
    obtain ⟨c, h1, h2⟩ := aidx_sound (k := k) (C.F.val C.hfm hx rfl) ht hv1
    refine Good.same C.F (c := c) ?_ (ER.of h2)
    simp only [execOp, hop, he]
    exact run_v h1
  · cases hv

theorem FR.optval (hfm : ∀ f g, fmi f = some g → fm g = f) (F : FR fm ρ X PV s w a.tmps) {x : Option Operand} {sx : Option SOpd} (hx : lOpt fmi x = some sx) :
    OV fm ρ (XP X PV) s.heap w (sx.map s.val) (x.map a.eval) := by
  cases x with
  | none =>
    simp only [lOpt, Option.some.injEq] at hx
    subst hx
    trivial
  | some x =>
    simp only [lOpt, Option.map_eq_some_iff] at hx
    obtain ⟨y, h1, rfl⟩ := hx
    exact F.val hfm h1 rfl

theorem aslice_str {t : Nat} (hu : P.underlying t = some .string) {x : AV} {c : Value} {X : Nat → Prop} (hx : VR fm ρ X h w x c) {lo hi : Option AV} {clo chi : Option Value} (hlo : OV fm ρ X h w lo clo) (hhi : OV fm ρ X h w hi chi)
    {v : AV} (hv : aslice .str h x lo hi none = some v) : ∃ c', (Instr.slice t c clo chi none).run P w = .ok c' w ∧ VR fm ρ X h w v c' := by
  simp only [aslice, Option.bind_eq_some_iff] at hv
  obtain ⟨l, h1, hv⟩ := hv
  split at hv <;> first | (cases hv; done) | skip
  all_goals first | (rename_i hq; cases hq; done) | skip
  rename_i b _
  simp only [Option.isSome_none, Bool.false_eq_true, if_false, Option.bind_eq_some_iff] at hv
  obtain ⟨r, h2, hv⟩ := hv
  obtain ⟨hb, hv⟩ := of_ite hv
  injection hv with hv; subst hv
  cases hx
  have hsz : (⟨b.toArray⟩ : ByteArray).size = b.length := by simp [ByteArray.size]
  have hbd := run_bounds (P := P) (isS := false) (len := b.length) (cap := b.length) hlo hhi (mx := none) (cmx := none) trivial h1 h2 (m := b.length) (by simp [obound]) (by omega) (by simp)
  refine ⟨.string ⟨((b.drop l.toNat).take (r - l).toNat).toArray⟩, ?_, .str _⟩
  simp only [Instr.slice, Sem.run_bind, run_underlying' hu, Result.andThen_ok, hsz, hbd, Option.isSome_none, Bool.false_eq_true, if_false, Sem.run_pure]
  congr 2
  apply ByteArray.ext
  rw [ByteArray.data_extract]
  have e1 : (r - l).toNat = r.toNat - l.toNat := by omega
  simp [e1, List.drop_take]

theorem aslice_nils {t e sz : Nat} (hu : P.underlying t = some (.slice e)) (hs : tSize P e = some sz) {c : Value} {X : Nat → Prop} (hx : VR fm ρ X h w .nils c) {lo hi mx : Option AV} {clo chi cmx : Option Value}
    (hlo : OV fm ρ X h w lo clo) (hhi : OV fm ρ X h w hi chi) (hmx : OV fm ρ X h w mx cmx) (hmh : mx.isSome → hi.isSome)
    {v : AV} (hv : aslice .slice h .nils lo hi mx = some v) : ∃ c', (Instr.slice t c clo chi cmx).run P w = .ok c' w ∧ VR fm ρ X h w v c' := by
  simp only [aslice, Option.bind_eq_some_iff] at hv
  obtain ⟨l, h1, r, h2, m, h3, hv⟩ := hv
  obtain ⟨hb, hv⟩ := of_ite hv
  injection hv with hv; subst hv
  cases hx
  have hbd := run_bounds (P := P) (isS := true) (len := 0) (cap := 0) hlo hhi hmx h1 (by simpa using h2) (by simpa using h3) (by omega) hmh
  refine ⟨.slice none 0 0, ?_, .nils⟩
  simp only [Instr.slice, Sem.run_bind, run_underlying' hu, Result.andThen_ok, hbd, run_sizeOf' hs, Sem.run_pure]
  obtain ⟨rfl, rfl, rfl⟩ := hb
  simp

theorem op_slice (C : Ctx P fm fmi ρ X PV bar s w a) {t : Nat} {k : TK} {sz0 : Nat} {x : Operand} {lo hi mx : Option Operand} {sx : SOpd} {slo shi smx : Option SOpd} (hx : lOpd fmi x = some sx)
    (hlo : lOpt fmi lo = some slo) (hhi : lOpt fmi hi = some shi) (hmx : lOpt fmi mx = some smx)
    (ht : (P.underlying t = some .string ∧ smx = none ∧ k = .str) ∨ (∃ e sz, P.underlying t = some (.slice e) ∧ tSize P e = some sz ∧ 0 < sz ∧ (smx.isSome → shi.isSome) ∧ k = .slice ∧ sz0 = sz))
    (hop : o.op = .slice t x lo hi mx) (hv : aop call bar s (.slice k sz0 sx slo shi smx) = some (v, s')) : Good fm ρ X PV bar s w a.tmps ((execOp a.eval o).run P w) v s' := by
  obtain ⟨hv1, rfl⟩ := St.pure_some hv
  clear hv
  obtain ⟨hok, hv2⟩ := of_ite' hv1
  clear hv1
  have hv1 := hv2
  clear hv2
  have h1 := C.F.val C.hfm hx rfl
  have h2 := C.F.optval C.hfm hlo
  have h3 := C.F.optval C.hfm hhi
  have h4 := C.F.optval C.hfm hmx
  have key : ∃ c', (Instr.slice t (a.eval x) (lo.map a.eval) (hi.map a.eval) (mx.map a.eval)).run P w = .ok c' w ∧ VR fm ρ (XP X PV) s.heap w v c' := by
    rcases ht with ⟨hu, rfl, rfl⟩ | ⟨e, sz, hu, hs, hpos, hmh, rfl, rfl⟩
    · have hm : mx.map a.eval = none := by
        cases mx with
        | none => rfl
        | some m => simp [lOpt, Option.map_eq_some_iff] at hmx
      rw [hm]
      exact aslice_str hu h1 h2 h3 hv1
    · have hmh' : (smx.map s.val).isSome → (shi.map s.val).isSome := by simpa using hmh
      generalize s.val sx = y at hv1 h1 hok
      cases y with
      | nils => exact aslice_nils hu hs h1 h2 h3 h4 hmh' hv1
      | isl els sz' cap =>
        exact aslice_isl hu hs (by simpa [szOk] using hok) h1 h2 h3 h4 hmh' hv1
      | hsl b bl i len sz' cap =>
        exact aslice_hsl C.F.inv hu hs hpos (by simpa [szOk] using hok) h1 h2 h3 h4 hmh' hv1
      | _ => simp [aslice, Option.bind_eq_some_iff] at hv1
  obtain ⟨c', h5, h6⟩ := key
  refine Good.same C.F (c := c') ?_ (ER.of h6)
  simp only [execOp, hop]
  refine run_v ?_
  rcases ht with ⟨hu, _⟩ | ⟨e, sz, hu, _⟩
  · simp only [Instr.sliceAt, Sem.run_bind, run_underlying' hu, Result.andThen_ok, h5]
  · simp only [Instr.sliceAt, Sem.run_bind, run_underlying' hu, Result.andThen_ok, h5]

end
end Go.Ai
/-
  The abstract interpreter: rows of elements against flat cells.
-/
namespace Go.Ai
open Go.RowKit
set_option linter.unusedVariables false
set_option linter.unusedSimpArgs false

section
variable {P : Program} {fm : Nat → Nat} {fmi : Nat → Option Nat} {ρ : Map} {X : Nat → Prop} {PV : Map} {bar : Nat} {s s' : St} {w : World} {h : AHeap} {call : Caller} {a : Act} {o : Oper} {v : AV}

/-- elements of sz cells each, against cells one behind the other -/
structure FlatR (fm : Nat → Nat) (ρ : Map) (X : Nat → Prop) (h : AHeap) (w : World) (sz : Nat) (els : List (List AV)) (vs : List Value) : Prop where
  wid : ∀ (i : Nat) x, els[i]? = some x → x.length = sz
  len : vs.length = els.length * sz
  val : ∀ (i : Nat) x (j : Nat) a v, els[i]? = some x → x[j]? = some a → vs[i * sz + j]? = some v → VR fm ρ X h w a v

theorem FlatR.mono {ρ' : Map} {X' : Nat → Prop} {h' : AHeap} {w' : World} (L : Le ρ X h w ρ' X' h' w') {sz : Nat} {els : List (List AV)} {vs : List Value} (H : FlatR fm ρ X h w sz els vs) :
    FlatR fm ρ' X' h' w' sz els vs := ⟨H.wid, H.len, fun i x j a v h1 h2 h3 => (H.val i x j a v h1 h2 h3).mono L⟩

theorem flat_lt {n i j sz : Nat} (hi : i < n) (hj : j < sz) : i * sz + j < n * sz := by
  have h1 : (i + 1) * sz ≤ n * sz := Nat.mul_le_mul_right _ hi
  rw [Nat.add_mul] at h1
  omega

theorem FlatR.nil (sz : Nat) : FlatR fm ρ X h w sz [] [] := ⟨by simp, by simp, by simp⟩

theorem seg_get (l m : List Value) (o j : Nat) (h : o + m.length ≤ l.length) :
    (l.take o ++ m ++ l.drop (o + m.length))[j]? = if j < o then l[j]? else if j < o + m.length then m[j - o]? else l[j]? := by
  have h1 : (l.take o).length = o := by simp; omega
  by_cases q : j < o
  · rw [if_pos q, List.append_assoc, List.getElem?_append_left (by omega), List.getElem?_take, if_pos q]
  · rw [if_neg q]
    by_cases q2 : j < o + m.length
    · rw [if_pos q2, List.append_assoc, List.getElem?_append_right (by omega), h1, List.getElem?_append_left (by omega)]
    · rw [if_neg q2, List.append_assoc, List.getElem?_append_right (by omega), h1, List.getElem?_append_right (by omega), List.getElem?_drop]
      congr 1
      omega

theorem segA_get (l m : List AV) (o j : Nat) (h : o + m.length ≤ l.length) :
    (setSeg l o m)[j]? = if j < o then l[j]? else if j < o + m.length then m[j - o]? else l[j]? := by
  unfold setSeg
  have h1 : (l.take o).length = o := by simp; omega
  by_cases q : j < o
  · rw [if_pos q, List.append_assoc, List.getElem?_append_left (by omega), List.getElem?_take, if_pos q]
  · rw [if_neg q]
    by_cases q2 : j < o + m.length
    · rw [if_pos q2, List.append_assoc, List.getElem?_append_right (by omega), h1, List.getElem?_append_left (by omega)]
    · rw [if_neg q2, List.append_assoc, List.getElem?_append_right (by omega), h1, List.getElem?_append_right (by omega), List.getElem?_drop]
      congr 1
      omega

theorem setSeg_length (l m : List AV) (o : Nat) (h : o + m.length ≤ l.length) : (setSeg l o m).length = l.length := by
  simp [setSeg]; omega

theorem fold_set (off : Nat) : ∀ (l : List Value) (k : Nat) (cells : Array Value), off + k + l.length ≤ cells.size →
    ((l.zipIdx k).foldl (fun cs p => cs.setIfInBounds (off + p.2) p.1) cells).toList = cells.toList.take (off + k) ++ l ++ cells.toList.drop (off + k + l.length)
  | [], k, cells, hl => by simp
  | v :: r, k, cells, hl => by
    simp only [List.zipIdx_cons, List.foldl_cons]
    rw [fold_set off r (k + 1) _ (by simp at hl ⊢; omega)]
    have e := list_seg_step cells.toList (off + k) v r (by simp at hl ⊢; omega)
    simpa [Array.toList_setIfInBounds, Nat.add_assoc] using e

/-- the parts of a literal are laid into cells -/
theorem fill_step (place : Nat → Option (Nat × Nat)) (i : Nat) (c : Value) (rest : List (Nat × Value)) (cells : Array Value) {off size : Nat} (hp : place i = some (off, size))
    (h1 : c.cells.size = size) (h2 : off + size ≤ cells.size) :
    Instr.fill place cells ((i, c) :: rest) = Instr.fill place (cells.toList.take off ++ c.cells.toList ++ cells.toList.drop (off + size)).toArray rest := by
  simp only [Instr.fill, hp]
  rw [if_neg (by simp [h1]; omega)]
  congr 1
  apply Array.toList_inj.1
  have := fold_set off c.cells.toList 0 cells (by simp; omega)
  simp only [Nat.add_zero, Array.length_toList, h1] at this
  rw [← this, ← Array.foldl_toList, Array.toList_zipIdx]

theorem VRs.seg {cs ds : List AV} {vs us : List Value} (H : VRs fm ρ X h w cs vs) (K : VRs fm ρ X h w ds us) {off : Nat} (hl : off + ds.length ≤ cs.length) :
    VRs fm ρ X h w (setSeg cs off ds) (vs.take off ++ us ++ vs.drop (off + us.length)) := by
  have h1 := H.1
  have h2 := K.1
  refine ⟨by rw [setSeg_length _ _ _ hl]; simp; omega, fun j a v ha hv => ?_⟩
  rw [segA_get _ _ _ _ hl] at ha
  rw [seg_get _ _ _ _ (by omega)] at hv
  by_cases q : j < off
  · rw [if_pos q] at ha hv
    exact H.2 j a v ha hv
  · rw [if_neg q] at ha hv
    by_cases q2 : j < off + ds.length
    · rw [if_pos q2] at ha
      rw [if_pos (by omega)] at hv
      exact K.2 _ a v ha hv
    · rw [if_neg q2] at ha
      rw [if_neg (by omega)] at hv
      exact H.2 j a v ha hv

theorem one_cells_of {c : AV} : c.cells.all AV.one = true → c ≠ .junk := by
  rintro h rfl
  simp [AV.cells, AV.one] at h

/-- a value's cells: as many as the abstract one's, but for junk -/
theorem VR.cells_or {a : AV} {c : Value} (H : VR fm ρ X h w a c) (hj : a ≠ .junk) : VRs fm ρ X h w a.cells c.cells.toList := by
  cases H with
  | agg vs hl hv => exact ⟨by simpa [Value.cells, AV.cells] using hl, by simpa [Value.cells, AV.cells] using hv⟩
  | junk v => exact absurd rfl hj
  | _ =>
    refine ⟨rfl, fun j x v hx hv => ?_⟩
    cases j with
    | zero =>
      simp only [AV.cells, Value.cells, List.getElem?_cons_zero, Option.some.injEq] at hx hv
      subst hx hv
      first | exact .bool _ | exact .int _ _ | exact .str _ | exact .nilp | exact .nils | exact .nilm | exact .nilf | exact .nili | (constructor <;> assumption)
    | succ j => simp [AV.cells] at hx

end
end Go.Ai
/-
  The abstract interpreter: each operation's run, one by one (2): literals, new variables.
-/
namespace Go.Ai
open Go.RowKit
set_option linter.unusedVariables false
set_option linter.unusedSimpArgs false

section
variable {P : Program} {fm : Nat → Nat} {fmi : Nat → Option Nat} {ρ : Map} {X : Nat → Prop} {PV : Map} {bar : Nat} {s s' : St} {w : World} {h : AHeap} {call : Caller} {a : Act} {o : Oper} {v : AV}

theorem ones_list {cs : Array Value} (h : oneCells cs = true) : ∀ v ∈ cs.toList, v.oneCell' = true := by
  intro v hv
  unfold oneCells at h
  rw [Array.all_eq_true'] at h
  exact h v (by simpa using hv)

theorem VRs_ofC1 (fm : Nat → Nat) (ρ : Map) (X : Nat → Prop) (h : AHeap) (w : World) (cs : Array Value) : VRs fm ρ X h w (cs.toList.map ofC1) cs.toList :=
  ⟨by simp, VR_list_ofC1 fm ρ X h w cs⟩

/-- a new variable of whatever place -/
theorem Good.new (C : Ctx P fm fmi ρ X PV bar s w a) (p : Place) {cs : List AV} {vs : List Value} (H : VRs fm ρ (XP X PV) s.heap w cs vs) (ho : ∀ v ∈ vs, v.oneCell' = true) {e : TypeId} {R : Result Next}
    (hr : R = .ok (.value (.pointer (some ⟨w.heap.size, 0, none⟩))) (w.alloc (.cells vs.toArray e)))
    (hv : (match p with
      | .heap => some (AV.hptr s.heap.length 1 0 0, { s with heap := s.heap ++ [.row cs.length [cs]] })
      | .loc d => s.newVar d (.cells cs)
      | .imm => some (.iptr cs 0, s)) = some (v, s')) : Good fm ρ X PV bar s w a.tmps R v s' := by
  cases p with
  | heap =>
    simp only [Option.some.injEq, Prod.mk.injEq] at hv
    obtain ⟨rfl, rfl⟩ := hv
    exact Good.box C.bar C.F H ho hr
  | loc d =>
    refine Good.loc C.F d _ (.cells vs.toArray e) hv ?_ hr
    have L : Le ρ (XP X PV) s.heap w ρ (XP X (up PV d w.heap.size)) s.heap (w.alloc (.cells vs.toArray e)) := Le.allocX _ (fun B hB => XP_up hB)
    refine ⟨vs.toArray, e, (0, 0), heap_alloc_eq _, by simpa using H.1, .inl (Nat.le_refl _), fun j x hx => ?_⟩
    have hlt : j < vs.length := by have := (List.getElem?_eq_some_iff.1 hx).1; have := H.1; omega
    exact ⟨vs[j], by simp [hlt], ho _ (List.getElem_mem hlt), (H.2 j x _ hx (List.getElem?_eq_getElem hlt)).mono L⟩
  | imm =>
    simp only [Option.some.injEq, Prod.mk.injEq] at hv
    obtain ⟨rfl, rfl⟩ := hv
    exact Good.imm C.F H ho hr

theorem op_box (C : Ctx P fm fmi ρ X PV bar s w a) {t : Nat} {p : Place} {x : Operand} {sx : SOpd} (hx : lOpd fmi x = some sx) (hop : o.op = .box t x) (hv : aop call bar s (.box p sx) = some (v, s')) :
    Good fm ρ X PV bar s w a.tmps ((execOp a.eval o).run P w) v s' := by
  simp only [aop] at hv
  obtain ⟨h1, hv⟩ := of_ite hv
  have H := (C.F.val C.hfm hx rfl).cells h1
  refine Good.new C p H (H.ones h1) (e := t) ?_ hv
  simp only [execOp, hop]
  refine run_v ?_
  simp [Instr.box, newVar, newRow]

theorem op_new (C : Ctx P fm fmi ρ X PV bar s w a) {t : Nat} {p : Place} {z : Value} (hz : tZero P t = some z) (h1 : oneCells z.cells = true) (hop : o.op = .alloc t)
    (hv : aop call bar s (.new p (z.cells.toList.map ofC1)) = some (v, s')) : Good fm ρ X PV bar s w a.tmps ((execOp a.eval o).run P w) v s' := by
  simp only [aop] at hv
  refine Good.new C p (VRs_ofC1 fm ρ (XP X PV) s.heap w z.cells) (ones_list h1) (e := t) ?_ hv
  simp only [execOp, hop]
  refine run_v ?_
  simp [Instr.alloc, run_zeroValue' hz, newVar, newRow]

theorem chunk_get (sz : Nat) : ∀ (n i : Nat) (l : List AV), (chunk sz n l)[i]? = if i < n then some ((l.drop (i * sz)).take sz) else none
  | 0, i, l => by simp [chunk]
  | n + 1, i, l => by
    simp only [chunk]
    cases i with
    | zero => simp
    | succ i =>
      rw [List.getElem?_cons_succ, chunk_get sz n i]
      by_cases q : i < n
      · rw [if_pos q, if_pos (by omega), List.drop_drop, Nat.add_mul, Nat.one_mul, Nat.add_comm]
      · rw [if_neg q, if_neg (by omega)]

theorem chunk_length (sz : Nat) : ∀ (n : Nat) (l : List AV), (chunk sz n l).length = n
  | 0, l => rfl
  | n + 1, l => by simp [chunk, chunk_length sz n]

theorem FlatR.chunk {cs : List AV} {vs : List Value} {n sz : Nat} (H : VRs fm ρ X h w cs vs) (hl : cs.length = n * sz) : FlatR fm ρ X h w sz (chunk sz n cs) vs := by
  refine ⟨fun i x hx => ?_, by rw [chunk_length, H.1, hl], fun i x j y u hx hy hu => ?_⟩
  · rw [chunk_get] at hx
    split at hx
    · rename_i hi
      injection hx with hx
      subst hx
      have : (i + 1) * sz ≤ n * sz := Nat.mul_le_mul_right _ hi
      rw [Nat.add_mul] at this
      simp; omega
    · cases hx
  · rw [chunk_get] at hx
    split at hx
    · injection hx with hx
      subst hx
      rw [List.getElem?_take] at hy
      split at hy
      · rw [List.getElem?_drop] at hy
        exact H.2 _ _ _ hy hu
      · cases hy
    · cases hx

/-- a row of the heap out of flat cells -/
theorem FlatR.row {sz B : Nat} {els : List (List AV)} {vs : List Value} (H : FlatR fm ρ X h w sz els vs) {arr : Array Value} {e : TypeId} {fz : Nat × Nat} (hw : w.heap[B]? = some (.cells arr e fz))
    (hp : ∀ (j : Nat), j < vs.length → arr[j]? = vs[j]?) (hl : vs.length ≤ arr.size) (hfz : fz.2 ≤ fz.1 ∨ arr.size ≤ fz.1 ∧ sz = 1) (hone : ∀ (j : Nat) (v : Value), arr[j]? = some v → v.oneCell' = true) (ho : ∀ v ∈ vs, v.oneCell' = true) : RowR fm ρ X h w B sz els := by
  refine ⟨H.wid, arr, e, fz, hw, by rw [← H.len]; exact hl, ⟨hfz, hone⟩, fun i x j y hx hy => ?_⟩
  have hj : j < sz := by have := (List.getElem?_eq_some_iff.1 hy).1; rw [H.wid i x hx] at this; exact this
  have hi : i < els.length := (List.getElem?_eq_some_iff.1 hx).1
  have hlt : i * sz + j < vs.length := by rw [H.len]; exact flat_lt hi hj
  exact ⟨vs[i * sz + j], by rw [hp _ hlt]; exact List.getElem?_eq_getElem hlt, ho _ (List.getElem_mem hlt), H.val i x j y _ hx hy (List.getElem?_eq_getElem hlt)⟩

/-- a slice that is never written, out of flat cells in a new block -/
theorem FlatR.isl {sz B cc : Nat} {els : List (List AV)} {vs : List Value} (H : FlatR fm ρ X h w sz els vs) {arr : Array Value} {e : TypeId} {fz : Nat × Nat} (hw : w.heap[B]? = some (.cells arr e fz)) (hB : Out ρ X w B)
    (hp : ∀ (j : Nat), j < vs.length → arr[j]? = vs[j]?) (ho : ∀ v ∈ vs, v.oneCell' = true) (hlc : els.length ≤ cc) {cap : Option Nat} (hcap : capIs cap els.length cc) :
    VR fm ρ X h w (.isl els sz cap) (.slice (some ⟨B, 0, none⟩) els.length cc) := by
  have seg : ∀ (i : Nat) (ev : List Value), ((List.range els.length).map fun i => (vs.drop (i * sz)).take sz)[i]? = some ev → i < els.length ∧ ev = (vs.drop (i * sz)).take sz := fun i ev he => by
    rw [List.getElem?_map] at he
    by_cases q : i < els.length
    · rw [List.getElem?_range q] at he
      simp only [Option.map_some, Option.some.injEq] at he
      exact ⟨q, he.symm⟩
    · rw [List.getElem?_eq_none (by simp; omega)] at he
      cases he
  refine .isl ((List.range els.length).map fun i => (vs.drop (i * sz)).take sz) (by simp) hlc hcap (fun _ => ⟨rfl, hB⟩) H.wid (fun i ev he => ?_) (fun i ev j v he hj => ?_) (fun i x ev j y v hx he hy hv => ?_)
  · obtain ⟨hi, rfl⟩ := seg i ev he
    have h1 : (i + 1) * sz ≤ els.length * sz := Nat.mul_le_mul_right _ hi
    rw [Nat.add_mul] at h1
    have := H.len
    simp; omega
  · obtain ⟨hi, rfl⟩ := seg i ev he
    rw [List.getElem?_take] at hj
    split at hj
    · rw [List.getElem?_drop] at hj
      have hlt := (List.getElem?_eq_some_iff.1 hj).1
      refine ⟨?_, ho v (List.mem_of_getElem? hj)⟩
      simp only [World.cell?, hw]
      simpa [hp _ hlt] using hj
    · cases hj
  · obtain ⟨hi, rfl⟩ := seg i ev he
    rw [List.getElem?_take] at hv
    split at hv
    · rw [List.getElem?_drop] at hv
      exact H.val i x j y v hx hy hv
    · cases hv

theorem op_newrow (C : Ctx P fm fmi ρ X PV bar s w a) {t n e sz : Nat} {z : Value} (hz : tZero P t = some z) (h1 : oneCells z.cells = true) (hl : z.cells.size = n * sz)
    (hop : o.op = .alloc t) (hv : aop call bar s (.newrow sz (chunk sz n (z.cells.toList.map ofC1))) = some (v, s')) : Good fm ρ X PV bar s w a.tmps ((execOp a.eval o).run P w) v s' := by
  simp only [aop, Option.some.injEq, Prod.mk.injEq] at hv
  obtain ⟨rfl, rfl⟩ := hv
  have L := Le.push C.F.inv C.F.notX (.cells z.cells t) (.row sz (chunk sz n (z.cells.toList.map ofC1)))
  refine Good.push C.bar C.F (.cells z.cells t) _ (fun sz' els' he => ?_) (fun es he => by cases he) (c := .pointer (some ⟨w.heap.size, 0, none⟩)) ?_ ?_
  · injection he with h2 h3
    subst h2 h3
    have H := (FlatR.chunk (n := n) (sz := sz) (VRs_ofC1 fm ρ (XP X PV) s.heap w z.cells) (by simpa using hl)).mono L
    exact H.row (heap_alloc_eq _) (fun j hj => by simp) (by simp) (.inl (Nat.le_refl _)) (fun j v hj => ones_list h1 v (List.mem_of_getElem? (by simpa using hj))) (ones_list h1)
  · refine .hptr (by simp) fun B sz' els' hB he => ?_
    rw [up_same] at hB
    injection hB with hB
    subst hB
    simp only [List.getElem?_concat_length, Option.some.injEq, ABlk.row.injEq] at he
    obtain ⟨rfl, rfl⟩ := he
    exact ⟨Nat.le_refl _, fun _ => by simp⟩
  · simp only [execOp, hop]
    refine run_v ?_
    simp [Instr.alloc, run_zeroValue' hz, newVar, newRow]

/-! ### Literals -/
theorem fill_sound (hfm : ∀ f g, fmi f = some g → fm g = f) (F : FR fm ρ X PV s w a.tmps) (place : Nat → Option (Nat × Nat)) : ∀ (parts : List (Nat × Operand)) (sp : List (Nat × Nat × SOpd)) (cs ds : List AV) (vs : List Value),
    lParts fmi place parts = some sp → VRs fm ρ (XP X PV) s.heap w cs vs → (∀ v ∈ vs, v.oneCell' = true) → abuild cs (sp.map fun (o, n, x) => (o, n, s.val x)) = some ds →
    ∃ us, Instr.fill place vs.toArray (parts.map fun (i, x) => (i, a.eval x)) = some us.toArray ∧ VRs fm ρ (XP X PV) s.heap w ds us ∧ (∀ v ∈ us, v.oneCell' = true)
  | [], sp, cs, ds, vs, hl, H, ho, hb => by
    simp only [lParts, Option.some.injEq] at hl
    subst hl
    simp only [List.map_nil, abuild, Option.some.injEq] at hb
    subst hb
    exact ⟨vs, rfl, H, ho⟩
  | (i, x) :: r, sp, cs, ds, vs, hl, H, ho, hb => by
    simp only [lParts, Option.bind_eq_some_iff, Option.map_eq_some_iff] at hl
    obtain ⟨⟨off, n⟩, h1, b, h2, l, h3, rfl⟩ := hl
    simp only [List.map_cons, abuild] at hb
    obtain ⟨⟨h4, h5, h6⟩, hb⟩ := of_ite hb
    have K := (F.val hfm h2 rfl).cells h6
    have hcs : (a.eval x).cells.size = n := by have := K.1; simp at this; omega
    have hvl : off + n ≤ vs.toArray.size := by have := H.1; simp; omega
    rw [List.map_cons, fill_step place i (a.eval x) _ vs.toArray h1 hcs hvl]
    have hlen : (a.eval x).cells.toList.length = n := by simp [hcs]
    have S := H.seg K (off := off) (by omega)
    rw [hlen] at S
    refine fill_sound hfm F place r l _ ds _ h3 S (fun v hv => ?_) hb
    simp only [List.mem_append] at hv
    rcases hv with (hv | hv) | hv
    · exact ho v (List.mem_of_mem_take hv)
    · exact K.ones h6 v hv
    · exact ho v (List.mem_of_mem_drop hv)

theorem run_places (w : World) : ∀ (fs : List Field) (pl : List (Nat × Nat)), tPlaces P fs = some pl →
    (fs.mapM (fun f => do pure (f.offset, ← sizeOf f.type) : Field → Sem (Nat × Nat))).run P w = .ok pl w
  | [], pl, h => by
    simp only [tPlaces, Option.some.injEq] at h
    subst h
    rfl
  | f :: r, pl, h => by
    simp only [tPlaces, Option.bind_eq_some_iff, Option.map_eq_some_iff] at h
    obtain ⟨n, h1, l, h2, rfl⟩ := h
    have ih := run_places w r l h2
    simp only [List.mapM_cons, Sem.run_bind, run_sizeOf' h1, Result.andThen_ok, ih, Sem.run_pure]

theorem op_build (C : Ctx P fm fmi ρ X PV bar s w a) {t : Nat} {z : Value} {parts : Array (Nat × Operand)} {sp : List (Nat × Nat × SOpd)} (hz : tZero P t = some z) (h1 : oneCells z.cells = true)
    (ht : (∃ fs pl, P.underlying t = some (.struct fs) ∧ tPlaces P fs.toList = some pl ∧ lParts fmi (pl[·]?) parts.toList = some sp) ∨
      (∃ n e sz, P.underlying t = some (.array n e) ∧ tSize P e = some sz ∧ lParts fmi (fun i => some (i * sz, sz)) parts.toList = some sp))
    (hop : o.op = .build t parts) (hv : aop call bar s (.build (z.cells.toList.map ofC1) sp) = some (v, s')) : Good fm ρ X PV bar s w a.tmps ((execOp a.eval o).run P w) v s' := by
  simp only [aop, Option.map_eq_some_iff, Prod.mk.injEq] at hv
  obtain ⟨ds, hb, rfl, rfl⟩ := hv
  have H := VRs_ofC1 fm ρ (XP X PV) s.heap w z.cells
  have hm : (parts.map fun (i, x) => (i, a.eval x)).toList = parts.toList.map fun (i, x) => (i, a.eval x) := by simp
  rcases ht with ⟨fs, pl, hu, hp, hl⟩ | ⟨n, e, sz, hu, hs, hl⟩
  · obtain ⟨us, h2, h3, _⟩ := fill_sound C.hfm C.F _ _ _ _ _ _ hl H (ones_list h1) hb
    refine Good.same C.F (c := .agg us.toArray) ?_ (ER.of h3.agg)
    simp only [execOp, hop]
    refine run_v ?_
    have hpl := run_places (P := P) w fs.toList pl hp
    have hpa : (fs.mapM (fun f => do pure (f.offset, ← sizeOf f.type) : Field → Sem (Nat × Nat))).run P w = .ok pl.toArray w := by
      rw [Array.mapM_eq_mapM_toList, Sem.run_map, hpl]
      rfl
    have hz' : z.cells.toList.toArray = z.cells := by simp
    rw [hz'] at h2
    have hfun : (fun (i : Nat) => pl.toArray[i]?) = (fun (i : Nat) => pl[i]?) := by funext i; simp
    simp only [Instr.build, Sem.run_bind, run_zeroValue' hz, Result.andThen_ok, run_underlying' hu, hpa, hfun, hm, h2]
    rfl
  · obtain ⟨us, h2, h3, _⟩ := fill_sound C.hfm C.F _ _ _ _ _ _ hl H (ones_list h1) hb
    refine Good.same C.F (c := .agg us.toArray) ?_ (ER.of h3.agg)
    simp only [execOp, hop]
    refine run_v ?_
    have hz' : z.cells.toList.toArray = z.cells := by simp
    rw [hz'] at h2
    simp only [Instr.build, Sem.run_bind, run_zeroValue' hz, Result.andThen_ok, run_underlying' hu, run_sizeOf' hs, hm, h2]
    rfl

end
end Go.Ai
/-
  The abstract interpreter: each operation's run, one by one (3): stores, slices that are made.
-/
namespace Go.Ai
open Go.RowKit
set_option linter.unusedVariables false
set_option linter.unusedSimpArgs false

section
variable {P : Program} {fm : Nat → Nat} {fmi : Nat → Option Nat} {ρ : Map} {X : Nat → Prop} {PV : Map} {bar : Nat} {s s' : St} {w w' : World} {h : AHeap} {call : Caller} {a : Act} {o : Oper} {v : AV} {tmps : Array Value}

/-- a world in which one block alone is another one -/
structure But (w w' : World) (B : Nat) : Prop where
  size : w'.heap.size = w.heap.size
  os : w'.os = w.os
  tape : w'.tape = w.tape
  output : w'.output = w.output
  other : ∀ k, k ≠ B → w'.heap[k]? = w.heap[k]?

theorem But.setRow (w : World) (B : Nat) (arr : Array Value) : But w (w.setRow B arr) B := ⟨by simp, rfl, rfl, rfl, fun k hk => setRow_other w B k arr hk⟩

theorem But.le {B : Nat} (D : But w w' B) (hB : X B) (hρ : ∀ b, ρ b ≠ some B) : Le ρ X h w ρ X h w' where
  len := Nat.le_refl _
  size := Nat.le_of_eq D.size.symm
  os := D.os
  tape := D.tape
  output := D.output
  imm B0 hB0 := ⟨D.other B0 (fun q => hB0.apart (q ▸ hB)), hB0.heap, hB0.apart⟩
  blk b0 hb0 B' e0 := by
    have hne : B' ≠ B := fun q => hρ b0 (q ▸ e0)
    exact .inl ⟨e0, fun sz els' q => ⟨els', q, rfl⟩, fun es' q => ⟨es', q⟩, fun arr t fr q => ⟨arr, fr, by rw [D.other B' hne]; exact q, rfl⟩⟩

/-- a variable of the frame's own is written -/
theorem Good.setVar (F : FR fm ρ X PV s w tmps) {d B : Nat} (hd : PV d = some B) (D : But w w' B) (lv : LVar) (hv : LR fm ρ (XP X PV) s.heap w' lv B)
    {R : Result Next} {nx : Next} {c : Value} (hr : R = .ok nx w') (hn : nx = .value c ∨ (nx = .skip ∧ c = undef)) (hc : VR fm ρ (XP X PV) s.heap w' v c) :
    Good fm ρ X PV bar s w tmps R v { s with vars := varSet s.vars d lv } := by
  have hXB : XP X PV B := .inr ⟨d, hd⟩
  have hρ : ∀ b, ρ b ≠ some B := fun b e => (F.inv.dom b B e).2.2 hXB
  have L : Le ρ (XP X PV) s.heap w ρ (XP X PV) s.heap w' := D.le hXB hρ
  have hlt := (F.pv d B hd)
  refine ⟨nx, w', c, ρ, PV, hr, hn, ⟨F.inv.mono L (fun b B0 e => D.other B0 (fun q => hρ b (q ▸ e))) (fun b B0 e => (F.inv.dom b B0 e).2.2), fun d' B' e => ?_, F.pvinj,
    fun t => (F.env t).mono L, fun d' v' e => ?_, fun B' hB' => by rw [D.size]; exact F.new B' hB', fun d' B' e => ?_⟩, ER.of hc, L, fun B' hB' hx => ?_, fun _ _ => ⟨rfl, rfl⟩, fun _ _ e => .inl e⟩
  · rw [D.size]; exact F.pv d' B' e
  · simp only [varGet_set] at e
    by_cases q : d' = d
    · rw [if_pos q] at e
      injection e with e
      subst e q
      exact ⟨B, hd, hv⟩
    · rw [if_neg q] at e
      obtain ⟨B', h1, h2⟩ := F.vars d' v' e
      have hne : B' ≠ B := fun q' => q (F.pvinj d' d B (q' ▸ h1) hd)
      exact ⟨B', h1, h2.mono L (D.other B' hne)⟩
  · show ∃ u, varGet (varSet s.vars d lv) d' = some u
    rw [varGet_set]
    by_cases q : d' = d
    · exact ⟨lv, by rw [if_pos q]⟩
    · rw [if_neg q]
      exact F.pvdom d' B' e
  · exact D.other B' (fun q => hlt.1 (q ▸ hx))

theorem seg_size {arr : Array Value} {us : List Value} {o : Nat} (h : o + us.length ≤ arr.size) : (arr.toList.take o ++ us ++ arr.toList.drop (o + us.length)).toArray.size = arr.size := by
  simp; omega

theorem seg_getA {arr : Array Value} {us : List Value} {o : Nat} (h : o + us.length ≤ arr.size) (j : Nat) : (arr.toList.take o ++ us ++ arr.toList.drop (o + us.length)).toArray[j]? =
    if j < o then arr[j]? else if j < o + us.length then us[j - o]? else arr[j]? := by
  rw [List.getElem?_toArray, seg_get _ _ _ _ (by simpa using h)]
  simp

/-- a row of the heap is written in place -/
theorem Good.setRow (F : FR fm ρ X PV s w tmps) {b B sz : Nat} {els els' : List (List AV)} (hb : bar ≤ b) (e : ρ b = some B) (he : s.heap[b]? = some (.row sz els)) (hl : els.length ≤ els'.length)
    {arr arr' : Array Value} {t : TypeId} {fz : Nat × Nat} (ha : w.heap[B]? = some (.cells arr t fz)) (hs : arr'.size = arr.size)
    (hr : RowR fm ρ (XP X PV) (s.heap.set b (.row sz els')) (w.setRow B arr') B sz els') {R : Result Next} {nx : Next} {c : Value} (hrun : R = .ok nx (w.setRow B arr')) (hn : nx = .value c ∨ (nx = .skip ∧ c = undef))
    (hc : VR fm ρ (XP X PV) (s.heap.set b (.row sz els')) (w.setRow B arr') v c) : Good fm ρ X PV bar s w tmps R v { s with heap := s.heap.set b (.row sz els') } := by
  have hX := (F.inv.dom b B e).2.2
  refine ⟨nx, _, c, ρ, PV, hrun, hn, F.setHeap (Le.set F.inv e he hl ha hs) (F.inv.set e he hl ha hs hr) (fun d B' e' => ?_), ER.of hc, Le.set F.inv e he hl ha hs, fun B' hB' hx => ?_, fun b' hb' => ⟨rfl, ?_⟩, fun _ _ e => .inl e⟩
  · exact setRow_other w B B' arr' (fun q => hX (.inr ⟨d, q ▸ e'⟩))
  · exact setRow_other w B B' arr' (fun q => hX (.inl (q ▸ hx)))
  · exact List.getElem?_set_ne (by omega)

/-- elements written into a row -/
theorem RowR.put {B sz : Nat} {els els' : List (List AV)} {arr : Array Value} {t : TypeId} {fz : Nat × Nat} (ha : w.heap[B]? = some (.cells arr t fz)) (R : RowR fm ρ X h w B sz els)
    (hfz : fz.2 ≤ fz.1 ∨ arr.size ≤ fz.1) {o : Nat} {us : List Value} (hfit : o + us.length ≤ arr.size)
    {ρ' : Map} {X' : Nat → Prop} {h' : AHeap} (L : Le ρ X h w ρ' X' h' (w.setRow B (arr.toList.take o ++ us ++ arr.toList.drop (o + us.length)).toArray))
    (hw : ∀ (i : Nat) x, els'[i]? = some x → x.length = sz) (hl : els'.length * sz ≤ arr.size) (ho : ∀ v ∈ us, v.oneCell' = true)
    (hin : ∀ (i : Nat) x (j : Nat) y v, els'[i]? = some x → x[j]? = some y → o ≤ i * sz + j → i * sz + j < o + us.length → us[i * sz + j - o]? = some v → VR fm ρ' X' h' (w.setRow B (arr.toList.take o ++ us ++ arr.toList.drop (o + us.length)).toArray) y v)
    (hout : ∀ (i : Nat) x (j : Nat) y, els'[i]? = some x → x[j]? = some y → ¬ (o ≤ i * sz + j ∧ i * sz + j < o + us.length) → ∃ i' x' j', els[i']? = some x' ∧ x'[j']? = some y ∧ i' * sz + j' = i * sz + j) :
    RowR fm ρ' X' h' (w.setRow B (arr.toList.take o ++ us ++ arr.toList.drop (o + us.length)).toArray) B sz els' := by
  obtain ⟨hwid, arr0, t0, fz0, h1, h2, h3, h4⟩ := R
  rw [ha] at h1
  simp only [Option.some.injEq, Obj.cells.injEq] at h1
  obtain ⟨rfl, rfl, rfl⟩ := h1
  have hsz : (arr.toList.take o ++ us ++ arr.toList.drop (o + us.length)).toArray.size = arr.size := by simp; omega
  have hget : ∀ k, (arr.toList.take o ++ us ++ arr.toList.drop (o + us.length)).toArray[k]? = if k < o then arr[k]? else if k < o + us.length then us[k - o]? else arr[k]? := fun k => by
    rw [List.getElem?_toArray, seg_get _ _ _ _ (by simpa using hfit)]
    simp
  refine ⟨hw, _, t, fz, setRow_heap w B arr _ t fz ha, by rw [hsz]; exact hl, ⟨by rw [hsz]; exact h3.1, fun k v hk => ?_⟩, fun i x j y hx hy => ?_⟩
  · rw [hget] at hk
    split at hk
    · exact h3.2 k v hk
    · split at hk
      · exact ho v (List.mem_of_getElem? hk)
      · exact h3.2 k v hk
  rw [hget]
  by_cases q : o ≤ i * sz + j ∧ i * sz + j < o + us.length
  · rw [if_neg (by omega), if_pos q.2]
    have hlt : i * sz + j - o < us.length := by omega
    exact ⟨_, List.getElem?_eq_getElem hlt, ho _ (List.getElem_mem hlt), hin i x j y _ hx hy q.1 q.2 (List.getElem?_eq_getElem hlt)⟩
  · obtain ⟨i', x', j', hx', hy', he⟩ := hout i x j y hx hy q
    obtain ⟨v, h5, h6, h7⟩ := h4 i' x' j' y hx' hy'
    rw [he] at h5
    refine ⟨v, ?_, h6, h7.mono L⟩
    by_cases q1 : i * sz + j < o
    · rw [if_pos q1]; exact h5
    · rw [if_neg q1, if_neg (by omega)]; exact h5

theorem op_store (C : Ctx P fm fmi ρ X PV bar s w a) {t n : Nat} {x y : Operand} {sx sy : SOpd} (hx : lOpd fmi x = some sx) (hy : lOpd fmi y = some sy) (hn : tSize P t = some n)
    (hop : o.op = .store t x y) {m : Mode} (hv : aop call bar s (.store m n sx sy) = some (v, s')) : Good fm ρ X PV bar s w a.tmps ((execOp a.eval o).run P w) v s' := by
  simp only [aop] at hv
  obtain ⟨_, hv⟩ := of_ite hv
  simp only [Option.map_eq_some_iff, Prod.mk.injEq] at hv
  obtain ⟨s1, hs, rfl, rfl⟩ := hv
  unfold astore at hs
  obtain ⟨⟨h1, h2⟩, hs⟩ := of_ite hs
  have K := (C.F.val C.hfm hy rfl).cells h2
  have hA := C.F.raw C.hfm hx rfl
  have hones := K.ones h2
  have hul : (a.eval y).cells.toList.length = n := by rw [K.1]; exact h1
  have hrun : ∀ (B o0 : Nat) (arr : Array Value) (e : TypeId) (fz : Nat × Nat), a.eval x = .pointer (some ⟨B, o0, none⟩) → w.heap[B]? = some (.cells arr e fz) → (fz.2 ≤ fz.1 ∨ arr.size ≤ fz.1) → o0 + n ≤ arr.size →
      (execOp a.eval o).run P w = .ok .skip (w.setRow B (arr.toList.take o0 ++ (a.eval y).cells.toList ++ arr.toList.drop (o0 + (a.eval y).cells.toList.length)).toArray) := by
    intro B o0 arr e fz hp hw hfz hfit
    simp only [execOp, hop]
    refine run_u ?_
    have hst := run_storeCells_any P B o0 e fz (a.eval y).cells.toList 0 arr w hw hfz (by omega) hones
    simp only [Nat.add_zero] at hst
    have hsz : (a.eval y).cells.size = n := by simpa using hul
    simp [Instr.storeAt, hp, Instr.sureAddr, storeVar, run_sizeOf' hn, hsz, hst]
  generalize hp : s.raw sx = p at hs hA
  split at hs <;> first | (cases hs; done) | skip
  · rename_i b bl i off
    split at hs <;> first | (cases hs; done) | skip
    rename_i sz els he
    obtain ⟨⟨hbl, hbar⟩, hs⟩ := of_ite hs
    simp only [Option.bind_eq_some_iff] at hs
    obtain ⟨cs, hcs, hs⟩ := hs
    obtain ⟨hfit, hs⟩ := of_ite hs
    injection hs with hs; subst hs
    obtain ⟨B, hB⟩ := C.F.inv.tot b (List.getElem?_eq_some_iff.1 he).1
    have hA' : VR fm ρ (XP X PV) s.heap w (.hptr b bl i off) (a.eval x) := hA
    generalize hq : a.eval x = c at hA' hrun
    cases hA' with
    | hptr hb' ha' =>
      have hadr := (ha' B sz els hB he).2 hbl
      subst hadr
      have R := C.F.inv.row b B sz els hB he
      obtain ⟨hwid, arr, e, fz, hw, hl, hfz, hc⟩ := id R
      have hil : i < els.length := (List.getElem?_eq_some_iff.1 hcs).1
      have hcl : cs.length = sz := hwid i cs hcs
      have hrow : i * sz + sz ≤ els.length * sz := by
        have := Nat.mul_le_mul_right sz hil
        rwa [Nat.succ_mul] at this
      have hfit' : i * sz + off + (a.eval y).cells.toList.length ≤ arr.size := by omega
      have hr := hrun B (i * sz + off) arr e fz rfl hw (hfz.1.imp id And.left) (by omega)
      have hlen : (els.set i (setSeg cs off (s.val sy).cells)).length = els.length := by simp
      have hseg : (setSeg cs off (s.val sy).cells).length = cs.length := setSeg_length _ _ _ (by omega)
      have L := Le.set C.F.inv hB he (els' := els.set i (setSeg cs off (s.val sy).cells)) (by omega) hw (arr' := (arr.toList.take (i * sz + off) ++ (a.eval y).cells.toList ++ arr.toList.drop (i * sz + off + (a.eval y).cells.toList.length)).toArray) (seg_size hfit')
      refine Good.setRow C.F hbar hB he (by omega) hw (seg_size hfit') ?_ hr (.inr ⟨rfl, rfl⟩) (VR.tup [] rfl (by simp))
      refine R.put hw (hfz.1.imp id And.left) hfit' L (fun k x hx => ?_) (by rw [hlen]; exact hl) hones (fun k x j y v hx hy hk1 hk2 hu => ?_) (fun k x j y hx hy hk => ?_)
      · by_cases q : k = i
        · subst q
          rw [List.getElem?_set_self (by omega)] at hx
          injection hx with hx
          rw [← hx, hseg, hcl]
        · rw [List.getElem?_set_ne (fun q' => q q'.symm)] at hx
          exact hwid k x hx
      · have hj : j < sz := by
          have h5 := (List.getElem?_eq_some_iff.1 hy).1
          by_cases q : k = i
          · subst q
            rw [List.getElem?_set_self (by omega)] at hx
            injection hx with hx
            rw [← hx, hseg] at h5; omega
          · rw [List.getElem?_set_ne (fun q' => q q'.symm)] at hx
            rw [hwid k x hx] at h5; exact h5
        have hki : k = i := by
          rcases Nat.lt_trichotomy k i with q | q | q
          · have := Nat.mul_le_mul_right sz (show k + 1 ≤ i from q)
            rw [Nat.succ_mul] at this; omega
          · exact q
          · have := Nat.mul_le_mul_right sz (show i + 1 ≤ k from q)
            rw [Nat.succ_mul] at this; omega
        subst hki
        rw [List.getElem?_set_self (by omega)] at hx
        injection hx with hx
        subst hx
        rw [segA_get _ _ _ _ (by omega), if_neg (by omega), if_pos (by omega)] at hy
        have e1 : k * sz + j - (k * sz + off) = j - off := by omega
        rw [e1] at hu
        exact (K.2 (j - off) y v hy hu).mono L
      · by_cases q : k = i
        · subst q
          rw [List.getElem?_set_self (by omega)] at hx
          injection hx with hx
          subst hx
          rw [segA_get _ _ _ _ (by omega)] at hy
          by_cases q1 : j < off
          · rw [if_pos q1] at hy
            exact ⟨k, cs, j, hcs, hy, rfl⟩
          · rw [if_neg q1] at hy
            by_cases q2 : j < off + (s.val sy).cells.length
            · exact absurd ⟨by omega, by omega⟩ hk
            · rw [if_neg q2] at hy
              exact ⟨k, cs, j, hcs, hy, rfl⟩
        · rw [List.getElem?_set_ne (fun q' => q q'.symm)] at hx
          exact ⟨k, x, j, hx, hy, rfl⟩
  · rename_i d off
    split at hs <;> first | (cases hs; done) | skip
    rename_i cs hd
    obtain ⟨hfit, hs⟩ := of_ite hs
    injection hs with hs; subst hs
    obtain ⟨B, hB, hp'⟩ := hA
    obtain ⟨B', hB', arr, e, fz, hw, hl, hfz, hc⟩ := C.F.vars d _ hd
    rw [hB] at hB'
    injection hB' with hB'
    subst hB'
    have hr := hrun B off arr e fz hp' hw hfz (by omega)
    have hfit2 : off + (a.eval y).cells.toList.length ≤ arr.size := by omega
    refine Good.setVar C.F hB (But.setRow w B _) (.cells (setSeg cs off (s.val sy).cells)) ?_ hr (.inr ⟨rfl, rfl⟩) (VR.tup [] rfl (by simp))
    have hXB : XP X PV B := .inr ⟨d, hB⟩
    have hρ : ∀ b, ρ b ≠ some B := fun b e => (C.F.inv.dom b B e).2.2 hXB
    have L : Le ρ (XP X PV) s.heap w ρ (XP X PV) s.heap (w.setRow B (arr.toList.take off ++ (a.eval y).cells.toList ++ arr.toList.drop (off + (a.eval y).cells.toList.length)).toArray) := (But.setRow w B _).le hXB hρ
    refine ⟨_, e, fz, setRow_heap w B arr _ e fz hw, by rw [setSeg_length _ _ _ (by omega), seg_size hfit2, hl], by rw [seg_size hfit2]; exact hfz, fun j x hx => ?_⟩
    rw [segA_get _ _ _ _ (by omega)] at hx
    rw [seg_getA hfit2]
    by_cases q1 : j < off
    · rw [if_pos q1] at hx
      rw [if_pos q1]
      obtain ⟨u, h5, h6, h7⟩ := hc j x hx
      exact ⟨u, h5, h6, h7.mono L⟩
    · rw [if_neg q1] at hx
      rw [if_neg q1]
      by_cases q2 : j < off + (s.val sy).cells.length
      · rw [if_pos q2] at hx
        have hlt : j - off < (a.eval y).cells.toList.length := by omega
        rw [if_pos (by omega)]
        exact ⟨_, List.getElem?_eq_getElem hlt, hones _ (List.getElem_mem hlt), (K.2 _ x _ hx (List.getElem?_eq_getElem hlt)).mono L⟩
      · rw [if_neg q2] at hx
        rw [if_neg (by omega)]
        obtain ⟨u, h5, h6, h7⟩ := hc j x hx
        exact ⟨u, h5, h6, h7.mono L⟩

end
end Go.Ai
/-
  The abstract interpreter: slices that are read whole; append's run.
-/
namespace Go.Ai
open Go.RowKit
set_option linter.unusedVariables false
set_option linter.unusedSimpArgs false

section
variable {P : Program} {fm : Nat → Nat} {fmi : Nat → Option Nat} {ρ : Map} {X : Nat → Prop} {PV : Map} {bar : Nat} {s s' : St} {w w' : World} {h : AHeap} {call : Caller} {a : Act} {o : Oper} {v : AV} {tmps : Array Value}

theorem flat_get {α : Type} (sz : Nat) : ∀ (vss : List (List α)), (∀ (i : Nat) e, vss[i]? = some e → e.length = sz) → ∀ i j, j < sz → vss.flatten[i * sz + j]? = (vss[i]?).bind (·[j]?)
  | [], _, i, j, _ => by simp
  | e :: r, hw, i, j, hj => by
    have he : e.length = sz := hw 0 e rfl
    have hr : ∀ (i : Nat) e, r[i]? = some e → e.length = sz := fun i e' hi => hw (i + 1) e' (by simpa using hi)
    cases i with
    | zero => simp [List.getElem?_append, he, hj]
    | succ i =>
      have ih := flat_get sz r hr i j hj
      rw [List.flatten_cons, List.getElem?_append_right (by rw [he, Nat.succ_mul]; omega), he, show (i + 1) * sz + j - sz = i * sz + j by rw [Nat.succ_mul]; omega, ih]
      simp

theorem flat_len {α : Type} (sz : Nat) : ∀ (vss : List (List α)), (∀ (i : Nat) e, vss[i]? = some e → e.length = sz) → vss.flatten.length = vss.length * sz
  | [], _ => by simp
  | e :: r, hw => by
    have he : e.length = sz := hw 0 e rfl
    have hr : ∀ (i : Nat) e, r[i]? = some e → e.length = sz := fun i e' hi => hw (i + 1) e' (by simpa using hi)
    rw [List.flatten_cons, List.length_append, he, flat_len sz r hr, List.length_cons, Nat.succ_mul]
    omega

/-- what stands in a slice or a string: its cells, as they are loaded -/
structure Reads (P : Program) (fm : Nat → Nat) (ρ : Map) (X : Nat → Prop) (h : AHeap) (w : World) (sz : Nat) (els : List (List AV)) (c : Value) (vs : List Value) : Prop where
  flat : FlatR fm ρ X h w sz els vs
  one : ∀ v ∈ vs, v.oneCell' = true
  len : (Builtin.lenOf c).run P w = .ok els.length w
  load : ∀ n, n ≤ els.length → ∀ w' : World, w'.heap = w.heap → (Builtin.firstCells sz n c).run P w' = .ok (vs.take (n * sz)).toArray w'

theorem bytes_flat (b : List UInt8) : FlatR fm ρ X h w 1 (bytesEls b) (b.map fun x => Value.int .u8 x.toNat) := by
  refine ⟨fun i x hx => ?_, by simp [bytesEls], fun i x j y v hx hy hv => ?_⟩
  · simp only [bytesEls, List.getElem?_map, Option.map_eq_some_iff] at hx
    obtain ⟨u, _, rfl⟩ := hx
    rfl
  · simp only [bytesEls, List.getElem?_map, Option.map_eq_some_iff] at hx hv
    obtain ⟨u, h1, rfl⟩ := hx
    cases j with
    | zero =>
      simp only [List.getElem?_cons_zero, Option.some.injEq] at hy
      subst hy
      obtain ⟨u', h2, rfl⟩ := hv
      rw [Nat.mul_one, Nat.add_zero] at h2
      rw [h1] at h2
      injection h2 with h2
      subst h2
      exact .int _ _
    | succ j => simp at hy

theorem sliceEls_reads (I : Inv fm ρ X h w) {sz : Nat} (hpos : 0 < sz) {x : AV} {c : Value} (hx : VR fm ρ X h w x c) {els : List (List AV)} (he : sliceEls h sz x = some els) :
    ∃ vs, Reads P fm ρ X h w sz els c vs := by
  unfold sliceEls at he
  split at he
  · injection he with he; subst he
    cases hx
    exact ⟨[], FlatR.nil sz, by simp, rfl, fun n hn w' hw' => by
      have : n = 0 := by simpa using hn
      subst this
      simp [Builtin.firstCells]⟩
  · rename_i els0 sz' cap
    obtain ⟨rfl, he1⟩ := of_ite he
    clear he
    injection he1 with he1; subst he1
    cases hx with
    | @isl _ _ cc _ a vss hl hlc hcap hB hsz hvs hc hvv =>
      have hfl := flat_len sz' vss hvs
      refine ⟨vss.flatten, ⟨hsz, by rw [hfl, hl], fun i x j y v hx hy hv => ?_⟩, fun v hv => ?_, rfl, fun n hn w' hw' => ?_⟩
      · have hj : j < sz' := by have := (List.getElem?_eq_some_iff.1 hy).1; rw [hsz i x hx] at this; exact this
        rw [flat_get sz' vss hvs i j hj] at hv
        simp only [Option.bind_eq_some_iff] at hv
        obtain ⟨e, h1, h2⟩ := hv
        exact hvv i x e j y v hx h1 hy h2
      · obtain ⟨e, he, hve⟩ := List.mem_flatten.1 hv
        obtain ⟨i, hi⟩ := List.getElem?_of_mem he
        obtain ⟨j, hj⟩ := List.getElem?_of_mem hve
        exact (hc i e j v hi hj).2
      · have hlen : (vss.flatten.take (n * sz')).length = n * sz' := by
          have : n * sz' ≤ els0.length * sz' := Nat.mul_le_mul_right _ hn
          simp only [List.length_take]; rw [hfl, hl]; omega
        have hL := run_loadCells_list (P := P) w' a (vss.flatten.take (n * sz')) (fun k v hk => ?_)
        · rw [hlen] at hL
          simpa [Builtin.firstCells] using hL
        · have hcw : ∀ A, w'.cell? A = w.cell? A := fun A => by simp [World.cell?, hw']
          rw [hcw]
          rw [List.getElem?_take] at hk
          split at hk
          · rename_i hkn
            have hne : els0 ≠ [] := by
              intro q
              subst q
              simp at hn
              subst hn
              simp at hkn
            obtain ⟨hsp, hout⟩ := hB hne
            obtain ⟨B, o0, sp⟩ := a
            simp only at hsp
            subst hsp
            rw [addr_add]
            have hdm := Nat.div_add_mod k sz'
            have hm := Nat.mod_lt k hpos
            rw [Nat.mul_comm] at hdm
            rw [← hdm, flat_get sz' vss hvs _ _ hm] at hk
            simp only [Option.bind_eq_some_iff] at hk
            obtain ⟨e, h1, h2⟩ := hk
            have := (hc _ e _ v h1 h2).1
            simp only at this
            rw [show o0 + k = o0 + k / sz' * sz' + k % sz' by omega]
            exact this
          · cases hk
  · rename_i b bl i len sz' cap
    obtain ⟨rfl, he1⟩ := of_ite he
    clear he
    simp only [Option.bind_eq_some_iff] at he1
    obtain ⟨els0, hr, he2⟩ := he1
    obtain ⟨hle, he3⟩ := of_ite he2
    injection he3 with he3; subst he3
    obtain ⟨hrow, hbl⟩ := heapRow_some hr
    obtain ⟨B, hB⟩ := I.tot b (List.getElem?_eq_some_iff.1 hrow).1
    cases hx with
    | @hsl _ _ _ _ _ cc _ a hb hlc ha hs' =>
      obtain ⟨_, h2⟩ := ha B els0 hB hrow
      obtain ⟨hA0, _, _⟩ := h2 hbl
      obtain ⟨hwid, arr, e, fz, h3, h4, h5, h6⟩ := I.row b B sz' els0 hB hrow
      have hlen2 : ((els0.drop i).take len).length = len := by simp; omega
      have hmul : (i + len) * sz' ≤ els0.length * sz' := Nat.mul_le_mul_right _ hle
      rw [Nat.add_mul] at hmul
      have hvl : ((arr.toList.drop (i * sz')).take (len * sz')).length = len * sz' := by simp; omega
      have hcell : ∀ k v, ((arr.toList.drop (i * sz')).take (len * sz'))[k]? = some v → k < len * sz' ∧ arr[i * sz' + k]? = some v := fun k v hk => by
        rw [List.getElem?_take] at hk
        split at hk
        · rename_i hkl
          rw [List.getElem?_drop] at hk
          exact ⟨hkl, by simpa using hk⟩
        · cases hk
      have hval : ∀ k v, arr[i * sz' + k]? = some v → k < len * sz' → v.oneCell' = true ∧ ∀ q x j y, ((els0.drop i).take len)[q]? = some x → x[j]? = some y → q * sz' + j = k → VR fm ρ X h w y v := fun k v hk hkl => by
        have hdm := Nat.div_add_mod k sz'
        have hm := Nat.mod_lt k hpos
        rw [Nat.mul_comm] at hdm
        have hq : k / sz' < len := Nat.div_lt_of_lt_mul (by rwa [Nat.mul_comm] at hkl)
        have hx0 : i + k / sz' < els0.length := by omega
        have hx1 := List.getElem?_eq_getElem hx0
        have hw1 := hwid _ _ hx1
        have hy1 : (els0[i + k / sz'])[k % sz']? = some ((els0[i + k / sz'])[k % sz']'(by omega)) := List.getElem?_eq_getElem (by omega)
        obtain ⟨v', h7, h8, h9⟩ := h6 _ _ _ _ hx1 hy1
        have hidx : (i + k / sz') * sz' + k % sz' = i * sz' + k := by rw [Nat.add_mul]; omega
        rw [hidx, hk] at h7
        injection h7 with h7
        subst h7
        refine ⟨h8, fun q x j y hx hy hqj => ?_⟩
        rw [List.getElem?_take] at hx
        split at hx
        · rw [List.getElem?_drop] at hx
          obtain ⟨v'', h10, _, h12⟩ := h6 _ _ _ _ hx hy
          have : (i + q) * sz' + j = i * sz' + k := by rw [Nat.add_mul]; omega
          rw [this, hk] at h10
          injection h10 with h10
          subst h10
          exact h12
        · cases hx
      refine ⟨(arr.toList.drop (i * sz')).take (len * sz'), ⟨fun q x hx => ?_, by rw [hvl, hlen2], fun q x j y v hx hy hv => ?_⟩, fun v hv => ?_, by simp [Builtin.lenOf]; omega, fun n hn w' hw' => ?_⟩
      · rw [List.getElem?_take] at hx
        split at hx
        · rw [List.getElem?_drop] at hx; exact hwid _ _ hx
        · cases hx
      · obtain ⟨h7, h8⟩ := hcell _ v hv
        exact (hval _ v h8 h7).2 q x j y hx hy rfl
      · obtain ⟨k, hk⟩ := List.getElem?_of_mem hv
        obtain ⟨h7, h8⟩ := hcell _ v hk
        exact (hval _ v h8 h7).1
      · rw [hlen2] at hn
        have hnl : n * sz' ≤ len * sz' := Nat.mul_le_mul_right _ hn
        have hlen3 : (((arr.toList.drop (i * sz')).take (len * sz')).take (n * sz')).length = n * sz' := by rw [List.length_take, hvl]; omega
        have hL := run_loadCells_list (P := P) w' a (((arr.toList.drop (i * sz')).take (len * sz')).take (n * sz')) (fun k v hk => ?_)
        · rw [hlen3] at hL
          simpa [Builtin.firstCells] using hL
        · have hcw : ∀ A, w'.cell? A = w.cell? A := fun A => by simp [World.cell?, hw']
          rw [hcw]
          rw [List.getElem?_take] at hk
          split at hk
          · obtain ⟨h7, h8⟩ := hcell _ v hk
            have hlp : 0 < len := by
              rcases Nat.eq_zero_or_pos len with q | q
              · subst q; simp at h7
              · exact q
            rw [hA0 (by omega), addr_add]
            simp only [World.cell?, h3]
            simpa using h8
          · cases hk
  · rename_i b
    obtain ⟨rfl, he1⟩ := of_ite he
    clear he
    injection he1 with he1; subst he1
    cases hx
    have hsz : (⟨b.toArray⟩ : ByteArray).size = b.length := by simp [ByteArray.size]
    refine ⟨b.map fun x => Value.int .u8 x.toNat, bytes_flat b, fun v hv => ?_, by simp [Builtin.lenOf, bytesEls, hsz], fun n hn w' hw' => ?_⟩
    · obtain ⟨u, _, rfl⟩ := List.mem_map.1 hv
      rfl
    · simp only [Builtin.firstCells, Nat.mul_one, Sem.run_pure]
      congr 1
      apply Array.toList_inj.1
      rw [ByteArray.data_extract]
      simp [List.map_take]
  · cases he

theorem growBy_le (n : Nat) : ∀ (r c : Nat), c ≤ n + n / 4 + 192 → Builtin.growBy n r c ≤ n + n / 4 + 192
  | 0, c, hc => hc
  | r + 1, c, hc => by
    simp only [Builtin.growBy]
    split
    · exact hc
    · exact growBy_le n r _ (by omega)

theorem nextcap_le {n c : Nat} (hc : c < n) : Builtin.nextslicecap n c ≤ 2 * n + 512 := by
  unfold Builtin.nextslicecap
  split
  · omega
  · split
    · omega
    · have := growBy_le n 4 c (by omega)
      omega

/-- what append takes from its second argument -/
structure Src (P : Program) (w : World) (u : Nat) (x : Value) (e sz m : Nat) (us : List Value) (zeros : Bool) : Prop where
  ty : ∃ d, P.underlying u = some d ∧ (zeros = true → ∃ k, d = .int k) ∧ (zeros = false → ∀ k, d ≠ .int k)
  len : if zeros then x = .int .i64 m ∧ m ≤ LIM else (Builtin.lenOf x).run P w = .ok m w
  cells : if zeros then ∃ z, tZero P e = some z ∧ us = (Builtin.zeroCells z.cells m).toList ∧ z.cells.size = sz else
    (Builtin.firstCells sz m x).run P w = .ok us.toArray w ∧ (Builtin.firstCells sz m x).run P w.drew = .ok us.toArray w.drew

end
end Go.Ai
/-
  The abstract interpreter: append.
-/
namespace Go.Ai
open Go.RowKit
set_option linter.unusedVariables false
set_option linter.unusedSimpArgs false

section
variable {P : Program} {fm : Nat → Nat} {fmi : Nat → Option Nat} {ρ : Map} {X : Nat → Prop} {PV : Map} {bar : Nat} {s s' : St} {w w' : World} {h : AHeap} {call : Caller} {a : Act} {o : Oper} {v : AV} {tmps : Array Value}

/-- the type's facts that append asks for -/
structure ElemT (P : Program) (t e sz by_ : Nat) (z : Value) : Prop where
  slice : P.underlying t = some (.slice e)
  size : tSize P e = some sz
  bytes : tBytes P e = some by_
  zero : tZero P e = some z
  le : by_ ≤ 4096
  pos : 0 < by_
  spos : 0 < sz
  zsize : z.cells.size = sz
  zone : oneCells z.cells = true

theorem run_bytes {e by_ : Nat} (h : tBytes P e = some by_) (w : World) : ∃ i, (typeInfo e).run P w = .ok i w ∧ i.bytes = by_ := by
  simp only [tBytes, Option.map_eq_some_iff] at h
  obtain ⟨i, h1, h2⟩ := h
  exact ⟨i, by simp [typeInfo, h1], h2⟩

theorem run_wrap (m : Nat) (hm : m ≤ LIM) : IntKind.i64.wrap (m : Int) = (m : Int) := by
  rw [IntKind.wrap_i64]
  unfold LIM at hm
  omega

theorem Src.zero {u e sz m by_ : Nat} {z x : Value} {us : List Value} (hz : tZero P e = some z) (hle : by_ ≤ 4096) (spos : 0 < sz) (S : Src P w u x e sz m us true) :
    x = .int .i64 m ∧ m ≤ LIM ∧ us = (Builtin.zeroCells z.cells m).toList ∧ IntKind.i64.wrap (m : Int) = (m : Int) ∧ ¬ ((m : Int) * by_ > 2 ^ 48) ∧
      ∀ w', (if m * sz = 0 then pure #[] else do pure (Builtin.zeroCells (← zeroValue e).cells m) : Sem (Array Value)).run P w' = .ok us.toArray w' := by
  have h1 := S.len
  have h2 := S.cells
  simp only [if_true] at h1 h2
  obtain ⟨rfl, hm⟩ := h1
  obtain ⟨z', hz', rfl, hzs⟩ := h2
  rw [hz] at hz'
  injection hz' with hz'
  subst hz'
  refine ⟨rfl, hm, rfl, run_wrap m hm, ?_, fun w' => ?_⟩
  · have h3 : m * by_ ≤ 4294967296 * 4096 := Nat.mul_le_mul hm hle
    have h4 : ((m * by_ : Nat) : Int) = (m : Int) * by_ := by simp
    rw [← h4]
    omega
  · split
    · rename_i q
      have hm0 : m = 0 := by
        rcases Nat.mul_eq_zero.1 q with q | q
        · exact q
        · exact absurd q (Nat.ne_of_gt spos)
      subst hm0
      simp [Builtin.zeroCells]
    · simp [run_zeroValue' hz]

/-- append with room: the new cells are stored behind the old ones -/
theorem run_append_room {t u e sz by_ m : Nat} {z : Value} {zeros : Bool} {x : Value} {us : List Value} (T : ElemT P t e sz by_ z) (S : Src P w u x e sz m us zeros) {base : Option Addr} {sLen sCap : Nat}
    (hroom : sLen + m ≤ sCap) {w1 : World} (hst : ∀ b, base = some b → (storeCells (b.add (sLen * sz)) us).run P w = .ok () w1) (hst0 : base = none → w1 = w) (ty : Nat) :
    (Builtin.append_ #[t, u] ty #[.slice base sLen sCap, x]).run P w = .ok (.slice base (sLen + m) sCap) w1 := by
  obtain ⟨d, hd, hz1, hz2⟩ := S.ty
  obtain ⟨i, hi, hib⟩ := run_bytes T.bytes w
  cases zeros with
  | false =>
    have h1 := S.len
    have h2 := S.cells
    have hn := hz2 rfl
    simp only [Bool.false_eq_true, if_false] at h1 h2
    cases d <;> first
      | exact absurd rfl (hn _)
      | (simp only [Builtin.append_, List.getElem?_toArray, List.getElem?_cons_zero, List.getElem?_cons_succ, Sem.run_bind, run_underlying' T.slice, Result.andThen_ok, run_sizeOf' T.size, run_underlying' hd, Sem.run_pure,
          Bool.false_eq_true, if_false, h1, Bool.not_false, if_true, hroom, h2.1]
         cases base with
         | none => rw [hst0 rfl]; simp
         | some a => simp [hst a rfl])
  | true =>
    obtain ⟨k, rfl⟩ := hz1 rfl
    obtain ⟨rfl, hm, hus, hwrap, hb, hap⟩ := S.zero T.zero T.le T.spos
    have hneg : ¬ ((m : Int) < 0) := by omega
    simp only [Builtin.append_, List.getElem?_toArray, List.getElem?_cons_zero, List.getElem?_cons_succ, Sem.run_bind, run_underlying' T.slice, Result.andThen_ok, run_sizeOf' T.size, run_underlying' hd, Sem.run_pure,
      if_true, asInt, asIntOf, hwrap, hneg, if_false, hi, hib, hb, Int.toNat_natCast, Bool.not_true, Bool.false_eq_true, hroom, hap w]
    cases base with
    | none => rw [hst0 rfl]; simp
    | some a => simp [hst a rfl]

/-- append without room: a new row, the old cells, the new ones, and as many zeros as the tape says -/
theorem zero_ones0 {t e sz by_ : Nat} {z : Value} (T : ElemT P t e sz by_ z) (n : Nat) : ∀ v ∈ (Builtin.zeroCells z.cells n).toList, v.oneCell' = true := by
  intro v hv
  have hone := T.zone
  simp only [oneCells, Array.all_eq_true_iff_forall_mem] at hone
  have hpos : 0 < z.cells.size := by rw [T.zsize]; exact T.spos
  simp only [Builtin.zeroCells, Array.toList_map, List.mem_map] at hv
  obtain ⟨i, _, rfl⟩ := hv
  have hlt : i % z.cells.size < z.cells.size := Nat.mod_lt _ hpos
  rw [getElem!_pos z.cells _ hlt]
  exact hone _ (Array.getElem_mem hlt)

theorem run_append_grow {t u e sz by_ m : Nat} {z : Value} {zeros : Bool} {x : Value} {us : List Value} (T : ElemT P t e sz by_ z) (S : Src P w u x e sz m us zeros) {base : Option Addr} {sLen sCap : Nat}
    (hroom : ¬ sLen + m ≤ sCap) (hlc : sLen ≤ sCap) (hlim : sLen + m ≤ LIM) {olds : List Value} (hold : (Builtin.firstCells sz sLen (.slice base sLen sCap)).run P w.drew = .ok olds.toArray w.drew) (ty : Nat) :
    ∃ cap rest, sLen + m ≤ cap ∧ rest.length = (cap - (sLen + m)) * sz ∧ (∀ v ∈ rest, v.oneCell' = true) ∧
      (Builtin.append_ #[t, u] ty #[.slice base sLen sCap, x]).run P w = .ok (.slice (some ⟨w.heap.size, 0, none⟩) (sLen + m) cap) (w.drew.alloc (.cells (olds ++ us ++ rest).toArray e)) := by
  obtain ⟨d, hd, hz1, hz2⟩ := S.ty
  obtain ⟨i, hi, hib⟩ := run_bytes T.bytes w
  obtain ⟨i2, hi2, hib2⟩ := run_bytes T.bytes w.drew
  have hi0 : i2 = i := by
    have h1 := hi; have h2 := hi2
    unfold typeInfo at h1 h2
    simp only [Sem.run_bind, run_program, Result.andThen_ok] at h1 h2
    cases hp : P.info? e with
    | none => simp [hp] at h1
    | some j => simp [hp] at h1 h2; rw [← h1, ← h2]
  have hmax : ¬ (((sLen + m : Nat) : Int) > IntKind.i64.max) := by
    have : IntKind.i64.max = 9223372036854775807 := rfl
    rw [this]; unfold LIM at hlim; omega
  have hnx := nextcap_le (n := sLen + m) (c := sCap) (by omega)
  have hby : ¬ (Builtin.nextslicecap (sLen + m) sCap * by_ > 2 ^ 48) := by
    have h3 : Builtin.nextslicecap (sLen + m) sCap * by_ ≤ (2 * 4294967296 + 512) * 4096 := Nat.mul_le_mul (by unfold LIM at hlim; omega) T.le
    omega
  refine ⟨(Question.appendCap (sLen + m) sCap e).cut (w.tape w.drawn (.appendCap (sLen + m) sCap e)), (Builtin.zeroCells z.cells ((Question.appendCap (sLen + m) sCap e).cut (w.tape w.drawn (.appendCap (sLen + m) sCap e)) - (sLen + m))).toList, ?_, ?_, ?_, ?_⟩
  · simp only [Question.cut]; omega
  · simp [Builtin.zeroCells, T.zsize]
  · exact zero_ones0 T _
  · have hforced : (Question.appendCap (sLen + m) sCap e).forced = false := rfl
    have hbp : by_ ≠ 0 := Nat.ne_of_gt T.pos
    generalize hq : (Question.appendCap (sLen + m) sCap e).cut (w.tape w.drawn (.appendCap (sLen + m) sCap e)) = cap
    have hch : (choose (.appendCap (sLen + m) sCap e)).run P w = .ok cap w.drew := by
      rw [run_choose, hforced, hq]
      rfl
    have harr : olds.toArray ++ us.toArray ++ Builtin.zeroCells z.cells (cap - (sLen + m)) = (olds ++ us ++ (Builtin.zeroCells z.cells (cap - (sLen + m))).toList).toArray := by simp
    cases zeros with
    | false =>
      have h1 := S.len
      have h2 := S.cells
      have hn := hz2 rfl
      simp only [Bool.false_eq_true, if_false] at h1 h2
      cases d <;> first
        | exact absurd rfl (hn _)
        | (simp only [Builtin.append_, List.getElem?_toArray, List.getElem?_cons_zero, List.getElem?_cons_succ, Sem.run_bind, run_underlying' T.slice, Result.andThen_ok, run_sizeOf' T.size, run_underlying' hd, Sem.run_pure,
            Bool.false_eq_true, if_false, h1, Bool.not_false, if_true, hroom, h2.2, hi, hib, hi2, hib2, hmax, false_and, hby, hch, run_askRoom, hold, run_zeroValue' T.zero, newRow, run_newObj]
           rw [harr]
           rfl)
    | true =>
      obtain ⟨k, rfl⟩ := hz1 rfl
      obtain ⟨rfl, hm, hus, hwrap, hb, hap⟩ := S.zero T.zero T.le T.spos
      have hneg : ¬ ((m : Int) < 0) := by omega
      simp only [Builtin.append_, List.getElem?_toArray, List.getElem?_cons_zero, List.getElem?_cons_succ, Sem.run_bind, run_underlying' T.slice, Result.andThen_ok, run_sizeOf' T.size, run_underlying' hd, Sem.run_pure,
        if_true, asInt, asIntOf, hwrap, hneg, if_false, hi, hib, hi2, hib2, hb, Int.toNat_natCast, Bool.not_true, Bool.false_eq_true, hroom, hap, hmax, false_and, hby, hch, run_askRoom, hold, run_zeroValue' T.zero, newRow, run_newObj]
      rw [harr]
      rfl

end
end Go.Ai
/-
  The abstract interpreter: append, copy, clear as operations.
-/
namespace Go.Ai
open Go.RowKit
set_option linter.unusedVariables false
set_option linter.unusedSimpArgs false

section
variable {P : Program} {fm : Nat → Nat} {fmi : Nat → Option Nat} {ρ : Map} {X : Nat → Prop} {PV : Map} {bar : Nat} {s s' : St} {w w' : World} {h : AHeap} {call : Caller} {a : Act} {o : Oper} {v : AV} {tmps : Array Value}

theorem Good.after_drew (F : FR fm ρ X PV s w tmps) {R : Result Next} (G : Good fm ρ X PV bar s w.drew tmps R v s') : Good fm ρ X PV bar s w tmps R v s' := by
  obtain ⟨nx, w2, c, ρ2, PV2, h1, h2, h3, h4, h5⟩ := G
  exact ⟨nx, w2, c, ρ2, PV2, h1, h2, h3, h4, (Step.drew F).trans h5⟩

theorem Good.grow (F : FR fm ρ X PV s w tmps) {b B sz : Nat} {els els' : List (List AV)} (hb : bar ≤ b) (e : ρ b = some B) (he : s.heap[b]? = some (.row sz els)) (hl : els.length < els'.length) (o : Obj)
    (hr : RowR fm (up ρ b w.heap.size) (XP X PV) (s.heap.set b (.row sz els')) (w.alloc o) w.heap.size sz els') {R : Result Next} {c : Value} (hrun : R = .ok (.value c) (w.alloc o))
    (hc : VR fm (up ρ b w.heap.size) (XP X PV) (s.heap.set b (.row sz els')) (w.alloc o) v c) : Good fm ρ X PV bar s w tmps R v { s with heap := s.heap.set b (.row sz els') } := by
  have L := Le.grow F.inv F.notX e he hl o
  refine ⟨_, _, c, up ρ b w.heap.size, PV, hrun, .inl rfl, F.setHeap L (F.inv.grow F.notX e he hl o hr) (fun d B' e' => heap_alloc_lt o (F.pv d B' e').2), ER.of hc, L,
    fun B' hB' _ => heap_alloc_lt o hB', fun b' hb' => ⟨up_other _ _ (by omega), ?_⟩, fun _ _ e => .inl e⟩
  exact List.getElem?_set_ne (by omega)

theorem FlatR.append {sz : Nat} {els ys : List (List AV)} {vs us : List Value} (H : FlatR fm ρ X h w sz els vs) (K : FlatR fm ρ X h w sz ys us) : FlatR fm ρ X h w sz (els ++ ys) (vs ++ us) := by
  refine ⟨fun i x hx => ?_, by simp [H.len, K.len, Nat.add_mul], fun i x j y v hx hy hv => ?_⟩
  · rw [List.getElem?_append] at hx
    split at hx
    · exact H.wid i x hx
    · exact K.wid _ x hx
  · rw [List.getElem?_append] at hx
    split at hx
    · rename_i hi
      have hj : j < sz := by have := (List.getElem?_eq_some_iff.1 hy).1; rw [H.wid i x hx] at this; exact this
      have := flat_lt hi hj
      rw [List.getElem?_append_left (by rw [H.len]; exact this)] at hv
      exact H.val i x j y v hx hy hv
    · rename_i hi
      have hle : els.length * sz ≤ i * sz := Nat.mul_le_mul_right _ (by omega)
      rw [List.getElem?_append_right (by rw [H.len]; omega)] at hv
      refine K.val _ x j y v hx hy ?_
      rw [← hv, H.len]
      congr 1
      rw [Nat.sub_mul]; omega

theorem FlatR.take {sz : Nat} {els : List (List AV)} {vs : List Value} (H : FlatR fm ρ X h w sz els vs) (n : Nat) (hn : n ≤ els.length) : FlatR fm ρ X h w sz (els.take n) (vs.take (n * sz)) := by
  have hm : n * sz ≤ els.length * sz := Nat.mul_le_mul_right _ hn
  refine ⟨fun i x hx => ?_, by have := H.len; simp [List.length_take]; rw [H.len, Nat.min_eq_left hn]; omega, fun i x j y v hx hy hv => ?_⟩
  · rw [List.getElem?_take] at hx
    split at hx
    · exact H.wid i x hx
    · cases hx
  · rw [List.getElem?_take] at hx hv
    split at hx
    · split at hv
      · exact H.val i x j y v hx hy hv
      · cases hv
    · cases hx

/-- a new row: old elements, new ones, spare room -/
theorem Good.fresh (C : Ctx P fm fmi ρ X PV bar s w a) {sz : Nat} {els : List (List AV)} {vs rest : List Value} {e : TypeId} {cap : Nat} (H : FlatR fm ρ (XP X PV) s.heap w sz els vs) (ho : ∀ v ∈ vs, v.oneCell' = true)
    (hcap : els.length ≤ cap) (hrest : rest.length = (cap - els.length) * sz) (hro : ∀ v ∈ rest, v.oneCell' = true) {R : Result Next}
    (hr : R = .ok (.value (.slice (some ⟨w.heap.size, 0, none⟩) els.length cap)) (w.drew.alloc (.cells (vs ++ rest).toArray e))) :
    Good fm ρ X PV bar s w a.tmps R (.hsl s.heap.length els.length 0 els.length sz none) { s with heap := s.heap ++ [.row sz els] } := by
  refine Good.after_drew C.F ?_
  have F := C.F.drew
  have H' : FlatR fm ρ (XP X PV) s.heap w.drew sz els vs := H.mono Le.drew
  have L := Le.push F.inv F.notX (.cells (vs ++ rest).toArray e) (.row sz els)
  have hsz : (vs ++ rest).toArray.size = cap * sz := by
    have := H.len
    have h2 : els.length * sz ≤ cap * sz := Nat.mul_le_mul_right _ hcap
    simp only [List.size_toArray, List.length_append, hrest, Nat.sub_mul]
    omega
  have hmul : els.length * sz ≤ cap * sz := Nat.mul_le_mul_right _ hcap
  refine Good.push C.bar F (.cells (vs ++ rest).toArray e) _ (fun sz' els' he => ?_) (fun es he => by cases he) ?_ hr
  · injection he with h2 h3
    subst h2 h3
    refine (H'.mono L).row (heap_alloc_eq _) (fun j hj => ?_) (by simp) (.inl (Nat.le_refl _)) (fun j v hj => (List.mem_append.1 (List.mem_of_getElem? (by simpa using hj))).elim (ho v) (hro v)) ho
    simp [List.getElem?_append_left hj]
  · refine .hsl (by simp) hcap (fun B els' hB he => ?_) (fun B sz' els' hB he => ?_)
    · rw [up_same] at hB
      injection hB with hB
      subst hB
      simp only [List.getElem?_concat_length, Option.some.injEq, ABlk.row.injEq, true_and] at he
      subst he
      exact ⟨Nat.le_refl _, fun _ => ⟨fun _ => by simp, by simpa [capIs] using hcap, _, e, (0, 0), heap_alloc_eq _, by rw [hsz]; simp⟩⟩
    · rw [up_same] at hB
      injection hB with hB
      subst hB
      simp only [List.getElem?_concat_length, Option.some.injEq, ABlk.row.injEq] at he
      obtain ⟨_, rfl⟩ := he
      exact Nat.le_refl _

/-- elements put into a row of the heap, in place, or behind its end within the block -/
theorem Good.put (C : Ctx P fm fmi ρ X PV bar s w a) {b B sz k : Nat} {els els' ys : List (List AV)} {us : List Value} (hb : bar ≤ b) (hB : ρ b = some B) (he : s.heap[b]? = some (.row sz els))
    (K : FlatR fm ρ (XP X PV) s.heap w sz ys us) (ho : ∀ v ∈ us, v.oneCell' = true) (hk : k ≤ els.length)
    (hels : els' = els.take k ++ ys ++ els.drop (k + ys.length)) {arr : Array Value} {t : TypeId} {fz : Nat × Nat} (hw : w.heap[B]? = some (.cells arr t fz))
    (hfit : (k + ys.length) * sz ≤ arr.size) (hle : els.length ≤ els'.length) {R : Result Next} {nx : Next} {c : Value}
    (hrun : ∀ fz', fz = fz' → (storeCells ⟨B, k * sz, none⟩ us).run P w = .ok () (w.setRow B (arr.toList.take (k * sz) ++ us ++ arr.toList.drop (k * sz + us.length)).toArray) →
      R = .ok nx (w.setRow B (arr.toList.take (k * sz) ++ us ++ arr.toList.drop (k * sz + us.length)).toArray)) (hn : nx = .value c ∨ (nx = .skip ∧ c = undef))
    (hc : ∀ arr' : Array Value, arr'.size = arr.size → VR fm ρ (XP X PV) (s.heap.set b (.row sz els')) (w.setRow B arr') v c) : Good fm ρ X PV bar s w a.tmps R v { s with heap := s.heap.set b (.row sz els') } := by
  have R0 := C.F.inv.row b B sz els hB he
  obtain ⟨hwid, arr0, t0, fz0, h1, h2, h3, h4⟩ := id R0
  rw [hw] at h1
  simp only [Option.some.injEq, Obj.cells.injEq] at h1
  obtain ⟨rfl, rfl, rfl⟩ := h1
  have hul : us.length = ys.length * sz := K.len
  have hfit' : k * sz + us.length ≤ arr.size := by rw [hul, ← Nat.add_mul]; exact hfit
  have hst := run_storeCells_any P B (k * sz) t fz us 0 arr w hw (h3.1.imp id And.left) (by simpa using hfit') ho
  simp only [Nat.add_zero] at hst
  have hr := hrun fz rfl hst
  have hlen : els'.length = max els.length (k + ys.length) := by rw [hels]; simp; omega
  have hl' : els'.length * sz ≤ arr.size := by
    rw [hlen]
    rcases Nat.le_total els.length (k + ys.length) with q | q
    · rw [Nat.max_eq_right q]; exact hfit
    · rw [Nat.max_eq_left q]; exact h2
  have L := Le.set C.F.inv hB he hle hw (arr' := (arr.toList.take (k * sz) ++ us ++ arr.toList.drop (k * sz + us.length)).toArray) (seg_size hfit')
  have hget : ∀ i, els'[i]? = if i < k then els[i]? else if i < k + ys.length then ys[i - k]? else els[i]? := fun i => by
    rw [hels]
    have h5 : (els.take k).length = k := by simp; omega
    by_cases q : i < k
    · rw [if_pos q, List.append_assoc, List.getElem?_append_left (by omega), List.getElem?_take, if_pos q]
    · rw [if_neg q]
      by_cases q2 : i < k + ys.length
      · rw [if_pos q2, List.append_assoc, List.getElem?_append_right (by omega), h5, List.getElem?_append_left (by omega)]
      · rw [if_neg q2, List.append_assoc, List.getElem?_append_right (by omega), h5, List.getElem?_append_right (by omega), List.getElem?_drop]
        congr 1
        omega
  refine Good.setRow C.F hb hB he hle hw (seg_size hfit') ?_ hr hn (hc _ (seg_size hfit'))
  refine R0.put hw (h3.1.imp id And.left) hfit' L (fun i x hx => ?_) hl' ho (fun i x j y v hx hy hk1 hk2 hu => ?_) (fun i x j y hx hy hnot => ?_)
  · rw [hget] at hx
    split at hx
    · exact hwid _ _ hx
    · split at hx
      · exact K.wid _ _ hx
      · exact hwid _ _ hx
  · have hj : j < sz := by
      have h5 := (List.getElem?_eq_some_iff.1 hy).1
      rw [hget] at hx
      split at hx
      · rw [hwid _ _ hx] at h5; exact h5
      · split at hx
        · rw [K.wid _ _ hx] at h5; exact h5
        · rw [hwid _ _ hx] at h5; exact h5
    have hik : k ≤ i := by
      rcases Nat.lt_or_ge i k with q | q
      · have := Nat.mul_le_mul_right sz (show i + 1 ≤ k from q)
        rw [Nat.succ_mul] at this; omega
      · exact q
    have hik2 : i < k + ys.length := by
      rcases Nat.lt_or_ge i (k + ys.length) with q | q
      · exact q
      · have := Nat.mul_le_mul_right sz q
        rw [Nat.add_mul] at this; omega
    rw [hget, if_neg (by omega), if_pos hik2] at hx
    refine (K.val (i - k) x j y v hx hy ?_).mono L
    rw [← hu]
    congr 1
    rw [Nat.sub_mul]; have := Nat.mul_le_mul_right sz hik; omega
  · refine ⟨i, x, j, ?_, hy, rfl⟩
    have hj : j < sz := by
      have h5 := (List.getElem?_eq_some_iff.1 hy).1
      rw [hget] at hx
      split at hx
      · rw [hwid _ _ hx] at h5; exact h5
      · split at hx
        · rw [K.wid _ _ hx] at h5; exact h5
        · rw [hwid _ _ hx] at h5; exact h5
    rw [hget] at hx
    split at hx
    · exact hx
    · rename_i q1
      split at hx
      · rename_i q2
        exfalso
        apply hnot
        have h5 := Nat.mul_le_mul_right sz (show k ≤ i by omega)
        have h6 := Nat.mul_le_mul_right sz (show i + 1 ≤ k + ys.length by omega)
        rw [Nat.succ_mul, Nat.add_mul] at h6
        omega
      · exact hx

end
end Go.Ai
/-
  The abstract interpreter: append, copy, clear, as operations.
-/
namespace Go.Ai
open Go.RowKit
set_option linter.unusedVariables false
set_option linter.unusedSimpArgs false

section
variable {P : Program} {fm : Nat → Nat} {fmi : Nat → Option Nat} {ρ : Map} {X : Nat → Prop} {PV : Map} {bar : Nat} {s s' : St} {w w' : World} {h : AHeap} {call : Caller} {a : Act} {o : Oper} {v : AV} {tmps : Array Value}

theorem flat_nil {sz : Nat} {els : List (List AV)} {vs : List Value} (H : FlatR fm ρ X h w sz els vs) (h0 : els.length = 0) : vs = [] := by
  have := H.len
  rw [h0, Nat.zero_mul] at this
  exact List.eq_nil_of_length_eq_zero this

theorem aappend_sound (C : Ctx P fm fmi ρ X PV bar s w a) {t u e sz by_ : Nat} {z : Value} (T : ElemT P t e sz by_ z) {d : AV} {cd cx : Value} (hd : VR fm ρ (XP X PV) s.heap w d cd)
    {ys : List (List AV)} {us : List Value} {zeros : Bool} (S : Src P w u cx e sz ys.length us zeros) (K : FlatR fm ρ (XP X PV) s.heap w sz ys us) (ho : ∀ v ∈ us, v.oneCell' = true)
    {h' : AHeap} (hv : aappend sz bar s.heap d ys = some (v, h')) (ty : Nat) {R : Result Next}
    (hR : ∀ c w', (Builtin.append_ #[t, u] ty #[cd, cx]).run P w = .ok c w' → R = .ok (.value c) w') : Good fm ρ X PV bar s w a.tmps R v { s with heap := h' } := by
  -- nothing is appended
  have same : ∀ (base : Option Addr) (sLen sCap : Nat), cd = .slice base sLen sCap → sLen ≤ sCap → ys = [] → R = .ok (.value cd) w := fun base sLen sCap hc hle hy => by
    subst hc hy
    have hu0 := flat_nil K rfl
    have := run_append_room (ty := ty) T S (base := base) (sLen := sLen) (sCap := sCap) (by simpa using hle) (w1 := w) (fun b hb => by rw [hu0]; rfl) (fun _ => rfl)
    have := hR _ _ this
    simpa using this
  unfold aappend at hv
  split at hv
  · -- nil
    cases hd
    by_cases hy : ys = []
    · rw [if_pos hy] at hv
      simp only [Option.some.injEq, Prod.mk.injEq] at hv
      obtain ⟨rfl, rfl⟩ := hv
      exact Good.same C.F (same none 0 0 rfl (Nat.le_refl _) hy) VR.nils
    · rw [if_neg hy] at hv
      obtain ⟨hlim, hv⟩ := of_ite hv
      simp only [Option.some.injEq, Prod.mk.injEq] at hv
      obtain ⟨rfl, rfl⟩ := hv
      have hpos : 0 < ys.length := List.length_pos_iff.2 hy
      obtain ⟨cap, rest, h1, h2, hro, h3⟩ := run_append_grow (ty := ty) T S (base := none) (sLen := 0) (sCap := 0) (by omega) (Nat.le_refl _) (by omega) (olds := []) (by simp [Builtin.firstCells])
      have hr := hR _ _ h3
      simp only [Nat.zero_add, List.nil_append] at h1 h2 hr
      exact Good.fresh C K ho h1 h2 hro hr
  · -- never written
    rename_i els sz' cap0
    obtain ⟨rfl, hv1⟩ := of_ite hv
    clear hv
    have hd0 := hd
    cases hd with
    | @isl _ _ cc _ ad vss hl hlc hcap hB hsz hvs hc hvv =>
      by_cases hy : ys = []
      · rw [if_pos hy] at hv1
        simp only [Option.some.injEq, Prod.mk.injEq] at hv1
        obtain ⟨rfl, rfl⟩ := hv1
        exact Good.same C.F (same _ _ _ rfl hlc hy) (ER.of hd0)
      · rw [if_neg hy] at hv1
        split at hv1 <;> first | (cases hv1; done) | skip
        rename_i c0
        obtain ⟨⟨hgt, hlim⟩, hv1⟩ := of_ite hv1
        simp only [Option.some.injEq, Prod.mk.injEq] at hv1
        obtain ⟨rfl, rfl⟩ := hv1
        simp only [capIs] at hcap
        subst hcap
        obtain ⟨vs, Rd⟩ := sliceEls_reads (P := P) C.F.inv T.spos hd0 (els := els) (by simp [sliceEls])
        have hold := Rd.load els.length (Nat.le_refl _) w.drew rfl
        have htk : vs.take (els.length * sz') = vs := List.take_of_length_le (by rw [Rd.flat.len]; exact Nat.le_refl _)
        rw [htk] at hold
        obtain ⟨cap, rest, h1, h2, hro, h3⟩ := run_append_grow (ty := ty) T S (base := some ad) (sLen := els.length) (sCap := cc) (by omega) hlc (by omega) hold
        have hr := hR _ _ h3
        have := Good.fresh C (Rd.flat.append K) (fun v hv => (List.mem_append.1 hv).elim (Rd.one v) (ho v)) (cap := cap) (rest := rest) (by simpa using h1) (by simpa using h2) hro (R := R) (e := e) (by simpa using hr)
        simpa using this
  · -- in the heap
    rename_i b bl i len sz' cap0
    obtain ⟨rfl, hv1⟩ := of_ite hv
    clear hv
    simp only [Option.bind_eq_some_iff] at hv1
    obtain ⟨els, hrw, hv2⟩ := hv1
    obtain ⟨hrow, hbl⟩ := heapRow_some hrw
    obtain ⟨B, hB⟩ := C.F.inv.tot b (List.getElem?_eq_some_iff.1 hrow).1
    have hd0 := hd
    cases hd with
    | @hsl _ _ _ _ _ cc _ ad hb hlc ha hs' =>
      obtain ⟨_, hA⟩ := ha B els hB hrow
      obtain ⟨hA0, hcap, arr, et, fr, hw, hroom⟩ := hA hbl
      by_cases hy : ys = []
      · rw [if_pos hy] at hv2
        simp only [Option.some.injEq, Prod.mk.injEq] at hv2
        obtain ⟨rfl, rfl⟩ := hv2
        exact Good.same C.F (same _ _ _ rfl hlc hy) (ER.of hd0)
      · rw [if_neg hy] at hv2
        obtain ⟨⟨hlim, hin⟩, hv3⟩ := of_ite hv2
        clear hv2
        have hpos : 0 < ys.length := List.length_pos_iff.2 hy
        obtain ⟨vs, Rd⟩ := sliceEls_reads (P := P) C.F.inv T.spos hd0 (els := (els.drop i).take len) (by simp [sliceEls, hrw, hin])
        have hlen2 : ((els.drop i).take len).length = len := by simp; omega
        have hold := Rd.load len (by omega) w.drew rfl
        have htk : vs.take (len * sz') = vs := List.take_of_length_le (by rw [Rd.flat.len, hlen2]; exact Nat.le_refl _)
        rw [htk] at hold
        -- the store in place
        have inplace : len + ys.length ≤ cc → ∀ (hBcc : cc ≠ 0) (els' : List (List AV)), els' = els.take (i + len) ++ ys ++ els.drop (i + len + ys.length) → els.length ≤ els'.length → bar ≤ b → ∀ (bl' : Nat) (cap' : Option Nat), bl' = els'.length →
            capIs cap' (els'.length - i) cc → Good fm ρ X PV bar s w a.tmps R (.hsl b bl' i (len + ys.length) sz' cap') { s with heap := s.heap.set b (.row sz' els') } := by
          intro hfit hcc els' hels hle hbar bl' cap' hbl' hcap'
          have hfit2 : (i + len + ys.length) * sz' ≤ arr.size := Nat.le_trans (Nat.mul_le_mul_right _ (by omega)) hroom
          have hadr := hA0 hcc
          subst hadr
          refine Good.put C (k := i + len) hbar hB hrow K ho hin hels hw hfit2 hle (c := .slice (some ⟨B, i * sz', none⟩) (len + ys.length) cc) (nx := .value (.slice (some ⟨B, i * sz', none⟩) (len + ys.length) cc)) (fun fz' hfz' hst => ?_) (.inl rfl) (fun arr' hs2 => ?_)
          · refine hR _ _ (run_append_room T S hfit (fun b0 hb0 => ?_) (fun hn => by cases hn) ty)
            injection hb0 with hb0
            subst hb0
            rw [addr_add, ← Nat.add_mul]
            exact hst
          · have hg : (s.heap.set b (.row sz' els'))[b]? = some (.row sz' els') := by simp [hb]
            refine .hsl (by simpa using hb) hfit (fun B' els2 hB' he' => ?_) (fun B' sz2 els2 hB' he' => ?_)
            · rw [hB] at hB'
              injection hB' with hB'
              subst hB'
              rw [hg] at he'
              simp only [Option.some.injEq, ABlk.row.injEq, true_and] at he'
              subst he'
              exact ⟨by omega, fun _ => ⟨fun _ => rfl, hcap', arr', et, fr, setRow_heap w B arr arr' et fr hw, by rw [hs2]; exact hroom⟩⟩
            · rw [hg] at he'
              simp only [Option.some.injEq, ABlk.row.injEq] at he'
              obtain ⟨_, rfl⟩ := he'
              omega
        split at hv3
        · -- the capacity is known
          rename_i c0
          simp only [capIs] at hcap
          subst hcap
          split at hv3
          · rename_i hfit
            obtain ⟨⟨hbar, hin2⟩, hv4⟩ := of_ite hv3
            simp only [Option.some.injEq, Prod.mk.injEq] at hv4
            obtain ⟨rfl, rfl⟩ := hv4
            have hpl : (putEls els (i + len) ys).length = els.length := by simp [putEls]; omega
            exact inplace hfit (by omega) (putEls els (i + len) ys) rfl (by omega) hbar bl (some cc) (by omega) rfl
          · rename_i hnfit
            simp only [Option.some.injEq, Prod.mk.injEq] at hv3
            obtain ⟨rfl, rfl⟩ := hv3
            obtain ⟨cap, rest, h1, h2, hro, h3⟩ := run_append_grow (ty := ty) T S (base := some ad) (sLen := len) (sCap := cc) hnfit hlc (by omega) hold
            have hr := hR _ _ h3
            have := Good.fresh C (Rd.flat.append K) (fun v hv => (List.mem_append.1 hv).elim (Rd.one v) (ho v)) (cap := cap) (rest := rest) (by rw [List.length_append, hlen2]; exact h1) (by rw [List.length_append, hlen2]; exact h2) hro (R := R) (e := e)
              (by rw [List.length_append, hlen2]; exact hr)
            rw [List.length_append, hlen2] at this
            exact this
        · -- it is not
          obtain ⟨⟨hbar, rfl⟩, hv4⟩ := of_ite hv3
          clear hv3
          simp only [capIs, Nat.sub_zero] at hcap
          rw [Nat.zero_add] at hin
          split at hv4
          · rename_i hfit
            simp only [Option.some.injEq, Prod.mk.injEq] at hv4
            obtain ⟨rfl, rfl⟩ := hv4
            have hpl : (putEls els len ys).length = els.length := by simp [putEls]; omega
            exact inplace (by omega) (by omega) (putEls els len ys) (by simp [putEls]) (by omega) hbar bl none (by omega) (by simp only [capIs]; omega)
          · rename_i hnfit
            simp only [Option.some.injEq, Prod.mk.injEq] at hv4
            obtain ⟨rfl, rfl⟩ := hv4
            have hel : (els.take len ++ ys).length = len + ys.length := by simp; omega
            by_cases hcc : len + ys.length ≤ cc
            · exact inplace hcc (by omega) (els.take len ++ ys) (by rw [Nat.zero_add, List.drop_eq_nil_of_le (by omega), List.append_nil]) (by omega) hbar (len + ys.length) none (by omega) (by simp only [capIs]; omega)
            · obtain ⟨cap, rest, h1, h2, hro, h3⟩ := run_append_grow (ty := ty) T S (base := some ad) (sLen := len) (sCap := cc) hcc hlc (by omega) hold
              have hr := hR _ _ h3
              refine Good.after_drew C.F ?_
              have F := C.F.drew
              have Hf : FlatR fm ρ (XP X PV) s.heap w.drew sz' (els.take len ++ ys) (vs ++ us) := by
                have := (Rd.flat.append K).mono (w' := w.drew) Le.drew
                simpa using this
              have L := Le.grow F.inv F.notX hB hrow (els' := els.take len ++ ys) (by omega) (.cells (vs ++ us ++ rest).toArray e)
              have hsz : (vs ++ us ++ rest).toArray.size = cap * sz' := by
                have := Hf.len
                rw [hel] at this
                have h5 : (len + ys.length) * sz' ≤ cap * sz' := Nat.mul_le_mul_right _ h1
                simp only [List.size_toArray, List.length_append, h2, Nat.sub_mul] at this ⊢
                omega
              refine Good.grow F hbar hB hrow (els' := els.take len ++ ys) (by omega) (.cells (vs ++ us ++ rest).toArray e) ?_ hr ?_
              · refine (Hf.mono L).row (heap_alloc_eq _) (fun j hj => ?_) (by simp) (.inl (Nat.le_refl _)) (fun j v hj => by
                    have hj' : (vs ++ us ++ rest)[j]? = some v := by simpa using hj
                    rcases List.mem_append.1 (List.mem_of_getElem? hj') with q | q
                    · exact (List.mem_append.1 q).elim (Rd.one v) (ho v)
                    · exact hro v q) (fun v hv => (List.mem_append.1 hv).elim (Rd.one v) (ho v))
                simp only [List.getElem?_toArray]
                rw [List.getElem?_append_left hj]
              · have hg : (s.heap.set b (.row sz' (els.take len ++ ys)))[b]? = some (.row sz' (els.take len ++ ys)) := by simp [hb]
                refine .hsl (by simpa using hb) h1 (fun B' els2 hB' he' => ?_) (fun B' sz2 els2 hB' he' => ?_)
                · rw [up_same] at hB'
                  injection hB' with hB'
                  subst hB'
                  rw [hg] at he'
                  simp only [Option.some.injEq, ABlk.row.injEq, true_and] at he'
                  subst he'
                  exact ⟨by omega, fun _ => ⟨fun _ => by simp, by simp only [capIs]; omega, _, e, (0, 0), heap_alloc_eq _, by rw [hsz]; simp⟩⟩
                · rw [hg] at he'
                  simp only [Option.some.injEq, ABlk.row.injEq] at he'
                  obtain ⟨_, rfl⟩ := he'
                  omega
  · cases hv

theorem lCall_append {c : Call} (hb : c.callee = .builtin .append) {s0 x : Operand} (ha : c.args = #[s0, x]) {t u : Nat} (ht : c.argTypes = #[t, u]) (hop : o.op = .call c) {cd cx : Value} (h1 : a.eval s0 = cd) (h2 : a.eval x = cx) :
    ∀ c' w', (Builtin.append_ #[t, u] o.type #[cd, cx]).run P w = .ok c' w' → (execOp a.eval o).run P w = .ok (.value c') w' := by
  intro c' w' hr
  simp only [execOp, hop, resolve, hb, pure_bind, invoke, builtin, ha, ht]
  refine run_v ?_
  simpa [h1, h2] using hr

theorem op_append (C : Ctx P fm fmi ρ X PV bar s w a) {c : Call} (hb : c.callee = .builtin .append) {d x : Operand} (ha : c.args = #[d, x]) {t u e sz by_ : Nat} {z : Value} (ht : c.argTypes = #[t, u]) (hop : o.op = .call c)
    (T : ElemT P t e sz by_ z) {sd sx : SOpd} (hd : lOpd fmi d = some sd) (hx : lOpd fmi x = some sx)
    {dd : TypeDesc} (hu : P.underlying u = some dd) (hnz : ∀ k, dd ≠ .int k) (hv : aop call bar s (.append sz none sd sx) = some (v, s')) :
    Good fm ρ X PV bar s w a.tmps ((execOp a.eval o).run P w) v s' := by
  simp only [aop, Option.bind_eq_some_iff, Option.map_eq_some_iff, Prod.mk.injEq] at hv
  obtain ⟨ys, hys, ⟨v1, h1⟩, hap, rfl, rfl⟩ := hv
  obtain ⟨us, Rd⟩ := sliceEls_reads (P := P) C.F.inv T.spos (C.F.val C.hfm hx rfl) hys
  have htk : us.take (ys.length * sz) = us := List.take_of_length_le (by rw [Rd.flat.len]; exact Nat.le_refl _)
  refine aappend_sound (zeros := false) C T (C.F.val C.hfm hd rfl) ⟨⟨dd, hu, (fun q => by cases q), fun _ => hnz⟩, ?_, ?_⟩ Rd.flat Rd.one hap o.type (lCall_append hb ha ht hop rfl rfl)
  · simpa using Rd.len
  · simp only [Bool.false_eq_true, if_false]
    have l1 := Rd.load ys.length (Nat.le_refl _) w rfl
    have l2 := Rd.load ys.length (Nat.le_refl _) w.drew rfl
    rw [htk] at l1 l2
    exact ⟨l1, l2⟩

theorem zero_flat (z : Value) {sz : Nat} (hz : z.cells.size = sz) (hpos : 0 < sz) (n : Nat) (X : Nat → Prop) (h : AHeap) : FlatR fm ρ X h w sz (List.replicate n (z.cells.toList.map ofC1)) (Builtin.zeroCells z.cells n).toList := by
  have hlen : (Builtin.zeroCells z.cells n).toList.length = n * sz := by simp [Builtin.zeroCells, hz]
  refine ⟨fun i x hx => ?_, by rw [hlen]; simp, fun i x j y v hx hy hv => ?_⟩
  · obtain ⟨_, rfl⟩ := List.getElem?_eq_some_iff.1 hx
    simp [hz]
  · have hi : i < n := by have := (List.getElem?_eq_some_iff.1 hx).1; simpa using this
    obtain ⟨_, rfl⟩ := List.getElem?_eq_some_iff.1 hx
    simp only [List.getElem_replicate] at hy
    have hj : j < sz := by have := (List.getElem?_eq_some_iff.1 hy).1; simpa [hz] using this
    have hlt : i * sz + j < n * sz := flat_lt hi hj
    have hv' : v = z.cells[(i * sz + j) % sz]! := by
      have : (Builtin.zeroCells z.cells n).toList[i * sz + j]? = some (z.cells[(i * sz + j) % sz]!) := by
        simp [Builtin.zeroCells, hz, hlt]
      rw [this] at hv
      injection hv with hv
      exact hv.symm
    have hmod : (i * sz + j) % sz = j := by rw [Nat.add_comm, Nat.add_mul_mod_self_right, Nat.mod_eq_of_lt hj]
    rw [hmod] at hv'
    have hjs : j < z.cells.size := by omega
    have hv2 : z.cells.toList[j]? = some v := by
      rw [hv']
      simp [hjs]
    exact VR_list_ofC1 fm ρ X h w z.cells j y v hy hv2

theorem zero_ones {z : Value} (h1 : oneCells z.cells = true) (hpos : 0 < z.cells.size) (n : Nat) : ∀ v ∈ (Builtin.zeroCells z.cells n).toList, v.oneCell' = true := by
  intro v hv
  simp only [Builtin.zeroCells, Array.toList_map, List.mem_map] at hv
  obtain ⟨k, _, rfl⟩ := hv
  have hlt := Nat.mod_lt k hpos
  refine ones_list h1 _ ?_
  rw [getElem!_pos z.cells (k % z.cells.size) hlt]
  exact Array.getElem_mem_toList hlt

theorem op_append0 (C : Ctx P fm fmi ρ X PV bar s w a) {c : Call} (hb : c.callee = .builtin .append) {d x : Operand} (ha : c.args = #[d, x]) {t u e sz by_ : Nat} {z : Value} (ht : c.argTypes = #[t, u]) (hop : o.op = .call c)
    (T : ElemT P t e sz by_ z) {sd sx : SOpd} (hd : lOpd fmi d = some sd) (hx : lOpd fmi x = some sx)
    {k : IntKind} (hu : P.underlying u = some (.int k)) (hv : aop call bar s (.append sz (some (z.cells.toList.map ofC1)) sd sx) = some (v, s')) :
    Good fm ρ X PV bar s w a.tmps ((execOp a.eval o).run P w) v s' := by
  simp only [aop] at hv
  split at hv
  · rename_i n hn
    obtain ⟨⟨hn0, hnl⟩, hv⟩ := of_ite hv
    simp only [Option.map_eq_some_iff, Prod.mk.injEq] at hv
    obtain ⟨⟨v1, h1⟩, hap, rfl, rfl⟩ := hv
    have hxv := C.F.val C.hfm hx rfl
    rw [hn] at hxv
    have hcx : a.eval x = .int .i64 n := by generalize a.eval x = q at hxv; cases hxv; rfl
    have hlen : (List.replicate n.toNat (z.cells.toList.map ofC1)).length = n.toNat := by simp
    refine aappend_sound (zeros := true) (us := (Builtin.zeroCells z.cells n.toNat).toList) (cx := .int .i64 n) C T (C.F.val C.hfm hd rfl) ⟨⟨_, hu, fun _ => ⟨k, rfl⟩, (fun q => by cases q)⟩, ?_, ?_⟩
      (zero_flat z T.zsize T.spos _ _ _) (zero_ones T.zone (by rw [T.zsize]; exact T.spos) _) hap o.type (lCall_append hb ha ht hop rfl hcx)
    · simp only [if_true, hlen]
      exact ⟨by congr 1; omega, by omega⟩
    · simp only [if_true, hlen]
      exact ⟨z, T.zero, rfl, T.zsize⟩
  · cases hv

end
end Go.Ai
/-
  The abstract interpreter: copy, clear, literals of slices, make, strings as bytes, lengths.
-/
namespace Go.Ai
open Go.RowKit
set_option linter.unusedVariables false
set_option linter.unusedSimpArgs false

section
variable {P : Program} {fm : Nat → Nat} {fmi : Nat → Option Nat} {ρ : Map} {X : Nat → Prop} {PV : Map} {bar : Nat} {s s' : St} {w w' : World} {h : AHeap} {call : Caller} {a : Act} {o : Oper} {v : AV} {tmps : Array Value}

theorem lCall_builtin {c : Call} {b : Builtin} (hb : c.callee = .builtin b) (hop : o.op = .call c) {args : List Operand} (ha : c.args = args.toArray) {ts : Array Nat} (ht : c.argTypes = ts) {m : Sem Value}
    (hm : ∀ consts, builtin b ts o.type consts (args.map a.eval).toArray = (do pure (.value (← m)))) {c' : Value} {w' : World} (hr : m.run P w = .ok c' w') : (execOp a.eval o).run P w = .ok (.value c') w' := by
  have : (args.toArray.map a.eval) = (args.map a.eval).toArray := by simp
  simp only [execOp, hop, resolve, hb, pure_bind, invoke, ha, ht, this, hm]
  exact run_v hr

/-- elements put in place, the block's size as it is -/
theorem Good.putin (C : Ctx P fm fmi ρ X PV bar s w a) {b B sz k : Nat} {els ys : List (List AV)} {us : List Value} (hb : bar ≤ b) (hB : ρ b = some B) (he : s.heap[b]? = some (.row sz els))
    (K : FlatR fm ρ (XP X PV) s.heap w sz ys us) (ho : ∀ v ∈ us, v.oneCell' = true) (hk : k + ys.length ≤ els.length) {R : Result Next} {nx : Next} {c : Value}
    (hrun : ∀ w', (storeCells ⟨B, k * sz, none⟩ us).run P w = .ok () w' → R = .ok nx w') (hn : nx = .value c ∨ (nx = .skip ∧ c = undef))
    (hc : ∀ ρ X h w, VR fm ρ X h w v c) : Good fm ρ X PV bar s w a.tmps R v { s with heap := s.heap.set b (.row sz (putEls els k ys)) } := by
  obtain ⟨hwid, arr, e, fz, hw, hl, hfz, _⟩ := C.F.inv.row b B sz els hB he
  have hfit : (k + ys.length) * sz ≤ arr.size := Nat.le_trans (Nat.mul_le_mul_right _ hk) hl
  have hpl : (putEls els k ys).length = els.length := by simp [putEls]; omega
  exact Good.put (els' := putEls els k ys) C hb hB he K ho (by omega) rfl hw hfit (by omega) (fun _ _ hst => hrun _ hst) hn (fun arr' _ => hc _ _ _ _)

theorem op_copy (C : Ctx P fm fmi ρ X PV bar s w a) {c : Call} (hb : c.callee = .builtin .copy) {d x : Operand} (ha : c.args = #[d, x]) {t u e sz : Nat} (ht : c.argTypes = #[t, u]) (hop : o.op = .call c)
    (hu : P.underlying t = some (.slice e)) (hs : tSize P e = some sz) (hpos : 0 < sz) {sd sx : SOpd} (hd : lOpd fmi d = some sd) (hx : lOpd fmi x = some sx)
    (hv : aop call bar s (.copy sz sd sx) = some (v, s')) : Good fm ρ X PV bar s w a.tmps ((execOp a.eval o).run P w) v s' := by
  simp only [aop, Option.map_eq_some_iff, Prod.mk.injEq] at hv
  obtain ⟨⟨v1, h1⟩, hc, rfl, rfl⟩ := hv
  unfold acopy at hc
  simp only [Option.bind_eq_some_iff] at hc
  obtain ⟨src, hsrc, hc⟩ := hc
  obtain ⟨us, Rd⟩ := sliceEls_reads (P := P) C.F.inv hpos (C.F.val C.hfm hx rfl) hsrc
  have hdv := C.F.val C.hfm hd rfl
  have hbi : ∀ consts, builtin .copy #[t, u] o.type consts ([d, x].map a.eval).toArray = (do pure (.value (← Builtin.copy_ #[t, u] o.type #[a.eval d, a.eval x]))) := fun _ => rfl
  generalize s.val sd = dv at hdv hc
  split at hc
  · simp only [Option.some.injEq, Prod.mk.injEq] at hc
    obtain ⟨rfl, rfl⟩ := hc
    generalize hq : a.eval d = cd at hdv
    cases hdv
    refine Good.same C.F (c := .int .i64 0) (lCall_builtin hb hop (args := [d, x]) ha ht hbi ?_) (VR.int _ _)
    simp only [hq]
    have hl0 := Rd.load 0 (Nat.zero_le _) w rfl
    simp only [Nat.zero_mul, List.take_zero] at hl0
    simp [Builtin.copy_, run_underlying' hu, Rd.len, run_sizeOf' hs, hl0, goInt]
  · rename_i b bl i len sz' cap
    obtain ⟨rfl, hc1⟩ := of_ite hc
    clear hc
    simp only [Option.bind_eq_some_iff] at hc1
    obtain ⟨els, hrw, hc2⟩ := hc1
    obtain ⟨⟨hbar, hin⟩, hc3⟩ := of_ite hc2
    simp only [Option.some.injEq, Prod.mk.injEq] at hc3
    obtain ⟨rfl, rfl⟩ := hc3
    obtain ⟨hrow, hbl⟩ := heapRow_some hrw
    obtain ⟨B, hB⟩ := C.F.inv.tot b (List.getElem?_eq_some_iff.1 hrow).1
    generalize hq : a.eval d = cd at hdv
    cases hdv with
    | @hsl _ _ _ _ _ cc _ ad hb' hlc ha' hs' =>
      obtain ⟨_, hA⟩ := ha' B els hB hrow
      obtain ⟨hA0, hcap, arr, et, fr, hw, hroom⟩ := hA hbl
      have hn : min src.length len ≤ src.length := Nat.min_le_left _ _
      have K := Rd.flat.take (min src.length len) hn
      have hload := Rd.load _ hn w rfl
      refine Good.putin C hbar hB hrow K (fun v hv => Rd.one v (List.mem_of_mem_take hv)) (by simp; omega) (c := .int .i64 (min src.length len : Nat)) (nx := .value (.int .i64 (min src.length len : Nat))) (fun w' hst => ?_) (.inl rfl) (fun _ _ _ _ => VR.int _ _)
      refine lCall_builtin hb hop (args := [d, x]) ha ht hbi ?_
      simp only [hq]
      have hadr : (storeCells ad ((us.take (min src.length len * sz'))) ).run P w = .ok () w' := by
        by_cases hcc : cc = 0
        · subst hcc
          have hl0 : len = 0 := by omega
          subst hl0
          simp only [Nat.min_zero, Nat.zero_mul, List.take_zero] at hst ⊢
          exact hst
        · rw [hA0 hcc]; exact hst
      simp [Builtin.copy_, run_underlying' hu, Rd.len, run_sizeOf' hs, hload, hadr, goInt]
  · cases hc

theorem op_clear (C : Ctx P fm fmi ρ X PV bar s w a) {c : Call} (hb : c.callee = .builtin .clear) {x : Operand} (ha : c.args = #[x]) {t e sz : Nat} {z : Value} (ht : c.argTypes = #[t]) (hop : o.op = .call c)
    (hu : P.underlying t = some (.slice e)) (hz : tZero P e = some z) (hpos : 0 < sz) (hzs : z.cells.size = sz) (hzo : oneCells z.cells = true) {sx : SOpd} (hx : lOpd fmi x = some sx)
    (hv : aop call bar s (.clear sz (z.cells.toList.map ofC1) sx) = some (v, s')) : Good fm ρ X PV bar s w a.tmps ((execOp a.eval o).run P w) v s' := by
  simp only [aop, Option.map_eq_some_iff, Prod.mk.injEq] at hv
  obtain ⟨h1, hc, rfl, rfl⟩ := hv
  have hdv := C.F.val C.hfm hx rfl
  have hbi : ∀ consts, builtin .clear #[t] o.type consts ([x].map a.eval).toArray = (do pure (.value (← Builtin.clear_ #[t] o.type #[a.eval x]))) := fun _ => rfl
  unfold aclear at hc
  generalize s.val sx = dv at hdv hc
  split at hc
  · injection hc with hc
    subst hc
    generalize hq : a.eval x = cd at hdv
    cases hdv
    refine Good.same C.F (c := .tuple #[]) (lCall_builtin hb hop (args := [x]) ha ht hbi ?_) (VR.tup [] rfl (by simp))
    simp only [hq]
    simp [Builtin.clear_, run_underlying' hu]
  · rename_i b bl i len sz' cap
    obtain ⟨rfl, hc1⟩ := of_ite hc
    clear hc
    simp only [Option.bind_eq_some_iff] at hc1
    obtain ⟨els, hrw, hc2⟩ := hc1
    obtain ⟨hrow, hbl⟩ := heapRow_some hrw
    obtain ⟨B, hB⟩ := C.F.inv.tot b (List.getElem?_eq_some_iff.1 hrow).1
    generalize hq : a.eval x = cd at hdv
    cases hdv with
    | @hsl _ _ _ _ _ cc _ ad hb' hlc ha' hs' =>
      by_cases hl0 : len = 0
      · subst hl0
        rw [if_pos rfl] at hc2
        injection hc2 with hc2
        subst hc2
        refine Good.same C.F (c := .tuple #[]) (lCall_builtin hb hop (args := [x]) ha ht hbi ?_) (VR.tup [] rfl (by simp))
        simp only [hq]
        simp [Builtin.clear_, run_underlying' hu]
      · rw [if_neg hl0] at hc2
        obtain ⟨⟨hbar, hin⟩, hc3⟩ := of_ite hc2
        injection hc3 with hc3
        subst hc3
        obtain ⟨_, hA⟩ := ha' B els hB hrow
        obtain ⟨hA0, hcap, arr, et, fr, hw, hroom⟩ := hA hbl
        refine Good.putin C hbar hB hrow (zero_flat z hzs hpos len _ _) (zero_ones hzo (by rw [hzs]; exact hpos) len) (by simp; omega) (c := .tuple #[]) (nx := .value (.tuple #[])) (fun w' hst => ?_) (.inl rfl) (fun _ _ _ _ => VR.tup [] rfl (by simp))
        refine lCall_builtin hb hop (args := [x]) ha ht hbi ?_
        simp only [hq]
        have hcc : cc ≠ 0 := fun q => hl0 (Nat.le_zero.1 (q ▸ hlc))
        rw [hA0 hcc]
        cases len with
        | zero => exact absurd rfl hl0
        | succ len => simp [Builtin.clear_, run_underlying' hu, run_zeroValue' hz, hst]
  · cases hc

theorem FlatR.set {sz i : Nat} {els : List (List AV)} {vs us : List Value} {cs : List AV} (H : FlatR fm ρ X h w sz els vs) (K : VRs fm ρ X h w cs us) (hl : cs.length = sz) (hi : i < els.length) :
    FlatR fm ρ X h w sz (els.set i cs) (vs.take (i * sz) ++ us ++ vs.drop (i * sz + us.length)) := by
  have h1 := K.1
  have h2 : (i + 1) * sz ≤ els.length * sz := Nat.mul_le_mul_right _ hi
  rw [Nat.succ_mul] at h2
  have h3 := H.len
  refine ⟨fun k x hx => ?_, by simp; omega, fun k x j y v hx hy hv => ?_⟩
  · rw [List.getElem?_set] at hx
    by_cases q : i = k
    · subst q
      rw [if_pos rfl, if_pos hi] at hx
      injection hx with hx
      rw [← hx]; exact hl
    · rw [if_neg q] at hx
      exact H.wid k x hx
  · rw [seg_get _ _ _ _ (by omega)] at hv
    rw [List.getElem?_set] at hx
    by_cases q : i = k
    · subst q
      rw [if_pos rfl, if_pos hi] at hx
      injection hx with hx
      subst hx
      have hj : j < sz := by have := (List.getElem?_eq_some_iff.1 hy).1; omega
      rw [if_neg (by omega), if_pos (by omega)] at hv
      have e1 : i * sz + j - i * sz = j := by omega
      rw [e1] at hv
      exact K.2 j y v hy hv
    · rw [if_neg q] at hx
      have hj : j < sz := by have := (List.getElem?_eq_some_iff.1 hy).1; rw [H.wid k x hx] at this; exact this
      refine H.val k x j y v hx hy ?_
      rcases Nat.lt_or_gt_of_ne q with q1 | q1
      · have := Nat.mul_le_mul_right sz (show i + 1 ≤ k from q1)
        rw [Nat.succ_mul] at this
        rwa [if_neg (by omega), if_neg (by omega)] at hv
      · have := Nat.mul_le_mul_right sz (show k + 1 ≤ i from q1)
        rw [Nat.succ_mul] at this
        rwa [if_pos (by omega)] at hv

theorem fill_els (hfm : ∀ f g, fmi f = some g → fm g = f) (F : FR fm ρ X PV s w a.tmps) (sz : Nat) : ∀ (parts : List (Nat × Operand)) (sp : List (Nat × SOpd)) (els els' : List (List AV)) (vs : List Value),
    lElems fmi parts = some sp → FlatR fm ρ (XP X PV) s.heap w sz els vs → (∀ v ∈ vs, v.oneCell' = true) → abslice sz els (sp.map fun (i, x) => (i, s.val x)) = some els' →
    ∃ us, Instr.fill (fun i => some (i * sz, sz)) vs.toArray (parts.map fun (i, x) => (i, a.eval x)) = some us.toArray ∧ FlatR fm ρ (XP X PV) s.heap w sz els' us ∧ (∀ v ∈ us, v.oneCell' = true) ∧ els'.length = els.length
  | [], sp, els, els', vs, hl, H, ho, hb => by
    simp only [lElems, Option.some.injEq] at hl
    subst hl
    simp only [List.map_nil, abslice, Option.some.injEq] at hb
    subst hb
    exact ⟨vs, rfl, H, ho, rfl⟩
  | (i, x) :: r, sp, els, els', vs, hl, H, ho, hb => by
    simp only [lElems, Option.bind_eq_some_iff, Option.map_eq_some_iff] at hl
    obtain ⟨b, h2, l, h3, rfl⟩ := hl
    simp only [List.map_cons, abslice] at hb
    obtain ⟨⟨h4, h5, h6⟩, hb⟩ := of_ite hb
    have K := (F.val hfm h2 rfl).cells h6
    have hcs : (a.eval x).cells.size = sz := by have := K.1; simp at this; omega
    have hmul : (i + 1) * sz ≤ els.length * sz := Nat.mul_le_mul_right _ h5
    rw [Nat.succ_mul] at hmul
    have hvl : i * sz + sz ≤ vs.toArray.size := by have := H.len; simp; omega
    rw [List.map_cons, fill_step _ i (a.eval x) _ vs.toArray rfl hcs hvl]
    have hlen : (a.eval x).cells.toList.length = sz := by simp [hcs]
    have S := H.set K h4 h5
    rw [hlen] at S
    obtain ⟨us, g1, g2, g3, g4⟩ := fill_els hfm F sz r l _ els' _ h3 S (fun v hv => by
      simp only [List.mem_append] at hv
      rcases hv with (hv | hv) | hv
      · exact ho v (List.mem_of_mem_take hv)
      · exact K.ones h6 v hv
      · exact ho v (List.mem_of_mem_drop hv)) hb
    exact ⟨us, g1, g2, g3, by simpa using g4⟩

/-- a slice over a whole new row, in the heap or never written -/
theorem Good.slice (C : Ctx P fm fmi ρ X PV bar s w a) {sz : Nat} {els : List (List AV)} {vs : List Value} {e : TypeId} (H : FlatR fm ρ (XP X PV) s.heap w sz els vs) (ho : ∀ v ∈ vs, v.oneCell' = true) (hh : Bool) {R : Result Next}
    (hr : R = .ok (.value (.slice (some ⟨w.heap.size, 0, none⟩) els.length els.length)) (w.alloc (.cells vs.toArray e)))
    (hv : (if hh then (AV.hsl s.heap.length els.length 0 els.length sz (some els.length), { s with heap := s.heap ++ [.row sz els] }) else (.isl els sz (some els.length), s)) = (v, s')) :
    Good fm ρ X PV bar s w a.tmps R v s' := by
  cases hh with
  | true =>
    simp only [if_true, Prod.mk.injEq] at hv
    obtain ⟨rfl, rfl⟩ := hv
    have L := Le.push C.F.inv C.F.notX (.cells vs.toArray e) (.row sz els)
    refine Good.push C.bar C.F (.cells vs.toArray e) _ (fun sz' els' he => ?_) (fun es he => by cases he) ?_ hr
    · injection he with h2 h3
      subst h2 h3
      exact (H.mono L).row (heap_alloc_eq _) (fun j hj => by simp) (by simp) (.inl (Nat.le_refl _)) (fun j v hj => ho v (List.mem_of_getElem? (by simpa using hj))) ho
    · refine .hsl (by simp) (Nat.le_refl _) (fun B els' hB he => ?_) (fun B sz' els' hB he => ?_)
      · rw [up_same] at hB
        injection hB with hB
        subst hB
        simp only [List.getElem?_concat_length, Option.some.injEq, ABlk.row.injEq, true_and] at he
        subst he
        exact ⟨Nat.le_refl _, fun _ => ⟨fun _ => by simp, rfl, _, e, (0, 0), heap_alloc_eq _, by have := H.len; simp [this]⟩⟩
      · rw [up_same] at hB
        injection hB with hB
        subst hB
        simp only [List.getElem?_concat_length, Option.some.injEq, ABlk.row.injEq] at he
        obtain ⟨_, rfl⟩ := he
        exact Nat.le_refl _
  | false =>
    simp only [Bool.false_eq_true, if_false, Prod.mk.injEq] at hv
    obtain ⟨rfl, rfl⟩ := hv
    refine ⟨_, _, _, ρ, PV, hr, .inl rfl, C.F.alloc _, ?_, Step.alloc C.F _⟩
    exact (H.mono (Le.alloc (.cells vs.toArray e))).isl (heap_alloc_eq _) (C.F.out_new _) (fun j hj => by simp) ho (Nat.le_refl _) rfl

theorem op_bslice (C : Ctx P fm fmi ρ X PV bar s w a) {t n e sz : Nat} {z : Value} {parts : Array (Nat × Operand)} {sp : List (Nat × SOpd)} {hh : Bool} (hu : P.underlying t = some (.slice e)) (hs : tSize P e = some sz) (hz : tZero P e = some z)
    (hlim : n * sz ≤ 16777216) (hpos : 0 < sz) (hzs : z.cells.size = sz) (hzo : oneCells z.cells = true) (hl : lElems fmi parts.toList = some sp)
    (hop : o.op = .buildSlice t n parts) (hv : aop call bar s (.bslice hh sz (List.replicate n (z.cells.toList.map ofC1)) sp) = some (v, s')) : Good fm ρ X PV bar s w a.tmps ((execOp a.eval o).run P w) v s' := by
  simp only [aop, Option.map_eq_some_iff] at hv
  obtain ⟨els, hb, hv⟩ := hv
  obtain ⟨us, h1, h2, h3, h4⟩ := fill_els C.hfm C.F sz parts.toList sp _ els _ hl (zero_flat z hzs hpos n (XP X PV) s.heap) (zero_ones hzo (by rw [hzs]; exact hpos) n) hb
  have hlen : els.length = n := by simpa using h4
  refine Good.slice C h2 h3 hh (e := e) ?_ hv
  simp only [execOp, hop]
  refine run_v ?_
  have hm : (parts.map fun (i, x) => (i, a.eval x)).toList = parts.toList.map fun (i, x) => (i, a.eval x) := by simp
  have hc0 : ((Array.range (n * sz)).map (z.cells[· % z.cells.size]!)) = (Builtin.zeroCells z.cells n).toList.toArray := by
    apply Array.toList_inj.1
    simp [Builtin.zeroCells, hzs]
  have hlim' : ¬ (n * sz > 2 ^ 24) := by omega
  by_cases q : n * sz = 0
  · have hc1 : ((Array.range (n * sz)).map fun i => (#[] : Array Value)[i % (#[] : Array Value).size]!) = (Builtin.zeroCells z.cells n).toList.toArray := by
      rw [← hc0]; simp [q]
    simp only [Instr.buildSlice, Sem.run_bind, run_underlying' hu, Result.andThen_ok, run_sizeOf' hs, hlim', if_false, if_pos q, Sem.run_pure, hc1, hm, h1, newRow, run_newObj, hlen]
    rfl
  · simp only [Instr.buildSlice, Sem.run_bind, run_underlying' hu, Result.andThen_ok, run_sizeOf' hs, hlim', if_false, if_neg q, Sem.run_pure, run_zeroValue' hz, hc0, hm, h1, newRow, run_newObj, hlen]
    rfl

theorem freeze_heap (w : World) (B n : Nat) {arr : Array Value} {e : TypeId} (hB : w.heap[B]? = some (.cells arr e)) :
    (w.freeze ⟨B, n, none⟩ 1).heap[B]? = some (.cells arr e (n, n + 1)) ∧ (∀ k, k ≠ B → (w.freeze ⟨B, n, none⟩ 1).heap[k]? = w.heap[k]?) ∧ (w.freeze ⟨B, n, none⟩ 1).heap.size = w.heap.size := by
  simp only [World.freeze, Nat.one_ne_zero, if_false]
  refine ⟨?_, fun k hk => ?_, by simp⟩
  · rw [Array.getElem?_modify, if_pos rfl, hB]; simp
  · rw [Array.getElem?_modify, if_neg (fun q => hk q.symm)]

/-- a new block whose frozen range stands behind its cells: a world that is alike -/
theorem op_s2b (C : Ctx P fm fmi ρ X PV bar s w a) {src dst e : Nat} {x : Operand} {sx : SOpd} (hx : lOpd fmi x = some sx) (hs : P.underlying src = some .string) (hd : P.underlying dst = some (.slice e)) (he : P.underlying e = some (.int .u8))
    (hop : o.op = .convert src dst x) (hv : aop call bar s (.s2b false sx) = some (v, s')) : Good fm ρ X PV bar s w a.tmps ((execOp a.eval o).run P w) v s' := by
  simp only [aop] at hv
  split at hv <;> first | (cases hv; done) | skip
  rename_i b hb
  obtain ⟨hlim, hv⟩ := of_ite hv
  simp only [Bool.false_eq_true, if_false, Option.some.injEq, Prod.mk.injEq] at hv
  obtain ⟨rfl, rfl⟩ := hv
  have hxv := C.F.val C.hfm hx rfl
  rw [hb] at hxv
  have hcx : a.eval x = .string ⟨b.toArray⟩ := by generalize a.eval x = q at hxv; cases hxv; rfl
  have hbs : (⟨b.toArray⟩ : ByteArray).size = b.length := by simp [ByteArray.size]
  generalize hcap : (Question.appendCap b.length 0 e).cut (w.tape w.drawn (.appendCap b.length 0 e)) = cap
  have hle : b.length ≤ cap := by rw [← hcap]; simp only [Question.cut]; omega
  generalize hvs : ((b.map fun x => Value.int .u8 x.toNat) ++ List.replicate (cap - b.length) (Value.int .u8 0)) = vs
  have hvl : vs.toArray.size = cap := by rw [← hvs]; simp; omega
  have hch : (choose (.appendCap b.length 0 e)).run P w = .ok cap w.drew := by
    rw [run_choose, show (Question.appendCap b.length 0 e).forced = false from rfl, hcap]
    rfl
  have harr : ((⟨b.toArray⟩ : ByteArray).data.map fun x => Value.int .u8 x.toNat) ++ Array.replicate (cap - b.length) (.int .u8 0) = vs.toArray := by
    rw [← hvs]; simp
  have hshape : (w.drew.alloc (.cells vs.toArray e)).shape? w.heap.size = some (e, cap) := by
    have := heap_alloc_eq (w := w.drew) (.cells vs.toArray e)
    simp only [World.shape?]
    rw [show (w.drew.alloc (.cells vs.toArray e)).heap[w.heap.size]? = some (.cells vs.toArray e) from this, ← hvl]
  have hrun : (execOp a.eval o).run P w = .ok (.value (.slice (some ⟨w.heap.size, 0, none⟩) b.length cap)) ((w.drew.alloc (.cells vs.toArray e)).freeze ⟨w.heap.size, cap, none⟩ 1) := by
    simp only [execOp, hop, hcx]
    refine run_v ?_
    have hcv : (convert src dst (.string ⟨b.toArray⟩)).run P w = (Conv.stringToBytes e ⟨b.toArray⟩).run P w := by
      simp [convert, run_underlying' hs, run_underlying' hd, run_underlying' he]
    rw [hcv]
    simp only [Conv.stringToBytes, Sem.run_bind, hbs, hch, Result.andThen_ok, newRow, harr, Sem.run_pure]
    have hno : (newObj (.cells vs.toArray e)).run P w.drew = .ok w.heap.size (w.drew.alloc (.cells vs.toArray e)) := rfl
    simp only [hno, Result.andThen_ok, markStringish, Sem.run_bind, run_shape, hshape, run_freeze, Sem.run_pure]
  refine Good.after_drew C.F ?_
  have F := C.F.drew
  obtain ⟨f1, f2, f3⟩ := freeze_heap (w.drew.alloc (.cells vs.toArray e)) w.heap.size cap (heap_alloc_eq (w := w.drew) (.cells vs.toArray e))
  generalize hw' : (w.drew.alloc (.cells vs.toArray e)).freeze ⟨w.heap.size, cap, none⟩ 1 = w' at f1 f2 f3 hrun
  have hold : ∀ B, B < w.heap.size → w'.heap[B]? = w.drew.heap[B]? := fun B hB => by
    rw [f2 B (by omega)]
    exact heap_alloc_lt (w := w.drew) _ hB
  have hsz : w'.heap.size = w.heap.size + 1 := by rw [f3]; simp
  have hos : w'.os = w.drew.os ∧ w'.tape = w.drew.tape ∧ w'.output = w.drew.output := by
    rw [← hw']; simp only [World.freeze, Nat.one_ne_zero, if_false]; exact ⟨rfl, rfl, rfl⟩
  have L : Le ρ (XP X PV) s.heap w.drew ρ (XP X PV) s.heap w' := Le.same (by rw [hsz]; simp) hos.1 hos.2.1 hos.2.2 (fun B hB => hold B hB) (fun _ _ hx => hx)
  have I : Inv fm ρ (XP X PV) s.heap w' := F.inv.mono L (fun b B e => hold B (F.inv.dom b B e).2.1) (fun b B e => (F.inv.dom b B e).2.2)
  refine ⟨_, w', _, ρ, PV, hrun, .inl rfl, F.setHeap L I (fun d B e => hold B (F.pv d B e).2), ?_, L, fun B hB _ => hold B hB, fun _ _ => ⟨rfl, rfl⟩, fun _ _ e => .inl e⟩
  have hout : Out ρ (XP X PV) w' w.heap.size := ⟨fun b e => absurd (C.F.inv.dom b _ e).2.1 (Nat.lt_irrefl _), C.F.notX, by omega⟩
  have K : FlatR fm ρ (XP X PV) s.heap w' 1 (bytesEls b) (b.map fun x => Value.int .u8 x.toNat) := bytes_flat b
  have hbl : (bytesEls b).length = b.length := by simp [bytesEls]
  have := K.isl (cc := cap) (cap := none) f1 hout (fun j hj => by rw [← hvs]; simp only [List.getElem?_toArray]; rw [List.getElem?_append_left hj]) (fun v hv => by obtain ⟨u, _, rfl⟩ := List.mem_map.1 hv; rfl) (by omega) (by simp only [capIs]; omega)
  rw [hbl] at this
  exact this

/-- the bytes of cells -/
theorem abytes_sound : ∀ (els : List (List AV)) (vs : List Value) (b : List UInt8), FlatR fm ρ X h w 1 els vs → abytes els = some b →
    ∃ ns : List Int, vs = ns.map (fun n => Value.int .u8 n) ∧ b = ns.map fun n => UInt8.ofNat n.toNat
  | [], vs, b, H, hb => by
    simp only [abytes, Option.some.injEq] at hb
    subst hb
    have := flat_nil H rfl
    subst this
    exact ⟨[], rfl, rfl⟩
  | e :: r, vs, b, H, hb => by
    unfold abytes at hb
    split at hb
    · rename_i heq; cases heq
    · rename_i n r' heq
      simp only [List.cons.injEq] at heq
      obtain ⟨rfl, rfl⟩ := heq
      simp only [Option.map_eq_some_iff] at hb
      obtain ⟨b', h1, rfl⟩ := hb
      have hl := H.len
      cases vs with
      | nil => simp at hl
      | cons v vs =>
        have hv0 := H.val 0 [.int .u8 n] 0 (.int .u8 n) v rfl rfl rfl
        cases hv0
        have H' : FlatR fm ρ X h w 1 r vs := ⟨fun i x hx => H.wid (i + 1) x (by simpa using hx), by simpa using hl, fun i x j y v hx hy hv => H.val (i + 1) x j y v (by simpa using hx) hy (by
          rw [show (i + 1) * 1 + j = (i * 1 + j) + 1 by omega]; simpa using hv)⟩
        obtain ⟨ns, h2, h3⟩ := abytes_sound r vs b' H' h1
        exact ⟨n :: ns, by rw [h2]; rfl, by rw [h3]; rfl⟩
    · cases hb

theorem run_bytes_fold (f : Value → ByteArray → Sem (ForInStep ByteArray)) (hf : ∀ (n : Int) r, f (.int .u8 n) r = pure (.yield (r.push (UInt8.ofNat n.toNat)))) (w : World) : ∀ (ns : List Int) (acc : ByteArray),
    (forIn (m := Sem) (ns.map fun n => Value.int .u8 n) acc f).run P w = .ok ⟨(acc.data.toList ++ ns.map fun n => UInt8.ofNat n.toNat).toArray⟩ w
  | [], acc => by simp
  | n :: r, acc => by
    simp only [List.map_cons, List.forIn_cons, hf, Sem.run_bind, Sem.run_pure, Result.andThen_ok, run_bytes_fold f hf w r]
    simp

theorem op_b2s (C : Ctx P fm fmi ρ X PV bar s w a) {src dst e : Nat} {x : Operand} {sx : SOpd} (hx : lOpd fmi x = some sx) (hs : P.underlying src = some (.slice e)) (hd : P.underlying dst = some .string) (he : P.underlying e = some (.int .u8))
    (hop : o.op = .convert src dst x) (hv : aop call bar s (.b2s sx) = some (v, s')) : Good fm ρ X PV bar s w a.tmps ((execOp a.eval o).run P w) v s' := by
  simp only [aop] at hv
  split at hv
  · cases hv
  rename_i hns
  simp only [Option.map_eq_some_iff, Option.bind_eq_some_iff, Prod.mk.injEq] at hv
  obtain ⟨b, ⟨els, hels, hb⟩, rfl, rfl⟩ := hv
  have hxv := C.F.val C.hfm hx rfl
  obtain ⟨vs, Rd⟩ := sliceEls_reads (P := P) C.F.inv (sz := 1) (by omega) hxv hels
  obtain ⟨ns, rfl, rfl⟩ := abytes_sound els vs b Rd.flat hb
  have hload := Rd.load els.length (Nat.le_refl _) w rfl
  rw [Nat.mul_one, List.take_of_length_le (by rw [Rd.flat.len]; omega)] at hload
  have hlen := Rd.len
  refine Good.same C.F (c := .string ⟨(ns.map fun (n : Int) => UInt8.ofNat n.toNat).toArray⟩) ?_ (VR.str _)
  simp only [execOp, hop]
  refine run_v ?_
  generalize hq : a.eval x = c at hxv hload hlen
  have hcv : (convert src dst c).run P w = (Conv.bytesToString c).run P w := by
    generalize s.val sx = y at hxv hns hels
    cases hxv <;> first
      | (exfalso; exact hns _ rfl)
      | (simp [sliceEls] at hels; done)
      | simp [convert, run_underlying' hs, run_underlying' hd, run_underlying' he]
  rw [hcv]
  generalize s.val sx = y at hxv hns hels
  cases hxv <;> first
    | (exfalso; exact hns _ rfl)
    | (simp [sliceEls] at hels; done)
    | skip
  · simp only [sliceEls, Option.some.injEq] at hels
    subst hels
    have hn0 : ns = [] := by
      have := Rd.flat.len
      simpa using this
    subst hn0
    rfl
  all_goals
    simp only [Builtin.lenOf, Sem.run_pure, Result.ok.injEq, and_true] at hlen
    simp only [Builtin.firstCells, Nat.mul_one, ← hlen] at hload
    simp only [Conv.bytesToString, Sem.run_bind, hload, Result.andThen_ok, List.forIn_toArray]
    rw [run_bytes_fold (P := P) _ (fun n r => rfl) w ns .empty]
    rfl

end
end Go.Ai
/-
  The abstract interpreter: make, lengths, min and max, strings that are ranged over.
-/
namespace Go.Ai
open Go.RowKit
set_option linter.unusedVariables false
set_option linter.unusedSimpArgs false

section
variable {P : Program} {fm : Nat → Nat} {fmi : Nat → Option Nat} {ρ : Map} {X : Nat → Prop} {PV : Map} {bar : Nat} {s s' : St} {w w' : World} {h : AHeap} {call : Caller} {a : Act} {o : Oper} {v : AV} {tmps : Array Value}

theorem zero_init (z : Value) {sz n : Nat} (hzs : z.cells.size = sz) (q : n * sz ≠ 0) : ((Array.range (n * sz)).map (z.cells[· % z.cells.size]!)) = (Builtin.zeroCells z.cells n).toList.toArray := by
  apply Array.toList_inj.1
  simp [Builtin.zeroCells, hzs]

theorem op_mkslice (C : Ctx P fm fmi ρ X PV bar s w a) {t e sz by_ : Nat} {z : Value} (T : ElemT P t e sz by_ z) {x y : Operand} {sx sy : SOpd} (hx : lOpd fmi x = some sx) (hy : lOpd fmi y = some sy)
    (hop : o.op = .makeSlice t x y) (hv : aop call bar s (.mkslice sz (z.cells.toList.map ofC1) sx sy) = some (v, s')) : Good fm ρ X PV bar s w a.tmps ((execOp a.eval o).run P w) v s' := by
  simp only [aop] at hv
  split at hv <;> first | (cases hv; done) | skip
  rename_i l c hl hc
  obtain ⟨⟨h1, h2, h3⟩, hv⟩ := of_ite hv
  simp only [Option.some.injEq, Prod.mk.injEq] at hv
  obtain ⟨rfl, rfl⟩ := hv
  have hxv := C.F.val C.hfm hx rfl
  have hyv := C.F.val C.hfm hy rfl
  rw [hl] at hxv
  rw [hc] at hyv
  have hcx : a.eval x = .int .i64 l := by generalize a.eval x = q at hxv; cases hxv; rfl
  have hcy : a.eval y = .int .i64 c := by generalize a.eval y = q at hyv; cases hyv; rfl
  obtain ⟨i, hi, hib⟩ := run_bytes T.bytes w
  have hwl : IntKind.i64.wrap l = l := by
    have := run_wrap l.toNat (by omega)
    rwa [show ((l.toNat : Nat) : Int) = l by omega] at this
  have hwc : IntKind.i64.wrap c = c := by
    have := run_wrap c.toNat (by omega)
    rwa [show ((c.toNat : Nat) : Int) = c by omega] at this
  have hle : c.toNat * by_ ≤ 4294967296 * 4096 := Nat.mul_le_mul (by unfold LIM at h3; omega) T.le
  have hbig : ¬ ((by_ : Int) * c > 2 ^ 48) := by
    have : (by_ : Int) * c = ((c.toNat * by_ : Nat) : Int) := by
      rw [Int.natCast_mul, Int.mul_comm, show ((c.toNat : Nat) : Int) = c by omega]
    rw [this]
    omega
  have hcond : (decide (c < 0) || decide ((by_ : Int) * c > 2 ^ 48) || decide (l < 0) || decide (l > c)) = false := by
    simp only [Bool.or_eq_false_iff, decide_eq_false_iff_not]
    exact ⟨⟨⟨by omega, hbig⟩, by omega⟩, by omega⟩
  generalize hvs : (Builtin.zeroCells z.cells c.toNat).toList = vs
  have K := zero_flat (fm := fm) (ρ := ρ) (w := w) z T.zsize T.spos c.toNat (XP X PV) s.heap
  rw [hvs] at K
  have ho := zero_ones T.zone (by rw [T.zsize]; exact T.spos) c.toNat
  rw [hvs] at ho
  have hlen : (List.replicate c.toNat (z.cells.toList.map ofC1)).length = c.toNat := by simp
  have hr : (execOp a.eval o).run P w = .ok (.value (.slice (some ⟨w.heap.size, 0, none⟩) l.toNat c.toNat)) (w.alloc (.cells vs.toArray e)) := by
    simp only [execOp, hop, hcx, hcy]
    refine run_v ?_
    by_cases q : c.toNat * sz = 0
    · have hc1 : ((Array.range (c.toNat * sz)).map fun i => (#[] : Array Value)[i % (#[] : Array Value).size]!) = vs.toArray := by
        rw [← hvs]
        have hc0 : c.toNat = 0 := (Nat.mul_eq_zero.1 q).resolve_right (Nat.ne_of_gt T.spos)
        simp [hc0, Builtin.zeroCells]
      simp only [Instr.makeSlice, Sem.run_bind, run_underlying' T.slice, Result.andThen_ok, asInt, asIntOf, Sem.run_pure, hi, hib, hwl, hwc, hcond, Bool.false_eq_true, if_false, run_askRoom, run_sizeOf' T.size, if_pos q, newRow, run_newObj, hc1]
      rfl
    · have hc1 := zero_init z (sz := sz) (n := c.toNat) T.zsize q
      rw [hvs] at hc1
      simp only [Instr.makeSlice, Sem.run_bind, run_underlying' T.slice, Result.andThen_ok, asInt, asIntOf, Sem.run_pure, hi, hib, hwl, hwc, hcond, Bool.false_eq_true, if_false, run_askRoom, run_sizeOf' T.size, if_neg q, run_zeroValue' T.zero, newRow, run_newObj, hc1]
      rfl
  have L := Le.push C.F.inv C.F.notX (.cells vs.toArray e) (.row sz (List.replicate c.toNat (z.cells.toList.map ofC1)))
  refine Good.push C.bar C.F (.cells vs.toArray e) _ (fun sz' els' he => ?_) (fun es he => by cases he) ?_ hr
  · injection he with h4 h5
    subst h4 h5
    exact (K.mono L).row (heap_alloc_eq _) (fun j hj => by simp) (by simp) (.inl (Nat.le_refl _)) (fun j v hj => ho v (List.mem_of_getElem? (by simpa using hj))) ho
  · refine .hsl (by simp) (by omega) (fun B els' hB he => ?_) (fun B sz' els' hB he => ?_)
    · rw [up_same] at hB
      injection hB with hB
      subst hB
      simp only [List.getElem?_concat_length, Option.some.injEq, ABlk.row.injEq, true_and] at he
      subst he
      exact ⟨by rw [hlen]; exact Nat.le_refl _, fun _ => ⟨fun _ => by simp, rfl, _, e, (0, 0), heap_alloc_eq _, by have := K.len; rw [hlen] at this; simp [this]⟩⟩
    · rw [up_same] at hB
      injection hB with hB
      subst hB
      simp only [List.getElem?_concat_length, Option.some.injEq, ABlk.row.injEq] at he
      obtain ⟨_, rfl⟩ := he
      rw [hlen]; exact Nat.le_refl _

theorem op_len (C : Ctx P fm fmi ρ X PV bar s w a) {c : Call} (hb : c.callee = .builtin .len) {x : Operand} (ha : c.args = #[x]) {t : Nat} (ht : c.argTypes = #[t]) (hop : o.op = .call c)
    {arr : Option Nat} {k : TK} (hu : (∃ n e, P.underlying t = some (.array n e) ∧ arr = some n) ∨ (P.underlying t = some .string ∧ arr = none ∧ k = .str) ∨ (∃ e, P.underlying t = some (.slice e) ∧ arr = none ∧ k = .slice) ∨ (∃ a e, P.underlying t = some (.map a e) ∧ arr = none ∧ k = .map))
    {sx : SOpd} (hx : lOpd fmi x = some sx) (hv : aop call bar s (.len arr k sx) = some (v, s')) : Good fm ρ X PV bar s w a.tmps ((execOp a.eval o).run P w) v s' := by
  obtain ⟨hv1, rfl⟩ := St.pure_some hv
  clear hv
  simp only [Option.map_eq_some_iff] at hv1
  obtain ⟨n, hn, rfl⟩ := hv1
  have hxv := C.F.val C.hfm hx rfl
  have hbi : ∀ consts, builtin .len #[t] o.type consts ([x].map a.eval).toArray = (do pure (.value (← Builtin.len_ #[t] o.type #[a.eval x]))) := fun _ => rfl
  refine Good.same C.F (c := .int .i64 n) (lCall_builtin hb hop (args := [x]) ha ht hbi ?_) (VR.int _ _)
  generalize s.val sx = y at hxv hn
  generalize a.eval x = cx at hxv
  rcases hu with ⟨m, e, hu, rfl⟩ | ⟨hu, rfl, rfl⟩ | ⟨e, hu, rfl, rfl⟩ | ⟨k', e, hu, rfl, rfl⟩
  · simp only [alen, Option.some.injEq] at hn
    subst hn
    simp [Builtin.len_, run_underlying' hu, goInt]
  · simp only [alen] at hn
    split at hn <;> first | (cases hn; done) | skip
    all_goals first | (rename_i hq; cases hq; done) | skip
    injection hn with hn
    subst hn
    rename_i b _
    have hsz : (⟨b.toArray⟩ : ByteArray).size = b.length := by simp [ByteArray.size]
    cases hxv
    simp [Builtin.len_, run_underlying' hu, goInt, hsz]
  · simp only [alen] at hn
    split at hn <;> first | (cases hn; done) | skip
    all_goals first | (rename_i hq; cases hq; done) | skip
    all_goals
      injection hn with hn
      subst hn
      cases hxv
      simp [Builtin.len_, run_underlying' hu, goInt]
  · simp only [alen] at hn
    split at hn <;> first | (cases hn; done) | skip
    all_goals first | (rename_i hq; cases hq; done) | skip
    · injection hn with hn
      subst hn
      cases hxv
      simp [Builtin.len_, run_underlying' hu, goInt]
    · split at hn <;> first | (cases hn; done) | skip
      rename_i b _ _ es hes
      injection hn with hn
      subst hn
      obtain ⟨B, hB⟩ := C.F.inv.tot b (List.getElem?_eq_some_iff.1 hes).1
      obtain ⟨arr, clock, h1, h2, h3⟩ := C.F.inv.map b B es hB hes
      cases hxv with
      | @hmap _ r hb' ha' =>
        have e := ha' B es hB hes
        have hg : (getObj r).run P w = .ok (.map arr clock) w := by simp [getObj, Sem.run, e, h1]
        simp [Builtin.len_, run_underlying' hu, goInt, hg, h2]

theorem op_cap (C : Ctx P fm fmi ρ X PV bar s w a) {c : Call} (hb : c.callee = .builtin .cap) {x : Operand} (ha : c.args = #[x]) {t e : Nat} (ht : c.argTypes = #[t]) (hop : o.op = .call c)
    (hu : P.underlying t = some (.slice e)) {sx : SOpd} (hx : lOpd fmi x = some sx) (hv : aop call bar s (.cap sx) = some (v, s')) : Good fm ρ X PV bar s w a.tmps ((execOp a.eval o).run P w) v s' := by
  obtain ⟨hv1, rfl⟩ := St.pure_some hv
  clear hv
  simp only [Option.map_eq_some_iff] at hv1
  obtain ⟨n, hn, rfl⟩ := hv1
  have hxv := C.F.val C.hfm hx rfl
  have hbi : ∀ consts, builtin .cap #[t] o.type consts ([x].map a.eval).toArray = (do pure (.value (← Builtin.cap_ #[t] o.type #[a.eval x]))) := fun _ => rfl
  refine Good.same C.F (c := .int .i64 n) (lCall_builtin hb hop (args := [x]) ha ht hbi ?_) (VR.int _ _)
  generalize s.val sx = y at hxv hn
  generalize a.eval x = cx at hxv
  unfold acap at hn
  split at hn <;> first | (cases hn; done) | skip
  · injection hn with hn
    subst hn
    cases hxv
    simp [Builtin.cap_, run_underlying' hu, goInt]
  · injection hn with hn
    subst hn
    cases hxv with
    | isl vss hl hlc hcap =>
      simp only [capIs] at hcap
      subst hcap
      simp [Builtin.cap_, run_underlying' hu, goInt]
  · rename_i b bl i len sz c0
    simp only [Option.map_eq_some_iff] at hn
    obtain ⟨els, hr, rfl⟩ := hn
    obtain ⟨hrow, hbl⟩ := heapRow_some hr
    obtain ⟨B, hB⟩ := C.F.inv.tot b (List.getElem?_eq_some_iff.1 hrow).1
    cases hxv with
    | hsl hb' hlc ha' hs' =>
      obtain ⟨_, hA⟩ := ha' B els hB hrow
      obtain ⟨_, hcap, _⟩ := hA hbl
      simp only [capIs] at hcap
      subst hcap
      simp [Builtin.cap_, run_underlying' hu, goInt]

/-- a string that is ranged over: its iterator is the frame's own -/
theorem op_srange (C : Ctx P fm fmi ρ X PV bar s w a) {t d : Nat} {x : Operand} {sx : SOpd} (hx : lOpd fmi x = some sx) (hu : P.underlying t = some .string)
    (hop : o.op = .range t x) (hv : aop call bar s (.srange d sx) = some (v, s')) : Good fm ρ X PV bar s w a.tmps ((execOp a.eval o).run P w) v s' := by
  simp only [aop] at hv
  split at hv <;> first | (cases hv; done) | skip
  rename_i b hb
  have hxv := C.F.val C.hfm hx rfl
  rw [hb] at hxv
  have hcx : a.eval x = .string ⟨b.toArray⟩ := by generalize a.eval x = q at hxv; cases hxv; rfl
  refine Good.loc C.F d (.iter b 0) (.stringIter ⟨b.toArray⟩ 0) hv (heap_alloc_eq _) ?_
  simp only [execOp, hop, hcx]
  refine run_v ?_
  simp only [Instr.range, Sem.run_bind, run_underlying' hu, Result.andThen_ok, Sem.run_pure, run_newObj]
  rfl

theorem op_snext (C : Ctx P fm fmi ρ X PV bar s w a) {x : Operand} {sx : SOpd} (hx : lOpd fmi x = some sx)
    (hop : o.op = .next x true) (hv : aop call bar s (.snext sx) = some (v, s')) : Good fm ρ X PV bar s w a.tmps ((execOp a.eval o).run P w) v s' := by
  simp only [aop] at hv
  split at hv <;> first | (cases hv; done) | skip
  rename_i d hd
  split at hv <;> first | (cases hv; done) | skip
  rename_i b pos hlv
  have hA := C.F.raw C.hfm hx rfl
  rw [hd] at hA
  obtain ⟨B, hB, hcx⟩ := hA
  obtain ⟨B', hB', hit⟩ := C.F.vars d _ hlv
  rw [hB] at hB'
  injection hB' with hB'
  subst hB'
  have hit : w.heap[B]? = some (.stringIter ⟨b.toArray⟩ pos) := hit
  have hsz : (⟨b.toArray⟩ : ByteArray).size = b.length := by simp [ByteArray.size]
  have hg : (getObj B).run P w = .ok (.stringIter ⟨b.toArray⟩ pos) w := by simp [getObj, Sem.run, hit]
  by_cases hp : pos < b.length
  · rw [if_pos hp] at hv
    simp only [Option.some.injEq, Prod.mk.injEq] at hv
    obtain ⟨rfl, rfl⟩ := hv
    generalize hdec : Utf8.decode ⟨b.toArray⟩ pos = cw at *
    obtain ⟨ch, width⟩ := cw
    have hso : (setObj B (.stringIter ⟨b.toArray⟩ (pos + width))).run P w = .ok () { w with heap := w.heap.setIfInBounds B (.stringIter ⟨b.toArray⟩ (pos + width)) } := by simp [setObj, Sem.run, hit]
    have hlt : B < w.heap.size := (C.F.pv d B hB).2
    refine Good.setVar C.F (w' := { w with heap := w.heap.setIfInBounds B (.stringIter ⟨b.toArray⟩ (pos + width)) }) hB ⟨by simp, rfl, rfl, rfl, fun k hk => by simp [Array.getElem?_setIfInBounds, Ne.symm hk]⟩ (.iter b (pos + width)) ?_
      (nx := .value (.tuple #[.bool true, .int .i64 pos, .int .i32 ch])) (c := .tuple #[.bool true, .int .i64 pos, .int .i32 ch]) ?_ (.inl rfl) ?_
    · show (w.heap.setIfInBounds B _)[B]? = _
      simp [hlt]
    · simp only [execOp, hop, hcx]
      refine run_v ?_
      simp only [Instr.next, Sem.run_bind, hg, Result.andThen_ok, hsz, hp, if_true, hdec, hso, Sem.run_pure]
      rfl
    · refine VR.tup [.bool true, .int .i64 pos, .int .i32 ch] rfl (fun j x v hx hv => ?_)
      match j, hx, hv with
      | 0, hx, hv => simp at hx hv; subst hx hv; exact .bool _
      | 1, hx, hv => simp at hx hv; subst hx hv; exact .int _ _
      | 2, hx, hv => simp at hx hv; subst hx hv; exact .int _ _
      | j + 3, hx, hv => simp at hx
  · rw [if_neg hp] at hv
    simp only [Option.some.injEq, Prod.mk.injEq] at hv
    obtain ⟨rfl, rfl⟩ := hv
    refine Good.same C.F (c := .tuple #[.bool false]) ?_ ?_
    · simp only [execOp, hop, hcx]
      refine run_v ?_
      simp only [Instr.next, Sem.run_bind, hg, Result.andThen_ok, hsz, hp, if_false, Sem.run_pure]
    · refine VR.tup [.bool false] rfl (fun j x v hx hv => ?_)
      match j, hx, hv with
      | 0, hx, hv => simp at hx hv; subst hx hv; exact .bool _
      | j + 1, hx, hv => simp at hx

end
end Go.Ai
