/-
  FanEnds answers true for every input of bulk at most 1048576, and each argument reads behind the call as it read before: the row's package-level variables as the program's text lays them.
-/
import Derived.Test.YtmamikjllokmiaaGreatDoorAi09
import Derived.Test.YtmamikjllokmiaaGreatDoorCards
import Derived.Test.YtmamikjllokmiaaGreatDoorTie
import Derived.WalkKit
import Derived.ProofKit
import Derived.OpenShut
import Derived.Deep.DeepHandedRow
import Derived.JoinedCond
import Derived.Deep.DeepLaidRun
set_option linter.unusedVariables false
set_option linter.unusedSimpArgs false
set_option linter.unnecessarySimpa false

namespace Go.Proofs.YtmamikjllokmiaaGreatDoor.fanEnds
open Go.ChangeShapes Go.WideShapes Go.ChangeAt Go.RowKit Go.Ai
set_option linter.unusedVariables false

section
variable {H : Type} {enc : TypeId × Value → H}

theorem bulk_pos (d : DataW H) : 1 ≤ Rows.uptoBulk d := by
  cases d with
  | lit l => cases l <;> simp [Rows.uptoBulk]
  | _ => simp [Rows.uptoBulk]

def bk (H : Type) : Bulk H where
  one := Rows.uptoBulk
  all := Rows.uptoBulkAll
  str _ := rfl
  slice _ _ := rfl
  agg _ := rfl
  nil := rfl
  cons _ _ := rfl
  pos := bulk_pos

abbrev B0 : Nat := 1048576
abbrev RdT (enc : TypeId × Value → H) (t n : Nat) {α : Type} (E : α → List AV) : Prop := RdB enc Tryz.prog fmS (bk H) B0 t n E

theorem rString : RdT enc 9 1 (fun s : List UInt8 => [.str s]) := (rd_str Tryz.underlying9 (by kernel_rfl)).b
theorem rBool : RdT enc 4 1 (fun b : Bool => [.bool b]) := (rd_bool Tryz.underlying4 (by kernel_rfl)).b
theorem rU8 : RdT enc 5 1 (fun b : UInt8 => [.int .u8 (b.toNat : Int)]) := rdb_u8 Tryz.underlying5 (by kernel_rfl)
theorem rI64 : RdT enc 2 1 (fun n : Int => [.int .i64 n]) := (rd_int Tryz.underlying2 (by kernel_rfl)).b
theorem rI8 : RdT enc 50 1 (fun n : Int => [.int .i8 n]) := (rd_int Tryz.underlying50 (by kernel_rfl)).b
theorem rPair : RdT enc 76 2 encPr :=
  RdB.map (rdb_struct Tryz.underlying76 (by kernel_rfl) (rdbfs_cons rString rfl (rdbfs_cons rString rfl rdbfs_nil))) (fun x => (x.1, x.2.1)) (fun y => rfl) (fun x => rfl)
theorem rSet : RdT enc 38 1 (fun s : Slc Pr => [s.av encPr 2]) := rdb_slice Tryz.underlying38 (by kernel_rfl) (by decide) (by decide) rPair
theorem rEnt : RdT enc 40 3 encEnt :=
  RdB.map (rdb_struct Tryz.underlying40 (by kernel_rfl) (rdbfs_cons rI64 rfl (rdbfs_cons rSet rfl (rdbfs_cons rString rfl rdbfs_nil)))) (fun x => (⟨x.1, x.2.1, x.2.2.1⟩ : Ent)) (fun y => by simp) (fun x => rfl)
theorem rTag : RdT enc 130 4 encTag :=
  RdB.map (rdb_struct Tryz.underlying130 (by kernel_rfl) (rdbfs_cons rPair rfl (rdbfs_cons rBool rfl (rdbfs_cons rU8 rfl rdbfs_nil)))) (fun x => (⟨x.1, x.2.1, x.2.2.1⟩ : Tag)) (fun y => rfl) (fun x => rfl)
theorem rTags : RdT enc 51 1 (fun s : Slc Tag => [s.av encTag 4]) := rdb_slice Tryz.underlying51 (by kernel_rfl) (by decide) (by decide) rTag
theorem rItem : RdT enc 53 7 encItem :=
  RdB.map (rdb_struct Tryz.underlying53 (by kernel_rfl) (rdbfs_cons rEnt rfl (rdbfs_cons rBool rfl (rdbfs_cons rI8 rfl (rdbfs_cons rTags rfl (rdbfs_cons rU8 rfl rdbfs_nil)))))) (fun x => (⟨x.1, x.2.1, x.2.2.1, x.2.2.2.1, x.2.2.2.2.1⟩ : Go.Ai.Item)) (fun y => by simp) (fun x => rfl)
theorem rItems : RdT enc 22 1 (fun s : Slc Go.Ai.Item => [s.av encItem 7]) := rdb_slice Tryz.underlying22 (by kernel_rfl) (by decide) (by decide) rItem
end

theorem own : ownKnob Tryz.prog.godebug = none := by kernel_rfl
theorem laidOut : laidOutB Tryz.prog = true := by kernel_rfl

theorem readable : ∀ t ∈ Tryz.f3.params.toList, Tryz.prog.readableRec t = true ∧ t < Tryz.prog.types.size := by
  have h : (Tryz.f3.params.toList.all fun t => Tryz.prog.readableRec t && decide (t < Tryz.prog.types.size)) = true := by kernel_rfl
  intro t ht
  have := List.all_eq_true.1 h t ht
  simpa using this

/-- a value of one cell, read as a tree -/
theorem tree_of {H : Type} {enc : TypeId × Value → H} {t : TypeId} {α : Type} {F : α → AV} (R : RdT enc t 1 (fun x => [F x])) {W : World} {v : Value} {d : DataW H} {ps : List MemPlace} (hv : v.cells.toList = [v])
    (h : DataW.Trod enc Tryz.prog W 0 (fun _ => true) true t v d ps) (hb : Rows.uptoBulk d ≤ B0) : ∃ x, Tree fmS W (F x) v := by
  obtain ⟨fuel, hf⟩ := h
  rw [hv] at hf
  obtain ⟨x, hx, _⟩ := R.read fuel W _ d ps hf hb
  exact ⟨x, hx.2 0 _ _ rfl rfl⟩

theorem trees_cons {fm : Nat → Nat} {w : World} {a : AV} {v : Value} {xs : List AV} {vs : List Value} (h : Tree fm w a v) (hs : Trees fm w xs vs) : Trees fm w (a :: xs) (v :: vs) := by
  refine ⟨by simp [hs.1], fun j x y hx hy => ?_⟩
  cases j with
  | zero =>
    simp only [List.getElem?_cons_zero, Option.some.injEq] at hx hy
    subst hx hy
    exact h
  | succ j => exact hs.2 j x y (by simpa using hx) (by simpa using hy)
theorem trees_nil {fm : Nat → Nat} {w : World} : Trees fm w [] [] := ⟨rfl, by simp⟩

set_option maxRecDepth 100000 in
/-- WHAT THE WALK GIVES, FOR EVERY ARGUMENT OF SUCH A BULK -/
theorem contract (H : Type) (enc : TypeId × Value → H) (W : World) (base : Nat) (args : Array Value) (ds gs : List (DataW H)) (before : List MemPlace)
    (hval : ∀ (j : Nat) t v, Tryz.f3.params[j]? = some t → args[j]? = some v → Value.okWide Tryz.prog W .any base t v)
    (hW : DataW.Whole enc Tryz.prog Tryz.f3.params.toList Rows.fanEndsSpec.vars false W args.toList ds gs before) (hk : Rows.uptoSmall H (ds ++ gs) = true) :
    Calls Tryz.prog 3 args W fun e W' => ∃ v, e = .returned v ∧ Rows.fanEndsSpec.post enc Tryz.prog Tryz.f3 false true false false W args v W' := by
  have hW' := hW
  obtain ⟨p, q, hA0, hV, rfl, hfz, hnd⟩ := hW
  have hA : DataW.TrodAll enc Tryz.prog W 0 (fun _ => true) true Tryz.f3.params.toList args.toList ds p := hA0
  rw [Tryz.params3] at hA hval
  obtain ⟨v0, vs0, d0, ds0, p0, q0, hargs, rfl, rfl, h0, r0⟩ := trodAll_cons hA
  obtain ⟨v1, vs1, d1, ds1, p1, q1, rfl, rfl, rfl, h1, r1⟩ := trodAll_cons r0
  obtain ⟨v2, vs2, d2, ds2, p2, q2, rfl, rfl, rfl, h2, r2⟩ := trodAll_cons r1
  obtain ⟨v3, vs3, d3, ds3, p3, q3, rfl, rfl, rfl, h3, r3⟩ := trodAll_cons r2
  obtain ⟨v4, vs4, d4, ds4, p4, q4, rfl, rfl, rfl, h4, r4⟩ := trodAll_cons r3
  obtain ⟨rfl, rfl, rfl⟩ := trodAll_nil r4
  obtain rfl : args = #[v0, v1, v2, v3, v4] := by cases args; simp_all
  obtain ⟨rfl, rfl⟩ := trodVars_none hV
  have hb := of_decide_eq_true hk
  simp only [Rows.uptoBulkAll, List.append_nil] at hb
  have hB0 : B0 = 1048576 := rfl
  have c0 : v0.cells.toList = [v0] := by obtain ⟨a, l, c, rfl⟩ := okWide_slice Tryz.underlying22 (hval 0 22 v0 rfl rfl); rfl
  have c1 : v1.cells.toList = [v1] := by obtain ⟨a, l, c, rfl⟩ := okWide_slice Tryz.underlying22 (hval 1 22 v1 rfl rfl); rfl
  have c2 : v2.cells.toList = [v2] := by obtain ⟨n, rfl⟩ := okWide_int Tryz.underlying5 (hval 2 5 v2 rfl rfl); rfl
  have c3 : v3.cells.toList = [v3] := by obtain ⟨n, rfl⟩ := okWide_int Tryz.underlying5 (hval 3 5 v3 rfl rfl); rfl
  have c4 : v4.cells.toList = [v4] := by obtain ⟨n, rfl⟩ := okWide_bool Tryz.underlying4 (hval 4 4 v4 rfl rfl); rfl
  obtain ⟨s0, t0⟩ := tree_of rItems c0 h0 (by omega)
  obtain ⟨s1, t1⟩ := tree_of rItems c1 h1 (by omega)
  obtain ⟨b2, t2⟩ := tree_of rU8 c2 h2 (by omega)
  obtain ⟨b3, t3⟩ := tree_of rU8 c3 h3 (by omega)
  obtain ⟨asc, t4⟩ := tree_of rBool c4 h4 (by omega)
  have hT : Trees fmS W _ [v0, v1, v2, v3, v4] := trees_cons t0 (trees_cons t1 (trees_cons t2 (trees_cons t3 (trees_cons t4 trees_nil))))
  have key := call_bool progOK (sp1 0 s0 s1 b2 b3 asc) hT
  have hf : fmS 1 = 3 := by kernel_rfl
  rw [hf] at key
  refine key.mono fun e W' ⟨he, hbel⟩ => ?_
  subst he
  exact ⟨_, rfl, post_below laidOut readable rfl rfl rfl hW' (fun _ _ _ => trodAll_cons_mk (shut_bool Tryz.underlying4 _) trodAll_mk0) hbel (ok_one (by kernel_rfl) rfl (okWide_bool_mk Tryz.underlying4 _))⟩

/-! ### One start that fits: the listed variables as the program's text lays them -/
noncomputable def low : Nat := (World.holding Tryz.prog default ⟨#[], #[], []⟩).heap.size
def syntaxS : ByteArray := ⟨#[105, 110, 118, 97, 108, 105, 100, 32, 115, 121, 110, 116, 97, 120]⟩
def rangeS : ByteArray := ⟨#[118, 97, 108, 117, 101, 32, 111, 117, 116, 32, 111, 102, 32, 114, 97, 110, 103, 101]⟩
def cells32 : Array Value := #[.int .u8 0, .int .u8 1, .int .u8 28, .int .u8 2, .int .u8 29, .int .u8 14, .int .u8 24, .int .u8 3, .int .u8 30, .int .u8 22, .int .u8 20, .int .u8 15, .int .u8 25, .int .u8 17, .int .u8 4, .int .u8 8, .int .u8 31, .int .u8 27, .int .u8 13, .int .u8 23, .int .u8 21, .int .u8 19, .int .u8 16, .int .u8 7, .int .u8 26, .int .u8 12, .int .u8 18, .int .u8 6, .int .u8 11, .int .u8 5, .int .u8 10, .int .u8 9]
def cells64 : Array Value := #[.int .u8 0, .int .u8 1, .int .u8 56, .int .u8 2, .int .u8 57, .int .u8 49, .int .u8 28, .int .u8 3, .int .u8 61, .int .u8 58, .int .u8 42, .int .u8 50, .int .u8 38, .int .u8 29, .int .u8 17, .int .u8 4, .int .u8 62, .int .u8 47, .int .u8 59, .int .u8 36, .int .u8 45, .int .u8 43, .int .u8 51, .int .u8 22, .int .u8 53, .int .u8 39, .int .u8 33, .int .u8 30, .int .u8 24, .int .u8 18, .int .u8 12, .int .u8 5, .int .u8 63, .int .u8 55, .int .u8 48, .int .u8 27, .int .u8 60, .int .u8 41, .int .u8 37, .int .u8 16, .int .u8 46, .int .u8 35, .int .u8 44, .int .u8 21, .int .u8 52, .int .u8 32, .int .u8 23, .int .u8 11, .int .u8 54, .int .u8 26, .int .u8 40, .int .u8 15, .int .u8 34, .int .u8 20, .int .u8 31, .int .u8 10, .int .u8 25, .int .u8 14, .int .u8 19, .int .u8 9, .int .u8 13, .int .u8 8, .int .u8 7, .int .u8 6]
def cellsPow : Array Value := #[.int .u64 1, .int .u64 10, .int .u64 100, .int .u64 1000, .int .u64 10000, .int .u64 100000, .int .u64 1000000, .int .u64 10000000, .int .u64 100000000, .int .u64 1000000000, .int .u64 10000000000, .int .u64 100000000000, .int .u64 1000000000000, .int .u64 10000000000000, .int .u64 100000000000000, .int .u64 1000000000000000, .int .u64 10000000000000000, .int .u64 100000000000000000, .int .u64 1000000000000000000, .int .u64 10000000000000000000]
def put (h : Array Obj) (g : Nat) (cs : Array Value) : Array Obj := h.modify g fun
  | .cells _ t frozen => .cells cs t frozen
  | o => o
noncomputable def laidWorld (os : Os) : World :=
  let w0 := World.holding Tryz.prog os ⟨#[.cells #[.string syntaxS] 268, .cells #[.string rangeS] 268], #[], []⟩
  { w0 with heap := put (put (put (put (put w0.heap 1 #[.iface 266 (.pointer (some ⟨low, 0, none⟩))]) 2 #[.iface 266 (.pointer (some ⟨low + 1, 0, none⟩))]) 3 cellsPow) 4 cells32) 5 cells64 }
def args0 : Array Value := #[.slice none 0 0, .slice none 0 0, .int .u8 0, .int .u8 0, .bool false]
theorem laid_met (os : Os) : laidMet Tryz.prog Rows.fanEndsUptoRow.laid ((laidWorld os).forCall (fun _ _ => 0) ⟨#[], args0, []⟩).memory :=
  laidMet_of_run3 8 (by kernel_rfl) (by kernel_rfl) (by kernel_rfl)
theorem reads (os : Os) {H : Type} (enc : TypeId × Value → H) : ∃ places, DataW.whole enc Tryz.prog ((laidWorld os).forCall (fun _ _ => 0) ⟨#[], args0, []⟩).memory Tryz.f3.params.toList Rows.fanEndsSpec.vars false args0.toList 8 = some ([.nil, .nil, .lit (.int .u8 0), .lit (.int .u8 0), .lit (.bool false)], [], places) :=
  ⟨[], by kernel_rfl⟩

set_option maxRecDepth 100000 in
/-- THE SECOND FORM's STEP -/
theorem liftedUpto (os : Os) (started : os.Started) (H : Type) (enc : TypeId × Value → H) (F : Stop.Interp) :
    ReturnsInHanded {} Tryz.checked os 3 .any ((Rows.OpenSpec.upto Rows.fanEndsSpec).preRow enc Tryz.prog Tryz.f3 Rows.fanEndsUptoRow.domain false Rows.fanEndsUptoRow.laid) (((Rows.OpenSpec.upto Rows.fanEndsSpec).at F).post enc Tryz.prog Tryz.f3 false true false false) := by
  obtain ⟨places, hx⟩ := reads os enc
  refine returnsInHanded_of_row (C := Tryz.checked) (s := Rows.OpenSpec.upto Rows.fanEndsSpec) own started (by kernel_rfl) Tryz.func3
    (witness_row_at (enc := enc) (C := Tryz.checked) false (laidWorld os) args0 rfl (by kernel_rfl) (by kernel_rfl) (by kernel_rfl)
      (OpenSpec.preRow_of_cond 8 hx (by kernel_rfl) (fun k hk => by cases hk; kernel_rfl) (by kernel_rfl) (laid_met os))) ?_
  intro W base args ds gs before hval hW _ hcond _ hL _ _
  exact contract H enc W base args ds gs before hval hW (hcond _ rfl)

theorem saidUpto : Rows.FanEndsUptoSaid :=
  OpenClaim.holds_of_cond 3 Tryz.f3 rfl rfl rfl rfl rfl rfl rfl ⟨rfl, rfl, rfl, rfl, rfl⟩ rfl rfl rfl rfl rfl (by kernel_rfl) Tryz.func3 (by kernel_rfl)
    (of_decide_eq_true (by kernel_rfl)) (by unfold Func.isWrapper; first | (rw [if_pos (by decide +kernel)]; kernel_rfl) | (rw [if_neg (by decide +kernel)]; exact ⟨rfl, rfl⟩))
    (fun os started H enc _ F => by rw [OpenClaim.pre_eq_preRow]; exact liftedUpto os started H enc F)

/-- No parameter wants a stand-in; the program's own looks are off -/
theorem plain (f : FuncId) (fn : Func) (hf : Tryz.pinned.checked.prog.funcNamed "archivist/archivistlaw20.FanEnds" = some f) (hfn : Tryz.pinned.checked.prog.funcs[f]? = some fn) :
    true = Tryz.pinned.checked.prog.looks [] ∧ ∀ (j : Nat) t, fn.params[j]? = some t → Tryz.pinned.checked.prog.wantsStandIn t = false := by
  obtain rfl : f = 3 := Option.some.inj ((show Tryz.prog.funcNamed "archivist/archivistlaw20.FanEnds" = some 3 by kernel_rfl).symm.trans hf) |>.symm
  obtain rfl : fn = Tryz.f3 := (Option.some.inj (Tryz.func3.symm.trans hfn)).symm
  refine ⟨by kernel_rfl, fun j t ht => ?_⟩
  have h : (Tryz.f3.params.toList.all fun t => !Tryz.prog.wantsStandIn t) = true := by kernel_rfl
  have hm : t ∈ Tryz.f3.params.toList := by simpa using Array.mem_of_getElem? ht
  have := List.all_eq_true.1 h t hm
  exact (show Tryz.prog.wantsStandIn t = false by simpa using this)

/-- THE SECOND FORM's CARD -/
theorem cardUpto : Rows.FanEndsUptoCardSaid :=
  Claim7.holds_tied_plain_at .later [] _ _ _ _ saidUpto (fun _ h => by cases h) (by kernel_rfl) (fun _ h => by cases h) fanEndsUpto_row_tie rfl ⟨rfl, rfl⟩ (by kernel_rfl) rfl plain (by kernel_rfl)
end Go.Proofs.YtmamikjllokmiaaGreatDoor.fanEnds
namespace Go.Proofs.YtmamikjllokmiaaGreatDoor
theorem fanEnds_holds : Rows.FanEndsUptoCardSaid := fanEnds.cardUpto
end Go.Proofs.YtmamikjllokmiaaGreatDoor
