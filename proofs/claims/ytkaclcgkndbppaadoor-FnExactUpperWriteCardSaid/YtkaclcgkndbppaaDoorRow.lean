/- FnExactUpperWriteCard: for every input the law returns true, and each argument reads behind the call as it read before. No conditions. -/
/- A part of the proof: PvRw9. -/
import Derived.Test.YtkaclcgkndbppaaDoorRows
import Derived.Test.YtkaclcgkndbppaaDoorDat
import Derived.Test.YtkaclcgkndbppaaDoorDec
import Derived.Test.YtkaclcgkndbppaaDoorShelf
import Derived.Test.YtkaclcgkndbppaaDoorTie
import Derived.Test.YtkaclcgkndbppaaDoorCards
set_option linter.unusedSimpArgs false
set_option linter.unusedVariables false
/- FnExactUpperWrite: the given statement, its card. Own work, printed by a tool of this work (wip/pv/tool/gendoor.py). -/
namespace Go.Proofs.YtkaclcgkndbppaaDoor.FnExactUpperWriteRow
open Go.PV Go.PVx Go.Proofs Go.RowKit

theorem d9 : Dec Tryd.prog 9 eS sS := decS Tryd.underlying9
theorem d37 : Dec Tryd.prog 37 ePa oP := decL Tryd.underlying37 d9
theorem d22 : Dec Tryd.prog 22 (fun l => [.s (l.map ePa)]) (sL oP) := decL Tryd.underlying22 d37
theorem d3 : Dec Tryd.prog 3 eI (fun _ => True) := decI Tryd.underlying3
theorem d4 : Dec Tryd.prog 4 (fun b : Bool => [.v (.bool b)]) (fun _ => True) := decB Tryd.underlying4
theorem d65 : Dec Tryd.prog 65 eE OE := decEntry Tryd.underlying65 (by kernel_rfl) (by kernel_rfl) (by intro x hx; simp only [List.mem_cons, List.not_mem_nil, or_false] at hx; rcases hx with rfl | rfl | rfl | rfl | rfl <;> kernel_rfl) d37 d3 d4 d9
theorem d23 : Dec Tryd.prog 23 (fun l => [.s (l.map eE)]) (sL OE) := decL Tryd.underlying23 d65
theorem d25 : Dec Tryd.prog 25 eU OU := decUpper Tryd.underlying25 (by kernel_rfl) (by kernel_rfl) (by intro x hx; simp only [List.mem_cons, List.not_mem_nil, or_false] at hx; rcases hx with rfl | rfl <;> kernel_rfl) d22 d23
theorem plain : plainB Tryd.prog [25, 22, 37, 9, 23, 65, 3, 4] = true := by kernel_rfl
theorem noExt (f : FuncId) (F : List AV → List PV.Obj → Option Res) (h : PVx.Y.ext f = some F) : ExtOk PVx.Y f F := by
  simp only [PVx.Y] at h
  unfold exts at h
  split at h
  · simp only [Option.some.injEq] at h
    subst h
    exact extBWrite_ok Tryd.lays166 Tryd.Builder_Extra_166 rfl rfl rfl (fn := Tryd.f19) Tryd.func19 rfl (by kernel_rfl) rfl
  · simp only [Option.some.injEq] at h
    subst h
    exact extBLen_ok Tryd.lays170 rfl rfl rfl (fn := Tryd.f24) Tryd.func24 rfl (by kernel_rfl) rfl
  · simp only [Option.some.injEq] at h
    subst h
    exact extBString_ok Tryd.lays169 Tryd.Builder_Extra_169 rfl rfl rfl (fn := Tryd.f25) Tryd.func25 rfl (by kernel_rfl) rfl
  · simp only [Option.some.injEq] at h
    subst h
    exact extJoin_ok (fn := Tryd.f38) Tryd.func38 rfl (by kernel_rfl) rfl (fun a c sep w => Tryd.strings_Join_none a c sep w) (fun bk o c xs sep w h1 h2 h3 h4 h5 => Tryd.strings_Join bk o c xs sep w h1 h2 h3 h4 h5)
  · simp only [Option.some.injEq] at h
    subst h
    exact extItoa_ok (fn := Tryd.f39) Tryd.func39 rfl (by kernel_rfl) rfl (g := 1) (by kernel_rfl) rfl (fun n h0 h1 w ht => Tryd.strconv_Itoa n h0 h1 w ht)
  · exact absurd h (by simp)
abbrev laidV : List (String × DataW Unit) := [("math/bits.deBruijn32tab", Rows.laid_math_bits_deBruijn32tab), ("math/bits.deBruijn64tab", Rows.laid_math_bits_deBruijn64tab), ("internal/strconv.uint64pow10", Rows.laid_internal_strconv_uint64pow10)]
theorem tab_ok {W : World} (h : laidMet Tryd.prog laidV W) : Lib.TabIs Tryd.prog W "internal/strconv.uint64pow10" .u64 Lib.pow10Tab := by
  have h1 := (laidMet_tail (laidMet_tail h))
  have e : (Rows.laid_internal_strconv_uint64pow10 : DataW Unit) = Lib.tabData .u64 Lib.pow10Tab := by kernel_rfl
  rw [e] at h1
  exact Lib.tabIs_of_head (g := 1) (t := 88) (e := 81) (n := 20) (by kernel_rfl) (by kernel_rfl) Tryd.underlying88 Tryd.underlying81 (by kernel_rfl) (by kernel_rfl) h1
theorem globs {W : World} (hS : W.ShapedOpen Tryd.prog) (h : laidMetH Tryd.prog laidV W) : GlOk PVx.Y.gl W noG := by
  rw [MakeChecks.laidMetH_plain _ _ _ (by kernel_rfl)] at h
  have ht := tab_ok h
  intro g row hg
  have hg : (if 1 = g then some (Lib.pow10Tab.map fun z => D.v (.int .u64 z)) else none) = some row := hg
  by_cases h1 : 1 = g
  · rw [if_pos h1] at hg; subst h1; obtain rfl := Option.some.inj hg; exact pow_ok (by kernel_rfl) ht
  rw [if_neg h1] at hg
  exact absurd hg (by simp)

/-- A heap with these variables laid meets the condition. -/
theorem door_met (os : Os) (args : Array Value) : laidMetH Tryd.prog laidV ((World.laidAll Tryd.prog os laidV).forCall (fun _ _ => 0) ⟨#[], args, []⟩).memory := by
  rw [MakeChecks.laidMetH_plain _ _ _ (by kernel_rfl)]; exact laidMet_laidAll _ (by kernel_rfl) (by kernel_rfl)
theorem own : ownKnob Tryd.prog.godebug = none := by kernel_rfl
theorem laidOut : laidOutB Tryd.prog = true := by kernel_rfl
theorem law (xs : List AV) (hl : xs.length = [25].length) (ha : ∀ i (hi : i < xs.length), ArgD PVx.Y.P (([25] : List TypeId).getD i 0) (xs[i])) : lim' PVx.Y 3 xs [] = some ⟨[.v (.bool true)], []⟩ := by
    obtain ⟨x0, rfl⟩ := len1 hl
    obtain ⟨a0, h0, p0⟩ := argD d25 (ha 0 (by simp))
    rw [av_U (by kernel_rfl)] at h0
    simp only [List.getElem_cons_zero, List.getElem_cons_succ] at h0
    subst h0
    exact wFnExactUpperWrite_ok a0 p0
set_option maxRecDepth 100000 in
theorem lifted (os : Os) (started : os.Started) (H : Type) (enc : TypeId × Value → H) :
    ReturnsInHanded {} Tryd.checked os 3 .any (fun w args => (Rows.fnExactUpperWriteSpec.pre enc Tryd.prog Tryd.f3 [] false w args ∧ laidMetH Tryd.prog laidV w) ∧ sizedMet enc Tryd.prog Tryd.f3 (OpenSpec.ofChange Rows.fnExactUpperWriteSpec) false w args)
      (Rows.fnExactUpperWriteSpec.post enc Tryd.prog Tryd.f3 false true false false) := by
  refine wrap_shaped (C := Tryd.checked) (X := fun w _ => laidMetH Tryd.prog laidV w) (fun _ _ _ hh h => h.of_heap hh) own started (by kernel_rfl) Tryd.func3
    (ChangeSpec.witness_shaped (enc := enc) (C := Tryd.checked) (os := os) (X := fun w _ => laidMetH Tryd.prog laidV w) false (World.laidAll Tryd.prog os laidV) #[.agg #[.slice none 0 0, .slice none 0 0]] 8 (World.laidAll_os _ _ _) (World.shaped_of_ZipB (by kernel_rfl) (by kernel_rfl)) (by kernel_rfl) (by kernel_rfl) (by kernel_rfl) (door_met os _)) ?_
  intro W base args ds gs before hval hW hS hL
  refine contract_gl PVx.Y noExt (fn := Tryd.f3) (s := Rows.fnExactUpperWriteSpec) (ts := [25, 22, 37, 9, 23, 65, 3, 4]) (ts0 := [25]) (tb := 4) laidOut rfl plain (by simp) (fun t ht => ?_) rfl Tryd.underlying4 rfl (fun ds hd => ?_) rfl law W (globs hS hL) base args ds gs before hval hW
  · simp only [List.mem_cons, List.not_mem_nil, or_false] at ht
    rcases ht with rfl <;> exact ⟨by kernel_rfl, of_decide_eq_true (by kernel_rfl)⟩
  · obtain ⟨e0, rfl⟩ := len1 hd
    rfl
theorem over : Rows.fnExactUpperWriteRow.holds Tryd.pinned (OpenSpec.ofChange Rows.fnExactUpperWriteSpec) :=
  OpenClaim.holds_of_wide 3 Tryd.f3 rfl rfl rfl rfl rfl rfl rfl ⟨rfl, rfl, rfl, rfl, rfl⟩ rfl rfl rfl rfl rfl (by kernel_rfl) Tryd.func3 (by kernel_rfl)
    (of_decide_eq_true (by kernel_rfl)) (by unfold Func.isWrapper; first | (rw [if_pos (by decide +kernel)]; kernel_rfl) | (rw [if_neg (by decide +kernel)]; exact ⟨rfl, rfl⟩))
    (fun os started H enc _ => lifted os started H enc)
theorem proved : Rows.FnExactUpperWriteSaid := over
#print axioms proved
end Go.Proofs.YtkaclcgkndbppaaDoor.FnExactUpperWriteRow
namespace Go.Proofs.YtkaclcgkndbppaaDoor
/-- The row, under a short name, for the claim. -/
theorem fnExactUpperWrite_holds : Rows.FnExactUpperWriteSaid := FnExactUpperWriteRow.proved
/-- The card. -/
theorem fnExactUpperWrite_card : Rows.FnExactUpperWriteCardSaid :=
  Claim7.holds_tied_plain_at .later [] [.data, .data, .data] true (true, "e4bfc83216873f257d66b863be8616ddd3a7f595a017da1820f2bfbbd112df55") false
    fnExactUpperWrite_holds (fun _ h => by cases h) (by kernel_rfl) (fun _ h => by cases h) fnExactUpperWrite_row_tie rfl ⟨rfl, rfl⟩ (by kernel_rfl) rfl
    (fun f fn hf hfn => by
      obtain rfl : f = 3 := Option.some.inj ((show Tryd.prog.funcNamed "loop.example/changetrail/laws.FnExactUpperWrite" = some 3 by kernel_rfl).symm.trans hf) |>.symm
      obtain rfl : fn = Tryd.f3 := (Option.some.inj (Tryd.func3.symm.trans hfn)).symm
      exact ⟨by kernel_rfl, fun j t ht => by
        rw [show Tryd.f3.params = #[25] from rfl] at ht
        have hm : t ∈ [25] := by simpa using Array.mem_of_getElem? ht
        have hall : ([25].all fun u => !Tryd.prog.wantsStandIn u) = true := by kernel_rfl
        exact (show Tryd.prog.wantsStandIn t = false by simpa using List.all_eq_true.1 hall t hm)⟩)
    (by kernel_rfl)
#print axioms fnExactUpperWrite_card
end Go.Proofs.YtkaclcgkndbppaaDoor
