/- FnExactStateNewCard: for every input the law returns true, and each argument reads behind the call as it read before. No conditions. -/
/- A part of the proof: PvRwH. -/
import Derived.Test.YtkaclcgkndbppaaGreatDoorRows
import Derived.Test.YtkaclcgkndbppaaGreatDoorFac
import Derived.Test.YtkaclcgkndbppaaGreatDoorTup
import Derived.Test.YtkaclcgkndbppaaGreatDoorDec
import Derived.Test.YtkaclcgkndbppaaGreatDoorShelf
import Derived.Test.YtkaclcgkndbppaaGreatDoorTie
import Derived.Test.YtkaclcgkndbppaaGreatDoorCards
set_option linter.unusedSimpArgs false
set_option linter.unusedVariables false
namespace Go.Proofs.YtkaclcgkndbppaaGreatDoor.FnExactStateNewRow
open Go.PV Go.PVx Go.Proofs Go.RowKit
theorem d4 : Dec Tryz.prog 4 (fun b : Bool => [.v (.bool b)]) (fun _ => True) := decB Tryz.underlying4
theorem d3 : Dec Tryz.prog 3 eI (fun _ => True) := decI Tryz.underlying3
theorem d9 : Dec Tryz.prog 9 eS sS := decS Tryz.underlying9
theorem d23 : Dec Tryz.prog 23 ePa oP := decL Tryz.underlying23 d9
theorem d47 : Dec Tryz.prog 47 eT oT := zpb Tryz.underlying47 (by kernel_rfl) (by kernel_rfl) (by intro x hx; simp only [List.mem_cons, List.not_mem_nil, or_false] at hx; rcases hx with rfl | rfl | rfl | rfl | rfl <;> kernel_rfl) d4 d3 d9 d23 Tryz.underlying45
theorem plain : plainB Tryz.prog [47, 4, 3, 9, 23, 45] = true := by kernel_rfl
theorem noExt (f : FuncId) (F : List AV → List PV.Obj → Option Res) (h : PVx.Y.ext f = some F) : ExtOk PVx.Y f F := by
 simp only [PVx.Y] at h
 unfold exts at h
 split at h
 · simp only [Option.some.injEq] at h
   subst h
   exact zja Tryz.lays166 Tryz.Builder_Extra_166 rfl rfl rfl (fn := Tryz.f156) Tryz.func156 rfl (by kernel_rfl) rfl
 · simp only [Option.some.injEq] at h
   subst h
   exact zhW Tryz.lays169 Tryz.Builder_Extra_169 rfl rfl rfl (fn := Tryz.f162) Tryz.func162 rfl (by kernel_rfl) rfl
 · simp only [Option.some.injEq] at h
   subst h
   exact zll (fn := Tryz.f201) Tryz.func201 rfl (by kernel_rfl) rfl (fun a c sep w => Tryz.strings_Join_none a c sep w) (fun bk o c xs sep w h1 h2 h3 h4 h5 => Tryz.strings_Join bk o c xs sep w h1 h2 h3 h4 h5)
 · simp only [Option.some.injEq] at h
   subst h
   exact zlm (fn := Tryz.f202) Tryz.func202 rfl (by kernel_rfl) rfl (g := 5) (by kernel_rfl) rfl (fun n h0 h1 w ht => Tryz.strconv_Itoa n h0 h1 w ht)
 · exact absurd h (by simp)
abbrev laidV : List (String × DataW Unit) := [("math/bits.deBruijn32tab", Rows.laid_math_bits_deBruijn32tab), ("math/bits.deBruijn64tab", Rows.laid_math_bits_deBruijn64tab), ("internal/strconv.uint64pow10", Rows.laid_internal_strconv_uint64pow10)]
theorem tab_ok {W : World} (h : laidMet Tryz.prog laidV W) : Lib.TabIs Tryz.prog W "internal/strconv.uint64pow10" .u64 Lib.pow10Tab := by
 have h1 := (zfD (zfD h))
 have e : (Rows.laid_internal_strconv_uint64pow10 : DataW Unit) = Lib.tabData .u64 Lib.pow10Tab := by kernel_rfl
 rw [e] at h1
 exact Lib.tabIs_of_head (g := 5) (t := 269) (e := 240) (n := 20) (by kernel_rfl) (by kernel_rfl) Tryz.underlying269 Tryz.underlying240 (by kernel_rfl) (by kernel_rfl) h1
theorem globs {W : World} (hS : W.ShapedOpen Tryz.prog) (h : laidMetH Tryz.prog laidV W) : GlOk PVx.Y.gl W noG := by
 rw [MakeChecks.laidMetH_plain _ _ _ (by kernel_rfl)] at h
 have ht := tab_ok h
 intro g row hg
 have hg : (if 5 = g then some (Lib.pow10Tab.map fun z => D.v (.int .u64 z)) else none) = some row := hg
 by_cases h5 : 5 = g
 · rw [if_pos h5] at hg; subst h5; obtain rfl := Option.some.inj hg; exact pow_ok (by kernel_rfl) ht
 rw [if_neg h5] at hg
 exact absurd hg (by simp)
theorem door_met (os : Os) (args : Array Value) : laidMetH Tryz.prog laidV ((World.laidAll Tryz.prog os laidV).forCall (fun _ _ => 0) ⟨#[], args, []⟩).memory := by
 rw [MakeChecks.laidMetH_plain _ _ _ (by kernel_rfl)]; exact laidMet_laidAll _ (by kernel_rfl) (by kernel_rfl)
theorem own : ownKnob Tryz.prog.godebug = none := by kernel_rfl
theorem law (xs : List AV) (hl : xs.length = [47].length) (ha : ∀ i (hi : i < xs.length), ArgD PVx.Y.P (([47] : List TypeId).getD i 0) (xs[i])) : lim' PVx.Y 7 xs [] = some ⟨[.v (.bool true)], []⟩ := by
 obtain ⟨x0, rfl⟩ := len1 hl
 obtain ⟨a0, h0, p0⟩ := argD d47 (ha 0 (by simp))
 rw [av_T (by kernel_rfl)] at h0
 simp only [List.getElem_cons_zero, List.getElem_cons_succ] at h0
 subst h0
 exact zeE a0 p0
set_option maxRecDepth 100000 in
theorem lifted (os : Os) (started : os.Started) (H : Type) (enc : TypeId × Value → H) :
 ReturnsInHanded {} Tryz.checked os 7 .any (fun w args => (Rows.fnExactStateNewSpec.pre enc Tryz.prog Tryz.f7 [] false w args ∧ laidMetH Tryz.prog laidV w) ∧ sizedMet enc Tryz.prog Tryz.f7 (OpenSpec.ofChange Rows.fnExactStateNewSpec) false w args)
  (Rows.fnExactStateNewSpec.post enc Tryz.prog Tryz.f7 false true false false) := by
 refine zkh (C := Tryz.checked) (X := fun w _ => laidMetH Tryz.prog laidV w) (fun _ _ _ hh h => h.of_heap hh) own started (by kernel_rfl) Tryz.func7
  (ChangeSpec.witness_shaped (enc := enc) (C := Tryz.checked) (os := os) (X := fun w _ => laidMetH Tryz.prog laidV w) false (World.laidAll Tryz.prog os laidV) #[.agg #[.bool false, .int .i64 0, .string ⟨#[]⟩, .slice none 0 0, .slice none 0 0]] 8 (World.laidAll_os _ _ _) (World.shaped_of_ZipB (by kernel_rfl) (by kernel_rfl)) (by kernel_rfl) (by kernel_rfl) (by kernel_rfl) (door_met os _)) ?_
 intro W base args ds gs before hval hW hS hL
 refine zkg PVx.Y noExt (fn := Tryz.f7) (s := Rows.fnExactStateNewSpec) (ts := [47, 4, 3, 9, 23, 45]) (ts0 := [47]) (tb := 4) laidOut rfl plain (by simp) (fun t ht => ?_) rfl Tryz.underlying4 rfl (fun ds hd => ?_) rfl law W (globs hS hL) base args ds gs before hval hW
 · simp only [List.mem_cons, List.not_mem_nil, or_false] at ht
   rcases ht with rfl <;> exact ⟨by kernel_rfl, of_decide_eq_true (by kernel_rfl)⟩
 · obtain ⟨e0, rfl⟩ := len1 hd
   rfl
theorem closed : joinedFacts Tryz.prog 7 Tryz.f7 Rows.fnExactStateNewSpec Rows.fnExactStateNewRow = true := by
 unfold joinedFacts
 rw [laidOut, jIn, jUn, jRec, jNam, jHeard, jEnter, jLift]
 kernel_rfl
theorem over : Rows.fnExactStateNewRow.holds Tryz.pinned (OpenSpec.ofChange Rows.fnExactStateNewSpec) :=
 OpenClaim.holds_of_wide 7 Tryz.f7 rfl rfl rfl rfl rfl rfl rfl ⟨rfl, rfl, rfl, rfl, rfl⟩ rfl rfl rfl rfl rfl (by kernel_rfl) Tryz.func7 closed
  (of_decide_eq_true (by kernel_rfl)) (by unfold Func.isWrapper; first | (rw [if_pos (by decide +kernel)]; kernel_rfl) | (rw [if_neg (by decide +kernel)]; exact ⟨rfl, rfl⟩))
  (fun os started H enc _ => lifted os started H enc)
theorem proved : Rows.FnExactStateNewSaid := over
#print axioms proved
end Go.Proofs.YtkaclcgkndbppaaGreatDoor.FnExactStateNewRow
namespace Go.Proofs.YtkaclcgkndbppaaGreatDoor
theorem fnExactStateNew_holds : Rows.FnExactStateNewSaid := FnExactStateNewRow.proved
theorem fnExactStateNew_card : Rows.FnExactStateNewCardSaid :=
 Claim7.holds_tied_plain_at .later [] [.data, .data, .data] true (true, "ffb01ca496a09db2b1b3895006490a1d3d63eb52096a2cb9c4e5289293e77ba8") true
  fnExactStateNew_holds (fun _ h => by cases h) (by kernel_rfl) (fun _ h => by cases h) fnExactStateNew_row_tie rfl ⟨rfl, rfl⟩ (by kernel_rfl) rfl
  (fun f fn hf hfn => by
    obtain rfl : f = 7 := Option.some.inj ((show Tryz.prog.funcNamed "loop.example/changetrail/laws.FnExactStateNew" = some 7 by kernel_rfl).symm.trans hf) |>.symm
    obtain rfl : fn = Tryz.f7 := (Option.some.inj (Tryz.func7.symm.trans hfn)).symm
    exact ⟨FnExactStateNewRow.looksAt, fun j t ht => by
     rw [show Tryz.f7.params = #[47] from rfl] at ht
     have hm : t ∈ [47] := by simpa using Array.mem_of_getElem? ht
     have hall : ([47].all fun u => !Tryz.prog.wantsStandIn u) = true := by kernel_rfl
     exact (show Tryz.prog.wantsStandIn t = false by simpa using List.all_eq_true.1 hall t hm)⟩)
  FnExactStateNewRow.goesAt
#print axioms fnExactStateNew_card
end Go.Proofs.YtkaclcgkndbppaaGreatDoor
