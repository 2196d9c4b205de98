/- FnExactTableNamesCard: for every input the law returns true, and each argument reads behind the call as it read before. No conditions. -/
/- A part of the proof: PvRwG. -/
import Derived.Test.YtkaclcgkndbppaaGreatDoorRows
import Derived.Test.YtkaclcgkndbppaaGreatDoorFac
import Derived.Test.YtkaclcgkndbppaaGreatDoorTup
import Derived.Test.YtkaclcgkndbppaaGreatDoorDec
import Derived.Test.YtkaclcgkndbppaaGreatDoorShelf
import Derived.Test.YtkaclcgkndbppaaGreatDoorTie
import Derived.Test.YtkaclcgkndbppaaGreatDoorCards
set_option linter.unusedSimpArgs false
set_option linter.unusedVariables false
namespace Go.Proofs.YtkaclcgkndbppaaGreatDoor.FnExactTableNamesRow
open Go.PV Go.PVx Go.Proofs Go.RowKit
theorem d9 : Dec Tryz.prog 9 eS sS := decS Tryz.underlying9
theorem d23 : Dec Tryz.prog 23 ePa oP := decL Tryz.underlying23 d9
theorem d4 : Dec Tryz.prog 4 (fun b : Bool => [.v (.bool b)]) (fun _ => True) := decB Tryz.underlying4
theorem d3 : Dec Tryz.prog 3 eI (fun _ => True) := decI Tryz.underlying3
theorem d85 : Dec Tryz.prog 85 eR OR := decRow Tryz.underlying85 (by kernel_rfl) (by kernel_rfl) (by intro x hx; simp only [List.mem_cons, List.not_mem_nil, or_false] at hx; rcases hx with rfl | rfl | rfl | rfl | rfl <;> kernel_rfl) d23 d4 d3 d9
theorem d22 : Dec Tryz.prog 22 (fun l => [.s (l.map eR)]) (sL OR) := decL Tryz.underlying22 d85
theorem plain : plainB Tryz.prog [22, 85, 23, 9, 4, 3] = true := by kernel_rfl
theorem noExt (f : FuncId) (F : List AV → List PV.Obj → Option Res) (h : PVx.Y.ext f = some F) : ExtOk PVx.Y f F := by
 simp only [PVx.Y] at h
 unfold exts at h
 split at h
 · simp only [Option.some.injEq] at h
   subst h
   exact zeU (fn := Tryz.f131) zqa (by decide) rfl Tryz.func131 (by kernel_rfl) rfl rfl
 · simp only [Option.some.injEq] at h
   subst h
   exact zeU (fn := Tryz.f132) zqb (by decide) rfl Tryz.func132 (by kernel_rfl) rfl rfl
 · simp only [Option.some.injEq] at h
   subst h
   exact zjx Tryz.lays166 Tryz.Builder_Extra_166 rfl rfl rfl (fn := Tryz.f156) Tryz.func156 rfl (by kernel_rfl) rfl
 · simp only [Option.some.injEq] at h
   subst h
   exact zik Tryz.lays169 Tryz.Builder_Extra_169 rfl rfl rfl (fn := Tryz.f162) Tryz.func162 rfl (by kernel_rfl) rfl
 · simp only [Option.some.injEq] at h
   subst h
   exact zlM (fn := Tryz.f201) Tryz.func201 rfl (by kernel_rfl) rfl (fun a c sep w => Tryz.strings_Join_none a c sep w) (fun bk o c xs sep w h1 h2 h3 h4 h5 => Tryz.strings_Join bk o c xs sep w h1 h2 h3 h4 h5)
 · simp only [Option.some.injEq] at h
   subst h
   exact zlN (fn := Tryz.f202) Tryz.func202 rfl (by kernel_rfl) rfl (g := 5) (by kernel_rfl) rfl (fun n h0 h1 w ht => Tryz.strconv_Itoa n h0 h1 w ht)
 · exact absurd h (by simp)
abbrev laidV : List (String × DataW Unit) := [("math/bits.deBruijn32tab", Rows.laid_math_bits_deBruijn32tab), ("math/bits.deBruijn64tab", Rows.laid_math_bits_deBruijn64tab), ("internal/strconv.uint64pow10", Rows.laid_internal_strconv_uint64pow10)]
theorem tab_ok {W : World} (h : laidMet Tryz.prog laidV W) : Lib.TabIs Tryz.prog W "internal/strconv.uint64pow10" .u64 Lib.pow10Tab := by
 have h1 := (zfO (zfO h))
 have e : (Rows.laid_internal_strconv_uint64pow10 : DataW Unit) = Lib.tabData .u64 Lib.pow10Tab := by kernel_rfl
 rw [e] at h1
 exact Lib.tabIs_of_head (g := 5) (t := 269) (e := 240) (n := 20) (by kernel_rfl) (by kernel_rfl) Tryz.underlying269 Tryz.underlying240 (by kernel_rfl) (by kernel_rfl) h1
theorem globs {W : World} (hS : W.ShapedOpen Tryz.prog) (h : laidMetH Tryz.prog laidV W) : GlOk PVx.Y.gl W noG := by
 rw [MakeChecks.laidMetH_plain _ _ _ (by kernel_rfl)] at h
 have ht := tab_ok h
 intro g row hg
 have hg : (if 5 = g then some (Lib.pow10Tab.map fun z => D.v (.int .u64 z)) else none) = some row := hg
 by_cases h5 : 5 = g
 · rw [if_pos h5] at hg; subst h5; obtain rfl := Option.some.inj hg; exact pow_ok (by kernel_rfl) ht
 rw [if_neg h5] at hg
 exact absurd hg (by simp)
theorem door_met (os : Os) (args : Array Value) : laidMetH Tryz.prog laidV ((World.laidAll Tryz.prog os laidV).forCall (fun _ _ => 0) ⟨#[], args, []⟩).memory := by
 rw [MakeChecks.laidMetH_plain _ _ _ (by kernel_rfl)]; exact laidMet_laidAll _ (by kernel_rfl) (by kernel_rfl)
theorem own : ownKnob Tryz.prog.godebug = none := by kernel_rfl
theorem law (xs : List AV) (hl : xs.length = [22, 23].length) (ha : ∀ i (hi : i < xs.length), ArgD PVx.Y.P (([22, 23] : List TypeId).getD i 0) (xs[i])) : lim' PVx.Y 6 xs [] = some ⟨[.v (.bool true)], []⟩ := by
 obtain ⟨x0, x1, rfl⟩ := len2 hl
 obtain ⟨a0, h0, p0⟩ := argD d22 (ha 0 (by simp))
 rw [av_Rs (by kernel_rfl)] at h0
 simp only [List.getElem_cons_zero, List.getElem_cons_succ] at h0
 subst h0
 obtain ⟨a1, h1, p1⟩ := argD d23 (ha 1 (by simp))
 rw [av_P (by kernel_rfl)] at h1
 simp only [List.getElem_cons_zero, List.getElem_cons_succ] at h1
 subst h1
 exact zd5 a0 a1 p0 p1
set_option maxRecDepth 100000 in
theorem lifted (os : Os) (started : os.Started) (H : Type) (enc : TypeId × Value → H) :
 ReturnsInHanded {} Tryz.checked os 6 .any (fun w args => (Rows.fnExactTableNamesSpec.pre enc Tryz.prog Tryz.f6 [] false w args ∧ laidMetH Tryz.prog laidV w) ∧ sizedMet enc Tryz.prog Tryz.f6 (OpenSpec.ofChange Rows.fnExactTableNamesSpec) false w args)
  (Rows.fnExactTableNamesSpec.post enc Tryz.prog Tryz.f6 false true false false) := by
 refine zkF (C := Tryz.checked) (X := fun w _ => laidMetH Tryz.prog laidV w) (fun _ _ _ hh h => h.of_heap hh) own started (by kernel_rfl) Tryz.func6
  (ChangeSpec.witness_shaped (enc := enc) (C := Tryz.checked) (os := os) (X := fun w _ => laidMetH Tryz.prog laidV w) false (World.laidAll Tryz.prog os laidV) #[.slice none 0 0, .slice none 0 0] 8 (World.laidAll_os _ _ _) (World.shaped_of_ZipB (by kernel_rfl) (by kernel_rfl)) (by kernel_rfl) (by kernel_rfl) (by kernel_rfl) (door_met os _)) ?_
 intro W base args ds gs before hval hW hS hL
 refine zkE PVx.Y noExt (fn := Tryz.f6) (s := Rows.fnExactTableNamesSpec) (ts := [22, 85, 23, 9, 4, 3]) (ts0 := [22, 23]) (tb := 4) laidOut rfl plain (by simp) (fun t ht => ?_) rfl Tryz.underlying4 rfl (fun ds hd => ?_) rfl law W (globs hS hL) base args ds gs before hval hW
 · simp only [List.mem_cons, List.not_mem_nil, or_false] at ht
   rcases ht with rfl | rfl <;> exact ⟨by kernel_rfl, of_decide_eq_true (by kernel_rfl)⟩
 · obtain ⟨e0, e1, rfl⟩ := len2 hd
   rfl
theorem closed : joinedFacts Tryz.prog 6 Tryz.f6 Rows.fnExactTableNamesSpec Rows.fnExactTableNamesRow = true := by
 unfold joinedFacts
 rw [laidOut, jIn, jUn, jRec, jNam, jHeard, jEnter, jLift]
 kernel_rfl
theorem over : Rows.fnExactTableNamesRow.holds Tryz.pinned (OpenSpec.ofChange Rows.fnExactTableNamesSpec) :=
 OpenClaim.holds_of_wide 6 Tryz.f6 rfl rfl rfl rfl rfl rfl rfl ⟨rfl, rfl, rfl, rfl, rfl⟩ rfl rfl rfl rfl rfl (by kernel_rfl) Tryz.func6 closed
  (of_decide_eq_true (by kernel_rfl)) (by unfold Func.isWrapper; first | (rw [if_pos (by decide +kernel)]; kernel_rfl) | (rw [if_neg (by decide +kernel)]; exact ⟨rfl, rfl⟩))
  (fun os started H enc _ => lifted os started H enc)
theorem proved : Rows.FnExactTableNamesSaid := over
#print axioms proved
end Go.Proofs.YtkaclcgkndbppaaGreatDoor.FnExactTableNamesRow
namespace Go.Proofs.YtkaclcgkndbppaaGreatDoor
theorem fnExactTableNames_holds : Rows.FnExactTableNamesSaid := FnExactTableNamesRow.proved
theorem fnExactTableNames_card : Rows.FnExactTableNamesCardSaid :=
 Claim7.holds_tied_plain_at .later [] [.data, .data, .data] true (true, "ffb01ca496a09db2b1b3895006490a1d3d63eb52096a2cb9c4e5289293e77ba8") true
  fnExactTableNames_holds (fun _ h => by cases h) (by kernel_rfl) (fun _ h => by cases h) fnExactTableNames_row_tie rfl ⟨rfl, rfl⟩ (by kernel_rfl) rfl
  (fun f fn hf hfn => by
    obtain rfl : f = 6 := Option.some.inj ((show Tryz.prog.funcNamed "loop.example/changetrail/laws.FnExactTableNames" = some 6 by kernel_rfl).symm.trans hf) |>.symm
    obtain rfl : fn = Tryz.f6 := (Option.some.inj (Tryz.func6.symm.trans hfn)).symm
    exact ⟨FnExactTableNamesRow.looksAt, fun j t ht => by
     rw [show Tryz.f6.params = #[22, 23] from rfl] at ht
     have hm : t ∈ [22, 23] := by simpa using Array.mem_of_getElem? ht
     have hall : ([22, 23].all fun u => !Tryz.prog.wantsStandIn u) = true := by kernel_rfl
     exact (show Tryz.prog.wantsStandIn t = false by simpa using List.all_eq_true.1 hall t hm)⟩)
  FnExactTableNamesRow.goesAt
#print axioms fnExactTableNames_card
end Go.Proofs.YtkaclcgkndbppaaGreatDoor
