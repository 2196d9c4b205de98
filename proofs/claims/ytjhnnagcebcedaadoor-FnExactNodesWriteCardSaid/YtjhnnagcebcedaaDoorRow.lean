/- FnExactNodesWriteCard: for every input the law returns true, and each argument reads behind the call as it read before. No conditions. -/
/- A part of the proof: PvRw6. -/
import Derived.Test.YtjhnnagcebcedaaDoorRows
import Derived.Test.YtjhnnagcebcedaaDoorDat
import Derived.Test.YtjhnnagcebcedaaDoorDec
import Derived.Test.YtjhnnagcebcedaaDoorShelf
import Derived.Test.YtjhnnagcebcedaaDoorTie
import Derived.Test.YtjhnnagcebcedaaDoorCards
import Derived.Lib.LaidTab
import Derived.LaidMore
import Derived.Stop.Joined
import Derived.SevenTiedAt
set_option linter.unusedSimpArgs false
set_option linter.unusedVariables false
/- FnExactNodesWrite: the given statement. -/
namespace Go.Proofs.YtjhnnagcebcedaaDoor.FnExactNodesWriteRow
open Go.PV Go.PVx Go.Proofs Go.RowKit

theorem d3 : Dec Tryd.prog 3 eI (fun _ => True) := decI Tryd.underlying3
theorem d9 : Dec Tryd.prog 9 eS sS := decS Tryd.underlying9
theorem d22 : Dec Tryd.prog 22 ePa oP := decL Tryd.underlying22 d9
theorem d64 : Dec Tryd.prog 64 eN (fun n => oP n.path) := decNodeOf Tryd.underlying64 (by kernel_rfl) (by kernel_rfl) (by intro x hx; simp only [List.mem_cons, List.not_mem_nil, or_false] at hx; rcases hx with rfl | rfl <;> kernel_rfl) d3 d22
theorem d31 : Dec Tryd.prog 31 (fun l => [.s (l.map eN)]) (sL (fun n => oP n.path)) := decL Tryd.underlying31 d64
theorem d33 : Dec Tryd.prog 33 eNs (fun n => sL (fun n => oP n.path) n.list) := decNodes Tryd.underlying33 (by kernel_rfl) (by kernel_rfl) (by intro x hx; simp only [List.mem_cons, List.not_mem_nil, or_false] at hx; rcases hx with rfl | rfl <;> kernel_rfl) d3 d31
theorem plain : plainB Tryd.prog [33, 3, 31, 64, 22, 9] = true := by kernel_rfl
theorem noExt (f : FuncId) (F : List AV → List PV.Obj → Option Res) (h : PVx.Y.ext f = some F) : ExtOk PVx.Y f F := by
  simp only [PVx.Y] at h
  unfold exts at h
  split at h
  · simp only [Option.some.injEq] at h
    subst h
    exact extItoa_ok (fn := Tryd.f24) Tryd.func24 rfl (by kernel_rfl) rfl (g := 1) (by kernel_rfl) rfl (fun n h0 h1 w ht => Tryd.strconv_Itoa n h0 h1 w ht)
  · simp only [Option.some.injEq] at h
    subst h
    exact extJoin_ok (fn := Tryd.f37) Tryd.func37 rfl (by kernel_rfl) rfl (fun a c sep w => Tryd.strings_Join_none a c sep w) (fun bk o c xs sep w h1 h2 h3 h4 h5 => Tryd.strings_Join bk o c xs sep w h1 h2 h3 h4 h5)
  · exact absurd h (by simp)
abbrev laid3 : List (String × DataW Unit) := [("math/bits.deBruijn32tab", Rows.laid_math_bits_deBruijn32tab), ("math/bits.deBruijn64tab", Rows.laid_math_bits_deBruijn64tab), ("internal/strconv.uint64pow10", Rows.laid_internal_strconv_uint64pow10)]
theorem laidMet_tail {P : Program} {x : String × DataW Unit} {r : List (String × DataW Unit)} {w : World} (h : laidMet P (x :: r) w) : laidMet P r w := by
  obtain ⟨n, d⟩ := x
  obtain ⟨ps, ⟨g, t, cs, fuel, p, q, hg, ht, hv, hd, hr, rfl⟩, hn, hc⟩ := h
  exact ⟨q, hr, (List.nodup_append.1 hn).2.1, fun b off hb => hc b off (List.mem_append_right _ hb)⟩
theorem tab_ok {W : World} (h : laidMetH Tryd.prog laid3 W) : Lib.TabIs Tryd.prog W "internal/strconv.uint64pow10" .u64 Lib.pow10Tab := by
  rw [MakeChecks.laidMetH_plain _ _ _ (by kernel_rfl)] at h
  have h1 := laidMet_tail (laidMet_tail h)
  have e : (Rows.laid_internal_strconv_uint64pow10 : DataW Unit) = Lib.tabData .u64 Lib.pow10Tab := by kernel_rfl
  rw [e] at h1
  exact Lib.tabIs_of_head (g := 1) (t := 92) (e := 82) (n := 20) (by kernel_rfl) (by kernel_rfl) Tryd.underlying92 Tryd.underlying82 (by kernel_rfl) (by kernel_rfl) h1
theorem globs {W : World} (h : laidMetH Tryd.prog laid3 W) : GlOk PVx.Y.gl W noG := by
  have ht := tab_ok h
  intro g row hg
  have hg : (if 1 = g then some (Lib.pow10Tab.map fun z => D.v (.int .u64 z)) else none) = some row := hg
  by_cases h1 : 1 = g
  case neg => rw [if_neg h1] at hg; exact absurd hg (by simp)
  rw [if_pos h1] at hg
  subst h1
  obtain rfl := Option.some.inj hg
  have hh : ∃ cs ty e, W.heap[1]? = some (.cells cs ty e) ∧ cs = (Lib.pow10Tab.map fun z => Value.int .u64 z).toArray := by
    have h2 := ht
    unfold Lib.TabIs World.var? at h2
    rw [show Tryd.prog.globalNamed "internal/strconv.uint64pow10" = some 1 from by kernel_rfl] at h2
    simp only [Option.bind_some] at h2
    split at h2
    · rename_i cs ty e h3
      simp only [Option.some.injEq] at h2
      exact ⟨cs, ty, e, h3, h2⟩
    · exact absurd h2 (by simp)
  obtain ⟨cs, ty, e, h3, h4⟩ := hh
  refine ⟨fun c => .int .u64 (Lib.pow10Tab.getD c 0), { spot := rfl, lt := (Array.getElem?_eq_some_iff.1 h3).1, blk := rfl, cell := fun c hc => ?_, rel := fun c hc => ?_ }, cs, ty, e, h3, by rw [h4]; simp⟩
  · have hc' : c < Lib.pow10Tab.length := by simpa using hc
    rw [Nat.zero_add]
    exact ht.cell (by kernel_rfl) c hc'
  · have hc' : c < Lib.pow10Tab.length := by simpa using hc
    have e1 : (Lib.pow10Tab.map fun z => D.v (.int .u64 z))[c]'hc = D.v (.int .u64 (Lib.pow10Tab.getD c 0)) := by
      simp [List.getD_eq_getElem?_getD, hc']
    rw [e1]
    exact .v _ _
/-- The door's own heap meets the condition. -/
theorem door_met (os : Os) (args : Array Value) : laidMetH Tryd.prog laid3 ((World.doorLaid Tryd.prog 400 os).forCall (fun _ _ => 0) ⟨#[], args, []⟩).memory :=
  laidMetH_of_parts3 (fuel := 8) (laidMet_of_run' 8 (by kernel_rfl) (by kernel_rfl)) (by kernel_rfl) (by kernel_rfl)
theorem own : ownKnob Tryd.prog.godebug = none := by kernel_rfl
theorem laidOut : laidOutB Tryd.prog = true := by kernel_rfl
theorem law (xs : List AV) (hl : xs.length = [33].length) (ha : ∀ i (hi : i < xs.length), ArgD PVx.Y.P (([33] : List TypeId).getD i 0) (xs[i])) : lim' PVx.Y 4 xs [] = some ⟨[.v (.bool true)], []⟩ := by
    obtain ⟨x0, rfl⟩ := len1 hl
    obtain ⟨a0, h0, p0⟩ := argD d33 (ha 0 (by simp))
    rw [av_Ns (by kernel_rfl)] at h0
    simp only [List.getElem_cons_zero, List.getElem_cons_succ] at h0
    subst h0
    exact wFnExactNodesWrite_ok a0 p0
set_option maxRecDepth 100000 in
theorem lifted (os : Os) (started : os.Started) (H : Type) (enc : TypeId × Value → H) :
    ReturnsInHanded {} Tryd.checked os 4 .any (fun w args => (Rows.fnExactNodesWriteSpec.pre enc Tryd.prog Tryd.f4 [] false w args ∧ laidMetH Tryd.prog laid3 w) ∧ sizedMet enc Tryd.prog Tryd.f4 (OpenSpec.ofChange Rows.fnExactNodesWriteSpec) false w args)
      (Rows.fnExactNodesWriteSpec.post enc Tryd.prog Tryd.f4 false true false false) := by
  refine returnsInHanded_of_change_and (C := Tryd.checked) (X := fun w _ => laidMetH Tryd.prog laid3 w) (fun _ _ _ hh h => h.of_heap hh) own started (by kernel_rfl) Tryd.func4
    (ChangeSpec.witness_shaped (enc := enc) (C := Tryd.checked) (os := os) (X := fun w _ => laidMetH Tryd.prog laid3 w) false (World.doorLaid Tryd.prog 400 os) #[.agg #[.int .i64 0, .slice none 0 0]] 8 rfl (World.shaped_of_RefB (by kernel_rfl) (by kernel_rfl)) (by kernel_rfl) (by kernel_rfl) (by kernel_rfl) (door_met os _)) ?_
  intro W base args ds gs before hval hW _ _ hL _
  refine contract_gl PVx.Y noExt (fn := Tryd.f4) (s := Rows.fnExactNodesWriteSpec) (ts := [33, 3, 31, 64, 22, 9]) (ts0 := [33]) (tb := 4) laidOut rfl plain (by simp) (fun t ht => ?_) rfl Tryd.underlying4 rfl (fun ds hd => ?_) rfl law W (globs hL) base args ds gs before hval hW
  · simp only [List.mem_cons, List.not_mem_nil, or_false] at ht
    rcases ht with rfl <;> exact ⟨by kernel_rfl, of_decide_eq_true (by kernel_rfl)⟩
  · obtain ⟨e0, rfl⟩ := len1 hd
    rfl
theorem over : Rows.fnExactNodesWriteRow.holds Tryd.pinned (OpenSpec.ofChange Rows.fnExactNodesWriteSpec) :=
  OpenClaim.holds_of_wide 4 Tryd.f4 rfl rfl rfl rfl rfl rfl rfl ⟨rfl, rfl, rfl, rfl, rfl⟩ rfl rfl rfl rfl rfl (by kernel_rfl) Tryd.func4 (by kernel_rfl)
    (of_decide_eq_true (by kernel_rfl)) (by unfold Func.isWrapper; first | (rw [if_pos (by decide +kernel)]; kernel_rfl) | (rw [if_neg (by decide +kernel)]; exact ⟨rfl, rfl⟩))
    (fun os started H enc _ => lifted os started H enc)
theorem proved : Rows.FnExactNodesWriteSaid := over
#print axioms proved
end Go.Proofs.YtjhnnagcebcedaaDoor.FnExactNodesWriteRow
namespace Go.Proofs.YtjhnnagcebcedaaDoor
/-- The row, under a short name, for the claim. -/
theorem fnExactNodesWrite_holds : Rows.FnExactNodesWriteSaid := FnExactNodesWriteRow.proved
/-- The card. -/
theorem fnExactNodesWrite_card : Rows.FnExactNodesWriteCardSaid :=
  Claim7.holds_tied_plain_at .later [] [.data, .data, .data] true (true, "aaf1b509fca1d0eac42f23679b8ada1e9567053f0d5d6b1f093852021bb3ae58") false
    fnExactNodesWrite_holds (fun _ h => by cases h) (by kernel_rfl) (fun _ h => by cases h) fnExactNodesWrite_row_tie rfl ⟨rfl, rfl⟩ (by kernel_rfl) rfl
    (fun f fn hf hfn => by
      obtain rfl : f = 4 := Option.some.inj ((show Tryd.prog.funcNamed "loop.example/changetrail/laws.FnExactNodesWrite" = some 4 by kernel_rfl).symm.trans hf) |>.symm
      obtain rfl : fn = Tryd.f4 := (Option.some.inj (Tryd.func4.symm.trans hfn)).symm
      exact ⟨by kernel_rfl, fun j t ht => by
        rw [show Tryd.f4.params = #[33] from rfl] at ht
        have hm : t ∈ [33] := by simpa using Array.mem_of_getElem? ht
        have hall : ([33].all fun u => !Tryd.prog.wantsStandIn u) = true := by kernel_rfl
        exact (show Tryd.prog.wantsStandIn t = false by simpa using List.all_eq_true.1 hall t hm)⟩)
    (by kernel_rfl)
#print axioms fnExactNodesWrite_card
end Go.Proofs.YtjhnnagcebcedaaDoor
