/- FnExactCallTextCard: for every input the law returns true, and each argument reads behind the call as it read before. No conditions. -/
/- A part of the proof: PvRw5. -/
import Derived.Test.YtjhnnagcebcedaaDoorRows
import Derived.Test.YtjhnnagcebcedaaDoorDec
import Derived.Test.YtjhnnagcebcedaaDoorShelf
import Derived.Test.YtjhnnagcebcedaaDoorTie
import Derived.Test.YtjhnnagcebcedaaDoorCards
import Derived.Lib.LaidTab
import Derived.LaidMore
import Derived.Stop.Joined
import Derived.SevenTiedAt
set_option linter.unusedSimpArgs false
set_option linter.unusedVariables false
/- FnExactCallText: the given statement. -/
namespace Go.Proofs.YtjhnnagcebcedaaDoor.FnExactCallTextRow
open Go.PV Go.PVx Go.Proofs Go.RowKit

theorem d3 : Dec Tryd.prog 3 eI (fun n => -9223372036854775808 ≤ n ∧ n ≤ 9223372036854775807) := decIr Tryd.underlying3
theorem d9 : Dec Tryd.prog 9 eS sS := decS Tryd.underlying9
theorem d22 : Dec Tryd.prog 22 ePa oP := decL Tryd.underlying22 d9
theorem d24 : Dec Tryd.prog 24 eC OC := decCall Tryd.underlying24 (by kernel_rfl) (by kernel_rfl) (by intro x hx; simp only [List.mem_cons, List.not_mem_nil, or_false] at hx; rcases hx with rfl | rfl | rfl | rfl | rfl <;> kernel_rfl) d3 d22 d9
theorem plain : plainB Tryd.prog [24, 3, 22, 9] = true := by kernel_rfl
theorem noExt (f : FuncId) (F : List AV → List PV.Obj → Option Res) (h : PVx.Y.ext f = some F) : ExtOk PVx.Y f F := by
  simp only [PVx.Y] at h
  unfold exts at h
  split at h
  · simp only [Option.some.injEq] at h
    subst h
    exact extItoa_ok (fn := Tryd.f24) Tryd.func24 rfl (by kernel_rfl) rfl (g := 1) (by kernel_rfl) rfl (fun n h0 h1 w ht => Tryd.strconv_Itoa n h0 h1 w ht)
  · simp only [Option.some.injEq] at h
    subst h
    exact extJoin_ok (fn := Tryd.f37) Tryd.func37 rfl (by kernel_rfl) rfl (fun a c sep w => Tryd.strings_Join_none a c sep w) (fun bk o c xs sep w h1 h2 h3 h4 h5 => Tryd.strings_Join bk o c xs sep w h1 h2 h3 h4 h5)
  · exact absurd h (by simp)
abbrev laid4 : List (String × DataW Unit) := [("math/bits.deBruijn32tab", Rows.laid_math_bits_deBruijn32tab), ("math/bits.deBruijn64tab", Rows.laid_math_bits_deBruijn64tab), ("internal/strconv.uint64pow10", Rows.laid_internal_strconv_uint64pow10), ("loop.example/changetrail/impl.callWords", Rows.laid_loop_example_changetrail_impl_callWords)]
theorem laidMet_tail {P : Program} {x : String × DataW Unit} {r : List (String × DataW Unit)} {w : World} (h : laidMet P (x :: r) w) : laidMet P r w := by
  obtain ⟨n, d⟩ := x
  obtain ⟨ps, ⟨g, t, cs, fuel, p, q, hg, ht, hv, hd, hr, rfl⟩, hn, hc⟩ := h
  exact ⟨q, hr, (List.nodup_append.1 hn).2.1, fun b off hb => hc b off (List.mem_append_right _ hb)⟩
theorem tab_ok {W : World} (h : laidMetH Tryd.prog laid4 W) : Lib.TabIs Tryd.prog W "internal/strconv.uint64pow10" .u64 Lib.pow10Tab := by
  rw [MakeChecks.laidMetH_plain _ _ _ (by kernel_rfl)] at h
  have h1 := laidMet_tail (laidMet_tail h)
  have e : (Rows.laid_internal_strconv_uint64pow10 : DataW Unit) = Lib.tabData .u64 Lib.pow10Tab := by kernel_rfl
  rw [e] at h1
  exact Lib.tabIs_of_head (g := 1) (t := 92) (e := 82) (n := 20) (by kernel_rfl) (by kernel_rfl) Tryd.underlying92 Tryd.underlying82 (by kernel_rfl) (by kernel_rfl) h1
def words : List ByteArray := [⟨#[]⟩, ⟨#[109, 107, 100, 105, 114]⟩, ⟨#[119, 114, 105, 116, 101]⟩, ⟨#[116, 114, 117, 110, 99, 97, 116, 101]⟩, ⟨#[114, 101, 109, 111, 118, 101]⟩, ⟨#[114, 101, 110, 97, 109, 101]⟩, ⟨#[99, 104, 109, 111, 100]⟩]
theorem words_ok {W : World} (h : laidMetH Tryd.prog laid4 W) : ∃ u ty e, W.heap[0]? = some (.cells #[u] ty e) ∧ Rel W (QSh noG) u (.s (words.map fun s => [.v (.string s)])) := by
  rw [MakeChecks.laidMetH_plain _ _ _ (by kernel_rfl)] at h
  have h1 := laidMet_tail (laidMet_tail (laidMet_tail h))
  have e : (Rows.laid_loop_example_changetrail_impl_callWords : DataW Unit) = .slice (words.map fun s => .lit (.string s.data.toList)) [] := by kernel_rfl
  rw [e] at h1
  obtain ⟨ps, ⟨g, t, cs, fuel, p, q, hg, ht, hv, hd, _, _⟩, _⟩ := h1
  obtain rfl := Option.some.inj ((show Tryd.prog.globalNamed "loop.example/changetrail/impl.callWords" = some 0 by kernel_rfl).symm.trans hg)
  obtain rfl := Option.some.inj ((show (Tryd.prog.globals[0]?).map (·.type) = some 22 by kernel_rfl).symm.trans ht)
  obtain ⟨u, hu, hr⟩ := texts_rel Tryd.underlying22 Tryd.underlying9 (by kernel_rfl) (by simp [words]) hd
  have hcs : cs = #[u] := by apply Array.ext'; simpa using hu
  unfold World.var? at hv
  rw [show Tryd.prog.globalNamed "loop.example/changetrail/impl.callWords" = some 0 from by kernel_rfl] at hv
  simp only [Option.bind_some] at hv
  split at hv
  · rename_i cs' ty e h3
    simp only [Option.some.injEq] at hv
    rw [hv, hcs] at h3
    exact ⟨u, ty, e, h3, hr⟩
  · exact absurd hv (by simp)
theorem globs {W : World} (h : laidMetH Tryd.prog laid4 W) : GlOk PVx.Y.gl W noG := by
  have ht := tab_ok h
  have hw := words_ok h
  intro g row hg
  have hg : (if 0 = g then some [D.s (words.map fun s => [.v (.string s)])] else if 1 = g then some (Lib.pow10Tab.map fun z => D.v (.int .u64 z)) else none) = some row := hg
  by_cases h0 : 0 = g
  · rw [if_pos h0] at hg
    subst h0
    obtain rfl := Option.some.inj hg
    obtain ⟨u, ty, e, h3, hr⟩ := hw
    refine ⟨fun _ => u, { spot := rfl, lt := (Array.getElem?_eq_some_iff.1 h3).1, blk := rfl, cell := fun c hc => ?_, rel := fun c hc => ?_ }, #[u], ty, e, h3, rfl⟩
    · have : c = 0 := by simpa using hc
      subst this
      simp only [World.cell?, h3]
      rfl
    · have : c = 0 := by simpa using hc
      subst this
      exact hr.mono fun _ _ h => h
  rw [if_neg h0] at hg
  by_cases h1 : 1 = g
  case neg => rw [if_neg h1] at hg; exact absurd hg (by simp)
  rw [if_pos h1] at hg
  subst h1
  obtain rfl := Option.some.inj hg
  have hh : ∃ cs ty e, W.heap[1]? = some (.cells cs ty e) ∧ cs = (Lib.pow10Tab.map fun z => Value.int .u64 z).toArray := by
    have h2 := ht
    unfold Lib.TabIs World.var? at h2
    rw [show Tryd.prog.globalNamed "internal/strconv.uint64pow10" = some 1 from by kernel_rfl] at h2
    simp only [Option.bind_some] at h2
    split at h2
    · rename_i cs ty e h3
      simp only [Option.some.injEq] at h2
      exact ⟨cs, ty, e, h3, h2⟩
    · exact absurd h2 (by simp)
  obtain ⟨cs, ty, e, h3, h4⟩ := hh
  refine ⟨fun c => .int .u64 (Lib.pow10Tab.getD c 0), { spot := rfl, lt := (Array.getElem?_eq_some_iff.1 h3).1, blk := rfl, cell := fun c hc => ?_, rel := fun c hc => ?_ }, cs, ty, e, h3, by rw [h4]; simp⟩
  · have hc' : c < Lib.pow10Tab.length := by simpa using hc
    rw [Nat.zero_add]
    exact ht.cell (by kernel_rfl) c hc'
  · have hc' : c < Lib.pow10Tab.length := by simpa using hc
    have e1 : (Lib.pow10Tab.map fun z => D.v (.int .u64 z))[c]'hc = D.v (.int .u64 (Lib.pow10Tab.getD c 0)) := by
      simp [List.getD_eq_getElem?_getD, hc']
    rw [e1]
    exact .v _ _
/-- The door's own heap meets the condition. -/
theorem door_met (os : Os) (args : Array Value) : laidMetH Tryd.prog laid4 ((World.doorLaid Tryd.prog 400 os).forCall (fun _ _ => 0) ⟨#[], args, []⟩).memory :=
  laidMetH_of_parts3 (fuel := 8) (laidMet_of_run' 8 (by kernel_rfl) (by kernel_rfl)) (by kernel_rfl) (by kernel_rfl)
theorem own : ownKnob Tryd.prog.godebug = none := by kernel_rfl
theorem laidOut : laidOutB Tryd.prog = true := by kernel_rfl
theorem law (xs : List AV) (hl : xs.length = [24].length) (ha : ∀ i (hi : i < xs.length), ArgD PVx.Y.P (([24] : List TypeId).getD i 0) (xs[i])) : lim' PVx.Y 3 xs [] = some ⟨[.v (.bool true)], []⟩ := by
    obtain ⟨x0, rfl⟩ := len1 hl
    obtain ⟨a0, h0, p0⟩ := argD d24 (ha 0 (by simp))
    rw [av_C (by kernel_rfl)] at h0
    simp only [List.getElem_cons_zero, List.getElem_cons_succ] at h0
    subst h0
    exact wFnExactCallText_ok a0 p0
set_option maxRecDepth 100000 in
theorem lifted (os : Os) (started : os.Started) (H : Type) (enc : TypeId × Value → H) :
    ReturnsInHanded {} Tryd.checked os 3 .any (fun w args => (Rows.fnExactCallTextSpec.pre enc Tryd.prog Tryd.f3 [] false w args ∧ laidMetH Tryd.prog laid4 w) ∧ sizedMet enc Tryd.prog Tryd.f3 (OpenSpec.ofChange Rows.fnExactCallTextSpec) false w args)
      (Rows.fnExactCallTextSpec.post enc Tryd.prog Tryd.f3 false true false false) := by
  refine returnsInHanded_of_change_and (C := Tryd.checked) (X := fun w _ => laidMetH Tryd.prog laid4 w) (fun _ _ _ hh h => h.of_heap hh) own started (by kernel_rfl) Tryd.func3
    (ChangeSpec.witness_shaped (enc := enc) (C := Tryd.checked) (os := os) (X := fun w _ => laidMetH Tryd.prog laid4 w) false (World.doorLaid Tryd.prog 400 os) #[.agg #[.int .i64 0, .slice none 0 0, .slice none 0 0, .int .i64 0, .string ⟨#[]⟩]] 8 rfl (World.shaped_of_RefB (by kernel_rfl) (by kernel_rfl)) (by kernel_rfl) (by kernel_rfl) (by kernel_rfl) (door_met os _)) ?_
  intro W base args ds gs before hval hW _ _ hL _
  refine contract_vars PVx.Y noExt (fn := Tryd.f3) (s := Rows.fnExactCallTextSpec) (ts := [24, 3, 22, 9]) (ts0 := [24]) (tb := 4) laidOut rfl plain (by simp) (fun t ht => ?_) rfl Tryd.underlying4 (by kernel_rfl) (fun ds gs hd hg => ?_) rfl law W (globs hL) base args ds gs before hval hW
  · simp only [List.mem_cons, List.not_mem_nil, or_false] at ht
    rcases ht with rfl <;> exact ⟨by kernel_rfl, of_decide_eq_true (by kernel_rfl)⟩
  · obtain ⟨e0, rfl⟩ := len1 hd
    obtain ⟨e1, rfl⟩ := len1 hg
    rfl
theorem over : Rows.fnExactCallTextRow.holds Tryd.pinned (OpenSpec.ofChange Rows.fnExactCallTextSpec) :=
  OpenClaim.holds_of_wide 3 Tryd.f3 rfl rfl rfl rfl rfl rfl rfl ⟨rfl, rfl, rfl, rfl, rfl⟩ rfl rfl rfl rfl rfl (by kernel_rfl) Tryd.func3 (by kernel_rfl)
    (of_decide_eq_true (by kernel_rfl)) (by unfold Func.isWrapper; first | (rw [if_pos (by decide +kernel)]; kernel_rfl) | (rw [if_neg (by decide +kernel)]; exact ⟨rfl, rfl⟩))
    (fun os started H enc _ => lifted os started H enc)
theorem proved : Rows.FnExactCallTextSaid := over
#print axioms proved
end Go.Proofs.YtjhnnagcebcedaaDoor.FnExactCallTextRow
namespace Go.Proofs.YtjhnnagcebcedaaDoor
/-- The row, under a short name, for the claim. -/
theorem fnExactCallText_holds : Rows.FnExactCallTextSaid := FnExactCallTextRow.proved
/-- The card. -/
theorem fnExactCallText_card : Rows.FnExactCallTextCardSaid :=
  Claim7.holds_tied_plain_at .later [] [.data, .data, .data, .widerDeep] true (true, "aaf1b509fca1d0eac42f23679b8ada1e9567053f0d5d6b1f093852021bb3ae58") false
    fnExactCallText_holds (fun _ h => by cases h) (by kernel_rfl) (fun _ h => by cases h) fnExactCallText_row_tie rfl ⟨rfl, rfl⟩ (by kernel_rfl) rfl
    (fun f fn hf hfn => by
      obtain rfl : f = 3 := Option.some.inj ((show Tryd.prog.funcNamed "loop.example/changetrail/laws.FnExactCallText" = some 3 by kernel_rfl).symm.trans hf) |>.symm
      obtain rfl : fn = Tryd.f3 := (Option.some.inj (Tryd.func3.symm.trans hfn)).symm
      exact ⟨by kernel_rfl, fun j t ht => by
        rw [show Tryd.f3.params = #[24] from rfl] at ht
        have hm : t ∈ [24] := by simpa using Array.mem_of_getElem? ht
        have hall : ([24].all fun u => !Tryd.prog.wantsStandIn u) = true := by kernel_rfl
        exact (show Tryd.prog.wantsStandIn t = false by simpa using List.all_eq_true.1 hall t hm)⟩)
    (by kernel_rfl)
#print axioms fnExactCallText_card
end Go.Proofs.YtjhnnagcebcedaaDoor
