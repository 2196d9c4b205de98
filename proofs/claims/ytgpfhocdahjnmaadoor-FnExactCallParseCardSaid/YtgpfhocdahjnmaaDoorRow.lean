/- FnExactCallParseCard: for every input the law returns true, and each argument reads behind the call as it read before. No conditions. -/
/- A part of the proof: PvRw8. -/
import Derived.Test.YtgpfhocdahjnmaaDoorRows
import Derived.Test.YtgpfhocdahjnmaaDoorDat
import Derived.Test.YtgpfhocdahjnmaaDoorDec
import Derived.Test.YtgpfhocdahjnmaaDoorShelf
import Derived.Test.YtgpfhocdahjnmaaDoorTie
import Derived.Test.YtgpfhocdahjnmaaDoorCards
import Derived.Shelf.Strconv.AtoiAll
set_option linter.unusedSimpArgs false
set_option linter.unusedVariables false
/- FnExactCallParse: the given statement, its card. Own work, printed by a tool of this work (wip/pv/tool/gendoor.py). -/
namespace Go.Proofs.YtgpfhocdahjnmaaDoor.FnExactCallParseRow
open Go.PV Go.PVx Go.Proofs Go.RowKit

theorem d9 : Dec Tryd.prog 9 eS sS := decS Tryd.underlying9
theorem plain : plainB Tryd.prog [9] = true := by kernel_rfl
theorem noExt (f : FuncId) (F : List AV → List PV.Obj → Option Res) (h : PVx.Y.ext f = some F) : ExtOk PVx.Y f F := by
  simp only [PVx.Y] at h
  unfold exts at h
  split at h
  · simp only [Option.some.injEq] at h
    subst h
    exact extSplit_ok (fn := Tryd.f32) Tryd.func32 rfl (by kernel_rfl) rfl (g := 1) rfl (fun s sep m w h0 h1 h2 => Tryd.strings_Split s sep m w h0 h1 h2)
  · simp only [Option.some.injEq] at h
    subst h
    exact extAtoi_ok (fn := Tryd.f46) Tryd.func46 rfl (by kernel_rfl) rfl (g1 := 2) (g2 := 3) rfl rfl (bt := 5) (fun s v h0 h1 w => Any.strconv_Atoi_ok Tryd.laysC172 s h0 v h1 w)
      (fun s h0 ha hb ev w h2 h3 => (Any.strconv_Atoi_syntax Tryd.laysC172 s h0 (by
        cases hx : Lib.atoiAll s.data.toList with
        | ok v => exact absurd hx (ha v)
        | range => exact absurd hx hb
        | _ => rfl) ev w h2 h3).mono fun e w' ⟨N, he, _, _, hB⟩ => ⟨_, he, hB⟩)
      (fun s h0 h1 ev w h2 h3 => (Any.strconv_Atoi_range Tryd.laysC172 s h0 h1 ev w h2 h3).mono fun e w' ⟨N, he, _, _, hB⟩ => ⟨_, he, hB⟩)
  · simp only [Option.some.injEq] at h
    subst h
    exact extTrimPrefix_ok (fn := Tryd.f47) Tryd.func47 rfl (by kernel_rfl) rfl (fun s p w => Tryd.strings_TrimPrefix s p w)
  · simp only [Option.some.injEq] at h
    subst h
    exact extItoa_ok (fn := Tryd.f49) Tryd.func49 rfl (by kernel_rfl) rfl (g := 4) (by kernel_rfl) rfl (fun n h0 h1 w ht => Tryd.strconv_Itoa n h0 h1 w ht)
  · simp only [Option.some.injEq] at h
    subst h
    exact extJoin_ok (fn := Tryd.f69) Tryd.func69 rfl (by kernel_rfl) rfl (fun a c sep w => Tryd.strings_Join_none a c sep w) (fun bk o c xs sep w h1 h2 h3 h4 h5 => Tryd.strings_Join bk o c xs sep w h1 h2 h3 h4 h5)
  · exact absurd h (by simp)
abbrev laidV : List (String × DataW Unit) := [("math/bits.deBruijn32tab", Rows.laid_math_bits_deBruijn32tab), ("math/bits.deBruijn64tab", Rows.laid_math_bits_deBruijn64tab), ("internal/strconv.uint64pow10", Rows.laid_internal_strconv_uint64pow10), ("unicode/utf8.acceptRanges", Rows.laid_unicode_utf8_acceptRanges), ("strconv.ErrRange", Rows.laid_strconv_ErrRange), ("strconv.ErrSyntax", Rows.laid_strconv_ErrSyntax), ("loop.example/changetrail/impl.callWords", Rows.laid_loop_example_changetrail_impl_callWords), ("unicode/utf8.first", Rows.laid_unicode_utf8_first)]
theorem star : "*" ++ "errors.errorString" = "*errors.errorString" := by decide
theorem rowErr (u : TypeId) (h : Tryd.prog.typeName? 3 u = some "*errors.errorString") : u = 116 :=
  typeName_ptr_named (nm := "errors.errorString") (by rw [star]; kernel_rfl) (by kernel_rfl) (by decide) u (by rw [star]; exact h)
theorem err_ok {W : World} {n : String} {g : Nat} {text : List UInt8} {r : List (String × DataW Unit)} (h : laidMet Tryd.prog ((n, .iface "*errors.errorString" (.ptr (.agg [.lit (.string text)]))) :: r) W) (hg : Tryd.prog.globalNamed n = some g) (ht : (Tryd.prog.globals[g]?).map (·.type) = some 65) :
    ∃ x ty e, W.heap[g]? = some (.cells #[x] ty e) ∧ ukOk true x := by
  obtain ⟨a0, s0, hv, -⟩ := laid_sentinel h hg ht Tryd.underlying65 rowErr Tryd.underlying116 Tryd.underlying118 rfl rfl Tryd.underlying9 (by kernel_rfl) (by kernel_rfl)
  unfold World.var? at hv
  rw [hg] at hv
  simp only [Option.bind_some] at hv
  split at hv
  · rename_i cs' ty e h3
    simp only [Option.some.injEq] at hv
    rw [hv] at h3
    exact ⟨_, ty, e, h3, .inr ⟨_, _, rfl⟩⟩
  · exact absurd hv (by simp)
def words : List ByteArray := [⟨#[]⟩, ⟨#[109, 107, 100, 105, 114]⟩, ⟨#[119, 114, 105, 116, 101]⟩, ⟨#[116, 114, 117, 110, 99, 97, 116, 101]⟩, ⟨#[114, 101, 109, 111, 118, 101]⟩, ⟨#[114, 101, 110, 97, 109, 101]⟩, ⟨#[99, 104, 109, 111, 100]⟩]
theorem words_ok {W : World} (h : laidMet Tryd.prog laidV W) : ∃ u ty e, W.heap[0]? = some (.cells #[u] ty e) ∧ Rel W (QSh noG) u (.s (words.map fun s => [.v (.string s)])) := by
  have h1 := (laidMet_tail (laidMet_tail (laidMet_tail (laidMet_tail (laidMet_tail (laidMet_tail h))))))
  have e : (Rows.laid_loop_example_changetrail_impl_callWords : DataW Unit) = .slice (words.map fun s => .lit (.string s.data.toList)) [] := by kernel_rfl
  rw [e] at h1
  obtain ⟨ps, ⟨g, t, cs, fuel, p, q, hg, ht, hv, hd, _, _⟩, _⟩ := h1
  obtain rfl := Option.some.inj ((show Tryd.prog.globalNamed "loop.example/changetrail/impl.callWords" = some 0 by kernel_rfl).symm.trans hg)
  obtain rfl := Option.some.inj ((show (Tryd.prog.globals[0]?).map (·.type) = some 30 by kernel_rfl).symm.trans ht)
  obtain ⟨u, hu, hr⟩ := texts_rel Tryd.underlying30 Tryd.underlying9 (by kernel_rfl) (by simp [words]) hd
  have hcs : cs = #[u] := by apply Array.ext'; simpa using hu
  unfold World.var? at hv
  rw [show Tryd.prog.globalNamed "loop.example/changetrail/impl.callWords" = some 0 from by kernel_rfl] at hv
  simp only [Option.bind_some] at hv
  split at hv
  · rename_i cs' ty e h3
    simp only [Option.some.injEq] at hv
    rw [hv, hcs] at h3
    exact ⟨u, ty, e, h3, hr⟩
  · exact absurd hv (by simp)
theorem max_ok {W : World} (h : W.ShapedOpen Tryd.prog) : ∃ x ty e, W.heap[1]? = some (.cells #[x] ty e) ∧ ukOk false x := by
  obtain ⟨m, hm⟩ := Go.Proofs.cell_of_shapedOpen_int (g := 1) (zero := #[.int .i64 0]) (t := 3) h (of_decide_eq_true (by kernel_rfl)) (by kernel_rfl) rfl (by kernel_rfl) (by kernel_rfl) Tryd.underlying3
  obtain ⟨cs, hh, hs, _⟩ := h.1 1 #[.int .i64 0] 3 (of_decide_eq_true (by kernel_rfl)) (by kernel_rfl)
  obtain ⟨l⟩ := cs
  match l, hs with
  | [x], _ =>
    have : W.cell? ⟨1, 0, none⟩ = some x := by simp only [World.cell?, hh]; rfl
    rw [hm] at this
    exact ⟨x, 3, _, hh, m, (Option.some.inj this).symm⟩
theorem tab_ok {W : World} (h : laidMet Tryd.prog laidV W) : Lib.TabIs Tryd.prog W "internal/strconv.uint64pow10" .u64 Lib.pow10Tab := by
  have h1 := (laidMet_tail (laidMet_tail h))
  have e : (Rows.laid_internal_strconv_uint64pow10 : DataW Unit) = Lib.tabData .u64 Lib.pow10Tab := by kernel_rfl
  rw [e] at h1
  exact Lib.tabIs_of_head (g := 4) (t := 120) (e := 103) (n := 20) (by kernel_rfl) (by kernel_rfl) Tryd.underlying120 Tryd.underlying103 (by kernel_rfl) (by kernel_rfl) h1
theorem globs {W : World} (hS : W.ShapedOpen Tryd.prog) (h : laidMetH Tryd.prog laidV W) : GlOk PVx.Y.gl W noG := by
  rw [MakeChecks.laidMetH_plain _ _ _ (by kernel_rfl)] at h
  have hw := words_ok h
  have h_1 := max_ok hS
  have h_2 := err_ok (g := 2) (laidMet_tail (laidMet_tail (laidMet_tail (laidMet_tail (laidMet_tail h))))) (by kernel_rfl) (by kernel_rfl)
  have h_3 := err_ok (g := 3) (laidMet_tail (laidMet_tail (laidMet_tail (laidMet_tail h)))) (by kernel_rfl) (by kernel_rfl)
  have ht := tab_ok h
  intro g row hg
  have hg : (if 0 = g then some [D.s (words.map fun s => [.v (.string s)])] else if 1 = g then some [D.u false] else if 2 = g then some [D.u true] else if 3 = g then some [D.u true] else if 4 = g then some (Lib.pow10Tab.map fun z => D.v (.int .u64 z)) else none) = some row := hg
  by_cases h0 : 0 = g
  · rw [if_pos h0] at hg; subst h0; obtain rfl := Option.some.inj hg; exact texts_ok hw
  rw [if_neg h0] at hg
  by_cases h1 : 1 = g
  · rw [if_pos h1] at hg; subst h1; obtain rfl := Option.some.inj hg; exact one_ok h_1
  rw [if_neg h1] at hg
  by_cases h2 : 2 = g
  · rw [if_pos h2] at hg; subst h2; obtain rfl := Option.some.inj hg; exact one_ok h_2
  rw [if_neg h2] at hg
  by_cases h3 : 3 = g
  · rw [if_pos h3] at hg; subst h3; obtain rfl := Option.some.inj hg; exact one_ok h_3
  rw [if_neg h3] at hg
  by_cases h4 : 4 = g
  · rw [if_pos h4] at hg; subst h4; obtain rfl := Option.some.inj hg; exact pow_ok (by kernel_rfl) ht
  rw [if_neg h4] at hg
  exact absurd hg (by simp)

/-- A heap with these variables laid meets the condition. -/
theorem door_met (os : Os) (args : Array Value) : laidMetH Tryd.prog laidV ((World.laidAll Tryd.prog os laidV).forCall (fun _ _ => 0) ⟨#[], args, []⟩).memory := by
  rw [MakeChecks.laidMetH_plain _ _ _ (by kernel_rfl)]; exact laidMet_laidAll _ (by kernel_rfl) (by kernel_rfl)
theorem own : ownKnob Tryd.prog.godebug = none := by kernel_rfl
theorem laidOut : laidOutB Tryd.prog = true := by kernel_rfl
theorem law (xs : List AV) (hl : xs.length = [9].length) (ha : ∀ i (hi : i < xs.length), ArgD PVx.Y.P (([9] : List TypeId).getD i 0) (xs[i])) : lim' PVx.Y 4 xs [] = some ⟨[.v (.bool true)], []⟩ := by
    obtain ⟨x0, rfl⟩ := len1 hl
    obtain ⟨a0, h0, p0⟩ := argD d9 (ha 0 (by simp))
    rw [av_S (by kernel_rfl)] at h0
    simp only [List.getElem_cons_zero, List.getElem_cons_succ] at h0
    subst h0
    exact wFnExactCallParse_ok a0
set_option maxRecDepth 100000 in
theorem lifted (os : Os) (started : os.Started) (H : Type) (enc : TypeId × Value → H) :
    ReturnsInHanded {} Tryd.checked os 4 .any (fun w args => (Rows.fnExactCallParseSpec.pre enc Tryd.prog Tryd.f4 [] false w args ∧ laidMetH Tryd.prog laidV w) ∧ sizedMet enc Tryd.prog Tryd.f4 (OpenSpec.ofChange Rows.fnExactCallParseSpec) false w args)
      (Rows.fnExactCallParseSpec.post enc Tryd.prog Tryd.f4 false true false false) := by
  refine wrap_shaped (C := Tryd.checked) (X := fun w _ => laidMetH Tryd.prog laidV w) (fun _ _ _ hh h => h.of_heap hh) own started (by kernel_rfl) Tryd.func4
    (ChangeSpec.witness_shaped (enc := enc) (C := Tryd.checked) (os := os) (X := fun w _ => laidMetH Tryd.prog laidV w) false (World.laidAll Tryd.prog os laidV) #[.string ⟨#[]⟩] 8 (World.laidAll_os _ _ _) (World.shaped_of_ZipB (by kernel_rfl) (by kernel_rfl)) (by kernel_rfl) (by kernel_rfl) (by kernel_rfl) (door_met os _)) ?_
  intro W base args ds gs before hval hW hS hL
  refine contract_vars PVx.Y noExt (fn := Tryd.f4) (s := Rows.fnExactCallParseSpec) (ts := [9]) (ts0 := [9]) (tb := 4) laidOut rfl plain (by simp) (fun t ht => ?_) rfl Tryd.underlying4 (by kernel_rfl) (fun ds gs hd hg => ?_) rfl law W (globs hS hL) base args ds gs before hval hW
  · simp only [List.mem_cons, List.not_mem_nil, or_false] at ht
    rcases ht with rfl <;> exact ⟨by kernel_rfl, of_decide_eq_true (by kernel_rfl)⟩
  · obtain ⟨e0, rfl⟩ := len1 hd
    obtain ⟨v0, rfl⟩ := len1 hg
    rfl
theorem over : Rows.fnExactCallParseRow.holds Tryd.pinned (OpenSpec.ofChange Rows.fnExactCallParseSpec) :=
  OpenClaim.holds_of_wide 4 Tryd.f4 rfl rfl rfl rfl rfl rfl rfl ⟨rfl, rfl, rfl, rfl, rfl⟩ rfl rfl rfl rfl rfl (by kernel_rfl) Tryd.func4 (by kernel_rfl)
    (of_decide_eq_true (by kernel_rfl)) (by unfold Func.isWrapper; first | (rw [if_pos (by decide +kernel)]; kernel_rfl) | (rw [if_neg (by decide +kernel)]; exact ⟨rfl, rfl⟩))
    (fun os started H enc _ => lifted os started H enc)
theorem proved : Rows.FnExactCallParseSaid := over
#print axioms proved
end Go.Proofs.YtgpfhocdahjnmaaDoor.FnExactCallParseRow
namespace Go.Proofs.YtgpfhocdahjnmaaDoor
/-- The row, under a short name, for the claim. -/
theorem fnExactCallParse_holds : Rows.FnExactCallParseSaid := FnExactCallParseRow.proved
/-- The card. -/
theorem fnExactCallParse_card : Rows.FnExactCallParseCardSaid :=
  Claim7.holds_tied_plain_at .later [] [.data, .data, .data, .data, .sentinel, .sentinel, .widerDeep, .pinned] true (true, "a444d36a72607b48c7a60f8f378a29d2f309bdbbab77aaa2ce1e6349ee048bd8") true
    fnExactCallParse_holds (fun _ h => by cases h) (by kernel_rfl) (fun _ h => by cases h) fnExactCallParse_row_tie rfl ⟨rfl, rfl⟩ (by kernel_rfl) rfl
    (fun f fn hf hfn => by
      obtain rfl : f = 4 := Option.some.inj ((show Tryd.prog.funcNamed "loop.example/changetrail/laws.FnExactCallParse" = some 4 by kernel_rfl).symm.trans hf) |>.symm
      obtain rfl : fn = Tryd.f4 := (Option.some.inj (Tryd.func4.symm.trans hfn)).symm
      exact ⟨by kernel_rfl, fun j t ht => by
        rw [show Tryd.f4.params = #[9] from rfl] at ht
        have hm : t ∈ [9] := by simpa using Array.mem_of_getElem? ht
        have hall : ([9].all fun u => !Tryd.prog.wantsStandIn u) = true := by kernel_rfl
        exact (show Tryd.prog.wantsStandIn t = false by simpa using List.all_eq_true.1 hall t hm)⟩)
    (by kernel_rfl)
#print axioms fnExactCallParse_card
end Go.Proofs.YtgpfhocdahjnmaaDoor
