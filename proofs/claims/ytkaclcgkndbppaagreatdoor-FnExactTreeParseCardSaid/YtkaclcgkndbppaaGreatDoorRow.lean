/- FnExactTreeParseCard: for every input the law returns true, and each argument reads behind the call as it read before. No conditions. -/
/- A part of the proof: PvRwB. -/
import Derived.Test.YtkaclcgkndbppaaGreatDoorRows
import Derived.Test.YtkaclcgkndbppaaGreatDoorFac
import Derived.Test.YtkaclcgkndbppaaGreatDoorTre
import Derived.Test.YtkaclcgkndbppaaGreatDoorDec
import Derived.Test.YtkaclcgkndbppaaGreatDoorShelf
import Derived.Test.YtkaclcgkndbppaaGreatDoorTie
import Derived.Test.YtkaclcgkndbppaaGreatDoorCards
import Derived.Shelf.Strconv.AtoiAll
set_option linter.unusedSimpArgs false
set_option linter.unusedVariables false
namespace Go.Proofs.YtkaclcgkndbppaaGreatDoor.FnExactTreeParseRow
open Go.PV Go.PVx Go.Proofs Go.RowKit
theorem d9 : Dec Tryz.prog 9 eS sS := decS Tryz.underlying9
theorem plain : plainB Tryz.prog [9] = true := by kernel_rfl
theorem noExt (f : FuncId) (F : List AV → List PV.Obj → Option Res) (h : PVx.Y.ext f = some F) : ExtOk PVx.Y f F := by
 simp only [PVx.Y] at h
 unfold exts at h
 split at h
 · simp only [Option.some.injEq] at h
   subst h
   exact zeS (fn := Tryz.f131) zqg (by decide) rfl Tryz.func131 (by kernel_rfl) rfl rfl
 · simp only [Option.some.injEq] at h
   subst h
   exact zeS (fn := Tryz.f132) zqh (by decide) rfl Tryz.func132 (by kernel_rfl) rfl rfl
 · simp only [Option.some.injEq] at h
   subst h
   exact zkj (fn := Tryz.f150) Tryz.func150 rfl (by kernel_rfl) rfl (g := 0) rfl (fun s sep m w h0 h1 h2 => Tryz.strings_Split s sep m w h0 h1 h2)
 · simp only [Option.some.injEq] at h
   subst h
   exact zfL (fn := Tryz.f152) Tryz.func152 rfl (by kernel_rfl) rfl (fun s p w => Tryz.strings_TrimPrefix s p w)
 · simp only [Option.some.injEq] at h
   subst h
   exact zjp Tryz.lays166 Tryz.Builder_Extra_166 rfl rfl rfl (fn := Tryz.f156) Tryz.func156 rfl (by kernel_rfl) rfl
 · simp only [Option.some.injEq] at h
   subst h
   exact zid Tryz.lays169 Tryz.Builder_Extra_169 rfl rfl rfl (fn := Tryz.f162) Tryz.func162 rfl (by kernel_rfl) rfl
 · simp only [Option.some.injEq] at h
   subst h
   exact zlJ (fn := Tryz.f198) Tryz.func198 rfl (by kernel_rfl) rfl (g1 := 1) (g2 := 2) rfl rfl (bt := 5) (fun s v h0 h1 w => Any.strconv_Atoi_ok Tryz.laysC172 s h0 v h1 w)
    (fun s h0 ha hb ev w h2 h3 => (Any.strconv_Atoi_syntax Tryz.laysC172 s h0 (by
      cases hx : Lib.atoiAll s.data.toList with
      | ok v => exact absurd hx (ha v)
      | range => exact absurd hx hb
      | _ => rfl) ev w h2 h3).mono fun e w' ⟨N, he, _, _, hB⟩ => ⟨_, he, hB⟩)
    (fun s h0 h1 ev w h2 h3 => (Any.strconv_Atoi_range Tryz.laysC172 s h0 h1 ev w h2 h3).mono fun e w' ⟨N, he, _, _, hB⟩ => ⟨_, he, hB⟩)
 · simp only [Option.some.injEq] at h
   subst h
   exact zlG (fn := Tryz.f201) Tryz.func201 rfl (by kernel_rfl) rfl (fun a c sep w => Tryz.strings_Join_none a c sep w) (fun bk o c xs sep w h1 h2 h3 h4 h5 => Tryz.strings_Join bk o c xs sep w h1 h2 h3 h4 h5)
 · simp only [Option.some.injEq] at h
   subst h
   exact zlH (fn := Tryz.f202) Tryz.func202 rfl (by kernel_rfl) rfl (g := 5) (by kernel_rfl) rfl (fun n h0 h1 w ht => Tryz.strconv_Itoa n h0 h1 w ht)
 · exact absurd h (by simp)
abbrev laidV : List (String × DataW Unit) := [("math/bits.deBruijn32tab", Rows.laid_math_bits_deBruijn32tab), ("math/bits.deBruijn64tab", Rows.laid_math_bits_deBruijn64tab), ("internal/strconv.uint64pow10", Rows.laid_internal_strconv_uint64pow10), ("unicode/utf8.acceptRanges", Rows.laid_unicode_utf8_acceptRanges), ("strconv.ErrRange", Rows.laid_strconv_ErrRange), ("strconv.ErrSyntax", Rows.laid_strconv_ErrSyntax), ("unicode/utf8.first", Rows.laid_unicode_utf8_first)]
theorem star : "*" ++ "errors.errorString" = "*errors.errorString" := by decide
theorem rowErr (u : TypeId) (h : Tryz.prog.typeName? 3 u = some "*errors.errorString") : u = 265 :=
 typeName_ptr_named (nm := "errors.errorString") (by rw [star]; kernel_rfl) (by kernel_rfl) (by decide) u (by rw [star]; exact h)
theorem err_ok {W : World} {n : String} {g : Nat} {text : List UInt8} {r : List (String × DataW Unit)} (h : laidMet Tryz.prog ((n, .iface "*errors.errorString" (.ptr (.agg [.lit (.string text)]))) :: r) W) (hg : Tryz.prog.globalNamed n = some g) (ht : (Tryz.prog.globals[g]?).map (·.type) = some 173) :
 ∃ x ty e, W.heap[g]? = some (.cells #[x] ty e) ∧ ukOk true x := by
 obtain ⟨a0, s0, hv, -⟩ := laid_sentinel h hg ht Tryz.underlying173 rowErr Tryz.underlying265 Tryz.underlying267 rfl rfl Tryz.underlying9 (by kernel_rfl) (by kernel_rfl)
 unfold World.var? at hv
 rw [hg] at hv
 simp only [Option.bind_some] at hv
 split at hv
 · rename_i cs' ty e h3
   simp only [Option.some.injEq] at hv
   rw [hv] at h3
   exact ⟨_, ty, e, h3, .inr ⟨_, _, rfl⟩⟩
 · exact absurd hv (by simp)
theorem max_ok {W : World} (h : W.ShapedOpen Tryz.prog) : ∃ x ty e, W.heap[0]? = some (.cells #[x] ty e) ∧ ukOk false x := by
 obtain ⟨m, hm⟩ := Go.Proofs.cell_of_shapedOpen_int (g := 0) (zero := #[.int .i64 0]) (t := 3) h (of_decide_eq_true (by kernel_rfl)) (by kernel_rfl) rfl (by kernel_rfl) (by kernel_rfl) Tryz.underlying3
 obtain ⟨cs, hh, hs, _⟩ := h.1 0 #[.int .i64 0] 3 (of_decide_eq_true (by kernel_rfl)) (by kernel_rfl)
 obtain ⟨l⟩ := cs
 match l, hs with
 | [x], _ =>
  have : W.cell? ⟨0, 0, none⟩ = some x := by simp only [World.cell?, hh]; rfl
  rw [hm] at this
  exact ⟨x, 3, _, hh, m, (Option.some.inj this).symm⟩
theorem tab_ok {W : World} (h : laidMet Tryz.prog laidV W) : Lib.TabIs Tryz.prog W "internal/strconv.uint64pow10" .u64 Lib.pow10Tab := by
 have h1 := (zbm (zbm h))
 have e : (Rows.laid_internal_strconv_uint64pow10 : DataW Unit) = Lib.tabData .u64 Lib.pow10Tab := by kernel_rfl
 rw [e] at h1
 exact Lib.tabIs_of_head (g := 5) (t := 269) (e := 240) (n := 20) (by kernel_rfl) (by kernel_rfl) Tryz.underlying269 Tryz.underlying240 (by kernel_rfl) (by kernel_rfl) h1
theorem globs {W : World} (hS : W.ShapedOpen Tryz.prog) (h : laidMetH Tryz.prog laidV W) : GlOk PVx.Y.gl W noG := by
 rw [MakeChecks.laidMetH_plain _ _ _ (by kernel_rfl)] at h
 have h_0 := max_ok hS
 have h_1 := err_ok (g := 1) (zbm (zbm (zbm (zbm (zbm h))))) (by kernel_rfl) (by kernel_rfl)
 have h_2 := err_ok (g := 2) (zbm (zbm (zbm (zbm h)))) (by kernel_rfl) (by kernel_rfl)
 have ht := tab_ok h
 intro g row hg
 have hg : (if 0 = g then some [D.u false] else if 1 = g then some [D.u true] else if 2 = g then some [D.u true] else if 5 = g then some (Lib.pow10Tab.map fun z => D.v (.int .u64 z)) else none) = some row := hg
 by_cases h0 : 0 = g
 · rw [if_pos h0] at hg; subst h0; obtain rfl := Option.some.inj hg; exact znK h_0
 rw [if_neg h0] at hg
 by_cases h1 : 1 = g
 · rw [if_pos h1] at hg; subst h1; obtain rfl := Option.some.inj hg; exact znK h_1
 rw [if_neg h1] at hg
 by_cases h2 : 2 = g
 · rw [if_pos h2] at hg; subst h2; obtain rfl := Option.some.inj hg; exact znK h_2
 rw [if_neg h2] at hg
 by_cases h5 : 5 = g
 · rw [if_pos h5] at hg; subst h5; obtain rfl := Option.some.inj hg; exact pow_ok (by kernel_rfl) ht
 rw [if_neg h5] at hg
 exact absurd hg (by simp)
theorem door_met (os : Os) (args : Array Value) : laidMetH Tryz.prog laidV ((World.laidAll Tryz.prog os laidV).forCall (fun _ _ => 0) ⟨#[], args, []⟩).memory := by
 rw [MakeChecks.laidMetH_plain _ _ _ (by kernel_rfl)]; exact laidMet_laidAll _ (by kernel_rfl) (by kernel_rfl)
theorem own : ownKnob Tryz.prog.godebug = none := by kernel_rfl
theorem law (xs : List AV) (hl : xs.length = [9].length) (ha : ∀ i (hi : i < xs.length), ArgD PVx.Y.P (([9] : List TypeId).getD i 0) (xs[i])) : lim' PVx.Y 9 xs [] = some ⟨[.v (.bool true)], []⟩ := by
 obtain ⟨x0, rfl⟩ := len1 hl
 obtain ⟨a0, h0, p0⟩ := argD d9 (ha 0 (by simp))
 rw [av_S (by kernel_rfl)] at h0
 simp only [List.getElem_cons_zero, List.getElem_cons_succ] at h0
 subst h0
 exact zeh a0
set_option maxRecDepth 100000 in
theorem lifted (os : Os) (started : os.Started) (H : Type) (enc : TypeId × Value → H) :
 ReturnsInHanded {} Tryz.checked os 9 .any (fun w args => (Rows.fnExactTreeParseSpec.pre enc Tryz.prog Tryz.f9 [] false w args ∧ laidMetH Tryz.prog laidV w) ∧ sizedMet enc Tryz.prog Tryz.f9 (OpenSpec.ofChange Rows.fnExactTreeParseSpec) false w args)
  (Rows.fnExactTreeParseSpec.post enc Tryz.prog Tryz.f9 false true false false) := by
 refine zkE (C := Tryz.checked) (X := fun w _ => laidMetH Tryz.prog laidV w) (fun _ _ _ hh h => h.of_heap hh) own started (by kernel_rfl) Tryz.func9
  (ChangeSpec.witness_shaped (enc := enc) (C := Tryz.checked) (os := os) (X := fun w _ => laidMetH Tryz.prog laidV w) false (World.laidAll Tryz.prog os laidV) #[.string ⟨#[]⟩] 8 (World.laidAll_os _ _ _) (World.shaped_of_ZipB (by kernel_rfl) (by kernel_rfl)) (by kernel_rfl) (by kernel_rfl) (by kernel_rfl) (door_met os _)) ?_
 intro W base args ds gs before hval hW hS hL
 refine zkD PVx.Y noExt (fn := Tryz.f9) (s := Rows.fnExactTreeParseSpec) (ts := [9]) (ts0 := [9]) (tb := 4) laidOut rfl plain (by simp) (fun t ht => ?_) rfl Tryz.underlying4 rfl (fun ds hd => ?_) rfl law W (globs hS hL) base args ds gs before hval hW
 · simp only [List.mem_cons, List.not_mem_nil, or_false] at ht
   rcases ht with rfl <;> exact ⟨by kernel_rfl, of_decide_eq_true (by kernel_rfl)⟩
 · obtain ⟨e0, rfl⟩ := len1 hd
   rfl
theorem closed : joinedFacts Tryz.prog 9 Tryz.f9 Rows.fnExactTreeParseSpec Rows.fnExactTreeParseRow = true := by
 unfold joinedFacts
 rw [laidOut, jIn, jUn, jRec, jNam, jHeard, jEnter, jLift]
 kernel_rfl
theorem over : Rows.fnExactTreeParseRow.holds Tryz.pinned (OpenSpec.ofChange Rows.fnExactTreeParseSpec) :=
 OpenClaim.holds_of_wide 9 Tryz.f9 rfl rfl rfl rfl rfl rfl rfl ⟨rfl, rfl, rfl, rfl, rfl⟩ rfl rfl rfl rfl rfl (by kernel_rfl) Tryz.func9 closed
  (of_decide_eq_true (by kernel_rfl)) (by unfold Func.isWrapper; first | (rw [if_pos (by decide +kernel)]; kernel_rfl) | (rw [if_neg (by decide +kernel)]; exact ⟨rfl, rfl⟩))
  (fun os started H enc _ => lifted os started H enc)
theorem proved : Rows.FnExactTreeParseSaid := over
#print axioms proved
end Go.Proofs.YtkaclcgkndbppaaGreatDoor.FnExactTreeParseRow
namespace Go.Proofs.YtkaclcgkndbppaaGreatDoor
theorem fnExactTreeParse_holds : Rows.FnExactTreeParseSaid := FnExactTreeParseRow.proved
theorem fnExactTreeParse_card : Rows.FnExactTreeParseCardSaid :=
 Claim7.holds_tied_plain_at .later [] [.data, .data, .data, .data, .sentinel, .sentinel, .pinned] true (true, "ffb01ca496a09db2b1b3895006490a1d3d63eb52096a2cb9c4e5289293e77ba8") true
  fnExactTreeParse_holds (fun _ h => by cases h) (by kernel_rfl) (fun _ h => by cases h) fnExactTreeParse_row_tie rfl ⟨rfl, rfl⟩ (by kernel_rfl) rfl
  (fun f fn hf hfn => by
    obtain rfl : f = 9 := Option.some.inj ((show Tryz.prog.funcNamed "loop.example/changetrail/laws.FnExactTreeParse" = some 9 by kernel_rfl).symm.trans hf) |>.symm
    obtain rfl : fn = Tryz.f9 := (Option.some.inj (Tryz.func9.symm.trans hfn)).symm
    exact ⟨FnExactTreeParseRow.looksAt, fun j t ht => by
     rw [show Tryz.f9.params = #[9] from rfl] at ht
     have hm : t ∈ [9] := by simpa using Array.mem_of_getElem? ht
     have hall : ([9].all fun u => !Tryz.prog.wantsStandIn u) = true := by kernel_rfl
     exact (show Tryz.prog.wantsStandIn t = false by simpa using List.all_eq_true.1 hall t hm)⟩)
  FnExactTreeParseRow.goesAt
#print axioms fnExactTreeParse_card
end Go.Proofs.YtkaclcgkndbppaaGreatDoor
