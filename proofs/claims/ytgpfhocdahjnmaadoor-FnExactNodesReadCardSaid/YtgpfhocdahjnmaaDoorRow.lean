/- FnExactNodesReadCard: for every input the law returns true, and each argument reads behind the call as it read before. No conditions. -/
/- A part of the proof: PvRw7. -/
import Derived.Test.YtgpfhocdahjnmaaDoorRows
import Derived.Test.YtgpfhocdahjnmaaDoorDat
import Derived.Test.YtgpfhocdahjnmaaDoorDec
import Derived.Test.YtgpfhocdahjnmaaDoorShelf
import Derived.Test.YtgpfhocdahjnmaaDoorTie
import Derived.Test.YtgpfhocdahjnmaaDoorCards
import Derived.Lib.LaidTab
import Derived.LaidMore
import Derived.Lay
import Derived.Stop.Joined
import Derived.SevenTiedAt
import Derived.Stop.LaidErr
import Derived.HandedShaped
import Derived.Shelf.Strconv.AtoiAll
import Derived.Shelf.Vars
set_option linter.unusedSimpArgs false
set_option linter.unusedVariables false
/- FnExactNodesRead: the given statement. -/
namespace Go.Proofs.YtgpfhocdahjnmaaDoor.FnExactNodesReadRow
open Go.PV Go.PVx Go.Proofs Go.RowKit

theorem d9 : Dec Tryd.prog 9 eS sS := decS Tryd.underlying9
theorem plain : plainB Tryd.prog [9] = true := by kernel_rfl
theorem noExt (f : FuncId) (F : List AV → List PV.Obj → Option Res) (h : PVx.Y.ext f = some F) : ExtOk PVx.Y f F := by
  simp only [PVx.Y] at h
  unfold exts at h
  split at h
  · simp only [Option.some.injEq] at h
    subst h
    exact extCut_ok (fn := Tryd.f21) Tryd.func21 rfl (by kernel_rfl) rfl (g := 1) rfl (fun s sep m w h0 h1 => Tryd.strings_Cut s sep m w h0 h1)
  · simp only [Option.some.injEq] at h
    subst h
    exact extSplit_ok (fn := Tryd.f32) Tryd.func32 rfl (by kernel_rfl) rfl (g := 1) rfl (fun s sep m w h0 h1 h2 => Tryd.strings_Split s sep m w h0 h1 h2)
  · simp only [Option.some.injEq] at h
    subst h
    exact extAtoi_ok (fn := Tryd.f46) Tryd.func46 rfl (by kernel_rfl) rfl (g1 := 2) (g2 := 3) rfl rfl (bt := 5) (fun s v h0 h1 w => Any.strconv_Atoi_ok Tryd.laysC172 s h0 v h1 w)
      (fun s h0 ha hb ev w h2 h3 => (Any.strconv_Atoi_syntax Tryd.laysC172 s h0 (by
        cases hx : Lib.atoiAll s.data.toList with
        | ok v => exact absurd hx (ha v)
        | range => exact absurd hx hb
        | _ => rfl) ev w h2 h3).mono fun e w' ⟨N, he, _, _, hB⟩ => ⟨_, he, hB⟩)
      (fun s h0 h1 ev w h2 h3 => (Any.strconv_Atoi_range Tryd.laysC172 s h0 h1 ev w h2 h3).mono fun e w' ⟨N, he, _, _, hB⟩ => ⟨_, he, hB⟩)
  · simp only [Option.some.injEq] at h
    subst h
    exact extTrimPrefix_ok (fn := Tryd.f47) Tryd.func47 rfl (by kernel_rfl) rfl (fun s p w => Tryd.strings_TrimPrefix s p w)
  · simp only [Option.some.injEq] at h
    subst h
    exact extItoa_ok (fn := Tryd.f49) Tryd.func49 rfl (by kernel_rfl) rfl (g := 4) (by kernel_rfl) rfl (fun n h0 h1 w ht => Tryd.strconv_Itoa n h0 h1 w ht)
  · simp only [Option.some.injEq] at h
    subst h
    exact extJoin_ok (fn := Tryd.f69) Tryd.func69 rfl (by kernel_rfl) rfl (fun a c sep w => Tryd.strings_Join_none a c sep w) (fun bk o c xs sep w h1 h2 h3 h4 h5 => Tryd.strings_Join bk o c xs sep w h1 h2 h3 h4 h5)
  · exact absurd h (by simp)
abbrev laid7 : List (String × DataW Unit) := [("math/bits.deBruijn32tab", Rows.laid_math_bits_deBruijn32tab), ("math/bits.deBruijn64tab", Rows.laid_math_bits_deBruijn64tab), ("internal/strconv.uint64pow10", Rows.laid_internal_strconv_uint64pow10), ("unicode/utf8.acceptRanges", Rows.laid_unicode_utf8_acceptRanges), ("strconv.ErrRange", Rows.laid_strconv_ErrRange), ("strconv.ErrSyntax", Rows.laid_strconv_ErrSyntax), ("unicode/utf8.first", Rows.laid_unicode_utf8_first)]
theorem laidMet_tail {P : Program} {x : String × DataW Unit} {r : List (String × DataW Unit)} {w : World} (h : laidMet P (x :: r) w) : laidMet P r w := by
  obtain ⟨n, d⟩ := x
  obtain ⟨ps, ⟨g, t, cs, fuel, p, q, hg, ht, hv, hd, hr, rfl⟩, hn, hc⟩ := h
  exact ⟨q, hr, (List.nodup_append.1 hn).2.1, fun b off hb => hc b off (List.mem_append_right _ hb)⟩
theorem star : "*" ++ "errors.errorString" = "*errors.errorString" := by decide
theorem row116 (u : TypeId) (h : Tryd.prog.typeName? 3 u = some "*errors.errorString") : u = 116 :=
  typeName_ptr_named (nm := "errors.errorString") (by rw [star]; kernel_rfl) (by kernel_rfl) (by decide) u (by rw [star]; exact h)
theorem err_ok {W : World} {n : String} {g : Nat} {text : List UInt8} {r : List (String × DataW Unit)} (h : laidMet Tryd.prog ((n, .iface "*errors.errorString" (.ptr (.agg [.lit (.string text)]))) :: r) W) (hg : Tryd.prog.globalNamed n = some g) (ht : (Tryd.prog.globals[g]?).map (·.type) = some 65) :
    ∃ x ty e, W.heap[g]? = some (.cells #[x] ty e) ∧ ukOk true x := by
  obtain ⟨a0, s0, hv, -⟩ := laid_sentinel h hg ht Tryd.underlying65 row116 Tryd.underlying116 Tryd.underlying118 rfl rfl Tryd.underlying9 (by kernel_rfl) (by kernel_rfl)
  unfold World.var? at hv
  rw [hg] at hv
  simp only [Option.bind_some] at hv
  split at hv
  · rename_i cs' ty e h3
    simp only [Option.some.injEq] at hv
    rw [hv] at h3
    exact ⟨_, ty, e, h3, .inr ⟨_, _, rfl⟩⟩
  · exact absurd hv (by simp)
theorem tab_ok {W : World} (h : laidMet Tryd.prog laid7 W) : Lib.TabIs Tryd.prog W "internal/strconv.uint64pow10" .u64 Lib.pow10Tab := by
  have h1 := laidMet_tail (laidMet_tail h)
  have e : (Rows.laid_internal_strconv_uint64pow10 : DataW Unit) = Lib.tabData .u64 Lib.pow10Tab := by kernel_rfl
  rw [e] at h1
  exact Lib.tabIs_of_head (g := 4) (t := 120) (e := 103) (n := 20) (by kernel_rfl) (by kernel_rfl) Tryd.underlying120 Tryd.underlying103 (by kernel_rfl) (by kernel_rfl) h1
theorem one_ok {W : World} {g : Nat} {t : Bool} (h : ∃ x ty e, W.heap[g]? = some (.cells #[x] ty e) ∧ ukOk t x) : ∃ hd, RoOk W noG ⟨none, hd⟩ [D.u t] ⟨g, 0, none⟩ ∧ ∃ cs ty e, W.heap[g]? = some (.cells cs ty e) ∧ cs.size = ([D.u t] : List D).length := by
  obtain ⟨x, ty, e, h3, hx⟩ := h
  refine ⟨fun _ => x, { spot := rfl, lt := (Array.getElem?_eq_some_iff.1 h3).1, blk := rfl, cell := fun c hc => ?_, rel := fun c hc => ?_ }, #[x], ty, e, h3, rfl⟩
  · have : c = 0 := by simpa using hc
    subst this
    simp only [World.cell?, h3]
    rfl
  · have : c = 0 := by simpa using hc
    subst this
    exact .u _ _ _ hx
theorem max_ok {W : World} (h : W.ShapedOpen Tryd.prog) : ∃ x ty e, W.heap[1]? = some (.cells #[x] ty e) ∧ ukOk false x := by
  obtain ⟨m, hm⟩ := Go.Proofs.cell_of_shapedOpen_int (g := 1) (zero := #[.int .i64 0]) (t := 3) h (of_decide_eq_true (by kernel_rfl)) (by kernel_rfl) rfl (by kernel_rfl) (by kernel_rfl) Tryd.underlying3
  obtain ⟨cs, hh, hs, _⟩ := h.1 1 #[.int .i64 0] 3 (of_decide_eq_true (by kernel_rfl)) (by kernel_rfl)
  obtain ⟨l⟩ := cs
  match l, hs with
  | [x], _ =>
    have : W.cell? ⟨1, 0, none⟩ = some x := by simp only [World.cell?, hh]; rfl
    rw [hm] at this
    exact ⟨x, 3, _, hh, m, (Option.some.inj this).symm⟩
theorem globs {W : World} (hS : W.ShapedOpen Tryd.prog) (h : laidMetH Tryd.prog laid7 W) : GlOk PVx.Y.gl W noG := by
  rw [MakeChecks.laidMetH_plain _ _ _ (by kernel_rfl)] at h
  have ht := tab_ok h
  have h5 := laidMet_tail (laidMet_tail (laidMet_tail (laidMet_tail h)))
  have hR := err_ok (g := 3) h5 (by kernel_rfl) (by kernel_rfl)
  have hE := err_ok (g := 2) (laidMet_tail h5) (by kernel_rfl) (by kernel_rfl)
  have hM := max_ok hS
  intro g row hg
  have hg : (if 1 = g then some [D.u false] else if 2 = g then some [D.u true] else if 3 = g then some [D.u true] else if 4 = g then some (Lib.pow10Tab.map fun z => D.v (.int .u64 z)) else none) = some row := hg
  by_cases h1 : 1 = g
  · rw [if_pos h1] at hg; subst h1; obtain rfl := Option.some.inj hg; exact one_ok hM
  rw [if_neg h1] at hg
  by_cases h2 : 2 = g
  · rw [if_pos h2] at hg; subst h2; obtain rfl := Option.some.inj hg; exact one_ok hE
  rw [if_neg h2] at hg
  by_cases h3 : 3 = g
  · rw [if_pos h3] at hg; subst h3; obtain rfl := Option.some.inj hg; exact one_ok hR
  rw [if_neg h3] at hg
  by_cases h4 : 4 = g
  case neg => rw [if_neg h4] at hg; exact absurd hg (by simp)
  rw [if_pos h4] at hg
  subst h4
  obtain rfl := Option.some.inj hg
  have hh : ∃ cs ty e, W.heap[4]? = some (.cells cs ty e) ∧ cs = (Lib.pow10Tab.map fun z => Value.int .u64 z).toArray := by
    have h2 := ht
    unfold Lib.TabIs World.var? at h2
    rw [show Tryd.prog.globalNamed "internal/strconv.uint64pow10" = some 4 from by kernel_rfl] at h2
    simp only [Option.bind_some] at h2
    split at h2
    · rename_i cs ty e h3
      simp only [Option.some.injEq] at h2
      exact ⟨cs, ty, e, h3, h2⟩
    · exact absurd h2 (by simp)
  obtain ⟨cs, ty, e, h3, h4⟩ := hh
  refine ⟨fun c => .int .u64 (Lib.pow10Tab.getD c 0), { spot := rfl, lt := (Array.getElem?_eq_some_iff.1 h3).1, blk := rfl, cell := fun c hc => ?_, rel := fun c hc => ?_ }, cs, ty, e, h3, by rw [h4]; simp⟩
  · have hc' : c < Lib.pow10Tab.length := by simpa using hc
    rw [Nat.zero_add]
    exact ht.cell (by kernel_rfl) c hc'
  · have hc' : c < Lib.pow10Tab.length := by simpa using hc
    have e1 : (Lib.pow10Tab.map fun z => D.v (.int .u64 z))[c]'hc = D.v (.int .u64 (Lib.pow10Tab.getD c 0)) := by
      simp [List.getD_eq_getElem?_getD, hc']
    rw [e1]
    exact .v _ _
/-- A heap with these variables laid meets the condition. -/
theorem door_met (os : Os) (args : Array Value) : laidMetH Tryd.prog laid7 ((World.laidAll Tryd.prog os laid7).forCall (fun _ _ => 0) ⟨#[], args, []⟩).memory := by
  rw [MakeChecks.laidMetH_plain _ _ _ (by kernel_rfl)]; exact laidMet_laidAll _ (by kernel_rfl) (by kernel_rfl)
theorem own : ownKnob Tryd.prog.godebug = none := by kernel_rfl
theorem laidOut : laidOutB Tryd.prog = true := by kernel_rfl
theorem law (xs : List AV) (hl : xs.length = [9].length) (ha : ∀ i (hi : i < xs.length), ArgD PVx.Y.P (([9] : List TypeId).getD i 0) (xs[i])) : lim' PVx.Y 3 xs [] = some ⟨[.v (.bool true)], []⟩ := by
    obtain ⟨x0, rfl⟩ := len1 hl
    obtain ⟨a0, h0, p0⟩ := argD d9 (ha 0 (by simp))
    rw [av_S (by kernel_rfl)] at h0
    simp only [List.getElem_cons_zero, List.getElem_cons_succ] at h0
    subst h0
    exact wFnExactNodesRead_ok a0
/-- As the kit's returnsInHanded_of_change_and, the world's shape kept. -/
theorem wrap_shaped {H : Type} {enc : TypeId × Value → H} {a : Assume} {C : Checked} {os : Os} {f : FuncId} {fn : Func} {s : ChangeSpec} {conds : List PathCond} {apart fresh handsOn again : Bool} {X : World → Array Value → Prop}
    (hX : ∀ (w w' : World) (args : Array Value), w.heap = w'.heap → X w args → X w' args)
    (own : ownKnob C.prog.godebug = none) (started : os.Started) (noInit : C.prog.inits.idxOf? f = none) (hfn : C.prog.funcs[f]? = some fn)
    (witness : ∃ (w : World) (tape : Tape) (i : Input), w.os = os ∧ (w.forCall tape i).Shaped C.prog ∧ i.vars = [] ∧ Input.okWide C.prog (w.forCall tape i) .any w.heap.size f i ∧
      ((s.pre enc C.prog fn conds apart (w.forCall tape i).memory i.args ∧ X (w.forCall tape i).memory i.args) ∧ sizedMet enc C.prog fn (OpenSpec.ofChange s) apart (w.forCall tape i).memory i.args) ∧ a.holds C.prog (lone (Frame.enter C.prog f i.args .normal) [] (w.forCall tape i)))
    (contract : ∀ (W : World) (base : Nat) (args : Array Value) (ds gs : List (DataW H)) (before : List MemPlace),
      (∀ (j : Nat) t v, fn.params[j]? = some t → args[j]? = some v → Value.okWide C.prog W .any base t v) →
      DataW.Whole enc C.prog fn.params.toList s.vars apart W args.toList ds gs before → W.ShapedOpen C.prog → X W args →
      Calls C.prog f args W fun e W' => ∃ v, e = .returned v ∧ s.post enc C.prog fn apart fresh handsOn again W args v W') :
    ReturnsInHanded a C os f .any (fun w args => (s.pre enc C.prog fn conds apart w args ∧ X w args) ∧ sizedMet enc C.prog fn (OpenSpec.ofChange s) apart w args) (s.post enc C.prog fn apart fresh handsOn again) := by
  refine returnsInHanded_of_calls own started noInit witness ?_
  intro w tape i _ hsh _ hok hpre hholds
  obtain ⟨_, _, _, fn', hfn', _, _, _, _, hval⟩ := hok
  have e : fn' = fn := Option.some.inj (hfn'.symm.trans hfn)
  subst e
  obtain ⟨⟨⟨ds, gs, before, hw, hc⟩, hx⟩, hz⟩ := hpre
  have hw' := DataW.Whole.of_heap (w' := w.forCall tape i) (by rfl) hw
  refine (contract (w.forCall tape i) w.heap.size i.args ds gs before hval hw' hsh (hX _ _ _ (by rfl) hx)).mono fun e W' ⟨v, he, hp⟩ => ?_
  subst he
  exact ChangeSpec.post_blind hp
set_option maxRecDepth 100000 in
theorem lifted (os : Os) (started : os.Started) (H : Type) (enc : TypeId × Value → H) :
    ReturnsInHanded {} Tryd.checked os 3 .any (fun w args => (Rows.fnExactNodesReadSpec.pre enc Tryd.prog Tryd.f3 [] false w args ∧ laidMetH Tryd.prog laid7 w) ∧ sizedMet enc Tryd.prog Tryd.f3 (OpenSpec.ofChange Rows.fnExactNodesReadSpec) false w args)
      (Rows.fnExactNodesReadSpec.post enc Tryd.prog Tryd.f3 false true false false) := by
  refine wrap_shaped (C := Tryd.checked) (X := fun w _ => laidMetH Tryd.prog laid7 w) (fun _ _ _ hh h => h.of_heap hh) own started (by kernel_rfl) Tryd.func3
    (ChangeSpec.witness_shaped (enc := enc) (C := Tryd.checked) (os := os) (X := fun w _ => laidMetH Tryd.prog laid7 w) false (World.laidAll Tryd.prog os laid7) #[.string ⟨#[]⟩] 8 (World.laidAll_os _ _ _) (World.shaped_of_ZipB (by kernel_rfl) (by kernel_rfl)) (by kernel_rfl) (by kernel_rfl) (by kernel_rfl) (door_met os _)) ?_
  intro W base args ds gs before hval hW hS hL
  refine contract_gl PVx.Y noExt (fn := Tryd.f3) (s := Rows.fnExactNodesReadSpec) (ts := [9]) (ts0 := [9]) (tb := 4) laidOut rfl plain (by simp) (fun t ht => ?_) rfl Tryd.underlying4 rfl (fun ds hd => ?_) rfl law W (globs hS hL) base args ds gs before hval hW
  · simp only [List.mem_cons, List.not_mem_nil, or_false] at ht
    rcases ht with rfl <;> exact ⟨by kernel_rfl, of_decide_eq_true (by kernel_rfl)⟩
  · obtain ⟨e0, rfl⟩ := len1 hd
    rfl
theorem over : Rows.fnExactNodesReadRow.holds Tryd.pinned (OpenSpec.ofChange Rows.fnExactNodesReadSpec) :=
  OpenClaim.holds_of_wide 3 Tryd.f3 rfl rfl rfl rfl rfl rfl rfl ⟨rfl, rfl, rfl, rfl, rfl⟩ rfl rfl rfl rfl rfl (by kernel_rfl) Tryd.func3 (by kernel_rfl)
    (of_decide_eq_true (by kernel_rfl)) (by unfold Func.isWrapper; first | (rw [if_pos (by decide +kernel)]; kernel_rfl) | (rw [if_neg (by decide +kernel)]; exact ⟨rfl, rfl⟩))
    (fun os started H enc _ => lifted os started H enc)
theorem proved : Rows.FnExactNodesReadSaid := over
#print axioms proved
end Go.Proofs.YtgpfhocdahjnmaaDoor.FnExactNodesReadRow
namespace Go.Proofs.YtgpfhocdahjnmaaDoor
/-- The row, under a short name, for the claim. -/
theorem fnExactNodesRead_holds : Rows.FnExactNodesReadSaid := FnExactNodesReadRow.proved
/-- The card. -/
theorem fnExactNodesRead_card : Rows.FnExactNodesReadCardSaid :=
  Claim7.holds_tied_plain_at .later [] [.data, .data, .data, .data, .sentinel, .sentinel, .pinned] true (true, "a444d36a72607b48c7a60f8f378a29d2f309bdbbab77aaa2ce1e6349ee048bd8") true
    fnExactNodesRead_holds (fun _ h => by cases h) (by kernel_rfl) (fun _ h => by cases h) fnExactNodesRead_row_tie rfl ⟨rfl, rfl⟩ (by kernel_rfl) rfl
    (fun f fn hf hfn => by
      obtain rfl : f = 3 := Option.some.inj ((show Tryd.prog.funcNamed "loop.example/changetrail/laws.FnExactNodesRead" = some 3 by kernel_rfl).symm.trans hf) |>.symm
      obtain rfl : fn = Tryd.f3 := (Option.some.inj (Tryd.func3.symm.trans hfn)).symm
      exact ⟨by kernel_rfl, fun j t ht => by
        rw [show Tryd.f3.params = #[9] from rfl] at ht
        have hm : t ∈ [9] := by simpa using Array.mem_of_getElem? ht
        have hall : ([9].all fun u => !Tryd.prog.wantsStandIn u) = true := by kernel_rfl
        exact (show Tryd.prog.wantsStandIn t = false by simpa using List.all_eq_true.1 hall t hm)⟩)
    (by kernel_rfl)
#print axioms fnExactNodesRead_card
end Go.Proofs.YtgpfhocdahjnmaaDoor
