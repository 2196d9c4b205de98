/- FnExactNodesPath: for every input the law returns true, and each argument reads behind the call as it read before. No conditions. -/
/- A part of the proof: PvR1Row2. -/
import Derived.Test.YtjhnnagcebcedaaRow
import Derived.Test.YtjhnnagcebcedaaDat
set_option linter.unusedSimpArgs false
set_option linter.unusedVariables false
/- FnExactNodesPath: the given statement. -/
namespace Go.Proofs.Ytjhnnagcebcedaa.NodesPathRow
open Go.ChangeShapes Go.WideShapes Go.ChangeAt Go.RowKit Go.PV Go.PVr1 Go.Proofs Go.Proofs.Ytjhnnagcebcedaa.NodesIdRow
open Go.ChangeMaps (open_string shut_string)

set_option maxRecDepth 100000 in
theorem lifted (os : Os) (started : os.Started) (H : Type) (enc : TypeId × Value → H) :
    ReturnsInHanded {} Try.checked os 4 .any (Rows.fnExactNodesPathSpec.pre6 enc Try.prog Try.f4 Rows.fnExactNodesPathRow.domain false) (Rows.fnExactNodesPathSpec.post enc Try.prog Try.f4 false true false false) := by
  refine returnsInHanded_of_change_sized (C := Try.checked) own started (by kernel_rfl) Try.func4
    (ChangeSpec.witness6 (enc := enc) (C := Try.checked) false ⟨#[], #[.agg #[.int .i64 0, .slice none 0 0], .int .i64 0], []⟩ 8 (by kernel_rfl) (by kernel_rfl) (by kernel_rfl) (by kernel_rfl)) ?_
  intro W base args ds gs before hval0 hW hcnd hsz0 _
  have hval : ∀ (j : Nat) t v, Try.f4.params[j]? = some t → args[j]? = some v → Value.okWide Try.prog W .any base t v := hval0
  have hW' := hW
  obtain ⟨p, q, hA0, hV, rfl, hfz, hnd⟩ := hW
  have hA : DataW.TrodAll enc Try.prog W 0 (fun _ => true) true Try.f4.params.toList args.toList ds p := hA0
  have hpar : Try.f4.params = #[24, 3] := rfl
  rw [hpar] at hA hval
  obtain ⟨v0, vs0, d0, ds0, p0, q0, hargs, rfl, rfl, h0, r0⟩ := trodAll_cons hA
  obtain ⟨v1, vs1, d1, ds1, p1, q1, rfl, rfl, rfl, h1, r1⟩ := trodAll_cons r0
  obtain ⟨rfl, rfl, rfl⟩ := trodAll_nil r1
  obtain rfl : args = #[v0, v1] := by cases args; simp_all
  obtain ⟨rfl, rfl⟩ := trodVars_none hV
  obtain ⟨cs0, rfl, hc0, _⟩ : ∃ cs, v0 = .agg cs ∧ cs.size = Try.prog.cellsOf 24 ∧ True := by
    have := hval 0 24 v0 rfl rfl
    simp only [Value.okWide, Try.underlying24] at this
    obtain ⟨cs, e1, e2, _⟩ := this
    exact ⟨cs, e1, e2, trivial⟩
  obtain ⟨n1, rfl⟩ := okWide_int Try.underlying3 (hval 1 3 v1 rfl rfl)
  have k0 := h0
  have k1 := h1
  have lt0 : ∀ x ∈ p0, x.block < W.heap.size := by obtain ⟨m, hm⟩ := k0; exact DataW.trod_lt m _ _ _ hm
  have lt1 : ∀ x ∈ p1, x.block < W.heap.size := by obtain ⟨m, hm⟩ := k1; exact DataW.trod_lt m _ _ _ hm
  obtain ⟨m0, hm0⟩ := h0
  obtain ⟨row0, R0⟩ := trod_D plain m0 24 _ _ _ (by simp) hm0
  obtain ⟨i, l, rfl, hs⟩ := dNodes R0.ok
  have e0 : cs0.size = 2 := by have := R0.len; simpa [Value.cells] using this.symm
  have hgd : ∀ j, cs0.toList.getD j undef = cs0.getD j undef := fun j => by simp [List.getD, Array.getD_eq_getD_getElem?]
  refine (law_calls (f4_ok i l n1 hs) rfl rfl ?_).mono fun e W' ⟨he, bel⟩ => ?_
  · intro j hj
    match j, hj with
    | 0, _ =>
      refine ⟨cs0, rfl, e0, fun j hj => ?_⟩
      have hr := R0.rel j (by simp only [Value.cells, Array.length_toList, e0]; exact hj)
      simp only [Value.cells] at hr
      rw [hgd] at hr
      match j, hj with
      | 0, _ => exact Rel.val hr
      | 1, _ => exact hr
    | 1, _ => exact rfl
  · subst he
    exact ⟨_, rfl, _, _, _, [], _, [], hW', trodAll_mk1 (shutB true),
      (trodAll_cons_mk (Below.trod laidOut (by kernel_rfl) (of_decide_eq_true (by kernel_rfl)) k0 bel lt0) (trodAll_cons_mk (Below.trod laidOut (by kernel_rfl) (of_decide_eq_true (by kernel_rfl)) k1 bel lt1) trodAll_mk0)), rfl, bel.frame _, fun h => by cases h⟩
theorem over : Rows.fnExactNodesPathRow.holds Try.pinned (OpenSpec.ofChange Rows.fnExactNodesPathSpec) :=
  OpenClaim.holds_of_wide 4 Try.f4 rfl rfl rfl rfl rfl rfl rfl ⟨rfl, rfl, rfl, rfl, rfl⟩ rfl rfl rfl rfl rfl (by kernel_rfl) Try.func4 (by kernel_rfl)
    (of_decide_eq_true (by kernel_rfl)) (by unfold Func.isWrapper; first | (rw [if_pos (by decide +kernel)]; kernel_rfl) | (rw [if_neg (by decide +kernel)]; exact ⟨rfl, rfl⟩))
    (fun os started H enc _ => lifted os started H enc)
theorem proved : Rows.FnExactNodesPathSaid := over
#print axioms proved
end Go.Proofs.Ytjhnnagcebcedaa.NodesPathRow
namespace Go.Proofs.Ytjhnnagcebcedaa
/-- The row, under a short name, for the claim. -/
theorem fnExactNodesPath_holds : Rows.FnExactNodesPathSaid := NodesPathRow.proved
end Go.Proofs.Ytjhnnagcebcedaa
