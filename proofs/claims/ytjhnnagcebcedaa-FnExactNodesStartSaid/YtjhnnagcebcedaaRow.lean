/- FnExactNodesStart: for every input the law returns true, and each argument reads behind the call as it read before. No conditions. -/
/- A part of the proof: PvRw3. -/
import Derived.Test.YtjhnnagcebcedaaRows
import Derived.Test.YtjhnnagcebcedaaDat
import Derived.Test.YtjhnnagcebcedaaDec
set_option linter.unusedSimpArgs false
set_option linter.unusedVariables false
/- FnExactNodesStart: the given statement. -/
namespace Go.Proofs.Ytjhnnagcebcedaa.FnExactNodesStartRow
open Go.PV Go.PVx Go.Proofs Go.RowKit

theorem d4 : Dec Try.prog 4 (fun b : Bool => [.v (.bool b)]) (fun _ => True) := decB Try.underlying4
theorem d3 : Dec Try.prog 3 eI (fun _ => True) := decI Try.underlying3
theorem d9 : Dec Try.prog 9 eS sS := decS Try.underlying9
theorem d25 : Dec Try.prog 25 ePa oP := decL Try.underlying25 d9
theorem d43 : Dec Try.prog 43 eT oT := decTree Try.underlying43 (by kernel_rfl) (by kernel_rfl) (by intro x hx; simp only [List.mem_cons, List.not_mem_nil, or_false] at hx; rcases hx with rfl | rfl | rfl | rfl | rfl <;> kernel_rfl) d4 d3 d9 d25 Try.underlying41
theorem plain : plainB Try.prog [43, 4, 3, 9, 25, 41] = true := by kernel_rfl
theorem noExt (f : FuncId) (F : List AV → List PV.Obj → Option Res) (h : PVx.Y.ext f = some F) : ExtOk PVx.Y f F := by simp [PVx.Y] at h
theorem own : ownKnob Try.prog.godebug = none := by kernel_rfl
theorem laidOut : laidOutB Try.prog = true := by kernel_rfl
theorem law (xs : List AV) (hl : xs.length = [43].length) (ha : ∀ i (hi : i < xs.length), ArgD PVx.Y.P (([43] : List TypeId).getD i 0) (xs[i])) : lim' PVx.Y 5 xs [] = some ⟨[.v (.bool true)], []⟩ := by
    obtain ⟨x0, rfl⟩ := len1 hl
    obtain ⟨a0, h0, p0⟩ := argD d43 (ha 0 (by simp))
    rw [av_T (by kernel_rfl)] at h0
    simp only [List.getElem_cons_zero, List.getElem_cons_succ] at h0
    subst h0
    exact wFnExactNodesStart_ok a0 p0
set_option maxRecDepth 100000 in
theorem lifted (os : Os) (started : os.Started) (H : Type) (enc : TypeId × Value → H) :
    ReturnsInHanded {} Try.checked os 5 .any (Rows.fnExactNodesStartSpec.pre6 enc Try.prog Try.f5 Rows.fnExactNodesStartRow.domain false) (Rows.fnExactNodesStartSpec.post enc Try.prog Try.f5 false true false false) := by
  refine returnsInHanded_of_change_sized (C := Try.checked) own started (by kernel_rfl) Try.func5
    (ChangeSpec.witness6 (enc := enc) (C := Try.checked) false ⟨#[], #[.agg #[.bool false, .int .i64 0, .string ⟨#[]⟩, .slice none 0 0, .slice none 0 0]], []⟩ 8 (by kernel_rfl) (by kernel_rfl) (by kernel_rfl) (by kernel_rfl)) ?_
  intro W base args ds gs before hval hW _ _ _
  refine contract_of PVx.Y noExt (fn := Try.f5) (s := Rows.fnExactNodesStartSpec) (ts := [43, 4, 3, 9, 25, 41]) (ts0 := [43]) (tb := 4) laidOut rfl plain (by simp) (fun t ht => ?_) rfl Try.underlying4 rfl (fun ds hd => ?_) rfl law W base args ds gs before hval hW
  · simp only [List.mem_cons, List.not_mem_nil, or_false] at ht
    rcases ht with rfl <;> exact ⟨by kernel_rfl, of_decide_eq_true (by kernel_rfl)⟩
  · obtain ⟨e0, rfl⟩ := len1 hd
    rfl
theorem over : Rows.fnExactNodesStartRow.holds Try.pinned (OpenSpec.ofChange Rows.fnExactNodesStartSpec) :=
  OpenClaim.holds_of_wide 5 Try.f5 rfl rfl rfl rfl rfl rfl rfl ⟨rfl, rfl, rfl, rfl, rfl⟩ rfl rfl rfl rfl rfl (by kernel_rfl) Try.func5 (by kernel_rfl)
    (of_decide_eq_true (by kernel_rfl)) (by unfold Func.isWrapper; first | (rw [if_pos (by decide +kernel)]; kernel_rfl) | (rw [if_neg (by decide +kernel)]; exact ⟨rfl, rfl⟩))
    (fun os started H enc _ => lifted os started H enc)
theorem proved : Rows.FnExactNodesStartSaid := over
#print axioms proved
end Go.Proofs.Ytjhnnagcebcedaa.FnExactNodesStartRow
namespace Go.Proofs.Ytjhnnagcebcedaa
/-- The row, under a short name, for the claim. -/
theorem fnExactNodesStart_holds : Rows.FnExactNodesStartSaid := FnExactNodesStartRow.proved
end Go.Proofs.Ytjhnnagcebcedaa
