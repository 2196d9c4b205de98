/- A part of the proof: PvR1Row. -/
import Derived.Test.YtjhnnagcebcedaaRows
import Derived.Test.YtjhnnagcebcedaaDat
import Derived.Test.YtjhnnagcebcedaaPvC
import Derived.WalkKit
import Derived.ProofKit
import Derived.OpenShut
import Derived.ShutString
import Derived.ChangeOld
import Derived.SizedLaws
import Derived.Carry
set_option linter.unusedSimpArgs false
set_option linter.unusedVariables false
/- FnExactNodesId: the given statement. -/
namespace Go.Proofs.Ytjhnnagcebcedaa.NodesIdRow
open Go.ChangeShapes Go.WideShapes Go.ChangeAt Go.RowKit Go.PV Go.PVr1 Go.Proofs
open Go.ChangeMaps (open_string shut_string)

/-! ### data of these types -/
theorem list_of {α : Type} (enc : α → List D) (p : α → Prop) (es : List (List D)) (h : ∀ r ∈ es, ∃ x, r = enc x ∧ p x) : ∃ l : List α, es = l.map enc ∧ ∀ x ∈ l, p x := by
  induction es with
  | nil => exact ⟨[], rfl, fun x hx => by simp at hx⟩
  | cons r es ih =>
    obtain ⟨x, h1, h2⟩ := h r (by simp)
    obtain ⟨l, h3, h4⟩ := ih fun r hr => h r (List.mem_cons_of_mem _ hr)
    refine ⟨x :: l, by rw [List.map_cons, h1, h3], fun y hy => ?_⟩
    rcases List.mem_cons.1 hy with rfl | hy
    · exact h2
    · exact h4 y hy
theorem dS {f : Nat} {row : List D} (h : okD Try.prog f 25 row) : ∃ l, row = [.s (eSs l)] ∧ Sm l := by
  cases f with
  | zero => exact h.elim
  | succ f =>
    simp only [okD, Try.underlying25] at h
    obtain ⟨es, rfl, hl, he⟩ := h
    obtain ⟨l, rfl, hp⟩ := list_of eS (fun s => s.size ≤ 9223372036854775807) es fun r hr => by
      have := he r hr
      cases f with
      | zero => exact this.elim
      | succ f =>
        simp only [okD, Try.underlying9] at this
        obtain ⟨s, rfl, hs⟩ := this
        exact ⟨s, rfl, hs⟩
    have hm : maxLen = 9223372036854775807 := by kernel_rfl
    rw [hm] at hl
    exact ⟨l, rfl, by simpa using hl, hp⟩
theorem len_two {α : Type} {l : List α} (h : l.length = 2) : ∃ x y, l = [x, y] := by
  match l, h with
  | [x, y], _ => exact ⟨x, y, rfl⟩
theorem two {f : Nat} {t t1 t2 : TypeId} {row : List D} {fs : Array Field} (h : okD Try.prog (f + 1) t row) (hu : Try.prog.underlying t = some (.struct fs)) (hfs : fs.toList.map (fun x => (x.offset, x.type)) = [(0, t1), (1, t2)])
    (h0 : Try.prog.cellsOf t = 2) (h1 : Try.prog.cellsOf t1 = 1) (h2 : Try.prog.cellsOf t2 = 1) : ∃ a b, row = [a, b] ∧ okD Try.prog f t1 [a] ∧ okD Try.prog f t2 [b] := by
  simp only [okD, hu] at h
  obtain ⟨hl, hf⟩ := h
  rw [h0] at hl
  obtain ⟨x, y, hfl⟩ : ∃ x y, fs.toList = [x, y] := by
    have hlen := congrArg List.length hfs
    simp only [List.length_map, List.length_cons, List.length_nil] at hlen
    exact len_two hlen
  obtain ⟨a, b, rfl⟩ := len_two hl
  rw [hfl] at hf hfs
  simp only [List.map_cons, List.map_nil, List.cons.injEq, Prod.mk.injEq, and_true] at hfs
  obtain ⟨⟨e1, e2⟩, e3, e4⟩ := hfs
  have g1 := hf x (by simp)
  have g2 := hf y (by simp)
  rw [e1, e2, h1] at g1
  rw [e3, e4, h2] at g2
  exact ⟨a, b, rfl, g1, g2⟩
theorem dI {f : Nat} {a : D} (h : okD Try.prog f 3 [a]) : ∃ n, a = .v (.int .i64 n) := by
  cases f with
  | zero => exact h.elim
  | succ f =>
    simp only [okD, Try.underlying3] at h
    obtain ⟨n, h1, _⟩ := h
    simp only [List.cons.injEq, and_true] at h1
    exact ⟨n, h1⟩
theorem dN {f : Nat} {row : List D} (h : okD Try.prog f 74 row) : ∃ n : PVr1.Node, row = eN n ∧ Sm n.path := by
  cases f with
  | zero => exact h.elim
  | succ f =>
    obtain ⟨a, b, rfl, h1, h2⟩ := two h Try.underlying74 rfl (by kernel_rfl) (by kernel_rfl) (by kernel_rfl)
    obtain ⟨n, rfl⟩ := dI h1
    obtain ⟨l, hl, hs⟩ := dS h2
    simp only [List.cons.injEq, and_true] at hl
    subst hl
    exact ⟨⟨n, l⟩, rfl, hs⟩
theorem dNs {f : Nat} {row : List D} (h : okD Try.prog f 22 row) : ∃ l, row = [.s (eNs l)] ∧ SmN l := by
  cases f with
  | zero => exact h.elim
  | succ f =>
    simp only [okD, Try.underlying22] at h
    obtain ⟨es, rfl, hl, he⟩ := h
    obtain ⟨l, rfl, hp⟩ := list_of eN (fun n => Sm n.path) es fun r hr => dN (he r hr)
    have hm : maxLen = 9223372036854775807 := by kernel_rfl
    rw [hm] at hl
    exact ⟨l, rfl, by simpa using hl, hp⟩
theorem dNodes {f : Nat} {row : List D} (h : okD Try.prog f 24 row) : ∃ i l, row = [.v (.int .i64 i), .s (eNs l)] ∧ SmN l := by
  cases f with
  | zero => exact h.elim
  | succ f =>
    obtain ⟨a, b, rfl, h1, h2⟩ := two h Try.underlying24 rfl (by kernel_rfl) (by kernel_rfl) (by kernel_rfl)
    obtain ⟨n, rfl⟩ := dI h1
    obtain ⟨l, hl, hs⟩ := dNs h2
    simp only [List.cons.injEq, and_true] at hl
    subst hl
    exact ⟨n, l, rfl, hs⟩

/-! ### the run -/
theorem plain : plainB Try.prog [24, 3, 22, 74, 25, 9] = true := by kernel_rfl
theorem noExt (f : FuncId) (F : List AV → List PV.Obj → Option Res) (h : PVr1.Y.ext f = some F) : ExtOk PVr1.Y f F := by simp [PVr1.Y] at h

theorem law_calls {f : FuncId} {xs : List AV} (h : lim' PVr1.Y f xs [] = some ⟨[.v (.bool true)], []⟩) (hsig : (PVr1.sigs f).res = .one .bool) {w : World} {args : Array Value} (hsz : args.size = xs.length)
    (hv : ∀ i (h : i < xs.length), VAV w noG (obOf []) (fun _ => ⟨none, fun _ => undef⟩) (args.getD i undef) (xs[i])) : Calls Try.prog f args w fun e w' => e = .returned (.bool true) ∧ Below w.heap.size w w' := by
  have hok := lim_ok PVr1.Y noExt f xs [] _ h
  refine (hok.2 w noG (fun _ => ⟨none, fun _ => undef⟩) args { size := hsz, vals := hv, okObjs := fun n ob hn => by simp [obOf] at hn, own := fun b x h => by simp at h, nolim := fun b x h => by simp at h }).mono fun e w' hl => ?_
  obtain ⟨v, G', pl', rfl, L⟩ := hl
  obtain ⟨us, hr, ht⟩ := L.res
  have h0 := ht 0 (by simp)
  have hr : v = us 0 := by
    have : ResAt ((PVr1.sigs f).res) v us := hr
    rw [hsig] at this
    exact this
  have h0 : us 0 = .bool true := h0
  rw [hr, h0]
  exact ⟨rfl, L.os, L.tape, L.output, L.hsize, fun k hk => (L.base k hk rfl).1⟩

/-! ### the row -/
theorem own : ownKnob Try.prog.godebug = none := by kernel_rfl
theorem laidOut : laidOutB Try.prog = true := by kernel_rfl
theorem shutB {H : Type} {enc : TypeId × Value → H} {W : World} {base : Nat} {sp : Nat → Bool} {held : Bool} (b : Bool) : DataW.Trod enc Try.prog W base sp held 4 (.bool b) (.lit (.bool b)) [] := ⟨1, by simp [DataW.trod, Value.cells, Try.underlying4]⟩
set_option maxRecDepth 100000 in
theorem lifted (os : Os) (started : os.Started) (H : Type) (enc : TypeId × Value → H) :
    ReturnsInHanded {} Try.checked os 3 .any (Rows.fnExactNodesIdSpec.pre6 enc Try.prog Try.f3 Rows.fnExactNodesIdRow.domain false) (Rows.fnExactNodesIdSpec.post enc Try.prog Try.f3 false true false false) := by
  refine returnsInHanded_of_change_sized (C := Try.checked) own started (by kernel_rfl) Try.func3
    (ChangeSpec.witness6 (enc := enc) (C := Try.checked) false ⟨#[], #[.agg #[.int .i64 0, .slice none 0 0], .slice none 0 0], []⟩ 8 (by kernel_rfl) (by kernel_rfl) (by kernel_rfl) (by kernel_rfl)) ?_
  intro W base args ds gs before hval0 hW hcnd hsz0 _
  have hval : ∀ (j : Nat) t v, Try.f3.params[j]? = some t → args[j]? = some v → Value.okWide Try.prog W .any base t v := hval0
  have hW' := hW
  obtain ⟨p, q, hA0, hV, rfl, hfz, hnd⟩ := hW
  have hA : DataW.TrodAll enc Try.prog W 0 (fun _ => true) true Try.f3.params.toList args.toList ds p := hA0
  have hpar : Try.f3.params = #[24, 25] := rfl
  rw [hpar] at hA hval
  obtain ⟨v0, vs0, d0, ds0, p0, q0, hargs, rfl, rfl, h0, r0⟩ := trodAll_cons hA
  obtain ⟨v1, vs1, d1, ds1, p1, q1, rfl, rfl, rfl, h1, r1⟩ := trodAll_cons r0
  obtain ⟨rfl, rfl, rfl⟩ := trodAll_nil r1
  obtain rfl : args = #[v0, v1] := by cases args; simp_all
  obtain ⟨rfl, rfl⟩ := trodVars_none hV
  -- the first argument
  obtain ⟨cs0, rfl, hc0, _⟩ : ∃ cs, v0 = .agg cs ∧ cs.size = Try.prog.cellsOf 24 ∧ True := by
    have := hval 0 24 v0 rfl rfl
    simp only [Value.okWide, Try.underlying24] at this
    obtain ⟨cs, e1, e2, _⟩ := this
    exact ⟨cs, e1, e2, trivial⟩
  have k0 := h0
  have k1 := h1
  have lt0 : ∀ x ∈ p0, x.block < W.heap.size := by obtain ⟨m, hm⟩ := k0; exact DataW.trod_lt m _ _ _ hm
  have lt1 : ∀ x ∈ p1, x.block < W.heap.size := by obtain ⟨m, hm⟩ := k1; exact DataW.trod_lt m _ _ _ hm
  obtain ⟨m0, hm0⟩ := h0
  obtain ⟨m1, hm1⟩ := h1
  obtain ⟨row0, R0⟩ := trod_D plain m0 24 _ _ _ (by simp) hm0
  obtain ⟨row1, R1⟩ := trod_D plain m1 25 _ _ _ (by simp) hm1
  obtain ⟨i, l, rfl, hs⟩ := dNodes R0.ok
  obtain ⟨pa, rfl, hp⟩ := dS R1.ok
  have e0 : cs0.size = 2 := by have := R0.len; simpa [Value.cells] using this.symm
  -- the second one
  obtain ⟨a1, len1, cap1, rfl⟩ := okWide_slice Try.underlying25 (hval 1 25 v1 rfl rfl)
  have hgd : ∀ j, cs0.toList.getD j undef = cs0.getD j undef := fun j => by simp [List.getD, Array.getD_eq_getD_getElem?]
  refine (law_calls (f3_ok i l pa hs hp) rfl rfl ?_).mono fun e W' ⟨he, bel⟩ => ?_
  · intro j hj
    match j, hj with
    | 0, _ =>
      refine ⟨cs0, rfl, e0, fun j hj => ?_⟩
      have hr := R0.rel j (by simp only [Value.cells, Array.length_toList, e0]; exact hj)
      simp only [Value.cells] at hr
      rw [hgd] at hr
      match j, hj with
      | 0, _ => exact Rel.val hr
      | 1, _ => exact hr
    | 1, _ => exact R1.rel 0 (by simp [Value.cells])
  · subst he
    exact ⟨_, rfl, _, _, _, [], _, [], hW', trodAll_mk1 (shutB true),
      (trodAll_cons_mk (Below.trod laidOut (by kernel_rfl) (of_decide_eq_true (by kernel_rfl)) k0 bel lt0) (trodAll_cons_mk (Below.trod laidOut (by kernel_rfl) (of_decide_eq_true (by kernel_rfl)) k1 bel lt1) trodAll_mk0)), rfl, bel.frame _, fun h => by cases h⟩
theorem over : Rows.fnExactNodesIdRow.holds Try.pinned (OpenSpec.ofChange Rows.fnExactNodesIdSpec) :=
  OpenClaim.holds_of_wide 3 Try.f3 rfl rfl rfl rfl rfl rfl rfl ⟨rfl, rfl, rfl, rfl, rfl⟩ rfl rfl rfl rfl rfl (by kernel_rfl) Try.func3 (by kernel_rfl)
    (of_decide_eq_true (by kernel_rfl)) (by unfold Func.isWrapper; first | (rw [if_pos (by decide +kernel)]; kernel_rfl) | (rw [if_neg (by decide +kernel)]; exact ⟨rfl, rfl⟩))
    (fun os started H enc _ => lifted os started H enc)
theorem proved : Rows.FnExactNodesIdSaid := over
#print axioms proved
end Go.Proofs.Ytjhnnagcebcedaa.NodesIdRow
namespace Go.Proofs.Ytjhnnagcebcedaa
/-- The row, under a short name, for the claim. -/
theorem fnExactNodesId_holds : Rows.FnExactNodesIdSaid := NodesIdRow.proved
end Go.Proofs.Ytjhnnagcebcedaa
