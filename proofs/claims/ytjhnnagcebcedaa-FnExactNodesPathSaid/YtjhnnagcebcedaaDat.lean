/- A part of the proof: PvNat, PvR1a, PvR1b, PvR1c, PvR1d, PvR1e, PvR1f, PvR1g, PvR1h, PvR1i, PvR1j. -/
import Derived.Test.YtjhnnagcebcedaaPvC
import Derived.KernelRfl
import Derived.Laws.BitsLemmas
import Derived.Test.YtjhnnagcebcedaaRes
set_option linter.unusedSimpArgs false
set_option linter.unusedVariables false
/- Data of Go as data of Lean: what the equations' conditions come to. -/
namespace Go.PV

/-- A string's row. -/
def eS (s : ByteArray) : List D := [.v (.string s)]
abbrev eSs (l : List ByteArray) : List (List D) := l.map eS

theorem getD_map {α : Type} (f : α → List D) (l : List α) (k : Nat) (h : k < l.length) : (l.map f).getD k [] = f (l[k]) := by
  simp [List.getD_eq_getElem?_getD, h]

theorem LoopTo.get {X : Ctx} {fn : Nat} {b : Code} {S : St} {r : Ex × St} (h : LoopTo X fn b S r) : ∃ m0, ∀ m, m0 ≤ m → lpOf X fn m b S = some r := by
  obtain ⟨m0, h⟩ := h
  exact ⟨m0, fun m hm => h m hm m hm⟩
theorem RoundTo.at {X : Ctx} {fn rid : Nat} {b : Code} {S : St} {r : Ex × St} (hr : firstRegion b = rid) (h : ∀ m, evK X fn (lpOf X fn m) b S (outL (X.live fn rid)) = some r) : RoundTo X fn b S r := by
  subst hr
  exact ⟨0, fun m _ => h m⟩
theorem RoundTo.atm {X : Ctx} {fn rid : Nat} {b : Code} {S : St} {r : Ex × St} (hr : firstRegion b = rid) (h : ∃ m0, ∀ m, m0 ≤ m → evK X fn (lpOf X fn m) b S (outL (X.live fn rid)) = some r) : RoundTo X fn b S r := by
  subst hr
  exact h

theorem wrap_nat (n : Nat) (h : n < 9223372036854775807) : IntKind.i64.wrap ((n : Int) + 1) = ((n + 1 : Nat) : Int) := by
  rw [IntKind.wrap_i64]; omega
theorem wrap_pred (n : Nat) (h : n < 9223372036854775807) (h0 : 0 < n) : IntKind.i64.wrap ((n : Int) - 1) = ((n - 1 : Nat) : Int) := by
  rw [IntKind.wrap_i64]; omega
theorem wrap_in (n : Int) (h : -9223372036854775808 ≤ n ∧ n ≤ 9223372036854775807) : IntKind.i64.wrap n = n := by rw [IntKind.wrap_i64]; omega

@[simp] theorem str_v (s : ByteArray) : (D.v (.string s)).str = s := rfl
@[simp] theorem int_v (k : IntKind) (n : Int) : (D.v (.int k n)).int = n := rfl
@[simp] theorem es_s (es : List (List D)) : (D.s es).es = es := rfl
@[simp] theorem fits_s1 (s : ByteArray) (r : List D) : fitsRow [.str] (.v (.string s) :: r) 0 = true := by simp [fitsRow, CK.fits]
@[simp] theorem tint_v (k : IntKind) (n : Int) : (TC.v (.int k n)).int = n := rfl
@[simp] theorem tbool_v (b : Bool) : (TC.v (.bool b)).bool = b := rfl
@[simp] theorem tstr_v (b : ByteArray) : (TC.v (.string b)).str = b := rfl
@[simp] theorem tes_o (w : Own) (es : List (List D)) : (TC.o w es).es = es := rfl
@[simp] theorem tes_s (es : List (List D)) : (TC.s es).es = es := rfl
@[simp] theorem fits_b (b : Bool) : fitsCells [.bool] [TC.v (.bool b)] = true := rfl
@[simp] theorem fits_i (n : Int) : fitsCells [.int .i64] [TC.v (.int .i64 n)] = true := rfl
@[simp] theorem fits_o (es : List (List D)) : fitsCells [.own .deep] [TC.o .deep es] = true := rfl
@[simp] theorem fits_io (n : Int) (es : List (List D)) : fitsCells [.int .i64, .own .deep] [TC.v (.int .i64 n), TC.o .deep es] = true := rfl
end Go.PV
/- slices.Equal of strings. -/
namespace Go.PVr1
open Go.PV Go.Proofs

noncomputable abbrev XX : Ctx := Y.ctx (lim' Y)
abbrev tl (l : List ByteArray) : List (List UInt8) := l.map (·.toList)

abbrev H34 (a b : List ByteArray) (k : Nat) : St := mk 0 26 [(0, AV.one (A1.s (eSs a))), (1, AV.one (A1.s (eSs b))), (12, AV.one (A1.v (Value.int IntKind.i64 (a.length : Int)))), (13, AV.one (A1.v (Value.int IntKind.i64 (k : Int))))] []
theorem fr34_4 : firstRegion (bodyAt 4 c34) = 4 := by kernel_rfl

theorem drop_cons {α : Type} (l : List α) (k : Nat) (h : k < l.length) : l.drop k = l[k] :: l.drop (k + 1) := by simp

theorem l34 (a b : List ByteArray) (hab : a.length = b.length) (ha : a.length ≤ 9223372036854775807) : ∀ (d k : Nat), k + d = a.length →
    LoopTo XX 34 (bodyAt 4 c34) (H34 a b k) (if tl (a.drop k) = tl (b.drop k) then (.exit 0, mk 0 26 [] []) else (.ret, mk 0 26 [(4, .one (.v (.bool false)))] [])) := by
  intro d
  induction d with
  | zero =>
    intro k hk
    have hk : k = a.length := by omega
    subst hk
    rw [if_pos (by simp [hab])]
    exact .done (.at fr34_4 fun m => by rw [r34_4]; simp) (by simp)
  | succ d ih =>
    intro k hk
    have h1 : k < a.length := by omega
    have h2 : k < b.length := by omega
    have hr : ∀ m, evK XX 34 (lpOf XX 34 m) (bodyAt 4 c34) (H34 a b k) (outL (XX.live 34 4)) =
        bif a[k].toList == b[k].toList then some (.normal, H34 a b (k + 1)) else some (.ret, mk 0 26 [(4, .one (.v (.bool false)))] []) := fun m => by
      rw [r34_4]
      simp [h1, h2, eS, wrap_nat k (by omega), H34]
    by_cases he : a[k].toList = b[k].toList
    · simp only [he, beq_self_eq_true, cond_true] at hr
      have := ih (k + 1) (by omega)
      rw [drop_cons a k h1, drop_cons b k h2]
      simp only [tl, List.map_cons, he, List.cons.injEq, true_and]
      exact .step (.at fr34_4 hr) this
    · have he' : (a[k].toList == b[k].toList) = false := by simpa using he
      simp only [he', cond_false] at hr
      rw [drop_cons a k h1, drop_cons b k h2]
      simp only [tl, List.map_cons, List.cons.injEq, he, false_and, if_false]
      exact .done (.at fr34_4 hr) (by simp)

theorem f34_ok (a b : List ByteArray) (ha : a.length ≤ 9223372036854775807) : lim' Y 34 [.one (.s (eSs a)), .one (.s (eSs b))] [] = some ⟨[.v (.bool (decide (tl a = tl b)))], []⟩ := by
  by_cases hab : a.length = b.length
  · obtain ⟨m0, h⟩ := (l34 a b hab ha a.length 0 (by omega)).get
    refine lim_run rfl Try.func34 rfl (by kernel_rfl) ⟨m0, fun m hm => ?_⟩
    show evK XX 34 (lpOf XX 34 m) c34 _ _ = _
    rw [r34]
    have hc : (((eSs a).length : Int) != ((eSs b).length : Int)) = false := by simp [hab]
    rw [hc, cond_false]
    simp only [List.length_map]
    show (lpOf XX 34 m (bodyAt 4 c34) (H34 a b 0)).bind _ = _
    rw [h m hm, Option.bind_some]
    simp only [List.drop_zero]
    split
    · rename_i he
      rw [r34_4x]; simp [he]
    · rename_i he
      rw [r34_4r]; simp [he]
  · refine lim_run0 rfl Try.func34 rfl (by kernel_rfl) fun m => ?_
    show evK XX 34 (lpOf XX 34 m) c34 _ _ = _
    rw [r34]
    have h1 : ((a.length : Int) != (b.length : Int)) = true := by simp; omega
    have h2 : tl a ≠ tl b := fun h => hab (by have := congrArg List.length h; simpa using this)
    simp [h1, h2]
end Go.PVr1
/- How large the arguments are. -/
namespace Go.PVr1
open Go.PV Go.Proofs

structure Node where
  id : Int
  path : List ByteArray
def eN (n : Node) : List D := [.v (.int .i64 n.id), .s (eSs n.path)]
abbrev eNs (l : List Node) : List (List D) := l.map eN
@[simp] theorem fits_n (i : Int) (es : List (List D)) : fitsRow [CK.int IntKind.i64, CK.sl] [.v (.int .i64 i), .s es] 0 = true := rfl
@[simp] theorem fits_n1 (i : Int) (es : List (List D)) : fitsRow [CK.sl] [.v (.int .i64 i), .s es] 1 = true := rfl
@[simp] theorem fits_n0 (i : Int) (es : List (List D)) : fitsRow [CK.int IntKind.i64] [.v (.int .i64 i), .s es] 0 = true := rfl

/-- No list is longer than a number can tell. -/
def Sm (l : List ByteArray) : Prop := l.length ≤ 9223372036854775807 ∧ ∀ s ∈ l, s.size ≤ 9223372036854775807
def SmN (l : List Node) : Prop := l.length ≤ 9223372036854775807 ∧ ∀ n ∈ l, Sm n.path
abbrev Lim : Int := 1048576
def Lo (l : List ByteArray) : Prop := l.length ≤ 1048576 ∧ ∀ s ∈ l, s.size ≤ 1048576
def LoN (l : List Node) : Prop := l.length ≤ 1048576 ∧ ∀ n ∈ l, Lo n.path

theorem fr8_5 : firstRegion (bodyAt 5 c8) = 5 := by kernel_rfl
abbrev H8 (l : List ByteArray) (k : Nat) (x : Int) : St := mk 0 28 [(0, AV.one (A1.s (eSs l))), (1, AV.one (A1.v (Value.int IntKind.i64 x))), (5, AV.one (A1.v (Value.int IntKind.i64 (k : Int))))] []

theorem l8 (l : List ByteArray) (hs : Sm l) : ∀ (d k : Nat) (x : Int), k + d = l.length → 0 ≤ x → x ≤ Lim →
    (∃ y, LoopTo XX 8 (bodyAt 5 c8) (H8 l k x) (.exit 0, mk 0 28 [(1, .one (.v (.int .i64 y)))] []) ∧ 0 ≤ y ∧ y ≤ x ∧ ∀ s ∈ l.drop k, s.size ≤ 1048576) ∨
    ∃ y, LoopTo XX 8 (bodyAt 5 c8) (H8 l k x) (.ret, mk 0 28 [(1, .one (.v (.int .i64 y))), (4, .one (.v (.int .i64 (-1))))] []) := by
  intro d
  induction d with
  | zero =>
    intro k x hk h0 h1
    have hk : k = l.length := by omega
    subst hk
    exact .inl ⟨x, .done (.at fr8_5 fun m => by rw [r8_5]; simp) (by simp), h0, Int.le_refl _, by simp⟩
  | succ d ih =>
    intro k x hk h0 h1
    have hlt : k < l.length := by omega
    have hsz := hs.2 l[k] (List.getElem_mem hlt)
    have hL : (Lim : Int) = 1048576 := rfl
    have hw : IntKind.i64.wrap (x - (l[k].size : Int)) = x - (l[k].size : Int) := wrap_in _ (by omega)
    have hr : ∀ m, evK XX 8 (lpOf XX 8 m) (bodyAt 5 c8) (H8 l k x) (outL (XX.live 8 5)) =
        bif decide (x - (l[k].size : Int) < 0) then some (.ret, mk 0 28 [(1, .one (.v (.int .i64 (x - (l[k].size : Int))))), (4, .one (.v (.int .i64 (-1))))] [])
        else some (.normal, H8 l (k + 1) (x - (l[k].size : Int))) := fun m => by
      rw [r8_5]
      simp [hlt, eS, wrap_nat k (by have := hs.1; omega), H8, hw]
    by_cases hneg : x - (l[k].size : Int) < 0
    · simp only [hneg, decide_true, cond_true] at hr
      exact .inr ⟨_, .done (.at fr8_5 hr) (by simp)⟩
    · simp only [hneg, decide_false, cond_false] at hr
      rcases ih (k + 1) (x - (l[k].size : Int)) (by omega) (by omega) (by omega) with ⟨y, g1, g2, g3, g4⟩ | ⟨y, g1⟩
      · refine .inl ⟨y, .step (.at fr8_5 hr) g1, g2, by omega, fun s hsm => ?_⟩
        rw [drop_cons l k hlt] at hsm
        rcases List.mem_cons.1 hsm with rfl | hsm
        · omega
        · exact g4 s hsm
      · exact .inr ⟨y, .step (.at fr8_5 hr) g1⟩

theorem f8_ok (l : List ByteArray) (hs : Sm l) (x : Int) (h0 : 0 ≤ x) (h1 : x ≤ Lim) :
    ∃ y, lim' Y 8 [.one (.s (eSs l)), .one (.v (.int .i64 x))] [] = some ⟨[.v (.int .i64 y)], []⟩ ∧ y ≤ x ∧ (0 ≤ y → Lo l) := by
  have hl := hs.1
  have hL : (Lim : Int) = 1048576 := rfl
  have hw : IntKind.i64.wrap (x - (l.length : Int)) = x - (l.length : Int) := wrap_in _ (by omega)
  by_cases hneg : x - (l.length : Int) < 0
  · refine ⟨-1, lim_run0 rfl Try.func8 rfl (by kernel_rfl) fun m => ?_, by omega, fun h => by omega⟩
    show evK XX 8 (lpOf XX 8 m) c8 _ _ = _
    rw [r8]
    simp only [List.length_map, hw, hneg, decide_true, cond_true]
  · have hpre : ∀ m r, lpOf XX 8 m (bodyAt 5 c8) (H8 l 0 (x - (l.length : Int))) = some r → evK XX 8 (lpOf XX 8 m) c8 (initSt Try.f8 [.one (.s (eSs l)), .one (.v (.int .i64 x))] []) (outE XX 8 Try.f8) =
        evA XX 8 (lpOf XX 8 m) 5 c8 r.1 r.2 (outE XX 8 Try.f8) := fun m r h => by
      rw [r8]
      simp only [List.length_map, hw, hneg, decide_false, cond_false]
      show (lpOf XX 8 m (bodyAt 5 c8) (H8 l 0 (x - (l.length : Int)))).bind _ = _
      rw [h, Option.bind_some]
    rcases l8 l hs l.length 0 (x - (l.length : Int)) (by omega) (by omega) (by omega) with ⟨y, g1, g2, g3, g4⟩ | ⟨y, g1⟩
    · obtain ⟨m0, h⟩ := g1.get
      refine ⟨y, lim_run rfl Try.func8 rfl (by kernel_rfl) ⟨m0, fun m hm => (hpre m _ (h m hm)).trans (r8_5x ..)⟩, by omega, fun _ => ⟨by omega, fun s hsm => g4 s (by simpa using hsm)⟩⟩
    · obtain ⟨m0, h⟩ := g1.get
      exact ⟨-1, lim_run rfl Try.func8 rfl (by kernel_rfl) ⟨m0, fun m hm => (hpre m _ (h m hm)).trans (r8_5r ..)⟩, by omega, fun h => by omega⟩

theorem f50_ok (n : Node) (hs : Sm n.path) (x : Int) (h0 : 0 ≤ x) (h1 : x ≤ Lim) :
    ∃ y, lim' Y 50 [.g [.v (.int .i64 n.id), .s (eSs n.path)], .one (.v (.int .i64 x))] [] = some ⟨[.v (.int .i64 y)], []⟩ ∧ y ≤ x ∧ (0 ≤ y → Lo n.path) := by
  obtain ⟨y, g1, g2, g3⟩ := f8_ok n.path hs x h0 h1
  by_cases hneg : y < 0
  · refine ⟨-1, lim_run0 rfl Try.func50 rfl (by kernel_rfl) fun m => ?_, by omega, fun h => by omega⟩
    show evK XX 50 (lpOf XX 50 m) c50 _ _ = _
    rw [r50, g1]
    simp [hneg]
  · refine ⟨y, lim_run0 rfl Try.func50 rfl (by kernel_rfl) fun m => ?_, g2, g3⟩
    show evK XX 50 (lpOf XX 50 m) c50 _ _ = _
    rw [r50, g1]
    simp [hneg]

theorem fr29_5 : firstRegion (bodyAt 5 c29) = 5 := by kernel_rfl
abbrev H29 (l : List Node) (k : Nat) (x : Int) : St := mk 0 27 [(0, AV.one (A1.s (eNs l))), (1, AV.one (A1.v (Value.int IntKind.i64 x))), (5, AV.one (A1.v (Value.int IntKind.i64 (k : Int))))] []

theorem l29 (l : List Node) (hs : SmN l) : ∀ (d k : Nat) (x : Int), k + d = l.length → 0 ≤ x → x ≤ Lim →
    (∃ y, LoopTo XX 29 (bodyAt 5 c29) (H29 l k x) (.exit 0, mk 0 27 [(1, .one (.v (.int .i64 y)))] []) ∧ 0 ≤ y ∧ y ≤ x ∧ ∀ n ∈ l.drop k, Lo n.path) ∨
    ∃ y, LoopTo XX 29 (bodyAt 5 c29) (H29 l k x) (.ret, mk 0 27 [(1, .one (.v (.int .i64 y))), (4, .one (.v (.int .i64 (-1))))] []) := by
  intro d
  induction d with
  | zero =>
    intro k x hk h0 h1
    have hk : k = l.length := by omega
    subst hk
    exact .inl ⟨x, .done (.at fr29_5 fun m => by rw [r29_5]; simp) (by simp), h0, Int.le_refl _, by simp⟩
  | succ d ih =>
    intro k x hk h0 h1
    have hlt : k < l.length := by omega
    obtain ⟨y, g1, g2, g3⟩ := f50_ok l[k] (hs.2 _ (List.getElem_mem hlt)) x h0 h1
    have hr : ∀ m, evK XX 29 (lpOf XX 29 m) (bodyAt 5 c29) (H29 l k x) (outL (XX.live 29 5)) =
        bif decide (y < 0) then some (.ret, mk 0 27 [(1, .one (.v (.int .i64 y))), (4, .one (.v (.int .i64 (-1))))] [])
        else some (.normal, H29 l (k + 1) y) := fun m => by
      rw [r29_5]
      simp [hlt, eN, wrap_nat k (by have := hs.1; omega), H29, g1]
    by_cases hneg : y < 0
    · simp only [hneg, decide_true, cond_true] at hr
      exact .inr ⟨_, .done (.at fr29_5 hr) (by simp)⟩
    · simp only [hneg, decide_false, cond_false] at hr
      rcases ih (k + 1) y (by omega) (by omega) (by omega) with ⟨z, k1, k2, k3, k4⟩ | ⟨z, k1⟩
      · refine .inl ⟨z, .step (.at fr29_5 hr) k1, k2, by omega, fun s hsm => ?_⟩
        rw [drop_cons l k hlt] at hsm
        rcases List.mem_cons.1 hsm with rfl | hsm
        · exact g3 (by omega)
        · exact k4 s hsm
      · exact .inr ⟨z, .step (.at fr29_5 hr) k1⟩

theorem f29_ok (l : List Node) (hs : SmN l) (x : Int) (h0 : 0 ≤ x) (h1 : x ≤ Lim) :
    ∃ y, lim' Y 29 [.one (.s (eNs l)), .one (.v (.int .i64 x))] [] = some ⟨[.v (.int .i64 y)], []⟩ ∧ y ≤ x ∧ (0 ≤ y → LoN l) := by
  have hl := hs.1
  have hL : (Lim : Int) = 1048576 := rfl
  have hw : IntKind.i64.wrap (x - (l.length : Int)) = x - (l.length : Int) := wrap_in _ (by omega)
  by_cases hneg : x - (l.length : Int) < 0
  · refine ⟨-1, lim_run0 rfl Try.func29 rfl (by kernel_rfl) fun m => ?_, by omega, fun h => by omega⟩
    show evK XX 29 (lpOf XX 29 m) c29 _ _ = _
    rw [r29]
    simp only [List.length_map, hw, hneg, decide_true, cond_true]
  · have hpre : ∀ m r, lpOf XX 29 m (bodyAt 5 c29) (H29 l 0 (x - (l.length : Int))) = some r → evK XX 29 (lpOf XX 29 m) c29 (initSt Try.f29 [.one (.s (eNs l)), .one (.v (.int .i64 x))] []) (outE XX 29 Try.f29) =
        evA XX 29 (lpOf XX 29 m) 5 c29 r.1 r.2 (outE XX 29 Try.f29) := fun m r h => by
      rw [r29]
      simp only [List.length_map, hw, hneg, decide_false, cond_false]
      show (lpOf XX 29 m (bodyAt 5 c29) (H29 l 0 (x - (l.length : Int)))).bind _ = _
      rw [h, Option.bind_some]
    rcases l29 l hs l.length 0 (x - (l.length : Int)) (by omega) (by omega) (by omega) with ⟨y, g1, g2, g3, g4⟩ | ⟨y, g1⟩
    · obtain ⟨m0, h⟩ := g1.get
      refine ⟨y, lim_run rfl Try.func29 rfl (by kernel_rfl) ⟨m0, fun m hm => (hpre m _ (h m hm)).trans (r29_5x ..)⟩, by omega, fun _ => ⟨by omega, fun s hsm => g4 s (by simpa using hsm)⟩⟩
    · obtain ⟨m0, h⟩ := g1.get
      exact ⟨-1, lim_run rfl Try.func29 rfl (by kernel_rfl) ⟨m0, fun m hm => (hpre m _ (h m hm)).trans (r29_5r ..)⟩, by omega, fun h => by omega⟩

theorem f7_ok (i : Int) (l : List Node) (hs : SmN l) : ∃ y, lim' Y 7 [.g [.v (.int .i64 i), .s (eNs l)], .one (.v (.int .i64 Lim))] [] = some ⟨[.v (.int .i64 y)], []⟩ ∧ y ≤ Lim ∧ (0 ≤ y → LoN l) := by
  have hL : (Lim : Int) = 1048576 := rfl
  obtain ⟨y, g1, g2, g3⟩ := f29_ok l hs Lim (by decide) (Int.le_refl _)
  by_cases hneg : y < 0
  · refine ⟨-1, lim_run0 rfl Try.func7 rfl (by kernel_rfl) fun m => ?_, by omega, fun h => by omega⟩
    show evK XX 7 (lpOf XX 7 m) c7 _ _ = _
    rw [r7, g1]
    simp [hneg]
  · refine ⟨y, lim_run0 rfl Try.func7 rfl (by kernel_rfl) fun m => ?_, g2, g3⟩
    show evK XX 7 (lpOf XX 7 m) c7 _ _ = _
    rw [r7, g1]
    simp [hneg]
end Go.PVr1
/- Copies of the arguments, and that each is as it was. -/
namespace Go.PVr1
open Go.PV Go.Proofs

theorem fill_len {α : Type} (f : α → List D) (l : List α) (z : List D) (k : Nat) (hk : k ≤ l.length) : ((l.take k).map f ++ List.replicate (l.length - k) z).length = l.length := by
  simp; omega
theorem fill_get {α : Type} (f : α → List D) (l : List α) (z : List D) (k : Nat) (hk : k < l.length) : ((l.take k).map f ++ List.replicate (l.length - k) z).getD k [] = z := by
  have h1 : ((l.take k).map f).length = k := by simp; omega
  rw [List.getD_eq_getElem?_getD, List.getElem?_append_right (by omega), h1, Nat.sub_self, List.getElem?_replicate, if_pos (by omega)]
  rfl
theorem fill_set {α : Type} (f : α → List D) (l : List α) (z : List D) (k : Nat) (hk : k < l.length) :
    ((l.take k).map f ++ List.replicate (l.length - k) z).set k (f l[k]) = (l.take (k + 1)).map f ++ List.replicate (l.length - (k + 1)) z := by
  have h1 : ((l.take k).map f).length = k := by simp; omega
  have h2 : l.length - k = (l.length - (k + 1)) + 1 := by omega
  rw [List.set_append_right _ _ (by omega), h1, h2, List.replicate_succ, Nat.sub_self, List.set_cons_zero, List.take_succ_eq_append_getElem hk, List.map_append, List.append_assoc]
  rfl
theorem fill_zero {α : Type} (f : α → List D) (l : List α) (z : List D) : (l.take 0).map f ++ List.replicate (l.length - 0) z = List.replicate l.length z := by simp
theorem fill_all {α : Type} (f : α → List D) (l : List α) (z : List D) : (l.take l.length).map f ++ List.replicate (l.length - l.length) z = l.map f := by simp

/-! ### lists of strings -/
def zS : List D := [D.v (Value.string ⟨#[]⟩)]
theorem fr11_3 : firstRegion (bodyAt 3 c11) = 3 := by kernel_rfl
abbrev H11 (l : List ByteArray) (k : Nat) (es : List (List D)) : St :=
  mk 0 22 [(0, AV.one (A1.s (eSs l))), (3, AV.one (A1.r 3 [] 0)), (4, AV.one (A1.v (Value.int IntKind.i64 (k : Int))))] [(3, some { kind := Kind.virt, row := [D.s es], fl := [Own.deep] })]
abbrev fS (l : List ByteArray) (k : Nat) : List (List D) := (l.take k).map eS ++ List.replicate (l.length - k) zS

theorem l11 (l : List ByteArray) (hl : l.length ≤ 9223372036854775807) : ∀ (d k : Nat), k + d = l.length →
    LoopTo XX 11 (bodyAt 3 c11) (H11 l k (fS l k)) (.exit 0, mk 0 22 [(3, .one (.r 3 [] 0))] [(3, some { kind := Kind.virt, row := [D.s (eSs l)], fl := [Own.deep] })]) := by
  intro d
  induction d with
  | zero =>
    intro k hk
    have hk : k = l.length := by omega
    subst hk
    refine .done (.at fr11_3 fun m => ?_) (by simp)
    rw [r11_3, fS, fill_all]
    simp
  | succ d ih =>
    intro k hk
    have hlt : k < l.length := by omega
    have hr : ∀ m, evK XX 11 (lpOf XX 11 m) (bodyAt 3 c11) (H11 l k (fS l k)) (outL (XX.live 11 3)) = some (.normal, H11 l (k + 1) (fS l (k + 1))) := fun m => by
      rw [r11_3]
      have h1 : (fS l k).getD k [] = zS := fill_get eS l zS k hlt
      have h2 : (fS l k).length = l.length := fill_len eS l zS k (by omega)
      have h3 : (fS l k).set k (D.v (Value.string l[k]) :: []) = fS l (k + 1) := fill_set eS l zS k hlt
      simp only [Int.toNat_natCast, getD_map eS l k hlt, h1, h2]
      simp [hlt, eS, zS, wrap_nat k (by omega), H11, h3]
    exact .step (.at fr11_3 hr) (ih (k + 1) (by omega))

theorem f11_ok (l : List ByteArray) (hl : Lo l) : lim' Y 11 [.one (.s (eSs l))] [] = some ⟨[.o .deep (eSs l)], []⟩ := by
  have hl1 := hl.1
  obtain ⟨m0, h⟩ := (l11 l (by omega) l.length 0 (by omega)).get
  refine lim_run rfl Try.func11 rfl (by kernel_rfl) ⟨m0, fun m hm => ?_⟩
  show evK XX 11 (lpOf XX 11 m) c11 _ _ = _
  rw [r11]
  have hc : (decide (((eSs l).length : Int) * ((↑16 : Int) + 1) ≤ 2 ^ 46) && true && true) = true := by simp; omega
  rw [hc, cond_true]
  simp only [List.length_map, Int.toNat_natCast]
  rw [show List.replicate l.length [D.v (Value.string { data := #[] })] = fS l 0 from (fill_zero eS l zS).symm]
  show (lpOf XX 11 m (bodyAt 3 c11) (H11 l 0 (fS l 0))).bind _ = _
  rw [h m hm, Option.bind_some]
  exact r11_3x ..

theorem f54_ok (n : Node) (hl : Lo n.path) : lim' Y 54 [.g [.v (.int .i64 n.id), .s (eSs n.path)]] [] = some ⟨[.v (.int .i64 n.id), .o .deep (eSs n.path)], []⟩ := by
  refine lim_run0 rfl Try.func54 rfl (by kernel_rfl) fun m => ?_
  show evK XX 54 (lpOf XX 54 m) c54 _ _ = _
  rw [r54, f11_ok n.path hl]
  simp

/-! ### lists of nodes -/
def zN : List D := [D.v (Value.int IntKind.i64 0), D.s []]
theorem fr32_3 : firstRegion (bodyAt 3 c32) = 3 := by kernel_rfl
abbrev H32 (l : List Node) (k : Nat) (es : List (List D)) : St :=
  mk 0 23 [(0, AV.one (A1.s (eNs l))), (3, AV.one (A1.r 3 [] 0)), (4, AV.one (A1.v (Value.int IntKind.i64 (k : Int))))] [(3, some { kind := Kind.virt, row := [D.s es], fl := [Own.deep] })]
abbrev fN (l : List Node) (k : Nat) : List (List D) := (l.take k).map eN ++ List.replicate (l.length - k) zN

theorem l32 (l : List Node) (hl : LoN l) : ∀ (d k : Nat), k + d = l.length →
    LoopTo XX 32 (bodyAt 3 c32) (H32 l k (fN l k)) (.exit 0, mk 0 23 [(3, .one (.r 3 [] 0))] [(3, some { kind := Kind.virt, row := [D.s (eNs l)], fl := [Own.deep] })]) := by
  have hl1 := hl.1
  intro d
  induction d with
  | zero =>
    intro k hk
    have hk : k = l.length := by omega
    subst hk
    refine .done (.at fr32_3 fun m => ?_) (by simp)
    rw [r32_3, fN, fill_all]
    simp
  | succ d ih =>
    intro k hk
    have hlt : k < l.length := by omega
    have hg := f54_ok l[k] (hl.2 _ (List.getElem_mem hlt))
    have hr : ∀ m, evK XX 32 (lpOf XX 32 m) (bodyAt 3 c32) (H32 l k (fN l k)) (outL (XX.live 32 3)) = some (.normal, H32 l (k + 1) (fN l (k + 1))) := fun m => by
      rw [r32_3]
      have h1 : (fN l k).getD k [] = zN := fill_get eN l zN k hlt
      have h2 : (fN l k).length = l.length := fill_len eN l zN k (by omega)
      have h3 : (fN l k).set k (D.v (Value.int IntKind.i64 l[k].id) :: D.s (eSs l[k].path) :: []) = fN l (k + 1) := fill_set eN l zN k hlt
      simp only [Int.toNat_natCast, getD_map eN l k hlt, h1, h2]
      simp [hlt, eN, zN, wrap_nat k (by omega), H32, h3, hg]
    exact .step (.at fr32_3 hr) (ih (k + 1) (by omega))

theorem f32_ok (l : List Node) (hl : LoN l) : lim' Y 32 [.one (.s (eNs l))] [] = some ⟨[.o .deep (eNs l)], []⟩ := by
  have hl1 := hl.1
  obtain ⟨m0, h⟩ := (l32 l hl l.length 0 (by omega)).get
  refine lim_run rfl Try.func32 rfl (by kernel_rfl) ⟨m0, fun m hm => ?_⟩
  show evK XX 32 (lpOf XX 32 m) c32 _ _ = _
  rw [r32]
  have hc : (decide (((eNs l).length : Int) * ((↑32 : Int) + 1) ≤ 2 ^ 46) && true && true) = true := by simp; omega
  rw [hc, cond_true]
  simp only [List.length_map, Int.toNat_natCast]
  rw [show List.replicate l.length [D.v (Value.int IntKind.i64 0), D.s []] = fN l 0 from (fill_zero eN l zN).symm]
  show (lpOf XX 32 m (bodyAt 3 c32) (H32 l 0 (fN l 0))).bind _ = _
  rw [h m hm, Option.bind_some]
  exact r32_3x ..

theorem f10_ok (i : Int) (l : List Node) (hl : LoN l) : lim' Y 10 [.g [.v (.int .i64 i), .s (eNs l)]] [] = some ⟨[.v (.int .i64 i), .o .deep (eNs l)], []⟩ := by
  refine lim_run0 rfl Try.func10 rfl (by kernel_rfl) fun m => ?_
  show evK XX 10 (lpOf XX 10 m) c10 _ _ = _
  rw [r10, f32_ok l hl]
  simp

/-! ### alike -/
theorem fr14_4 : firstRegion (bodyAt 4 c14) = 4 := by kernel_rfl
abbrev H14 (a : List ByteArray) (k : Nat) : St := mk 0 26 [(0, AV.one (A1.s (eSs a))), (1, AV.one (A1.s (eSs a))), (5, AV.one (A1.v (Value.int IntKind.i64 (k : Int))))] []
theorem l14 (a : List ByteArray) (ha : a.length ≤ 9223372036854775807) : ∀ (d k : Nat), k + d = a.length → LoopTo XX 14 (bodyAt 4 c14) (H14 a k) (.exit 0, mk 0 26 [] []) := by
  intro d
  induction d with
  | zero =>
    intro k hk
    have hk : k = a.length := by omega
    subst hk
    exact .done (.at fr14_4 fun m => by rw [r14_4]; simp) (by simp)
  | succ d ih =>
    intro k hk
    have h1 : k < a.length := by omega
    have hr : ∀ m, evK XX 14 (lpOf XX 14 m) (bodyAt 4 c14) (H14 a k) (outL (XX.live 14 4)) = some (.normal, H14 a (k + 1)) := fun m => by
      rw [r14_4]
      simp [h1, eS, wrap_nat k (by omega), H14]
    exact .step (.at fr14_4 hr) (ih (k + 1) (by omega))
theorem f14_refl (a : List ByteArray) (ha : Lo a) : lim' Y 14 [.one (.s (eSs a)), .one (.s (eSs a))] [] = some ⟨[.v (.bool true)], []⟩ := by
  have hl1 := ha.1
  obtain ⟨m0, h⟩ := (l14 a (by omega) a.length 0 (by omega)).get
  refine lim_run rfl Try.func14 rfl (by kernel_rfl) ⟨m0, fun m hm => ?_⟩
  show evK XX 14 (lpOf XX 14 m) c14 _ _ = _
  rw [r14, bne_self_eq_false, cond_false]
  show (lpOf XX 14 m (bodyAt 4 c14) (H14 a 0)).bind _ = _
  rw [h m hm, Option.bind_some]
  exact r14_4x ..
theorem f58_refl (n : Node) (ha : Lo n.path) : lim' Y 58 [.g [.v (.int .i64 n.id), .s (eSs n.path)], .g [.v (.int .i64 n.id), .s (eSs n.path)]] [] = some ⟨[.v (.bool true)], []⟩ := by
  refine lim_run0 rfl Try.func58 rfl (by kernel_rfl) fun m => ?_
  show evK XX 58 (lpOf XX 58 m) c58 _ _ = _
  rw [r58, f14_refl n.path ha]
  simp
theorem fr35_4 : firstRegion (bodyAt 4 c35) = 4 := by kernel_rfl
abbrev H35 (a : List Node) (k : Nat) : St := mk 0 27 [(0, AV.one (A1.s (eNs a))), (1, AV.one (A1.s (eNs a))), (5, AV.one (A1.v (Value.int IntKind.i64 (k : Int))))] []
theorem l35 (a : List Node) (ha : LoN a) : ∀ (d k : Nat), k + d = a.length → LoopTo XX 35 (bodyAt 4 c35) (H35 a k) (.exit 0, mk 0 27 [] []) := by
  have hl1 := ha.1
  intro d
  induction d with
  | zero =>
    intro k hk
    have hk : k = a.length := by omega
    subst hk
    exact .done (.at fr35_4 fun m => by rw [r35_4]; simp) (by simp)
  | succ d ih =>
    intro k hk
    have h1 : k < a.length := by omega
    have hg := f58_refl a[k] (ha.2 _ (List.getElem_mem h1))
    have hr : ∀ m, evK XX 35 (lpOf XX 35 m) (bodyAt 4 c35) (H35 a k) (outL (XX.live 35 4)) = some (.normal, H35 a (k + 1)) := fun m => by
      rw [r35_4]
      simp [h1, eN, wrap_nat k (by omega), H35, hg]
    exact .step (.at fr35_4 hr) (ih (k + 1) (by omega))
theorem f35_refl (a : List Node) (ha : LoN a) : lim' Y 35 [.one (.s (eNs a)), .one (.s (eNs a))] [] = some ⟨[.v (.bool true)], []⟩ := by
  obtain ⟨m0, h⟩ := (l35 a ha a.length 0 (by omega)).get
  refine lim_run rfl Try.func35 rfl (by kernel_rfl) ⟨m0, fun m hm => ?_⟩
  show evK XX 35 (lpOf XX 35 m) c35 _ _ = _
  rw [r35, bne_self_eq_false, cond_false]
  show (lpOf XX 35 m (bodyAt 4 c35) (H35 a 0)).bind _ = _
  rw [h m hm, Option.bind_some]
  exact r35_4x ..
theorem f13_refl (i : Int) (l : List Node) (hl : LoN l) : lim' Y 13 [.g [.v (.int .i64 i), .s (eNs l)], .g [.v (.int .i64 i), .s (eNs l)]] [] = some ⟨[.v (.bool true)], []⟩ := by
  refine lim_run0 rfl Try.func13 rfl (by kernel_rfl) fun m => ?_
  show evK XX 13 (lpOf XX 13 m) c13 _ _ = _
  rw [r13, f35_refl l hl]
  simp
end Go.PVr1
/- Names, paths, order. -/
namespace Go.PVr1
open Go.PV Go.Proofs

/-! ### loops that stop at the first of its kind -/
def firstB (f : Nat → Option (Ex × St)) : Nat → Nat → Option (Ex × St)
  | _, 0 => none
  | k, d + 1 => match f k with
    | some r => some r
    | none => firstB f (k + 1) d
theorem loop_first {X : Ctx} {fn n : Nat} {b : Code} (H : Nat → St) (f : Nat → Option (Ex × St)) (e : Ex × St) (he : e.1 ≠ .normal) (hf : ∀ k r, f k = some r → r.1 ≠ .normal) (hend : RoundTo X fn b (H n) e)
    (hstep : ∀ k, k < n → RoundTo X fn b (H k) ((f k).getD (.normal, H (k + 1)))) : ∀ d k, k + d = n → LoopTo X fn b (H k) ((firstB f k d).getD e) := by
  intro d
  induction d with
  | zero =>
    intro k hk
    have : k = n := by omega
    subst this
    exact .done hend he
  | succ d ih =>
    intro k hk
    have hs := hstep k (by omega)
    simp only [firstB]
    cases hfk : f k with
    | some r =>
      rw [hfk] at hs
      exact .done hs (hf k r hfk)
    | none =>
      rw [hfk] at hs
      exact .step hs (ih (k + 1) (by omega))
def allB (p : Nat → Bool) : Nat → Nat → Bool
  | _, 0 => true
  | k, d + 1 => p k && allB p (k + 1) d
theorem firstB_all (p : Nat → Bool) (c e : Ex × St) : ∀ d k, (firstB (fun k => bif p k then none else some c) k d).getD e = bif allB p k d then e else c := by
  intro d
  induction d with
  | zero => intro k; rfl
  | succ d ih =>
    intro k
    simp only [firstB, allB]
    cases p k with
    | true => simp only [cond_true, Bool.true_and]; exact ih (k + 1)
    | false => rfl
theorem allB_iff (p : Nat → Bool) : ∀ d k, allB p k d = true ↔ ∀ j, k ≤ j → j < k + d → p j = true := by
  intro d
  induction d with
  | zero => intro k; simp only [allB, true_iff]; intro j h1 h2; omega
  | succ d ih =>
    intro k
    simp only [allB, Bool.and_eq_true, ih]
    constructor
    · rintro ⟨h1, h2⟩ j h3 h4
      by_cases hj : j = k
      · rw [hj]; exact h1
      · exact h2 j (by omega) (by omega)
    · intro h
      exact ⟨h k (by omega) (by omega), fun j h1 h2 => h j (by omega) (by omega)⟩
theorem allB_congr {p q : Nat → Bool} (d k : Nat) (h : ∀ j, k ≤ j → j < k + d → p j = q j) : allB p k d = allB q k d := by
  rw [Bool.eq_iff_iff, allB_iff, allB_iff]
  constructor
  · intro h1 j h2 h3; rw [← h j h2 h3]; exact h1 j h2 h3
  · intro h1 j h2 h3; rw [h j h2 h3]; exact h1 j h2 h3

/-! ### within -/
theorem f51_ok (a b c : Int) : lim' Y 51 [.one (.v (.int .i64 a)), .one (.v (.int .i64 b)), .one (.v (.int .i64 c))] [] = some ⟨[.v (.bool (decide (b ≤ a) && decide (a ≤ c)))], []⟩ := by
  refine lim_run0 rfl Try.func51 rfl (by kernel_rfl) fun m => ?_
  show evK XX 51 (lpOf XX 51 m) c51 _ _ = _
  rw [r51]
  by_cases h : b ≤ a <;> simp [h]
theorem f57_ok (a b c : Int) : lim' Y 57 [.one (.v (.int .i64 a)), .one (.v (.int .i64 b)), .one (.v (.int .i64 c))] [] = some ⟨[.v (.bool (decide (b ≤ a) && decide (a ≤ c)))], []⟩ := by
  refine lim_run0 rfl Try.func57 rfl (by kernel_rfl) fun m => ?_
  show evK XX 57 (lpOf XX 57 m) c57 _ _ = _
  rw [r57]
  by_cases h : b ≤ a <;> simp [h]

/-! ### names -/
def okc (c : Int) : Bool := (decide (97 ≤ c) && decide (c ≤ 122)) || (decide (48 ≤ c) && decide (c ≤ 57))
def nameB (s : ByteArray) : Bool := allB (fun k => okc (byteAt s k)) 0 s.size && (decide (1 ≤ (s.size : Int)) && decide ((s.size : Int) ≤ 5))

theorem fr67_2 : firstRegion (bodyAt 2 c67) = 2 := by kernel_rfl
abbrev H67 (s : ByteArray) (k : Nat) : St := mk 0 36 [(0, AV.one (A1.v (Value.string s))), (3, AV.one (A1.v (Value.int IntKind.i64 (k : Int))))] []
theorem f67_ok (s : ByteArray) (hs : s.size ≤ 9223372036854775807) : lim' Y 67 [.one (.v (.string s))] [] = some ⟨[.v (.bool (nameB s))], []⟩ := by
  have hl := loop_first (X := XX) (fn := 67) (b := bodyAt 2 c67) (n := s.size) (H67 s) (fun k => bif okc (byteAt s k) then none else some (.ret, mk 0 36 [(0, AV.one (A1.v (Value.string s))), (2, AV.one (A1.v (Value.bool false)))] []))
    (.exit 0, mk 0 36 [(0, AV.one (A1.v (Value.string s)))] []) (by simp) (fun k r h => by cases hk : okc (byteAt s k) <;> simp [hk] at h; subst h; simp) (.at fr67_2 fun m => by rw [r67_2]; simp)
    (fun k hk => .at fr67_2 fun m => by
      rw [r67_2]
      simp only [Int.toNat_natCast]
      by_cases h1 : 97 ≤ byteAt s k <;> by_cases h2 : byteAt s k ≤ 122 <;> by_cases h3 : 48 ≤ byteAt s k <;> by_cases h4 : byteAt s k ≤ 57 <;> simp [h1, h2, h3, h4, hk, okc, wrap_nat k (by omega), H67]) s.size 0 (by omega)
  rw [firstB_all] at hl
  obtain ⟨m0, h⟩ := hl.get
  refine lim_run rfl Try.func67 rfl (by kernel_rfl) ⟨m0, fun m hm => ?_⟩
  show evK XX 67 (lpOf XX 67 m) c67 _ _ = _
  rw [r67]
  show (lpOf XX 67 m (bodyAt 2 c67) (H67 s 0)).bind _ = _
  rw [h m hm, Option.bind_some]
  unfold nameB
  cases allB (fun k => okc (byteAt s k)) 0 s.size with
  | true => rw [cond_true, r67_2x, f51_ok]; simp
  | false => rw [cond_false, r67_2r]; rfl

theorem fr68_2 : firstRegion (bodyAt 2 c68) = 2 := by kernel_rfl
abbrev H68 (s : ByteArray) (k : Nat) : St := mk 0 35 [(0, AV.one (A1.v (Value.string s))), (5, AV.one (A1.v (Value.int IntKind.i64 (s.size : Int)))), (6, AV.one (A1.v (Value.int IntKind.i64 (k : Int))))] []
theorem f68_ok (s : ByteArray) (hs : s.size ≤ 9223372036854775807) : lim' Y 68 [.one (.v (.string s))] [] = some ⟨[.v (.bool (nameB s))], []⟩ := by
  have hl := loop_first (X := XX) (fn := 68) (b := bodyAt 2 c68) (n := s.size) (H68 s) (fun k => bif okc (byteAt s k) then none else some (.ret, mk 0 35 [(0, AV.one (A1.v (Value.string s))), (2, AV.one (A1.v (Value.bool false)))] []))
    (.exit 0, mk 0 35 [(0, AV.one (A1.v (Value.string s)))] []) (by simp) (fun k r h => by cases hk : okc (byteAt s k) <;> simp [hk] at h; subst h; simp) (.at fr68_2 fun m => by rw [r68_2]; simp)
    (fun k hk => .at fr68_2 fun m => by
      rw [r68_2]
      simp only [Int.toNat_natCast]
      by_cases h1 : 97 ≤ byteAt s k
      · have e1 : ¬ byteAt s k < 97 := by omega
        have e3 : ¬ byteAt s k < 48 := by omega
        have e4 : 57 < byteAt s k := by omega
        have e5 : ¬ byteAt s k ≤ 57 := by omega
        by_cases h2 : byteAt s k ≤ 122
        · have e2 : ¬ 122 < byteAt s k := by omega
          simp [h1, h2, hk, okc, wrap_nat k (by omega), H68, e1, e2]
        · have e2 : 122 < byteAt s k := by omega
          simp [h1, h2, hk, okc, wrap_nat k (by omega), H68, e1, e2, e3, e4, e5]
      · have e1 : byteAt s k < 97 := by omega
        by_cases h3 : 48 ≤ byteAt s k
        · have e3 : ¬ byteAt s k < 48 := by omega
          by_cases h4 : byteAt s k ≤ 57
          · have e4 : ¬ 57 < byteAt s k := by omega
            simp [h1, h3, h4, hk, okc, wrap_nat k (by omega), H68, e1, e3, e4]
          · have e4 : 57 < byteAt s k := by omega
            simp [h1, h3, h4, hk, okc, wrap_nat k (by omega), H68, e1, e3, e4]
        · have e3 : byteAt s k < 48 := by omega
          simp [h1, h3, hk, okc, wrap_nat k (by omega), H68, e1, e3]) s.size 0 (by omega)
  rw [firstB_all] at hl
  obtain ⟨m0, h⟩ := hl.get
  refine lim_run rfl Try.func68 rfl (by kernel_rfl) ⟨m0, fun m hm => ?_⟩
  show evK XX 68 (lpOf XX 68 m) c68 _ _ = _
  rw [r68]
  show (lpOf XX 68 m (bodyAt 2 c68) (H68 s 0)).bind _ = _
  rw [h m hm, Option.bind_some]
  unfold nameB
  cases allB (fun k => okc (byteAt s k)) 0 s.size with
  | true => rw [cond_true, r68_2x, f57_ok]; simp
  | false => rw [cond_false, r68_2r]; rfl
end Go.PVr1
/- Paths: their names, their order; the id of a path. -/
namespace Go.PVr1
open Go.PV Go.Proofs

def gS (l : List ByteArray) (k : Nat) : ByteArray := l.getD k ⟨#[]⟩
theorem gS_lt {l : List ByteArray} {k : Nat} (h : k < l.length) : l[k] = gS l k := by simp [gS, List.getD_eq_getElem?_getD, h]
def gN (l : List Node) (k : Nat) : Node := l.getD k ⟨0, []⟩
theorem gN_lt {l : List Node} {k : Nat} (h : k < l.length) : l[k] = gN l k := by simp [gN, List.getD_eq_getElem?_getD, h]
theorem bif_none {p : Bool} {c r : Ex × St} (hc : c.1 ≠ .normal) (h : (bif p then none else some c) = some r) : r.1 ≠ .normal := by
  cases p <;> simp at h; subst h; exact hc
theorem bif_some {p : Bool} {c r : Ex × St} (hc : c.1 ≠ .normal) (h : (bif p then some c else none) = some r) : r.1 ≠ .normal := by
  cases p <;> simp at h; subst h; exact hc

def fstB (p : Nat → Bool) : Nat → Nat → Option Nat
  | _, 0 => none
  | k, d + 1 => bif p k then some k else fstB p (k + 1) d
theorem firstB_fst (p : Nat → Bool) (g : Nat → Ex × St) : ∀ d k, firstB (fun k => bif p k then some (g k) else none) k d = (fstB p k d).map g := by
  intro d
  induction d with
  | zero => intro k; rfl
  | succ d ih =>
    intro k
    simp only [firstB, fstB]
    cases p k with
    | true => rfl
    | false => simp only [cond_false]; exact ih (k + 1)
theorem fstB_range (p : Nat → Bool) : ∀ d k j, fstB p k d = some j → k ≤ j ∧ j < k + d ∧ p j = true := by
  intro d
  induction d with
  | zero => intro k j h; simp [fstB] at h
  | succ d ih =>
    intro k j h
    simp only [fstB] at h
    cases hp : p k with
    | true => rw [hp] at h; simp at h; subst h; exact ⟨Nat.le_refl _, by omega, hp⟩
    | false =>
      rw [hp] at h
      obtain ⟨h1, h2, h3⟩ := ih (k + 1) j h
      exact ⟨by omega, by omega, h3⟩
theorem firstB_split (f : Nat → Option (Ex × St)) : ∀ d1 d2 k, firstB f k (d1 + d2) = match firstB f k d1 with | some r => some r | none => firstB f (k + d1) d2 := by
  intro d1
  induction d1 with
  | zero => intro d2 k; simp [firstB]
  | succ d1 ih =>
    intro d2 k
    rw [show d1 + 1 + d2 = (d1 + d2) + 1 from by omega]
    simp only [firstB]
    cases f k with
    | some r => rfl
    | none => simp only []; rw [ih d2 (k + 1), show k + 1 + d1 = k + (d1 + 1) from by omega]
theorem firstB_congr {f g : Nat → Option (Ex × St)} : ∀ d k, (∀ j, k ≤ j → j < k + d → f j = g j) → firstB f k d = firstB g k d := by
  intro d
  induction d with
  | zero => intro k _; rfl
  | succ d ih =>
    intro k h
    simp only [firstB]
    rw [h k (by omega) (by omega), ih (k + 1) (fun j h1 h2 => h j (by omega) (by omega))]

/-! ### paths -/
def pathB (l : List ByteArray) : Bool := allB (fun k => nameB (gS l k)) 0 l.length && (decide (1 ≤ (l.length : Int)) && decide ((l.length : Int) ≤ 4))

theorem fr52_2 : firstRegion (bodyAt 2 c52) = 2 := by kernel_rfl
abbrev H52 (l : List ByteArray) (k : Nat) : St := mk 0 19 [(0, AV.one (A1.s (eSs l))), (3, AV.one (A1.v (Value.int IntKind.i64 (k : Int))))] []
theorem f52_ok (l : List ByteArray) (hs : Sm l) : lim' Y 52 [.one (.s (eSs l))] [] = some ⟨[.v (.bool (pathB l))], []⟩ := by
  have hl1 := hs.1
  have hl := loop_first (X := XX) (fn := 52) (b := bodyAt 2 c52) (n := l.length) (H52 l) (fun k => bif nameB (gS l k) then none else some (.ret, mk 0 19 [(0, AV.one (A1.s (eSs l))), (2, AV.one (A1.v (Value.bool false)))] []))
    (.exit 0, mk 0 19 [(0, AV.one (A1.s (eSs l)))] []) (by simp) (fun k r h => bif_none (by simp) h) (.at fr52_2 fun m => by rw [r52_2]; simp)
    (fun k hk => .at fr52_2 fun m => by
      rw [r52_2]
      have hg := f67_ok l[k] (hs.2 _ (List.getElem_mem hk))
      simp only [Int.toNat_natCast, getD_map eS l k hk]
      rw [← gS_lt hk]
      cases hn : nameB l[k] <;> rw [hn] at hg <;> simp [hk, eS, hg, wrap_nat k (by omega), H52]) l.length 0 (by omega)
  rw [firstB_all] at hl
  obtain ⟨m0, h⟩ := hl.get
  refine lim_run rfl Try.func52 rfl (by kernel_rfl) ⟨m0, fun m hm => ?_⟩
  show evK XX 52 (lpOf XX 52 m) c52 _ _ = _
  rw [r52]
  show (lpOf XX 52 m (bodyAt 2 c52) (H52 l 0)).bind _ = _
  rw [h m hm, Option.bind_some]
  unfold pathB
  cases allB (fun k => nameB (gS l k)) 0 l.length with
  | true => rw [cond_true, r52_2x, f51_ok]; simp
  | false => rw [cond_false, r52_2r]; rfl

theorem fr55_2 : firstRegion (bodyAt 2 c55) = 2 := by kernel_rfl
abbrev H55 (l : List ByteArray) (k : Nat) : St :=
  mk 0 21 [(0, AV.one (A1.s (eSs l))), (1, AV.one (A1.v (Value.int IntKind.i64 1))), (7, AV.one (A1.s (eSs l))), (8, AV.one (A1.v (Value.int IntKind.i64 (l.length : Int)))), (9, AV.one (A1.v (Value.int IntKind.i64 (k : Int))))] []
theorem f55_ok (l : List ByteArray) (hs : Sm l) : lim' Y 55 [.one (.s (eSs l)), .one (.v (.int .i64 1))] [] = some ⟨[.v (.bool (pathB l))], []⟩ := by
  have hl1 := hs.1
  have hl := loop_first (X := XX) (fn := 55) (b := bodyAt 2 c55) (n := l.length) (H55 l)
    (fun k => bif nameB (gS l k) then none else some (.ret, mk 0 21 [(0, AV.one (A1.s (eSs l))), (1, AV.one (A1.v (Value.int IntKind.i64 1))), (4, AV.one (A1.v (Value.bool false)))] []))
    (.exit 0, mk 0 21 [(0, AV.one (A1.s (eSs l))), (1, AV.one (A1.v (Value.int IntKind.i64 1)))] []) (by simp) (fun k r h => bif_none (by simp) h) (.at fr55_2 fun m => by rw [r55_2]; simp)
    (fun k hk => .at fr55_2 fun m => by
      rw [r55_2]
      have hg := f68_ok l[k] (hs.2 _ (List.getElem_mem hk))
      simp only [Int.toNat_natCast, getD_map eS l k hk]
      rw [← gS_lt hk]
      cases hn : nameB l[k] <;> rw [hn] at hg <;> simp [hk, eS, hg, wrap_nat k (by omega), H55]) l.length 0 (by omega)
  rw [firstB_all] at hl
  obtain ⟨m0, h⟩ := hl.get
  refine lim_run rfl Try.func55 rfl (by kernel_rfl) ⟨m0, fun m hm => ?_⟩
  show evK XX 55 (lpOf XX 55 m) c55 _ _ = _
  rw [r55]
  simp only [List.length_map]
  show (lpOf XX 55 m (bodyAt 2 c55) (H55 l 0)).bind _ = _
  rw [h m hm, Option.bind_some]
  unfold pathB
  cases allB (fun k => nameB (gS l k)) 0 l.length with
  | true => rw [cond_true, r55_2x, f57_ok]; simp
  | false => rw [cond_false, r55_2r]; rfl

/-! ### the same path -/
theorem tl_all (a b : List ByteArray) (h : a.length = b.length) : allB (fun k => (gS a k).toList == (gS b k).toList) 0 b.length = decide (tl a = tl b) := by
  rw [Bool.eq_iff_iff, allB_iff, decide_eq_true_iff]
  constructor
  · intro h1
    apply List.ext_getElem (by simp [h])
    intro i h2 h3
    have h4 : i < a.length := by simpa using h2
    have h5 : i < b.length := by simpa using h3
    have := h1 i (by omega) (by omega)
    simp only [List.getElem_map, gS_lt h4, gS_lt h5]
    simpa using this
  · intro h1 j _ hj
    have h4 : j < a.length := by omega
    have h5 : j < b.length := by omega
    have h6 : (tl a)[j]? = (tl b)[j]? := by rw [h1]
    simp only [List.getElem?_map, List.getElem?_eq_getElem h4, List.getElem?_eq_getElem h5, Option.map_some, Option.some.injEq, gS_lt h4, gS_lt h5] at h6
    simpa using h6
theorem fr66_4 : firstRegion (bodyAt 4 c66) = 4 := by kernel_rfl
abbrev H66 (a b : List ByteArray) (k : Nat) : St := mk 0 26 [(0, AV.one (A1.s (eSs a))), (1, AV.one (A1.s (eSs b))), (5, AV.one (A1.v (Value.int IntKind.i64 (k : Int))))] []
theorem f66_ok (a b : List ByteArray) (h : a.length = b.length) (hb : b.length ≤ 9223372036854775807) : lim' Y 66 [.one (.s (eSs a)), .one (.s (eSs b))] [] = some ⟨[.v (.bool (decide (tl a = tl b)))], []⟩ := by
  have hl := loop_first (X := XX) (fn := 66) (b := bodyAt 4 c66) (n := b.length) (H66 a b)
    (fun k => bif (gS a k).toList == (gS b k).toList then none else some (.ret, mk 0 26 [(4, AV.one (A1.v (Value.bool false)))] []))
    (.exit 0, mk 0 26 [] []) (by simp) (fun k r h => bif_none (by simp) h) (.at fr66_4 fun m => by rw [r66_4]; simp)
    (fun k hk => .at fr66_4 fun m => by
      rw [r66_4]
      have hk2 : k < a.length := by omega
      simp only [Int.toNat_natCast, getD_map eS a k hk2, getD_map eS b k hk]
      rw [← gS_lt hk, ← gS_lt hk2]
      by_cases he : a[k].toList = b[k].toList
      · simp [hk, hk2, eS, he, wrap_nat k (by omega), H66]
      · have he' : (a[k].toList == b[k].toList) = false := by simpa using he
        simp [hk, hk2, eS, he', wrap_nat k (by omega), H66]) b.length 0 (by omega)
  rw [firstB_all, tl_all a b h] at hl
  obtain ⟨m0, hm0⟩ := hl.get
  refine lim_run rfl Try.func66 rfl (by kernel_rfl) ⟨m0, fun m hm => ?_⟩
  show evK XX 66 (lpOf XX 66 m) c66 _ _ = _
  rw [r66]
  have hc : decide (((eSs a).length : Int) < ((eSs b).length : Int)) = false := by simp [h]
  rw [hc, cond_false]
  show (lpOf XX 66 m (bodyAt 4 c66) (H66 a b 0)).bind _ = _
  rw [hm0 m hm, Option.bind_some]
  cases decide (tl a = tl b) with
  | true => rw [cond_true, r66_4x]
  | false => rw [cond_false, r66_4r]
theorem f47_ok (a b : List ByteArray) (hb : b.length ≤ 9223372036854775807) : lim' Y 47 [.one (.s (eSs a)), .one (.s (eSs b))] [] = some ⟨[.v (.bool (decide (tl a = tl b)))], []⟩ := by
  refine lim_run0 rfl Try.func47 rfl (by kernel_rfl) fun m => ?_
  show evK XX 47 (lpOf XX 47 m) c47 _ _ = _
  rw [r47]
  by_cases h : a.length = b.length
  · have hc : (((eSs a).length : Int) == ((eSs b).length : Int)) = true := by simp [h]
    rw [hc, cond_true, f66_ok a b h hb]
    simp
  · have hc : (((eSs a).length : Int) == ((eSs b).length : Int)) = false := by simp; omega
    have h2 : tl a ≠ tl b := fun he => h (by have := congrArg List.length he; simpa using this)
    rw [hc, cond_false]
    simp [h2]

/-! ### the id of a path -/
def idOf (l : List Node) (p : List ByteArray) : Int := match fstB (fun k => decide (tl (gN l k).path = tl p)) 0 l.length with
  | some k => (gN l k).id
  | none => 0
theorem fr31_2 : firstRegion (bodyAt 2 c31) = 2 := by kernel_rfl
abbrev H31 (i : Int) (l : List Node) (p : List ByteArray) (k : Nat) : St :=
  mk 0 27 [(1, AV.one (A1.s (eSs p))), (2, AV.one (A1.p true 2 [] 0)), (5, AV.one (A1.v (Value.int IntKind.i64 (k : Int))))] [(2, some { kind := Kind.box, row := [D.v (Value.int IntKind.i64 i), D.s (eNs l)], fl := [Own.deep, Own.sh] })]
theorem f31_ok (i : Int) (l : List Node) (p : List ByteArray) (hl : l.length ≤ 9223372036854775807) (hp : p.length ≤ 9223372036854775807) :
    lim' Y 31 [.g [.v (.int .i64 i), .s (eNs l)], .one (.s (eSs p))] [] = some ⟨[.v (.int .i64 (idOf l p))], []⟩ := by
  have hl := loop_first (X := XX) (fn := 31) (b := bodyAt 2 c31) (n := l.length) (H31 i l p)
    (fun k => bif decide (tl (gN l k).path = tl p) then some (.ret, mk 0 27 [(4, AV.one (A1.v (Value.int IntKind.i64 (gN l k).id)))] []) else none)
    (.exit 0, mk 0 27 [] []) (by simp) (fun k r h => bif_some (by simp) h) (.at fr31_2 fun m => by rw [r31_2]; simp)
    (fun k hk => .at fr31_2 fun m => by
      rw [r31_2]
      have hg := f47_ok l[k].path p hp
      simp only [Int.toNat_natCast, getD_map eN l k hk]
      rw [← gN_lt hk]
      by_cases he : tl l[k].path = tl p
      · rw [decide_eq_true he] at hg ⊢
        simp [hk, eN, hg]
      · rw [decide_eq_false he] at hg ⊢
        simp [hk, eN, hg, wrap_nat k (by omega), H31]) l.length 0 (by omega)
  rw [firstB_fst] at hl
  obtain ⟨m0, hm0⟩ := hl.get
  refine lim_run rfl Try.func31 rfl (by kernel_rfl) ⟨m0, fun m hm => ?_⟩
  show evK XX 31 (lpOf XX 31 m) c31 _ _ = _
  rw [r31]
  show (lpOf XX 31 m (bodyAt 2 c31) (H31 i l p 0)).bind _ = _
  rw [hm0 m hm, Option.bind_some]
  unfold idOf
  cases fstB (fun k => decide (tl (gN l k).path = tl p)) 0 l.length with
  | none => exact r31_2x ..
  | some k => exact r31_2r ..
end Go.PVr1
/- The order of paths. -/
namespace Go.PVr1
open Go.PV Go.Proofs

def lessB (a b : List ByteArray) : Bool := match fstB (fun k => !((gS a k).toList == (gS b k).toList)) 0 (min a.length b.length) with
  | some k => Op.bytesLess (gS a k).toList (gS b k).toList
  | none => decide (a.length < b.length)

theorem fr53_2 : firstRegion (bodyAt 2 c53) = 2 := by kernel_rfl
abbrev H53 (a b : List ByteArray) (k : Nat) : St := mk 0 41 [(0, AV.one (A1.s (eSs a))), (1, AV.one (A1.s (eSs b))), (5, AV.one (A1.v (Value.int IntKind.i64 (k : Int))))] []
theorem f53_ok (a b : List ByteArray) (ha : a.length ≤ 9223372036854775807) : lim' Y 53 [.one (.s (eSs a)), .one (.s (eSs b))] [] = some ⟨[.v (.bool (lessB a b))], []⟩ := by
  have hl := loop_first (X := XX) (fn := 53) (b := bodyAt 2 c53) (n := min a.length b.length) (H53 a b)
    (fun k => bif !((gS a k).toList == (gS b k).toList) then some (.ret, mk 0 41 [(0, AV.one (A1.s (eSs a))), (1, AV.one (A1.s (eSs b))), (4, AV.one (A1.v (Value.bool (Op.bytesLess (gS a k).toList (gS b k).toList))))] []) else none)
    (.exit 0, mk 0 41 [(0, AV.one (A1.s (eSs a))), (1, AV.one (A1.s (eSs b)))] []) (by simp) (fun k r h => bif_some (by simp) h)
    (.at fr53_2 fun m => by
      rw [r53_2]
      rcases Nat.lt_or_ge a.length b.length with h | h
      · have h1 : min a.length b.length = a.length := by omega
        simp [h1]
      · have h1 : min a.length b.length = b.length := by omega
        by_cases h2 : b.length < a.length <;> simp [h1, h2])
    (fun k hk => .at fr53_2 fun m => by
      rw [r53_2]
      have hk1 : k < a.length := by omega
      have hk2 : k < b.length := by omega
      simp only [Int.toNat_natCast, getD_map eS a k hk1, getD_map eS b k hk2]
      rw [← gS_lt hk1, ← gS_lt hk2]
      by_cases he : a[k].toList = b[k].toList
      · simp [hk1, hk2, eS, he, wrap_nat k (by omega), H53]
      · have he' : (a[k].toList == b[k].toList) = false := by simpa using he
        simp [hk1, hk2, eS, he']) (min a.length b.length) 0 (by omega)
  rw [firstB_fst] at hl
  obtain ⟨m0, hm0⟩ := hl.get
  refine lim_run rfl Try.func53 rfl (by kernel_rfl) ⟨m0, fun m hm => ?_⟩
  show evK XX 53 (lpOf XX 53 m) c53 _ _ = _
  rw [r53]
  show (lpOf XX 53 m (bodyAt 2 c53) (H53 a b 0)).bind _ = _
  rw [hm0 m hm, Option.bind_some]
  unfold lessB
  cases fstB (fun k => !((gS a k).toList == (gS b k).toList)) 0 (min a.length b.length) with
  | none =>
    simp only [Option.map_none, Option.getD_none]
    rw [r53_2x]
    simp
  | some k => exact r53_2r ..

theorem f73_ok (a : ByteArray) : lim' Y 73 [.one (.v (.string a))] [] = some ⟨[.v (.bool false)], []⟩ := by
  refine lim_run0 rfl Try.func73 rfl (by kernel_rfl) fun m => ?_
  show evK XX 73 (lpOf XX 73 m) c73 _ _ = _
  rw [r73]
  simp
def cmpB (a b : ByteArray) : Int := bif Op.bytesLess a.toList b.toList then -1 else bif a.toList == b.toList then 0 else 1
theorem f69_ok (a b : ByteArray) : lim' Y 69 [.one (.v (.string a)), .one (.v (.string b))] [] = some ⟨[.v (.int .i64 (cmpB a b))], []⟩ := by
  refine lim_run0 rfl Try.func69 rfl (by kernel_rfl) fun m => ?_
  show evK XX 69 (lpOf XX 69 m) c69 _ _ = _
  rw [r69, f73_ok, f73_ok]
  unfold cmpB
  cases h1 : Op.bytesLess a.toList b.toList <;> cases h2 : (a.toList == b.toList) <;> simp
theorem less_irr : ∀ a : List UInt8, Op.bytesLess a a = false := by
  intro a
  induction a with
  | nil => rfl
  | cons x a ih => simp [Op.bytesLess, ih]
theorem cmp_zero (a b : ByteArray) : (cmpB a b != 0) = !(a.toList == b.toList) := by
  unfold cmpB
  by_cases h : a.toList = b.toList
  · rw [h, less_irr]; simp
  · have h' : (a.toList == b.toList) = false := by simpa using h
    rw [h']
    cases Op.bytesLess a.toList b.toList <;> rfl

theorem fr56_2 : firstRegion (bodyAt 2 c56) = 2 := by kernel_rfl
abbrev H56 (a b : List ByteArray) (k : Nat) : St :=
  mk 0 36 [(0, AV.one (A1.s (eSs a))), (1, AV.one (A1.s (eSs b))), (9, AV.one (A1.s (eSs a))), (10, AV.one (A1.v (Value.int IntKind.i64 (a.length : Int)))), (11, AV.one (A1.v (Value.int IntKind.i64 (k : Int))))] []
abbrev R56 (a b : List ByteArray) (x : Int) : Ex × St := (.ret, mk 0 36 [(0, AV.one (A1.s (eSs a))), (1, AV.one (A1.s (eSs b))), (4, AV.one (A1.v (Value.int IntKind.i64 x)))] [])
def f56 (a b : List ByteArray) (k : Nat) : Option (Ex × St) := bif decide (b.length ≤ k) then some (R56 a b 1) else bif !((gS a k).toList == (gS b k).toList) then some (R56 a b (cmpB (gS a k) (gS b k))) else none
theorem f56_ok (a b : List ByteArray) (ha : a.length ≤ 9223372036854775807) : ∃ x, lim' Y 56 [.one (.s (eSs a)), .one (.s (eSs b))] [] = some ⟨[.v (.int .i64 x)], []⟩ ∧ decide (x ≥ 0) = !lessB a b := by
  have hl := loop_first (X := XX) (fn := 56) (b := bodyAt 2 c56) (n := a.length) (H56 a b) (f56 a b)
    (.exit 0, mk 0 36 [(0, AV.one (A1.s (eSs a))), (1, AV.one (A1.s (eSs b)))] []) (by simp)
    (fun k r h => by
      unfold f56 at h
      cases hd : decide (b.length ≤ k) with
      | true => rw [hd] at h; simp at h; subst h; simp
      | false => rw [hd] at h; exact bif_some (c := R56 a b (cmpB (gS a k) (gS b k))) (by simp) h)
    (.at fr56_2 fun m => by rw [r56_2]; simp)
    (fun k hk => .at fr56_2 fun m => by
      rw [r56_2]
      unfold f56
      simp only [Int.toNat_natCast, getD_map eS a k hk]
      rcases Nat.lt_or_ge k b.length with h2 | h2
      · have h3 : ¬ b.length ≤ k := by omega
        simp only [getD_map eS b k h2]
        rw [← gS_lt hk, ← gS_lt h2]
        have hz := cmp_zero a[k] b[k]
        have hg := f69_ok a[k] b[k]
        cases he : (a[k].toList == b[k].toList) with
        | true =>
          rw [he] at hz
          have hz : cmpB a[k] b[k] = 0 := by simpa using hz
          rw [hz] at hg
          simp [hk, h2, h3, eS, hg, wrap_nat k (by omega), H56]
        | false =>
          rw [he] at hz
          simp [hk, h2, h3, eS, hg, hz]
      · simp [hk, h2, eS]) a.length 0 (by omega)
  obtain ⟨m0, hm0⟩ := hl.get
  have hpre : ∀ m, m0 ≤ m → evK XX 56 (lpOf XX 56 m) c56 (initSt Try.f56 [.one (.s (eSs a)), .one (.s (eSs b))] []) (outE XX 56 Try.f56) =
      evA XX 56 (lpOf XX 56 m) 2 c56 ((firstB (f56 a b) 0 a.length).getD (.exit 0, mk 0 36 [(0, AV.one (A1.s (eSs a))), (1, AV.one (A1.s (eSs b)))] [])).1
        ((firstB (f56 a b) 0 a.length).getD (.exit 0, mk 0 36 [(0, AV.one (A1.s (eSs a))), (1, AV.one (A1.s (eSs b)))] [])).2 (outE XX 56 Try.f56) := fun m hm => by
    rw [r56]
    simp only [List.length_map]
    show (lpOf XX 56 m (bodyAt 2 c56) (H56 a b 0)).bind _ = _
    rw [hm0 m hm, Option.bind_some]
  have hsp : firstB (f56 a b) 0 a.length = match (fstB (fun k => !((gS a k).toList == (gS b k).toList)) 0 (min a.length b.length)).map fun k => R56 a b (cmpB (gS a k) (gS b k)) with
      | some r => some r
      | none => firstB (f56 a b) (min a.length b.length) (a.length - min a.length b.length) := by
    have h1 := firstB_split (f56 a b) (min a.length b.length) (a.length - min a.length b.length) 0
    rw [show min a.length b.length + (a.length - min a.length b.length) = a.length from by omega, Nat.zero_add] at h1
    rw [h1, ← firstB_fst]
    rw [firstB_congr (f := f56 a b) (g := fun k => bif !((gS a k).toList == (gS b k).toList) then some (R56 a b (cmpB (gS a k) (gS b k))) else none) _ _ fun j _ hj => by
      unfold f56
      have : ¬ b.length ≤ j := by omega
      simp [this]]
    all_goals (cases firstB (fun k => bif !((gS a k).toList == (gS b k).toList) then some (R56 a b (cmpB (gS a k) (gS b k))) else none) 0 (min a.length b.length) <;> rfl)
  unfold lessB
  cases hk : fstB (fun k => !((gS a k).toList == (gS b k).toList)) 0 (min a.length b.length) with
  | some k =>
    rw [hk] at hsp
    simp only [Option.map_some] at hsp
    obtain ⟨_, _, hne⟩ := fstB_range _ _ _ _ hk
    refine ⟨cmpB (gS a k) (gS b k), lim_run rfl Try.func56 rfl (by kernel_rfl) ⟨m0, fun m hm => (hpre m hm).trans ?_⟩, ?_⟩
    · rw [hsp]; exact r56_2r ..
    · unfold cmpB
      have hne : ((gS a k).toList == (gS b k).toList) = false := by simpa using hne
      rw [hne]
      show decide ((bif Op.bytesLess (gS a k).toList (gS b k).toList then (-1 : Int) else bif false then 0 else 1) ≥ 0) = !Op.bytesLess (gS a k).toList (gS b k).toList
      cases Op.bytesLess (gS a k).toList (gS b k).toList <;> rfl
  | none =>
    rw [hk] at hsp
    simp only [Option.map_none] at hsp
    rcases Nat.lt_or_ge b.length a.length with hba | hba
    · have h1 : min a.length b.length = b.length := by omega
      have h2 : ¬ a.length < b.length := by omega
      have h3 : firstB (f56 a b) 0 a.length = some (R56 a b 1) := by
        rw [hsp, h1, show a.length - b.length = (a.length - b.length - 1) + 1 from by omega]
        simp [firstB, f56]
      refine ⟨1, lim_run rfl Try.func56 rfl (by kernel_rfl) ⟨m0, fun m hm => (hpre m hm).trans ?_⟩, by simp [h2]⟩
      rw [h3]; exact r56_2r ..
    · have h1 : min a.length b.length = a.length := by omega
      have h3 : firstB (f56 a b) 0 a.length = none := by
        rw [hsp, h1, Nat.sub_self]; rfl
      by_cases h2 : a.length < b.length
      · refine ⟨-1, lim_run rfl Try.func56 rfl (by kernel_rfl) ⟨m0, fun m hm => (hpre m hm).trans ?_⟩, by simp [h2]⟩
        rw [h3]
        simp only [Option.getD_none]
        rw [r56_2x]
        simp [h2]
      · refine ⟨0, lim_run rfl Try.func56 rfl (by kernel_rfl) ⟨m0, fun m hm => (hpre m hm).trans ?_⟩, by simp [h2]⟩
        rw [h3]
        simp only [Option.getD_none]
        rw [r56_2x]
        simp [h2]
end Go.PVr1
/- Nodes that are ok. -/
namespace Go.PVr1
open Go.PV Go.Proofs

def inB (a b c : Int) : Bool := decide (b ≤ a) && decide (a ≤ c)
theorem g51 (a b c : Int) : lim' Y 51 [.one (.v (.int .i64 a)), .one (.v (.int .i64 b)), .one (.v (.int .i64 c))] [] = some ⟨[.v (.bool (inB a b c))], []⟩ := f51_ok a b c
theorem g57 (a b c : Int) : lim' Y 57 [.one (.v (.int .i64 a)), .one (.v (.int .i64 b)), .one (.v (.int .i64 c))] [] = some ⟨[.v (.bool (inB a b c))], []⟩ := f57_ok a b c
def difB (l : List Node) (k : Nat) : Bool := allB (fun j => !((gN l j).id == (gN l k).id)) 0 k
def ordB (l : List Node) (k : Nat) : Bool := decide (k = 0) || lessB (gN l (k - 1)).path (gN l k).path
def rowB (i : Int) (l : List Node) (k : Nat) : Bool := inB (gN l k).id 1 (IntKind.i64.wrap (i - 1)) && pathB (gN l k).path && ordB l k && difB l k
def okB (i : Int) (l : List Node) : Bool := inB i 1 10000 && decide (l.length ≤ 30) && allB (rowB i l) 0 l.length

theorem smN_at {l : List Node} (h : SmN l) {k : Nat} (hk : k < l.length) : Sm (gN l k).path := by
  rw [← gN_lt hk]; exact h.2 _ (List.getElem_mem hk)

/-! ### the reference's -/
theorem fr30_10 : firstRegion (bodyAt 10 (bodyAt 4 c30)) = 10 := by kernel_rfl
abbrev o1 (i : Int) (l : List Node) : Option PV.Obj := some { kind := Kind.box, row := [D.v (Value.int IntKind.i64 i), D.s (eNs l)], fl := [Own.deep, Own.sh] }
abbrev o4 (n : Node) : Option PV.Obj := some { kind := Kind.box, row := [D.v (Value.int IntKind.i64 n.id), D.s (eSs n.path)], fl := [Own.deep, Own.sh] }
abbrev H30i (i : Int) (l : List Node) (k j : Nat) : St :=
  mk 0 72 [(1, AV.one (A1.p true 1 [] 0)), (3, AV.one (A1.v (Value.int IntKind.i64 (k : Int)))), (4, AV.one (A1.p true 4 [] 0)), (5, AV.one (A1.v (Value.int IntKind.i64 (j : Int))))] [(1, o1 i l), (4, o4 (gN l k))]
theorem l30_10 (i : Int) (l : List Node) (k : Nat) (hk : k < l.length) (hl : l.length ≤ 9223372036854775807) : LoopTo XX 30 (bodyAt 10 (bodyAt 4 c30)) (H30i i l k 0)
    (bif difB l k then (.exit 2, mk 0 72 [(1, AV.one (A1.p true 1 [] 0)), (3, AV.one (A1.v (Value.int IntKind.i64 (k : Int))))] [(1, o1 i l)])
      else (.ret, mk 0 72 [(1, AV.one (A1.p true 1 [] 0)), (2, AV.one (A1.v (Value.bool false))), (3, AV.one (A1.v (Value.int IntKind.i64 (k : Int))))] [(1, o1 i l)])) := by
  have h := loop_first (X := XX) (fn := 30) (b := bodyAt 10 (bodyAt 4 c30)) (n := k) (H30i i l k)
    (fun j => bif !((gN l j).id == (gN l k).id) then none else some (.ret, mk 0 72 [(1, AV.one (A1.p true 1 [] 0)), (2, AV.one (A1.v (Value.bool false))), (3, AV.one (A1.v (Value.int IntKind.i64 (k : Int))))] [(1, o1 i l)]))
    (.exit 2, mk 0 72 [(1, AV.one (A1.p true 1 [] 0)), (3, AV.one (A1.v (Value.int IntKind.i64 (k : Int))))] [(1, o1 i l)]) (by simp) (fun j r h => bif_none (by simp) h) (.at fr30_10 fun m => by rw [r30_10]; simp)
    (fun j hj => .at fr30_10 fun m => by
      rw [r30_10]
      have hj2 : j < l.length := by omega
      simp only [Int.toNat_natCast, getD_map eN l j hj2]
      rw [← gN_lt hj2]
      cases he : (l[j].id == (gN l k).id) <;> simp [hj, hj2, eN, he, wrap_nat j (by omega), H30i]) k 0 (by omega)
  rw [firstB_all] at h
  exact h

theorem fr30_4 : firstRegion (bodyAt 4 c30) = 4 := by kernel_rfl
abbrev H30 (i : Int) (l : List Node) (k : Nat) : St := mk 0 72 [(1, AV.one (A1.p true 1 [] 0)), (3, AV.one (A1.v (Value.int IntKind.i64 (k : Int))))] [(1, o1 i l)]
abbrev R30 : Ex × St := (.ret, mk 0 72 [(2, AV.one (A1.v (Value.bool false)))] [])
theorem s30 (i : Int) (l : List Node) (hs : SmN l) (k : Nat) (hk : k < l.length) : RoundTo XX 30 (bodyAt 4 c30) (H30 i l k) ((bif rowB i l k then none else some R30).getD (.normal, H30 i l (k + 1))) := by
  have hl := hs.1
  have hp := smN_at hs hk
  have h51 := g51 (gN l k).id 1 (IntKind.i64.wrap (i - 1))
  have h52 := f52_ok _ hp
  obtain ⟨m0, hi⟩ := (l30_10 i l k hk hl).get
  have hi' : ∀ m, m0 ≤ m → lpOf XX 30 m (bodyAt 10 (bodyAt 4 c30)) (mk 0 72 [(1, AV.one (A1.p true 1 [] 0)), (3, AV.one (A1.v (Value.int IntKind.i64 (k : Int)))), (4, AV.one (A1.p true 4 [] 0)), (5, AV.one (A1.v (Value.int IntKind.i64 0)))] [(1, o1 i l), (4, o4 (gN l k))]) = some _ := hi
  refine .atm fr30_4 ⟨m0, fun m hm => ?_⟩
  have hi2 := hi' m hm
  rw [r30_4]
  simp only [Int.toNat_natCast, getD_map eN l k hk]
  rw [gN_lt hk]
  unfold rowB
  cases hin : inB (gN l k).id 1 (IntKind.i64.wrap (i - 1)) with
  | false => rw [hin] at h51; simp [hk, eN, h51]
  | true =>
    rw [hin] at h51
    cases hpb : pathB (gN l k).path with
    | false => rw [hpb] at h52; simp [hk, eN, h51, h52]
    | true =>
      rw [hpb] at h52
      have hend : ∀ (r : Option (Ex × St)), r = some (bif difB l k then (.exit 2, mk 0 72 [(1, AV.one (A1.p true 1 [] 0)), (3, AV.one (A1.v (Value.int IntKind.i64 (k : Int))))] [(1, o1 i l)])
          else (.ret, mk 0 72 [(1, AV.one (A1.p true 1 [] 0)), (2, AV.one (A1.v (Value.bool false))), (3, AV.one (A1.v (Value.int IntKind.i64 (k : Int))))] [(1, o1 i l)])) →
          (r.bind fun r => evA XX 30 (lpOf XX 30 m) 10 (bodyAt 4 c30) r.1 r.2 (outL (XX.live 30 4))) = some ((bif difB l k then none else some R30).getD (.normal, H30 i l (k + 1))) := fun r hr => by
        rw [hr, Option.bind_some]
        cases difB l k with
        | true => rw [cond_true]; rw [r30_10x, wrap_nat k (by omega)]; rfl
        | false => rw [cond_false]; exact r30_10r ..
      by_cases h0 : k = 0
      · subst h0
        have := hend _ hi2
        simp [hk, eN, h51, h52, ordB] at this ⊢
        exact this
      · have hk1 : k - 1 < l.length := by omega
        have h53 := f53_ok (gN l (k - 1)).path (gN l k).path (smN_at hs hk1).1
        have hkp : 0 < k := by omega
        have hb : ((k - 1 : Nat) : Int) < (l.length : Int) := by omega
        rw [wrap_pred k (by omega) (by omega)]
        simp only [Int.toNat_natCast, getD_map eN l (k - 1) hk1]
        rw [gN_lt hk1]
        cases hls : lessB (gN l (k - 1)).path (gN l k).path with
        | false => rw [hls] at h53; simp [hk, eN, h51, h52, ordB, h0, hkp, hk1, h53, hls, hb]
        | true =>
          rw [hls] at h53
          have := hend _ hi2
          simp [hk, eN, h51, h52, ordB, h0, hkp, hk1, h53, hls, hb] at this ⊢
          exact this

theorem f30_ok (i : Int) (l : List Node) (hs : SmN l) : lim' Y 30 [.g [.v (.int .i64 i), .s (eNs l)]] [] = some ⟨[.v (.bool (okB i l))], []⟩ := by
  have h51 := g51 i 1 10000
  cases hin : inB i 1 10000 with
  | false =>
    rw [hin] at h51
    refine lim_run0 rfl Try.func30 rfl (by kernel_rfl) fun m => ?_
    show evK XX 30 (lpOf XX 30 m) c30 _ _ = _
    rw [r30, h51]
    simp [okB, hin]
  | true =>
    rw [hin] at h51
    by_cases h30 : l.length ≤ 30
    · have hl := loop_first (X := XX) (fn := 30) (b := bodyAt 4 c30) (n := l.length) (H30 i l) (fun k => bif rowB i l k then none else some R30) (.exit 0, mk 0 72 [] []) (by simp) (fun k r h => bif_none (by simp) h)
        (.at fr30_4 fun m => by rw [r30_4]; simp) (fun k hk => s30 i l hs k hk) l.length 0 (by omega)
      rw [firstB_all] at hl
      obtain ⟨m0, hm0⟩ := hl.get
      have hm0' : ∀ m, m0 ≤ m → lpOf XX 30 m (bodyAt 4 c30) (mk 0 72 [(1, AV.one (A1.p true 1 [] 0)), (3, AV.one (A1.v (Value.int IntKind.i64 0)))] [(1, o1 i l)]) = some _ := hm0
      refine lim_run rfl Try.func30 rfl (by kernel_rfl) ⟨m0, fun m hm => ?_⟩
      show evK XX 30 (lpOf XX 30 m) c30 _ _ = _
      have h2 : ¬ (30 : Int) < (l.length : Int) := by omega
      rw [r30, h51]
      have hh := hm0' m hm
      simp [hh, okB, hin, h30, h2]
      cases allB (rowB i l) 0 l.length with
      | true => exact r30_4x ..
      | false => exact r30_4r ..
    · refine lim_run0 rfl Try.func30 rfl (by kernel_rfl) fun m => ?_
      show evK XX 30 (lpOf XX 30 m) c30 _ _ = _
      have h2 : (30 : Int) < (l.length : Int) := by omega
      rw [r30, h51]
      simp [okB, hin, h30, h2]

/-! ### the program's -/
theorem fr33_7 : firstRegion (bodyAt 7 (bodyAt 2 c33)) = 7 := by kernel_rfl
abbrev T33 (i : Int) (l : List Node) (k : Nat) : List (Nat × AV) :=
  [(1, AV.one (A1.p true 1 [] 0)), (8, AV.one (A1.s (eNs l))), (9, AV.one (A1.v (Value.int IntKind.i64 (l.length : Int)))), (10, AV.one (A1.v (Value.int IntKind.i64 (k : Int))))]
abbrev H33i (i : Int) (l : List Node) (k j : Nat) : St :=
  mk 0 70 [(1, AV.one (A1.p true 1 [] 0)), (4, AV.one (A1.p true 4 [] 0)), (8, AV.one (A1.s (eNs l))), (9, AV.one (A1.v (Value.int IntKind.i64 (l.length : Int)))), (10, AV.one (A1.v (Value.int IntKind.i64 (k : Int)))),
    (48, AV.one (A1.s (eNs (l.take k)))), (49, AV.one (A1.v (Value.int IntKind.i64 (k : Int)))), (50, AV.one (A1.v (Value.int IntKind.i64 (j : Int))))] [(1, o1 i l), (4, o4 (gN l k))]
theorem gN_take {l : List Node} {k j : Nat} (hj : j < k) (hk : k ≤ l.length) (h : j < (l.take k).length) : (l.take k)[j] = gN l j := by
  rw [List.getElem_take]
  exact gN_lt (by omega)
theorem l33_7 (i : Int) (l : List Node) (k : Nat) (hk : k < l.length) (hl : l.length ≤ 9223372036854775807) : LoopTo XX 33 (bodyAt 7 (bodyAt 2 c33)) (H33i i l k 0)
    (bif difB l k then (.exit 2, mk 0 70 (T33 i l k) [(1, o1 i l)])
      else (.ret, mk 0 70 [(1, AV.one (A1.p true 1 [] 0)), (2, AV.one (A1.v (Value.bool false))), (8, AV.one (A1.s (eNs l))), (9, AV.one (A1.v (Value.int IntKind.i64 (l.length : Int)))), (10, AV.one (A1.v (Value.int IntKind.i64 (k : Int))))] [(1, o1 i l)])) := by
  have h := loop_first (X := XX) (fn := 33) (b := bodyAt 7 (bodyAt 2 c33)) (n := k) (H33i i l k)
    (fun j => bif !((gN l j).id == (gN l k).id) then none else some (.ret, mk 0 70 [(1, AV.one (A1.p true 1 [] 0)), (2, AV.one (A1.v (Value.bool false))), (8, AV.one (A1.s (eNs l))), (9, AV.one (A1.v (Value.int IntKind.i64 (l.length : Int)))), (10, AV.one (A1.v (Value.int IntKind.i64 (k : Int))))] [(1, o1 i l)]))
    (.exit 2, mk 0 70 (T33 i l k) [(1, o1 i l)]) (by simp) (fun j r h => bif_none (by simp) h) (.at fr33_7 fun m => by rw [r33_7]; simp [T33])
    (fun j hj => .at fr33_7 fun m => by
      rw [r33_7]
      have hj2 : j < l.length := by omega
      have hj3 : j < (l.take k).length := by simp; omega
      simp only [Int.toNat_natCast, getD_map eN (l.take k) j hj3]
      rw [gN_take hj (by omega) hj3]
      have hj4 : j < min k l.length := by omega
      cases he : ((gN l j).id == (gN l k).id) <;> simp [hj, hj4, eN, he, wrap_nat j (by omega), H33i]) k 0 (by omega)
  rw [firstB_all] at h
  exact h

theorem fr33_2 : firstRegion (bodyAt 2 c33) = 2 := by kernel_rfl
abbrev H33 (i : Int) (l : List Node) (k : Nat) : St := mk 0 70 (T33 i l k) [(1, o1 i l)]
abbrev R33 (i : Int) (l : List Node) : Ex × St := (.ret, mk 0 70 [(1, AV.one (A1.p true 1 [] 0)), (2, AV.one (A1.v (Value.bool false)))] [(1, o1 i l)])
theorem s33 (i : Int) (l : List Node) (hs : SmN l) (k : Nat) (hk : k < l.length) : RoundTo XX 33 (bodyAt 2 c33) (H33 i l k) ((bif rowB i l k then none else some (R33 i l)).getD (.normal, H33 i l (k + 1))) := by
  have hl := hs.1
  have hp := smN_at hs hk
  have h57 := g57 (gN l k).id 1 (IntKind.i64.wrap (i - 1))
  have h55 := f55_ok _ hp
  obtain ⟨m0, hi⟩ := (l33_7 i l k hk hl).get
  have hi' : ∀ m, m0 ≤ m → lpOf XX 33 m (bodyAt 7 (bodyAt 2 c33))
      (mk 0 70 [(1, AV.one (A1.p true 1 [] 0)), (4, AV.one (A1.p true 4 [] 0)), (8, AV.one (A1.s (eNs l))), (9, AV.one (A1.v (Value.int IntKind.i64 (l.length : Int)))), (10, AV.one (A1.v (Value.int IntKind.i64 (k : Int)))),
        (48, AV.one (A1.s (eNs (l.take k)))), (49, AV.one (A1.v (Value.int IntKind.i64 (k : Int)))), (50, AV.one (A1.v (Value.int IntKind.i64 0)))] [(1, o1 i l), (4, o4 (gN l k))]) = some _ := hi
  refine .atm fr33_2 ⟨m0, fun m hm => ?_⟩
  have hi2 := hi' m hm
  rw [r33_2]
  simp only [Int.toNat_natCast, getD_map eN l k hk]
  rw [gN_lt hk]
  unfold rowB
  cases hpb : pathB (gN l k).path with
  | false => rw [hpb] at h55; simp [hk, eN, h55]
  | true =>
    rw [hpb] at h55
    have hend : ∀ (r : Option (Ex × St)), r = some (bif difB l k then (.exit 2, mk 0 70 (T33 i l k) [(1, o1 i l)])
        else (.ret, mk 0 70 [(1, AV.one (A1.p true 1 [] 0)), (2, AV.one (A1.v (Value.bool false))), (8, AV.one (A1.s (eNs l))), (9, AV.one (A1.v (Value.int IntKind.i64 (l.length : Int)))), (10, AV.one (A1.v (Value.int IntKind.i64 (k : Int))))] [(1, o1 i l)])) →
        (r.bind fun r => evA XX 33 (lpOf XX 33 m) 7 (bodyAt 2 c33) r.1 r.2 (outL (XX.live 33 2))) = some ((bif difB l k then none else some (R33 i l)).getD (.normal, H33 i l (k + 1))) := fun r hr => by
      rw [hr, Option.bind_some]
      cases difB l k with
      | true => rw [cond_true]; rw [r33_7x, wrap_nat k (by omega)]; rfl
      | false => rw [cond_false]; exact r33_7r ..
    have htk : List.map eN (List.take k l) = List.take k (List.map eN l) := by rw [List.map_take]
    have hlk : ((List.take k (List.map eN l)).length : Int) = (k : Int) := by simp; omega
    have hi3 := hi2
    simp only [eNs, htk] at hi3
    have hkl : (k : Int) ≤ (l.length : Int) := by omega
    simp only [List.drop_zero, hlk]
    by_cases h0 : k = 0
    · subst h0
      have := hend _ hi3
      cases hin : inB (gN l 0).id 1 (IntKind.i64.wrap (i - 1)) with
      | false => rw [hin] at h57; simp [hk, eN, h55, h57, ordB]
      | true =>
        rw [hin] at h57
        simp [hk, eN, h55, h57, ordB] at this ⊢
        exact this
    · have hk1 : k - 1 < l.length := by omega
      obtain ⟨x, h56, hx⟩ := f56_ok (gN l (k - 1)).path (gN l k).path (smN_at hs hk1).1
      have hkp : 0 < k := by omega
      have hb : ((k - 1 : Nat) : Int) < (l.length : Int) := by omega
      rw [wrap_pred k (by omega) (by omega)]
      simp only [Int.toNat_natCast, getD_map eN l (k - 1) hk1]
      rw [gN_lt hk1]
      cases hls : lessB (gN l (k - 1)).path (gN l k).path with
      | false =>
        rw [hls] at hx
        have hx : 0 ≤ x := by simpa using hx
        simp [hk, eN, h55, ordB, h0, hkp, hk1, h56, hls, hb, hx]
      | true =>
        rw [hls] at hx
        have hx : ¬ 0 ≤ x := by simpa using hx
        cases hin : inB (gN l k).id 1 (IntKind.i64.wrap (i - 1)) with
        | false => rw [hin] at h57; simp [hk, eN, h55, h57, ordB, h0, hkp, hk1, h56, hls, hb, hx]
        | true =>
          rw [hin] at h57
          have := hend _ hi3
          simp [hk, eN, h55, h57, ordB, h0, hkp, hk1, h56, hls, hb, hx, hkl] at this ⊢
          exact this

theorem f33_ok (i : Int) (l : List Node) (hs : SmN l) : lim' Y 33 [.g [.v (.int .i64 i), .s (eNs l)]] [] = some ⟨[.v (.bool (okB i l))], []⟩ := by
  have h57 := g57 i 1 10000
  have hl := loop_first (X := XX) (fn := 33) (b := bodyAt 2 c33) (n := l.length) (H33 i l) (fun k => bif rowB i l k then none else some (R33 i l)) (.exit 0, mk 0 70 [(1, AV.one (A1.p true 1 [] 0))] [(1, o1 i l)]) (by simp) (fun k r h => bif_none (by simp) h)
    (.at fr33_2 fun m => by rw [r33_2]; simp) (fun k hk => s33 i l hs k hk) l.length 0 (by omega)
  rw [firstB_all] at hl
  obtain ⟨m0, hm0⟩ := hl.get
  refine lim_run rfl Try.func33 rfl (by kernel_rfl) ⟨m0, fun m hm => ?_⟩
  show evK XX 33 (lpOf XX 33 m) c33 _ _ = _
  rw [r33]
  simp only [List.length_map]
  show (lpOf XX 33 m (bodyAt 2 c33) (H33 i l 0)).bind _ = _
  rw [hm0 m hm, Option.bind_some]
  unfold okB
  cases allB (rowB i l) 0 l.length with
  | true =>
    rw [cond_true, r33_2x, h57]
    cases hin : inB i 1 10000 with
    | false => simp
    | true => simp; omega
  | false =>
    rw [cond_false, r33_2r]
    simp
end Go.PVr1
/- The law FnExactNodesId on data. -/
namespace Go.PVr1
open Go.PV Go.Proofs

theorem f9_ok (i : Int) (l : List Node) (p : List ByteArray) (hs : SmN l) (hp : Sm p) : lim' Y 9 [.g [.v (.int .i64 i), .s (eNs l)], .one (.s (eSs p))] [] = some ⟨[.v (.int .i64 (bif okB i l then idOf l p else 0))], []⟩ := by
  refine lim_run0 rfl Try.func9 rfl (by kernel_rfl) fun m => ?_
  show evK XX 9 (lpOf XX 9 m) c9 _ _ = _
  rw [r9, f30_ok i l hs, f31_ok i l p hs.1 hp.1]
  cases okB i l <;> simp

theorem fr12_3 : firstRegion (bodyAt 3 c12) = 3 := by kernel_rfl
abbrev H12 (l : List Node) (p : List ByteArray) (k : Nat) : St :=
  mk 0 23 [(1, AV.one (A1.s (eSs p))), (10, AV.one (A1.s (eNs l))), (11, AV.one (A1.v (Value.int IntKind.i64 (l.length : Int)))), (12, AV.one (A1.v (Value.int IntKind.i64 (k : Int))))] []
theorem f12_ok (i : Int) (l : List Node) (p : List ByteArray) (hs : SmN l) : lim' Y 12 [.g [.v (.int .i64 i), .s (eNs l)], .one (.s (eSs p))] [] = some ⟨[.v (.int .i64 (bif okB i l then idOf l p else 0))], []⟩ := by
  have hl1 := hs.1
  have hl := loop_first (X := XX) (fn := 12) (b := bodyAt 3 c12) (n := l.length) (H12 l p)
    (fun k => bif decide (tl (gN l k).path = tl p) then some (.ret, mk 0 23 [(4, AV.one (A1.v (Value.int IntKind.i64 (gN l k).id)))] []) else none)
    (.exit 0, mk 0 23 [] []) (by simp) (fun k r h => bif_some (by simp) h) (.at fr12_3 fun m => by rw [r12_3]; simp)
    (fun k hk => .at fr12_3 fun m => by
      rw [r12_3]
      have hg := f34_ok (gN l k).path p (smN_at hs hk).1
      simp only [Int.toNat_natCast, getD_map eN l k hk]
      rw [gN_lt hk]
      by_cases he : tl (gN l k).path = tl p
      · rw [decide_eq_true he] at hg ⊢
        simp [hk, eN, hg]
      · rw [decide_eq_false he] at hg ⊢
        simp [hk, eN, hg, wrap_nat k (by omega), H12]) l.length 0 (by omega)
  rw [firstB_fst] at hl
  obtain ⟨m0, hm0⟩ := hl.get
  refine lim_run rfl Try.func12 rfl (by kernel_rfl) ⟨m0, fun m hm => ?_⟩
  show evK XX 12 (lpOf XX 12 m) c12 _ _ = _
  rw [r12, f33_ok i l hs]
  cases okB i l with
  | false => simp
  | true =>
    simp only [List.length_map, Option.bind_some, fits_b, Bool.and_self, cond_true, List.getD_cons_zero, tbool_v]
    show (lpOf XX 12 m (bodyAt 3 c12) (H12 l p 0)).bind _ = _
    rw [hm0 m hm, Option.bind_some]
    unfold idOf
    cases fstB (fun k => decide (tl (gN l k).path = tl p)) 0 l.length with
    | none => exact r12_3x ..
    | some k => exact r12_3r ..

theorem f3_ok (i : Int) (l : List Node) (p : List ByteArray) (hs : SmN l) (hp : Sm p) : lim' Y 3 [.g [.v (.int .i64 i), .s (eNs l)], .one (.s (eSs p))] [] = some ⟨[.v (.bool true)], []⟩ := by
  obtain ⟨y, h7, hy, hlo⟩ := f7_ok i l hs
  refine lim_run0 rfl Try.func3 rfl (by kernel_rfl) fun m => ?_
  show evK XX 3 (lpOf XX 3 m) c3 _ _ = _
  rw [r3]
  have h7' : lim' Y 7 [.g [.v (.int .i64 i), .s (eNs l)], .one (.v (.int .i64 1048576))] [] = some ⟨[.v (.int .i64 y)], []⟩ := h7
  by_cases hn : y < 0
  · simp [h7', hn, r3e0]
  · obtain ⟨z, h8, hz, hlp⟩ := f8_ok p hp y (by omega) hy
    by_cases hn2 : z < 0
    · simp [h7', hn, h8, hn2, r3c4, r3e0]
    · have hl := hlo (by omega)
      have hpp := hlp (by omega)
      simp [h7', hn, h8, hn2, r3e0, r3c4, r3c7, r3c10, r3c12, r3c14, f10_ok i l hl, f11_ok p hpp, f9_ok i l p hs hp, f12_ok i l p hs, f13_refl i l hl, f14_refl p hpp]
end Go.PVr1
/- Marks: each string of a result gets its own text; that all hold it still. -/
namespace Go.PVr1
open Go.PV Go.Proofs

@[simp] theorem fits_str (s : ByteArray) : fitsCells [.str] [TC.v (.string s)] = true := rfl
@[simp] theorem fits_ob (es : List (List D)) (b : Bool) : fitsCells [.own .deep, .bool] [TC.o .deep es, TC.v (.bool b)] = true := rfl
abbrev vob (es : List (List D)) : PV.Obj := { kind := Kind.virt, row := [D.s es], fl := [Own.deep] }
@[simp] theorem fits_vob (n : Nat) (p : Path) (c : Nat) (es fs : List (List D)) : fitsCos [⟨vob es, .sl n p c⟩] [vob fs] = true := rfl

theorem strOf1 (n : Int) : (strOf [[D.v (Value.int IntKind.u8 n)]]).size = 1 := rfl
theorem size_app (a b : ByteArray) : (a ++ b).size = a.size + b.size := ByteArray.size_append

theorem fr37_4 : firstRegion (bodyAt 4 c37) = 4 := by kernel_rfl
abbrev H37 (k : Int) (s : ByteArray) : St := mk 0 20 [(0, AV.one (A1.v (Value.int IntKind.i64 k))), (3, AV.one (A1.v (Value.string s)))] []
theorem l37 : ∀ (d : Nat) (k : Int) (s : ByteArray), 0 ≤ k → k < (10 : Int) ^ d → k ≤ 9223372036854775807 → s.size + d ≤ 100 →
    ∃ s', s'.size ≤ 100 ∧ LoopTo XX 37 (bodyAt 4 c37) (H37 k s) (.exit 0, mk 0 20 [(3, AV.one (A1.v (Value.string s')))] []) := by
  intro d
  induction d with
  | zero =>
    intro k s h0 h1 h2 h3
    have : k = 0 := by simp at h1; omega
    subst this
    exact ⟨s, by omega, .done (.at fr37_4 fun m => by rw [r37_4]; simp) (by simp)⟩
  | succ d ih =>
    intro k s h0 h1 h2 h3
    by_cases hk : k = 0
    · subst hk
      exact ⟨s, by omega, .done (.at fr37_4 fun m => by rw [r37_4]; simp) (by simp)⟩
    · have hd : k.tdiv 10 = k / 10 := Int.tdiv_eq_ediv_of_nonneg h0
      have hp : (10 : Int) ^ (d + 1) = 10 ^ d * 10 := Int.pow_succ ..
      have hw : IntKind.i64.wrap (k.tdiv 10) = k / 10 := by rw [hd]; exact wrap_in _ (by omega)
      have hr : ∀ m, evK XX 37 (lpOf XX 37 m) (bodyAt 4 c37) (H37 k s) (outL (XX.live 37 4)) =
          some (.normal, H37 (k / 10) (strOf [[D.v (Value.int IntKind.u8 (IntKind.u8.wrap (IntKind.i64.wrap (48 + k.tmod 10))))]] ++ s)) := fun m => by
        rw [r37_4, hw]
        have e1 : decide (k > 0) = true := by simp; omega
        have e2 : decide (1 + s.size ≤ 70368744177664) = true := by simp; omega
        simp only [e1, e2, cond_true, H37]
      obtain ⟨s', g1, g2⟩ := ih (k / 10) (strOf [[D.v (Value.int IntKind.u8 (IntKind.u8.wrap (IntKind.i64.wrap (48 + k.tmod 10))))]] ++ s) (by omega) (by omega) (by omega) (by rw [size_app, strOf1]; omega)
      exact ⟨s', g1, .step (.at fr37_4 hr) g2⟩
theorem f37_ex (k : Int) (hk : k ≤ 9223372036854775807) : ∃ s, lim' Y 37 [.one (.v (.int .i64 k))] [] = some ⟨[.v (.string s)], []⟩ := by
  by_cases h0 : k ≤ 0
  · refine ⟨⟨#[109, 48]⟩, lim_run0 rfl Try.func37 rfl (by kernel_rfl) fun m => ?_⟩
    show evK XX 37 (lpOf XX 37 m) c37 _ _ = _
    rw [r37, decide_eq_true h0, cond_true]
  · obtain ⟨s, hs, h⟩ := l37 19 k ⟨#[]⟩ (by omega) (by omega) hk (by decide)
    obtain ⟨m0, h⟩ := h.get
    refine ⟨⟨#[109]⟩ ++ s, lim_run rfl Try.func37 rfl (by kernel_rfl) ⟨m0, fun m hm => ?_⟩⟩
    show evK XX 37 (lpOf XX 37 m) c37 _ _ = _
    rw [r37, decide_eq_false h0, cond_false]
    show (lpOf XX 37 m (bodyAt 4 c37) (H37 k ⟨#[]⟩)).bind _ = _
    rw [h m hm, Option.bind_some]
    refine (r37_4x ..).trans ?_
    rw [decide_eq_true (by omega), cond_true]
/-- The text of a mark. -/
noncomputable def mt (k : Int) : ByteArray := match lim' Y 37 [.one (.v (.int .i64 k))] [] with
  | some r => (r.cells.getD 0 .d).str
  | none => ⟨#[]⟩
theorem f37_ok (k : Int) (hk : k ≤ 9223372036854775807) : lim' Y 37 [.one (.v (.int .i64 k))] [] = some ⟨[.v (.string (mt k))], []⟩ := by
  obtain ⟨s, hs⟩ := f37_ex k hk
  have : mt k = s := by unfold mt; rw [hs]; rfl
  rw [hs, this]

/-! ### lists of strings -/
/-- Marks from k on. -/
noncomputable def mks : Int → Nat → List ByteArray
  | _, 0 => []
  | k, n + 1 => mt k :: mks (k + 1) n
@[simp] theorem mks_len : ∀ (n : Nat) (k : Int), (mks k n).length = n := by
  intro n
  induction n with
  | zero => intro k; rfl
  | succ n ih => intro k; simp [mks, ih]
theorem mks_get : ∀ (n : Nat) (k : Int) (i : Nat) (h : i < (mks k n).length), (mks k n)[i] = mt (k + (i : Int)) := by
  intro n
  induction n with
  | zero => intro k i h; simp at h
  | succ n ih =>
    intro k i h
    cases i with
    | zero => simp [mks]
    | succ i =>
      simp only [mks, List.getElem_cons_succ, ih]
      congr 1; omega
theorem fr18_2 : firstRegion (bodyAt 2 c18) = 2 := by kernel_rfl
abbrev H18 (k : Int) (i : Nat) (es : List (List D)) : St :=
  mk 1 20 [(0, AV.one (A1.r 0 [] 0)), (1, AV.one (A1.v (Value.int IntKind.i64 k))), (5, AV.one (A1.v (Value.int IntKind.i64 (i : Int))))] [(0, some (vob es))]
theorem l18 : ∀ (l : List ByteArray) (pre : List (List D)) (k : Int), k + (l.length : Int) ≤ 9223372036854775807 → 0 ≤ k → pre.length + l.length ≤ 9223372036854775807 →
    LoopTo XX 18 (bodyAt 2 c18) (H18 k pre.length (pre ++ eSs l)) (.exit 0, mk 1 20 [(1, AV.one (A1.v (Value.int IntKind.i64 (k + (l.length : Int)))))] [(0, some (vob (pre ++ eSs (mks k l.length))))]) := by
  intro l
  induction l with
  | nil =>
    intro pre k h1 h2 h3
    exact .done (.at fr18_2 fun m => by rw [r18_2]; simp [mks]) (by simp)
  | cons s l ih =>
    intro pre k h1 h2 h3
    simp only [List.length_cons] at h1 h3
    have hg := f37_ok k (by omega)
    have hr : ∀ m, evK XX 18 (lpOf XX 18 m) (bodyAt 2 c18) (H18 k pre.length (pre ++ eSs (s :: l))) (outL (XX.live 18 2)) = some (.normal, H18 (k + 1) (pre ++ [eS (mt k)]).length ((pre ++ [eS (mt k)]) ++ eSs l)) := fun m => by
      rw [r18_2, hg]
      have e1 : ((pre ++ eSs (s :: l)).getD pre.length []) = eS s := by simp [List.getD_eq_getElem?_getD]
      have e2 : (pre ++ eSs (s :: l)).set pre.length (D.v (Value.string (mt k)) :: []) = pre ++ [eS (mt k)] ++ eSs l := by simp [eS]
      simp only [Int.toNat_natCast, e1]
      have e3 : pre.length < (pre ++ eSs (s :: l)).length := by simp
      have e4 : (pre ++ [eS (mt k)]).length = pre.length + 1 := by simp
      simp only [eS, List.drop_succ_cons, List.drop_zero, Option.bind_some, fits_str, List.getD_cons_zero, tstr_v, Bool.and_self, cond_true, e2, wrap_nat pre.length (by omega), wrap_in (k + 1) (by omega), H18, e4]
      have e5 : decide ((pre.length : Int) < ((pre ++ eSs (s :: l)).length : Int)) = true := by simp; omega
      rw [e5]
      simp
    have := ih (pre ++ [eS (mt k)]) (k + 1) (by omega) (by omega) (by simp; omega)
    refine .step (.at fr18_2 hr) ?_
    have e3 : k + 1 + (l.length : Int) = k + ((s :: l).length : Int) := by simp; omega
    rw [e3] at this
    simpa [mks] using this
theorem f18_ok (l : List ByteArray) (k : Int) (h1 : k + (l.length : Int) ≤ 9223372036854775807) (h2 : 0 ≤ k) (h3 : l.length ≤ 9223372036854775807) :
    lim' Y 18 [.one (.r 0 [] 0), .one (.v (.int .i64 k))] [vob (eSs l)] = some ⟨[.v (.int .i64 (k + (l.length : Int)))], [vob (eSs (mks k l.length))]⟩ := by
  obtain ⟨m0, h⟩ := (l18 l [] k h1 h2 (by simpa using h3)).get
  simp only [List.nil_append, List.length_nil] at h
  refine lim_run rfl Try.func18 rfl (by kernel_rfl) ⟨m0, fun m hm => ?_⟩
  show evK XX 18 (lpOf XX 18 m) c18 _ _ = _
  rw [r18]
  show (lpOf XX 18 m (bodyAt 2 c18) (H18 k 0 (eSs l))).bind _ = _
  rw [h m hm, Option.bind_some]
  exact r18_2x ..

theorem fr19_2 : firstRegion (bodyAt 2 c19) = 2 := by kernel_rfl
abbrev H19 (l : List ByteArray) (k : Int) (i : Nat) : St :=
  mk 0 22 [(0, AV.one (A1.s (eSs l))), (1, AV.one (A1.v (Value.int IntKind.i64 k))), (5, AV.one (A1.v (Value.int IntKind.i64 (i : Int))))] []
theorem l19 (n : Nat) (k : Int) (h1 : k + (n : Int) ≤ 9223372036854775807) (h2 : 0 ≤ k) : ∀ (d i : Nat), i + d = n →
    LoopTo XX 19 (bodyAt 2 c19) (H19 (mks k n) (k + (i : Int)) i) (.exit 0, mk 0 22 [(1, AV.one (A1.v (Value.int IntKind.i64 (k + (n : Int)))))] []) := by
  intro d
  induction d with
  | zero =>
    intro i hi
    have hi : i = n := by omega
    subst hi
    exact .done (.at fr19_2 fun m => by rw [r19_2]; simp) (by simp)
  | succ d ih =>
    intro i hi
    have hlt : i < (mks k n).length := by simp; omega
    have hlt2 : i < n := by omega
    have hg := f37_ok (k + (i : Int)) (by omega)
    have hr : ∀ m, evK XX 19 (lpOf XX 19 m) (bodyAt 2 c19) (H19 (mks k n) (k + (i : Int)) i) (outL (XX.live 19 2)) = some (.normal, H19 (mks k n) (k + ((i + 1 : Nat) : Int)) (i + 1)) := fun m => by
      rw [r19_2, hg]
      have e1 : (eSs (mks k n)).getD i [] = eS (mt (k + (i : Int))) := by rw [getD_map eS _ i hlt, mks_get]
      simp only [Int.toNat_natCast, e1]
      have e2 : IntKind.i64.wrap (k + (i : Int) + 1) = k + ((i + 1 : Nat) : Int) := by rw [wrap_in _ (by omega)]; omega
      simp [hlt2, eS, wrap_nat i (by omega), H19, e2]
    exact .step (.at fr19_2 hr) (ih (i + 1) (by omega))
theorem f19_ok (n : Nat) (k : Int) (h1 : k + (n : Int) ≤ 9223372036854775807) (h2 : 0 ≤ k) :
    lim' Y 19 [.one (.s (eSs (mks k n))), .one (.v (.int .i64 k))] [] = some ⟨[.v (.int .i64 (k + (n : Int)))], []⟩ := by
  obtain ⟨m0, h⟩ := (l19 n k h1 h2 n 0 (by omega)).get
  refine lim_run rfl Try.func19 rfl (by kernel_rfl) ⟨m0, fun m hm => ?_⟩
  show evK XX 19 (lpOf XX 19 m) c19 _ _ = _
  rw [r19]
  show (lpOf XX 19 m (bodyAt 2 c19) (H19 (mks k n) k 0)).bind _ = _
  rw [show H19 (mks k n) k 0 = H19 (mks k n) (k + ((0 : Nat) : Int)) 0 by simp [H19], h m hm, Option.bind_some]
  exact r19_2x ..
end Go.PVr1
/- Marks in nodes; the path of an id; the law FnExactNodesPath on data. -/
namespace Go.PVr1
open Go.PV Go.Proofs

theorem fr36_2 : firstRegion (bodyAt 2 c36) = 2 := by kernel_rfl
abbrev H36 (k : Int) (i : Nat) (es : List (List D)) : St :=
  mk 1 27 [(0, AV.one (A1.r 0 [] 0)), (1, AV.one (A1.v (Value.int IntKind.i64 k))), (5, AV.one (A1.v (Value.int IntKind.i64 (i : Int))))] [(0, some (vob es))]
theorem l36 : ∀ (l : List Node) (pre : List (List D)) (k : Int), (∀ n ∈ l, Lo n.path) → pre.length + l.length ≤ 1048576 → 0 ≤ k → k ≤ 1048577 * (pre.length : Int) + 1 →
    ∃ es k', 0 ≤ k' ∧ LoopTo XX 36 (bodyAt 2 c36) (H36 k pre.length (pre ++ eNs l)) (.exit 0, mk 1 27 [(1, AV.one (A1.v (Value.int IntKind.i64 k')))] [(0, some (vob es))]) := by
  intro l
  induction l with
  | nil =>
    intro pre k h1 h2 h3 h4
    exact ⟨_, k, h3, .done (.at fr36_2 fun m => by rw [r36_2]; simp; rfl) (by simp)⟩
  | cons n l ih =>
    intro pre k h1 h2 h3 h4
    simp only [List.length_cons] at h2
    have hn := h1 n (by simp)
    have hnl := hn.1
    have hg := f18_ok n.path (k + 1) (by omega) (by omega) (by omega)
    have hr : ∀ m, evK XX 36 (lpOf XX 36 m) (bodyAt 2 c36) (H36 k pre.length (pre ++ eNs (n :: l))) (outL (XX.live 36 2)) =
        some (.normal, H36 (k + 1 + (n.path.length : Int)) (pre ++ [[D.v (.int .i64 k), D.s (eSs (mks (k + 1) n.path.length))]]).length ((pre ++ [[D.v (.int .i64 k), D.s (eSs (mks (k + 1) n.path.length))]]) ++ eNs l)) := fun m => by
      rw [r36_2]
      have e1 : ((pre ++ eNs (n :: l)).getD pre.length []) = eN n := by simp [List.getD_eq_getElem?_getD]
      have e2 : ∀ r, (pre ++ eNs (n :: l)).set pre.length r = pre ++ r :: eNs l := by simp
      have e3 : ∀ r, (pre ++ r :: eNs l).getD pre.length [] = r := by simp [List.getD_eq_getElem?_getD]
      have e4 : ∀ r r', (pre ++ r :: eNs l).set pre.length r' = pre ++ r' :: eNs l := by simp
      have e5 : ∀ r, (pre.length : Int) < ((pre ++ r :: eNs l).length : Int) := by intro r; simp; omega
      have e6 : (pre.length : Int) < ((pre ++ eNs (n :: l)).length : Int) := by simp; omega
      simp only [Int.toNat_natCast, e1, e2, e3, e4, e5, e6, eN, wrap_in (k + 1) (by omega), List.drop_succ_cons, List.drop_zero, List.getD_cons_succ, List.getD_cons_zero, es_s, List.length_cons, List.length_nil]
      simp [hg, wrap_nat pre.length (by omega), H36]
    obtain ⟨es, k', g1, g2⟩ := ih (pre ++ [[D.v (.int .i64 k), D.s (eSs (mks (k + 1) n.path.length))]]) (k + 1 + (n.path.length : Int)) (fun x hx => h1 x (List.mem_cons_of_mem _ hx)) (by simp; omega) (by omega) (by simp; omega)
    exact ⟨es, k', g1, .step (.at fr36_2 hr) g2⟩
theorem f36_ok (l : List Node) (hl : LoN l) : ∃ es k', 0 ≤ k' ∧ lim' Y 36 [.one (.r 0 [] 0), .one (.v (.int .i64 1))] [vob (eNs l)] = some ⟨[.v (.int .i64 k')], [vob es]⟩ := by
  obtain ⟨es, k', g1, g2⟩ := l36 l [] 1 hl.2 (by have := hl.1; simpa using this) (by omega) (by simp)
  obtain ⟨m0, h⟩ := g2.get
  simp only [List.nil_append, List.length_nil] at h
  refine ⟨es, k', g1, lim_run rfl Try.func36 rfl (by kernel_rfl) ⟨m0, fun m hm => ?_⟩⟩
  show evK XX 36 (lpOf XX 36 m) c36 _ _ = _
  rw [r36]
  show (lpOf XX 36 m (bodyAt 2 c36) (H36 1 0 (eNs l))).bind _ = _
  rw [h m hm, Option.bind_some]
  exact r36_2x ..
theorem f17_ok (i : Int) (l : List Node) (hl : LoN l) : ∃ (obs : List PV.Obj) (k' : Int), 0 ≤ k' ∧ lim' Y 17 [.g [.v (.int .i64 i), .r 0 [] 0], .one (.v (.int .i64 1))] [vob (eNs l)] = some ⟨[.v (.int .i64 k')], obs⟩ := by
  obtain ⟨es, k', g1, g2⟩ := f36_ok l hl
  refine ⟨[{ kind := Kind.virt, row := [D.h], fl := [Own.deep] }], k', g1, lim_run0 rfl Try.func17 rfl (by kernel_rfl) fun m => ?_⟩
  show evK XX 17 (lpOf XX 17 m) c17 _ _ = _
  rw [r17, g2]
  simp

/-! ### the path of an id -/
def pathOf (l : List Node) (a : Int) : Option (List ByteArray) := (fstB (fun k => (gN l k).id == a) 0 l.length).map fun k => (gN l k).path
@[simp] theorem rowsLen_s (l : List ByteArray) : rowsLen 1 (eSs l) = true := by simp [rowsLen, eS]
@[simp] theorem rowsCell_s (l : List ByteArray) : rowsCell false (eSs l) = true := by simp [rowsCell, eS, cellD, isCell]
theorem fr15_2 : firstRegion (bodyAt 2 c15) = 2 := by kernel_rfl
abbrev H15 (i : Int) (l : List Node) (a : Int) (k : Nat) : St :=
  mk 0 35 [(1, AV.one (A1.v (Value.int IntKind.i64 a))), (2, AV.one (A1.p true 2 [] 0)), (6, AV.one (A1.v (Value.int IntKind.i64 (k : Int))))]
        [(2, some { kind := Kind.box, row := [D.v (Value.int IntKind.i64 i), D.s (eNs l)], fl := [Own.deep, Own.sh] })]
abbrev E15 (p : List ByteArray) : Ex × St := (.ret, mk 0 35 [(4, AV.one (A1.r 4 [] 0)), (5, AV.one (A1.v (Value.bool true)))] [(4, some { kind := Kind.virt, row := [D.s (eSs p)], fl := [Own.deep] })])
def rOf (o : Option (List ByteArray)) : Res := match o with
  | some p => ⟨[.o .deep (eSs p), .v (.bool true)], []⟩
  | none => ⟨[.o .deep [], .v (.bool false)], []⟩
theorem f15_ok (i : Int) (l : List Node) (a : Int) (hl : LoN l) (hs : SmN l) :
    lim' Y 15 [.g [.v (.int .i64 i), .s (eNs l)], .one (.v (.int .i64 a))] [] = some (rOf (bif okB i l then pathOf l a else none)) := by
  have hl1 := hl.1
  have h30 := f30_ok i l hs
  cases hok : okB i l with
  | false =>
    have hd : LoopTo XX 15 (bodyAt 2 c15) (H15 i l a 0) (.exit 0, mk 0 35 [] []) := .done (.at fr15_2 fun m => by
      rw [r15_2, h30, hok]
      by_cases h0 : l.length = 0 <;> simp [h0]) (by simp)
    obtain ⟨m0, h⟩ := hd.get
    refine lim_run rfl Try.func15 rfl (by kernel_rfl) ⟨m0, fun m hm => ?_⟩
    show evK XX 15 (lpOf XX 15 m) c15 _ _ = _
    rw [r15]
    show (lpOf XX 15 m (bodyAt 2 c15) (H15 i l a 0)).bind _ = _
    rw [h m hm, Option.bind_some]
    exact r15_2x ..
  | true =>
    have h := loop_first (X := XX) (fn := 15) (b := bodyAt 2 c15) (n := l.length) (H15 i l a) (fun k => bif (gN l k).id == a then some (E15 (gN l k).path) else none) (.exit 0, mk 0 35 [] [])
      (by simp) (fun k r h => bif_some (by simp) h) (.at fr15_2 fun m => by rw [r15_2]; simp)
      (fun k hk => .at fr15_2 fun m => by
        rw [r15_2, h30, hok]
        have hn := hl.2 _ (List.getElem_mem hk)
        rw [gN_lt hk] at hn
        have hnl := hn.1
        simp only [Int.toNat_natCast, getD_map eN l k hk]
        rw [gN_lt hk]
        cases he : (gN l k).id == a with
        | true => 
          have e1 : decide ((0 + (eSs (gN l k).path).length) * 17 ≤ 70368744177664) = true := by simp; omega
          simp only [eN, es_s, List.getD_cons_succ, List.getD_cons_zero, int_v, he, e1, rowsLen_s, rowsCell_s]
          simp [hk]
        | false => simp [hk, eN, he, wrap_nat k (by omega), H15]) l.length 0 (by omega)
    rw [firstB_fst] at h
    obtain ⟨m0, hm0⟩ := h.get
    refine lim_run rfl Try.func15 rfl (by kernel_rfl) ⟨m0, fun m hm => ?_⟩
    show evK XX 15 (lpOf XX 15 m) c15 _ _ = _
    rw [r15]
    show (lpOf XX 15 m (bodyAt 2 c15) (H15 i l a 0)).bind _ = _
    rw [hm0 m hm, Option.bind_some]
    unfold pathOf
    cases fstB (fun k => (gN l k).id == a) 0 l.length with
    | none => exact r15_2x ..
    | some k => exact r15_2r ..

theorem fr16_3 : firstRegion (bodyAt 3 c16) = 3 := by kernel_rfl
abbrev H16 (l : List Node) (a : Int) (k : Nat) : St :=
  mk 0 27 [(1, AV.one (A1.v (Value.int IntKind.i64 a))), (11, AV.one (A1.s (eNs l))), (12, AV.one (A1.v (Value.int IntKind.i64 (l.length : Int)))), (13, AV.one (A1.v (Value.int IntKind.i64 (k : Int))))] []
abbrev E16 (p : List ByteArray) : Ex × St := (.ret, mk 0 27 [(4, AV.one (A1.r 4 [] 0)), (5, AV.one (A1.v (Value.bool true)))] [(4, some { kind := Kind.virt, row := [D.s (eSs p)], fl := [Own.deep] })])
theorem f16_ok (i : Int) (l : List Node) (a : Int) (hl : LoN l) (hs : SmN l) :
    lim' Y 16 [.g [.v (.int .i64 i), .s (eNs l)], .one (.v (.int .i64 a))] [] = some (rOf (bif okB i l then pathOf l a else none)) := by
  have hl1 := hl.1
  have h := loop_first (X := XX) (fn := 16) (b := bodyAt 3 c16) (n := l.length) (H16 l a) (fun k => bif (gN l k).id == a then some (E16 (gN l k).path) else none) (.exit 0, mk 0 27 [] [])
    (by simp) (fun k r h => bif_some (by simp) h) (.at fr16_3 fun m => by rw [r16_3]; simp)
    (fun k hk => .at fr16_3 fun m => by
      rw [r16_3]
      have hn := hl.2 _ (List.getElem_mem hk)
      rw [gN_lt hk] at hn
      have hnl := hn.1
      simp only [Int.toNat_natCast, getD_map eN l k hk]
      rw [gN_lt hk]
      cases he : (gN l k).id == a with
      | true => 
        have e1 : decide ((0 + (eSs (gN l k).path).length) * 17 ≤ 70368744177664) = true := by simp; omega
        simp only [eN, es_s, List.getD_cons_succ, List.getD_cons_zero, int_v, he, e1, rowsLen_s, rowsCell_s]
        simp [hk]
      | false => simp [hk, eN, he, wrap_nat k (by omega), H16]) l.length 0 (by omega)
  rw [firstB_fst] at h
  obtain ⟨m0, hm0⟩ := h.get
  refine lim_run rfl Try.func16 rfl (by kernel_rfl) ⟨m0, fun m hm => ?_⟩
  show evK XX 16 (lpOf XX 16 m) c16 _ _ = _
  rw [r16, f33_ok i l hs]
  cases okB i l with
  | false => simp; rfl
  | true =>
    simp only [List.length_map, Option.bind_some, fits_b, Bool.and_self, cond_true, List.getD_cons_zero, tbool_v]
    show (lpOf XX 16 m (bodyAt 3 c16) (H16 l a 0)).bind _ = _
    rw [hm0 m hm, Option.bind_some]
    unfold pathOf
    cases fstB (fun k => (gN l k).id == a) 0 l.length with
    | none => exact r16_3x ..
    | some k => exact r16_3r ..

theorem pathOf_lo {l : List Node} {a : Int} {p : List ByteArray} (hl : LoN l) (h : pathOf l a = some p) : Lo p := by
  unfold pathOf at h
  cases hf : fstB (fun k => (gN l k).id == a) 0 l.length with
  | none => rw [hf] at h; exact absurd h (by simp)
  | some k =>
    rw [hf] at h
    simp only [Option.map_some, Option.some.injEq] at h
    have hk := (fstB_range _ _ _ _ hf).2.1
    subst h
    rw [← gN_lt (by omega)]
    exact hl.2 _ (List.getElem_mem _)
theorem f4_ok (i : Int) (l : List Node) (a : Int) (hs : SmN l) : lim' Y 4 [.g [.v (.int .i64 i), .s (eNs l)], .one (.v (.int .i64 a))] [] = some ⟨[.v (.bool true)], []⟩ := by
  obtain ⟨y, h7, hy, hlo⟩ := f7_ok i l hs
  refine lim_run0 rfl Try.func4 rfl (by kernel_rfl) fun m => ?_
  show evK XX 4 (lpOf XX 4 m) c4 _ _ = _
  rw [r4]
  have h7' : lim' Y 7 [.g [.v (.int .i64 i), .s (eNs l)], .one (.v (.int .i64 1048576))] [] = some ⟨[.v (.int .i64 y)], []⟩ := h7
  by_cases hn : y < 0
  · simp [h7', hn, r4e0]
  · have hl := hlo (by omega)
    obtain ⟨p, b, hp, hr⟩ : ∃ p b, Lo p ∧ rOf (bif okB i l then pathOf l a else none) = ⟨[.o .deep (eSs p), .v (.bool b)], []⟩ := by
      cases hq : (bif okB i l then pathOf l a else none) with
      | none => exact ⟨[], false, ⟨by simp, by simp⟩, rfl⟩
      | some p =>
        refine ⟨p, true, ?_, rfl⟩
        cases hk : okB i l with
        | false => rw [hk] at hq; exact absurd hq (by simp)
        | true => rw [hk] at hq; exact pathOf_lo hl hq
    have h15 := f15_ok i l a hl hs
    have h16 := f16_ok i l a hl hs
    rw [hr] at h15 h16
    obtain ⟨obs, k', hk0, h17⟩ := f17_ok i l hl
    have hpl := hp.1
    have h18 := f18_ok p 1 (by omega) (by omega) (by omega)
    have h19 := f19_ok p.length 1 (by omega) (by omega)
    have hk1 : ¬ k' < 0 := by omega
    have hk2 : ¬ 1 + (p.length : Int) < 0 := by omega
    simp [h7', hn, r4e0, r4c4, r4c5, r4c7, r4c8, r4c10, r4c12, r4c16, r4c19, r4c20, r4c24, f10_ok i l hl, f13_refl i l hl, f14_refl p hp, h15, h16, h17, h18, h19, hk1, hk2]
end Go.PVr1
