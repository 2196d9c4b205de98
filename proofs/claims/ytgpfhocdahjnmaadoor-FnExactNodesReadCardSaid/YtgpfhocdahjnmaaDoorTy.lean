/- A part of the proof: PvBase, PvTy. -/
import Derived.Test.YtgpfhocdahjnmaaDoorPvC
import Derived.KernelRfl
import Derived.Laws.BitsLemmas
import Derived.Laws.Strings
set_option linter.unusedSimpArgs false
set_option linter.unusedVariables false
/- Data of Go as data of Lean: texts as lists of bytes, rows, what conditions come to. -/
namespace Go.PV

/-- A text: its bytes. -/
abbrev Str := List UInt8
def mkS (l : Str) : ByteArray := ⟨l.toArray⟩
theorem mkS_of (s : ByteArray) : mkS s.data.toList = s := rfl
@[simp] theorem size_mkS (l : Str) : (mkS l).size = l.length := by simp [mkS, ByteArray.size]
@[simp] theorem data_mkS (l : Str) : (mkS l).data = l.toArray := rfl
@[simp] theorem toList_mkS (l : Str) : (mkS l).toList = l := by unfold mkS; exact ByteArray.toList_mk l
theorem mkS_inj {a b : Str} (h : mkS a = mkS b) : a = b := by have := congrArg ByteArray.toList h; simpa using this
@[simp] theorem mkS_eq (a b : Str) : mkS a = mkS b ↔ a = b := ⟨mkS_inj, fun h => by rw [h]⟩
@[simp] theorem mkS_append (a b : Str) : mkS a ++ mkS b = mkS (a ++ b) := by
  apply ByteArray.ext
  rw [ByteArray.data_append]
  simp [mkS]
@[simp] theorem extract_mkS (l : Str) (i j : Nat) : (mkS l).extract i j = mkS ((l.take j).drop i) := by
  apply ByteArray.ext
  rw [ByteArray.data_extract]
  simp [mkS, List.extract_eq_take_drop, List.take_drop]
  rcases Nat.le_total i j with h | h
  · rw [show i + (j - i) = j from by omega]
  · rw [show j - i = 0 from by omega, Nat.add_zero, List.drop_eq_nil_of_le (by simp; omega), List.drop_eq_nil_of_le (by simp; omega)]
theorem byteAt_mkS (l : Str) (i : Nat) : byteAt (mkS l) i = ((l.getD i 0).toNat : Int) := by
  simp [byteAt, mkS, Array.getD_eq_getD_getElem?, List.getD_eq_getElem?_getD]
theorem byteAt_lt (l : Str) (i : Nat) (h : i < l.length) : byteAt (mkS l) i = (l[i].toNat : Int) := by
  rw [byteAt_mkS, List.getD_eq_getElem?_getD, List.getElem?_eq_getElem h]; rfl

@[simp] theorem mkS_lit (l : Str) : ByteArray.mk l.toArray = mkS l := rfl

/-- A text's row. -/
def eS (s : Str) : List D := [.v (.string (mkS s))]
abbrev eSs (l : List Str) : List (List D) := l.map eS
theorem eS_inj {a b : Str} (h : eS a = eS b) : a = b := by
  simp only [eS, List.cons.injEq, D.v.injEq, Value.string.injEq, and_true] at h
  exact mkS_inj h

theorem getD_map {α : Type} (f : α → List D) (l : List α) (k : Nat) (h : k < l.length) : (l.map f).getD k [] = f (l[k]) := by
  simp [List.getD_eq_getElem?_getD, h]
theorem drop_cons {α : Type} (l : List α) (k : Nat) (h : k < l.length) : l.drop k = l[k] :: l.drop (k + 1) := by simp
theorem take_snoc {α : Type} (l : List α) (k : Nat) (h : k < l.length) : l.take (k + 1) = l.take k ++ [l[k]] := (List.take_append_getElem h).symm

theorem wrap_in (n : Int) (h : -9223372036854775808 ≤ n ∧ n ≤ 9223372036854775807) : IntKind.i64.wrap n = n := by rw [IntKind.wrap_i64]; omega
theorem wrap_nat (n : Nat) (h : n < 9223372036854775807) : IntKind.i64.wrap ((n : Int) + 1) = ((n + 1 : Nat) : Int) := by
  rw [IntKind.wrap_i64]; omega
theorem wrap_pred (n : Nat) (h : n < 9223372036854775807) (h0 : 0 < n) : IntKind.i64.wrap ((n : Int) - 1) = ((n - 1 : Nat) : Int) := by
  rw [IntKind.wrap_i64]; omega

@[simp] theorem str_v (s : ByteArray) : (D.v (.string s)).str = s := rfl
@[simp] theorem int_v (k : IntKind) (n : Int) : (D.v (.int k n)).int = n := rfl
@[simp] theorem bool_v (b : Bool) : (D.v (.bool b)).bool = b := rfl
@[simp] theorem es_s (es : List (List D)) : (D.s es).es = es := rfl
@[simp] theorem tint_v (k : IntKind) (n : Int) : (TC.v (.int k n)).int = n := rfl
@[simp] theorem tbool_v (b : Bool) : (TC.v (.bool b)).bool = b := rfl
@[simp] theorem tstr_v (b : ByteArray) : (TC.v (.string b)).str = b := rfl
@[simp] theorem tes_o (w : Own) (es : List (List D)) : (TC.o w es).es = es := rfl
@[simp] theorem tes_s (es : List (List D)) : (TC.s es).es = es := rfl
@[simp] theorem tok_p (b : Bool) (j : Nat) (p : Path) (c : Nat) : (TC.p b j p c).ok = b := rfl
@[simp] theorem tpath_p (b : Bool) (j : Nat) (p : Path) (c : Nat) : (TC.p b j p c).path = p := rfl
@[simp] theorem tcell_p (b : Bool) (j : Nat) (p : Path) (c : Nat) : (TC.p b j p c).cell = c := rfl
attribute [simp] fitsCells fitsRow fitsCos fitsObj R1.fits CK.fits sameShape List.zipIdx Src.back recastObj recast

/-- From the last on down. -/
theorem up {P : Nat → Prop} (n : Nat) (h0 : P n) (hs : ∀ k, k < n → P (k + 1) → P k) : ∀ k, k ≤ n → P k := by
  intro k hk
  obtain ⟨d, rfl⟩ := Nat.exists_eq_add_of_le hk
  clear hk
  induction d generalizing k with
  | zero => exact h0
  | succ d ih =>
    refine hs k (by omega) ?_
    have := ih (k + 1) (by rw [show k + 1 + d = k + (d + 1) from by omega]; exact h0) (fun j hj => hs j (by omega))
    exact this

/-! ### what is filled place by place -/
theorem fill_len {α : Type} (f : α → List D) (l : List α) (z : List D) (k : Nat) (hk : k ≤ l.length) : ((l.take k).map f ++ List.replicate (l.length - k) z).length = l.length := by
  simp; omega
theorem fill_get {α : Type} (f : α → List D) (l : List α) (z : List D) (k : Nat) (hk : k < l.length) : ((l.take k).map f ++ List.replicate (l.length - k) z).getD k [] = z := by
  have h1 : ((l.take k).map f).length = k := by simp; omega
  rw [List.getD_eq_getElem?_getD, List.getElem?_append_right (by omega), h1, Nat.sub_self, List.getElem?_replicate, if_pos (by omega)]
  rfl
theorem fill_set {α : Type} (f : α → List D) (l : List α) (z : List D) (k : Nat) (hk : k < l.length) :
    ((l.take k).map f ++ List.replicate (l.length - k) z).set k (f l[k]) = (l.take (k + 1)).map f ++ List.replicate (l.length - (k + 1)) z := by
  have h1 : ((l.take k).map f).length = k := by simp; omega
  have h2 : l.length - k = (l.length - (k + 1)) + 1 := by omega
  rw [List.set_append_right _ _ (by omega), h1, h2, List.replicate_succ, Nat.sub_self, List.set_cons_zero, List.take_succ_eq_append_getElem hk, List.map_append, List.append_assoc]
  rfl
theorem fill_zero {α : Type} (f : α → List D) (l : List α) (z : List D) : (l.take 0).map f ++ List.replicate (l.length - 0) z = List.replicate l.length z := by simp
theorem fill_all {α : Type} (f : α → List D) (l : List α) (z : List D) : (l.take l.length).map f ++ List.replicate (l.length - l.length) z = l.map f := by simp
/-! ### what is turned place by place -/
theorem turn_get {α β : Type} (f : α → List D) (g : β → List D) (l : List α) (m : List β) (k : Nat) (hk : k < l.length) (hm : m.length = k) : (m.map g ++ (l.drop k).map f).getD k [] = f l[k] := by
  rw [List.getD_eq_getElem?_getD, List.getElem?_append_right (by simp; omega)]
  simp [hm, hk]
theorem turn_len {α β : Type} (f : α → List D) (g : β → List D) (l : List α) (m : List β) (k : Nat) (hk : k ≤ l.length) (hm : m.length = k) : (m.map g ++ (l.drop k).map f).length = l.length := by
  simp [hm]; omega
theorem turn_set {α β : Type} (f : α → List D) (g : β → List D) (l : List α) (m : List β) (k : Nat) (hk : k < l.length) (hm : m.length = k) (y : β) :
    (m.map g ++ (l.drop k).map f).set k (g y) = (m ++ [y]).map g ++ (l.drop (k + 1)).map f := by
  rw [List.set_append_right _ _ (by simp; omega), drop_cons l k hk]
  simp only [List.length_map, hm, Nat.sub_self, List.map_cons, List.set_cons_zero, List.map_append, List.map_nil, List.append_assoc, List.cons_append, List.nil_append]

/-! ### how large -/
abbrev Lim : Int := 1048576
/-- No longer than a number can tell. -/
def sS (s : Str) : Prop := s.length ≤ 9223372036854775807
def sL {α : Type} (p : α → Prop) (l : List α) : Prop := l.length ≤ 9223372036854775807 ∧ ∀ x ∈ l, p x
/-- Small. -/
def lS (s : Str) : Prop := s.length ≤ 1048576
def lL {α : Type} (p : α → Prop) (l : List α) : Prop := l.length ≤ 1048576 ∧ ∀ x ∈ l, p x
theorem sL_at {α : Type} {p : α → Prop} {l : List α} (h : sL p l) {k : Nat} (hk : k < l.length) : p l[k] := h.2 _ (List.getElem_mem hk)
theorem lL_at {α : Type} {p : α → Prop} {l : List α} (h : lL p l) {k : Nat} (hk : k < l.length) : p l[k] := h.2 _ (List.getElem_mem hk)
end Go.PV
/- The program's types as types of Lean: their rows, how much they hold. -/
namespace Go.PVx
open Go.PV

structure Mark where (path : List Str) (sub : Bool)
structure Tree where (dir : Bool) (mode : Int) (data : Str) (names : List Str) (kids : List Tree)
structure Call where (kind : Int) (path : List Str) (to : List Str) («at» : Int) (data : Str)
structure Row where (path : List Str) (dir : Bool) (mode : Int) (data : Str) (id : Int)
structure Page where (used : Bool) (data : Str) (next : Int)
structure PageName where (name : Str) (first : Int) (size : Int)
structure Pages where (pages : List Page) (names : List PageName)
structure NodeOf where (id : Int) (path : List Str)
structure Nodes where (next : Int) (list : List NodeOf)
structure Entry where (path : List Str) (what : Int) (dir : Bool) (mode : Int) (data : Str)
structure Upper where (gone : List (List Str)) (puts : List Entry)

instance : Inhabited Tree := ⟨⟨false, 0, [], [], []⟩⟩
instance : Inhabited NodeOf := ⟨⟨0, []⟩⟩

theorem Tree.ind {P : Tree → Prop} (h : ∀ d m s ns ks, (∀ k ∈ ks, P k) → P ⟨d, m, s, ns, ks⟩) (t : Tree) : P t :=
  Tree.rec (motive_1 := P) (motive_2 := fun l => ∀ k ∈ l, P k) (fun d m s ns ks ih => h d m s ns ks ih) (fun k hk => by simp at hk)
    (fun t ts h1 h2 k hk => by rcases List.mem_cons.1 hk with rfl | hk; exact h1; exact h2 k hk) t

/-! ### rows -/
def ePa (p : List Str) : List D := [.s (eSs p)]
mutual
def eT : Tree → List D
  | ⟨d, m, s, ns, ks⟩ => [.v (.bool d), .v (.int .i64 m), .v (.string (mkS s)), .s (eSs ns), .s (eTs ks)]
def eTs : List Tree → List (List D)
  | [] => []
  | t :: ts => eT t :: eTs ts
end
@[simp] theorem eTs_map : ∀ l : List Tree, eTs l = l.map eT
  | [] => rfl
  | t :: ts => by rw [eTs, eTs_map ts]; rfl
theorem eT_eq (t : Tree) : eT t = [.v (.bool t.dir), .v (.int .i64 t.mode), .v (.string (mkS t.data)), .s (eSs t.names), .s (t.kids.map eT)] := by
  obtain ⟨d, m, s, ns, ks⟩ := t
  rw [eT, eTs_map]
def eN (n : NodeOf) : List D := [.v (.int .i64 n.id), .s (eSs n.path)]
def eM (m : Mark) : List D := [.s (eSs m.path), .v (.bool m.sub)]
def eE (e : Entry) : List D := [.s (eSs e.path), .v (.int .i64 e.what), .v (.bool e.dir), .v (.int .i64 e.mode), .v (.string (mkS e.data))]
def eR (r : Row) : List D := [.s (eSs r.path), .v (.bool r.dir), .v (.int .i64 r.mode), .v (.string (mkS r.data)), .v (.int .i64 r.id)]
def eP (p : Page) : List D := [.v (.bool p.used), .v (.string (mkS p.data)), .v (.int .i64 p.next)]
def ePN (n : PageName) : List D := [.v (.string (mkS n.name)), .v (.int .i64 n.first), .v (.int .i64 n.size)]
def eI (n : Int) : List D := [.v (.int .i64 n)]

/-! ### arguments -/
abbrev vB (b : Bool) : AV := .one (.v (.bool b))
abbrev vI (n : Int) : AV := .one (.v (.int .i64 n))
abbrev vS (s : Str) : AV := .one (.v (.string (mkS s)))
abbrev vP (p : List Str) : AV := .one (.s (eSs p))
abbrev vT (t : Tree) : AV := .g [.v (.bool t.dir), .v (.int .i64 t.mode), .v (.string (mkS t.data)), .s (eSs t.names), .s (t.kids.map eT)]
abbrev vN (n : NodeOf) : AV := .g [.v (.int .i64 n.id), .s (eSs n.path)]
abbrev vNs (n : Nodes) : AV := .g [.v (.int .i64 n.next), .s (n.list.map eN)]
abbrev vC (c : Call) : AV := .g [.v (.int .i64 c.kind), .s (eSs c.path), .s (eSs c.to), .v (.int .i64 c.at), .v (.string (mkS c.data))]
abbrev vE (e : Entry) : AV := .g [.s (eSs e.path), .v (.int .i64 e.what), .v (.bool e.dir), .v (.int .i64 e.mode), .v (.string (mkS e.data))]
/-! ### results -/
abbrev rB (b : Bool) : Option Res := some ⟨[.v (.bool b)], []⟩
abbrev rI (n : Int) : Option Res := some ⟨[.v (.int .i64 n)], []⟩
abbrev rS (s : Str) : Option Res := some ⟨[.v (.string (mkS s))], []⟩
abbrev rO (es : List (List D)) : Option Res := some ⟨[.o .deep es], []⟩
abbrev rSh (es : List (List D)) : Option Res := some ⟨[.s es], []⟩

/-! ### how much they hold -/
/-- n, and what each holds. -/
def wL {α : Type} (w : α → Nat) : List α → Nat
  | [] => 0
  | x :: l => 1 + w x + wL w l
def wP (p : List Str) : Nat := wL List.length p
mutual
def wT : Tree → Nat
  | ⟨_, _, s, ns, ks⟩ => s.length + wP ns + wTs ks
def wTs : List Tree → Nat
  | [] => 0
  | t :: ts => 1 + wT t + wTs ts
end
@[simp] theorem wTs_wL : ∀ l : List Tree, wTs l = wL wT l
  | [] => rfl
  | t :: ts => by rw [wTs, wTs_wL ts, wL]
theorem wT_eq (t : Tree) : wT t = t.data.length + wP t.names + wL wT t.kids := by
  obtain ⟨d, m, s, ns, ks⟩ := t
  rw [wT, wTs_wL]
def wN (n : NodeOf) : Nat := wP n.path
def wNs (n : Nodes) : Nat := wL wN n.list
theorem wL_len {α : Type} (w : α → Nat) : ∀ l : List α, l.length ≤ wL w l
  | [] => Nat.le_refl _
  | x :: l => by have := wL_len w l; simp only [List.length_cons, wL]; omega
theorem wL_mem {α : Type} (w : α → Nat) : ∀ (l : List α) (x : α), x ∈ l → 1 + w x ≤ wL w l
  | [], x, h => by simp at h
  | y :: l, x, h => by
    rcases List.mem_cons.1 h with rfl | h
    · simp only [wL]; omega
    · have := wL_mem w l x h; simp only [wL]; omega
theorem wL_at {α : Type} (w : α → Nat) {l : List α} {k : Nat} (h : k < l.length) : 1 + w l[k] ≤ wL w l := wL_mem w l _ (List.getElem_mem h)
theorem wL_append {α : Type} (w : α → Nat) : ∀ a b : List α, wL w (a ++ b) = wL w a + wL w b
  | [], b => by simp [wL]
  | x :: a, b => by simp only [List.cons_append, wL, wL_append w a b]; omega
theorem wL_drop {α : Type} (w : α → Nat) {l : List α} {k : Nat} (h : k < l.length) : wL w (l.drop k) = 1 + w l[k] + wL w (l.drop (k + 1)) := by
  rw [drop_cons l k h]; rfl
/-- No list and no text in it is longer than a number can tell. -/
def oP (p : List Str) : Prop := sL sS p
mutual
def oT : Tree → Prop
  | ⟨_, _, s, ns, ks⟩ => sS s ∧ oP ns ∧ ks.length ≤ 9223372036854775807 ∧ oTs ks
def oTs : List Tree → Prop
  | [] => True
  | t :: ts => oT t ∧ oTs ts
end
@[simp] theorem oTs_all : ∀ l : List Tree, oTs l ↔ ∀ t ∈ l, oT t
  | [] => by simp [oTs]
  | t :: ts => by simp [oTs, oTs_all ts]
theorem oT_eq (t : Tree) : oT t ↔ sS t.data ∧ oP t.names ∧ sL oT t.kids := by
  obtain ⟨d, m, s, ns, ks⟩ := t
  simp only [oT, oTs_all, sL]
end Go.PVx
