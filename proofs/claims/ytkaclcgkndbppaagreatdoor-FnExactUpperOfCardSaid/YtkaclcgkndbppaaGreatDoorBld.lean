/- A part of the proof: PvBld, PvExtB. -/
import Derived.Test.YtkaclcgkndbppaaGreatDoorPvC
import Derived.Shelf.Strings.BuilderF
import Derived.Test.YtkaclcgkndbppaaGreatDoorExt
set_option linter.unusedSimpArgs false
set_option linter.unusedVariables false
set_option linter.unusedVariables false
namespace Go.PV
open Go.Shelf Go.RowKit Go.Proofs
structure BKept (w w':World) (row:Option Nat):Prop where
 os:w'.os=w.os
 output:w'.output=w.output
 tape:w'.tape=w.tape
 size:w.heap.size≤w'.heap.size
 block:∀k,k<w.heap.size→some k≠row→w'.heap[k]? =w.heap[k]?
theorem BKept.drew(w:World)(row:Option Nat):BKept w w.drew row:=⟨rfl,rfl,rfl,Nat.le_refl _,fun _ _ _=>rfl⟩
theorem BKept.alloc(w:World)(row:Option Nat)(o:Go.Obj):BKept w (w.drew.alloc o) row:=
 ⟨rfl,rfl,rfl,by show w.heap.size≤(w.heap.push o).size;simp,fun k hk _=>by
  show (w.heap.push o)[k]? =_;rw[Array.getElem?_push,if_neg (by omega)]⟩
theorem BKept.freeze(w:World)(g n:Nat):BKept w (w.drew.freeze ⟨g,0,none⟩ n) (some g):=by
 unfold World.freeze;split
 ·exact BKept.drew _ _
 ·refine ⟨rfl,rfl,rfl, ?_,fun k hk hne=> ?_⟩
  ·show w.heap.size≤(w.heap.modify _ _).size
   simp
  ·have:g≠k:=fun h=>hne (by rw[h])
   show (w.heap.modify _ _)[k]? =_;simp[Array.getElem?_modify,this]
section
variable {P:Program}{ρ:Ren}
set_option maxHeartbeats 2000000 in
set_option maxRecDepth 100000 in
theorem znV(L:Lays.n169 P ρ)(X:Builder.Extra P ρ)(b:Nat)(l:List UInt8)(w:World)(p v:Value)(hbk:w.heap[b]? =some (.cells #[p,v] (ρ.t 72) (0,0)))
 (hown:w.ownsRowF 0 (ρ.t 5) 1 v (Lib.byteCells l).length (Lib.byteCells l)) (hne:v.ownBlock≠some b):
 Calls P (ρ.f 169) #[.pointer (some ⟨b,0,none⟩)] w fun e w'=>e= .returned (.string ⟨l.toArray⟩)∧w'.heap[b]? =w.heap[b]?∧w'.ownsRowF 0 (ρ.t 5) 1 v (Lib.byteCells l).length (Lib.byteCells l)∧BKept w w' v.ownBlock:=by
 have hlt:b<w.heap.size:=(Array.getElem?_eq_some_iff.1 hbk).1;have hA:Lib.BuilderAtF (ρ.t 72) (ρ.t 5) 0 b p (Lib.byteCells l) w:=⟨Nat.zero_le _,v,hbk,hown,hne⟩
 have back:∀w',Lib.BuilderAtF (ρ.t 72) (ρ.t 5) 0 b p (Lib.byteCells l) w'→BKept w w' v.ownBlock→w'.heap[b]? =w.heap[b]?∧w'.ownsRowF 0 (ρ.t 5) 1 v (Lib.byteCells l).length (Lib.byteCells l)∧BKept w w' v.ownBlock:=fun w' h hk=>by
  obtain ⟨_,v',h1,h2,_⟩:=h;have hb:=hk.block b hlt (fun h=>hne h.symm)
  have:v'=v:=by
   rw[hb,hbk]at h1;simp only[Option.some.injEq,Obj.cells.injEq]at h1;have:=congrArg (fun a=>a[1]?) h1.1
   simpa using this.symm
  subst this;exact ⟨hb,h2,hk⟩
 have mixed:=L.mixed;have t72:=L.t72;have a72:=L.a72;have z72:=L.z72;have v72:=L.v72;have u72:=run_underlying L.t72;have t70:=L.t70;have a70:=L.a70;have z70:=L.z70;have v70:=L.v70;have u70:=run_underlying L.t70;have t37:=L.t37;have a37:=L.a37;have z37:=L.z37;have v37:=L.v37;have u37:=run_underlying L.t37;have t127:=L.t127;have a127:=L.a127;have z127:=L.z127;have v127:=L.v127;have u127:=run_underlying L.t127;have t3:=L.t3;have a3:=L.a3;have z3:=L.z3;have v3:=L.v3;have u3:=run_underlying L.t3;have t9:=L.t9;have a9:=L.a9;have z9:=L.z9;have v9:=L.v9;have u9:=run_underlying L.t9;have t5:=X.t5;have a5:=X.a5;have z5:=X.z5;have v5:=X.v5;have u5:=run_underlying X.t5;have hUS:=Any.unsafeString_none L X;rw[Lib.byteCells_length]at hown;rcases hown.2 with ⟨rfl,h0⟩|⟨g,cap,cur,fz,rfl,hbg,hg,hfz,hnc,hcm,hcs,htake⟩
 · -- no row
   have hl0:l=[]:=List.length_eq_zero_iff.1 h0;subst hl0
   have c1:w.drew.cell? ⟨b,1,none⟩=some (.slice none 0 0):=by
    have:w.drew.heap[b]? =some (.cells #[p, .slice none 0 0] (ρ.t 72) (0,0)):=hbk;rw[Lib.cell_of_heap this];rfl
   have hSD:(Builtin.unsafeSliceData_ #[(ρ.t 37)] (ρ.t 127) #[.slice none 0 0]).run P w.drew= .ok (.pointer none) w.drew:=rfl
   go_enter L.f169,Body.n169_ntmps ρ
   go_wp2
   go_region_o
   all_goals (go_wp2;go_ret;exact ⟨rfl,back _ hA.drew (BKept.drew _ _)⟩)
 ·by_cases hl0:l=[]
  ·subst hl0
   by_cases hc0:cap=0
   ·subst hc0
    have c1:w.drew.cell? ⟨b,1,none⟩=some (.slice (some ⟨g,0,none⟩) 0 0):=by
     have:w.drew.heap[b]? =some (.cells #[p, .slice (some ⟨g,0,none⟩) 0 0] (ρ.t 72) (0,0)):=hbk;rw[Lib.cell_of_heap this];rfl
    have hSD:(Builtin.unsafeSliceData_ #[(ρ.t 37)] (ρ.t 127) #[.slice (some ⟨g,0,none⟩) 0 0]).run P w.drew= .ok (.pointer (some ⟨w.drew.heap.size,0,none⟩)) (w.drew.alloc (.view ⟨g,0,none⟩ (ρ.t 5))):=
     Lib.run_unsafeSliceData_zero w.drew _ _ (ρ.t 5) L.t127 ⟨g,0,none⟩ 0 ((ρ.t 5),cur.size) (by have hg':w.drew.heap[g]? =some (.cells cur (ρ.t 5) fz):=hg;simp[World.shape?,hg'])
    have c2:(w.drew.alloc (.view ⟨g,0,none⟩ (ρ.t 5))).cell? ⟨b,1,none⟩=some (.slice (some ⟨g,0,none⟩) 0 0):=by
     have:(w.drew.alloc (.view ⟨g,0,none⟩ (ρ.t 5))).heap[b]? =_:=(Lib.alloc_old w.drew _ b hlt).trans hbk;rw[Lib.cell_of_heap this];rfl
    have c3:(w.alloc (.view ⟨g,0,none⟩ (ρ.t 5))).drew.cell? ⟨b,1,none⟩=some (.slice (some ⟨g,0,none⟩) 0 0):=c2;have c0:w.cell? ⟨b,1,none⟩=some (.slice (some ⟨g,0,none⟩) 0 0):=c1
    go_enter L.f169,Body.n169_ntmps ρ
    go_wp2
    go_region_o
    all_goals (go_wp2;go_ret;exact ⟨rfl,back _ (hA.drew.alloc _) (BKept.alloc _ _ _)⟩)
   ·have c1:w.drew.cell? ⟨b,1,none⟩=some (.slice (some ⟨g,0,none⟩) 0 cap):=by
     have:w.drew.heap[b]? =some (.cells #[p, .slice (some ⟨g,0,none⟩) 0 cap] (ρ.t 72) (0,0)):=hbk;rw[Lib.cell_of_heap this];rfl
    have hSD:(Builtin.unsafeSliceData_ #[(ρ.t 37)] (ρ.t 127) #[.slice (some ⟨g,0,none⟩) 0 cap]).run P w.drew= .ok (.pointer (some ⟨g,0,none⟩)) w.drew:=
     Lib.run_unsafeSliceData_row _ _ _ _ _ _ hc0
    clear hc0
    go_enter L.f169,Body.n169_ntmps ρ
    go_wp2
    go_region_o
    all_goals (go_wp2;go_ret;exact ⟨rfl,back _ hA.drew (BKept.drew _ _)⟩)
  ·have hn0:l.length≠0:=fun h=>hl0 (List.length_eq_zero_iff.1 h)
   have c1:w.drew.cell? ⟨b,1,none⟩=some (.slice (some ⟨g,0,none⟩) l.length cap):=by
    have:w.drew.heap[b]? =some (.cells #[p, .slice (some ⟨g,0,none⟩) l.length cap] (ρ.t 72) (0,0)):=hbk;rw[Lib.cell_of_heap this];rfl
   have hSD:(Builtin.unsafeSliceData_ #[(ρ.t 37)] (ρ.t 127) #[.slice (some ⟨g,0,none⟩) l.length cap]).run P w.drew= .ok (.pointer (some ⟨g,0,none⟩)) w.drew:=
    Lib.run_unsafeSliceData_row _ _ _ _ _ _ (by omega)
   have hUS':(Builtin.unsafeString_ #[(ρ.t 127),(ρ.t 3)] (ρ.t 9) #[.pointer (some ⟨g,0,none⟩), .int .i64 l.length]).run P w.drew= .ok (.string ⟨l.toArray⟩) (w.drew.freeze ⟨g,0,none⟩ l.length):=by
    refine Lib.run_unsafeString_row w.drew (ρ.t 127) (ρ.t 3) (ρ.t 9) (ρ.t 5) L.t127 X.cellsByte g cur.size (by have hg':w.drew.heap[g]? =some (.cells cur (ρ.t 5) fz):=hg;simp[World.shape?,hg']) l hl0 (by omega) (by unfold maxLen at hcm;omega) ?_
    intro j x hx;exact hown.cells (g:=g) rfl j (.int .u8 x.toNat) (by simp[Lib.byteCells,hx])
   have hF:Lib.BuilderAtF (ρ.t 72) (ρ.t 5) 0 b p (Lib.byteCells l) (w.drew.freeze ⟨g,0,none⟩ l.length):=by
    have:=hA.drew.froze (g:=g) (cap:=cap) (by rw[Lib.byteCells_length];exact c1)
    rwa [Lib.byteCells_length]at this
   clear hUS
   go_enter L.f169,Body.n169_ntmps ρ
   go_wp2
   go_region_o
   all_goals (go_wp2;go_ret;exact ⟨rfl,back _ hF (BKept.freeze _ _ _)⟩)
theorem zgB(w:World)(t u ty e:TypeId)(i:TypeInfo)(ht:P.underlying t=some (.slice e))(hu:P.underlying u=some .string)(hi:P.info? e=some i)(hz:i.zero=some (.int .u8 0))(hsize:i.size=1)(hby:i.bytes=1)
 (v:Value) (n:Nat) (xs:List Value) (hown:w.ownsRowF 0 e 1 v n xs) (s:ByteArray) (h63:n+s.size≤140737488355328):
 ∃v' w',(Builtin.append_ #[t,u] ty #[v, .string s]).run P w= .ok v' w'∧w'.ownsRowF 0 e 1 v' (n+s.size) (xs++Lib.strCells s)∧w.grownBy w' v.ownBlock∧(v'.ownBlock=v.ownBlock∨∀g,v'.ownBlock=some g→w.heap.size≤g):=by
 have hmx:n+s.size≤maxLen:=by unfold maxLen;omega
 obtain ⟨v1,w1,h1,h2,h3,h4⟩:=Lib.run_append_own_stringF (P:=P) w 0 t u ty e i ht hu hi hz hsize hby v n xs hown s hmx h63 (Nat.zero_le _);refine ⟨v1,w1,h1,h2,h3, ?_⟩;rcases hown.2 with ⟨rfl,rfl⟩|⟨g,cap,cur,fz,rfl,hbg,hg,hfz,hnc,hcm,hcs,htake⟩
 ·obtain ⟨v2,w2,k1,k2,k3,k4⟩:=Lib.run_append_own_stringF (P:=P) w w.heap.size t u ty e i ht hu hi hz hsize hby (.slice none 0 0) 0 xs ⟨hown.1, .inl ⟨rfl,rfl⟩⟩ s hmx h63 (Nat.le_refl _)
  rw[h1]at k1;obtain ⟨rfl,rfl⟩:v1=v2∧w1=w2:=by simpa using k1
  exact .inr fun g hg=>(k2.lt g hg).1
 ·by_cases hroom:n+s.size≤cap
  ·have hr:=Lib.run_append_room_stringF (P:=P) w t u ty e i ht hu hi hsize g n cap cur fz hg (by simpa using hfz) s hroom (by omega)
   rw[h1]at hr;obtain ⟨rfl,_⟩:v1= .slice (some ⟨g,0,none⟩) (n+s.size) cap∧_:=by simpa using hr
   exact .inl rfl
  ·have hxl:xs.length=n:=by simpa using hown.1
   have hr:=Lib.run_append_grow_string (P:=P) w t u ty e i (.int .u8 0) ht hu hi hz ⟨g,0,none⟩ n cap xs (by rw[hsize];simpa using hxl) (hown.cells (g:=g) rfl) s (by omega) (by omega) (by rw[hby];exact growslice_fits (by omega) (by omega))
   rw[h1]at hr;obtain ⟨rfl,_⟩:v1= .slice (some ⟨w.heap.size,0,none⟩) (n+s.size) (grownCap w (n+s.size) cap e)∧_:=by simpa using hr
   exact .inr fun g hg=>by simp only[Value.ownBlock,Option.some.injEq]at hg;omega
theorem zfh{ops:Array Oper}{rest:List Oper}{o:Oper}{a:Act}{Q:Exit→Act→World→Prop}(hgd:o.guard=none)(sl x:Operand)(t u:TypeId)
 (ho:o.op= .call {callee:= .builtin .append,args:= #[sl,x],argTypes:= #[t,u]})
 (e:TypeId) (i:TypeInfo) (ht:P.underlying t=some (.slice e)) (hu:P.underlying u=some .string) (hi:P.info? e=some i) (hz:i.zero=some (.int .u8 0)) (hsize:i.size=1) (hby:i.bytes=1)
 (w:World) (v:Value) (n:Nat) (xs:List Value) (hs:a.eval sl=v) (hown:w.ownsRowF 0 e 1 v n xs) (s:ByteArray) (hx:a.eval x= .string s) (h63:n+s.size≤140737488355328)
 (h:∀v' w',w'.ownsRowF 0 e 1 v' (n+s.size) (xs++Lib.strCells s)→w.grownBy w' v.ownBlock→(v'.ownBlock=v.ownBlock∨∀g,v'.ownBlock=some g→w.heap.size≤g)→wpList P ops Q rest (a.put o.dst v') w'):
 wpList P ops Q (o::rest) a w:=by
 refine wpList_plain hgd fun K hK=> ?_
 obtain ⟨v',w',hr,h2,h3,h4⟩:=zgB (P:=P) w t u o.type e i ht hu hi hz hsize hby v n xs hown s h63;unfold Oper.wp execOp;simp only[ho,resolve,invoke,builtin,Sem.run_bind,Sem.run_pure,Result.andThen_ok,List.map_toArray,List.map_cons,List.map_nil,hs,hx,hr];exact hK _ _ (h v' w' h2 h3 h4)
set_option maxHeartbeats 2000000 in
set_option maxRecDepth 100000 in
theorem zpw(L:Lays.n166 P ρ)(X:Builder.Extra P ρ)(b:Nat)(n:Nat)(xs:List Value)(s:ByteArray)(w:World)(p v:Value)(hbk:w.heap[b]? =some (.cells #[p,v] (ρ.t 72) (0,0)))
 (hp:p= .pointer none∨p= .pointer (some ⟨b,0,none⟩)) (hown:w.ownsRowF 0 (ρ.t 5) 1 v n xs) (hne:v.ownBlock≠some b) (hlen:n+s.size≤140737488355328):
 Calls P (ρ.f 166) #[.pointer (some ⟨b,0,none⟩), .string s] w fun e w'=>e= .returned (.tuple #[.int .i64 s.size, .nilIface])∧
  ∃v',w'.heap[b]? =some (.cells #[.pointer (some ⟨b,0,none⟩),v'] (ρ.t 72) (0,0))∧w'.ownsRowF 0 (ρ.t 5) 1 v' (n+s.size) (xs++Lib.strCells s)∧v'.ownBlock≠some b∧
   (v'.ownBlock=v.ownBlock∨∀g,v'.ownBlock=some g→w.heap.size≤g)∧w'.os=w.os∧w'.output=w.output∧w'.tape=w.tape∧w.heap.size≤w'.heap.size∧
   ∀k,k<w.heap.size→k≠b→v.ownBlock≠some k→w'.heap[k]? =w.heap[k]? :=by
 obtain ⟨i0,hi,hz0,hz1,hz2⟩:=info_parts X.infoByte;have hlt:b<w.heap.size:=(Array.getElem?_eq_some_iff.1 hbk).1;have mixed:=L.mixed;have t72:=L.t72;have a72:=L.a72;have z72:=L.z72;have v72:=L.v72;have u72:=run_underlying L.t72;have t70:=L.t70;have a70:=L.a70;have z70:=L.z70;have v70:=L.v70;have u70:=run_underlying L.t70;have t37:=L.t37;have a37:=L.a37;have z37:=L.z37;have v37:=L.v37;have u37:=run_underlying L.t37;have t3:=L.t3;have a3:=L.a3;have z3:=L.z3;have v3:=L.v3;have u3:=run_underlying L.t3;have t9:=L.t9;have a9:=L.a9;have z9:=L.z9;have v9:=L.v9;have u9:=run_underlying L.t9;have t4:=L.t4;have a4:=L.a4;have z4:=L.z4;have v4:=L.v4;have u4:=run_underlying L.t4;have t164:=L.t164;have a164:=L.a164;have z164:=L.z164;have v164:=L.v164;have u164:=run_underlying L.t164;have t5:=X.t5;have a5:=X.a5;have z5:=X.z5;have v5:=X.v5;have u5:=run_underlying X.t5;have e240:∀args w,(callFunc (ρ.f 240) args).run P w= .ok (.enter (ρ.f 240) args) w:=enters_of L.f240 (by kernel_rfl) rfl
 have hcheck:Calls P (ρ.f 240) #[.pointer (some ⟨b,0,none⟩)] w fun e w1=>e= .returned (.tuple #[])∧w1.heap[b]? =some (.cells #[.pointer (some ⟨b,0,none⟩),v] (ρ.t 72) (0,0))∧w1.ownsRowF 0 (ρ.t 5) 1 v n xs∧
  w1.os=w.os∧w1.output=w.output∧w1.tape=w.tape∧w1.heap.size=w.heap.size∧∀k,k≠b→w1.heap[k]? =w.heap[k]? :=by
  rcases hp with rfl|rfl
  ·refine (Any.Builder_copyCheck_fresh {L with} X.toX72 b w (by rw[Lib.cell_of_heap hbk];rfl) (by simp[World.shape?,hbk]) (by simp[World.frozen?,hbk])).mono ?_
   rintro e w1 ⟨rfl,rfl⟩
   have hU:Lib.BuilderAtF (ρ.t 72) (ρ.t 5) 0 b (.pointer (some ⟨b,0,none⟩)) xs (w.setCell ⟨b,0,none⟩ (.pointer (some ⟨b,0,none⟩))):=
    Lib.BuilderAtF.used (p:= .pointer none) ⟨Nat.zero_le _,v,hbk,by have:=hown.1;rw[this,Nat.mul_one];exact hown,hne⟩ _
   obtain ⟨_,v',g1,g2,_⟩:=hU
   have hv:(w.setCell ⟨b,0,none⟩ (.pointer (some ⟨b,0,none⟩))).heap[b]? =some (.cells #[.pointer (some ⟨b,0,none⟩),v] (ρ.t 72) (0,0)):=by
    simp[World.setCell,Array.getElem?_modify,hbk]
   have:v'=v:=by
    rw[hv]at g1;simp only[Option.some.injEq,Obj.cells.injEq]at g1;have:=congrArg (fun a=>a[1]?) g1.1
    simpa using this.symm
   subst this;refine ⟨rfl,hv,by have h1:=hown.1;rw[Nat.mul_one]at h1;rw[h1]at g2;exact g2,rfl,rfl,rfl,by simp[World.setCell],fun k hk=> ?_⟩
   have:b≠k:=fun h=>hk h.symm
   simp[World.setCell,Array.getElem?_modify,this]
  ·refine (Any.Builder_copyCheck_used {L with} X.toX72 b w (by rw[Lib.cell_of_heap hbk];rfl)).mono ?_
   rintro e w1 ⟨rfl,rfl⟩
   exact ⟨rfl,hbk,hown,rfl,rfl,rfl,rfl,fun _ _=>rfl⟩
 go_enter L.f166,Body.n166_ntmps ρ
 go_wp2_with (go_at_fn (ρ.f 240);refine hcheck.mono ?_)
 rintro e w1 ⟨rfl,hbk1,hown1,ho1,ho2,ho3,hs1,hk1⟩
 have c0:w1.cell? ⟨b,0,none⟩=some (.pointer (some ⟨b,0,none⟩)):=by rw[Lib.cell_of_heap hbk1];rfl
 have c1:w1.cell? ⟨b,1,none⟩=some v:=by rw[Lib.cell_of_heap hbk1];rfl
 go_wp2_with (at_builtin;refine zfh rfl _ _ (ρ.t 37) (ρ.t 9) rfl (ρ.t 5) i0 L.t37 L.t9 hi hz0 hz1 hz2 w1 v n xs rfl hown1 s rfl hlen ?_)
 intro v' w2 hown' hgrow hat
 have hb2:w2.heap[b]? =some (.cells #[.pointer (some ⟨b,0,none⟩),v] (ρ.t 72) (0,0)):=by
  rw[hgrow.block b (by omega) (fun e=>hne e.symm)]
  exact hbk1
 have d0:w2.cell? ⟨b,0,none⟩=some (.pointer (some ⟨b,0,none⟩)):=by rw[Lib.cell_of_heap hb2];rfl
 have d1:w2.cell? ⟨b,1,none⟩=some v:=by rw[Lib.cell_of_heap hb2];rfl
 have f1:w2.frozen? ⟨b,1,none⟩=false:=Lib.frozen_of_heap hb2 1
 have hne':v'.ownBlock≠some b:=by
  rcases hat with h|h
  ·rw[h];exact hne
  ·intro h2;have:=h b h2;omega
 obtain ⟨ao,n',cap,rfl⟩:∃ao n' cap,v'= .slice ao n' cap:=by
  rcases hown'.2 with ⟨hv,_⟩|⟨g,cap,cur,fz,hv,_⟩
  ·exact ⟨_,_,_,hv⟩
  ·exact ⟨_,_,_,hv⟩
 go_wp2
 go_ret2
 have hP:=Lib.BuilderAtF.put (T:=(ρ.t 72)) (e:=(ρ.t 5)) (Nat.zero_le b) hb2 (bs':=xs++Lib.strCells s) (by
  have h1:=hown.1;rw[Nat.mul_one]at h1;rw[List.length_append,h1,Lib.strCells_length];exact hown') X.neB5
 obtain ⟨_,v2,g1,g2,_⟩:=hP
 have hv:(w2.setCell ⟨b,1,none⟩ (.slice ao n' cap)).heap[b]? =some (.cells #[.pointer (some ⟨b,0,none⟩), .slice ao n' cap] (ρ.t 72) (0,0)):=by
  simp[World.setCell,Array.getElem?_modify,hb2]
 have:v2= .slice ao n' cap:=by
  rw[hv]at g1;simp only[Option.some.injEq,Obj.cells.injEq]at g1;have:=congrArg (fun a=>a[1]?) g1.1
  simpa using this.symm
 subst this;refine ⟨rfl, .slice ao n' cap,hv, ?_,hne', ?_, ?_, ?_, ?_, ?_,fun k hk hkb hkv=> ?_⟩
 ·have h1:=hown.1;rw[Nat.mul_one]at h1
  rw[List.length_append,h1,Lib.strCells_length]at g2;exact g2
 ·rcases hat with h|h
  ·exact .inl h
  ·exact .inr fun g hg=>by have:=h g hg;omega
 ·exact hgrow.os.trans ho1
 ·exact hgrow.output.trans ho2
 ·exact hgrow.tape.trans ho3
 ·have:=hgrow.size;simp[World.setCell];omega
 ·have h1:(w2.setCell ⟨b,1,none⟩ (.slice ao n' cap)).heap[k]? =w2.heap[k]? :=by
   have:b≠k:=fun h=>hkb h.symm
   simp[World.setCell,Array.getElem?_modify,this]
  rw[h1,hgrow.block k (by omega) (fun h=>hkv h.symm),hk1 k hkb]
end
end Go.PV
namespace Go.PV
open Go.Shelf Go.RowKit Go.Proofs
def zeQ(T U:Nat):List AV→List Obj→Option Res
 | [.one (.p true 0 [] 0), .one (.v (.string s))],[⟨.bld t e,[.v (.string a), .h],fl⟩]=>
  bif decide (t=T)&&decide (e=U)&&decide (a.size+s.size≤140737488355328)then some ⟨[.v (.int .i64 s.size), .d],[⟨.bld t e,[.v (.string (a++s)), .h],fl⟩]⟩else none
 |_,_=>none
def extBLen(T U:Nat):List AV→List Obj→Option Res
 | [.one (.p true 0 [] 0)],[⟨.bld t e,[.v (.string a), .h],fl⟩]=>bif decide (t=T)&&decide (e=U)then some ⟨[.v (.int .i64 a.size)],[⟨.bld t e,[.v (.string a), .h],fl⟩]⟩else none
 |_,_=>none
def zep(T U:Nat):List AV→List Obj→Option Res
 | [.one (.p true 0 [] 0)],[⟨.bld t e,[.v (.string a), .h],fl⟩]=>bif decide (t=T)&&decide (e=U)then some ⟨[.v (.string a)],[⟨.bld t e,[.v (.string a), .h],fl⟩]⟩else none
 |_,_=>none
theorem zle{gl:List (Nat×List D)}{w:World}{G:Ghost}{pl:zaP}{args:Array Value}{avs:List AV}{t e:TypeId}{a:ByteArray}{fl:List Own}
 (E:Entry gl w G [⟨.bld t e,[.v (.string a), .h],fl⟩] pl args (.one (.p true 0 [] 0)::avs)):
 ∃b p v,args.getD 0 undef= .pointer (some ⟨b,0,none⟩)∧BldAt w G 0 (pl 0) t e b a p v∧fl.length=2:=by
 have hv:V1 w G (obOf [⟨.bld t e,[.v (.string a), .h],fl⟩]) pl (args.getD 0 undef) (.p true 0 [] 0):=E.vals 0 (by simp)
 obtain ⟨ad,ob,hr,hu⟩:=hv;have ho:=E.okObjs 0 ⟨.bld t e,[.v (.string a), .h],fl⟩ rfl (by simp)
 obtain ⟨b,s,p,v,h1,h2⟩:=ho.bld t e rfl
 have hs:s=a:=by
  simp only[List.cons.injEq,D.v.injEq,Value.string.injEq,and_true]at h1;exact h1.symm
 subst hs;have hat:=hr.at_;simp only[zaD]at hat;rw[h2.base]at hat;obtain rfl:=Option.some.inj hat;exact ⟨b,p,v,hu,h2,ho.fl⟩
theorem zq0{Y:Prm}{w w':World}{G:Ghost}{pl:zaP}{args:Array Value}{avs:List AV}{t e:TypeId}{a:ByteArray}{fl:List Own}{rs:RS}{rv:Value}{c:TC}
 (E:Entry Y.gl w G [⟨.bld t e,[.v (.string a), .h],fl⟩] pl args avs) {b:Nat} {p v:Value} (hB:BldAt w G 0 (pl 0) t e b a p v) (hfl:fl.length=2)
 (hb:w'.heap[b]? =w.heap[b]?) (hown:w'.ownsRowF 0 e 1 v a.size (Lib.strCells a)) (hk:BKept w w' v.ownBlock)
 (hres:∃us,ResAt rs rv us∧∀i (h:i< [c].length),TCOk ⟨G,obOf [⟨.bld t e,[.v (.string a), .h],fl⟩],pl,Y.gl⟩ w' G (obOf [⟨.bld t e,[.v (.string a), .h],fl⟩]) pl 1 i (us i) ([c][i])):
 PV.Left w ⟨G,obOf [⟨.bld t e,[.v (.string a), .h],fl⟩],pl,Y.gl⟩ [⟨.bld t e,[.v (.string a), .h],fl⟩] rs w' rv ⟨[c],[⟨.bld t e,[.v (.string a), .h],fl⟩]⟩ G pl:=by
 have hsame:∀k,k<w.heap.size→G k≠some (0,[0,0])→w'.heap[k]? =w.heap[k]? :=fun k hlt hG=>hk.block k hlt fun h=>hG (hB.bytes k h.symm)
 refine {os:=hk.os,output:=hk.output,tape:=hk.tape,hsize:=hk.size,base:=fun k hlt h0=>⟨hsame k hlt (by simp only at h0;rw[h0];simp),h0⟩
         fr:=fun k π hlt h0=>⟨hsame k hlt (by simp only at h0;rw[h0];simp[FR]),rfl⟩,out:=fun n b' off ob hn ho hG hbase k hkk=> ?_,own:=fun k x hx=> ?_
         dom:=fun k x hx=> ?_,okObjs:=fun n ob ho hkind=> ?_,olen:=rfl,start:=fun n ob hn ho hkind=> ?_,res:=by obtain ⟨us,h1,h2⟩:=hres;exact ⟨us, .inl h1,h2⟩}
 ·have:n=0:=by simpa using hn
  subst this;have hb2:(some ⟨b,0,none⟩:Option Addr)=some ⟨b',off,none⟩:=by rw[←hB.base];exact hbase
  simp only[Option.some.injEq,Addr.mk.injEq,and_true]at hb2;obtain ⟨rfl,rfl⟩:=hb2;exact cell_of_heap hb k
 ·by_cases h0:x=(0,[0,0])
  ·subst h0
   by_cases hv:v.ownBlock=some k
   ·rcases hown.2 with ⟨rfl,_⟩|⟨g,cap,cur,fz,rfl,_,hg,_⟩
    ·simp[Value.ownBlock]at hv
    ·simp only[Value.ownBlock,Option.some.injEq]at hv
     subst hv;exact ⟨cur,e,fz,hg,fun h=>absurd h zhu⟩
   ·exact (E.own k _ hx).heap (hk.block k (E.own k _ hx).lt fun h=>hv h.symm)
  ·exact (E.own k x hx).heap (hsame k (E.own k x hx).lt (by rw[hx];simpa using h0))
 ·rcases E.nolim k x hx with h|h
  ·left;simp at h;simp;omega
  ·exact .inr h
 ·have h0:n=0:=by
   cases n with
   |zero=>rfl
   |succ n=>simp[obOf]at ho
  subst h0;obtain rfl:⟨.bld t e,[.v (.string a), .h],fl⟩=ob:=by simpa[obOf]using ho
  have ho1:=E.okObjs 0 ⟨.bld t e,[.v (.string a), .h],fl⟩ rfl (by simp)
  refine {bld:=fun t1 e1 h1=> ?_,fl:=hfl,rel:=fun c hc=> ?_,box:=fun h=>by simp at h}
  ·simp only[Kind.bld.injEq]at h1
   obtain ⟨rfl,rfl⟩:=h1;exact ⟨b,a,p,v,rfl,{hB with cells:=by rw[hb];exact hB.cells,owns:=hown}⟩
  ·have:c=0∨c=1:=by simp at hc;omega
   rcases this with rfl|rfl
   ·have:=(ho1.rel 0 (by simp)).v_eq
    simp only[List.getElem_cons_zero];rw[this];exact .v _ _
   ·exact .h _ _
 ·have h0:n=0:=by simpa using hn
  subst h0;obtain rfl:⟨.bld t e,[.v (.string a), .h],fl⟩=ob:=by simpa using ho
  exact ⟨_,rfl,rfl,rfl,rfl,fun _ h=>by simp[Kind.isBld]at h⟩
theorem arr1{args:Array Value}(h:args.size=1):args= #[args.getD 0 undef]:=by
 apply Array.ext
 ·simp[h]
 ·intro i h1 h2
  have:i=0:=by simp at h2;omega
  subst this;simp[h1]
theorem arr2{args:Array Value}(h:args.size=2):args= #[args.getD 0 undef,args.getD 1 undef]:=by
 apply Array.ext
 ·simp[h]
 ·intro i h1 h2
  have:i=0∨i=1:=by simp at h2;omega
  rcases this with rfl|rfl<;>simp[h1]
theorem zgP(a:ByteArray):Lib.byteCells a.data.toList=Lib.strCells a:=rfl
theorem zjT{Y:Prm}{ρ:Ren}(L:Lays.n169 Y.P ρ)(X:Builder.Extra Y.P ρ){f:FuncId}{fn:Func}{T U:Nat}(hF:ρ.f 169=f)(hT:ρ.t 72=T)(hU:ρ.t 5=U)(hf:Y.P.funcs[f]? =some fn)(hb:fn.body.isSome=true)(hn:(fn.name== "runtime.NumGoroutine")=false)
 (hres:(Y.sig f).res= .one .str):ExtOk Y f (zep T U):=by
 subst hF hT hU;intro as1 objs rv h;unfold zep at h;split at h
 case h_2=>simp at h
 rename_i t e a fl;rw[cond_eq_ite]at h;split at h
 case isFalse=>simp at h
 rename_i hc;simp only[Bool.and_eq_true,decide_eq_true_eq]at hc;obtain ⟨rfl,rfl⟩:=hc;obtain rfl:=Option.some.inj h;refine ⟨⟨fn,hf,hb,hn⟩,fun w G pl args E=> ?_⟩
 obtain ⟨b,p,v,hu,hB,hfl⟩:=zle E;rw[arr1 E.size,hu];have hown:=hB.owns;refine (znV L X b a.data.toList w p v hB.cells (by rw[zgP,Lib.strCells_length];exact hown) hB.ne).mono ?_
 rintro e w' ⟨rfl,h1,h2,h3⟩
 rw[zgP,Lib.strCells_length]at h2;refine ⟨_,G,pl,rfl,zq0 E hB hfl h1 h2 h3 ⟨fun _=> .string a,by rw[hres];rfl,fun i hi=> ?_⟩⟩
 have:i=0:=by simpa using hi
 subst this;rfl
theorem zlf{Y:Prm}{ρ:Ren}(L:Lays.n166 Y.P ρ)(X:Builder.Extra Y.P ρ){f:FuncId}{fn:Func}{T U:Nat}(hF:ρ.f 166=f)(hT:ρ.t 72=T)(hU:ρ.t 5=U)(hf:Y.P.funcs[f]? =some fn)(hb:fn.body.isSome=true)(hn:(fn.name== "runtime.NumGoroutine")=false)
 (hres:(Y.sig f).res= .tup [(false,[.int .i64]),(false,[.any])]):ExtOk Y f (zeQ T U):=by
 subst hF hT hU;intro as1 objs rv h;unfold zeQ at h;split at h
 case h_2=>simp at h
 rename_i s t e a fl;rw[cond_eq_ite]at h;split at h
 case isFalse=>simp at h
 rename_i hc;simp only[Bool.and_eq_true,decide_eq_true_eq]at hc;obtain ⟨⟨rfl,rfl⟩,hsz⟩:=hc;obtain rfl:=Option.some.inj h;refine ⟨⟨fn,hf,hb,hn⟩,fun w G pl args E=> ?_⟩
 obtain ⟨b,p,v,hu,hB,hfl⟩:=zle E;have hv1:args.getD 1 undef= .string s:=E.vals 1 (by simp)
 rw[arr2 E.size,hu,hv1];have hown:=hB.owns;have hblt:b<w.heap.size:=(Array.getElem?_eq_some_iff.1 hB.cells).1;refine (zpw L X b a.size (Lib.strCells a) s w p v hB.cells hB.self hown hB.ne hsz).mono ?_
 rintro e w' ⟨rfl,v',g1,g2,g3,g4,g5,g6,g7,g8,g9⟩
 have hcat:Lib.strCells (a++s)=Lib.strCells a++Lib.strCells s:=by
  unfold Lib.strCells;rw[ByteArray.data_append];simp
 have hsize:(a++s).size=a.size+s.size:=ByteArray.size_append ..;rw[←hcat,←hsize]at g2
 let G':Ghost:=fun k=>if v'.ownBlock=some k then some (0,[0,0])else if G k=some (0,[0,0])then none else G k
 let pl':zaP:=fun n=>if n=0 then ⟨(pl 0).base,fun _=> .string (a++s)⟩else pl n
 have hnew:∀k,k<w.heap.size→G k≠some (0,[0,0])→v'.ownBlock≠some k:=fun k hk hG h=>by
  rcases g4 with h4|h4
  ·exact hG (hB.bytes k (h4▸h))
  ·have:=h4 k h;omega
 have hG':∀k,k<w.heap.size→G k≠some (0,[0,0])→G' k=G k:=fun k hk hG=>by
  show (if _ then _ else if _ then _ else _)=_
  rw[if_neg (hnew k hk hG),if_neg hG]
 have hsame:∀k,k<w.heap.size→k≠b→G k≠some (0,[0,0])→w'.heap[k]? =w.heap[k]? :=fun k hlt hkb hG=>g9 k hlt hkb fun h=>hG (hB.bytes k h)
 have hinv:∀k x,G' k=some x→v'.ownBlock=some k∧x=(0,[0,0])∨v'.ownBlock≠some k∧G k=some x∧x≠(0,[0,0]):=fun k x hx=>by
  have hx:(if v'.ownBlock=some k then some (0,[0,0])else if G k=some (0,[0,0])then none else G k)=some x:=hx
  split at hx
  ·rename_i h0;exact .inl ⟨h0,(Option.some.inj hx).symm⟩
  ·rename_i h0
   split at hx
   ·simp at hx
   ·rename_i h1;exact .inr ⟨h0,hx,fun h=>h1 (h▸hx)⟩
 refine ⟨_,G',pl',rfl,{os:=g5,output:=g6,tape:=g7,hsize:=g8,base:=fun k hlt h0=> ?_,fr:=fun k π hlt h0=> ?_,out:=fun n b' off ob hn ho hG hbase k hkk=> ?_,own:=fun k x hx=> ?_
                       dom:=fun k x hx=> ?_,okObjs:=fun n ob ho hkind=> ?_,olen:=rfl,start:=fun n ob hn ho hkind=> ?_,res:=⟨fun i=>if i=0 then .int .i64 s.size else .nilIface, ?_,fun i hi=> ?_⟩}⟩
 ·simp only at h0
  have hne:G k≠some (0,[0,0]):=by rw[h0];simp
  exact ⟨hsame k hlt (fun h=>by rw[h,hB.box]at h0;simp at h0) hne,by rw[hG' k hlt hne];exact h0⟩
 ·simp only at h0
  have hne:G k≠some (0,[0,0]):=by rw[h0];simp[FR]
  exact ⟨hsame k hlt (fun h=>by rw[h,hB.box]at h0;simp[FR]at h0) hne,hG' k hlt hne⟩
 ·have:n=0:=by simpa using hn
  subst this;have hb2:(some ⟨b,0,none⟩:Option Addr)=some ⟨b',off,none⟩:=by rw[←hB.base];exact hbase
  simp only[Option.some.injEq,Addr.mk.injEq,and_true]at hb2;obtain ⟨rfl,rfl⟩:=hb2;obtain rfl:⟨.bld (ρ.t 72) (ρ.t 5),[.v (.string (a++s)), .h],fl⟩=ob:=by simpa using ho
  have hk2:2≤k:=by
   rcases hkk with h|h
   ·omega
   ·simpa using h
  simp only[World.cell?,g1,hB.cells];simp[hk2]
 ·rcases hinv k x hx with ⟨h1,rfl⟩|⟨h1,h2,h3⟩
  ·rcases g2.2 with ⟨rfl,_⟩|⟨g,cap,cur,fz,rfl,_,hg,_⟩
   ·simp[Value.ownBlock]at h1
   ·simp only[Value.ownBlock,Option.some.injEq]at h1
    subst h1;exact ⟨cur,_,fz,hg,fun h=>absurd h zhu⟩
  ·by_cases hkb:k=b
   ·subst hkb
    exact .of ⟨_,_,g1⟩
   ·exact (E.own k x h2).heap (hsame k (E.own k x h2).lt hkb (by rw[h2];simpa using h3))
 ·rcases hinv k x hx with ⟨_,rfl⟩|⟨_,h2,_⟩
  ·exact .inl (by simp)
  ·rcases E.nolim k x h2 with h|h
   ·left;simp at h;simp;omega
   ·exact .inr h
 ·have h0:n=0:=by
   cases n with
   |zero=>rfl
   |succ n=>simp[obOf]at ho
  subst h0;obtain rfl:⟨.bld (ρ.t 72) (ρ.t 5),[.v (.string (a++s)), .h],fl⟩=ob:=by simpa[obOf]using ho
  refine {bld:=fun t1 e1 h1=> ?_,fl:=hfl,rel:=fun c hc=> ?_,box:=fun h=>by simp at h}
  ·simp only[Kind.bld.injEq]at h1
   obtain ⟨rfl,rfl⟩:=h1;refine ⟨b,a++s, .pointer (some ⟨b,0,none⟩),v',rfl,{base:=hB.base,box:= ?_,self:= .inr rfl,cells:=g1,owns:=g2,ne:=g3,bytes:=fun g hg=> ?_}⟩
   ·rw[hG' b hblt (by rw[hB.box];simp)];exact hB.box
   ·show (if _ then _ else _)=_
    rw[if_pos hg]
  ·have:c=0∨c=1:=by simp at hc;omega
   rcases this with rfl|rfl
   ·exact .v _ _
   ·exact .h _ _
 ·have h0:n=0:=by simpa using hn
  subst h0;obtain rfl:⟨.bld (ρ.t 72) (ρ.t 5),[.v (.string (a++s)), .h],fl⟩=ob:=by simpa using ho
  exact ⟨_,rfl,rfl,rfl,rfl,fun _ h=>by simp[Kind.isBld]at h⟩
 ·rw[hres]
  exact .inl ⟨_,rfl,⟨rfl,rfl⟩,⟨rfl,rfl⟩,trivial⟩
 ·have:i=0∨i=1:=by simp at hi;omega
  rcases this with rfl|rfl
  ·rfl
  ·trivial
end Go.PV
