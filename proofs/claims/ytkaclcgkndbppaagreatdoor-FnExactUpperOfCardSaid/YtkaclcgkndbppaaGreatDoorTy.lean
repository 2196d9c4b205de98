/- A part of the proof: PvBase, PvTy, PvS. -/
import Derived.Test.YtkaclcgkndbppaaGreatDoorPvC
import Derived.KernelRfl
import Derived.Laws.BitsLemmas
import Derived.Laws.Strings
set_option linter.unusedSimpArgs false
set_option linter.unusedVariables false
namespace Go.PV
abbrev Str:=List UInt8
def mkS(l:Str):ByteArray:=⟨l.toArray⟩
@[simp] theorem zeC(l:Str):(mkS l).size=l.length:=by simp[mkS,ByteArray.size]
@[simp] theorem data_mkS(l:Str):(mkS l).data=l.toArray:=rfl
@[simp] theorem zgx(l:Str):(mkS l).toList=l:=by unfold mkS;exact ByteArray.toList_mk l
theorem zr9{a b:Str}(h:mkS a=mkS b):a=b:=by have:=congrArg ByteArray.toList h;simpa using this
@[simp] theorem mkS_eq(a b:Str):mkS a=mkS b↔a=b:=⟨zr9,fun h=>by rw[h]⟩
@[simp] theorem zi3(a b:Str):mkS a++mkS b=mkS (a++b):=by
 apply ByteArray.ext;rw[ByteArray.data_append];simp[mkS]
@[simp] theorem zhQ(l:Str)(i j:Nat):(mkS l).extract i j=mkS ((l.take j).drop i):=by
 apply ByteArray.ext;rw[ByteArray.data_extract];simp[mkS,List.extract_eq_take_drop,List.take_drop];rcases Nat.le_total i j with h|h
 ·rw[show i+(j-i)=j from by omega]
 ·rw[show j-i=0 from by omega,Nat.add_zero,List.drop_eq_nil_of_le (by simp;omega),List.drop_eq_nil_of_le (by simp;omega)]
theorem zgy(l:Str)(i:Nat):zbw (mkS l) i=((l.getD i 0).toNat:Int):=by
 simp[zbw,mkS,Array.getD_eq_getD_getElem?,List.getD_eq_getElem?_getD]
theorem zeO(l:Str)(i:Nat)(h:i<l.length):zbw (mkS l) i=(l[i].toNat:Int):=by
 rw[zgy,List.getD_eq_getElem?_getD,List.getElem?_eq_getElem h];rfl
@[simp] theorem mkS_lit(l:Str):ByteArray.mk l.toArray=mkS l:=rfl
def eS(s:Str):List D:=[.v (.string (mkS s))]
abbrev eSs(l:List Str):List (List D):=l.map eS
theorem zbT{α:Type}(f:α→List D)(l:List α)(k:Nat)(h:k<l.length):(l.map f).getD k []=f (l[k]):=by
 simp[List.getD_eq_getElem?_getD,h]
theorem zaF{α:Type}(l:List α)(k:Nat)(h:k<l.length):l.drop k=l[k]::l.drop (k+1):=by simp
theorem zk4{α:Type}(l:List α)(k:Nat)(h:k<l.length):l.take (k+1)=l.take k++[l[k]]:=(List.take_append_getElem h).symm
theorem zc1(n:Int)(h: -9223372036854775808≤n∧n≤9223372036854775807):IntKind.i64.wrap n=n:=by rw[IntKind.wrap_i64];omega
theorem zbC(n:Nat)(h:n<9223372036854775807):IntKind.i64.wrap ((n:Int)+1)=((n+1:Nat):Int):=by
 rw[IntKind.wrap_i64];omega
theorem zk5(n:Nat)(h:n<9223372036854775807)(h0:0<n):IntKind.i64.wrap ((n:Int)-1)=((n-1:Nat):Int):=by
 rw[IntKind.wrap_i64];omega
@[simp] theorem str_v(s:ByteArray):(D.v (.string s)).str=s:=rfl
@[simp] theorem int_v(k:IntKind)(n:Int):(D.v (.int k n)).int=n:=rfl
@[simp] theorem zpk(b:Bool):(D.v (.bool b)).bool=b:=rfl
@[simp] theorem es_s(es:List (List D)):(D.s es).es=es:=rfl
@[simp] theorem zpl(k:IntKind)(n:Int):(TC.v (.int k n)).int=n:=rfl
@[simp] theorem zjI(b:Bool):(TC.v (.bool b)).bool=b:=rfl
@[simp] theorem znc(b:ByteArray):(TC.v (.string b)).str=b:=rfl
@[simp] theorem tes_o(w:Own)(es:List (List D)):(TC.o w es).es=es:=rfl
@[simp] theorem tes_s(es:List (List D)):(TC.s es).es=es:=rfl
@[simp] theorem tok_p(b:Bool)(j:Nat)(p:Path)(c:Nat):(TC.p b j p c).ok=b:=rfl
@[simp] theorem tpath_p(b:Bool)(j:Nat)(p:Path)(c:Nat):(TC.p b j p c).path=p:=rfl
@[simp] theorem tcell_p(b:Bool)(j:Nat)(p:Path)(c:Nat):(TC.p b j p c).cell=c:=rfl
attribute [simp] zac zao za3 zcY R1.fits CK.fits zbH List.zipIdx Src.back zcB zmM
theorem up{P:Nat→Prop}(n:Nat)(h0:P n)(hs:∀k,k<n→P (k+1)→P k):∀k,k≤n→P k:=by
 intro k hk;obtain ⟨d,rfl⟩:=Nat.exists_eq_add_of_le hk;clear hk
 induction d generalizing k with
 |zero=>exact h0
 |succ d ih=>
  refine hs k (by omega) ?_
  have:=ih (k+1) (by rw[show k+1+d=k+(d+1) from by omega];exact h0) (fun j hj=>hs j (by omega))
  exact this
theorem zjJ{α:Type}(f:α→List D)(l:List α)(z:List D)(k:Nat)(hk:k≤l.length):((l.take k).map f++List.replicate (l.length-k) z).length=l.length:=by
 simp;omega
theorem zjK{α:Type}(f:α→List D)(l:List α)(z:List D)(k:Nat)(hk:k<l.length):((l.take k).map f++List.replicate (l.length-k) z).getD k []=z:=by
 have h1:((l.take k).map f).length=k:=by simp;omega
 rw[List.getD_eq_getElem?_getD,List.getElem?_append_right (by omega),h1,Nat.sub_self,List.getElem?_replicate,if_pos (by omega)]
 rfl
theorem zjL{α:Type}(f:α→List D)(l:List α)(z:List D)(k:Nat)(hk:k<l.length):
 ((l.take k).map f++List.replicate (l.length-k) z).set k (f l[k])=(l.take (k+1)).map f++List.replicate (l.length-(k+1)) z:=by
 have h1:((l.take k).map f).length=k:=by simp;omega
 have h2:l.length-k=(l.length-(k+1))+1:=by omega
 rw[List.set_append_right _ _ (by omega),h1,h2,List.replicate_succ,Nat.sub_self,List.set_cons_zero,List.take_succ_eq_append_getElem hk,List.map_append,List.append_assoc]
 rfl
theorem zhR{α:Type}(f:α→List D)(l:List α)(z:List D):(l.take 0).map f++List.replicate (l.length-0) z=List.replicate l.length z:=by simp
theorem zjM{α:Type}(f:α→List D)(l:List α)(z:List D):(l.take l.length).map f++List.replicate (l.length-l.length) z=l.map f:=by simp
theorem zjN{α β:Type}(f:α→List D)(g:β→List D)(l:List α)(m:List β)(k:Nat)(hk:k<l.length)(hm:m.length=k):(m.map g++(l.drop k).map f).getD k []=f l[k]:=by
 rw[List.getD_eq_getElem?_getD,List.getElem?_append_right (by simp;omega)]
 simp[hm,hk]
theorem zjO{α β:Type}(f:α→List D)(g:β→List D)(l:List α)(m:List β)(k:Nat)(hk:k≤l.length)(hm:m.length=k):(m.map g++(l.drop k).map f).length=l.length:=by
 simp[hm];omega
theorem zjP{α β:Type}(f:α→List D)(g:β→List D)(l:List α)(m:List β)(k:Nat)(hk:k<l.length)(hm:m.length=k)(y:β):
 (m.map g++(l.drop k).map f).set k (g y)=(m++[y]).map g++(l.drop (k+1)).map f:=by
 rw[List.set_append_right _ _ (by simp;omega),zaF l k hk]
 simp only[List.length_map,hm,Nat.sub_self,List.map_cons,List.set_cons_zero,List.map_append,List.map_nil,List.append_assoc,List.cons_append,List.nil_append]
abbrev Lim:Int:=1048576
def sS(s:Str):Prop:=s.length≤9223372036854775807
def sL{α:Type}(p:α→Prop)(l:List α):Prop:=l.length≤9223372036854775807∧∀x∈l,p x
theorem sL_at{α:Type}{p:α→Prop}{l:List α}(h:sL p l){k:Nat}(hk:k<l.length):p l[k]:=h.2 _ (List.getElem_mem hk)
end Go.PV
namespace Go.PVx
open Go.PV
structure Mark where (path:List Str) (sub:Bool)
structure Tree where (dir:Bool) (mode:Int) (data:Str) (names:List Str) (kids:List Tree)
structure Call where (kind:Int) (path:List Str) (to:List Str) («at»:Int) (data:Str)
structure Row where (path:List Str) (dir:Bool) (mode:Int) (data:Str) (id:Int)
structure Page where (used:Bool) (data:Str) (next:Int)
structure PageName where (name:Str) (first:Int) (size:Int)
structure NodeOf where (id:Int) (path:List Str)
structure Nodes where (next:Int) (list:List NodeOf)
structure Entry where (path:List Str) (what:Int) (dir:Bool) (mode:Int) (data:Str)
structure Upper where (gone:List (List Str)) (puts:List Entry)
instance:Inhabited Tree:=⟨⟨false,0,[],[],[]⟩⟩
instance:Inhabited NodeOf:=⟨⟨0,[]⟩⟩
theorem Tree.ind{P:Tree→Prop}(h:∀d m s ns ks,(∀k∈ks,P k)→P ⟨d,m,s,ns,ks⟩)(t:Tree):P t:=
 Tree.rec (motive_1:=P) (motive_2:=fun l=>∀k∈l,P k) (fun d m s ns ks ih=>h d m s ns ks ih) (fun k hk=>by simp at hk)
  (fun t ts h1 h2 k hk=>by rcases List.mem_cons.1 hk with rfl|hk;exact h1;exact h2 k hk) t
def ePa(p:List Str):List D:=[.s (eSs p)]
mutual
def eT:Tree→List D
 |⟨d,m,s,ns,ks⟩=> [.v (.bool d), .v (.int .i64 m), .v (.string (mkS s)), .s (eSs ns), .s (eTs ks)]
def eTs:List Tree→List (List D)
 | []=> []
 |t::ts=>eT t::eTs ts
end
@[simp] theorem zpm:∀l:List Tree,eTs l=l.map eT
 | []=>rfl
 |t::ts=>by rw[eTs,zpm ts];rfl
theorem eT_eq(t:Tree):eT t=[.v (.bool t.dir), .v (.int .i64 t.mode), .v (.string (mkS t.data)), .s (eSs t.names), .s (t.kids.map eT)]:=by
 obtain ⟨d,m,s,ns,ks⟩:=t;rw[eT,zpm]
def eN(n:NodeOf):List D:=[.v (.int .i64 n.id), .s (eSs n.path)]
def eM(m:Mark):List D:=[.s (eSs m.path), .v (.bool m.sub)]
def eE(e:Entry):List D:=[.s (eSs e.path), .v (.int .i64 e.what), .v (.bool e.dir), .v (.int .i64 e.mode), .v (.string (mkS e.data))]
def eR(r:Row):List D:=[.s (eSs r.path), .v (.bool r.dir), .v (.int .i64 r.mode), .v (.string (mkS r.data)), .v (.int .i64 r.id)]
def eP(p:Page):List D:=[.v (.bool p.used), .v (.string (mkS p.data)), .v (.int .i64 p.next)]
def ePN(n:PageName):List D:=[.v (.string (mkS n.name)), .v (.int .i64 n.first), .v (.int .i64 n.size)]
def eI(n:Int):List D:=[.v (.int .i64 n)]
abbrev vI(n:Int):AV:= .one (.v (.int .i64 n))
abbrev vS(s:Str):AV:= .one (.v (.string (mkS s)))
abbrev vP(p:List Str):AV:= .one (.s (eSs p))
abbrev vT(t:Tree):AV:= .g [.v (.bool t.dir), .v (.int .i64 t.mode), .v (.string (mkS t.data)), .s (eSs t.names), .s (t.kids.map eT)]
abbrev vE(e:Entry):AV:= .g [.s (eSs e.path), .v (.int .i64 e.what), .v (.bool e.dir), .v (.int .i64 e.mode), .v (.string (mkS e.data))]
abbrev rB(b:Bool):Option Res:=some ⟨[.v (.bool b)],[]⟩
abbrev rI(n:Int):Option Res:=some ⟨[.v (.int .i64 n)],[]⟩
abbrev rS(s:Str):Option Res:=some ⟨[.v (.string (mkS s))],[]⟩
abbrev rO(es:List (List D)):Option Res:=some ⟨[.o .deep es],[]⟩
abbrev rSh(es:List (List D)):Option Res:=some ⟨[.s es],[]⟩
def wL{α:Type}(w:α→Nat):List α→Nat
 | []=>0
 |x::l=>1+w x+wL w l
def wP(p:List Str):Nat:=wL List.length p
mutual
def wT:Tree→Nat
 |⟨_,_,s,ns,ks⟩=>s.length+wP ns+wTs ks
def wTs:List Tree→Nat
 | []=>0
 |t::ts=>1+wT t+wTs ts
end
@[simp] theorem zrq:∀l:List Tree,wTs l=wL wT l
 | []=>rfl
 |t::ts=>by rw[wTs,zrq ts,wL]
theorem wT_eq(t:Tree):wT t=t.data.length+wP t.names+wL wT t.kids:=by
 obtain ⟨d,m,s,ns,ks⟩:=t;rw[wT,zrq]
theorem zcf{α:Type}(w:α→Nat):∀l:List α,l.length≤wL w l
 | []=>Nat.le_refl _
 |x::l=>by have:=zcf w l;simp only[List.length_cons,wL];omega
theorem zc5{α:Type}(w:α→Nat):∀(l:List α) (x:α),x∈l→1+w x≤wL w l
 | [],x,h=>by simp at h
 |y::l,x,h=>by
  rcases List.mem_cons.1 h with rfl|h
  ·simp only[wL];omega
  ·have:=zc5 w l x h;simp only[wL];omega
theorem wL_at{α:Type}(w:α→Nat){l:List α}{k:Nat}(h:k<l.length):1+w l[k]≤wL w l:=zc5 w l _ (List.getElem_mem h)
theorem zfV{α:Type}(w:α→Nat):∀a b:List α,wL w (a++b)=wL w a+wL w b
 | [],b=>by simp[wL]
 |x::a,b=>by simp only[List.cons_append,wL,zfV w a b];omega
theorem zgz{α:Type}(w:α→Nat){l:List α}{k:Nat}(h:k<l.length):wL w (l.drop k)=1+w l[k]+wL w (l.drop (k+1)):=by
 rw[zaF l k h];rfl
def oP(p:List Str):Prop:=sL sS p
mutual
def oT:Tree→Prop
 |⟨_,_,s,ns,ks⟩=>sS s∧oP ns∧ks.length≤9223372036854775807∧oTs ks
def oTs:List Tree→Prop
 | []=>True
 |t::ts=>oT t∧oTs ts
end
@[simp] theorem zpn:∀l:List Tree,oTs l↔∀t∈l,oT t
 | []=>by simp[oTs]
 |t::ts=>by simp[oTs,zpn ts]
theorem oT_eq(t:Tree):oT t↔sS t.data∧oP t.names∧sL oT t.kids:=by
 obtain ⟨d,m,s,ns,ks⟩:=t;simp only[oT,zpn,sL]
end Go.PVx
namespace Go.PVx
open Go.PV
namespace Sx
theorem zjQ:zac [] []=true:=rfl
theorem zhS{α:Type}(p:α→Nat→Bool):∀(l:List α) (n:Nat),((l.zipIdx n).all fun x=>p x.1 x.2)=((l.zipIdx 0).all fun x=>p x.1 (x.2+n))
 | [],_=>rfl
 |a::l,n=>by
  simp only[List.zipIdx_cons,List.all_cons,Nat.zero_add];rw[zhS p l (n+1),zhS (fun a k=>p a (k+n)) l 1]
  congr 1
  congr 1
  funext x
  rw[Nat.add_assoc,Nat.add_comm 1 n]
theorem ziw(r:R1)(rs:List R1)(c:TC)(cs:List TC):zac (r::rs) (c::cs)=(r.fits c&&zac rs cs):=by
 unfold zac;simp only[List.length_cons,List.zipIdx_cons,List.all_cons,Nat.zero_add,List.getD_cons_zero];rw[zhS (fun a k=>R1.fits a ((c::cs).getD k .d)) rs 1]
 simp only[List.getD_cons_succ]
 have:(rs.length+1==cs.length+1)=(rs.length==cs.length):=by
  rw[Bool.eq_iff_iff];simp
 rw[this];cases (rs.length==cs.length)<;>simp
theorem zma(row:List D)(c:Nat):zao [] row c=true:=rfl
theorem zk6(k:CK)(ks:List CK)(row:List D)(c:Nat):zao (k::ks) row c=(k.fits (row.getD c .h)&&zao ks row (c+1)):=by
 unfold zao;simp only[List.zipIdx_cons,List.all_cons,Nat.zero_add,Nat.add_zero];rw[zhS (fun a i=>CK.fits a (row.getD (c+i) .h)) ks 1]
 congr 2
 funext x
 rw[Nat.add_comm x.2 1,←Nat.add_assoc]
theorem zqR(k:IntKind)(n:Int):R1.fits (.int k) (.v (.int k n))=true:=by simp[R1.fits]
theorem zpo(b:Bool):R1.fits .bool (.v (.bool b))=true:=rfl
theorem zqS(b:ByteArray):R1.fits .str (.v (.string b))=true:=rfl
theorem zsa(l:List (List D)):R1.fits .sh (.s l)=true:=rfl
theorem zqT(w:Own)(l:List (List D)):R1.fits (.own w) (.o w l)=true:=by simp[R1.fits]
theorem zqU:R1.fits .any .d=true:=rfl
theorem zqV(k:IntKind)(n:Int):CK.fits (.int k) (.v (.int k n))=true:=by simp[CK.fits]
theorem zpp(b:Bool):CK.fits .bool (.v (.bool b))=true:=rfl
theorem zqW(b:ByteArray):CK.fits .str (.v (.string b))=true:=rfl
theorem zsb(l:List (List D)):CK.fits .sl (.s l)=true:=rfl
theorem zmb(n:Nat):zak n []=true:=rfl
theorem zk7(n:Nat)(r:List D)(l:List (List D)):zak n (r::l)=((r.length==n)&&zak n l):=rfl
theorem zix(n:Nat)(a b:List (List D)):zak n (a++b)=(zak n a&&zak n b):=by simp[zak]
theorem rowsLen_map{α:Type}(n:Nat)(f:α→List D)(h:∀a,(f a).length=n)(l:List α):zak n (l.map f)=true:=by simp[zak,h]
theorem zk8(b:Bool):zap b []=true:=rfl
theorem zjR(b:Bool)(r:List D)(l:List (List D)):zap b (r::l)=(r.all (cellD b)&&zap b l):=rfl
theorem zhT(b:Bool)(x y:List (List D)):zap b (x++y)=(zap b x&&zap b y):=by simp[zap]
theorem rowsCell_map{α:Type}(b:Bool)(f:α→List D)(h:∀a,(f a).all (cellD b)=true)(l:List α):zap b (l.map f)=true:=by
 unfold zap;rw[List.all_map,List.all_eq_true];intro x _;exact h x
theorem cell_i(b:Bool)(k:IntKind)(n:Int):cellD b (.v (.int k n))=true:=rfl
theorem cell_b(b c:Bool):cellD b (.v (.bool c))=true:=rfl
theorem cell_s(b:Bool)(s:ByteArray):cellD b (.v (.string s))=true:=rfl
theorem cell_l(b:Bool)(s:List (List D)):cellD b (.s s)=b:=rfl
theorem eS_len(a:Str):(eS a).length=1:=rfl
theorem eN_len(a:NodeOf):(eN a).length=2:=rfl
theorem eM_len(a:Mark):(eM a).length=2:=rfl
theorem eE_len(a:Entry):(eE a).length=5:=rfl
theorem eR_len(a:Row):(eR a).length=5:=rfl
theorem eP_len(a:Page):(eP a).length=3:=rfl
theorem zsc(a:PageName):(ePN a).length=3:=rfl
theorem eI_len(a:Int):(eI a).length=1:=rfl
theorem ePa_len(a:List Str):(ePa a).length=1:=rfl
theorem eT_len(a:Tree):(eT a).length=5:=by rw[eT_eq];rfl
theorem wrap64(n:Int)(h: -9223372036854775808≤n)(h2:n≤9223372036854775807):IntKind.i64.wrap n=n:=zc1 n ⟨h,h2⟩
theorem wrap8(n:Int)(h:0≤n)(h2:n≤255):IntKind.u8.wrap n=n:=by rw[IntKind.wrap_u8];omega
theorem nle_t(a b:Nat)(h:a≤b):decide (a≤b)=true:=decide_eq_true h
theorem nlt_t(a b:Nat)(h:a<b):decide (a<b)=true:=decide_eq_true h
theorem nle_f(a b:Nat)(h:b<a):decide (a≤b)=false:=decide_eq_false (by omega)
theorem nlt_f(a b:Nat)(h:b≤a):decide (a<b)=false:=decide_eq_false (by omega)
theorem ile_t(a b:Int)(h:a≤b):decide (a≤b)=true:=decide_eq_true h
theorem ilt_t(a b:Int)(h:a<b):decide (a<b)=true:=decide_eq_true h
theorem ile_f(a b:Int)(h:b<a):decide (a≤b)=false:=decide_eq_false (by omega)
theorem ilt_f(a b:Int)(h:b≤a):decide (a<b)=false:=decide_eq_false (by omega)
theorem ieq_t(a b:Int)(h:a=b):(a==b)=true:=by simp[h]
theorem ieq_f(a b:Int)(h:a≠b):(a==b)=false:=beq_eq_false_iff_ne.2 h
theorem neq_t(a b:Nat)(h:a=b):(a==b)=true:=by simp[h]
theorem neq_f(a b:Nat)(h:a≠b):(a==b)=false:=beq_eq_false_iff_ne.2 h
theorem zsd(l:Str)(i:Nat)(h:i<l.length):zbw (mkS l) i=(l[i].toNat:Int):=zeO l i h
theorem mkS_id(l:Str):ByteArray.mk l.toArray=mkS l:=rfl
theorem one_cell(x:D): [x].getD 0 .h=x:=rfl
def shp:List D→List D→Bool
 | [],[]=>true
 |a::r,b::r'=>zbH a b&&shp r r'
 |_,_=>false
theorem zrr:∀r r':List D,(r.length==r'.length&&(r.zip r').all fun x=>zbH x.1 x.2)=shp r r'
 | [],[]=>rfl
 | [],_::_=>rfl
 |_::_,[]=>rfl
 |a::r,b::r'=>by
  have:=zrr r r';simp only[List.length_cons,List.zip_cons_cons,List.all_cons,shp];rw[←this];have e:(r.length+1==r'.length+1)=(r.length==r'.length):=by rw[Bool.eq_iff_iff];simp
  rw[e];cases (r.length==r'.length)<;>simp
theorem zk9(k:Kind)(r r':List D)(f:List Own):zcY ⟨k,r,f⟩ ⟨k,r',f⟩=shp r r':=by
 unfold zcY;rw[←zrr];simp
theorem zmc(objs:List PV.Obj):za3 [] objs=true:=rfl
theorem zla(c:CO)(cs:List CO)(o:PV.Obj)(os:List PV.Obj):za3 (c::cs) (o::os)=((!c.src.back||zcY c.ob o)&&za3 cs os):=by
 unfold za3;simp only[List.zipIdx_cons,List.all_cons,Nat.zero_add,List.getD_cons_zero];rw[zhS (fun (a:CO) k=> !a.src.back||zcY a.ob ((o::os).getD k ⟨.ro,[],[]⟩)) cs 1]
 simp only[List.getD_cons_succ]
end Sx
open Sx
theorem pvO:(∀objs:List PV.Obj,za3 [] objs=true)∧(∀c cs o os,za3 (c::cs) (o::os)=((!c.src.back||zcY c.ob o)&&za3 cs os))∧(∀k r r' f,zcY ⟨k,r,f⟩ ⟨k,r',f⟩=shp r r')∧
 (shp [] []=true)∧(∀a b r r',shp (a::r) (b::r')=(zbH a b&&shp r r'))∧(∀k a b,zbH (.v (.int k a)) (.v (.int k b))=true)∧(∀a b,zbH (.v (.bool a)) (.v (.bool b))=true)∧
 (∀a b,zbH (.v (.string a)) (.v (.string b))=true)∧(∀a b,zbH (.s a) (.s b)=true)∧(zbH .h .h=true)∧
 (∀n,(Src.box n).back=true)∧(∀n p,(Src.row n p).back=true)∧(∀n p c,(Src.sl n p c).back=true)∧(∀n p c,(Src.mv n p c).back=false)∧(∀n cs b,(Src.grp n cs b).back= !b)∧(∀n p,(Src.ro n p).back=false)∧(Src.free.back=false):=
 ⟨zmc,zla,zk9,rfl,fun _ _ _ _=>rfl,fun k _ _=>by simp[zbH],fun _ _=>rfl,fun _ _=>rfl,fun _ _=>rfl,rfl,fun _=>rfl,fun _ _=>rfl,fun _ _ _=>rfl,fun _ _ _=>rfl,fun _ _ _=>rfl,fun _ _=>rfl,rfl⟩
theorem pvS:(zac [] []=true)∧(∀r rs c cs,zac (r::rs) (c::cs)=(r.fits c&&zac rs cs))∧
 (∀row c,zao [] row c=true)∧(∀k ks row c,zao (k::ks) row c=(k.fits (row.getD c .h)&&zao ks row (c+1)))∧
 (∀k n,R1.fits (.int k) (.v (.int k n))=true)∧(∀b,R1.fits .bool (.v (.bool b))=true)∧(∀b,R1.fits .str (.v (.string b))=true)∧
 (∀l,R1.fits .sh (.s l)=true)∧(∀w l,R1.fits (.own w) (.o w l)=true)∧(R1.fits .any .d=true)∧
 (∀k n,CK.fits (.int k) (.v (.int k n))=true)∧(∀b,CK.fits .bool (.v (.bool b))=true)∧(∀b,CK.fits .str (.v (.string b))=true)∧(∀l,CK.fits .sl (.s l)=true)∧
 (∀n,zak n []=true)∧(∀n r l,zak n (r::l)=((r.length==n)&&zak n l))∧(∀n a b,zak n (a++b)=(zak n a&&zak n b))∧
 (∀b,zap b []=true)∧(∀b r l,zap b (r::l)=(r.all (cellD b)&&zap b l))∧(∀b x y,zap b (x++y)=(zap b x&&zap b y))∧
 (∀b k n,cellD b (.v (.int k n))=true)∧(∀b c,cellD b (.v (.bool c))=true)∧(∀b s,cellD b (.v (.string s))=true)∧(∀b s,cellD b (.s s)=b):=
 ⟨zjQ,ziw,zma,zk6,zqR,zpo,zqS,zsa,zqT,zqU,zqV,zpp,zqW,zsb,
  zmb,zk7,zix,zk8,zjR,zhT,cell_i,cell_b,cell_s,cell_l⟩
theorem pvT:(∀l:List Str,zak 1 (l.map eS)=true)∧(∀l:List NodeOf,zak 2 (l.map eN)=true)∧(∀l:List Mark,zak 2 (l.map eM)=true)∧(∀l:List Entry,zak 5 (l.map eE)=true)∧
 (∀l:List Row,zak 5 (l.map eR)=true)∧(∀l:List Page,zak 3 (l.map eP)=true)∧(∀l:List PageName,zak 3 (l.map ePN)=true)∧(∀l:List Int,zak 1 (l.map eI)=true)∧
 (∀l:List (List Str),zak 1 (l.map ePa)=true)∧(∀l:List Tree,zak 5 (l.map eT)=true)∧
 (∀b (l:List Str),zap b (l.map eS)=true)∧(∀l:List NodeOf,zap true (l.map eN)=true)∧(∀l:List Mark,zap true (l.map eM)=true)∧(∀l:List Entry,zap true (l.map eE)=true)∧
 (∀l:List Row,zap true (l.map eR)=true)∧(∀b (l:List Page),zap b (l.map eP)=true)∧(∀b (l:List PageName),zap b (l.map ePN)=true)∧(∀b (l:List Int),zap b (l.map eI)=true)∧
 (∀l:List (List Str),zap true (l.map ePa)=true)∧(∀l:List Tree,zap true (l.map eT)=true):=
 ⟨rowsLen_map 1 eS eS_len,rowsLen_map 2 eN eN_len,rowsLen_map 2 eM eM_len,rowsLen_map 5 eE eE_len,rowsLen_map 5 eR eR_len,rowsLen_map 3 eP eP_len,rowsLen_map 3 ePN zsc,rowsLen_map 1 eI eI_len,rowsLen_map 1 ePa ePa_len,rowsLen_map 5 eT eT_len,
  fun b=>rowsCell_map b eS fun _=>rfl,rowsCell_map true eN fun _=>rfl,rowsCell_map true eM fun _=>rfl,rowsCell_map true eE fun _=>rfl,rowsCell_map true eR fun _=>rfl,fun b=>rowsCell_map b eP fun _=>rfl,
  fun b=>rowsCell_map b ePN fun _=>rfl,fun b=>rowsCell_map b eI fun _=>rfl,rowsCell_map true ePa fun _=>rfl,rowsCell_map true eT fun a=>by rw[eT_eq];rfl⟩
theorem pvC:(∀s,(D.v (.string s)).str=s)∧(∀k n,(D.v (.int k n)).int=n)∧(∀b,(D.v (.bool b)).bool=b)∧(∀es,(D.s es).es=es)∧
 (∀k n,(TC.v (.int k n)).int=n)∧(∀b,(TC.v (.bool b)).bool=b)∧(∀b,(TC.v (.string b)).str=b)∧(∀w es,(TC.o w es).es=es)∧(∀es,(TC.s es).es=es)∧
 (∀(s:Str),(mkS s).toList=s)∧(∀(s:Str),(mkS s).size=s.length)∧(∀(l:Str),ByteArray.mk l.toArray=mkS l)∧(∀a b:Str,mkS a++mkS b=mkS (a++b))∧
 (∀(l:Str) (i j:Nat),(mkS l).extract i j=mkS ((l.take j).drop i))∧
 (∀x:D,[x].getD 0 .h=x)∧(∀(a b:Int),(a≥b)=(b≤a))∧(∀(a b:Int),(a>b)=(b<a))∧(∀b:UInt8,(mkS [b]).get! 0=b)∧(∀n:Nat,((n:Int)).tmod 2=((n%2:Nat):Int)):=
 ⟨str_v,int_v,zpk,es_s,zpl,zjI,znc,tes_o,tes_s,zgx,zeC,mkS_id,zi3,zhQ,one_cell,fun _ _=>rfl,fun _ _=>rfl,fun _=>rfl,fun n=>by rw[Int.tmod_eq_emod_of_nonneg (by omega)];omega⟩
theorem pvN:(∀n:Int,-9223372036854775808≤n→n≤9223372036854775807→IntKind.i64.wrap n=n)∧(∀n:Int,0≤n→n≤255→IntKind.u8.wrap n=n)∧
 (∀a b:Nat,a≤b→decide (a≤b)=true)∧(∀a b:Nat,a<b→decide (a<b)=true)∧(∀a b:Nat,b<a→decide (a≤b)=false)∧(∀a b:Nat,b≤a→decide (a<b)=false)∧
 (∀a b:Int,a≤b→decide (a≤b)=true)∧(∀a b:Int,a<b→decide (a<b)=true)∧(∀a b:Int,b<a→decide (a≤b)=false)∧(∀a b:Int,b≤a→decide (a<b)=false)∧
 (∀a b:Int,a=b→(a==b)=true)∧(∀a b:Int,a≠b→(a==b)=false)∧(∀a b:Nat,a=b→(a==b)=true)∧(∀a b:Nat,a≠b→(a==b)=false)∧
 (∀a b:Nat,a=b→decide (a=b)=true)∧(∀a b:Nat,a≠b→decide (a=b)=false)∧(∀a b:Int,a=b→decide (a=b)=true)∧(∀a b:Int,a≠b→decide (a=b)=false)∧
 (∀(l:Str) (i:Nat) (h:i<l.length),zbw (mkS l) i=(l[i].toNat:Int))∧(∀a b:Int,a=b→(a !=b)=false)∧(∀a b:Int,a≠b→(a !=b)=true)∧
 (∀(k:Int),0≤k→((k.toNat:Nat):Int)=k):=
 ⟨wrap64,wrap8,nle_t,nlt_t,nle_f,nlt_f,ile_t,ilt_t,ile_f,ilt_f,ieq_t,ieq_f,neq_t,neq_f,fun _ _ h=>decide_eq_true h,fun _ _ h=>decide_eq_false h,fun _ _ h=>decide_eq_true h,fun _ _ h=>decide_eq_false h,
  zsd,fun a b h=>by simp[h],fun a b h=>by simp[h],fun k h=>by omega⟩
theorem zqX{α:Type}(f:α→List D)(l:List α)(r:List (List D))(k:Nat)(h:k<l.length):(l.map f++r).getD k []=f (l[k]):=by
 rw[List.getD_eq_getElem?_getD,List.getElem?_append_left (by simpa using h)];simp[h]
theorem zqY{α:Type}(f:α→List D)(l:List α)(r:List (List D))(k:Nat)(h:l.length≤k):(l.map f++r).getD k []=r.getD (k-l.length) []:=by
 rw[List.getD_eq_getElem?_getD,List.getElem?_append_right (by simpa using h),List.length_map,List.getD_eq_getElem?_getD]
theorem pvL:(∀{α β:Type} (a:α) (f:α→Option β),(some a).bind f=f a)∧(∀{α:Type} (a d:α) (l:List α),(a::l).getD 0 d=a)∧(∀{α:Type} (a d:α) (l:List α) (n:Nat),(a::l).getD (n+1) d=l.getD n d)∧
 (∀{α:Type} (a b:α),(bif true then a else b)=a)∧(∀{α:Type} (a b:α),(bif false then a else b)=b)∧(∀b:Bool,(b&&true)=b)∧(∀b:Bool,(true&&b)=b)∧(∀b:Bool,(b&&false)=false)∧(∀b:Bool,(false&&b)=false)∧
 ((!true)=false)∧((!false)=true)∧(∀b:Bool,(b||true)=true)∧(∀b:Bool,(true||b)=true)∧(∀b:Bool,(b||false)=b)∧(∀b:Bool,(false||b)=b)∧
 (∀{α β:Type} (f:α→β) (l:List α),(l.map f).length=l.length)∧(∀{α:Type} (a b:List α),(a++b).length=a.length+b.length)∧(∀{α:Type} (a:α) (l:List α),(a::l).length=l.length+1)∧(∀{α:Type},([]:List α).length=0)∧
 (∀{α:Type} (l:List α) (n:Nat),(l.take n).length=min n l.length)∧(∀{α:Type} (l:List α) (n:Nat),(l.drop n).length=l.length-n)∧
 (∀n:Nat,((n:Int)).toNat=n)∧(∀n:Nat,(n:Int)+1=((n+1:Nat):Int))∧(((0:Nat):Int)=0)∧
 (∀{α:Type} (f:α→List D) (l:List α) (k:Nat) (h:k<l.length),(l.map f).getD k []=f (l[k]))∧
 (∀{α:Type} (f:α→List D) (l:List α) (r:List (List D)) (k:Nat) (h:k<l.length),(l.map f++r).getD k []=f (l[k]))∧
 (∀{α:Type} (f:α→List D) (l:List α) (r:List (List D)) (k:Nat) (_:l.length≤k),(l.map f++r).getD k []=r.getD (k-l.length) [])∧
 (∀{α:Type} (f:α→List D) (l:List α) (k:Nat),(l.map f).take k=(l.take k).map f)∧(∀{α:Type} (f:α→List D) (l:List α) (k:Nat),(l.map f).drop k=(l.drop k).map f)∧
 (∀{α:Type} (a b:α),(some a).getD b=a)∧(∀{α:Type} (b:α),(none:Option α).getD b=b)∧(∀{α:Type} (l:List α),([]:List α)++l=l)∧(∀{α:Type} (l:List α),l++[]=l)∧
 ((0:Int).toNat=0)∧((1:Int).toNat=1)∧((2:Int).toNat=2)∧((3:Int).toNat=3)∧((4:Int).toNat=4)∧((5:Int).toNat=5)∧((6:Int).toNat=6)∧((7:Int).toNat=7)∧(∀{α:Type} (l:List α),l.drop 0=l)∧(∀{α:Type} (l:List α),l.take l.length=l)∧(∀h, @decide True h=true)∧(∀h, @decide False h=false)∧(∀a:Int,((a==a)=true))∧(∀a:Int,0+a=a)∧(∀a:Nat,0+a=a)∧((1:Int)+1=2)∧((2:Int)+1=3)∧((3:Int)+1=4)∧((4:Int)+1=5)∧((5:Int)+1=6)∧((6:Int)+1=7)∧((7:Int)+1=8)∧((8:Int)+1=9)∧((9:Int)+1=10)∧((1:Nat)+1=2)∧((2:Nat)+1=3)∧((3:Nat)+1=4)∧((4:Nat)+1=5)∧((5:Nat)+1=6)∧((6:Nat)+1=7)∧((7:Nat)+1=8)∧((8:Nat)+1=9)∧((9:Nat)+1=10)∧(∀b:Bool,(b==b)=true):=
 ⟨fun _ _=>rfl,fun _ _ _=>rfl,fun _ _ _ _=>rfl,fun _ _=>rfl,fun _ _=>rfl,Bool.and_true,Bool.true_and,Bool.and_false,Bool.false_and,rfl,rfl,Bool.or_true,Bool.true_or,Bool.or_false,Bool.false_or,
  fun f l=>List.length_map f,fun a b=>List.length_append,fun _ _=>rfl,rfl,fun l n=>List.length_take,fun l n=>List.length_drop,Int.toNat_natCast,fun _=>rfl,rfl,
  fun f l k h=>zbT f l k h,zqX,zqY,fun f l k=>List.map_take.symm,fun f l k=>List.map_drop.symm,fun _ _=>rfl,fun _=>rfl,fun _=>rfl,List.append_nil,rfl,rfl,rfl,rfl,rfl,rfl,rfl,rfl,fun _=>rfl,fun l=>List.take_length,fun _=>decide_eq_true trivial,fun _=>decide_eq_false not_false,fun a=>by simp,Int.zero_add,Nat.zero_add,rfl,rfl,rfl,rfl,rfl,rfl,rfl,rfl,rfl,rfl,rfl,rfl,rfl,rfl,rfl,rfl,rfl,rfl,fun b=>by simp⟩
theorem pvR:(∀s,eS s=[.v (.string (mkS s))])∧(∀n:NodeOf,eN n=[.v (.int .i64 n.id), .s (eSs n.path)])∧(∀m:Mark,eM m=[.s (eSs m.path), .v (.bool m.sub)])∧
 (∀e:Entry,eE e=[.s (eSs e.path), .v (.int .i64 e.what), .v (.bool e.dir), .v (.int .i64 e.mode), .v (.string (mkS e.data))])∧
 (∀r:Row,eR r=[.s (eSs r.path), .v (.bool r.dir), .v (.int .i64 r.mode), .v (.string (mkS r.data)), .v (.int .i64 r.id)])∧
 (∀p:Page,eP p=[.v (.bool p.used), .v (.string (mkS p.data)), .v (.int .i64 p.next)])∧(∀n:PageName,ePN n=[.v (.string (mkS n.name)), .v (.int .i64 n.first), .v (.int .i64 n.size)])∧
 (∀n:Int,eI n=[.v (.int .i64 n)])∧(∀p,ePa p=[.s (eSs p)])∧
 (∀t:Tree,eT t=[.v (.bool t.dir), .v (.int .i64 t.mode), .v (.string (mkS t.data)), .s (eSs t.names), .s (t.kids.map eT)]):=
 ⟨fun _=>rfl,fun _=>rfl,fun _=>rfl,fun _=>rfl,fun _=>rfl,fun _=>rfl,fun _=>rfl,fun _=>rfl,fun _=>rfl,eT_eq⟩
end Go.PVx
