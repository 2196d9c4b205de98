/- A part of the proof: PvExt, PvExtS, PvExtT. -/
import Derived.Test.YtkaclcgkndbppaaGreatDoorTy
import Derived.Lib.Join
import Derived.Lib.ItoaMem
import Derived.Below
import Derived.Lib.SplitLaws
import Derived.Lib.AtoiAll
import Derived.Lib.Strings
import Derived.Lib.IndexMore
import Derived.Lib.ConvBytes
set_option linter.unusedSimpArgs false
set_option linter.unusedVariables false
namespace Go.PV
open Go.RowKit
theorem Rel.v_eq{w:World}{Q:QP}{u x:Value}(h:Rel w Q u (.v x)):u=x:=by cases h;rfl
def zrs:List D→Option ByteArray
 | [.v (.string s)]=>some s
 |_=>none
def zfx:List (List D)→Option (List ByteArray)
 | []=>some []
 |r::rs=>match zrs r,zfx rs with
  |some s,some l=>some (s::l)
  |_,_=>none
def joinD(xs:List ByteArray)(sep:ByteArray):ByteArray:=⟨(Lib.join (xs.map (·.data.toList)) sep.data.toList).toArray⟩
def zgA:List AV→List Obj→Option Res
 | [.one (.s es), .one (.v (.string sep))],[]=>match zfx es with
  |some xs=>bif decide (xs.length≤140737488355328)&&decide ((Lib.join (xs.map (·.data.toList)) sep.data.toList).length≤140737488355328)then some ⟨[.v (.string (joinD xs sep))],[]⟩else none
  |none=>none
 |_,_=>none
def zhU:List AV→List Obj→Option Res
 | [.one (.v (.int .i64 n))],[]=>bif decide (-9223372036854775808≤n)&&decide (n≤9223372036854775807)then some ⟨[.v (.string ⟨(Lib.itoa n).toArray⟩)],[]⟩else none
 |_,_=>none
theorem zgO:∀{es:List (List D)} {xs:List ByteArray},zfx es=some xs→es.length=xs.length∧∀i (h:i<es.length) (h':i<xs.length),es[i]=[.v (.string xs[i])]
 | [],xs,h=>by simp only[zfx,Option.some.injEq]at h;subst h;exact ⟨rfl,fun i h=>absurd h (by simp)⟩
 |r::rs,xs,h=>by
  simp only[zfx]at h;split at h
  case h_2=>simp at h
  rename_i s l h1 h2;simp only[Option.some.injEq]at h;subst h;obtain ⟨h3,h4⟩:=zgO h2;refine ⟨by simp[h3],fun i h h'=> ?_⟩
  cases i with
  |zero=>
   simp only[List.getElem_cons_zero];unfold zrs at h1;split at h1
   ·simp only[Option.some.injEq]at h1;rw[h1]
   ·simp at h1
  |succ i=>exact h4 i (by simpa using h) (by simpa using h')
theorem zi4{w w':World}{G:Ghost}{pl:zaP}{gl:List (Nat×List D)}{args:Array Value}{as:List AV}{rs:RS}{v:Value}{rv:Res}(E:Entry gl w G [] pl args as)(h:Below w.heap.size w w')(ho:rv.objs=[])
 (hr:∃us,ResAt rs v us∧∀i (h:i<rv.cells.length),TCOk ⟨G,obOf [],pl,gl⟩ w' G (obOf rv.objs) pl 0 i (us i) (rv.cells[i])):
 Left w ⟨G,obOf [],pl,gl⟩ [] rs w' v rv G pl:=by
 have hlt:∀b x,G b=some x→b<w.heap.size:=fun b x hx=>by
  exact (E.own b x hx).lt
 refine {os:=h.os,output:=h.output,tape:=h.tape,hsize:=h.size,base:=fun b hb h0=>⟨h.block b hb,h0⟩,fr:=fun b π hb h0=>⟨h.block b hb,rfl⟩,
         out:=fun n b off ob hn=>absurd hn (by simp),own:=fun b x hx=> ?_,dom:=fun b x hx=> ?_,okObjs:=fun n ob hob=> ?_,olen:=by rw[ho],start:=fun n ob hn=>absurd hn (by simp),res:=by obtain ⟨us,h1,h2⟩:=hr;exact ⟨us, .inl h1,h2⟩}
 ·exact (E.own b x hx).heap (h.block b (hlt b x hx))
 ·rcases E.nolim b x hx with h|h
  ·simp at h
  ·exact .inr h
 ·rw[ho]at hob;simp[obOf]at hob
theorem zjS(w:World)(k:Nat)(os:Array Go.Obj):Below w.heap.size w (Go.Sort.grow (w.drewN k) os):=
 ⟨rfl,rfl,rfl,by simp[Go.Sort.grow,World.drewN],fun i hi=>by simp[Go.Sort.grow,World.drewN,Array.getElem?_append,hi]⟩
theorem znS{Y:Prm}{f:FuncId}{fn:Func}(hf:Y.P.funcs[f]? =some fn)(hb:fn.body.isSome=true)(hn:(fn.name== "runtime.NumGoroutine")=false)(hres:(Y.sig f).res= .one .str)
 (h0:∀(a:Option Addr) (c:Nat) (sep:ByteArray) (w:World),Calls Y.P f #[.slice a 0 c, .string sep] w fun e w'=>e= .returned (.string ⟨#[]⟩)∧w'=w)
 (h1:∀(bk o c:Nat) (xs:List ByteArray) (sep:ByteArray) (w:World),(∀(j:Nat) x,xs[j]? =some x→w.cell? ⟨bk,o+j,none⟩=some (.string x))→bk<w.heap.size→xs.length≤140737488355328→xs.length≤c→
   (Lib.join (xs.map (·.data.toList)) sep.data.toList).length≤140737488355328→
   Calls Y.P f #[.slice (some ⟨bk,o,none⟩) xs.length c, .string sep] w fun e w'=>e= .returned (.string ⟨(Lib.join (xs.map (·.data.toList)) sep.data.toList).toArray⟩)∧Below w.heap.size w w'):
 ExtOk Y f zgA:=by
 intro as objs rv h;unfold zgA at h;split at h
 case h_2=>simp at h
 rename_i es sep;split at h
 case h_2=>simp at h
 rename_i xs hxs;rw[cond_eq_ite]at h;split at h
 case isFalse=>simp at h
 rename_i hc;simp only[Bool.and_eq_true,decide_eq_true_eq]at hc;simp only[Option.some.injEq]at h;subst h;refine ⟨⟨fn,hf,hb,hn⟩,fun w G pl args E=> ?_⟩
 have hsz:args.size=2:=E.size;have hv0:V1 w G (obOf []) pl (args.getD 0 undef) (.s es):=E.vals 0 (by simp)
 have hv1:V1 w G (obOf []) pl (args.getD 1 undef) (.v (.string sep)):=E.vals 1 (by simp)
 have hv0:Rel w (QSh G) (args.getD 0 undef) (.s es):=hv0;have hv1:args.getD 1 undef= .string sep:=hv1
 have hargs:args= #[args.getD 0 undef,args.getD 1 undef]:=by
  apply Array.ext
  ·simp[hsz]
  ·intro i h1 h2
   have:i=0∨i=1:=by simp at h2;omega
   rcases this with rfl|rfl<;>simp[h1]
 obtain ⟨hlen,hrows⟩:=zgO hxs
 have fin:∀w',Below w.heap.size w w'→PV.Left w ⟨G,obOf [],pl,Y.gl⟩ [] (Y.sig f).res w' (.string (joinD xs sep)) ⟨[.v (.string (joinD xs sep))],[]⟩ G pl:=fun w' hB=>by
  refine zi4 E hB rfl ⟨fun _=> .string (joinD xs sep), ?_,fun i hi=> ?_⟩
  ·rw[hres];rfl
  ·have:i=0:=by simpa using hi
   subst this;rfl
 rw[hargs,hv1];obtain ⟨ao,cap,news,hu,hnl,hcell,hnil,hrel⟩:=zkC hv0 (sz:=1) (fun i h=>by rw[hrows i h (by omega)];rfl) (by omega)
 rw[hu];cases hes:es with
 |nil=>
  have hx0:xs=[]:=by
   have:xs.length=0:=by rw[←hlen,hes];rfl
   exact List.length_eq_zero_iff.1 this
  subst hx0;refine (h0 ao cap sep w).mono ?_
  rintro e w' ⟨rfl,rfl⟩
  exact ⟨_,G,pl,rfl,fin w' (Below.refl _ _)⟩
 |cons r rs=>
  rcases hv0.slice with ⟨h3,_⟩|⟨ad,cap',sz',uf,hu',hl,hs,hbk,_⟩
  ·rw[hes]at h3;simp at h3
  ·rw[hu]at hu'
   simp only[Value.slice.injEq]at hu';obtain ⟨rfl,_,rfl⟩:=hu';have had:ad=⟨ad.block,ad.off,none⟩:=by cases ad;simp at hs;subst hs;rfl
   rw[←hes,hlen];rw[had];refine (h1 ad.block ad.off cap xs sep w (fun j x hj=> ?_) hbk hc.1 (by rw[←hlen];exact hl.1) hc.2).mono ?_
   ·have hjl:j<xs.length:=(List.getElem?_eq_some_iff.1 hj).1
    have hje:j<es.length:=by omega
    have hrow:=hrows j hje hjl;have h4:=hrel j 0 hje (by rw[hrow];simp)
    have hx:xs[j]=x:=by rw[List.getElem?_eq_getElem hjl]at hj;exact Option.some.inj hj
    have h5:news.getD (j*1+0) undef= .string x:=by
     have h6:(es[j])[0]'(by rw[hrow];simp)= .v (.string x):=by simp[hrow,hx]
     rw[h6]at h4;exact h4.v_eq
    have h7:news[j]? =some (.string x):=by
     have:j<news.length:=by omega
     rw[List.getElem?_eq_getElem this];simp only[Nat.mul_one,Nat.add_zero,List.getD_eq_getElem?_getD,List.getElem?_eq_getElem this,Option.getD_some]at h5;rw[h5]
    have h8:=hcell ad rfl j _ h7;rw[had]at h8
    have h9:(⟨ad.block,ad.off,none⟩:Addr).add j=⟨ad.block,ad.off+j,none⟩:=by
     simp only[Addr.add];split
     ·rename_i h0;subst h0;rfl
     ·rfl
    rw[h9]at h8;exact h8
   ·rintro e w' ⟨rfl,hB⟩
    exact ⟨_,G,pl,rfl,fin w' hB⟩
theorem znT{Y:Prm}{f:FuncId}{fn:Func}(hf:Y.P.funcs[f]? =some fn)(hb:fn.body.isSome=true)(hn:(fn.name== "runtime.NumGoroutine")=false)(hres:(Y.sig f).res= .one .str)
 {g:Nat} (hg:Y.P.globalNamed "internal/strconv.uint64pow10" =some g) (hgl:glGet Y.gl g=some (Lib.pow10Tab.map fun z=> .v (.int .u64 z)))
 (h1:∀(n:Int),-9223372036854775808≤n→n≤9223372036854775807→∀w:World,Lib.TabIs Y.P w "internal/strconv.uint64pow10" .u64 Lib.pow10Tab→
   Calls Y.P f #[.int .i64 n] w fun e w'=>e= .returned (.string ⟨(Lib.itoa n).toArray⟩)∧∃k os,w'=Go.Sort.grow (w.drewN k) os):
 ExtOk Y f zhU:=by
 intro as objs rv h;unfold zhU at h;split at h
 case h_2=>simp at h
 rename_i n;rw[cond_eq_ite]at h;split at h
 case isFalse=>simp at h
 rename_i hc;simp only[Bool.and_eq_true,decide_eq_true_eq]at hc;simp only[Option.some.injEq]at h;subst h;refine ⟨⟨fn,hf,hb,hn⟩,fun w G pl args E=> ?_⟩
 have hsz:args.size=1:=E.size;have hv0:args.getD 0 undef= .int .i64 n:=E.vals 0 (by simp)
 have hargs:args= #[args.getD 0 undef]:=by
  apply Array.ext
  ·simp[hsz]
  ·intro i h1 h2
   have:i=0:=by simpa using h2
   subst this;simp[h1]
 have htab:Lib.TabIs Y.P w "internal/strconv.uint64pow10" .u64 Lib.pow10Tab:=by
  obtain ⟨hd,hro,cs,ty,e,h2,h3⟩:=E.glob g _ hgl;unfold Lib.TabIs World.var?;rw[hg];simp only[Option.bind_some,h2];congr 1
  apply Array.ext
  ·rw[h3];simp
  ·intro i h4 h5
   have hi:i<(Lib.pow10Tab.map fun z=>D.v (.int .u64 z)).length:=by rw[←h3];exact h4
   have hi':i<Lib.pow10Tab.length:=by simpa using hi
   have h6:=hro.cell i hi;have h7:=hro.rel i hi;simp only[List.getElem_map]at h7;rw[Nat.zero_add]at h6;have h6:w.cell? ⟨g,i,none⟩=some (hd i):=h6;rw[h7.v_eq]at h6;simp only[World.cell?,h2]at h6;simp only[Array.getElem?_eq_getElem h4]at h6;simpa using h6
 rw[hargs,hv0];refine (h1 n hc.1 hc.2 w htab).mono ?_
 rintro e w' ⟨rfl,k,os,rfl⟩
 refine ⟨_,G,pl,rfl,zi4 E (zjS w k os) rfl ⟨fun _=> .string ⟨(Lib.itoa n).toArray⟩, ?_,fun i hi=> ?_⟩⟩
 ·rw[hres];rfl
 ·have:i=0:=by simpa using hi
  subst this;rfl
end Go.PV
namespace Go.PV
open Go.RowKit
end Go.PV
namespace Go.PV
open Go.RowKit
end Go.PV
