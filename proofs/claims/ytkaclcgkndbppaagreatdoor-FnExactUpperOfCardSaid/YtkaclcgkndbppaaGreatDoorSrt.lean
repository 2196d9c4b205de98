/- A part of the proof: PvSort, PvSort2. -/
import Derived.Test.YtkaclcgkndbppaaGreatDoorIns
import Derived.Shelf.Sort.Plain
import Derived.Shelf.Slices.In.SortNone
import Derived.Shelf.Slices.CompactS
set_option linter.unusedSimpArgs false
set_option linter.unusedVariables false
namespace Go.PV
open Go.Shelf Go.RowKit Go.Lib Go.Proofs
variable {P:Program}{ρ:Ren}
def isStr:List D→Bool
 | [.v (.string _)]=>true
 |_=>false
def zdk(r:List D):List UInt8:=(r.getD 0 .h).str.data.toList
def zbJ(l:List UInt8):List D:=[.v (.string ⟨l.toArray⟩)]
def zcK(es:List (List D)):List (List D):=((es.map zdk).mergeSort fun x y=>decide (x≤y)).map zbJ
def zfY:List AV→List Obj→Option Res
 | [.one (.r 0 [] 0)],[⟨.virt,[.s es],[.deep]⟩]=>
  bif decide (es.length≤2^30)&&es.all isStr then some ⟨[],[⟨.virt,[.s (zcK es)],[.deep]⟩]⟩else none
 |_,_=>none
theorem zfc{r:List D}(h:isStr r=true):r=zbJ (zdk r):=by
 unfold isStr at h;split at h
 ·rename_i b
  obtain ⟨⟨l⟩⟩:=b;rfl
 ·simp at h
theorem zld{r:List D}(h:isStr r=true)(h0:0<r.length):r[0]= .v (.string ⟨(zdk r).toArray⟩):=by
 unfold isStr at h;split at h
 ·rename_i b
  obtain ⟨⟨l⟩⟩:=b;rfl
 ·simp at h
theorem arr1{args:Array Value}(h:args.size=1):args= #[args.getD 0 undef]:=by
 apply Array.ext
 ·simp[h]
 ·intro i h1 h2
  have:i=0:=by simp at h2;omega
  subst this;simp[h1]
theorem zmd{Y:Prm}{ρ:Ren}(L:Lays.n190 Y.P ρ){f:FuncId}{fn:Func}(hF:ρ.f 190=f)(hf:Y.P.funcs[f]? =some fn)(hb:fn.body.isSome=true)(hn:(fn.name== "runtime.NumGoroutine")=false)
 (hres:(Y.sig f).res= .none):ExtOk Y f zfY:=by
 subst hF;intro as1 objs rv h;unfold zfY at h;split at h
 case h_2=>simp at h
 rename_i es;rw[cond_eq_ite]at h;split at h
 case isFalse=>simp at h
 rename_i hc;simp only[Bool.and_eq_true,decide_eq_true_eq,List.all_eq_true]at hc;obtain ⟨hsz,hstr⟩:=hc;obtain rfl:=Option.some.inj h;refine ⟨⟨fn,hf,hb,hn⟩,fun w G pl args E=> ?_⟩
 obtain ⟨ob0,hr0⟩:∃ob,RefR w G (obOf [⟨.virt,[.s es],[.deep]⟩]) pl 0 [] 0 (args.getD 0 undef) ob:=E.vals 0 (by simp)
 have hu0:(pl 0).hd 0=args.getD 0 undef:=by
  have:=hr0.head;simpa[zb2]using this
 have hR0:Rel w (QCell G 0 0 .deep) (args.getD 0 undef) (.s es):=by
  rw[←hu0];exact (E.okObjs 0 ⟨.virt,[.s es],[.deep]⟩ rfl (by simp)).rel 0 (by simp)
 have hke:zak 1 es=true:=by
  simp only[zak,List.all_eq_true,beq_iff_eq];intro r hr;rw[zfc (hstr r hr)];rfl
 have hce:zap true es=true:=by
  simp only[zap,List.all_eq_true];intro r hr;rw[zfc (hstr r hr)];simp[zbJ,cellD,zc2]
 rw[arr1 E.size];rw[hres]
 -- what the call leaves, in one form
 have fin:∀(w':World) (B:Option Nat),w'.os=w.os→w'.output=w.output→w'.tape=w.tape→w.heap.size≤w'.heap.size→(∀b,b<w.heap.size→B≠some b→w'.heap[b]? =w.heap[b]?)→
  (∀b,B=some b→G b=some (0,[0])∧OwnAt w' b (0,[0]))→Rel w' (QCell G 0 0 .deep) (args.getD 0 undef) (.s (zcK es))→
  Left w ⟨G,obOf [⟨.virt,[.s es],[.deep]⟩],pl,Y.gl⟩ [⟨.virt,[.s es],[.deep]⟩] .none w' (.tuple #[]) ⟨[],[⟨.virt,[.s (zcK es)],[.deep]⟩]⟩ G pl:=fun w' B a1 a2 a3 a4 a5 a6 a7=>by
  have hne:∀b x,G b=x→x≠some (0,[0])→B≠some b:=fun b x hx hn h=>hn (by rw[←hx];exact (a6 b h).1)
  refine {os:=a1,output:=a2,tape:=a3,hsize:=a4,base:=fun b hlt h0=>⟨a5 b hlt (hne b _ h0 (by simp)),h0⟩
          fr:=fun b π hlt h0=>⟨a5 b hlt (hne b _ h0 (by simp[FR])),rfl⟩
          out:=fun n b off ob hn ho hG=> ?_,own:=fun b x hx=> ?_,dom:=fun b x hx=> ?_,okObjs:=fun n ob ho _=> ?_,olen:=rfl,start:=fun n ob hn ho hkind=> ?_,res:=⟨fun _=>undef, .inl ?_,fun i hi=>absurd hi (by simp)⟩}
  ·intro hbase k hk
   simp only[World.cell?,a5 b (E.own b _ hG).lt (hne b _ hG (by simp))]
  ·by_cases hx0:B=some b
   ·obtain ⟨h1,h2⟩:=a6 b hx0
    rw[h1]at hx;rw[←Option.some.inj hx];exact h2
   ·have ho:=E.own b x hx
    exact ho.moved (fun h=>h) (a5 b ho.lt hx0)
  ·rcases E.nolim b _ hx with h|h
   ·exact .inl (Nat.le_of_lt h)
   ·exact .inr h
  ·have:n=0∧ob=⟨.virt,[.s (zcK es)],[.deep]⟩:=by
    match n,ho with
    |0,ho=>exact ⟨rfl,by simpa[obOf]using ho.symm⟩
    |n+1,ho=>simp[obOf]at ho
   obtain ⟨rfl,rfl⟩:=this
   exact {bld:=fun t1 e1 h1=>by simp at h1,fl:=rfl,rel:=fun c hc=>by
           have:c=0:=by simpa using hc
           subst this;show Rel w' (QCell G 0 0 .deep) ((pl 0).hd 0) (.s (zcK es));rw[hu0];exact a7
          box:=fun h=>by simp at h}
  ·have:n=0∧ob=⟨.virt,[.s (zcK es)],[.deep]⟩:=by
    match n,ho with
    |0,ho=>exact ⟨rfl,by simpa using ho.symm⟩
    |n+1,ho=>simp at ho
   obtain ⟨rfl,rfl⟩:=this;exact ⟨_,rfl,rfl,rfl,rfl,fun _ _=>rfl⟩
  ·rfl
 rcases zfW hR0 hke hce (by omega) E.own with ⟨h0,a,hu⟩|⟨b,off,c,cells,ty,hu,hlc,h3,hG,hh,h4,cs,h5,h6,h7,h8⟩
 ·subst h0
  rw[hu];refine (Any.slices_Sort_string_none L a 0 w).mono ?_
  rintro e w' ⟨rfl,rfl⟩
  refine ⟨_,G,pl,rfl,fin w' none rfl rfl rfl (Nat.le_refl _) (fun _ _ _=>rfl) (fun b hb=>absurd hb (by simp)) ?_⟩
  have e0:zcK []=[]:=by simp[zcK]
  rw[e0];exact hR0
 ·have hblt:b<w.heap.size:=(Array.getElem?_eq_some_iff.1 hh).1
  rw[hu];have hl:(es.map zdk).length=es.length:=List.length_map _
  have hH:«Sort».Holds encStr w b off (es.map zdk).toArray:=fun j hj=>by
   have hj':j<es.length:=by simpa using hj
   have hc5:j<cs.length:=by omega
   have hrj:=zfc (hstr es[j] (List.getElem_mem hj'));have hv:=h8 j 0 hj' (by rw[hrj];simp[zbJ])
   refine ⟨?_,zeP hh⟩;rw[zcj hh,h6 j hc5];have e1:cs.getD (j*1+0) undef=cs[j]:=by simp[List.getD_eq_getElem?_getD,List.getElem?_eq_getElem hc5]
   rw[e1]at hv;have e2:=zld (hstr es[j] (List.getElem_mem hj')) (by rw[hrj];simp[zbJ])
   rw[e2]at hv;rw[List.getElem?_eq_getElem hc5,hv.val];simp[hj',encStr]
  have key:=Any.slices_Sort_string L b off c (es.map zdk) w hH hblt (by rw[hl];omega)
  rw[hl]at key;refine key.mono ?_
  rintro e w' ⟨rfl,n,os,rfl⟩
  have hb2:(«Sort».grow («Sort».putRow encStr («Sort».ahead w n) b off ((es.map zdk).mergeSort fun x y=>decide (x≤y)).toArray) os).heap[b]? =
   some (.cells («Sort».putCells encStr off ((es.map zdk).mergeSort fun x y=>decide (x≤y)).toArray cells) ty (0,0)):=by
   simp only[«Sort».grow,«Sort».putRow,«Sort».mapBlock,«Sort».ahead];rw[Array.getElem?_append_left (by simpa using hblt),Array.getElem?_modify,if_pos rfl,hh]
   rfl
  generalize hss:((es.map zdk).mergeSort fun x y=>decide (x≤y))=ss at*
  have hsl:ss.length=es.length:=by rw[←hss];simp
  have hso:zcK es=ss.map zbJ:=by unfold zcK;rw[hss]
  refine ⟨_,G,pl,rfl,fin _ (some b) rfl rfl rfl ?_ (fun b' hlt hne=> ?_) (fun b' hb'=> ?_) ?_⟩
  ·simp[«Sort».grow,«Sort».putRow,«Sort».mapBlock,«Sort».ahead]
  ·have hne':b≠b':=fun h=>hne (by rw[h])
   simp only[«Sort».grow,«Sort».putRow,«Sort».mapBlock,«Sort».ahead];rw[Array.getElem?_append_left (by simpa using hlt),Array.getElem?_modify,if_neg hne']
  ·obtain rfl:=Option.some.inj hb'
   exact ⟨hG,_,_,_,hb2,fun _=>rfl⟩
  ·rw[hso,hu]
   have hcell:∀t,t<c→(«Sort».grow («Sort».putRow encStr («Sort».ahead w n) b off ss.toArray) os).cell? ⟨b,off+t,none⟩=if h:t<ss.length then some (encStr ss[t])else cells[off+t]? :=fun t ht=>by
    rw[zcj hb2];unfold«Sort».putCells;rw[Array.getElem?_mapIdx];by_cases h:t<ss.length
    ·rw[dif_pos h]
     have hcs:off+t<cells.size:=by
      have:=h4 (fun h0=>by rw[h0]at hsl;simp at hsl;rw[hsl]at h;simp at h)
      omega
     rw[Array.getElem?_eq_getElem hcs];simp[h]
    ·rw[dif_neg h]
     cases hq:cells[off+t]? with
     |none=>rfl
     |some x=>simp[h]
   have key:=Rel.s (w:=(«Sort».grow («Sort».putRow encStr («Sort».ahead w n) b off ss.toArray) os)) (QCell G 0 0 .deep) ⟨b,off,none⟩ c 1 (ss.map zbJ) (fun r j=> .string ⟨(ss.getD r []).toArray⟩)
    (by rw[List.length_map,hsl];exact hlc) (fun h=> .inl (h3 (by
     have h0:ss.length=0:=by have:=congrArg List.length h;simpa using this
     rw[hsl]at h0;exact List.length_eq_zero_iff.1 h0))) rfl (Array.getElem?_eq_some_iff.1 hb2).1 hG
    (fun t ht=>by
      show (_:Option Value).isSome=true;rw[show off+t=off+t from rfl]
      have ht':t<c:=by omega
      have e:=hcell t ht';simp only at e⊢;rw[e];split
      ·rfl
      ·have hcs:off+t<cells.size:=by
        have:=h4 (fun h0=>by have:=h3 h0;omega)
        omega
       rw[Array.getElem?_eq_getElem hcs];rfl)
    (fun r hr=>by simp[zbJ])
    (fun r j hr hj=>by
      have hr':r<ss.length:=by simpa using hr
      have hj0:j=0:=by simp[zbJ]at hj;omega
      subst hj0;have e:=hcell r (by omega)
      rw[dif_pos hr']at e;simp only[Nat.mul_one,Nat.add_zero];rw[e,List.getD_eq_getElem?_getD,List.getElem?_eq_getElem hr'];rfl)
    (fun r j hr hj=>by
      have hr':r<ss.length:=by simpa using hr
      have hj0:j=0:=by simp[zbJ]at hj;omega
      subst hj0
      have e1:((ss.map zbJ)[r])[0]= .v (.string ⟨(ss.getD r []).toArray⟩):=by
       simp[zbJ,List.getD_eq_getElem?_getD,List.getElem?_eq_getElem hr']
      rw[e1];exact .v _ _)
   rw[List.length_map,hsl]at key;exact key
end Go.PV
namespace Go.PV
open Go.Shelf Go.RowKit Go.Lib Go.Proofs
variable {P:Program}{ρ:Ren}
def zcE(es:List (List D)):List (List D):=(Lib.compact (es.map zdk)).map zbJ
def zdU:List AV→List Obj→Option Res
 | [.one (.r 0 [] 0)],[⟨.virt,[.s es],[.deep]⟩]=>
  bif decide (es.length≤2^30)&&es.all isStr then some ⟨[.o .deep (zcE es)],[⟨.virt,[.h],[.deep]⟩]⟩else none
 |_,_=>none
theorem zpt(d:Array (List UInt8)):∀m,(compactUpTo d m).length≤m
 |0=>by simp[compactUpTo]
 |m+1=>by
  have:=zpt d m;rw[compactUpTo_succ,List.length_append];split<;>simp<;>omega
theorem znU(zs:List (List UInt8)):(Lib.compact zs).length≤zs.length:=zpt _ _
theorem zpu(d:Array (List UInt8)):∀m,compactUpTo d (m+1)≠[]
 |0=>by rw[compactUpTo_succ];simp[compactUpTo,keeps]
 |m+1=>by
  rw[compactUpTo_succ];exact fun h=>zpu d m (List.append_eq_nil_iff.1 h).1
theorem zme(zs:List (List UInt8))(h:Lib.compact zs=[]):zs=[]:=by
 cases zs with
 |nil=>rfl
 |cons a l=>exact absurd h (zpu _ l.length)
def gCmp(G:Ghost)(B:Option Nat):Ghost:=fun b=>
 if B=some b then some (1,[0])else
 match G b with
 |some (n,π)=>if n<1 then none else some (n,π)
 |none=>none
theorem zpv{G:Ghost}{B:Option Nat}{b:Nat}(hb:B≠some b)(h:G b=none):gCmp G B b=none:=by
 unfold gCmp;rw[if_neg hb,h]
theorem zsg{G:Ghost}{B:Option Nat}{b:Nat}{π:List Nat}(hb:B≠some b)(h:G b=some (FR,π)):gCmp G B b=some (FR,π):=by
 unfold gCmp;rw[if_neg hb,h];simp[FR]
theorem zhY{G:Ghost}{B:Option Nat}{b:Nat}{x:Nat×List Nat}(h:gCmp G B b=some x):(B=some b∧x=(1,[0]))∨(B≠some b∧G b=some x∧1≤x.1):=by
 unfold gCmp at h;split at h
 ·rename_i h0;exact .inl ⟨h0,(Option.some.inj h).symm⟩
 ·rename_i h0
  split at h
  ·rename_i n π hg
   split at h
   ·simp at h
   ·rename_i hn
    obtain rfl:=Option.some.inj h;exact .inr ⟨h0,hg,by simp only;omega⟩
  ·simp at h
theorem ziy{Y:Prm}{ρ:Ren}(L:Lays.n194 Y.P ρ){f:FuncId}{fn:Func}(hF:ρ.f 194=f)(hf:Y.P.funcs[f]? =some fn)(hb:fn.body.isSome=true)(hn:(fn.name== "runtime.NumGoroutine")=false)
 (hres:(Y.sig f).res= .one (.own .deep)):ExtOk Y f zdU:=by
 subst hF;intro as1 objs rv h;unfold zdU at h;split at h
 case h_2=>simp at h
 rename_i es;rw[cond_eq_ite]at h;split at h
 case isFalse=>simp at h
 rename_i hc;simp only[Bool.and_eq_true,decide_eq_true_eq,List.all_eq_true]at hc;obtain ⟨hsz,hstr⟩:=hc;obtain rfl:=Option.some.inj h;refine ⟨⟨fn,hf,hb,hn⟩,fun w G pl args E=> ?_⟩
 obtain ⟨ob0,hr0⟩:∃ob,RefR w G (obOf [⟨.virt,[.s es],[.deep]⟩]) pl 0 [] 0 (args.getD 0 undef) ob:=E.vals 0 (by simp)
 have hu0:(pl 0).hd 0=args.getD 0 undef:=by
  have:=hr0.head;simpa[zb2]using this
 have hR0:Rel w (QCell G 0 0 .deep) (args.getD 0 undef) (.s es):=by
  rw[←hu0];exact (E.okObjs 0 ⟨.virt,[.s es],[.deep]⟩ rfl (by simp)).rel 0 (by simp)
 have hke:zak 1 es=true:=by
  simp only[zak,List.all_eq_true,beq_iff_eq];intro r hr;rw[zfc (hstr r hr)];rfl
 have hce:zap true es=true:=by
  simp only[zap,List.all_eq_true];intro r hr;rw[zfc (hstr r hr)];simp[zbJ,cellD,zc2]
 rw[arr1 E.size,hres]
 have fin:∀(w':World) (B:Option Nat) (v:Value),w'.os=w.os→w'.output=w.output→w'.tape=w.tape→w.heap.size≤w'.heap.size→(∀b,b<w.heap.size→B≠some b→w'.heap[b]? =w.heap[b]?)→
  (∀b,B=some b→G b=some (0,[0])∧OwnAt w' b (1,[0]))→Rel w' (QCell (gCmp G B) 1 0 .deep) v (.s (zcE es))→
  Left w ⟨G,obOf [⟨.virt,[.s es],[.deep]⟩],pl,Y.gl⟩ [⟨.virt,[.s es],[.deep]⟩] (.one (.own .deep)) w' v ⟨[.o .deep (zcE es)],[⟨.virt,[.h],[.deep]⟩]⟩ (gCmp G B) pl:=fun w' B v a1 a2 a3 a4 a5 a6 a7=>by
  have hne:∀b x,G b=x→x≠some (0,[0])→B≠some b:=fun b x hx hn h=>hn (by rw[←hx];exact (a6 b h).1)
  refine {os:=a1,output:=a2,tape:=a3,hsize:=a4,base:=fun b hlt h0=>⟨a5 b hlt (hne b _ h0 (by simp)),zpv (hne b _ h0 (by simp)) h0⟩
          fr:=fun b π hlt h0=>⟨a5 b hlt (hne b _ h0 (by simp[FR])),(zsg (hne b _ h0 (by simp[FR])) h0).trans (show G b=_ from h0).symm⟩
          out:=fun n b off ob hn ho hG=> ?_,own:=fun b x hx=> ?_,dom:=fun b x hx=> ?_,okObjs:=fun n ob ho _=> ?_,olen:=rfl,start:=fun n ob hn ho hkind=> ?_,res:=⟨fun _=>v, .inl rfl,fun t ht=> ?_⟩}
  ·rcases zhY hG with ⟨_,h⟩|⟨_,h2,h3⟩
   ·simp at h
   ·simp at hn h3;omega
  ·rcases zhY hx with ⟨h1,rfl⟩|⟨h1,h2,_⟩
   ·exact (a6 b h1).2
   ·have ho:=E.own b x h2
    exact ho.moved (fun h=>h) (a5 b ho.lt h1)
  ·rcases zhY hx with ⟨h1,rfl⟩|⟨h1,h2,_⟩
   ·exact .inl (by simp)
   ·rcases E.nolim b _ h2 with h|h
    ·exact .inl (Nat.le_of_lt h)
    ·exact .inr h
  ·have:ob=⟨.virt,[.h],[.deep]⟩:=by
    match n,ho with
    |0,ho=>simpa[obOf]using ho.symm
    |n+1,ho=>simp[obOf]at ho
   subst this
   exact {bld:=fun t1 e1 h1=>by simp at h1,fl:=rfl,rel:=fun c hc=>by
           have:c=0:=by simpa using hc
           subst this;exact .h _ _
          box:=fun h=>by simp at h}
  ·have:n=0∧ob=⟨.virt,[.h],[.deep]⟩:=by
    match n,ho with
    |0,ho=>exact ⟨rfl,by simpa using ho.symm⟩
    |n+1,ho=>simp at ho
   obtain ⟨rfl,rfl⟩:=this;exact ⟨_,rfl,rfl,rfl,rfl,fun _ _=>rfl⟩
  ·have:t=0:=by simpa using ht
   subst this;exact a7
 have e0:zcE []=[]:=rfl;rcases zfW hR0 hke hce (by omega) E.own with ⟨h0,a,hu⟩|⟨b,off,c,cells,ty,hu,hlc,h3,hG,hh,h4,cs,h5,h6,h7,h8⟩
 ·subst h0
  rw[hu];refine (Any.slices_Compact_string_empty L a 0 w).mono ?_
  rintro e w' ⟨rfl,rfl⟩
  exact ⟨_,_,pl,rfl,fin w' none _ rfl rfl rfl (Nat.le_refl _) (fun _ _ _=>rfl) (fun b hb=>absurd hb (by simp)) (by rw[e0];exact .e _ _)⟩
 ·have hblt:b<w.heap.size:=(Array.getElem?_eq_some_iff.1 hh).1
  rw[hu];have hl:(es.map zdk).length=es.length:=List.length_map _
  have hH:«Sort».Holds encStr w b off (es.map zdk).toArray:=fun j hj=>by
   have hj':j<es.length:=by simpa using hj
   have hc5:j<cs.length:=by omega
   have hrj:=zfc (hstr es[j] (List.getElem_mem hj'));have hv:=h8 j 0 hj' (by rw[hrj];simp[zbJ])
   refine ⟨?_,zeP hh⟩;rw[zcj hh,h6 j hc5];have e1:cs.getD (j*1+0) undef=cs[j]:=by simp[List.getD_eq_getElem?_getD,List.getElem?_eq_getElem hc5]
   rw[e1]at hv;have e2:=zld (hstr es[j] (List.getElem_mem hj')) (by rw[hrj];simp[zbJ])
   rw[e2]at hv;rw[List.getElem?_eq_getElem hc5,hv.val];simp[hj',encStr]
  have key:=Any.slices_Compact_string L b off c (es.map zdk) w hH (by rw[hl];omega) (by rw[hl];exact hlc)
  rw[hl]at key;refine key.mono ?_
  rintro e w' ⟨rfl,q,rfl⟩
  have hcl:=znU (es.map zdk);have hcn:=zme (es.map zdk);rw[hl]at hcl;have hco:zcE es=(Lib.compact (es.map zdk)).map zbJ:=rfl;generalize Lib.compact (es.map zdk)=zs at*;generalize hss:(zs++List.replicate (es.length-zs.length) [])=ss at*;have hsl:ss.length=es.length:=by rw[←hss];simp;omega
  have hsz2:∀t (h:t<zs.length),ss[t]'(by omega)=zs[t]:=fun t h=>by
   have:ss[t]? =zs[t]? :=by rw[←hss,List.getElem?_append_left h]
   rw[List.getElem?_eq_getElem (by omega),List.getElem?_eq_getElem h]at this
   exact Option.some.inj this
  have hb2:(«Sort».putRow encStr («Sort».ahead w q) b off ss.toArray).heap[b]? =some (.cells («Sort».putCells encStr off ss.toArray cells) ty (0,0)):=by
   simp only[«Sort».putRow,«Sort».mapBlock,«Sort».ahead];rw[Array.getElem?_modify,if_pos rfl,hh];rfl
  refine ⟨_,_,pl,rfl,fin _ (some b) _ rfl rfl rfl ?_ (fun b' hlt hne=> ?_) (fun b' hb'=> ?_) ?_⟩
  ·simp[«Sort».putRow,«Sort».mapBlock,«Sort».ahead]
  ·have hne':b≠b':=fun h=>hne (by rw[h])
   simp only[«Sort».putRow,«Sort».mapBlock,«Sort».ahead];rw[Array.getElem?_modify,if_neg hne']
  ·obtain rfl:=Option.some.inj hb'
   exact ⟨hG,_,_,_,hb2,fun _=>rfl⟩
  ·rw[hco]
   have hcell:∀t,t<c→(«Sort».putRow encStr («Sort».ahead w q) b off ss.toArray).cell? ⟨b,off+t,none⟩=if h:t<ss.length then some (encStr ss[t])else cells[off+t]? :=fun t ht=>by
    rw[zcj hb2];unfold«Sort».putCells;rw[Array.getElem?_mapIdx];by_cases h:t<ss.length
    ·rw[dif_pos h]
     have hcs:off+t<cells.size:=by
      have:=h4 (fun h0=>by rw[h0]at hsl;simp at hsl;rw[hsl]at h;simp at h)
      omega
     rw[Array.getElem?_eq_getElem hcs];simp[h]
    ·rw[dif_neg h]
     cases hq:cells[off+t]? with
     |none=>rfl
     |some x=>simp[h]
   have key:=Rel.s (w:=(«Sort».putRow encStr («Sort».ahead w q) b off ss.toArray)) (QCell (gCmp G (some b)) 1 0 .deep) ⟨b,off,none⟩ c 1 (zs.map zbJ) (fun r j=> .string ⟨(zs.getD r []).toArray⟩)
    (by rw[List.length_map];omega) (fun h=> .inl (h3 (by
     have h0:zs=[]:=by cases zs with
      |nil=>rfl
      |cons=>simp at h
     have h1:=hcn h0;cases es with
     |nil=>rfl
     |cons=>simp at h1))) rfl (Array.getElem?_eq_some_iff.1 hb2).1 (by simp[QCell,gCmp])
    (fun t ht=>by
      show (_:Option Value).isSome=true;have ht':t<c:=by omega
      have e:=hcell t ht';simp only at e⊢;rw[e];split
      ·rfl
      ·have hcs:off+t<cells.size:=by
        have:=h4 (fun h0=>by have:=h3 h0;omega)
        omega
       rw[Array.getElem?_eq_getElem hcs];rfl)
    (fun r hr=>by simp[zbJ])
    (fun r j hr hj=>by
      have hr':r<zs.length:=by simpa using hr
      have hj0:j=0:=by simp[zbJ]at hj;omega
      subst hj0;have e:=hcell r (by omega)
      rw[dif_pos (by omega),hsz2 r hr']at e
      simp only[Nat.mul_one,Nat.add_zero];rw[e,List.getD_eq_getElem?_getD,List.getElem?_eq_getElem hr'];rfl)
    (fun r j hr hj=>by
      have hr':r<zs.length:=by simpa using hr
      have hj0:j=0:=by simp[zbJ]at hj;omega
      subst hj0
      have e1:((zs.map zbJ)[r])[0]= .v (.string ⟨(zs.getD r []).toArray⟩):=by
       simp[zbJ,List.getD_eq_getElem?_getD,List.getElem?_eq_getElem hr']
      rw[e1];exact .v _ _)
   rw[List.length_map]at key;exact key
end Go.PV
