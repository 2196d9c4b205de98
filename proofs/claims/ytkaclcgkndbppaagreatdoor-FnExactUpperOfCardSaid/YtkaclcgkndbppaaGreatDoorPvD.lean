/- A part of the proof: PvCall8, PvCall9, PvCallA, PvCallB, PvCallC, PvCallD, PvCallE, PvCallF, PvCallG, PvCallH, PvCallI, PvCallJ, PvCallK, PvCallL. -/
import Derived.Test.YtkaclcgkndbppaaGreatDoorPvB
set_option linter.unusedSimpArgs false
set_option linter.unusedVariables false
namespace Go.PV
open Go.RowKit
theorem zoF{es:List (List D)}{d:D}(h:zbH (.s es) d=true):d= .s d.es:=by
 cases d with
 |s es'=>rfl
 |v x=>cases x<;>simp[zbH]at h
 |h=>simp[zbH]at h
 |u t=>simp[zbH]at h
section aft
variable {W0:World}{G0:Orig}{S:St}{w w':World}{tm:Array Value}{G G':Ghost}{pl plc pl':zaP}{E:Exp}{rs:RS}{v:Value}{rv:Res}{fz:Bool}{N:Option Nat}
theorem Aft.klt(A:Aft W0 G0 S w tm G pl E plc rs w' v rv G' pl' fz N){k:Nat}{co:CO}(hk:E.cos[k]? =some co):k<(E.cos.map (·.ob)).length:=by
 rw[List.length_map];exact (List.getElem?_eq_some_iff.1 hk).1
theorem Aft.objMv(A:Aft W0 G0 S w tm G pl E plc rs w' v rv G' pl' fz N){k n c:Nat}{p:Path}{obc:Obj}(hk:E.cos[k]? =some ⟨obc, .mv n p c⟩)(hN:N≠some n){ob:Obj}(hob:S.obj n=some ob):
 ObjRel w' (gOut E fz N G G') n (pl n) {ob with row:=zaC ob.row p ((zaj ob.row p).set c .h)}:=by
 obtain ⟨ob2,es,hr,hown,hes,_⟩:=A.co k _ hk;have:ob2=ob:=by have:=hr.at0;rw[hob]at this;exact (Option.some.inj this).symm
 subst this;exact A.objSlot hk (.inr rfl) hN hr hown .h (.h _ _)
theorem Aft.objSl(A:Aft W0 G0 S w tm G pl E plc rs w' v rv G' pl' fz N){k n c:Nat}{p:Path}{obc ob1:Obj}(hk:E.cos[k]? =some ⟨obc, .sl n p c⟩)(h1:rv.objs[k]? =some ob1)(hfit:zcY obc ob1=true)
 (hfz:(∀wn∈obc.fl,wn= .deep)∨fz=true) (hN:N≠some n) {ob:Obj} (hob:S.obj n=some ob):
 ObjRel w' (gOut E fz N G G') n (pl n) {ob with row:=zaC ob.row p ((zaj ob.row p).set c (.s (ob1.row.getD 0 .h).es))}:=by
 obtain ⟨ob2,es,hr,hown,hes,hco⟩:=A.co k _ hk;have:ob2=ob:=by have:=hr.at0;rw[hob]at this;exact (Option.some.inj this).symm
 subst this;have hco:obc=⟨.virt,[.s es],[ownAt ob2.fl p c]⟩:=hco;subst hco;obtain ⟨_,hkind,hlen,hfl,hsh⟩:=zci hfit;simp only at hkind hfl;have hro:ob1.kind≠ .ro:=by rw[hkind];simp
 have ho:=A.left.okObjs k ob1 h1 hro;have hl1:ob1.row.length=1:=hlen;obtain ⟨_,_,_,_,_,hpl⟩:=A.left.start k ob1 (A.klt hk) h1 hro;have hpl:pl' k=plc k:=hpl (by rw[hkind];simp) (by rw[hkind];rfl)
 have h0:=hsh 0 (by simp)
 have hd0:ob1.row.getD 0 .h= .s (ob1.row.getD 0 .h).es:=zoF h0;have hrel:=ho.rel 0 (by omega)
 rw[←za2 ob1.row 0 .h (by omega),hd0,hpl]at hrel
 refine A.objSlot hk (.inl rfl) hN hr hown _ (hrel.mono fun ρ b hq=> ?_)
 have hq:QCell G' k 0 (ob1.fl.getD 0 .sh) ρ b:=hq;rw[hfl]at hq;have hq:QCell G' k 0 (ownAt ob2.fl p c) ρ b:=hq;have hback:∀ρ,G' b=some (k,0::ρ)→gOut E fz N G G' b=some (n,flat p++c::ρ):=fun ρ h=>A.backCo hk h rfl hN
 revert hq
 cases hw0:ownAt ob2.fl p c with
 |deep=>
  intro h;have h:=hback ρ h;by_cases hp0:p=[]
  ·subst hp0
   simp only[ownAt]at hw0;show QCell _ n c (ob2.fl.getD c .sh) ρ b;rw[hw0];exact h
  ·exact (zkM hp0 (zjC hp0 hown) (c::ρ) b).2 h
 |top=>
  have hf:fz=true:=by
   rcases hfz with h|h
   ·have:=h (ownAt ob2.fl p c) (by simp)
    rw[hw0]at this;simp at this
   ·exact h
  have hp0:p=[]:=by
   cases p with
   |nil=>rfl
   |cons x p=>
    have:=zjC (by simp) hown c
    rw[hw0]at this;simp at this
  subst hp0;simp only[ownAt]at hw0;intro h;show QCell _ n c (ob2.fl.getD c .sh) ρ b;rw[hw0];simp only[QCell]at h⊢;split
  ·rename_i hρ
   subst hρ;rw[if_pos rfl]at h;exact hback [] h
  ·rename_i hρ
   rw[if_neg hρ]at h;exact A.gone hf h
 |sh=>exact absurd hw0 hown
theorem Aft.objGrp(A:Aft W0 G0 S w tm G pl E plc rs w' v rv G' pl' fz N){k n:Nat}{ids:List Nat}{obc ob1:Obj}(hk:E.cos[k]? =some ⟨obc, .grp n ids false⟩)(h1:rv.objs[k]? =some ob1)(hfit:zcY obc ob1=true)
 (hfz:(∀wn∈obc.fl,wn= .deep)∨fz=true) (hN:N≠some n) {ob:Obj} (hob:S.obj n=some ob):
 ObjRel w' (gOut E fz N G G') n (pl n) {ob with row:=zdj ids ob1.row ob.row}:=by
 obtain ⟨ob2,hob2,hkro,⟨hnn,hidx⟩,hids,hhd,hco⟩:=A.co k _ hk;have:ob2=ob:=by rw[hob]at hob2;exact (Option.some.inj hob2).symm
 subst this;have hco:obc=(grpCo n ids ob2 false).ob:=congrArg CO.ob hco;have hcr:obc.row=ids.map fun c=> .s (ob2.row.getD c .h).es:=by rw[hco];rfl
 have hcf:obc.fl=ids.map fun c=>ob2.fl.getD c .sh:=by rw[hco];rfl
 have hck:obc.kind= .virt:=by rw[hco];rfl
 obtain ⟨_,hkind,hlen,hfl,hsh⟩:=zci hfit;have hro:ob1.kind≠ .ro:=by rw[hkind,hck];simp
 have ho:=A.left.okObjs k ob1 h1 hro;have hl1:ob1.row.length=ids.length:=by rw[hlen,hcr];simp
 obtain ⟨_,_,_,_,_,hpl⟩:=A.left.start k ob1 (A.klt hk) h1 hro;have hpl:pl' k=plc k:=hpl (by rw[hkind,hck];simp) (by rw[hkind,hck];rfl)
 have hrel:=A.inv.objs n ob2 hob hkro
 have hnb:ob2.kind.isBld=false:=by
  obtain ⟨c,hc⟩:=List.exists_mem_of_ne_nil ids hnn;obtain ⟨_,⟨es,he⟩,_⟩:=hids c hc;exact hrel.bld.cell he
 have hgl:=zfa ids ob1.row ob2.row;refine {bld:= .not hnb,fl:=by show ob2.fl.length=(zdj ids ob1.row ob2.row).length;rw[hgl];exact hrel.fl,rel:=fun j hj=> ?_,box:=fun hb=> ?_}
 ·have hj1:j<(zdj ids ob1.row ob2.row).length:=hj
  have hj2:j<ob2.row.length:=by rw[←hgl];exact hj1
  show Rel w' (fun π b=>QCell _ n j (ob2.fl.getD j .sh) π b) ((pl n).hd j) ((zdj ids ob1.row ob2.row)[j]'hj1)
  rw[zkG ids ob1.row ob2.row j hj1 hj2];cases hi:zdw ids 0 j with
  |some i=>
   obtain ⟨_,hji⟩:=zl1 hi;rw[Nat.sub_zero]at hji;have hilt:i<ids.length:=(List.getElem?_eq_some_iff.1 hji).1;have hij:ids.getD i 0=j:=by simp[List.getD,hji]
   have hi1:i<ob1.row.length:=by omega
   have hd0:ob1.row.getD i .h= .s (ob1.row.getD i .h).es:=by
    have h0:=hsh i (by rw[hcr];simpa using hilt)
    rw[hcr]at h0
    have:(ids.map fun c=>D.s (ob2.row.getD c .h).es).getD i .h= .s (ob2.row.getD j .h).es:=by
     have hl:i<(ids.map fun c=>D.s (ob2.row.getD c .h).es).length:=by simpa using hilt
     rw[za2 _ _ _ hl,List.getElem_map,←za2 ids i 0 hilt,hij]
    rw[this]at h0;exact zoF h0
   have hr:=ho.rel i hi1;rw[←za2 ob1.row i .h hi1,hd0,hpl,hhd i,hij]at hr;refine hr.mono fun ρ b hq=> ?_
   have hq:QCell G' k i (ob1.fl.getD i .sh) ρ b:=hq
   have hfi:ob1.fl.getD i .sh=ob2.fl.getD j .sh:=by
    rw[hfl,hcf];have hl:i<(ids.map fun c=>ob2.fl.getD c .sh).length:=by simpa using hilt
    rw[za2 _ _ _ hl,List.getElem_map,←za2 ids i 0 hilt,hij]
   rw[hfi]at hq;have hback:∀ρ,G' b=some (k,i::ρ)→gOut E fz N G G' b=some (n,j::ρ):=fun ρ h=>A.backCo hk h (by simp[Src.outn,hji]) hN
   have hnsh:=(hids j (by rw[←hij,za2 ids i 0 hilt];exact List.getElem_mem hilt)).2.2
   revert hq
   cases hw0:ob2.fl.getD j .sh with
   |deep=>exact hback ρ
   |top=>
    have hf:fz=true:=by
     rcases hfz with h|h
     ·have hm:ob2.fl.getD j .sh∈obc.fl:=by
       rw[hcf];exact List.mem_map.2 ⟨j,by rw[←hij,za2 ids i 0 hilt];exact List.getElem_mem hilt,rfl⟩
      have:=h _ hm;rw[hw0]at this;simp at this
     ·exact h
    intro h;simp only[QCell]at h⊢;split
    ·rename_i hρ
     subst hρ;rw[if_pos rfl]at h;exact hback [] h
    ·rename_i hρ
     rw[if_neg hρ]at h;exact A.gone hf h
   |sh=>exact absurd hw0 hnsh
  |none=>
   have hni:∀π,Src.inn (.grp n ids false) (n,j::π)=none:=fun π=>by simp[Src.inn,hi]
   refine (hrel.rel j hj2).frame (fun π b hl hq=> ?_) (fun π b hl hq=> ?_)
   ·have hq:QObj G n ob2.fl (j::π) b:=hq
    rcases hq.own with h|h
    ·exact (A.restCo hk rfl hN h (hni π)).1
    ·exact (A.base b hl h).1
   ·have hq:QObj G n ob2.fl (j::π) b:=hq
    exact hq.turn1 (fun h=>(A.restCo hk rfl hN h (hni π)).2) (fun h=>(A.base b hl h).2)
 ·have hb:ob2.kind= .box:=hb
  obtain ⟨b,off,cs,ty,g1,g2,g3,g4,g5⟩:=hrel.box hb;obtain ⟨h1,h2⟩:=A.restCo hk rfl hN g2 (by simp[Src.inn])
  exact ⟨b,off,cs,ty,g1,h2,by rw[h1];exact g3,by show off+(zdj ids ob1.row ob2.row).length≤_;rw[hgl];exact g4,fun j hj=>g5 j (by
   have hj:j<(zdj ids ob1.row ob2.row).length:=hj;rw[hgl]at hj;exact hj)⟩
theorem Aft.objGrpM(A:Aft W0 G0 S w tm G pl E plc rs w' v rv G' pl' fz N){k n:Nat}{ids:List Nat}{obc:Obj}(hk:E.cos[k]? =some ⟨obc, .grp n ids true⟩)(hN:N≠some n){ob:Obj}(hob:S.obj n=some ob):
 ObjRel w' (gOut E fz N G G') n (pl n) {ob with row:=hSet ids ob.row}:=by
 obtain ⟨ob2,hob2,hkro,⟨hnn,hidx⟩,hids,hhd,hco⟩:=A.co k _ hk;have:ob2=ob:=by rw[hob]at hob2;exact (Option.some.inj hob2).symm
 subst this;have hrel:=A.inv.objs n ob2 hob hkro
 have hnb:ob2.kind.isBld=false:=by
  obtain ⟨c,hc⟩:=List.exists_mem_of_ne_nil ids hnn;obtain ⟨_,⟨es,he⟩,_⟩:=hids c hc;exact hrel.bld.cell he
 have hgl:=zm0 ids ob2.row;refine {bld:= .not hnb,fl:=by show ob2.fl.length=(hSet ids ob2.row).length;rw[hgl];exact hrel.fl,rel:=fun j hj=> ?_,box:=fun hb=> ?_}
 ·have hj1:j<(hSet ids ob2.row).length:=hj
  have hj2:j<ob2.row.length:=by rw[←hgl];exact hj1
  show Rel w' (fun π b=>QCell _ n j (ob2.fl.getD j .sh) π b) ((pl n).hd j) ((hSet ids ob2.row)[j]'hj1)
  rw[zrO ids ob2.row j hj1 hj2];cases hi:zdw ids 0 j with
  |some i=>exact .h _ _
  |none=>
   have hni:∀π,Src.inn (.grp n ids true) (n,j::π)=none:=fun π=>by simp[Src.inn,hi]
   refine (hrel.rel j hj2).frame (fun π b hl hq=> ?_) (fun π b hl hq=> ?_)
   ·have hq:QObj G n ob2.fl (j::π) b:=hq
    rcases hq.own with h|h
    ·exact (A.restCo hk rfl hN h (hni π)).1
    ·exact (A.base b hl h).1
   ·have hq:QObj G n ob2.fl (j::π) b:=hq
    exact hq.turn1 (fun h=>(A.restCo hk rfl hN h (hni π)).2) (fun h=>(A.base b hl h).2)
 ·have hb:ob2.kind= .box:=hb
  obtain ⟨b,off,cs,ty,g1,g2,g3,g4,g5⟩:=hrel.box hb;obtain ⟨h1,h2⟩:=A.restCo hk rfl hN g2 (by simp[Src.inn])
  exact ⟨b,off,cs,ty,g1,h2,by rw[h1];exact g3,by show off+(hSet ids ob2.row).length≤_;rw[hgl];exact g4,fun j hj=>g5 j (by
   have hj:j<(hSet ids ob2.row).length:=hj;rw[hgl]at hj;exact hj)⟩
theorem Aft.objRow(A:Aft W0 G0 S w tm G pl E plc rs w' v rv G' pl' fz N){k n:Nat}{p:Path}{obc ob1:Obj}(hk:E.cos[k]? =some ⟨obc, .row n p⟩)(h1:rv.objs[k]? =some ob1)(hfit:zcY obc ob1=true)
 (hN:N≠some n) {ob:Obj} (hob:S.obj n=some ob):ObjRel w' (gOut E fz N G G') n (pl n) {ob with row:=zaC ob.row p ob1.row}:=by
 obtain ⟨ob2,ad,hob2,hkro,hp0,hpath,hdeep,hbase,Ds,hco⟩:=A.co k _ hk;have:ob2=ob:=by rw[hob]at hob2;exact (Option.some.inj hob2).symm
 subst this;have hco:obc=⟨.box,zaj ob2.row p,(zaj ob2.row p).map fun _=> .deep⟩:=hco
 subst hco;obtain ⟨_,hkind,hlen,hfl,hsh⟩:=zci hfit;simp only at hkind hfl hlen;have hro:ob1.kind≠ .ro:=by rw[hkind];simp
 have ho:=A.left.okObjs k ob1 h1 hro;obtain ⟨_,_,_,_,hb2,_⟩:=A.left.start k ob1 (A.klt hk) h1 hro;have hb2:(pl' k).base=(plc k).base:=hb2;obtain ⟨b,off,cs,ty,g1,g2,g3,g4,g5⟩:=ho.box hkind;rw[hb2,hbase]at g1;obtain rfl:=Option.some.inj g1;refine A.objPath hk rfl hN hob hkro hp0 hpath Ds hdeep ob1.row (pl' k).hd hlen (fun π h2 h3=>by simp[Src.inn,h2,h3]) ((Array.getElem?_eq_some_iff.1 g3).1) (fun o ho'=> ?_) (fun j hj=> ?_) (A.backCo hk g2 rfl hN) (fun c hc=> ?_)
 ·exact A.left.out k b off ob1 (A.klt hk) h1 g2 (by rw[hb2,hbase]) o (by rw[hlen];exact ho')
 ·simp only[World.cell?,g3]
  simpa using g5 j hj
 ·refine (ho.rel c hc).mono fun ρ b' h=> ?_
  have h:QCell G' k c (ob1.fl.getD c .sh) ρ b':=h
  have hfd:ob1.fl.getD c .sh= .deep:=by
   rw[hfl];have:c<(zaj ob2.row p).length:=by rw[←hlen];exact hc
   simp[List.getD,this]
  rw[hfd]at h;exact (zkM hp0 hdeep (c::ρ) b').2 (A.backCo hk h rfl hN)
end aft
end Go.PV
namespace Go.PV
open Go.RowKit
theorem rowGet_append(p:Path):∀(row:List D) (q:Path),zaj row (p++q)=zaj (zaj row p) q:=by
 induction p with
 |nil=>intro row q;rfl
 |cons x p ih=>obtain ⟨c,e⟩:=x;intro row q;simp only[List.cons_append,zaj];exact ih _ q
theorem zfT(p:Path):∀(row:List D) (q:Path),zbR row p→zbR (zaj row p) q→zbR row (p++q):=by
 induction p with
 |nil=>intro row q _ h;exact h
 |cons x p ih=>
  obtain ⟨c,e⟩:=x;intro row q h1 h2;simp only[List.cons_append,zbR]at h1⊢;exact ⟨h1.1,h1.2.1,ih _ q h1.2.2 (by simpa only[zaj]using h2)⟩
theorem zfm{w:World}(p:Path):∀(hd:Nat→Option Value) (row:List D) (q:Path) (base:Option Addr),p≠[]→
 zaD w hd row (p++q) base=(zaD w hd row p base).bind fun ad=>zaD w (fun j=>w.cell? ⟨ad.block,ad.off+j,none⟩) (zaj row p) q (some ⟨ad.block,ad.off,none⟩):=by
 induction p with
 |nil=>intro hd row q base h;exact absurd rfl h
 |cons x p ih=>
  obtain ⟨c,e⟩:=x;intro hd row q base _;simp only[List.cons_append,zaD,zaj];cases hd c with
  |none=>rfl
  |some v=>
   cases v<;>try rfl
   rename_i a len cap;cases a with
   |none=>rfl
   |some ad=>
    simp only;by_cases hp:p=[]
    ·subst hp
     simp only[List.nil_append,zaD,Option.bind_some,zaj]
    ·exact ih _ _ q _ hp
theorem zl4{w w':World}(p:Path):∀{Q:QP} {hd:Nat→Value} {row:List D} {base:Option Addr} {ad:Addr} {hd0:Nat→Value},
 Desc w Q (fun c=>some (hd c)) row p base ad hd0→zcC w Q hd row→zbR row p→p≠[]→∀(row':List D),row'.length=(zaj row p).length→
 (∀π b,b<w.heap.size→Q π b→¬(flat p<+:π)→π≠(flat p).dropLast→w'.heap[b]? =w.heap[b]?)→
 zaD w' (fun c=>some (hd c)) (zaC row p row') p base=some ad∧zaj (zaC row p row') p=row'∧zbR (zaC row p row') p:=by
 induction p with
 |nil=>intro Q hd row base ad hd0 _ _ _ h;exact absurd rfl h
 |cons x p ih=>
  obtain ⟨c,e⟩:=x;intro Q hd row base ad hd0 Ds hrow hp _ row' hlen hb;obtain ⟨hc,he,hp⟩:=hp;obtain ⟨es,hes,he'⟩:=zg4 he;have hg:row.getD c .h=row[c]:=za2 row c _ hc;have hrc:=hrow c hc;rw[←hg,hes]at hrc;rcases hrc.slice with ⟨rfl,_⟩|⟨ad0,cap,sz,u,hv,hl,hs,hb0,hq,hcc,hz,hu,hr⟩
  ·simp at he'
  have hge:((row.getD c .h).es.getD e [])=es[e]:=by rw[hes];exact za2 es e _ he'
  have hsz:(es[e]).length=sz:=hz e he';have hrow':zcC w (fun π b=>Q (c::e::π) b) (fun j=>u e j) (es[e]):=fun j hj=>hr e j he' hj
  have hcell:∀j,j<(es[e]).length→w.cell? ⟨ad0.block,ad0.off+e*sz+j,none⟩=some (u e j):=fun j hj=>by
   rw[Nat.add_assoc];exact hu e j he' (by omega)
  rw[hge]at hp;have hget:zaj row ((c,e)::p)=zaj (es[e]) p:=by simp only[zaj,hge]
  rw[hget]at hlen
  have hset:zaC row ((c,e)::p) row'=row.set c (.s (es.set e (zaC (es[e]) p row'))):=by
   simp only[zaC,hge];rw[hes];rfl
  have hstep:zaD w (fun c=>some (hd c)) row ((c,e)::p) base=
   zaD w (fun j=>some (u e j)) (es[e]) p (some ⟨ad0.block,ad0.off+e*sz,none⟩):=by
   simp only[zaD,hv,hge,hsz];exact zcb w p _ _ _ _ hp (fun j hj=>hcell j hj)
  have hlen2:(zaC (es[e]) p row').length=sz:=by
   cases p with
   |nil=>simp only[zaC];rw[hlen];simpa[zaj]using hsz
   |cons y q=>obtain ⟨a,b⟩:=y;simp only[zaC,List.length_set];exact hsz
  have hgs:((row.set c (.s (es.set e (zaC (es[e]) p row')))).getD c .h)= .s (es.set e (zaC (es[e]) p row')):=by
   simp[List.getD,hc]
  have hgs2:(es.set e (zaC (es[e]) p row')).getD e []=zaC (es[e]) p row':=by
   simp[List.getD,he']
  rw[hset];by_cases hp0:p=[]
  ·subst hp0
   simp only[zaC]at hgs hgs2 hlen2⊢;refine ⟨?_, ?_, ?_⟩
   ·have h1:=Ds.at_
    rw[hstep]at h1;simp only[zaD]at h1⊢;simp only[hv,hgs,D.es,hgs2,hlen2];exact h1
   ·simp only[zaj,hgs,D.es,hgs2]
   ·refine ⟨by simpa using hc, ?_,trivial⟩
    rw[hgs];simpa[D.es]using he'
  ·have hnp:¬(flat ((c,e)::p)<+: [c]):=by
    intro h;rw[zbV]at h;have:=h.length_le;simp at this
   have hdc: [c]≠(flat ((c,e)::p)).dropLast:=by
    rw[za7 _ _ hp0];simp
   have hsame:=cell_of_heap (hb _ _ hb0 hq hnp hdc)
   have Ds':Desc w (fun π b=>Q (c::e::π) b) (fun j=>some (u e j)) (es[e]) p (some ⟨ad0.block,ad0.off+e*sz,none⟩) ad hd0:=
    {at_:=by rw[←hstep];exact Ds.at_
     spot:=Ds.spot
     lt:=Ds.lt
     blk:=by have:=Ds.blk;rw[za7 _ _ hp0]at this;exact this
     cell:=by have:=Ds.cell;rw[hget]at this;exact this
     rel:=by have:=Ds.rel;rw[hget]at this;simpa using this}
   obtain ⟨k1,k2,k3⟩:=ih Ds' hrow' hp hp0 row' hlen (fun π b h1 h2 h4 h3=>hb _ _ h1 h2 (fun h=>h4 (by
    rw[zbV]at h;exact (List.cons_prefix_cons.1 (List.cons_prefix_cons.1 h).2).2)) (fun h=>h3 (by
    rw[za7 _ _ hp0]at h;simpa using h)))
   refine ⟨?_, ?_, ?_⟩
   ·simp only[zaD,hv,hgs,D.es,hgs2,hlen2]
    rw[←k1];refine zcb w' p _ _ _ _ k3 (fun j hj=> ?_)
    have hj2:j<(es[e]).length:=by rw[hsz,←hlen2];exact hj
    rw[hsame];exact hcell j hj2
   ·simp only[zaj,hgs,D.es,hgs2];exact k2
   ·refine ⟨by simpa using hc, ?_, ?_⟩
    ·rw[hgs];simpa[D.es]using he'
    ·rw[hgs];simp only[D.es,hgs2];exact k3
end Go.PV
namespace Go.PV
open Go.RowKit
theorem zhy{n:Nat}{x:Option Obj}:∀(ups:List (Nat×Option Obj)) (o:List (Option Obj)),(∀y∈ups,y.1=n→y.2=x)→(∃y∈ups,y.1=n)→n<o.length→(after ups o).getD n none=x:=by
 intro ups
 induction ups with
 |nil=>intro o _ h;obtain ⟨y,hy,_⟩:=h;simp at hy
 |cons y ys ih=>
  intro o h hex hlt;show (after ys (o.set y.1 y.2)).getD n none=x;by_cases hys:∃z∈ys,z.1=n
  ·exact ih _ (fun z hz=>h z (List.mem_cons_of_mem _ hz)) hys (by simpa using hlt)
  ·have hout:∀z∈ys,z.1≠n:=fun z hz hzn=>hys ⟨z,hz,hzn⟩
   rw[zei _ _ _ hout];obtain ⟨z,hz,hzn⟩:=hex;rcases List.mem_cons.1 hz with rfl|hz
   ·have:=h z (by simp) hzn
    subst hzn;simp[List.getD_eq_getElem?_getD,hlt,this]
   ·exact absurd hzn (hout z hz)
theorem zeB{F:Foot}{objs:List Obj}{i:Nat}{co:CO}{y:Nat×Option Obj}(h:y∈zbD F objs i co):co.src.mutName=[y.1]:=by
 obtain ⟨ob,src⟩:=co;cases src with
 |box n=>simp only[zbD,List.mem_singleton]at h;subst h;rfl
 |row n p=>
  simp only[zbD]at h;split at h
  ·simp only[List.mem_singleton]at h;subst h;rfl
  ·simp at h
 |sl n p c=>
  simp only[zbD]at h;split at h
  ·simp only[List.mem_singleton]at h;subst h;rfl
  ·simp at h
 |mv n p c=>
  simp only[zbD]at h;split at h
  ·simp only[List.mem_singleton]at h;subst h;rfl
  ·simp at h
 |grp n cs tk=>
  cases tk<;>simp only[zbD]at h<;>split at h
  ·simp only[List.mem_singleton]at h;subst h;rfl
  ·simp at h
  ·simp only[List.mem_singleton]at h;subst h;rfl
  ·simp at h
 |ro n p=>simp[zbD]at h
 |free=>simp[zbD]at h
theorem zfu{F:Foot}{bop:List Nat}{m:Nat}{y:Nat×Option Obj}(h:y∈frozen F bop m):y.1=m:=by
 unfold frozen at h;split at h
 ·split at h
  ·simp at h
  ·split at h<;>(simp only[List.mem_singleton]at h;subst h;rfl)
 ·simp at h
def zc0(F:Foot)(E:Exp)(fz:Bool)(objs:List Obj):List (Nat×Option Obj):=
 (if fz then E.bor.flatMap (frozen F E.bop)else [])++E.cos.zipIdx.flatMap (fun x=>zbD F objs x.2 x.1)
section
variable {F:Foot}{E:Exp}{fz:Bool}{objs:List Obj}{o:List (Option Obj)}
theorem zhz{co:CO}{k:Nat}:(co,k)∈E.cos.zipIdx↔E.cos[k]? =some co:=by
 rw[List.mem_zipIdx_iff_getElem?]
theorem zbI(hok:E.ok=true){k:Nat}{co:CO}(hk:E.cos[k]? =some co){n:Nat}{x:Option Obj}(hx:zbD F objs k co=[(n,x)])(hlt:n<o.length):(after (zc0 F E fz objs) o).getD n none=x:=by
 have hm:co.src.mutName=[n]:=zeB (y:=(n,x)) (F:=F) (objs:=objs) (i:=k) (by rw[hx];simp)
 have hnd:nodup (E.cos.flatMap fun c=>c.src.mutName)=true:=by
  have:=hok;simp only[Exp.ok,Bool.and_eq_true]at this;exact this.1.1
 have hnb:n∉E.bor:=fun h=>Exp.ok_mem hok h (List.mem_flatMap.2 ⟨co,List.mem_of_getElem? hk,by rw[hm];simp⟩)
 refine zhy _ _ (fun y hy hyn=> ?_) ⟨(n,x), ?_,rfl⟩ hlt
 ·rcases List.mem_append.1 hy with h|h
  ·split at h
   ·obtain ⟨m,h1,h2⟩:=List.mem_flatMap.1 h
    have:=zfu h2;rw[hyn]at this;rw[←this]at h1;exact absurd h1 hnb
   ·simp at h
  ·obtain ⟨⟨co',k'⟩,h1,h2⟩:=List.mem_flatMap.1 h
   have hk':=zhz.1 h1;have hm':=zeB h2;rw[hyn]at hm';have:=zdN hnd hk hk' (n:=n) (by rw[hm];simp) (by rw[hm'];simp)
   subst this;rw[hk]at hk';obtain rfl:=Option.some.inj hk';rw[hx]at h2;simp only[List.mem_singleton]at h2;rw[h2]
 ·refine List.mem_append_right _ (List.mem_flatMap.2 ⟨(co,k),zhz.2 hk,by rw[hx];simp⟩)
theorem zd6(hok:E.ok=true)(hf:fz=true){n:Nat}(hb:n∈E.bor){x:Option Obj}(hx:frozen F E.bop n=[(n,x)])(hlt:n<o.length):(after (zc0 F E fz objs) o).getD n none=x:=by
 have hnm:=Exp.ok_mem hok hb;refine zhy _ _ (fun y hy hyn=> ?_) ⟨(n,x), ?_,rfl⟩ hlt
 ·rcases List.mem_append.1 hy with h|h
  ·rw[if_pos hf]at h
   obtain ⟨m,h1,h2⟩:=List.mem_flatMap.1 h;have:=zfu h2;rw[hyn]at this;subst this;rw[hx]at h2;simp only[List.mem_singleton]at h2;rw[h2]
  ·obtain ⟨⟨co',k'⟩,h1,h2⟩:=List.mem_flatMap.1 h
   have hm':=zeB h2;rw[hyn]at hm';exact absurd (List.mem_flatMap.2 ⟨co',List.mem_of_getElem? (zhz.1 h1),by rw[hm'];simp⟩) hnm
 ·refine List.mem_append_left _ ?_
  rw[if_pos hf];exact List.mem_flatMap.2 ⟨n,hb,by rw[hx];simp⟩
theorem zdo{n:Nat}(hm:n∉E.cos.flatMap fun c=>c.src.mutName)(hb:fz=true→n∈E.bor→frozen F E.bop n=[]):(after (zc0 F E fz objs) o).getD n none=o.getD n none:=by
 refine zei _ _ _ (fun y hy hyn=> ?_)
 rcases List.mem_append.1 hy with h|h
 ·split at h
  ·rename_i hf
   obtain ⟨m,h1,h2⟩:=List.mem_flatMap.1 h;have:=zfu h2;rw[hyn]at this;subst this;rw[hb hf h1]at h2;simp at h2
  ·simp at h
 ·obtain ⟨⟨co',k'⟩,h1,h2⟩:=List.mem_flatMap.1 h
  have hm':=zeB h2;rw[hyn]at hm';exact hm (List.mem_flatMap.2 ⟨co',List.mem_of_getElem? (zhz.1 h1),by rw[hm'];simp⟩)
end
end Go.PV
namespace Go.PV
open Go.RowKit
def zd7:List CO→Nat→Nat→Option Nat
 | [],_,_=>none
 |co::cs,i,n=>match co.src with
  | .box m=>if m=n then some i else zd7 cs (i+1) n
  |_=>zd7 cs (i+1) n
theorem zhA{cos:List CO}:∀{i n k:Nat},zd7 cos i n=some k→∃j ob,k=i+j∧cos[j]? =some ⟨ob, .box n⟩:=by
 induction cos with
 |nil=>intro i n k h;simp[zd7]at h
 |cons co cs ih=>
  intro i n k h;simp only[zd7]at h;split at h
  ·rename_i m hm
   split at h
   ·rename_i hmn
    simp only[Option.some.injEq]at h;obtain ⟨ob,src⟩:=co;simp only at hm;subst hm hmn h;exact ⟨0,ob,rfl,rfl⟩
   ·obtain ⟨j,ob,h1,h2⟩:=ih h
    exact ⟨j+1,ob,by omega,by simpa using h2⟩
  ·obtain ⟨j,ob,h1,h2⟩:=ih h
   exact ⟨j+1,ob,by omega,by simpa using h2⟩
theorem zoG{cos:List CO}:∀{i n j:Nat} {ob:Obj},cos[j]? =some ⟨ob, .box n⟩→∃k,zd7 cos i n=some k:=by
 induction cos with
 |nil=>intro i n j ob h;simp at h
 |cons co cs ih=>
  intro i n j ob h;cases j with
  |zero=>
   simp only[List.getElem?_cons_zero,Option.some.injEq]at h;subst h;exact ⟨i,by simp[zd7]⟩
  |succ j=>
   simp only[List.getElem?_cons_succ]at h;obtain ⟨k,hk⟩:=ih (i:=i+1) h;simp only[zd7];split
   ·split
    ·exact ⟨i,rfl⟩
    ·exact ⟨k,hk⟩
   ·exact ⟨k,hk⟩
theorem zhB{cos:List CO}(hn:nodup (cos.flatMap fun c=>c.src.mutName)=true){n k:Nat}{ob:Obj}(h:cos[k]? =some ⟨ob, .box n⟩):zd7 cos 0 n=some k:=by
 obtain ⟨k',hk'⟩:=zoG (i:=0) h;obtain ⟨j,ob',h1,h2⟩:=zhA hk';have:=zdN hn h h2 (n:=n) (by simp[Src.mutName]) (by simp[Src.mutName])
 rw[hk'];congr 1
 omega
theorem zhC{cos:List CO}{n:Nat}(h:∀(k:Nat) ob,cos[k]?≠some ⟨ob, .box n⟩)(i:Nat):zd7 cos i n=none:=by
 cases hb:zd7 cos i n with
 |none=>rfl
 |some k=>
  obtain ⟨j,ob,_,h2⟩:=zhA hb;exact absurd h2 (h j ob)
theorem zgq{cos:List CO}{n:Nat}(h:n∉cos.flatMap fun c=>c.src.mutName)(i:Nat):zd7 cos i n=none:=
 zhC (fun k ob hk=>h (List.mem_flatMap.2 ⟨_,List.mem_of_getElem? hk,by simp[Src.mutName]⟩)) i
theorem zbS{cos:List CO}(hn:nodup (cos.flatMap fun c=>c.src.mutName)=true){n k:Nat}{co:CO}(hk:cos[k]? =some co)(hm:co.src.mutName=[n])(hs:co.src≠ .box n)(i:Nat):zd7 cos i n=none:=
 zhC (fun k' ob hk'=>by
  have:=zdN hn hk hk' (n:=n) (by rw[hm];simp) (by simp[Src.mutName])
  subst this;rw[hk]at hk';exact hs (by rw[Option.some.inj hk'])) i
def plOut(E:Exp)(N:Option Nat)(us:Nat→Value)(pl pl':zaP):zaP:=fun n=>
 if N=some n then ⟨(match us FI with| .pointer a=>a|_=>none),us⟩else match zd7 E.cos 0 n with|some k=>pl' k|none=>pl n
end Go.PV
namespace Go.PV
open Go.RowKit
theorem zoH{rs:List R1}{cos:List CO}{k:Nat}{co:CO}(hk:cos[k]? =some co)(hm:co.src.mutName≠[])(hrow:co.src.isRow=true→∀wn∈co.ob.fl,wn= .deep):(∀wn∈co.ob.fl,wn= .deep)∨froz rs cos=true:=by
 cases hf:froz rs cos with
 |true=>exact .inr rfl
 |false=>
  left;cases hro:co.src.isRow with
  |true=>exact hrow hro
  |false=>
  intro wn hw;have h3:=(List.any_eq_false.1 (Bool.or_eq_false_iff.1 hf).2) co (List.mem_of_getElem? hk);refine Classical.byContradiction fun hd=>h3 ?_
  rw[hro,Bool.not_false,Bool.true_and,Bool.and_eq_true];refine ⟨?_,List.any_eq_true.2 ⟨wn,hw,by simpa using hd⟩⟩
  cases hmm:co.src.mutName with
  |nil=>exact absurd hmm hm
  |cons a l=>rfl
section aft
variable {W0:World}{G0:Orig}{S:St}{w w':World}{tm:Array Value}{G G':Ghost}{pl plc pl':zaP}{E:Exp}{rs:RS}{v:Value}{rv:Res}{N:Option Nat}
theorem zeM{k:Nat}{co:CO}{objs:List Obj}(hk:E.cos[k]? =some co)(hb:co.src.back=true)(hc:za3 E.cos objs=true){ob1:Obj}(h1:objs[k]? =some ob1):zcY co.ob ob1=true:=by
 simp only[za3,List.all_eq_true]at hc;have:=hc (co,k) (zhz.2 hk);rw[hb]at this;simp only[Bool.not_true,Bool.false_or]at this;rw[show objs.getD k ⟨.ro,[],[]⟩=ob1 from by simp[List.getD,h1]]at this
 exact this
theorem Aft.objsOk(A:Aft W0 G0 S w tm G pl E plc rs w' v rv G' pl' (froz rs.cells E.cos) N){vs:List AV}(hn:NamesOk (S.foot vs) E)(hc:za3 E.cos rv.objs=true)(us:Nat→Value){n:Nat}{ob:Obj}
 (h:(after (zc0 (S.foot vs) E (froz rs.cells E.cos) rv.objs) S.o).getD n none=some ob) (hk:ob.kind≠ .ro) (hN:N≠some n):
 ObjRel w' (gOut E (froz rs.cells E.cos) N G G') n (plOut E N us pl pl' n) ob:=by
 have hF:∀n ob,fget (S.foot vs) n=some ob→S.obj n=some ob:=fun n ob=>zcs S vs n ob
 by_cases hm:n∈E.cos.flatMap fun c=>c.src.mutName
 ·obtain ⟨k,co,ob0,hco,hmn,hob0,hkro⟩:=A.mut hm
  obtain ⟨obf,hfo⟩:=hn.cos co (List.mem_of_getElem? hco) n (by rw[hmn];simp)
  have:obf=ob0:=by have:=hF n obf hfo;rw[hob0]at this;exact (Option.some.inj this).symm
  subst this;have hlt:=zdc hob0;have hkl:k<rv.objs.length:=by rw[A.left.olen];exact A.klt hco
  obtain ⟨ob1,h1⟩:∃ob1,rv.objs[k]? =some ob1:=⟨rv.objs[k],by simp[hkl]⟩
  have hgd:rv.objs.getD k ⟨.ro,[],[]⟩=ob1:=by simp[List.getD,h1]
  have hfz:=zoH (rs:=rs.cells) hco (by rw[hmn];simp) (fun hr=>by
   have hc:=A.co k co hco;obtain ⟨cob,src⟩:=co;cases src with
   |row m p=>
    obtain ⟨_,_,_,_,_,_,_,_,_,he⟩:=hc;have he:cob=⟨.box,_,_⟩:=he;rw[he];intro wn hw;obtain ⟨_,_,h5⟩:=List.mem_map.1 hw;exact h5.symm
   |box m=>exact absurd hr (by simp[Src.isRow])
   |sl m p c=>exact absurd hr (by simp[Src.isRow])
   |mv m p c=>exact absurd hr (by simp[Src.isRow])
   |grp m cs tk=>exact absurd hr (by simp[Src.isRow])
   |ro m p=>exact absurd hr (by simp[Src.isRow])
   |free=>exact absurd hr (by simp[Src.isRow]))
  obtain ⟨cob,src⟩:=co;cases src with
  |box m=>
   simp only[Src.mutName,List.cons.injEq,and_true]at hmn;subst hmn;have hfit:=zeM hco rfl hc h1;obtain ⟨g1,g2,g3,g4,_⟩:=zci hfit
   have hx:zbD (S.foot vs) rv.objs k ⟨cob, .box m⟩=[(m,some ob1)]:=by
    simp only[zbD,hgd];rw[show zcB cob ob1=ob1 from g1]
   rw[zbI A.ok hco hx hlt]at h;obtain rfl:=Option.some.inj h;have hbox:=(A.co k _ hco).2.1;have hbox:cob.kind= .box∨cob.kind.isBld=true:=hbox;have:=A.objBox hco h1 (by rw[g2];exact hbox) (by rw[g4];exact hfz) hN
   simp only[plOut,if_neg hN,zhB A.nodup hco];exact this
  |row m p=>
   simp only[Src.mutName,List.cons.injEq,and_true]at hmn;subst hmn;have hfit:=zeM hco rfl hc h1;have g1:=(zci hfit).1
   have hx:zbD (S.foot vs) rv.objs k ⟨cob, .row m p⟩=[(m,some {obf with row:=zaC obf.row p ob1.row})]:=by
    simp only[zbD,hfo,hgd];rw[show zcB cob ob1=ob1 from g1]
   rw[zbI A.ok hco hx hlt]at h;obtain rfl:=Option.some.inj h;simp only[plOut,if_neg hN,zbS A.nodup hco rfl (by simp)]
   exact A.objRow hco h1 hfit hN hob0
  |sl m p c=>
   simp only[Src.mutName,List.cons.injEq,and_true]at hmn;subst hmn;have hfit:=zeM hco rfl hc h1
   have hx:zbD (S.foot vs) rv.objs k ⟨cob, .sl m p c⟩=[(m,some {obf with row:=zaC obf.row p ((zaj obf.row p).set c (.s (ob1.row.getD 0 .h).es))})]:=by
    simp only[zbD,hfo,hgd]
   rw[zbI A.ok hco hx hlt]at h;obtain rfl:=Option.some.inj h;simp only[plOut,if_neg hN,zbS A.nodup hco rfl (by simp)]
   exact A.objSl hco h1 hfit hfz hN hob0
  |mv m p c=>
   simp only[Src.mutName,List.cons.injEq,and_true]at hmn;subst hmn
   have hx:zbD (S.foot vs) rv.objs k ⟨cob, .mv m p c⟩=[(m,some {obf with row:=zaC obf.row p ((zaj obf.row p).set c .h)})]:=by
    simp only[zbD,hfo]
   rw[zbI A.ok hco hx hlt]at h;obtain rfl:=Option.some.inj h;simp only[plOut,if_neg hN,zbS A.nodup hco rfl (by simp)]
   exact A.objMv hco hN hob0
  |grp m cs tk=>
   simp only[Src.mutName,List.cons.injEq,and_true]at hmn;subst hmn;cases tk with
   |true=>
    have hx:zbD (S.foot vs) rv.objs k ⟨cob, .grp m cs true⟩=[(m,some {obf with row:=hSet cs obf.row})]:=by
     simp only[zbD,hfo]
    rw[zbI A.ok hco hx hlt]at h;obtain rfl:=Option.some.inj h;simp only[plOut,if_neg hN,zbS A.nodup hco rfl (by simp)]
    exact A.objGrpM hco hN hob0
   |false=>
   have hfit:=zeM hco rfl hc h1
   have hx:zbD (S.foot vs) rv.objs k ⟨cob, .grp m cs false⟩=[(m,some {obf with row:=zdj cs ob1.row obf.row})]:=by
    simp only[zbD,hfo,hgd]
   rw[zbI A.ok hco hx hlt]at h;obtain rfl:=Option.some.inj h;simp only[plOut,if_neg hN,zbS A.nodup hco rfl (by simp)]
   exact A.objGrp hco h1 hfit hfz hN hob0
  |ro m p=>simp[Src.mutName]at hmn
  |free=>simp[Src.mutName]at hmn
 ·have hpl:plOut E N us pl pl' n=pl n:=by simp only[plOut,if_neg hN,zgq hm]
  rw[hpl];by_cases hfb:froz rs.cells E.cos=true∧n∈E.bor
  ·obtain ⟨hf,hb⟩:=hfb
   obtain ⟨ob0,hfo,_⟩:=hn.bor n hb;have hob0:=hF n ob0 hfo;have hlt:=zdc hob0;by_cases hro:ob0.kind= .ro
   ·have hx:frozen (S.foot vs) E.bop n=[]:=by simp[frozen,hfo,hro]
    rw[zdo hm (fun _ _=>hx)]at h
    have h:S.obj n=some ob:=h;rw[hob0]at h;obtain rfl:=Option.some.inj h;exact absurd hro hk
   ·by_cases hbb:ob0.kind= .box∧n∈E.bop
    ·have hx:frozen (S.foot vs) E.bop n=[(n,none)]:=by
      simp[frozen,hfo,hbb]
     rw[zd6 A.ok hf hb hx hlt]at h;simp at h
    ·have hx:frozen (S.foot vs) E.bop n=[(n,some {ob0 with fl:=ob0.fl.map fun _=> .sh})]:=by
      have hbb2:¬(ob0.kind= .box∧E.bop.contains n=true):=fun h=>hbb ⟨h.1,by simpa using h.2⟩
      simp only[frozen,hfo];rw[if_neg hro,if_neg hbb2]
     rw[zd6 A.ok hf hb hx hlt]at h;obtain rfl:=Option.some.inj h;exact A.objFroz hob0 hro hb hf (fun h1 h2=>hbb ⟨h1,h2⟩) hN
  ·rw[zdo hm (fun h1 h2=>absurd ⟨h1,h2⟩ hfb)]at h
   have h:S.obj n=some ob:=h;refine A.objKeep h hk hm (fun hb=> ?_) hN
   cases hf:froz rs.cells E.cos with
   |false=>rfl
   |true=>exact absurd ⟨hf,hb⟩ hfb
end aft
end Go.PV
namespace Go.PV
open Go.RowKit
section aft
variable {W0:World}{G0:Orig}{S:St}{w w':World}{tm:Array Value}{G G':Ghost}{pl plc pl':zaP}{E:Exp}{rs:RS}{v:Value}{rv:Res}{N:Option Nat}
theorem zgr{rs:List R1}{cos:List CO}{i:Nat}{r:R1}(hr:rs[i]? =some r)(hs:r.isSh=true):froz rs cos=true:=by
 simp only[froz,Bool.or_eq_true,List.any_eq_true];exact .inl ⟨r,List.mem_of_getElem? hr,hs⟩
theorem zkN{k:IntKind}{tc:TC}(h:R1.fits (.int k) tc=true):tc= .v (.int k tc.int):=by
 cases tc with
 |v x=>cases x<;>simp_all [R1.fits,TC.int]
 |s es=>simp[R1.fits]at h
 |o wn es=>simp[R1.fits]at h
 |p ok j p c=>simp[R1.fits]at h
 |d=>simp[R1.fits]at h
theorem ziS{tc:TC}(h:R1.fits .bool tc=true):tc= .v (.bool tc.bool):=by
 cases tc with
 |v x=>cases x<;>simp_all [R1.fits,TC.bool]
 |s es=>simp[R1.fits]at h
 |o wn es=>simp[R1.fits]at h
 |p ok j p c=>simp[R1.fits]at h
 |d=>simp[R1.fits]at h
theorem zkO{tc:TC}(h:R1.fits .str tc=true):tc= .v (.string tc.str):=by
 cases tc with
 |v x=>cases x<;>simp_all [R1.fits,TC.str]
 |s es=>simp[R1.fits]at h
 |o wn es=>simp[R1.fits]at h
 |p ok j p c=>simp[R1.fits]at h
 |d=>simp[R1.fits]at h
theorem Aft.cellPlain(A:Aft W0 G0 S w tm G pl E plc rs w' v rv G' pl' (froz rs.cells E.cos) N){us:Nat→Value}{d:Nat}(hN:N=some d){obs2:Obs}{row:List D}{fl:List Own}
 (hd:obs2 d=some ⟨.virt,row,fl⟩) {i:Nat} {r:R1} {tc:TC} (hrow:∀wn,r= .own wn→i<row.length∧row.getD i .h= .s tc.es) (hfit:r.fits tc=true) (hr:rs.cells[i]? =some r) (hp:∀j,r≠ .ptr j)
 (ht:TCOk ⟨gIn E G,obOf (E.cos.map (·.ob)),plc,S.gl⟩ w' G' (obOf rv.objs) pl' (E.cos.map (·.ob)).length i (us i) tc):
 V1 w' (gOut E (froz rs.cells E.cos) N G G') obs2 (plOut E N us pl pl') (us i) (zgf (froz rs.cells E.cos) E.cos d r tc i):=by
 cases r with
 |int k=>
  rw[zkN hfit]at ht;exact ht
 |bool=>
  rw[ziS hfit]at ht;exact ht
 |str=>
  rw[zkO hfit]at ht;exact ht
 |sh=>
  cases tc with
  |s es=>
   have ht:Rel w' (QSh G') (us i) (.s es):=ht;exact ht.mono fun _ b h=>A.gone (zgr hr rfl) h
  |v x=>simp[R1.fits]at hfit
  |o wn es=>simp[R1.fits]at hfit
  |p ok j p c=>simp[R1.fits]at hfit
  |d=>simp[R1.fits]at hfit
 |own wn=>
  obtain ⟨h1,h2⟩:=hrow wn rfl;exact ⟨_,{at0:=hd,kind:=by simp,path:=trivial,lt:=h1,sl:=⟨_,h2⟩,head:=by simp[zb2,plOut,hN]}⟩
 |ptr j=>exact absurd rfl (hp j)
 |any=>exact trivial
end aft
end Go.PV
namespace Go.PV
open Go.RowKit
section aft
variable {W0:World}{G0:Orig}{S:St}{w w':World}{tm:Array Value}{G G':Ghost}{pl plc pl':zaP}{E:Exp}{rs:RS}{v:Value}{rv:Res}{N:Option Nat}
theorem Aft.ptrBox(A:Aft W0 G0 S w tm G pl E plc rs w' v rv G' pl' (froz rs.cells E.cos) N){vs:List AV}(hc:za3 E.cos rv.objs=true){us:Nat→Value}{obs2:Obs}{n:Nat}(hN:N≠some n)
 (hobs:obs2 n=(after (zc0 (S.foot vs) E (froz rs.cells E.cos) rv.objs) S.o).getD n none) {j:Nat} {cob:Obj} (hj:E.cos[j]? =some ⟨cob, .box n⟩) {p:Path} {ad:Addr} {ob:Obj}
 (hr:RefP w' G' (obOf rv.objs) pl' j p ad ob):RefP w' (gOut E (froz rs.cells E.cos) N G G') obs2 (plOut E N us pl pl') n p ad ob:=by
 have h1:rv.objs[j]? =some ob:=hr.at0;have hfit:=zeM hj rfl hc h1;obtain ⟨g1,g2,g3,g4,_⟩:=zci hfit;have hco:=A.co j _ hj;have hbox:cob.kind= .box∨cob.kind.isBld=true:=hco.2.1;have hob0:S.obj n=some cob:=hco.1;have hgd:rv.objs.getD j ⟨.ro,[],[]⟩=ob:=by simp[List.getD,h1]
 have hx:zbD (S.foot vs) rv.objs j ⟨cob, .box n⟩=[(n,some ob)]:=by
  simp only[zbD,hgd];rw[show zcB cob ob=ob from g1]
 have hkb:ob.kind= .box∨ob.kind.isBld=true:=by rw[g2];exact hbox
 have hpl:plOut E N us pl pl' n=pl' j:=by simp only[plOut,if_neg hN,zhB A.nodup hj]
 exact {at0:=by rw[hobs];exact zbI A.ok hj hx (zdc hob0),path:=hr.path,at_:=by rw[hpl];exact hr.at_,spot:=hr.spot
        ro:=fun h=>by rw[h]at hkb;exact absurd hkb (by simp[Kind.isBld]),virt:=fun _ h=>by rw[h]at hkb;exact absurd hkb (by simp[Kind.isBld])}
theorem Aft.ptrRow(A:Aft W0 G0 S w tm G pl E plc rs w' v rv G' pl' (froz rs.cells E.cos) N){vs:List AV}(hn:NamesOk (S.foot vs) E)(hc:za3 E.cos rv.objs=true){us:Nat→Value}{obs2:Obs}{n:Nat}(hN:N≠some n)
 (hobs:obs2 n=(after (zc0 (S.foot vs) E (froz rs.cells E.cos) rv.objs) S.o).getD n none) {j:Nat} {cob:Obj} {p0:Path} (hj:E.cos[j]? =some ⟨cob, .row n p0⟩) {p:Path} {ad:Addr} {ob:Obj}
 (hr:RefP w' G' (obOf rv.objs) pl' j p ad ob):∃ob2,RefP w' (gOut E (froz rs.cells E.cos) N G G') obs2 (plOut E N us pl pl') n (p0++p) ad ob2:=by
 have h1:rv.objs[j]? =some ob:=hr.at0;have hfit:=zeM hj rfl hc h1;obtain ⟨g1,g2,g3,g4,_⟩:=zci hfit;obtain ⟨obf,ad0,hob0,hkro,hp0,hpath,hdeep,hbase,Ds,hco⟩:=A.co j _ hj;have hco:cob=⟨.box,zaj obf.row p0,(zaj obf.row p0).map fun _=> .deep⟩:=hco
 have hF:∀n ob,fget (S.foot vs) n=some ob→S.obj n=some ob:=fun n ob=>zcs S vs n ob
 obtain ⟨obg,hfo⟩:=hn.cos _ (List.mem_of_getElem? hj) n (by simp[Src.mutName])
 have:obg=obf:=by have:=hF n obg hfo;rw[hob0]at this;exact (Option.some.inj this).symm
 subst this;have hgd:rv.objs.getD j ⟨.ro,[],[]⟩=ob:=by simp[List.getD,h1]
 have hx:zbD (S.foot vs) rv.objs j ⟨cob, .row n p0⟩=[(n,some {obg with row:=zaC obg.row p0 ob.row})]:=by
  simp only[zbD,hfo,hgd];rw[show zcB cob ob=ob from g1]
 have hkb:ob.kind= .box:=by rw[g2,hco]
 have hlen:ob.row.length=(zaj obg.row p0).length:=by rw[g3,hco]
 have hpl:plOut E N us pl pl' n=pl n:=by simp only[plOut,if_neg hN,zbS A.nodup hj rfl (by simp)]
 have hrel:=A.inv.objs n obg hob0 hkro
 obtain ⟨k1,k2,k3⟩:=zl4 (w':=w') p0 Ds hrel.rel hpath hp0 ob.row hlen (fun π b hl hq h2 h3=>by
  rcases hq.own with h|h
  ·exact (A.restCo hj rfl hN h (by simp[Src.inn,h2,h3])).1
  ·exact (A.base b hl h).1)
 have ho:=A.left.okObjs j ob h1 (by rw[hkb];simp)
 obtain ⟨b,off,cs,ty,e1,e2,e3,e4,e5⟩:=ho.box hkb;obtain ⟨_,_,_,_,hb2,_⟩:=A.left.start j ob (A.klt hj) h1 (by rw[hkb];simp)
 have hb2:(pl' j).base=(plc j).base:=hb2;have e1':=e1;rw[hb2,hbase]at e1';obtain rfl:=Option.some.inj e1';refine ⟨{obg with row:=zaC obg.row p0 ob.row},{at0:=by rw[hobs];exact zbI A.ok hj hx (zdc hob0),path:=zfT p0 _ p k3 (by rw[k2];exact hr.path),at_:= ?_,spot:=hr.spot,ro:=fun h=>absurd h hkro,virt:=fun h=>absurd (List.append_eq_nil_iff.1 h).1 hp0}⟩
 rw[hpl];show zaD w' (hdf (pl n)) (zaC obg.row p0 ob.row) (p0++p) (pl n).base=some ad;rw[zfm p0 _ _ _ _ hp0];have k1':zaD w' (hdf (pl n)) (zaC obg.row p0 ob.row) p0 (pl n).base=some ⟨b,off,none⟩:=k1;rw[k1',Option.bind_some,k2];have h2:=hr.at_;rw[e1]at h2;rw[←h2];refine zcb w' p _ _ _ _ hr.path (fun c hc=> ?_)
 show w'.cell? ⟨b,off+c,none⟩=some ((pl' j).hd c);simp only[World.cell?,e3];simpa using e5 c hc
theorem Aft.ptrRo(A:Aft W0 G0 S w tm G pl E plc rs w' v rv G' pl' (froz rs.cells E.cos) N){vs:List AV}(hn:NamesOk (S.foot vs) E)(hf:froz rs.cells E.cos=false){us:Nat→Value}{obs2:Obs}{n:Nat}(hN:N≠some n)
 (hobs:obs2 n=(after (zc0 (S.foot vs) E (froz rs.cells E.cos) rv.objs) S.o).getD n none) {j:Nat} {cob:Obj} {p0:Path} (hj:E.cos[j]? =some ⟨cob, .ro n p0⟩) {p:Path} {ad:Addr} {ob:Obj}
 (hr:RefP w' G' (obOf rv.objs) pl' j p ad ob) (hro:ob.kind= .ro→obOf (E.cos.map (·.ob)) j=some ob∧pl' j=plc j):∃ob2,RefP w' (gOut E (froz rs.cells E.cos) N G G') obs2 (plOut E N us pl pl') n (p0++p) ad ob2:=by
 obtain ⟨hck,hco⟩:=A.co j _ hj;have hck:cob.kind= .ro:=hck;have hb:n∈E.bor:=hn.ro _ (List.mem_of_getElem? hj) n p0 rfl;have hm:=Exp.ok_mem A.ok hb;have hcj:obOf (E.cos.map (·.ob)) j=some cob:=by simp[obOf,hj]
 have h1:rv.objs[j]? =some ob:=hr.at0
 have hkr:ob.kind= .ro:=by
  refine Classical.byContradiction fun h=> ?_
  obtain ⟨ob0,k1,k2,_⟩:=A.left.start j ob (A.klt hj) h1 h;have k1:obOf (E.cos.map (·.ob)) j=some ob0:=k1
  rw[hcj]at k1;obtain rfl:=Option.some.inj k1;exact h (k2▸hck)
 obtain ⟨k1,k2⟩:=hro hkr;rw[hcj]at k1;obtain rfl:=Option.some.inj k1;obtain ⟨_,ad1,hb1,_⟩:=hr.ro hkr;rw[k2]at hb1;rcases hco with h|⟨ad0,ob0,hp,hbase,hcell,hrow⟩
 ·rw[h]at hb1;simp at hb1
 have hrow:cob.row=zaj ob0.row p0:=hrow;have hpl:plOut E N us pl pl' n=pl n:=by simp only[plOut,if_neg hN,zgq hm]
 have hob2:obs2 n=some ob0:=by
  rw[hobs,zdo hm (fun h _=>by rw[hf]at h;exact absurd h (by simp))]
  exact hp.at0
 have hat:=hr.at_;rw[k2,hbase,hrow]at hat;have hpath2:zbR (zaj ob0.row p0) p:=by rw[←hrow];exact hr.path
 have hkeepn:∀b π,G b=some (n,π)→w'.heap[b]? =w.heap[b]? :=fun b π h=>A.same hm h
 have hnb0:ob0.kind.isBld=false:=by
  obtain ⟨ob',q1,q2⟩:=A.bor n hb;rw[hp.at0]at q1;obtain rfl:=Option.some.inj q1;exact q2
 -- the cells of the row, and the way to it, stay
 have key:zaD w' (hdf (pl n)) ob0.row p0 (pl n).base=some ad0∧(p0=[]→∀c,c<ob0.row.length→(pl n).hd c=(plc j).hd c)∧
  ∀c,c<(zaj ob0.row p0).length→w'.cell? ⟨ad0.block,ad0.off+c,none⟩=some ((plc j).hd c):=by
  by_cases hk:ob0.kind= .ro
  ·obtain ⟨_,ad2,hb2,hroo⟩:=hp.ro hk
   have hroo':=hroo.frame A.base (G':=gOut E (froz rs.cells E.cos) N G G');refine ⟨?_,fun h0 c hc=> ?_,fun c hc=> ?_⟩
   ·rw[←hp.at_]
    exact zcp p0 _ hroo.rel hp.path (fun _ b hl h=>(A.base b hl h).1)
   ·subst h0
    have h2:=hp.at_;simp only[zaD]at h2;rw[hb2]at h2;obtain rfl:=Option.some.inj h2;have h3:=hroo.cell c hc;rw[hcell c hc]at h3;exact (Option.some.inj h3).symm
   ·rw[←hcell c hc]
    by_cases h0:p0=[]
    ·subst h0
     have h2:=hp.at_;simp only[zaD]at h2;rw[hb2]at h2;obtain rfl:=Option.some.inj h2;exact cell_of_heap (A.base _ hroo.lt hroo.blk).1 _
    ·obtain ⟨ad3,hd3,D3⟩:=zdb p0 (pl n).base hroo.rel hp.path h0
     have:ad3=ad0:=by have h1:=D3.at_;have h2:=hp.at_;unfold hdf at h2;rw[h2]at h1;exact (Option.some.inj h1).symm
     subst this;exact cell_of_heap (A.base _ D3.lt D3.blk).1 _
  ·have hrel:=A.inv.objs n ob0 hp.at0 hk
   have hq:∀π b,b<w.heap.size→QObj G n ob0.fl π b→w'.heap[b]? =w.heap[b]? :=fun π b hl h=>by
    rcases h.own with h|h
    ·exact hkeepn b π h
    ·exact (A.base b hl h).1
   refine ⟨?_,fun h0 c hc=> ?_,fun c hc=> ?_⟩
   ·rw[←hp.at_]
    exact zcp p0 _ hrel.rel hp.path hq
   ·subst h0
    have hbox:ob0.kind= .box:=by
     cases h:ob0.kind with
     |box=>rfl
     |virt=>exact absurd h (hp.virt rfl)
     |ro=>exact absurd h hk
     |bld t e=>rw[h]at hnb0;exact absurd hnb0 (by simp[Kind.isBld])
    obtain ⟨b,off,cs,ty,e1,e2,e3,e4,e5⟩:=hrel.box hbox;have h2:=hp.at_;simp only[zaD]at h2;rw[e1]at h2;obtain rfl:=Option.some.inj h2;have h3:=hcell c hc;simp only[World.cell?,e3]at h3;have h4:=e5 c hc;simp only[Option.isSome_none,Bool.false_eq_true,if_false]at h3;have h5:cs[off+c]? =some ((plc j).hd c):=by simpa using h3
    rw[h4]at h5;exact Option.some.inj h5
   ·rw[←hcell c hc]
    by_cases h0:p0=[]
    ·subst h0
     have hbox:ob0.kind= .box:=by
      cases h:ob0.kind with
      |box=>rfl
      |virt=>exact absurd h (hp.virt rfl)
      |ro=>exact absurd h hk
      |bld t e=>rw[h]at hnb0;exact absurd hnb0 (by simp[Kind.isBld])
     obtain ⟨b,off,cs,ty,e1,e2,e3,e4,e5⟩:=hrel.box hbox;have h2:=hp.at_;simp only[zaD]at h2;rw[e1]at h2;obtain rfl:=Option.some.inj h2;exact cell_of_heap (hkeepn b [] e2) _
    ·obtain ⟨ad3,hd3,D3⟩:=zdb p0 (pl n).base hrel.rel hp.path h0
     have:ad3=ad0:=by have h1:=D3.at_;have h2:=hp.at_;unfold hdf at h2;rw[h2]at h1;exact (Option.some.inj h1).symm
     subst this;exact cell_of_heap (hq _ _ D3.lt D3.blk) _
 obtain ⟨key1,key2,key3⟩:=key;refine ⟨ob0,{at0:=hob2,path:=zfT p0 _ p hp.path hpath2,at_:= ?_,spot:=hr.spot,ro:=fun h=> ?_,virt:=fun h=> ?_}⟩
 ·rw[hpl]
  by_cases h0:p0=[]
  ·subst h0
   simp only[zaD]at key1;rw[List.nil_append,key1,←hat]
   exact zcb w' p _ _ _ _ hpath2 (fun c hc=>by
    show some ((pl n).hd c)=some ((plc j).hd c);rw[key2 rfl c hc])
  ·rw[zfm p0 _ _ _ _ h0,key1,Option.bind_some]
   have hs:(⟨ad0.block,ad0.off,none⟩:Addr)=ad0:=by
    have:=hp.spot;obtain ⟨b,o,s⟩:=ad0;simp only at this;rw[this]
   rw[hs,←hat];exact zcb w' p _ _ _ _ hpath2 (fun c hc=>key3 c hc)
 ·obtain ⟨h2,ad2,h3,h4⟩:=hp.ro h
  rw[hpl];exact ⟨h2,ad2,h3,h4.frame A.base⟩
 ·exact hp.virt (List.append_eq_nil_iff.1 h).1
end aft
end Go.PV
namespace Go.PV
open Go.RowKit
theorem zoI{j:Nat}{tc:TC}(h:R1.fits (.ptr j) tc=true):tc= .p tc.ok j tc.path tc.cell:=by
 cases tc with
 |p ok j' p c=>
  have:j=j':=by
   simp only[R1.fits,Bool.and_eq_true,beq_iff_eq]at h;exact h.1.1
  subst this;rfl
 |v x=>cases x<;>simp[R1.fits]at h
 |s es=>simp[R1.fits]at h
 |o wn es=>simp[R1.fits]at h
 |d=>simp[R1.fits]at h
section aft
variable {W0:World}{G0:Orig}{S:St}{w w':World}{tm:Array Value}{G G':Ghost}{pl plc pl':zaP}{E:Exp}{rs:RS}{v:Value}{rv:Res}{N:Option Nat}
theorem Aft.cell(A:Aft W0 G0 S w tm G pl E plc rs w' v rv G' pl' (froz rs.cells E.cos) N){vs:List AV}(hn:NamesOk (S.foot vs) E)(hc:za3 E.cos rv.objs=true){us:Nat→Value}{d:Nat}(hN:N=some d){obs2:Obs}
 {row:List D} {fl:List Own} (hd:obs2 d=some ⟨.virt,row,fl⟩) (hobs:∀n,n≠d→obs2 n=(after (zc0 (S.foot vs) E (froz rs.cells E.cos) rv.objs) S.o).getD n none) {i:Nat} {r:R1} {tc:TC}
 (hrow:∀wn,r= .own wn→i<row.length∧row.getD i .h= .s tc.es) (hfit:r.fits tc=true) (hr:rs.cells[i]? =some r)
 (ht:TCOk ⟨gIn E G,obOf (E.cos.map (·.ob)),plc,S.gl⟩ w' G' (obOf rv.objs) pl' (E.cos.map (·.ob)).length i (us i) tc):
 V1 w' (gOut E (froz rs.cells E.cos) N G G') obs2 (plOut E N us pl pl') (us i) (zgf (froz rs.cells E.cos) E.cos d r tc i):=by
 cases r with
 |ptr j=>
  rw[zoI hfit]at ht;simp only[zgf];rcases Nat.lt_or_ge j E.cos.length with hjl|hjl
  case inr=>
   have:E.cos.getD j ⟨⟨.ro,[],[]⟩, .free⟩=⟨⟨.ro,[],[]⟩, .free⟩:=by simp[List.getD,List.getElem?_eq_none hjl]
   rw[this];exact trivial
  obtain ⟨co,hj⟩:∃co,E.cos[j]? =some co:=⟨E.cos[j],by simp[hjl]⟩
  have hg:E.cos.getD j ⟨⟨.ro,[],[]⟩, .free⟩=co:=by simp[List.getD,hj]
  rw[hg];obtain ⟨cob,src⟩:=co;cases src with
  |box n=>
   simp only;by_cases hnd:n=d
   ·rw[if_pos hnd];exact trivial
   rw[if_neg hnd];have hNn:N≠some n:=by rw[hN];simp only[ne_eq,Option.some.injEq];exact fun h=>hnd h.symm
   cases hok:tc.ok with
   |false=>rw[hok]at ht;exact ht
   |true=>
    rw[hok]at ht;obtain ⟨ad,ob,h1,h2,h3⟩:=ht;exact ⟨ad,ob,A.ptrBox hc hNn (hobs n hnd) hj h1,h3⟩
  |row n p0=>
   simp only;by_cases hnd:n=d
   ·rw[if_pos hnd];exact trivial
   rw[if_neg hnd];have hNn:N≠some n:=by rw[hN];simp only[ne_eq,Option.some.injEq];exact fun h=>hnd h.symm
   cases hok:tc.ok with
   |false=>rw[hok]at ht;exact ht
   |true=>
    rw[hok]at ht;obtain ⟨ad,ob,h1,h2,h3⟩:=ht;obtain ⟨ob2,h4⟩:=A.ptrRow (us:=us) hn hc hNn (hobs n hnd) hj h1;exact ⟨ad,ob2,h4,h3⟩
  |ro n p0=>
   simp only;by_cases hnd:n=d∨froz rs.cells E.cos=true
   ·rw[if_pos hnd];exact trivial
   rw[if_neg hnd];simp only[not_or,Bool.not_eq_true]at hnd;have hNn:N≠some n:=by rw[hN];simp only[ne_eq,Option.some.injEq];exact fun h=>hnd.1 h.symm
   cases hok:tc.ok with
   |false=>rw[hok]at ht;exact ht
   |true=>
    rw[hok]at ht;obtain ⟨ad,ob,h1,h2,h3⟩:=ht;obtain ⟨ob2,h4⟩:=A.ptrRo (us:=us) hn hnd.2 hNn (hobs n hnd.1) hj h1 h2;exact ⟨ad,ob2,h4,h3⟩
  |sl n p c=>exact trivial
  |mv n p c=>exact trivial
  |grp n cs tk=>exact trivial
  |free=>exact trivial
 |int k=>exact A.cellPlain hN hd hrow hfit hr (fun j h=>by simp at h) ht
 |bool=>exact A.cellPlain hN hd hrow hfit hr (fun j h=>by simp at h) ht
 |str=>exact A.cellPlain hN hd hrow hfit hr (fun j h=>by simp at h) ht
 |sh=>exact A.cellPlain hN hd hrow hfit hr (fun j h=>by simp at h) ht
 |own wn=>exact A.cellPlain hN hd hrow hfit hr (fun j h=>by simp at h) ht
 |any=>exact A.cellPlain hN hd hrow hfit hr (fun j h=>by simp at h) ht
end aft
end Go.PV
namespace Go.PV
open Go.RowKit
theorem zqC{w:World}{G:Ghost}{obs:Obs}{pl:zaP}:∀(cs:List (Bool×List R1)) (vs:List Value) (us:Nat→Value) (as:List A1),tupAt cs vs us→as.length=(cs.flatMap (·.2)).length→
 (∀i (h:i<as.length),V1 w G obs pl (us i) (as[i]))→vs.length=(split cs as).length∧∀i (h:i<(split cs as).length),
  if ((split cs as)[i]).1 then∃ar:Array Value,vs.getD i undef= .agg ar∧ar.size=((split cs as)[i]).2.length∧∀j (h:j<((split cs as)[i]).2.length),V1 w G obs pl (ar.getD j undef) (((split cs as)[i]).2[j])
  else∃a,((split cs as)[i]).2=[a]∧V1 w G obs pl (vs.getD i undef) a:=by
 intro cs
 induction cs with
 |nil=>
  intro vs us as h _ _;cases vs with
  |nil=>exact ⟨rfl,fun i h=>by simp[split]at h⟩
  |cons v vs=>simp[tupAt]at h
 |cons x cs ih=>
  obtain ⟨b,rs⟩:=x;intro vs us as h hl hv;cases vs with
  |nil=>simp[tupAt]at h
  |cons v vs=>
   simp only[tupAt]at h;obtain ⟨h1,h2⟩:=h;simp only[List.flatMap_cons,List.length_append]at hl
   obtain ⟨k1,k2⟩:=ih vs (fun j=>us (rs.length+j)) (as.drop rs.length) h2 (by simp[hl]) (fun i hi=>by
    have:rs.length+i<as.length:=by simp at hi;omega
    have:=hv (rs.length+i) this;simpa using this)
   refine ⟨by simp[split,k1],fun i hi=> ?_⟩
   cases i with
   |succ i=>
    have:=k2 i (by simpa[split]using hi)
    exact this
   |zero=>
    cases b with
    |true=>
     have h1:∃ar:Array Value,v= .agg ar∧ar.size=rs.length∧∀j,j<rs.length→ar.getD j undef=us j:=h1;rw[if_pos (show ((split ((true,rs)::cs) as)[0]'hi).1=true from rfl)]
     obtain ⟨ar,rfl,g1,g2⟩:=h1;refine ⟨ar,rfl, ?_,fun j hj=> ?_⟩
     ·show ar.size=(as.take rs.length).length
      simp[g1];omega
     ·have hj:j<(as.take rs.length).length:=hj
      have hj2:j<rs.length:=by simp at hj;omega
      rw[g2 j hj2];show V1 w G obs pl (us j) ((as.take rs.length)[j]'hj);have:=hv j (by omega)
      simpa using this
    |false=>
     have h1:rs.length=1∧v=us 0:=h1;rw[if_neg (show ¬((split ((false,rs)::cs) as)[0]'hi).1=true from by simp[split])]
     obtain ⟨g1,rfl⟩:=h1;have h0:0<as.length:=by omega
     refine ⟨as[0], ?_,hv 0 h0⟩;show as.take rs.length=[as[0]];rw[g1];cases as with
     |nil=>simp at h0
     |cons a as=>rfl
theorem zoJ{w:World}{G:Ghost}{obs:Obs}{pl:zaP}{rs:RS}{v:Value}{us:Nat→Value}{as:List A1}(h:ResAt rs v us)(hl:as.length=rs.cells.length)
 (hv:∀i (h:i<as.length),V1 w G obs pl (us i) (as[i])):VAV w G obs pl v (zmN rs as):=by
 cases rs with
 |none=>
  have h:v= .tuple #[]:=h;subst h;exact ⟨#[],rfl,rfl,fun i h=>absurd h (by simp)⟩
 |one r=>
  have h:v=us 0:=h;subst h;have h0:0<as.length:=by rw[hl];simp[RS.cells]
  show V1 _ _ _ _ _ (as.getD 0 .dead);rw[show as.getD 0 .dead=as[0] from by simp[List.getD,h0]]
  exact hv 0 h0
 |agg rs=>
  obtain ⟨ar,rfl,h1,h2⟩:=h;have hl:as.length=rs.length:=hl;exact ⟨ar,rfl,by rw[h1,hl],fun i hi=>by rw[h2 i (by omega)];exact hv i hi⟩
 |tup cs=>
  obtain ⟨ar,rfl,h1⟩:=h;obtain ⟨k1,k2⟩:=zqC cs ar.toList us as h1 hl hv;refine ⟨ar,rfl,by rw[←k1];simp,fun i hi=> ?_⟩
  have:=k2 i hi;have he:ar.toList.getD i undef=ar.getD i undef:=by simp[List.getD,Array.getD_eq_getD_getElem?]
  rw[he]at this;exact this
 |fresh fs=>exact h.elim
end Go.PV
namespace Go.PV
open Go.RowKit
theorem zkP{P:Program}{f:FuncId}{fn:Func}(h1:P.funcs[f]? =some fn)(h2:fn.body.isSome=true)(h3:(fn.name== "runtime.NumGoroutine")=false)(args:Array Value)(w:World):
 (callFunc f args).run P w= .ok (.enter f args) w:=by
 have hb:fn.body.isNone=false:=by cases h:fn.body<;>simp_all
 have hn:fn.name≠ "runtime.NumGoroutine" :=by simpa using h3
 have hb2:fn.body≠none:=by cases h:fn.body<;>simp_all
 simp[callFunc,go_sem,h1,hn,hb2]
theorem zqD{P:Program}{a:Act}{w:World}{dst:Option Tmp}{ty:TypeId}{pos:String}{af:Array Edge}{gd:Option (Nat×Bool)}{fx:Operand}{args:Array Operand}{ts:Array TypeId}{f:FuncId}{arr:Array Value}
 (hf:a.eval fx= .func (.func f) #[] arr) {fn:Func} (h1:P.funcs[f]? =some fn) (h2:fn.body.isSome=true) (h3:(fn.name== "runtime.NumGoroutine")=false):
 (execOp a.eval ⟨dst, .call ⟨.value fx,args,ts⟩,ty,pos,af,gd⟩).run P w= .ok (.enter f (args.map a.eval++arr)) w:=by
 have:=zkP h1 h2 h3 (args.map a.eval++arr) w
 have hr:(resolve a.eval ⟨.value fx,args,ts⟩ ty).run P w= .ok {target:= .fn (.func f) arr,args:=args.map a.eval} w:=by
  simp only[resolve,hf,Deferred.ofValue];simp[go_sem]
 show Sem.run P (bind (resolve a.eval ⟨.value fx,args,ts⟩ ty) fun d=>invoke d.target d.args) w=_
 rw[run_bind hr];exact this
end Go.PV
namespace Go.PV
open Go.RowKit
theorem zfv{p:Path}(hp:p≠[])(row r:List D):(zaC row p r).length=row.length∧∀c es,c<row.length→row.getD c .h= .s es→∃es',(zaC row p r).getD c .h= .s es':=by
 cases p with
 |nil=>exact absurd rfl hp
 |cons x p=>
  obtain ⟨c0,e0⟩:=x;refine ⟨by simp[zaC],fun c es hc hes=> ?_⟩
  simp only[zaC];by_cases h:c0=c
  ·subst h
   simp[List.getD,hc]
  ·exact ⟨es,by rw[←hes];simp[List.getD,h]⟩
section aft
variable {W0:World}{G0:Orig}{S:St}{w w':World}{tm:Array Value}{G G':Ghost}{pl plc pl':zaP}{E:Exp}{rs:RS}{v:Value}{rv:Res}{N:Option Nat}
inductive Fate (S:St) (E:Exp) (fz:Bool) (rv:Res) (pl pl':zaP) (N:Option Nat) (us:Nat→Value) (n:Nat) (ob:Obj) (x:Option Obj):Prop
 |same (hm:n∉E.cos.flatMap fun c=>c.src.mutName) (hx:x=some ob) (hpl:plOut E N us pl pl' n=pl n)
 |froz (hm:n∉E.cos.flatMap fun c=>c.src.mutName) (hro:ob.kind≠ .ro) (hx:x=some {ob with fl:=ob.fl.map fun _=> .sh}) (hpl:plOut E N us pl pl' n=pl n)
 |dead (hm:n∉E.cos.flatMap fun c=>c.src.mutName) (hf:fz=true) (hb:n∈E.bop) (hro:ob.kind≠ .ro) (hx:x=none) (hpl:plOut E N us pl pl' n=pl n)
 |box (k:Nat) (ob1:Obj) (hk:E.cos[k]? =some ⟨ob, .box n⟩) (h1:rv.objs[k]? =some ob1) (hfit:zcY ob ob1=true) (hx:x=some ob1) (hpl:plOut E N us pl pl' n=pl' k)
 |row (k:Nat) (p:Path) (cob ob1:Obj) (hk:E.cos[k]? =some ⟨cob, .row n p⟩) (hp:p≠[]) (hx:x=some {ob with row:=zaC ob.row p ob1.row}) (hpl:plOut E N us pl pl' n=pl n)
 |sl (k:Nat) (p:Path) (c:Nat) (cob:Obj) (es:List (List D)) (hk:E.cos[k]? =some ⟨cob, .sl n p c⟩) (hx:x=some {ob with row:=zaC ob.row p ((zaj ob.row p).set c (.s es))}) (hpl:plOut E N us pl pl' n=pl n)
 |mv (k:Nat) (p:Path) (c:Nat) (cob:Obj) (hk:E.cos[k]? =some ⟨cob, .mv n p c⟩) (hx:x=some {ob with row:=zaC ob.row p ((zaj ob.row p).set c .h)}) (hpl:plOut E N us pl pl' n=pl n)
 |grpm (k:Nat) (cs:List Nat) (cob:Obj) (hk:E.cos[k]? =some ⟨cob, .grp n cs true⟩) (hx:x=some {ob with row:=hSet cs ob.row}) (hpl:plOut E N us pl pl' n=pl n)
 |grp (k:Nat) (cs:List Nat) (cob:Obj) (r:List D) (hk:E.cos[k]? =some ⟨cob, .grp n cs false⟩) (hx:x=some {ob with row:=zdj cs r ob.row}) (hpl:plOut E N us pl pl' n=pl n)
theorem Aft.fate(A:Aft W0 G0 S w tm G pl E plc rs w' v rv G' pl' (froz rs.cells E.cos) N){vs:List AV}(hn:NamesOk (S.foot vs) E)(hc:za3 E.cos rv.objs=true)(us:Nat→Value){n:Nat}{ob:Obj}
 (hob:S.obj n=some ob) (hN:N≠some n):Fate S E (froz rs.cells E.cos) rv pl pl' N us n ob ((after (zc0 (S.foot vs) E (froz rs.cells E.cos) rv.objs) S.o).getD n none):=by
 have hF:∀n ob,fget (S.foot vs) n=some ob→S.obj n=some ob:=fun n ob=>zcs S vs n ob
 have hlt:=zdc hob;by_cases hm:n∈E.cos.flatMap fun c=>c.src.mutName
 ·obtain ⟨k,co,ob0,hco,hmn,hob0,hkro⟩:=A.mut hm
  obtain ⟨obf,hfo⟩:=hn.cos co (List.mem_of_getElem? hco) n (by rw[hmn];simp)
  have:obf=ob:=by have:=hF n obf hfo;rw[hob]at this;exact (Option.some.inj this).symm
  subst this;have hkl:k<rv.objs.length:=by rw[A.left.olen];exact A.klt hco
  obtain ⟨ob1,h1⟩:∃ob1,rv.objs[k]? =some ob1:=⟨rv.objs[k],by simp[hkl]⟩
  have hgd:rv.objs.getD k ⟨.ro,[],[]⟩=ob1:=by simp[List.getD,h1]
  obtain ⟨cob,src⟩:=co;cases src with
  |box m=>
   simp only[Src.mutName,List.cons.injEq,and_true]at hmn;subst hmn;have hfit:=zeM hco rfl hc h1
   have hx:zbD (S.foot vs) rv.objs k ⟨cob, .box m⟩=[(m,some ob1)]:=by
    simp only[zbD,hgd];rw[show zcB cob ob1=ob1 from (zci hfit).1]
   have hce:cob=obf:=by have:=(A.co k _ hco).1;simp only at this;rw[hob]at this;exact (Option.some.inj this).symm
   subst hce;exact .box k ob1 hco h1 hfit (zbI A.ok hco hx hlt) (by simp only[plOut,if_neg hN,zhB A.nodup hco])
  |row m p=>
   simp only[Src.mutName,List.cons.injEq,and_true]at hmn;subst hmn;have hfit:=zeM hco rfl hc h1
   have hx:zbD (S.foot vs) rv.objs k ⟨cob, .row m p⟩=[(m,some {obf with row:=zaC obf.row p ob1.row})]:=by
    simp only[zbD,hfo,hgd];rw[show zcB cob ob1=ob1 from (zci hfit).1]
   obtain ⟨_,_,_,_,hp,_⟩:=A.co k _ hco;exact .row k p cob ob1 hco hp (zbI A.ok hco hx hlt) (by simp only[plOut,if_neg hN,zbS A.nodup hco (n:=m) rfl (by simp)])
  |sl m p c=>
   simp only[Src.mutName,List.cons.injEq,and_true]at hmn;subst hmn
   have hx:zbD (S.foot vs) rv.objs k ⟨cob, .sl m p c⟩=[(m,some {obf with row:=zaC obf.row p ((zaj obf.row p).set c (.s (ob1.row.getD 0 .h).es))})]:=by
    simp only[zbD,hfo,hgd]
   exact .sl k p c cob _ hco (zbI A.ok hco hx hlt) (by simp only[plOut,if_neg hN,zbS A.nodup hco (n:=m) rfl (by simp)])
  |mv m p c=>
   simp only[Src.mutName,List.cons.injEq,and_true]at hmn;subst hmn
   have hx:zbD (S.foot vs) rv.objs k ⟨cob, .mv m p c⟩=[(m,some {obf with row:=zaC obf.row p ((zaj obf.row p).set c .h)})]:=by
    simp only[zbD,hfo]
   exact .mv k p c cob hco (zbI A.ok hco hx hlt) (by simp only[plOut,if_neg hN,zbS A.nodup hco (n:=m) rfl (by simp)])
  |grp m cs tk=>
   simp only[Src.mutName,List.cons.injEq,and_true]at hmn;subst hmn;cases tk with
   |true=>
    have hx:zbD (S.foot vs) rv.objs k ⟨cob, .grp m cs true⟩=[(m,some {obf with row:=hSet cs obf.row})]:=by
     simp only[zbD,hfo]
    exact .grpm k cs cob hco (zbI A.ok hco hx hlt) (by simp only[plOut,if_neg hN,zbS A.nodup hco (n:=m) rfl (by simp)])
   |false=>
   have hx:zbD (S.foot vs) rv.objs k ⟨cob, .grp m cs false⟩=[(m,some {obf with row:=zdj cs ob1.row obf.row})]:=by
    simp only[zbD,hfo,hgd]
   exact .grp k cs cob _ hco (zbI A.ok hco hx hlt) (by simp only[plOut,if_neg hN,zbS A.nodup hco (n:=m) rfl (by simp)])
  |ro m p=>simp[Src.mutName]at hmn
  |free=>simp[Src.mutName]at hmn
 ·have hpl:plOut E N us pl pl' n=pl n:=by simp only[plOut,if_neg hN,zgq hm]
  by_cases hfb:froz rs.cells E.cos=true∧n∈E.bor
  ·obtain ⟨hf,hb⟩:=hfb
   obtain ⟨ob0,hfo,_⟩:=hn.bor n hb;have:ob0=ob:=by have:=hF n ob0 hfo;rw[hob]at this;exact (Option.some.inj this).symm
   subst this;by_cases hro:ob0.kind= .ro
   ·have hx:frozen (S.foot vs) E.bop n=[]:=by simp[frozen,hfo,hro]
    exact .same hm ((zdo hm (fun _ _=>hx)).trans hob) hpl
   ·by_cases hbb:ob0.kind= .box∧n∈E.bop
    ·have hx:frozen (S.foot vs) E.bop n=[(n,none)]:=by
      simp[frozen,hfo,hbb]
     exact .dead hm hf hbb.2 hro (zd6 A.ok hf hb hx hlt) hpl
    ·have hx:frozen (S.foot vs) E.bop n=[(n,some {ob0 with fl:=ob0.fl.map fun _=> .sh})]:=by
      have hbb2:¬(ob0.kind= .box∧E.bop.contains n=true):=fun h=>hbb ⟨h.1,by simpa using h.2⟩
      simp only[frozen,hfo];rw[if_neg hro,if_neg hbb2]
     exact .froz hm hro (zd6 A.ok hf hb hx hlt) hpl
  ·exact .same hm ((zdo hm (fun h1 h2=>absurd ⟨h1,h2⟩ hfb)).trans hob) hpl
end aft
end Go.PV
namespace Go.PV
open Go.RowKit
def zhD(fz:Bool)(cos:List CO)(nd:Nat)(rs:RS)(cells:List TC):AV:=
 match rs with
 | .fresh fs=>bif (cells.getD fs.length .d).bool then .one (.p true nd [] 0)else .one (.v (.pointer none))
 |rs=>zmN rs (zdu fz cos nd rs.cells cells)
def newObj(rs:RS)(cells:List TC):Option Obj:=
 match rs with
 | .fresh fs=>bif (cells.getD fs.length .d).bool then some ⟨.box,zgG fs cells,impFl fs⟩else none
 |rs=>some ⟨.virt,zeg rs.cells cells,impFl rs.cells⟩
def zb8(F:Foot)(E:Exp)(rs:RS)(rv:Res)(na:Nat):Option Tmp→Rec
 |some d=>
  {val:=zhD (froz rs.cells E.cos) E.cos (na+d) rs rv.cells
   ups:=zc0 F E (froz rs.cells E.cos) rv.objs++[(na+d,newObj rs rv.cells)]
   kl:=(if froz rs.cells E.cos then E.bop.flatMap (zcV F)else [])++E.cos.flatMap (fun x=>x.src.kills)++[(na+d,2)]}
 |none=>
  {val:= .one .dead
   ups:=zc0 F E (froz rs.cells E.cos) rv.objs
   kl:=(if froz rs.cells E.cos then E.bop.flatMap (zcV F)else [])++E.cos.flatMap (fun x=>x.src.kills)}
theorem zqE{R:Type}{P:Path}(h:(match P with| []=>true|(a,_)::_=>a==4)=true)(k:Path→R):pathK P k=k P:=by
 cases P with
 |nil=>rfl
 |cons x p=>
  obtain ⟨a,e⟩:=x;have h:(a==4)=true:=h;obtain rfl:a=4:=by simpa using h
  rfl
theorem ziT:∀(rs:List R1) (j i:Nat),ptrAt rs j=some i→∃k m,i=j+m∧rs[m]? =some (.ptr k)
 | [],j,i,h=>by simp[ptrAt]at h
 |r::rs,j,i,h=>by
  have hr:ptrAt rs (j+1)=some i→∃k m,i=j+m∧(r::rs)[m]? =some (.ptr k):=fun h=>by
   obtain ⟨k,m,h1,h2⟩:=ziT rs (j+1) i h;exact ⟨k,m+1,by omega,by simpa using h2⟩
  cases r with
  |ptr k=>simp only[ptrAt,Option.some.injEq]at h;exact ⟨k,0,by omega,by simp⟩
  |int k=>exact hr h
  |bool=>exact hr h
  |str=>exact hr h
  |sh=>exact hr h
  |own w=>exact hr h
  |any=>exact hr h
theorem zkQ{fz:Bool}{cos:List CO}{d:Nat}{rs:List R1}{cells:List TC}{i k:Nat}{b:Bool}{j:Nat}{P:Path}(hi:rs[i]? =some (.ptr k))(hc:cells.getD i .d= .p b j P 0):
 zfF fz cos d rs cells i P=zdu fz cos d rs cells:=by
 unfold zfF zdu;refine List.map_congr_left fun x hx=> ?_
 by_cases hxi:x.2=i
 ·rw[if_pos hxi,hxi,hc]
  have hx1:x.1= .ptr k:=by
   rw[List.mem_zipIdx_iff_getElem?,hxi,hi]at hx;exact (Option.some.inj hx).symm
  rw[hx1];rfl
 ·rw[if_neg hxi]
theorem zjD{R:Type}{fz:Bool}{cos:List CO}{d:Nat}{rs:List R1}{cells:List TC}(hf:zac rs cells=true)(k:Rec→Option R)(mk:List A1→Rec):
 retK fz cos d rs cells k mk=k (mk (zdu fz cos d rs cells)):=by
 unfold retK;split
 ·rfl
 ·rename_i i hi
  obtain ⟨j,m,h1,h2⟩:=ziT rs 0 i hi;rw[Nat.zero_add]at h1;subst h1;unfold zac at hf;rw[Bool.and_eq_true]at hf;have h3:=List.all_eq_true.1 hf.2 (.ptr j,i) (by rw[List.mem_zipIdx_iff_getElem?];exact h2)
  simp only at h3;cases hc:cells.getD i .d with
  |p b j' P c=>
   rw[hc]at h3;simp only[R1.fits,Bool.and_eq_true,beq_iff_eq]at h3;obtain ⟨⟨_,rfl⟩,h4⟩:=h3;show pathK P (fun P=>k (mk (zfF fz cos d rs cells i P)))=_
   rw[zqE h4,zkQ h2 hc]
  |v x=>rw[hc]at h3;simp[R1.fits]at h3
  |s es=>rw[hc]at h3;simp[R1.fits]at h3
  |o w es=>rw[hc]at h3;simp[R1.fits]at h3
  |d=>rw[hc]at h3;simp[R1.fits]at h3
theorem zm3{R:Type}(o:Foot)(mode:Nat)(X:Exp)(a:A1)(k:Exp→Option R):exp1K o mode X a k=(exp1 o mode X a).bind k:=by
 unfold exp1K exp1;cases a with
 |r n p c=>
  simp only;split
  ·split
   ·split<;>rfl
   ·split<;>rfl
  ·rfl
 |p ok n p c=>
  simp only;split
  ·split
   ·split<;>rfl
   ·split
    ·split
     ·split<;>rfl
     ·simp only[cond_eq_ite];split<;>rfl
    ·rfl
  ·rfl
 |bx cs c=>
  simp only;split
  ·split
   ·split<;>rfl
   ·rfl
  ·rfl
 |_=>rfl
theorem zgs{R:Type}(o:Foot)(mode:Nat):∀(as:List A1) (X:Exp) (k:Exp→Option R),zhd o mode X as k=(zef o mode X as).bind k
 | [],X,k=>rfl
 |a::as,X,k=>by
  simp only[zhd,zef,zm3];cases exp1 o mode X a with
  |none=>rfl
  |some X'=>exact zgs o mode as X' k
theorem zhE{R:Type}(o:Foot):∀(as:List A1) (X:Exp) (k:Exp→Option R),zg0 o X as k=(zdP o X as).bind k
 | [],X,k=>rfl
 |a::as,X,k=>by
  simp only[zg0,zdP,zm3];cases a<;>simp only[]<;>(cases exp1 o _ X _ with|none=>rfl|some X'=>exact zhE o as X' k)
theorem zoK{R:Type}(o:Foot)(mode:Nat)(X:Exp)(a:AV)(k:AV→Exp→Option R):zoe o mode X a k=(expAV o mode X a).bind fun x=>k x.1 x.2:=by
 unfold zoe expAV;cases a with
 |one a=>simp only[zgs];cases zef o mode {X with as:=[]} [a]<;>rfl
 |g cs=>
  simp only[zgs];split
  ·split
   ·split<;>rfl
   ·rfl
  ·cases zef o mode {X with as:=[]} cs<;>rfl
 |f fn caps=>simp only[zhE];cases zdP o {X with as:=[]} caps<;>rfl
 |t vs=>rfl
theorem zhF{R:Type}(o:Foot)(sg:Sig):∀(as:List AV) (i:Nat) (X:Exp) (k:List AV→Exp→Option R),zg1 o sg i X as k=(zcS o sg i X as).bind fun x=>k x.1 x.2
 | [],i,X,k=>rfl
 |a::as,i,X,k=>by
  simp only[zg1,zcS,zoK];cases expAV o (if sg.mu.contains i then 1 else if sg.con.contains i then 2 else 0) X a with
  |none=>rfl
  |some x=>
   obtain ⟨a',X'⟩:=x;simp only[Option.bind_some,zhF o sg as (i+1) X'];cases zcS o sg (i+1) X' as with
   |none=>rfl
   |some y=>rfl
theorem zoL{R:Type}{fz:Bool}{cos:List CO}{nd:Nat}{rs:RS}{cells:List TC}{ups:List (Nat×Option Obj)}{kl:List (Nat×Nat)}(hf:zac rs.cells cells=true)(k:Rec→Option R):
 newK fz cos nd rs cells ups kl k=k {val:=zhD fz cos nd rs cells,ups:=ups++[(nd,newObj rs cells)],kl}:=by
 cases rs with
 |fresh fs=>
  simp only[newK,zhD,newObj];cases (cells.getD fs.length .d).bool<;>rfl
 |none=>
  unfold newK;simp only;rw[zjD hf];rfl
 |one r=>
  unfold newK;simp only;rw[zjD hf];rfl
 |agg rs=>
  unfold newK;simp only;rw[zjD hf];rfl
 |tup cs=>
  unfold newK;simp only;rw[zjD hf];rfl
theorem zfU{R:Type}(X:Ctx)(f:FuncId)(args:List AV)(na:Nat)(F:Foot)(dst:Option Tmp)(k:Rec→Option R):callK X f args na F dst k=zkk X f args na F dst k:=by
 unfold callK zkk;rw[zhF];cases zcS F (X.sig f) 0 {} args with
 |none=>rfl
 |some y=>rfl
theorem ziU{X:Ctx}{f:FuncId}{args:List AV}{na:Nat}{F:Foot}{dst:Option Tmp}{e:Rec}(h:callK X f args na F dst some=some e):
 ∃as E rv,zcS F (X.sig f) 0 {} args=some (as,E)∧E.ok=true∧X.call f as (E.cos.map (·.ob))=some rv∧zac (X.sig f).res.cells rv.cells=true∧za3 E.cos rv.objs=true∧
  e=zb8 F E (X.sig f).res rv na dst:=by
 rw[zfU]at h;unfold zkk at h;split at h
 case h_2=>simp at h
 rename_i as E hx;split at h
 case isFalse=>simp at h
 rename_i hok;rw[Option.bind_eq_some_iff]at h;obtain ⟨rv,h1,h2⟩:=h;cases hf:(zac (X.sig f).res.cells rv.cells&&za3 E.cos rv.objs)with
 |false=>rw[hf]at h2;simp at h2
 |true=>
  rw[hf]at h2;rw[Bool.and_eq_true]at hf;refine ⟨as,E,rv,hx,hok,h1,hf.1,hf.2, ?_⟩;cases dst with
  |some d=>simp only[cond_true,zoL hf.1,Option.some.injEq]at h2;exact h2.symm
  |none=>simp only[cond_true,Option.some.injEq]at h2;exact h2.symm
theorem zkR{E:Exp}{k:Nat}{co:CO}(hk:E.cos[k]? =some co){n l:Nat}(h:(n,l)∈co.src.kills):(n,l)∈E.cos.flatMap (fun x=>x.src.kills):=
 List.mem_flatMap.2 ⟨co,List.mem_of_getElem? hk,h⟩
theorem zoM{s:Src}{n:Nat}(h:n∈s.mutName):∃l,(n,l)∈s.kills:=by
 cases s with
 |box m=>simp only[Src.mutName,List.mem_singleton]at h;subst h;exact ⟨1,by simp[Src.kills]⟩
 |row m p=>simp only[Src.mutName,List.mem_singleton]at h;subst h;exact ⟨0,by simp[Src.kills]⟩
 |sl m p c=>simp only[Src.mutName,List.mem_singleton]at h;subst h;exact ⟨0,by simp[Src.kills]⟩
 |mv m p c=>simp only[Src.mutName,List.mem_singleton]at h;subst h;exact ⟨1,by simp[Src.kills]⟩
 |grp m cs tk=>simp only[Src.mutName,List.mem_singleton]at h;subst h;exact ⟨_,by simp only[Src.kills];exact List.mem_singleton.2 rfl⟩
 |ro m p=>simp[Src.mutName]at h
 |free=>simp[Src.mutName]at h
theorem zkS{F:Foot}{E:Exp}{rs:RS}{rv:Res}{na:Nat}(dst:Option Tmp){x:Nat×Nat}(h:x∈(if froz rs.cells E.cos then E.bop.flatMap (zcV F)else [])++E.cos.flatMap (fun x=>x.src.kills)):
 x∈(zb8 F E rs rv na dst).kl:=by
 cases dst with
 |none=>exact h
 |some d=>exact List.mem_append_left _ h
theorem rec_lv{F:Foot}{E:Exp}{rs:RS}{rv:Res}{na:Nat}(dst:Option Tmp){x:Nat×Nat}(h:x∈(zb8 F E rs rv na dst).kl):x.2<5:=by
 have key:x∈(if froz rs.cells E.cos then E.bop.flatMap (zcV F)else [])++E.cos.flatMap (fun x=>x.src.kills)→x.2<5:=fun h=>by
  rcases List.mem_append.1 h with h|h
  ·split at h
   ·obtain ⟨n,_,h2⟩:=List.mem_flatMap.1 h
    unfold zcV at h2;split at h2
    ·split at h2
     ·simp at h2
     ·have:x=(n,2):=by simpa using h2
      rw[this];first|(show (2:Nat)<5;decide)|(show (1:Nat)<5;decide)|(show (0:Nat)<5;decide)
    ·simp at h2
   ·simp at h
  ·obtain ⟨co,_,h2⟩:=List.mem_flatMap.1 h
   cases hs:co.src with
   |box m=>rw[hs]at h2;have:x=(m,1):=by simpa[Src.kills]using h2
           rw[this];first|(show (2:Nat)<5;decide)|(show (1:Nat)<5;decide)|(show (0:Nat)<5;decide)
   |row m p=>rw[hs]at h2;have:x=(m,0):=by simpa[Src.kills]using h2
             rw[this];first|(show (2:Nat)<5;decide)|(show (1:Nat)<5;decide)|(show (0:Nat)<5;decide)
   |sl m p c=>rw[hs]at h2;have:x=(m,0):=by simpa[Src.kills]using h2
              rw[this];first|(show (2:Nat)<5;decide)|(show (1:Nat)<5;decide)|(show (0:Nat)<5;decide)
   |mv m p c=>rw[hs]at h2;have:x=(m,1):=by simpa[Src.kills]using h2
              rw[this];first|(show (2:Nat)<5;decide)|(show (1:Nat)<5;decide)|(show (0:Nat)<5;decide)
   |grp m cs tk=>
    rw[hs]at h2;cases tk with
    |true=>have:x=(m,1):=by simpa[Src.kills]using h2
           rw[this];first|(show (2:Nat)<5;decide)|(show (1:Nat)<5;decide)|(show (0:Nat)<5;decide)
    |false=>have:x=(m,0):=by simpa[Src.kills]using h2
            rw[this];first|(show (2:Nat)<5;decide)|(show (1:Nat)<5;decide)|(show (0:Nat)<5;decide)
   |ro m p=>rw[hs]at h2;simp[Src.kills]at h2
   |free=>rw[hs]at h2;simp[Src.kills]at h2
 cases dst with
 |none=>exact key h
 |some d=>
  rcases List.mem_append.1 h with h|h
  ·exact key h
  ·have:x=(na+d,2):=by simpa using h
   rw[this];first|(show (2:Nat)<5;decide)|(show (1:Nat)<5;decide)|(show (0:Nat)<5;decide)
theorem zl5{F:Foot}{E:Exp}{rs:RS}{rv:Res}{na:Nat}(dst d:Option Tmp):(zb8 F E rs rv na dst).dst d=d:=by cases dst<;>rfl
theorem zl6{F:Foot}{E:Exp}{rs:RS}{rv:Res}{na d:Nat}:(na+d,2)∈(zb8 F E rs rv na (some d)).kl:=List.mem_append_right _ (by simp)
section aft
variable {W0:World}{G0:Orig}{S:St}{w w':World}{tm:Array Value}{G G':Ghost}{pl plc pl':zaP}{E:Exp}{rs:RS}{v:Value}{rv:Res}{dst:Option Tmp}
def newN(S:St)(dst:Option Tmp):Option Nat:=dst.map (S.na+·)
theorem zgt{F:Foot}{n:Nat}(hN:newN S dst≠some n):(S.put dst (zb8 F E rs rv S.na dst)).obj n=(after (zc0 F E (froz rs.cells E.cos) rv.objs) S.o).getD n none:=by
 cases dst with
 |none=>rfl
 |some d=>
  have hne:S.na+d≠n:=fun h=>hN (by simp[newN,h])
  show (after (zc0 F E (froz rs.cells E.cos) rv.objs++[(S.na+d,_)]) S.o).getD n none=_;rw[zd1];exact zei _ _ _ (fun x hx=>by simp only[List.mem_singleton]at hx;subst hx;exact hne)
theorem zl7{F:Foot}{d:Nat}(hd:S.na+d<S.o.length):(S.put (some d) (zb8 F E rs rv S.na (some d))).obj (S.na+d)=newObj rs rv.cells:=by
 show (after (zc0 F E (froz rs.cells E.cos) rv.objs++[(S.na+d,_)]) S.o).getD (S.na+d) none=_;rw[zd1];refine zhy _ _ (fun y hy _=>by simp only[List.mem_singleton]at hy;subst hy;rfl) ⟨(S.na+d,newObj rs rv.cells),List.mem_singleton.2 rfl,rfl⟩ (by rw[zeK];exact hd)
theorem Aft.noobj(A:Aft W0 G0 S w tm G pl E plc rs w' v rv G' pl' (froz rs.cells E.cos) (newN S dst)){vs:List AV}{n:Nat}{ob:Obj}
 (h:(after (zc0 (S.foot vs) E (froz rs.cells E.cos) rv.objs) S.o).getD n none=some ob):∃ob0,S.obj n=some ob0:=by
 cases hob:S.obj n with
 |some ob0=>exact ⟨ob0,rfl⟩
 |none=>
  exfalso
  have hm:n∉E.cos.flatMap fun c=>c.src.mutName:=fun hm=>by
   obtain ⟨_,_,ob0,_,_,h1,_⟩:=A.mut hm;rw[hob]at h1;simp at h1
  rw[zdo hm (fun _ hb=>by
   obtain ⟨ob0,h1⟩:=A.bor n hb;rw[hob]at h1;exact absurd h1 (by simp))]at h
  have h:S.obj n=some ob:=h;rw[hob]at h;simp at h
theorem Aft.heapSame(A:Aft W0 G0 S w tm G pl E plc rs w' v rv G' pl' (froz rs.cells E.cos) (newN S dst)){b:Nat}{x:Nat×List Nat}(h:G b=some x)(hg:gIn E G b=none∨∃ρ,gIn E G b=some (FR,ρ)):w'.heap[b]? =w.heap[b]? :=by
 rcases hg with hg|⟨ρ,hg⟩
 ·exact (A.left.base b (A.lt h) hg).1
 ·exact (A.left.fr b ρ (A.lt h) hg).1
theorem Aft.hF(A:Aft W0 G0 S w tm G pl E plc rs w' v rv G' pl' (froz rs.cells E.cos) (newN S dst)){vs:List AV}(hn:NamesOk (S.foot vs) E)(hc:za3 E.cos rv.objs=true)(us:Nat→Value)(n:Nat)
 (h:∀x∈(zb8 (S.foot vs) E rs rv S.na dst).kl,x.1≠n):zex w w' G S.obj (S.put dst (zb8 (S.foot vs) E rs rv S.na dst)).obj pl (plOut E (newN S dst) us pl pl') n:=by
 intro ob hob
 have hN:newN S dst≠some n:=fun hN=>by
  cases dst with
  |none=>simp[newN]at hN
  |some d=>simp only[newN,Option.map_some,Option.some.injEq]at hN;exact h _ zl6 hN
 have hmut:∀{k:Nat} {co:CO},E.cos[k]? =some co→n∈co.src.mutName→False:=fun hk hm=>by
  obtain ⟨l,hl⟩:=zoM hm;exact h _ (zkS dst (List.mem_append_right _ (zkR hk hl))) rfl
 rw[zgt hN];cases A.fate hn hc us hob hN with
 |same hm hx hpl=>exact ⟨ob,hx,rfl,rfl,hpl,fun _=>rfl,fun b π hb=>A.same hm hb⟩
 |froz hm hro hx hpl=>exact ⟨_,hx,rfl,rfl,hpl,fun hk=>absurd hk hro,fun b π hb=>A.same hm hb⟩
 |dead hm hf hb hro hx hpl=>
  exfalso
  obtain ⟨obf,hfo,_⟩:=hn.bor n (hn.bop n hb);have:obf=ob:=by have:=zcs S vs n obf hfo;rw[hob]at this;exact (Option.some.inj this).symm
  subst this;refine h (n,2) (zkS dst (List.mem_append_left _ ?_)) rfl;rw[if_pos hf];exact List.mem_flatMap.2 ⟨n,hb,by simp[zcV,hfo,hro]⟩
 |box k ob1 hk=>exact (hmut hk (by simp[Src.mutName])).elim
 |row k p cob ob1 hk=>exact (hmut hk (by simp[Src.mutName])).elim
 |sl k p c cob es hk=>exact (hmut hk (by simp[Src.mutName])).elim
 |mv k p c cob hk=>exact (hmut hk (by simp[Src.mutName])).elim
 |grpm k cs cob hk=>exact (hmut hk (by simp[Src.mutName])).elim
 |grp k cs cob r hk=>exact (hmut hk (by simp[Src.mutName])).elim
theorem Aft.hR(A:Aft W0 G0 S w tm G pl E plc rs w' v rv G' pl' (froz rs.cells E.cos) (newN S dst)){vs:List AV}(hn:NamesOk (S.foot vs) E)(hc:za3 E.cos rv.objs=true)(us:Nat→Value)(n:Nat)
 (h:∀x∈(zb8 (S.foot vs) E rs rv S.na dst).kl,x.1=n→x.2=0):KeptR S.obj (S.put dst (zb8 (S.foot vs) E rs rv S.na dst)).obj pl (plOut E (newN S dst) us pl pl') n:=by
 intro ob hob hkr
 have hN:newN S dst≠some n:=fun hN=>by
  cases dst with
  |none=>simp[newN]at hN
  |some d=>simp only[newN,Option.map_some,Option.some.injEq]at hN;exact absurd (h _ zl6 hN) (by simp)
 have hmut:∀{k:Nat} {co:CO},E.cos[k]? =some co→(n,1)∈co.src.kills→False:=fun hk hm=>by
  exact absurd (h _ (zkS dst (List.mem_append_right _ (zkR hk hm))) rfl) (by simp)
 rw[zgt hN];cases A.fate hn hc us hob hN with
 |same hm hx hpl=>exact ⟨ob,hx,hkr,fun c es hlt hes=>⟨hlt,⟨es,hes⟩,by rw[hpl]⟩⟩
 |froz hm hro hx hpl=>exact ⟨_,hx,hkr,fun c es hlt hes=>⟨hlt,⟨es,hes⟩,by rw[hpl]⟩⟩
 |dead hm hf hb hro hx hpl=>
  exfalso
  obtain ⟨obf,hfo,_⟩:=hn.bor n (hn.bop n hb);have:obf=ob:=by have:=zcs S vs n obf hfo;rw[hob]at this;exact (Option.some.inj this).symm
  subst this;refine absurd (h (n,2) (zkS dst (List.mem_append_left _ ?_)) rfl) (by simp)
  rw[if_pos hf];exact List.mem_flatMap.2 ⟨n,hb,by simp[zcV,hfo,hro]⟩
 |box k ob1 hk=>exact (hmut hk (by simp[Src.kills])).elim
 |row k p cob ob1 hk hp hx hpl=>
  obtain ⟨h1,h2⟩:=zfv hp ob.row ob1.row;exact ⟨_,hx,hkr,fun c es hlt hes=>⟨by show c<(zaC ob.row p ob1.row).length;rw[h1];exact hlt,h2 c es hlt hes,by rw[hpl]⟩⟩
 |sl k p c cob es0 hk hx hpl=>
  by_cases hp:p=[]
  ·subst hp
   refine ⟨_,hx,hkr,fun c' es hlt hes=>⟨by simpa[zaC,zaj]using hlt, ?_,by rw[hpl]⟩⟩
   show∃es',((ob.row.set c (.s es0)).getD c' .h)= .s es';by_cases hcc:c=c'
   ·subst hcc;exact ⟨es0,by simp[List.getD,hlt]⟩
   ·exact ⟨es,by rw[←hes];simp[List.getD,hcc]⟩
  ·obtain ⟨h1,h2⟩:=zfv hp ob.row ((zaj ob.row p).set c (.s es0))
   exact ⟨_,hx,hkr,fun c' es hlt hes=>⟨by show c'<(zaC ob.row p _).length;rw[h1];exact hlt,h2 c' es hlt hes,by rw[hpl]⟩⟩
 |mv k p c cob hk=>exact (hmut hk (by simp[Src.kills])).elim
 |grpm k cs cob hk=>exact (hmut hk (by simp[Src.kills])).elim
 |grp k cs cob r hk hx hpl=>
  exact ⟨_,hx,hkr,fun c' es hlt hes=>⟨by show c'<(zdj cs r ob.row).length;rw[zfa];exact hlt,zl2 cs r ob.row c' es hlt hes,by rw[hpl]⟩⟩
theorem Aft.hP(A:Aft W0 G0 S w tm G pl E plc rs w' v rv G' pl' (froz rs.cells E.cos) (newN S dst)){vs:List AV}(hn:NamesOk (S.foot vs) E)(hc:za3 E.cos rv.objs=true)(us:Nat→Value)(n:Nat)
 (h:∀x∈(zb8 (S.foot vs) E rs rv S.na dst).kl,x.1=n→x.2≤1):KeptP S.obj (S.put dst (zb8 (S.foot vs) E rs rv S.na dst)).obj pl (plOut E (newN S dst) us pl pl') n:=by
 intro ob hob
 have hN:newN S dst≠some n:=fun hN=>by
  cases dst with
  |none=>simp[newN]at hN
  |some d=>simp only[newN,Option.map_some,Option.some.injEq]at hN;exact absurd (h _ zl6 hN) (by simp)
 have hro:∀{k:Nat} {co:CO},E.cos[k]? =some co→n∈co.src.mutName→ob.kind≠ .ro:=fun hk hm=>by
  obtain ⟨_,_,ob0,_,_,h1,h2⟩:=A.mut (List.mem_flatMap.2 ⟨_,List.mem_of_getElem? hk,hm⟩);rw[hob]at h1;obtain rfl:=Option.some.inj h1;exact h2
 rw[zgt hN];cases A.fate hn hc us hob hN with
 |same hm hx hpl=>exact ⟨ob,hx,rfl,by rw[hpl],fun _=>⟨rfl,hpl⟩⟩
 |froz hm hro hx hpl=>exact ⟨_,hx,rfl,by rw[hpl],fun hk=>absurd hk hro⟩
 |dead hm hf hb hro hx hpl=>
  exfalso
  obtain ⟨obf,hfo,_⟩:=hn.bor n (hn.bop n hb);have:obf=ob:=by have:=zcs S vs n obf hfo;rw[hob]at this;exact (Option.some.inj this).symm
  subst this;refine absurd (h (n,2) (zkS dst (List.mem_append_left _ ?_)) rfl) (by simp)
  rw[if_pos hf];exact List.mem_flatMap.2 ⟨n,hb,by simp[zcV,hfo,hro]⟩
 |box k ob1 hk h1 hfit hx hpl=>
  have hlt:=A.klt hk;have hnr:=hro hk (by simp[Src.mutName])
  have hkk:=(zci hfit).2.1;obtain ⟨_,_,_,_,hb,_⟩:=A.left.start k ob1 hlt h1 (by rw[hkk];exact hnr)
  refine ⟨ob1,hx,hkk, ?_,fun hk=>absurd hk hnr⟩
  rw[hpl,hb];have:=(A.co k _ hk).2.2;exact congrArg Place.base this
 |row k p cob ob1 hk hp hx hpl=>exact ⟨_,hx,rfl,by rw[hpl],fun h=>absurd h (hro hk (by simp[Src.mutName]))⟩
 |sl k p c cob es hk hx hpl=>exact ⟨_,hx,rfl,by rw[hpl],fun h=>absurd h (hro hk (by simp[Src.mutName]))⟩
 |mv k p c cob hk hx hpl=>exact ⟨_,hx,rfl,by rw[hpl],fun h=>absurd h (hro hk (by simp[Src.mutName]))⟩
 |grpm k cs cob hk hx hpl=>exact ⟨_,hx,rfl,by rw[hpl],fun h=>absurd h (hro hk (by simp[Src.mutName]))⟩
 |grp k cs cob r hk hx hpl=>exact ⟨_,hx,rfl,by rw[hpl],fun h=>absurd h (hro hk (by simp[Src.mutName]))⟩
end aft
end Go.PV
namespace Go.PV
open Go.RowKit
theorem zqF{w:World}{G:Ghost}{obs:Obs}{pl:zaP}{co:CO}{P:Place}(hc:CoOk w G obs pl co P){ρ:List Nat}{n:Nat}(h:co.src.outn ρ=some (n,[])):ρ=[]∧co.src= .box n:=by
 obtain ⟨ob,src⟩:=co;cases src with
 |box m=>simp only[Src.outn,Option.some.injEq,Prod.mk.injEq]at h;exact ⟨h.2,by rw[h.1]⟩
 |row m p=>
  obtain ⟨_,_,_,_,hp,_⟩:=hc;cases ρ with
  |nil=>simp only[Src.outn,Option.some.injEq,Prod.mk.injEq]at h;exact absurd h.2 (zhw hp)
  |cons c ρ=>simp[Src.outn]at h
 |sl m p c=>
  cases ρ with
  |nil=>simp[Src.outn]at h
  |cons k ρ=>
   cases k with
   |zero=>simp[Src.outn]at h
   |succ k=>simp[Src.outn]at h
 |mv m p c=>simp[Src.outn]at h
 |grp m cs tk=>
  cases tk with
  |true=>simp[Src.outn]at h
  |false=>
  cases ρ with
  |nil=>simp[Src.outn]at h
  |cons i ρ=>
   simp only[Src.outn,Option.map_eq_some_iff,Prod.mk.injEq]at h;obtain ⟨c,_,_,h3⟩:=h;simp at h3
 |ro m p=>simp[Src.outn]at h
 |free=>simp[Src.outn]at h
section aft
variable {W0:World}{G0:Orig}{S:St}{w w':World}{tm:Array Value}{G G':Ghost}{pl plc pl':zaP}{E:Exp}{rs:RS}{v:Value}{rv:Res}{dst:Option Tmp}
theorem Aft.hOwn(A:Aft W0 G0 S w tm G pl E plc rs w' v rv G' pl' (froz rs.cells E.cos) (newN S dst))(b:Nat)(x:Nat×List Nat)
 (h:gOut E (froz rs.cells E.cos) (newN S dst) G G' b=some x):OwnAt w' b x:=by
 rcases zjz h with ⟨h1,_,h2⟩|⟨y,h1,h3⟩
 ·exact (A.inv.own b x h1).heap (A.heapSame h1 h2)
 ·refine (A.left.own b y h1).moved (fun hp=> ?_) rfl
  obtain ⟨k,ρ⟩:=y;simp only[zem]at h3;split at h3
  ·rw[Option.map_eq_some_iff]at h3
   obtain ⟨n,_,rfl⟩:=h3;exact hp
  ·split at h3
   ·split at h3
    ·rename_i x' hx'
     split at h3
     ·simp at h3
     ·obtain rfl:=Option.some.inj h3
      exact Src.outn_plain hx' hp
    ·simp at h3
   ·simp at h3
theorem Aft.hDom(A:Aft W0 G0 S w tm G pl E plc rs w' v rv G' pl' (froz rs.cells E.cos) (newN S dst))(b:Nat)(x:Nat×List Nat)
 (h:gOut E (froz rs.cells E.cos) (newN S dst) G G' b=some x):x.1<S.o.length∨x.1=FR:=by
 rcases zjz h with ⟨h1,_,_⟩|⟨y,_,h2⟩
 ·exact A.inv.nolim b x h1
 ·rcases ziQ h2 with ⟨n,h3,h4,_⟩|⟨co,h3,h4,_⟩
  ·rw[h4];exact .inl (A.new n h3).2
  ·exact .inl (A.lt_mut (List.mem_flatMap.2 ⟨co,List.mem_of_getElem? h3,by rw[zoD h4];simp⟩))
theorem Aft.boxFrom(A:Aft W0 G0 S w tm G pl E plc rs w' v rv G' pl' (froz rs.cells E.cos) (newN S dst)){n b:Nat}(hN:newN S dst≠some n)
 (h:gOut E (froz rs.cells E.cos) (newN S dst) G G' b=some (n,[])):(G b=some (n,[])∧w'.heap[b]? =w.heap[b]?)∨∃k ob,E.cos[k]? =some ⟨ob, .box n⟩∧G' b=some (k,[]):=by
 rcases zjz h with ⟨h1,_,h2⟩|⟨y,h1,h2⟩
 ·exact .inl ⟨h1,A.heapSame h1 h2⟩
 ·rcases ziQ h2 with ⟨m,h3,h4,_⟩|⟨co,h3,h4,_⟩
  ·have h4:n=m:=h4
   rw[h4]at hN;exact absurd h3 hN
  ·obtain ⟨h5,h6⟩:=zqF (A.co _ co h3) h4
   obtain ⟨k,ρ⟩:=y;simp only at h5 h3;subst h5;obtain ⟨ob,src⟩:=co;simp only at h6;subst h6;exact .inr ⟨k,ob,h3,h1⟩
theorem Aft.hX(A:Aft W0 G0 S w tm G pl E plc rs w' v rv G' pl' (froz rs.cells E.cos) (newN S dst)){vs:List AV}(hn:NamesOk (S.foot vs) E)(hc:za3 E.cos rv.objs=true)(us:Nat→Value)(n:Nat)(ob:Obj)
 (hna:n<S.na) (ho:(S.put dst (zb8 (S.foot vs) E rs rv S.na dst)).obj n=some ob):
 ∃ob0,S.obj n=some ob0∧ob0.kind=ob.kind∧ob0.row.length=ob.row.length∧(plOut E (newN S dst) us pl pl' n).base=(pl n).base∧(ob.kind= .ro→ob0=ob)∧(ob.kind≠ .box→ob.kind.isBld=false→plOut E (newN S dst) us pl pl' n=pl n)∧
  ∀b off,(pl n).base=some ⟨b,off,none⟩→gOut E (froz rs.cells E.cos) (newN S dst) G G' b=some (n,[])→G b=some (n,[])∧∀k,k<off∨off+ob.row.length≤k→w'.cell? ⟨b,k,none⟩=w.cell? ⟨b,k,none⟩:=by
 have hN:newN S dst≠some n:=fun hN=>by
  have:=(A.new n hN).1;omega
 rw[zgt hN]at ho;obtain ⟨ob0,hob⟩:=A.noobj ho
 have hro:∀{k:Nat} {co:CO},E.cos[k]? =some co→n∈co.src.mutName→ob0.kind≠ .ro:=fun hk hm=>by
  obtain ⟨_,_,ob1,_,_,h1,h2⟩:=A.mut (List.mem_flatMap.2 ⟨_,List.mem_of_getElem? hk,hm⟩);rw[hob]at h1;obtain rfl:=Option.some.inj h1;exact h2
 -- no box of this name is handed over
 have key:(∀(k:Nat) (o:Obj),E.cos[k]?≠some ⟨o, .box n⟩)→∀b off,(pl n).base=some ⟨b,off,none⟩→gOut E (froz rs.cells E.cos) (newN S dst) G G' b=some (n,[])→G b=some (n,[])∧∀k,k<off∨off+ob.row.length≤k→w'.cell? ⟨b,k,none⟩=w.cell? ⟨b,k,none⟩:=by
  intro hnb b off _ hg;rcases A.boxFrom hN hg with ⟨h1,h2⟩|⟨k,o,h1,_⟩
  ·exact ⟨h1,fun k _=>cell_of_heap h2 k⟩
  ·exact absurd h1 (hnb k o)
 have hout:(n∉E.cos.flatMap fun c=>c.src.mutName)→∀(k:Nat) (o:Obj),E.cos[k]?≠some ⟨o, .box n⟩:=fun hm k o hk=>hm (List.mem_flatMap.2 ⟨_,List.mem_of_getElem? hk,by simp[Src.mutName]⟩)
 have hother:∀{k0:Nat} {co:CO},E.cos[k0]? =some co→n∈co.src.mutName→(∀m,co.src≠ .box m)→∀(k:Nat) (o:Obj),E.cos[k]?≠some ⟨o, .box n⟩:=fun {k0 co} hk0 hm hb k o hk=>by
  have:=zdN A.nodup hk0 hk hm (by simp[Src.mutName])
  subst this;rw[hk0]at hk;exact hb n (by rw[Option.some.inj hk])
 cases A.fate hn hc us hob hN with
 |same hm hx hpl=>
  rw[hx]at ho;obtain rfl:=Option.some.inj ho;exact ⟨ob0,hob,rfl,rfl,by rw[hpl],fun _=>rfl,fun _ _=>hpl,key (hout hm)⟩
 |froz hm hr hx hpl=>
  rw[hx]at ho;obtain rfl:=Option.some.inj ho;exact ⟨ob0,hob,rfl,rfl,by rw[hpl],fun h=>absurd h hr,fun _ _=>hpl,key (hout hm)⟩
 |dead hm hf hb hr hx hpl=>rw[hx]at ho;simp at ho
 |box k ob1 hk h1 hfit hx hpl=>
  rw[hx]at ho;obtain rfl:=Option.some.inj ho;have hlt:=A.klt hk;have hnr:=hro hk (by simp[Src.mutName])
  obtain ⟨_,hkk,hll,_,_⟩:=zci hfit;obtain ⟨_,hbk,hpk⟩:=A.co k _ hk;have hpk:plc k=pl n:=hpk;have hbk:ob0.kind= .box∨ob0.kind.isBld=true:=hbk;obtain ⟨_,_,_,_,hb,_⟩:=A.left.start k ob1 hlt h1 (by rw[hkk];exact hnr)
  have hb:(pl' k).base=(plc k).base:=hb;refine ⟨ob0,hob,hkk.symm,hll.symm,by rw[hpl,hb,hpk],fun h=>absurd (hkk▸h) hnr,fun h h'=>by rcases hbk with h1|h1;exact absurd (hkk.trans h1) h;rw[hkk,h1]at h';exact absurd h' (by simp),fun b off hbase hg=> ?_⟩
  rcases A.boxFrom hN hg with ⟨g1,g2⟩|⟨k',o,g1,g2⟩
  ·exact ⟨g1,fun k _=>cell_of_heap g2 k⟩
  ·have:=zdN A.nodup hk g1 (n:=n) (by simp[Src.mutName]) (by simp[Src.mutName])
   subst this
   obtain ⟨b0,off0,e1,e2⟩:∃b0 off0,(pl n).base=some ⟨b0,off0,none⟩∧G b0=some (n,[]):=by
    rcases hbk with h1|h1
    ·obtain ⟨b0,off0,cs,ty,e1,e2,_⟩:=(A.inv.objs n ob0 hob hnr).box h1
     exact ⟨b0,off0,e1,e2⟩
    ·obtain ⟨t,e,h1⟩:=zqi h1
     obtain ⟨b0,_,_,_,_,e2⟩:=(A.inv.objs n ob0 hob hnr).bld t e h1;exact ⟨b0,0,e2.base,e2.box⟩
   rw[hbase]at e1;simp only[Option.some.injEq,Addr.mk.injEq]at e1;obtain ⟨rfl,rfl,_⟩:=e1;exact ⟨e2,fun j hj=>A.left.out k b off ob1 hlt h1 g2 (by rw[hb,hpk];exact hbase) j hj⟩
 |row k p cob ob1 hk hp hx hpl=>
  rw[hx]at ho;obtain rfl:=Option.some.inj ho;exact ⟨ob0,hob,rfl,(zfv hp _ _).1.symm,by rw[hpl],fun h=>absurd h (hro hk (by simp[Src.mutName])),fun _ _=>hpl,key (hother hk (by simp[Src.mutName]) (by simp))⟩
 |sl k p c cob es hk hx hpl=>
  rw[hx]at ho;obtain rfl:=Option.some.inj ho;refine ⟨ob0,hob,rfl,(zby _ _ _ fun h=>by subst h;simp[zaj]).symm,by rw[hpl],fun h=>absurd h (hro hk (by simp[Src.mutName])),fun _ _=>hpl,key (hother hk (by simp[Src.mutName]) (by simp))⟩
 |mv k p c cob hk hx hpl=>
  rw[hx]at ho;obtain rfl:=Option.some.inj ho;refine ⟨ob0,hob,rfl,(zby _ _ _ fun h=>by subst h;simp[zaj]).symm,by rw[hpl],fun h=>absurd h (hro hk (by simp[Src.mutName])),fun _ _=>hpl,key (hother hk (by simp[Src.mutName]) (by simp))⟩
 |grpm k cs cob hk hx hpl=>
  rw[hx]at ho;obtain rfl:=Option.some.inj ho;exact ⟨ob0,hob,rfl,(zm0 cs ob0.row).symm,by rw[hpl],fun h=>absurd h (hro hk (by simp[Src.mutName])),fun _ _=>hpl,key (hother hk (by simp[Src.mutName]) (by simp))⟩
 |grp k cs cob r hk hx hpl=>
  rw[hx]at ho;obtain rfl:=Option.some.inj ho;exact ⟨ob0,hob,rfl,(zfa cs r ob0.row).symm,by rw[hpl],fun h=>absurd h (hro hk (by simp[Src.mutName])),fun _ _=>hpl,key (hother hk (by simp[Src.mutName]) (by simp))⟩
theorem Aft.newVirt(A:Aft W0 G0 S w tm G pl E plc rs w' v rv G' pl' (froz rs.cells E.cos) (newN S dst)){us:Nat→Value}{d:Nat}(hN:newN S dst=some d)(hfc:zac rs.cells rv.cells=true)
 (ht:∀i (h:i<rv.cells.length),TCOk ⟨gIn E G,obOf (E.cos.map (·.ob)),plc,S.gl⟩ w' G' (obOf rv.objs) pl' (E.cos.map (·.ob)).length i (us i) (rv.cells[i])):
 ObjRel w' (gOut E (froz rs.cells E.cos) (newN S dst) G G') d (plOut E (newN S dst) us pl pl' d) ⟨.virt,zeg rs.cells rv.cells,impFl rs.cells⟩:=by
 have hl1:(zeg rs.cells rv.cells).length=rs.cells.length:=by simp[zeg]
 have hl2:(impFl rs.cells).length=rs.cells.length:=by simp[impFl]
 simp only[zac,Bool.and_eq_true,beq_iff_eq,List.all_eq_true]at hfc;obtain ⟨hlen,hall⟩:=hfc;refine {bld:= .not rfl,fl:=by simp[hl1,hl2],rel:=fun c hc=> ?_,box:=fun h=>by simp at h}
 have hc':c<rs.cells.length:=by rw[←hl1];exact hc
 have hcr:c<rv.cells.length:=by omega
 have hrc:rs.cells[c]? =some (rs.cells[c]):=List.getElem?_eq_getElem hc';have hfit:=hall (rs.cells[c],c) (List.mem_zipIdx_iff_getElem?.2 hrc);have hgd:rv.cells.getD c .d=rv.cells[c]:=by simp[List.getD,hcr]
 simp only[hgd]at hfit
 have hrow:(zeg rs.cells rv.cells)[c]'hc=(match rs.cells[c]with| .own _=> .s (rv.cells[c]).es|_=> .h):=by
  simp only[zeg,List.getElem_map,List.getElem_zipIdx,Nat.zero_add,hgd];cases rs.cells[c]<;>rfl
 have hfl:(impFl rs.cells).getD c .sh=(match rs.cells[c]with| .own wn=>wn|_=> .sh):=by
  simp only[impFl,List.getD,List.getElem?_map,hrc,Option.map_some,Option.getD_some];rfl
 have hhd:(plOut E (newN S dst) us pl pl' d).hd c=us c:=by simp only[plOut,if_pos hN]
 show Rel w' (fun π b=>QCell _ d c ((impFl rs.cells).getD c .sh) π b) _ ((zeg rs.cells rv.cells)[c]'hc)
 rw[hrow,hfl,hhd];have ht:=ht c hcr
 revert hfit ht
 generalize rv.cells[c]=tc;generalize hr:rs.cells[c]=r;rw[hr]at hrc;intro hfit ht;cases r with
 |own wn=>
  cases tc with
  |o wo es=>
   have hw:wn=wo:=by simpa[R1.fits]using hfit
   subst hw;have ht:Rel w' (QCell G' (E.cos.map (·.ob)).length c wn) (us c) (.s es):=ht
   rw[List.length_map]at ht
   have hbk:∀b π,G' b=some (E.cos.length,π)→gOut E (froz rs.cells E.cos) (newN S dst) G G' b=some (d,π):=fun b π h=>by
    rw[A.back h (Nat.le_refl _)];exact ziP hN
   refine ht.mono fun π b hq=> ?_
   cases wn with
   |deep=>exact hbk b _ hq
   |top=>
    simp only[QCell]at hq⊢;by_cases hπ:π=[]
    ·rw[if_pos hπ]at hq⊢;exact hbk b _ hq
    ·rw[if_neg hπ]at hq⊢;exact A.gone (zgr hrc rfl) hq
   |sh=>exact A.gone (zgr hrc rfl) hq
  |v x=>simp[R1.fits]at hfit
  |s es=>simp[R1.fits]at hfit
  |p ok j p c=>simp[R1.fits]at hfit
  |d=>simp[R1.fits]at hfit
 |int k=>exact .h _ _
 |bool=>exact .h _ _
 |str=>exact .h _ _
 |sh=>exact .h _ _
 |ptr j=>exact .h _ _
 |any=>exact .h _ _
theorem Aft.newBox{fs:List R1}(A:Aft W0 G0 S w tm G pl E plc (.fresh fs) w' v rv G' pl' (froz (RS.fresh fs).cells E.cos) (newN S dst)){us:Nat→Value}{d:Nat}(hN:newN S dst=some d)(hfc:zac (RS.fresh fs).cells rv.cells=true)
 (hf:Fresh w' G' (E.cos.map (·.ob)).length (.fresh fs) v us rv.cells) (hok:(rv.cells.getD fs.length .d).bool=true)
 (ht:∀i (h:i<rv.cells.length),TCOk ⟨gIn E G,obOf (E.cos.map (·.ob)),plc,S.gl⟩ w' G' (obOf rv.objs) pl' (E.cos.map (·.ob)).length i (us i) (rv.cells[i])):
 ObjRel w' (gOut E (froz (RS.fresh fs).cells E.cos) (newN S dst) G G') d (plOut E (newN S dst) us pl pl' d) ⟨.box,zgG fs rv.cells,impFl fs⟩:=by
 have hl1:(zgG fs rv.cells).length=fs.length:=by simp[zgG]
 have hl2:(impFl fs).length=fs.length:=by simp[impFl]
 simp only[zac,Bool.and_eq_true,beq_iff_eq,List.all_eq_true]at hfc;obtain ⟨hlen,hall⟩:=hfc;have hlen':fs.length+1=rv.cells.length:=by rw[←hlen];simp[RS.cells]
 have hbk:∀b π,G' b=some (E.cos.length,π)→gOut E (froz (RS.fresh fs).cells E.cos) (newN S dst) G G' b=some (d,π):=fun b π h=>by
  rw[A.back h (Nat.le_refl _)];exact ziP hN
 simp only[Fresh,hok,if_true,List.length_map]at hf;obtain ⟨b,off,cs,ty,hv,hus,hG,hh,hsz,hcs⟩:=hf;refine {bld:= .not rfl,fl:=by simp[hl1,hl2],rel:=fun c hc=> ?_,box:=fun _=>⟨b,off,cs,ty, ?_,hbk b [] hG,hh,by rw[hl1];exact hsz,fun c hc=> ?_⟩}
 ·have hc':c<fs.length:=by rw[←hl1];exact hc
  have hcr:c<rv.cells.length:=by omega
  have hrc:(RS.fresh fs).cells[c]? =some (fs[c]):=by
   show (fs++[R1.bool])[c]? =_;rw[List.getElem?_append_left hc',List.getElem?_eq_getElem hc']
  have hfit:=hall (fs[c],c) (List.mem_zipIdx_iff_getElem?.2 hrc);have hgd:rv.cells.getD c .d=rv.cells[c]:=by simp[List.getD,hcr]
  simp only[hgd]at hfit
  have hrow:(zgG fs rv.cells)[c]'hc=(match fs[c]with
   | .int k=> .v (.int k (rv.cells[c]).int)
   | .bool=> .v (.bool (rv.cells[c]).bool)
   | .str=> .v (.string (rv.cells[c]).str)
   | .own _=> .s (rv.cells[c]).es
   | .sh=> .s (rv.cells[c]).es
   |_=> .h):=by
   simp only[zgG,List.getElem_map,List.getElem_zipIdx,Nat.zero_add,hgd];cases fs[c]<;>rfl
  have hfl:(impFl fs).getD c .sh=(match fs[c]with| .own wn=>wn|_=> .sh):=by
   simp only[impFl,List.getD,List.getElem?_map,List.getElem?_eq_getElem hc',Option.map_some,Option.getD_some];rfl
  have hhd:(plOut E (newN S dst) us pl pl' d).hd c=us c:=by simp only[plOut,if_pos hN]
  show Rel w' (fun π b=>QCell _ d c ((impFl fs).getD c .sh) π b) _ ((zgG fs rv.cells)[c]'hc)
  rw[hrow,hfl,hhd];have ht:=ht c hcr
  revert hfit ht
  generalize rv.cells[c]=tc;generalize hr:fs[c]=r;rw[hr]at hrc;intro hfit ht;cases r with
  |own wn=>
   cases tc with
   |o wo es=>
    have hw:wn=wo:=by simpa[R1.fits]using hfit
    subst hw;have ht:Rel w' (QCell G' (E.cos.map (·.ob)).length c wn) (us c) (.s es):=ht
    rw[List.length_map]at ht;refine ht.mono fun π b hq=> ?_
    cases wn with
    |deep=>exact hbk b _ hq
    |top=>
     simp only[QCell]at hq⊢;by_cases hπ:π=[]
     ·rw[if_pos hπ]at hq⊢;exact hbk b _ hq
     ·rw[if_neg hπ]at hq⊢;exact A.gone (zgr hrc rfl) hq
    |sh=>exact A.gone (zgr hrc rfl) hq
   |v x=>simp[R1.fits]at hfit
   |s es=>simp[R1.fits]at hfit
   |p ok j p c=>simp[R1.fits]at hfit
   |d=>simp[R1.fits]at hfit
  |int k=>
   rw[zkN hfit]at ht;have ht:us c= .int k tc.int:=ht;rw[ht];exact .v _ _
  |bool=>
   rw[ziS hfit]at ht;have ht:us c= .bool tc.bool:=ht;rw[ht];exact .v _ _
  |str=>
   rw[zkO hfit]at ht;have ht:us c= .string tc.str:=ht;rw[ht];exact .v _ _
  |sh=>
   cases tc with
   |s es=>
    have ht:Rel w' (QSh G') (us c) (.s es):=ht;exact ht.mono fun π b hq=>A.gone (zgr hrc rfl) hq
   |v x=>simp[R1.fits]at hfit
   |o wo es=>simp[R1.fits]at hfit
   |p ok j p c=>simp[R1.fits]at hfit
   |d=>simp[R1.fits]at hfit
  |ptr j=>exact .h _ _
  |any=>exact .h _ _
 ·simp only[plOut,if_pos hN,hus,hv]
 ·have hc':c<fs.length:=by rw[←hl1];exact hc
  simp only[plOut,if_pos hN];exact hcs c hc'
theorem Aft.newObj(A:Aft W0 G0 S w tm G pl E plc rs w' v rv G' pl' (froz rs.cells E.cos) (newN S dst)){us:Nat→Value}{d:Nat}(hN:newN S dst=some d)(hfc:zac rs.cells rv.cells=true)
 (hres:ResAt rs v us∨Fresh w' G' (E.cos.map (·.ob)).length rs v us rv.cells)
 (ht:∀i (h:i<rv.cells.length),TCOk ⟨gIn E G,obOf (E.cos.map (·.ob)),plc,S.gl⟩ w' G' (obOf rv.objs) pl' (E.cos.map (·.ob)).length i (us i) (rv.cells[i])) {ob:Obj} (ho:PV.newObj rs rv.cells=some ob):
 ObjRel w' (gOut E (froz rs.cells E.cos) (newN S dst) G G') d (plOut E (newN S dst) us pl pl' d) ob:=by
 cases rs with
 |fresh fs=>
  simp only[PV.newObj]at ho;cases hok:(rv.cells.getD fs.length .d).bool with
  |false=>rw[hok]at ho;simp at ho
  |true=>
   rw[hok]at ho;obtain rfl:=Option.some.inj ho;exact A.newBox hN hfc (hres.resolve_left id) hok ht
 |none=>obtain rfl:=Option.some.inj ho;exact A.newVirt hN hfc ht
 |one r=>obtain rfl:=Option.some.inj ho;exact A.newVirt hN hfc ht
 |agg rs=>obtain rfl:=Option.some.inj ho;exact A.newVirt hN hfc ht
 |tup cs=>obtain rfl:=Option.some.inj ho;exact A.newVirt hN hfc ht
theorem Aft.hV0(A:Aft W0 G0 S w tm G pl E plc rs w' v rv G' pl' (froz rs.cells E.cos) (newN S dst)){vs:List AV}(hn:NamesOk (S.foot vs) E)(hc:za3 E.cos rv.objs=true){us:Nat→Value}{d:Tmp}(hd:dst=some d)
 (hfc:zac rs.cells rv.cells=true) (hres:ResAt rs v us) (hno:PV.newObj rs rv.cells=some ⟨.virt,zeg rs.cells rv.cells,impFl rs.cells⟩) (hnv:zhD (froz rs.cells E.cos) E.cos (S.na+d) rs rv.cells=zmN rs (zdu (froz rs.cells E.cos) E.cos (S.na+d) rs.cells rv.cells))
 (ht:∀i (h:i<rv.cells.length),TCOk ⟨gIn E G,obOf (E.cos.map (·.ob)),plc,S.gl⟩ w' G' (obOf rv.objs) pl' (E.cos.map (·.ob)).length i (us i) (rv.cells[i])):
 VAV w' (gOut E (froz rs.cells E.cos) (newN S dst) G G') (S.put dst (zb8 (S.foot vs) E rs rv S.na dst)).obj (plOut E (newN S dst) us pl pl') v (zb8 (S.foot vs) E rs rv S.na dst).val:=by
 subst hd;have hN:newN S (some d)=some (S.na+d):=rfl;have hlt:=(A.new _ hN).2;have hfc0:=hfc;simp only[zac,Bool.and_eq_true,beq_iff_eq,List.all_eq_true]at hfc;obtain ⟨hlen,hall⟩:=hfc;have hli:(zdu (froz rs.cells E.cos) E.cos (S.na+d) rs.cells rv.cells).length=rs.cells.length:=by simp[zdu]
 show VAV _ _ _ _ v (zhD _ _ _ _ _);rw[hnv];refine zoJ hres hli fun i hi=> ?_
 have hi':i<rs.cells.length:=by rw[←hli];exact hi
 have hir:i<rv.cells.length:=by omega
 have hrc:rs.cells[i]? =some (rs.cells[i]):=List.getElem?_eq_getElem hi';have hgd:rv.cells.getD i .d=rv.cells[i]:=by simp[List.getD,hir]
 have hfit:=hall (rs.cells[i],i) (List.mem_zipIdx_iff_getElem?.2 hrc);simp only[hgd]at hfit
 have he:(zdu (froz rs.cells E.cos) E.cos (S.na+d) rs.cells rv.cells)[i]'hi=zgf (froz rs.cells E.cos) E.cos (S.na+d) (rs.cells[i]) (rv.cells[i]) i:=by
  simp only[zdu,List.getElem_map,List.getElem_zipIdx,Nat.zero_add,hgd]
 rw[he];refine A.cell hn hc hN ((zl7 hlt).trans hno) (fun n hne=>zgt (fun h=>hne (by rw[hN]at h;exact (Option.some.inj h).symm))) (fun wn hw=> ?_) hfit hrc (ht i hir)
 have hl1:(zeg rs.cells rv.cells).length=rs.cells.length:=by simp[zeg]
 refine ⟨by rw[hl1];exact hi', ?_⟩
 have:i<(zeg rs.cells rv.cells).length:=by rw[hl1];exact hi'
 rw[List.getD_eq_getElem?_getD,List.getElem?_eq_getElem this,Option.getD_some];simp only[zeg,List.getElem_map,List.getElem_zipIdx,Nat.zero_add,hgd,hw]
theorem Aft.hV(A:Aft W0 G0 S w tm G pl E plc rs w' v rv G' pl' (froz rs.cells E.cos) (newN S dst)){vs:List AV}(hn:NamesOk (S.foot vs) E)(hc:za3 E.cos rv.objs=true){us:Nat→Value}{d:Tmp}(hd:dst=some d)
 (hfc:zac rs.cells rv.cells=true) (hres:ResAt rs v us∨Fresh w' G' (E.cos.map (·.ob)).length rs v us rv.cells)
 (ht:∀i (h:i<rv.cells.length),TCOk ⟨gIn E G,obOf (E.cos.map (·.ob)),plc,S.gl⟩ w' G' (obOf rv.objs) pl' (E.cos.map (·.ob)).length i (us i) (rv.cells[i])):
 VAV w' (gOut E (froz rs.cells E.cos) (newN S dst) G G') (S.put dst (zb8 (S.foot vs) E rs rv S.na dst)).obj (plOut E (newN S dst) us pl pl') v (zb8 (S.foot vs) E rs rv S.na dst).val:=by
 cases rs with
 |fresh fs=>
  subst hd;have hN:newN S (some d)=some (S.na+d):=rfl;have hlt:=(A.new _ hN).2;have hf:=hres.resolve_left id;have hrn:=zl7 (E:=E) (rs:= .fresh fs) (rv:=rv) (F:=S.foot vs) hlt;show VAV _ _ _ _ v (zhD (froz (RS.fresh fs).cells E.cos) E.cos (S.na+d) (.fresh fs) rv.cells);simp only[Fresh,List.length_map]at hf;simp only[zhD];simp only[PV.newObj]at hrn;cases hok:(rv.cells.getD fs.length .d).bool with
  |false=>
   rw[hok]at hf;have hf:v= .pointer none:=by simpa using hf
   exact hf
  |true=>
   rw[hok]at hf hrn;obtain ⟨b,off,cs,ty,hv,hus,_⟩:=hf;refine ⟨⟨b,off,none⟩,_,{at0:=hrn,path:=trivial,at_:= ?_,spot:=rfl,ro:=fun h=>by simp at h,virt:=fun _=>by simp},hv⟩
   simp only[zaD,plOut,if_pos hN,hus,hv]
 |none=>exact A.hV0 hn hc hd hfc (hres.resolve_right id) rfl rfl ht
 |one r=>exact A.hV0 hn hc hd hfc (hres.resolve_right id) rfl rfl ht
 |agg rs=>exact A.hV0 hn hc hd hfc (hres.resolve_right id) rfl rfl ht
 |tup cs=>exact A.hV0 hn hc hd hfc (hres.resolve_right id) rfl rfl ht
end aft
end Go.PV
namespace Go.PV
open Go.RowKit
section ops
variable {X:Ctx}{W0:World}{G0:Orig}{S:St}{w:World}{a:Act}{G:Ghost}{pl:zaP}{mv:Bool}{dst:Option Tmp}{ty:TypeId}{pos:String}{af:Array Edge}{gd:Option (Nat×Bool)}{e:Rec}
theorem zoN(I:Inv W0 G0 S w a.tmps G pl)(args:Array Operand){caps:List A1}{arr:Array Value}(hv:∀i (h:i<caps.length),V1 w G S.obj pl (arr.getD i undef) (caps[i])):
 ∀j (h:j<(args.toList.map S.ev++caps.map AV.one).length),VAV w G S.obj pl ((args.map a.eval++arr).getD j undef) ((args.toList.map S.ev++caps.map AV.one)[j]):=by
 intro j hj;by_cases h1:j<args.size
 ·have h2:j<(args.toList.map S.ev).length:=by simpa using h1
  rw[List.getElem_append_left h2]
  have h3:(args.map a.eval++arr).getD j undef=a.eval args[j]:=by
   rw[Array.getD_eq_getD_getElem?,Array.getElem?_append_left (by simpa using h1)]
   simp[h1]
  rw[h3];simp only[List.getElem_map,Array.getElem_toList];exact I.ev _
 ·have h2:(args.toList.map S.ev).length≤j:=by simp;omega
  rw[List.getElem_append_right h2];have h4:j-args.size<caps.length:=by simp at hj;omega
  have h3:(args.map a.eval++arr).getD j undef=arr.getD (j-args.size) undef:=by
   rw[Array.getD_eq_getD_getElem?,Array.getElem?_append_right (by simp;omega),Array.getD_eq_getD_getElem?]
   simp
  rw[h3];have h5:(caps.map AV.one)[j-(args.toList.map S.ev).length]'(by simp at hj⊢;omega)= .one (caps[j-args.size]):=by simp
  rw[h5];exact hv _ h4
theorem zrV(hX:zfl X G0.gl)(I:Inv W0 G0 S w a.tmps G pl)(hd:∀d,dst=some d→d<S.t.length)(fx:Operand)(args:Array Operand)(ts:Array TypeId)
 (h:S.opK X mv ⟨dst, .call ⟨.value fx,args,ts⟩,ty,pos,af,gd⟩ some=some e):
 OpOk X.P W0 G0 S w a ⟨dst, .call ⟨.value fx,args,ts⟩,ty,pos,af,gd⟩ e:=by
 have hvals:S.vals ⟨dst, .call ⟨.value fx,args,ts⟩,ty,pos,af,gd⟩=S.ev fx::args.toList.map S.ev:=by
  simp[St.vals,Op.operands,Call.operands]
 unfold St.opK at h;rw[hvals]at h;simp only[effK]at h;split at h
 case h_6=>simp at h
 case h_1=>injections
 case h_2=>injections
 case h_3=>injections
 case h_4=>injections
 case h_5=>
  rename_i fy f caps vs hc hv2;injection hv2 with hf0 hvs
  subst hvs;have hfv:=I.ev fx;rw[hf0]at hfv;obtain ⟨arr,hfe,hsz,hcaps⟩:=hfv;obtain ⟨as,E,rv,hxp,hok,hcall,hfc,hfco,rfl⟩:=ziU h;obtain ⟨⟨fn,h1,h2,h3⟩,hrun⟩:=hX f as _ rv hcall;rw[←I.gl]at hrun;have hF:∀n ob,fget (S.foot (AV.f f caps::args.toList.map S.ev)) n=some ob→S.obj n=some ob:=fun n ob=>zcs S _ n ob
  rw[hf0]at hxp;have hnames:=zjB _ (NamesOk.empty _) hxp;obtain ⟨plc,hent,hco⟩:=zqA I hF (args:=args.map a.eval++arr) (by simp[hsz]) (zoN I args hcaps) hxp hok
  intro next Q hn;unfold Oper.wp;rw[zqD hfe h1 h2 h3,Oper.upon_enter];refine (hrun w _ plc _ hent).mono fun en w' hen=> ?_
  obtain ⟨v,G',pl',rfl,hleft⟩:=hen;obtain ⟨us,hres,ht⟩:=hleft.res
  have A:Aft W0 G0 S w a.tmps G pl E plc (X.sig f).res w' v rv G' pl' (froz (X.sig f).res.cells E.cos) (newN S dst):=
   {inv:=I,ok:=hok,bor:=fun n hb=>by obtain ⟨ob,h,h2⟩:=hnames.bor n hb;exact ⟨ob,hF n ob h,h2⟩,co:=hco,left:=hleft
    new:=fun n hN=>by
     cases dst with
     |none=>simp[newN]at hN
     |some d=>
      simp only[newN,Option.map_some,Option.some.injEq]at hN;have h5:=hd d rfl;have h6:=I.olen;subst hN;exact ⟨by omega,by rw[h6];exact Nat.add_lt_add_left h5 _⟩}
  simp only[hf0]at hn;refine hn w' v (gOut E (froz (X.sig f).res.cells E.cos) (newN S dst) G G') (plOut E (newN S dst) us pl pl') ?_
  have hput:S.put dst (zb8 (S.foot (AV.f f caps::args.toList.map S.ev)) E (X.sig f).res rv S.na dst)=S.put0 dst (zb8 (S.foot (AV.f f caps::args.toList.map S.ev)) E (X.sig f).res rv S.na dst):=by
   unfold St.put;rw[zl5]
  show Inv W0 G0 (S.put dst (zb8 (S.foot (AV.f f caps::args.toList.map S.ev)) E (X.sig f).res rv S.na dst)) _ _ _ _;rw[hput]
  refine Inv.step I dst _ v A.base (fun x hx=>rec_lv dst hx) (fun n=>A.hF hnames hfco us n) (fun n=>A.hR hnames hfco us n) (fun n=>A.hP hnames hfco us n) (fun n ob ho hk=> ?_) A.hOwn A.hDom (fun b π h=>A.foreign h)
   (fun n ob hna ho=>A.hX hnames hfco us n ob hna ho) hleft.os hleft.output hleft.tape hleft.hsize (fun hdn=> ?_)
  ·have ho:(S.put dst (zb8 (S.foot (AV.f f caps::args.toList.map S.ev)) E (X.sig f).res rv S.na dst)).obj n=some ob:=ho
   by_cases hN:newN S dst=some n
   ·cases dst with
    |none=>simp[newN]at hN
    |some d=>
     have hN0:=hN;simp only[newN,Option.map_some,Option.some.injEq]at hN;subst hN;rw[zl7 (A.new _ hN0).2]at ho;exact A.newObj hN0 hfc hres ht ho
   ·rw[zgt hN]at ho
    exact A.objsOk hnames hfco us ho hk hN
  ·cases dst with
   |none=>exact absurd rfl hdn
   |some d=>exact A.hV hnames hfco rfl hfc hres ht
end ops
end Go.PV
