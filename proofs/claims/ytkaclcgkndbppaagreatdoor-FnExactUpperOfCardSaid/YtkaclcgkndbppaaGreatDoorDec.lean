/- A part of the proof: PvRow2, PvRow3, PvRow4, PvDoor, PvDec, PvDecR. -/
import Derived.Test.YtkaclcgkndbppaaGreatDoorPvC
import Derived.KernelRfl
import Derived.WalkKit
import Derived.ProofKit
import Derived.OpenShut
import Derived.ShutString
import Derived.ChangeOld
import Derived.SizedLaws
import Derived.Carry
import Derived.OpenVars
import Derived.SliceStrings
import Derived.Lib.LaidTab
import Derived.Lib.ItoaMem
import Derived.LaidMore
import Derived.Lay
import Derived.Stop.Joined
import Derived.SevenTiedAt
import Derived.Stop.LaidErr
import Derived.HandedShaped
import Derived.Shelf.Vars
import Derived.Test.YtkaclcgkndbppaaGreatDoorTy
import Derived.Test.YtkaclcgkndbppaaGreatDoorTup
set_option linter.unusedSimpArgs false
set_option linter.unusedVariables false
namespace Go.PV
open Go.ChangeShapes Go.WideShapes Go.ChangeAt Go.RowKit
def a1Of:D→A1
 | .v x=> .v x
 | .s es=> .s es
 | .h=> .dead
 | .u _=> .dead
def avRow(P:Program)(t:TypeId)(row:List D):AV:=if aggB P t then .g (row.map a1Of)else .one (a1Of (row.getD 0 .h))
def ArgD(P:Program)(t:TypeId)(x:AV):Prop:=∃f row,okD P f t row∧x=avRow P t row
theorem v1_of{w:World}{obs:Obs}{pl:zaP}{u:Value}{d:D}(h:Rel w (QSh noG) u d):V1 w noG obs pl u (a1Of d):=by
 cases d with
 |v x=>exact Rel.val h
 |s es=>exact h
 |h=>exact trivial
 |u t=>exact trivial
theorem vav_of{w:World}{P:Program}{ts:List TypeId}(hp:plainB P ts=true){f base:Nat}{t:TypeId}(ht:t∈ts){v:Value}{row:List D}(R:Row w P f t v.cells.toList row)(hv:Value.okWide P w .any base t v)(obs:Obs)(pl:zaP):
 VAV w noG obs pl v (avRow P t row):=by
 have hpt:=List.all_eq_true.1 hp t ht;unfold avRow aggB
 have hone:v.cells= #[v]→VAV w noG obs pl v (.one (a1Of (row.getD 0 .h))):=fun hc=>by
  have:=R.rel 0 (by rw[hc];simp)
  rw[hc]at this;exact v1_of this
 split at hpt
 case h_1 k hu=>
  obtain ⟨n,rfl⟩:=okWide_int hu hv;rw[hu];exact hone rfl
 case h_2 hu=>
  obtain ⟨n,rfl⟩:=okWide_bool hu hv;rw[hu];exact hone rfl
 case h_3 hu=>
  obtain ⟨n,rfl⟩:=okWide_string hu hv;rw[hu];exact hone rfl
 case h_4 e hu=>
  obtain ⟨a,l,c,rfl⟩:=okWide_slice hu hv;rw[hu];exact hone rfl
 case h_5 fs hu=>
  obtain ⟨cs,rfl,hc⟩:=okWide_struct hu hv;rw[hu];have hl:row.length=cs.size:=by have:=R.len;simpa[Value.cells]using this
  refine ⟨cs,rfl,by simp[hl],fun i hi=> ?_⟩
  have hi2:i<row.length:=by simpa using hi
  have:=R.rel i (by simp only[Value.cells,Array.length_toList];omega)
  simp only[Value.cells]at this;have e1:cs.toList.getD i undef=cs.getD i undef:=by simp[List.getD,Array.getD_eq_getD_getElem?]
  rw[e1,List.getD_eq_getElem?_getD,List.getElem?_eq_getElem hi2]at this;simp only[List.getElem_map];exact v1_of this
 case h_6=>simp at hpt
section
variable {H:Type}{enc:TypeId×Value→H}{P:Program}{W:World}
theorem zsO{ts:List TypeId}(hp:plainB P ts=true){base:Nat}:∀(ts0:List TypeId) (vs:List Value) (ds:List (DataW H)) (ps:List MemPlace),DataW.TrodAll enc P W 0 (fun _=>true) true ts0 vs ds ps→(∀t∈ts0,t∈ts)→
 (∀(j:Nat) (t:TypeId) (v:Value),ts0[j]? =some t→vs[j]? =some v→Value.okWide P W .any base t v)→
 ds.length=ts0.length∧vs.length=ts0.length∧∃xs:List AV,xs.length=ts0.length∧∀i (hi:i<xs.length),(∀obs pl,VAV W noG obs pl (vs.getD i undef) (xs[i]))∧ArgD P (ts0.getD i 0) (xs[i]):=by
 intro ts0
 induction ts0 with
 |nil=>
  intro vs ds ps h _ _;obtain ⟨rfl,rfl,rfl⟩:=trodAll_nil h;exact ⟨rfl,rfl,[],rfl,fun i hi=>by simp at hi⟩
 |cons t ts0 ih=>
  intro vs ds ps h hin hok;obtain ⟨v,vs',d,ds',p,q,rfl,rfl,rfl,⟨m,hm⟩,hr⟩:=trodAll_cons h;obtain ⟨h1,h2,xs,h3,h4⟩:=ih vs' ds' q hr (fun t ht=>hin t (List.mem_cons_of_mem _ ht)) (fun j t v hj hv=>hok (j+1) t v (by simpa using hj) (by simpa using hv))
  obtain ⟨row,R⟩:=trod_D hp m t _ _ _ (hin t (by simp)) hm
  refine ⟨by simp[h1],by simp[h2],avRow P t row::xs,by simp[h3],fun i hi=> ?_⟩
  cases i with
  |zero=>exact ⟨fun obs pl=>vav_of hp (hin t (by simp)) R (hok 0 t v rfl rfl) obs pl,m,row,R.ok,rfl⟩
  |succ i=>exact h4 i (by simpa using hi)
theorem zsP(lo:laidOutB P=true){W':World}(bel:Below W.heap.size W W'):∀(ts0:List TypeId) (vs:List Value) (ds:List (DataW H)) (ps:List MemPlace),DataW.TrodAll enc P W 0 (fun _=>true) true ts0 vs ds ps→
 (∀t∈ts0,P.readableRec t=true∧t<P.types.size)→DataW.TrodAll enc P W' 0 (fun b=>decide (b<W.heap.size)) true ts0 vs ds ps:=by
 intro ts0
 induction ts0 with
 |nil=>
  intro vs ds ps h _;obtain ⟨rfl,rfl,rfl⟩:=trodAll_nil h;exact trodAll_mk0
 |cons t ts0 ih=>
  intro vs ds ps h hin;obtain ⟨v,vs',d,ds',p,q,rfl,rfl,rfl,hd,hr⟩:=trodAll_cons h;have lt:∀x∈p,x.block<W.heap.size:=by obtain ⟨m,hm⟩:=hd;exact DataW.trod_lt m _ _ _ hm
  exact trodAll_cons_mk (Below.trod lo (hin t (by simp)).1 (hin t (by simp)).2 hd bel lt) (ih vs' ds' q hr fun t ht=>hin t (List.mem_cons_of_mem _ ht))
end
theorem zqg(Y:Prm)(hext:∀f F,Y.ext f=some F→ExtOk Y f F){f:FuncId}{xs:List AV}(h:lim' Y f xs []=some ⟨[.v (.bool true)],[]⟩)(hsig:(Y.sig f).res= .one .bool){w:World}{args:Array Value}(hsz:args.size=xs.length)
 (hgl:GlOk Y.gl w noG) (hv:∀i (h:i<xs.length),VAV w noG (obOf []) (fun _=>⟨none,fun _=>undef⟩) (args.getD i undef) (xs[i])):Calls Y.P f args w fun e w'=>e= .returned (.bool true)∧Below w.heap.size w w':=by
 have hok:=lim_ok Y hext f xs [] _ h;refine (hok.2 w noG (fun _=>⟨none,fun _=>undef⟩) args {size:=hsz,vals:=hv,okObjs:=fun n ob hn=>by simp[obOf]at hn,own:=fun b x h=>by simp at h,nolim:=fun b x h=>by simp at h,glob:=hgl}).mono fun e w' hl=> ?_
 obtain ⟨v,G',pl',rfl,L⟩:=hl;obtain ⟨us,hr,ht⟩:=L.res;have h0:=ht 0 (by simp)
 have hr:v=us 0:=by
  have:ResAt ((Y.sig f).res) v us∨Fresh _ _ _ ((Y.sig f).res) v us _:=hr;rw[hsig]at this;exact this.resolve_right id
 have h0:us 0= .bool true:=h0;rw[hr,h0];exact ⟨rfl,L.os,L.tape,L.output,L.hsize,fun k hk=>(L.base k hk rfl).1⟩
theorem zmJ(Y:Prm)(hext:∀f F,Y.ext f=some F→ExtOk Y f F){H:Type}{enc:TypeId×Value→H}{f:FuncId}{fn:Func}{s:ChangeSpec}{ts ts0:List TypeId}{tb:TypeId}(lo:laidOutB Y.P=true)
 (hpar:fn.params.toList=ts0) (hplain:plainB Y.P ts=true) (hin:∀t∈ts0,t∈ts) (hread:∀t∈ts0,Y.P.readableRec t=true∧t<Y.P.types.size) (hres:fn.resultTypes= #[tb]) (hb:Y.P.underlying tb=some .bool)
 (hvars:s.vars=[]) (hspec:∀ds:List (DataW H),ds.length=ts0.length→s.fn H ds={results:=[.lit (.bool true)],args:=ds}) (hsig:(Y.sig f).res= .one .bool)
 (hlaw:∀xs:List AV,xs.length=ts0.length→(∀i (hi:i<xs.length),ArgD Y.P (ts0.getD i 0) (xs[i]))→lim' Y f xs []=some ⟨[.v (.bool true)],[]⟩)
 (W:World) (hgl:GlOk Y.gl W noG) (base:Nat) (args:Array Value) (ds gs:List (DataW H)) (before:List MemPlace)
 (hval:∀(j:Nat) t v,fn.params[j]? =some t→args[j]? =some v→Value.okWide Y.P W .any base t v)
 (hW:DataW.Whole enc Y.P fn.params.toList s.vars false W args.toList ds gs before):
 Calls Y.P f args W fun e W'=>∃v,e= .returned v∧s.post enc Y.P fn false true false false W args v W':=by
 have hW':=hW;obtain ⟨p,q,hA,hV,rfl,hfz,hnd⟩:=hW;rw[hvars]at hV;obtain ⟨rfl,rfl⟩:=trodVars_none hV;rw[hpar]at hA
 obtain ⟨h1,h2,xs,h3,h4⟩:=zsO (base:=base) hplain ts0 args.toList ds p hA hin (fun j t v hj hv=>by
  have e:fn.params.toList[j]? =some t:=by rw[hpar];exact hj
  exact hval j t v (by simpa using e) (by simpa using hv))
 have hsz:args.size=xs.length:=by rw[h3,←h2];simp
 have hgd:∀i,args.toList.getD i undef=args.getD i undef:=fun i=>by simp[List.getD,Array.getD_eq_getD_getElem?]
 refine (zqg Y hext (hlaw xs h3 fun i hi=>(h4 i hi).2) hsig hsz hgl fun i hi=> ?_).mono fun e W' ⟨he,bel⟩=> ?_
 ·have:=(h4 i hi).1 (obOf []) (fun _=>⟨none,fun _=>undef⟩)
  rwa [hgd]at this
 ·subst he
  have hs:=hspec ds h1;refine ⟨_,rfl,ds,[],_,[],p,[],hW', ?_, ?_, ?_,bel.frame _,fun h=>by cases h⟩
  ·rw[List.append_nil,hs,hres]
   exact trodAll_mk1 ⟨1,by simp[DataW.trod,Value.cells,hb]⟩
  ·rw[List.append_nil,hs,hpar]
   exact zsP lo bel ts0 _ _ _ hA hread
  ·rw[List.append_nil,hs,hvars]
   rfl
end Go.PV
namespace Go.PV
open Go.ChangeShapes Go.WideShapes Go.ChangeAt Go.RowKit
end Go.PV
namespace Go.PV
open Go.ChangeShapes Go.WideShapes Go.ChangeAt Go.RowKit Go.WideElems
end Go.PV
namespace Go.PVx
open Go.PV Go.Proofs Go.RowKit
theorem zgW{P:Program}{x:String×DataW Unit}{r:List (String×DataW Unit)}{w:World}(h:laidMet P (x::r) w):laidMet P r w:=by
 obtain ⟨n,d⟩:=x;obtain ⟨ps,⟨g,t,cs,fuel,p,q,hg,ht,hv,hd,hr,rfl⟩,hn,hc⟩:=h;exact ⟨q,hr,(List.nodup_append.1 hn).2.1,fun b off hb=>hc b off (List.mem_append_right _ hb)⟩
theorem pow_ok{P:Program}{W:World}{g:Nat}{n:String}(hg:P.globalNamed n=some g)(ht:Lib.TabIs P W n .u64 Lib.pow10Tab):
 ∃hd,RoOk W noG ⟨none,hd⟩ (Lib.pow10Tab.map fun z=>D.v (.int .u64 z)) ⟨g,0,none⟩∧∃cs ty e,W.heap[g]? =some (.cells cs ty e)∧cs.size=(Lib.pow10Tab.map fun z=>D.v (.int .u64 z)).length:=by
 have hh:∃cs ty e,W.heap[g]? =some (.cells cs ty e)∧cs=(Lib.pow10Tab.map fun z=>Value.int .u64 z).toArray:=by
  have h2:=ht;unfold Lib.TabIs World.var? at h2;rw[hg]at h2;simp only[Option.bind_some]at h2;split at h2
  ·rename_i cs ty e h3
   simp only[Option.some.injEq]at h2;exact ⟨cs,ty,e,h3,h2⟩
  ·simp at h2
 obtain ⟨cs,ty,e,h3,h4⟩:=hh;refine ⟨fun c=> .int .u64 (Lib.pow10Tab.getD c 0),{spot:=rfl,lt:=(Array.getElem?_eq_some_iff.1 h3).1,blk:=rfl,cell:=fun c hc=> ?_,rel:=fun c hc=> ?_},cs,ty,e,h3,by rw[h4];simp⟩
 ·have hc':c<Lib.pow10Tab.length:=by simpa using hc
  rw[Nat.zero_add];exact ht.cell hg c hc'
 ·have hc':c<Lib.pow10Tab.length:=by simpa using hc
  have e1:(Lib.pow10Tab.map fun z=>D.v (.int .u64 z))[c]'hc=D.v (.int .u64 (Lib.pow10Tab.getD c 0)):=by
   simp[List.getD_eq_getElem?_getD,hc']
  rw[e1];exact .v _ _
theorem zmK{H:Type}{enc:TypeId×Value→H}{a:Assume}{C:Checked}{os:Os}{f:FuncId}{fn:Func}{s:ChangeSpec}{conds:List PathCond}{apart fresh handsOn again:Bool}{X:World→Array Value→Prop}
 (hX:∀(w w':World) (args:Array Value),w.heap=w'.heap→X w args→X w' args)
 (own:ownKnob C.prog.godebug=none) (started:os.Started) (noInit:C.prog.inits.idxOf? f=none) (hfn:C.prog.funcs[f]? =some fn)
 (witness:∃(w:World) (tape:Tape) (i:Input),w.os=os∧(w.forCall tape i).Shaped C.prog∧i.vars=[]∧Input.okWide C.prog (w.forCall tape i) .any w.heap.size f i∧
   ((s.pre enc C.prog fn conds apart (w.forCall tape i).memory i.args∧X (w.forCall tape i).memory i.args)∧sizedMet enc C.prog fn (OpenSpec.ofChange s) apart (w.forCall tape i).memory i.args)∧a.holds C.prog (lone (Frame.enter C.prog f i.args .normal) [] (w.forCall tape i)))
 (contract:∀(W:World) (base:Nat) (args:Array Value) (ds gs:List (DataW H)) (before:List MemPlace),
   (∀(j:Nat) t v,fn.params[j]? =some t→args[j]? =some v→Value.okWide C.prog W .any base t v)→
   DataW.Whole enc C.prog fn.params.toList s.vars apart W args.toList ds gs before→W.ShapedOpen C.prog→X W args→
   Calls C.prog f args W fun e W'=>∃v,e= .returned v∧s.post enc C.prog fn apart fresh handsOn again W args v W'):
 ReturnsInHanded a C os f .any (fun w args=>(s.pre enc C.prog fn conds apart w args∧X w args)∧sizedMet enc C.prog fn (OpenSpec.ofChange s) apart w args) (s.post enc C.prog fn apart fresh handsOn again):=by
 refine returnsInHanded_of_calls own started noInit witness ?_;intro w tape i _ hsh _ hok hpre hholds;obtain ⟨_,_,_,fn',hfn',_,_,_,_,hval⟩:=hok;have e:fn'=fn:=Option.some.inj (hfn'.symm.trans hfn);subst e;obtain ⟨⟨⟨ds,gs,before,hw,hc⟩,hx⟩,hz⟩:=hpre;have hw':=DataW.Whole.of_heap (w':=w.forCall tape i) (by rfl) hw
 refine (contract (w.forCall tape i) w.heap.size i.args ds gs before hval hw' hsh (hX _ _ _ (by rfl) hx)).mono fun e W' ⟨v,he,hp⟩=> ?_
 subst he;exact ChangeSpec.post_blind hp
end Go.PVx
namespace Go.PVx
open Go.PV
theorem zsQ{α:Type}(enc:α→List D)(p:α→Prop)(es:List (List D))(h:∀r∈es,∃x,r=enc x∧p x):∃l:List α,es=l.map enc∧∀x∈l,p x:=by
 induction es with
 |nil=>exact ⟨[],rfl,fun x hx=>by simp at hx⟩
 |cons r es ih=>
  obtain ⟨x,h1,h2⟩:=h r (by simp)
  obtain ⟨l,h3,h4⟩:=ih fun r hr=>h r (List.mem_cons_of_mem _ hr)
  refine ⟨x::l,by rw[List.map_cons,h1,h3],fun y hy=> ?_⟩
  rcases List.mem_cons.1 hy with rfl|hy
  ·exact h2
  ·exact h4 y hy
theorem zlH:maxLen=9223372036854775807:=by kernel_rfl
section
variable {P:Program}
def Dec(P:Program)(t:TypeId){α:Type}(enc:α→List D)(p:α→Prop):Prop:=∀f row,okD P f t row→∃a,row=enc a∧p a
theorem decI{t:TypeId}(h:P.underlying t=some (.int .i64)):Dec P t eI (fun _=>True):=fun f row hr=>by
 cases f with
 |zero=>exact hr.elim
 |succ f=>simp only[okD,h]at hr;obtain ⟨n,h1,_⟩:=hr;exact ⟨n,h1,trivial⟩
theorem decB{t:TypeId}(h:P.underlying t=some .bool):Dec P t (fun b:Bool=> [.v (.bool b)]) (fun _=>True):=fun f row hr=>by
 cases f with
 |zero=>exact hr.elim
 |succ f=>simp only[okD,h]at hr;obtain ⟨n,h1⟩:=hr;exact ⟨n,h1,trivial⟩
theorem decS{t:TypeId}(h:P.underlying t=some .string):Dec P t eS sS:=fun f row hr=>by
 cases f with
 |zero=>exact hr.elim
 |succ f=>
  simp only[okD,h]at hr;obtain ⟨s,rfl,h2⟩:=hr;refine ⟨s.data.toList,rfl, ?_⟩;rw[zlH]at h2;simpa[sS]using h2
theorem zqh{t e:TypeId}(h:P.underlying t=some (.slice e)){α:Type}{enc:α→List D}{p:α→Prop}{f:Nat}(hX:∀row,okD P f e row→∃a,row=enc a∧p a){row:List D}(hr:okD P (f+1) t row):∃l:List α,row=[.s (l.map enc)]∧sL p l:=by
 simp only[okD,h]at hr;obtain ⟨es,rfl,hl,he⟩:=hr;obtain ⟨l,rfl,hp⟩:=zsQ enc p es fun r hr=>hX r (he r hr)
 rw[zlH]at hl;exact ⟨l,rfl,by simpa using hl,hp⟩
theorem decL{t e:TypeId}(h:P.underlying t=some (.slice e)){α:Type}{enc:α→List D}{p:α→Prop}(hX:Dec P e enc p):Dec P t (fun l:List α=> [.s (l.map enc)]) (sL p):=fun f row hr=>by
 cases f with
 |zero=>exact hr.elim
 |succ f=>exact zqh h (hX f) hr
theorem zrG{t:TypeId}{fs:Array Field}{f:Nat}{row:List D}(h:okD P (f+1) t row)(hu:P.underlying t=some (.struct fs))(ts:List TypeId)(hfs:(fs.toList.map fun x=>(x.offset,x.type))=(List.range ts.length).zip ts)
 (hc:P.cellsOf t=ts.length) (h1:∀x∈ts,P.cellsOf x=1):row.length=ts.length∧∀i (hi:i<ts.length),okD P f ts[i] [row.getD i .h]:=by
 simp only[okD,hu]at h;obtain ⟨hl,hf⟩:=h;rw[hc]at hl;refine ⟨hl,fun i hi=> ?_⟩
 have hlen:fs.toList.length=ts.length:=by have:=congrArg List.length hfs;simpa using this
 have hi2:i<fs.toList.length:=by omega
 have he:((fs.toList.map fun x=>(x.offset,x.type))[i]'(by simpa using hi2))=(i,ts[i]):=by simp only[hfs,List.getElem_zip,List.getElem_range]
 simp only[List.getElem_map,Prod.mk.injEq]at he;have:=hf _ (List.getElem_mem hi2);rw[he.1,he.2,h1 _ (List.getElem_mem hi)]at this;have hir:i<row.length:=by omega
 rw[List.getD_eq_getElem?_getD,List.getElem?_eq_getElem hir];rwa [zaF row i hir,List.take_succ_cons,List.take_zero]at this
theorem len2{α:Type}{l:List α}(h:l.length=2):∃a b,l=[a,b]:=by match l,h with| [a,b],_=>exact ⟨a,b,rfl⟩
theorem len5{α:Type}{l:List α}(h:l.length=5):∃a b c d e,l=[a,b,c,d,e]:=by match l,h with| [a,b,c,d,e],_=>exact ⟨a,b,c,d,e,rfl⟩
theorem zfo{α:Type}{a b:α}(h: [a]=[b]):a=b:=by simpa using h
theorem zsR{tT tB tI tS tP tTs:TypeId}{fs:Array Field}(hT:P.underlying tT=some (.struct fs))(hfs:(fs.toList.map fun x=>(x.offset,x.type))=(List.range 5).zip [tB,tI,tS,tP,tTs])(hc:P.cellsOf tT=5)
 (h1:∀x∈[tB,tI,tS,tP,tTs],P.cellsOf x=1) (hB:Dec P tB (fun b:Bool=> [.v (.bool b)]) (fun _=>True)) (hI:Dec P tI eI (fun _=>True)) (hS:Dec P tS eS sS) (hP:Dec P tP ePa oP) (hTs:P.underlying tTs=some (.slice tT)):Dec P tT eT oT:=by
 intro f
 induction f using Nat.strongRecOn with
 |ind f ih=>
  intro row hr;cases f with
  |zero=>exact hr.elim
  |succ f=>
   obtain ⟨hl,hx⟩:=zrG hr hT [tB,tI,tS,tP,tTs] hfs hc h1;obtain ⟨a,b,c,d,e,rfl⟩:=len5 hl;obtain ⟨x0,e0,_⟩:=hB f _ (hx 0 (by simp))
   obtain ⟨x1,e1,_⟩:=hI f _ (hx 1 (by simp))
   obtain ⟨x2,e2,o2⟩:=hS f _ (hx 2 (by simp))
   obtain ⟨x3,e3,o3⟩:=hP f _ (hx 3 (by simp))
   have h4:=hx 4 (by simp)
   cases f with
   |zero=>exact h4.elim
   |succ f=>
    obtain ⟨x4,e4,o4⟩:=zqh hTs (fun row hr=>ih f (by omega) row hr) h4
    have e0:=zfo e0;have e1:=zfo e1;have e2:=zfo e2;have e3:=zfo e3;have e4:=zfo e4;simp only[List.getD_cons_zero,List.getD_cons_succ]at e0 e1 e2 e3 e4;refine ⟨⟨x0,x1,x2,x3,x4⟩, ?_,(oT_eq _).2 ⟨o2,o3,o4⟩⟩;rw[eT_eq,e0,e1,e2,e3,e4]
theorem argD{t:TypeId}{α:Type}{enc:α→List D}{p:α→Prop}(h:Dec P t enc p){x:AV}(hx:ArgD P t x):∃a,x=avRow P t (enc a)∧p a:=by
 obtain ⟨f,row,h1,rfl⟩:=hx;obtain ⟨a,rfl,h2⟩:=h f row h1;exact ⟨a,rfl,h2⟩
theorem av_T{t:TypeId}(h:aggB P t=true)(a:Tree):avRow P t (eT a)=vT a:=by unfold avRow;rw[if_pos h,eT_eq];rfl
end
end Go.PVx
namespace Go.PVx
open Go.PV Go.Proofs Go.RowKit
theorem decRow{P:Program}{t tP tI tB tS:TypeId}{fs:Array Field}(hT:P.underlying t=some (.struct fs))(hfs:(fs.toList.map fun x=>(x.offset,x.type))=(List.range 5).zip [tP,tB,tI,tS,tI])(hc:P.cellsOf t=5)
 (h1:∀x∈[tP,tB,tI,tS,tI],P.cellsOf x=1) (hP:Dec P tP ePa oP) (hB:Dec P tB (fun b:Bool=> [.v (.bool b)]) (fun _=>True)) (hI:Dec P tI eI (fun _=>True)) (hS:Dec P tS eS sS):Dec P t eR OR:=fun f row hr=>by
 cases f with
 |zero=>exact hr.elim
 |succ f=>
  obtain ⟨hl,hx⟩:=zrG hr hT [tP,tB,tI,tS,tI] hfs hc h1;obtain ⟨a,b,c,d,e,rfl⟩:=len5 hl;obtain ⟨x0,e0,o0⟩:=hP f _ (hx 0 (by simp))
  obtain ⟨x1,e1,_⟩:=hB f _ (hx 1 (by simp))
  obtain ⟨x2,e2,_⟩:=hI f _ (hx 2 (by simp))
  obtain ⟨x3,e3,o3⟩:=hS f _ (hx 3 (by simp))
  obtain ⟨x4,e4,_⟩:=hI f _ (hx 4 (by simp))
  have e0:=zfo e0;have e1:=zfo e1;have e2:=zfo e2;have e3:=zfo e3;have e4:=zfo e4;simp only[List.getD_cons_zero,List.getD_cons_succ]at e0 e1 e2 e3 e4;exact ⟨⟨x0,x1,x2,x3,x4⟩,by rw[e0,e1,e2,e3,e4];rfl,⟨o0,o3⟩⟩
theorem av_Rs{P:Program}{t:TypeId}(h:aggB P t=false)(l:List Row):avRow P t [.s (l.map eR)]=vRs l:=by
 unfold avRow;rw[if_neg (by rw[h];simp)];rfl
end Go.PVx
