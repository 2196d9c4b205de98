/- A part of the proof: PvMake, PvLit, PvStore, PvSlice, PvAppend, PvAppend2, PvConv, PvCall, PvCall2, PvCall3, PvCall4, PvCall5, PvCall6, PvCall7. -/
import Derived.Test.YtkaclcgkndbppaaGreatDoorPvA
import Derived.Deep.Upon
import Derived.Laws.BytesString
set_option linter.unusedSimpArgs false
set_option linter.unusedVariables false
namespace Go.PV
open Go.RowKit
def gNew(G1:Ghost)(N L:Nat)(b0:Option Nat)(root:List Nat)(f:List Nat→Option (List Nat)):Ghost:=fun b=>
 if b0=some b then some (N,root)else
 match G1 b with
 |some (n,π)=>if n=L then (f π).map fun ρ=>(N,ρ)else if n=N then none else some (n,π)
 |none=>none
section gnew
variable {G1:Ghost}{N L:Nat}{b0:Option Nat}{root:List Nat}{f:List Nat→Option (List Nat)}{b:Nat}
theorem zdS(h:b0=some b):gNew G1 N L b0 root f b=some (N,root):=by simp[gNew,h]
theorem zej(h:b0≠some b)(h1:G1 b=none):gNew G1 N L b0 root f b=none:=by simp[gNew,h,h1]
theorem zkw{n:Nat}{π:List Nat}(h:b0≠some b)(h1:G1 b=some (n,π))(h2:n≠N)(h3:n≠L):gNew G1 N L b0 root f b=some (n,π):=by
 simp[gNew,h,h1,h2,h3]
theorem zd3{π:List Nat}(h:b0≠some b)(h1:G1 b=some (L,π)):gNew G1 N L b0 root f b=(f π).map fun ρ=>(N,ρ):=by
 simp[gNew,h,h1]
theorem zmT{x:Nat×List Nat}(h:gNew G1 N L b0 root f b=some x):
 x.1=N∨G1 b=some x∧x.1≠L:=by
 unfold gNew at h;split at h
 ·simp only[Option.some.injEq]at h;subst h;exact .inl rfl
 ·split at h
  ·rename_i n π h1
   split at h
   ·rw[Option.map_eq_some_iff]at h
    obtain ⟨ρ,_,rfl⟩:=h;exact .inl rfl
   ·split at h
    ·simp at h
    ·rename_i h2 h3
     simp only[Option.some.injEq]at h;subst h;exact .inr ⟨h1,h2⟩
  ·simp at h
theorem zhq(hf:∀π ρ,f π=some ρ→Plain ρ→Plain π){x:Nat×List Nat}(h:gNew G1 N L b0 root f b=some x):b0=some b∨∃y,G1 b=some y∧(Plain x.2→Plain y.2):=by
 unfold gNew at h;split at h
 ·rename_i h0;exact .inl h0
 ·split at h
  ·rename_i n π h1
   refine .inr ⟨_,h1, ?_⟩;split at h
   ·rw[Option.map_eq_some_iff]at h
    obtain ⟨ρ,h2,rfl⟩:=h;exact hf _ _ h2
   ·split at h
    ·simp at h
    ·obtain rfl:=Option.some.inj h;exact id
  ·simp at h
end gnew
def zch(w:World)(o:Go.Obj):World:={w with heap:=w.heap.push o}
theorem zbZ(w:World)(o:Go.Obj){b:Nat}(h:b<w.heap.size):(zch w o).heap[b]? =w.heap[b]? :=by
 simp only[zch,Array.getElem?_push];rw[if_neg (by omega)]
theorem zcJ(w:World)(o:Go.Obj):(zch w o).heap[w.heap.size]? =some o:=by
 show (w.heap.push o)[w.heap.size]? =some o;simp
theorem zeA(w:World)(o:Go.Obj):(zch w o).heap.size=w.heap.size+1:=by simp[zch]
theorem zlV(w:World)(cs:Array Value)(ty:TypeId)(i:Nat):(zch w (.cells cs ty)).cell? ⟨w.heap.size,i,none⟩=cs[i]? :=by
 simp only[World.cell?,zcJ];simp
section ops
variable {X:Ctx}{W0:World}{G0:Orig}{S:St}{w:World}{a:Act}{G:Ghost}{pl:zaP}{mv:Bool}{e:Rec}
 {dst:Option Tmp} {ty:TypeId} {pos:String} {af:Array Edge} {gd:Option (Nat×Bool)}
theorem Inv.lt(I:Inv W0 G0 S w a.tmps G pl){b:Nat}{x:Nat×List Nat}(h:G b=some x):b<w.heap.size:=by
 exact (I.own b x h).lt
theorem zeL(_:Inv W0 G0 S w a.tmps G pl)(vs:List AV):Mv (lim S) G S.obj {o:=S.foot vs} G S.obj {o:=S.foot vs}:=
 Mv.refl (zd2 S vs) (by simp) (by simp)
theorem Inv.make(I:Inv W0 G0 S w a.tmps G pl){d:Tmp}(hd:d<S.t.length){G1:Ghost}{obs1:Obs}{F:Foot}{A:Env}(m:Mv (lim S) G S.obj {o:=F} G1 obs1 A)
 (hO:zcx w G1 obs1 pl) (cs:Array Value) (el:TypeId) (root:List Nat) (f:List Nat→Option (List Nat)) (obN:Obj) (hd1:Nat→Value) (base:Option Addr) (v:Value) (val:AV)
 (hf:∀π ρ,f π=some ρ→Plain ρ→Plain π) (hN:obN.kind≠ .ro→ObjRel (zch w (.cells cs el)) (gNew G1 (S.na+d) (lim S) (some w.heap.size) root f) (S.na+d) ⟨base,hd1⟩ obN)
 (hv:∀obs' pl',obs' (S.na+d)=some obN→pl' (S.na+d)=⟨base,hd1⟩→VAV (zch w (.cells cs el)) (gNew G1 (S.na+d) (lim S) (some w.heap.size) root f) obs' pl' v val):
 Inv W0 G0 (S.put (some d) {val,ups:=A.ups++[(S.na+d,some obN)],kl:=A.kl++[(S.na+d,2)]}) (zch w (.cells cs el)) (a.put (some d) v).tmps
  (gNew G1 (S.na+d) (lim S) (some w.heap.size) root f) (fun n=>if n=S.na+d then ⟨base,hd1⟩else pl n):=by
 have hne:∀b,b<w.heap.size→some w.heap.size≠some b:=fun b hb h=>by simp only[Option.some.injEq]at h;omega
 have hlt1:∀b x,G1 b=some x→b<w.heap.size:=fun b x h=>by obtain ⟨y,hy,_⟩:=m.gdom b x h;exact I.lt hy
 refine Inv.install I hd m hO obN ⟨base,hd1⟩ v val (fun b hb _=>zbZ w _ hb) (fun b hb h=>zej (hne b hb) h)
  (fun b n π h h1 h2=>zkw (hne b (hlt1 b _ h)) h h1 h2) (fun b x h=>zmT h) (fun b x h hx=> ?_) hN rfl rfl rfl (by rw[zeA];omega) hv
 rcases zhq hf h with h0|⟨y,hy,hp⟩
 ·simp only[Option.some.injEq]at h0
  subst h0;exact .of ⟨cs,el,zcJ w _⟩
 ·obtain ⟨z,hz,hq⟩:=m.gdom b y hy
  exact (I.own b z hz).moved (fun h=>hq (hp h)) (zbZ w _ (I.lt hz))
theorem ze6(P:Program)(el:TypeId)(cs:Array Value)(w:World):(newRow el cs).run P w= .ok ⟨w.heap.size,0,none⟩ (zch w (.cells cs el)):=by
 rfl
theorem ze7(P:Program)(el:TypeId)(v:Value)(w:World):(newVar el v).run P w= .ok ⟨w.heap.size,0,none⟩ (zch w (.cells v.cells el)):=ze6 P el v.cells w
theorem zdM{P:Program}{t:TypeId}{z:List Value}(h:zeroB P t=some z):∃i v,P.info? t=some i∧i.zero=some v∧v.cells.toList=z:=by
 unfold zeroB at h;rw[Option.map_eq_some_iff]at h;obtain ⟨v,h1,h2⟩:=h;rw[Option.bind_eq_some_iff]at h1;obtain ⟨i,h3,h4⟩:=h1;exact ⟨i,v,h3,h4,h2⟩
theorem zdd{P:Program}{t:TypeId}{i:TypeInfo}{v:Value}(h1:P.info? t=some i)(h2:i.zero=some v)(w:World):(zeroValue t).run P w= .ok v w:=by
 simp[zeroValue,typeInfo,go_sem,h1,h2]
theorem zoq{w:World}{G:Ghost}{N:Nat}{b:Nat}{cs:Array Value}{el:TypeId}{ds:List D}{ws:List Own}(hb:w.heap[b]? =some (.cells cs el (0,0)))(hG:G b=some (N,[]))
 (h1:cs.size=ds.length) (h2:ws.length=ds.length) (hr:∀c (h:c<ds.length),Rel w (QCell G N c (ws.getD c .sh)) (cs.getD c undef) (ds[c])):
 ObjRel w G N ⟨some ⟨b,0,none⟩,fun c=>cs.getD c undef⟩ ⟨.box,ds,ws⟩:=
 {bld:= .not rfl
  fl:=h2
  rel:=fun c hc=>hr c hc
  box:=fun _=>⟨b,0,cs,el,rfl,hG,hb,by show 0+ds.length≤_;omega,fun c hc=>by
   rw[Nat.zero_add];have:c<cs.size:=by rw[h1];exact hc
   simp[this]⟩}
theorem zqo(I:Inv W0 G0 S w a.tmps G pl)(hd:∀d,dst=some d→d<S.t.length)(t:TypeId)(h:S.opK X mv ⟨dst, .alloc t,ty,pos,af,gd⟩ some=some e):
 OpOk X.P W0 G0 S w a ⟨dst, .alloc t,ty,pos,af,gd⟩ e:=by
 simp only[St.opK,St.vals,Op.operands,List.map_nil,effK]at h;split at h
 case h_2=>simp at h
 rename_i d z hz;obtain ⟨i,v,h1,h2,h3⟩:=zdM hz
 have hrun:(execOp a.eval ⟨some d, .alloc t,ty,pos,af,gd⟩).run X.P w= .ok (.value (.pointer (some ⟨w.heap.size,0,none⟩))) (zch w (.cells v.cells t)):=by
  show Sem.run X.P (bind (Instr.alloc t true (.tuple #[])) fun z=>pure (Next.value z)) w=_
  have:(Instr.alloc t true (.tuple #[])).run X.P w= .ok (.pointer (some ⟨w.heap.size,0,none⟩)) (zch w (.cells v.cells t)):=by
   rw[Instr.alloc,run_bind (zdd h1 h2 w)];simp only;rw[run_bind (ze7 X.P t v w)];rfl
  rw[run_bind this];rfl
 split at h
 ·simp only[Option.some.injEq]at h
  subst h;refine .of_value hrun (Inv.make I (hd d rfl) (zeL I []) I.objs v.cells t [] (fun _=>none) _ (fun c=>v.cells.getD c undef) (some ⟨w.heap.size,0,none⟩) _ _ (fun _ _ h=>by simp at h) (fun _=> ?_) (fun obs' pl' ho hp=> ?_))
  ·refine zoq (zcJ w _) (zdS rfl) (by rw[←h3];simp) (by simp) (fun c hc=> ?_)
   have hc':c<z.length:=by simpa using hc
   have:v.cells.getD c undef=z[c]:=by
    subst h3;have:c<v.cells.size:=by simpa using hc'
    simp[this]
   rw[this];simp only[List.getElem_map];exact Rel.dOf _ _ _
  ·refine ⟨⟨w.heap.size,0,none⟩,_,{at0:=ho,path:=trivial,at_:=by rw[hp];rfl,spot:=rfl,ro:=fun h=>by simp at h,virt:=fun _ h=>by simp at h},rfl⟩
 ·rename_i e' he
  split at h
  case h_2=>simp at h
  rename_i hz';split at h
  case isTrue=>simp at h
  rename_i hne;simp only[Option.some.injEq]at h;subst h;have hcs:v.cells= #[.pointer none, .slice none 0 0]:=by apply Array.ext';exact h3
  refine .of_value hrun (Inv.make I (hd d rfl) (zeL I []) I.objs v.cells t [] (fun _=>none) _ (fun _=> .string ⟨#[]⟩) (some ⟨w.heap.size,0,none⟩) _ _ (fun _ _ h=>by simp at h) (fun _=> ?_) (fun obs' pl' ho hp=> ?_))
  ·refine {bld:=fun t1 e1 hk=> ?_,fl:=rfl,rel:=fun c hc=> ?_,box:=fun h=>by simp at h}
   ·simp only[Kind.bld.injEq]at hk
    obtain ⟨rfl,rfl⟩:=hk;exact ⟨w.heap.size,⟨#[]⟩, .pointer none, .slice none 0 0,rfl,{base:=rfl,box:=zdS rfl,self:= .inl rfl,cells:=by rw[zcJ,hcs],owns:=World.ownsRowF_nil _ _ _ _,ne:=by simp[Value.ownBlock],bytes:=fun g hg=>by simp[Value.ownBlock]at hg}⟩
   ·have:c=0∨c=1:=by simp at hc;omega
    rcases this with rfl|rfl
    ·exact .v _ _
    ·exact .h _ _
  ·refine ⟨⟨w.heap.size,0,none⟩,_,{at0:=ho,path:=trivial,at_:=by rw[hp];rfl,spot:=rfl,ro:=fun h=>by simp at h,virt:=fun _ h=>by simp at h},rfl⟩
theorem zhr{u:Value}(h:zc2 u=true):u.cells= #[u]:=by
 cases u<;>first|rfl|simp[zc2]at h
theorem zdn{w:World}{Q:QP}{u:Value}{es:List (List D)}(h:Rel w Q u (.s es)):u.cells= #[u]∧zc2 u=true:=by
 obtain ⟨b,cap,rfl,_⟩:=h.len;exact ⟨rfl,rfl⟩
theorem zdz{w:World}{G:Ghost}{obs:Obs}{pl:zaP}(hI:zcx w G obs pl){u:Value}{n:Nat}{p:Path}{c:Nat}(h:V1 w G obs pl u (.r n p c)):
 ∃ob es,obs n=some ob∧(zaj ob.row p).getD c .h= .s es∧Rel w (fun π b=>QObj G n ob.fl (flat p++c::π) b) u (.s es):=by
 obtain ⟨ob,hr⟩:=h;obtain ⟨es,hes⟩:=hr.sl;have hat:=hr.relAt hI;have hge:(zaj ob.row p)[c]'hr.lt= .s es:=by rw[←hes];exact (za2 _ c _ hr.lt).symm
 rw[hge]at hat;exact ⟨ob,es,hr.at0,hes,hat⟩
theorem zgJ{w:World}{G:Ghost}{obs:Obs}{pl:zaP}(hI:zcx w G obs pl){A:Env}{mv:Bool}{b:A1}{r:D×Own×Env}{u:Value}(h:V1 w G obs pl u b)
 (ha:zbE A mv b=some r):zc2 u=true:=by
 cases b with
 |v x=>
  simp only[zbE]at ha;split at ha
  ·rename_i hx
   have h:u=x:=h;rw[h];exact hx
  ·simp at ha
 |s es=>exact (zdn h).2
 |r n p c=>obtain ⟨_,_,_,_,hat⟩:=zdz hI h;exact (zdn hat).2
 |dead=>simp[zbE]at ha
 |q row c=>simp[zbE]at ha
 |p ok n p c=>simp[zbE]at ha
 |bx cs c=>simp[zbE]at ha
theorem zmU{w:World}{G:Ghost}{obs:Obs}{pl:zaP}(hI:zcx w G obs pl){A:Env}{mv:Bool}{u:Value}{x:AV}{cs:List A1}{r:List D×List Own×Env}
 (h:VAV w G obs pl u x) (hc:x.cells=some cs) (ha:zcP A mv cs=some r):
 u.cells.size=cs.length∧∀j (hj:j<cs.length),V1 w G obs pl (u.cells.getD j undef) (cs[j]):=by
 cases x with
 |one b=>
  simp only[AV.cells,Option.some.injEq]at hc;subst hc;have hb:V1 w G obs pl u b:=h
  have:∃r',zbE A mv b=some r':=by
   simp only[zcP]at ha;split at ha
   ·rename_i d w' A' h1;exact ⟨_,h1⟩
   ·simp at ha
  obtain ⟨r',hr'⟩:=this;rw[zhr (zgJ hI hb hr')];refine ⟨rfl,fun j hj=> ?_⟩
  have:j=0:=by simpa using hj
  subst this;exact hb
 |g cs'=>
  simp only[AV.cells,Option.some.injEq]at hc;subst hc;obtain ⟨arr,rfl,h1,h2⟩:=h;exact ⟨h1,h2⟩
 |t vs=>simp[AV.cells]at hc
 |f fn caps=>simp[AV.cells]at hc
theorem zrM{w w':World}{G1:Ghost}{N L:Nat}{b0:Option Nat}{root:List Nat}{f:List Nat→Option (List Nat)}{i c:Nat}{wn:Own}{u:Value}{d:D}
 (h:Rel w (QCell G1 L i wn) u d) (hb0:∀b,b<w.heap.size→b0≠some b) (hw:∀b,b<w.heap.size→w'.heap[b]? =w.heap[b]?)
 (hf:∀π,f (i::π)=some (c::π)):Rel w' (QCell (gNew G1 N L b0 root f) N c wn) u d:=by
 refine h.frame (fun π b hl _=>hw b hl) (fun π b hl hq=> ?_)
 cases wn with
 |deep=>
  show gNew G1 N L b0 root f b=_;rw[zd3 (hb0 b hl) hq,hf];rfl
 |top=>
  simp only[QCell]at hq⊢;split at hq
  ·rename_i hπ
   rw[if_pos hπ,zd3 (hb0 b hl) hq,hf];rfl
  ·rename_i hπ
   rw[if_neg hπ];exact zej (hb0 b hl) hq
 |sh=>exact zej (hb0 b hl) hq
theorem zmV:∀(cs:List A1) {as:List A0},a0s cs=some as→as.length=cs.length∧∀i (h:i<as.length) (h':i<cs.length),(as[i]).a1=cs[i]
 | [],as,h=>by simp only[a0s,Option.some.injEq]at h;subst h;exact ⟨rfl,fun i h=>absurd h (by simp)⟩
 |c::cs,as,h=>by
  simp only[a0s]at h;split at h
  case h_2=>simp at h
  rename_i x hx;rw[Option.map_eq_some_iff]at h;obtain ⟨bs,h1,rfl⟩:=h;obtain ⟨h2,h3⟩:=zmV cs h1;refine ⟨by simp[h2],fun i h h'=> ?_⟩
  cases i with
  |zero=>
   simp only[List.getElem_cons_zero];cases c<;>simp[A1.a0]at hx<;>subst hx<;>rfl
  |succ i=>exact h3 i (by simpa using h) (by simpa using h')
theorem zor(I:Inv W0 G0 S w a.tmps G pl)(t:TypeId)(x:Operand){d:Tmp}{cs:List A1}{as:List A0}(hcs:(S.ev x).cells=some cs)(hlb:zoj S.na cs=some as):
 OpOk X.P W0 G0 S w a ⟨some d, .box t x,ty,pos,af,gd⟩ {val:= .one (.bx as 0)}:=by
 have hx:=I.ev x
 have hrun:(execOp a.eval ⟨some d, .box t x,ty,pos,af,gd⟩).run X.P w= .ok (.value (.pointer (some ⟨w.heap.size,0,none⟩))) (zch w (.cells (a.eval x).cells t)):=by
  show Sem.run X.P (bind (Instr.box t (a.eval x)) fun z=>pure (Next.value z)) w=_
  have:(Instr.box t (a.eval x)).run X.P w= .ok (.pointer (some ⟨w.heap.size,0,none⟩)) (zch w (.cells (a.eval x).cells t)):=by
   rw[Instr.box,run_bind (ze7 X.P t _ w)];rfl
  rw[run_bind this];rfl
 unfold zoj at hlb;by_cases hany:cs.any (zoi S.na)=true
 case neg=>rw[if_neg hany]at hlb;simp at hlb
 rw[if_pos hany]at hlb;obtain ⟨hl,ha⟩:=zmV cs hlb
 have hcell:(a.eval x).cells.size=cs.length∧∀j (hj:j<cs.length),V1 w G S.obj pl ((a.eval x).cells.getD j undef) (cs[j]):=by
  cases hx':S.ev x with
  |one b=>
   rw[hx']at hcs hx;simp only[AV.cells,Option.some.injEq]at hcs;subst hcs;have hb:V1 w G S.obj pl (a.eval x) b:=hx
   have:zc2 (a.eval x)=true:=by
    cases b with
    |r n p c=>obtain ⟨_,_,_,_,hat⟩:=zdz I.objs hb;exact (zdn hat).2
    |_=>simp[zoi]at hany
   rw[zhr this];refine ⟨rfl,fun j hj=> ?_⟩
   have:j=0:=by simpa using hj
   subst this;exact hb
  |g cs'=>
   rw[hx']at hcs hx;simp only[AV.cells,Option.some.injEq]at hcs;subst hcs;obtain ⟨arr,h0,h1,h2⟩:=hx;rw[h0];exact ⟨h1,h2⟩
  |t vs=>rw[hx']at hcs;simp[AV.cells]at hcs
  |f fn caps=>rw[hx']at hcs;simp[AV.cells]at hcs
 have hB:zcc w (zch w (.cells (a.eval x).cells t)) G G:=fun b hb h=>⟨zbZ w _ hb,h⟩
 have hG0:G w.heap.size=none:=by
  cases h:G w.heap.size with
  |none=>rfl
  |some y=>exact absurd (I.lt h) (by omega)
 have hobj:∀n,(S.put0 (some d) ({val:= .one (.bx as 0)}:Rec)).obj n=S.obj n:=fun n=>rfl
 have hF:∀n,zex w (zch w (.cells (a.eval x).cells t)) G S.obj (S.put0 (some d) ({val:= .one (.bx as 0)}:Rec)).obj pl pl n:=fun n ob ho=>
  ⟨ob,by rw[hobj];exact ho,rfl,rfl,rfl,fun _=>rfl,fun b π hb=>zbZ w _ (I.lt hb)⟩
 have hR:∀n,KeptR S.obj (S.put0 (some d) ({val:= .one (.bx as 0)}:Rec)).obj pl pl n:=fun n ob ho hk=>
  ⟨ob,by rw[hobj];exact ho,hk,fun c es hc he=>⟨hc,⟨es,he⟩,rfl⟩⟩
 have hP:∀n,KeptP S.obj (S.put0 (some d) ({val:= .one (.bx as 0)}:Rec)).obj pl pl n:=fun n ob ho=>
  ⟨ob,by rw[hobj];exact ho,rfl,rfl,fun _=>⟨rfl,rfl⟩⟩
 have hobjs:zcx (zch w (.cells (a.eval x).cells t)) G (S.put0 (some d) ({val:= .one (.bx as 0)}:Rec)).obj pl:=by
  intro n ob ho hk;have hrel:=I.objs n ob ho hk;refine {bld:=hrel.bld.frame fun b π hb=>⟨zbZ w _ (I.lt hb),rfl⟩,fl:=hrel.fl,rel:=fun c hc=>(hrel.rel c hc).frame (fun π b hl hq=>zbZ w _ hl) (fun _ _ _ h=>h),box:=fun hbx=> ?_}
  obtain ⟨b,off,cs1,ty1,h1,h2,h3,h4,h5⟩:=hrel.box hbx;exact ⟨b,off,cs1,ty1,h1,h2,by rw[zbZ w _ (I.lt h2)];exact h3,h4,h5⟩
 refine .of_value hrun (G':=G) (pl':=pl) (Inv.step I (some d) {val:= .one (.bx as 0)} _ hB (fun x hx=>by simp at hx) (fun n _=>hF n) (fun n _=>hR n) (fun n _=>hP n) hobjs
  (fun b y hb=> ?_) (fun b y hb=>I.nolim b y hb) (fun b π hb=>⟨zbZ w _ (I.lt hb),hb⟩) (fun n ob hn ho=> ?_) rfl rfl rfl (by rw[zeA];omega) (fun _=> ?_))
 ·exact (I.own b y hb).heap (zbZ w _ (I.lt hb))
 ·refine ⟨ob,ho,rfl,rfl,rfl,fun _=>rfl,fun _ _=>rfl,fun b off _ hb=>⟨hb,fun k _=> ?_⟩⟩
  simp only[World.cell?,zbZ w _ (I.lt hb)]
 ·refine ⟨w.heap.size,0,rfl,by rw[zeA];omega,hG0,fun i hi=> ?_⟩
  have hi':i<cs.length:=hl▸hi;refine ⟨(a.eval x).cells.getD i undef, ?_, ?_⟩
  ·rw[zlV,Nat.zero_add]
   have:i<(a.eval x).cells.size:=by rw[hcell.1];exact hi'
   simp[this]
  ·rw[V0.a1,ha i hi hi']
   have:=V1.turn (kl:=[]) (hcell.2 i hi') I.objs hB (fun n _=>hF n) (fun n _=>hR n) (fun n _=>hP n) (fun n ⟨x,hx,_⟩=>by simp at hx) (fun n ⟨x,hx,_⟩=>by simp at hx)
   rw[show A1.kill [] (cs[i])=cs[i] from by
    have:=zfQ (.one (cs[i]));simpa[AV.kill]using this]at this
   exact this
theorem ok_box(I:Inv W0 G0 S w a.tmps G pl)(hd:∀d,dst=some d→d<S.t.length)(t:TypeId)(x:Operand)(h:S.opK X mv ⟨dst, .box t x,ty,pos,af,gd⟩ some=some e):
 OpOk X.P W0 G0 S w a ⟨dst, .box t x,ty,pos,af,gd⟩ e:=by
 simp only[St.opK,St.vals,Op.operands,List.map_cons,List.map_nil,effK]at h;have hx:=I.ev x;split at h
 case h_2=>simp at h
 rename_i d cs hcs;split at h
 ·rename_i as hlb
  simp only[Option.some.injEq]at h;subst h;refine zor I t x hcs (as:=as) ?_;cases mv with
  |false=>simp at hlb
  |true=>simpa using hlb
 split at h
 ·rename_i e' hbb
  simp only[Option.some.injEq]at h;subst h;unfold zrm at hbb;split at hbb
  case h_1=>simp at hbb
  rename_i e0 he0;split at hbb
  case h_2=>simp at hbb
  split at hbb
  case isTrue=>simp at hbb
  rename_i hne;obtain rfl:=Option.some.inj hbb
  have hcell:(a.eval x).cells= #[.pointer none, .slice none 0 0]:=by
   cases hx':S.ev x with
   |one b=>rw[hx']at hcs;simp[AV.cells]at hcs
   |g cs'=>
    rw[hx']at hcs hx;simp only[AV.cells,Option.some.injEq]at hcs;subst hcs;obtain ⟨arr,h0,h1,h2⟩:=hx;have e0:arr.getD 0 undef= .pointer none:=h2 0 (by simp)
    have e1:arr.getD 1 undef= .slice none 0 0:=h2 1 (by simp)
    rw[h0];show arr=_;apply Array.ext
    ·simpa using h1
    ·intro i hi hi'
     have:i=0∨i=1:=by simp at hi';omega
     rcases this with rfl|rfl
     ·simpa[hi]using e0
     ·simpa[hi]using e1
   |t vs=>rw[hx']at hcs;simp[AV.cells]at hcs
   |f fn caps=>rw[hx']at hcs;simp[AV.cells]at hcs
  have hrun:(execOp a.eval ⟨some d, .box t x,ty,pos,af,gd⟩).run X.P w= .ok (.value (.pointer (some ⟨w.heap.size,0,none⟩))) (zch w (.cells (a.eval x).cells t)):=by
   show Sem.run X.P (bind (Instr.box t (a.eval x)) fun z=>pure (Next.value z)) w=_
   have:(Instr.box t (a.eval x)).run X.P w= .ok (.pointer (some ⟨w.heap.size,0,none⟩)) (zch w (.cells (a.eval x).cells t)):=by
    rw[Instr.box,run_bind (ze7 X.P t _ w)];rfl
   rw[run_bind this];rfl
  refine .of_value hrun (Inv.make I (hd d rfl) (zeL I [S.ev x]) I.objs (a.eval x).cells t [] (fun _=>none) _ (fun _=> .string ⟨#[]⟩) (some ⟨w.heap.size,0,none⟩) _ _ (fun _ _ h=>by simp at h) (fun _=> ?_) (fun obs' pl' ho hp=> ?_))
  ·refine {bld:=fun t1 e1 hk=> ?_,fl:=rfl,rel:=fun c hc=> ?_,box:=fun h=>by simp at h}
   ·simp only[Kind.bld.injEq]at hk
    obtain ⟨rfl,rfl⟩:=hk;exact ⟨w.heap.size,⟨#[]⟩, .pointer none, .slice none 0 0,rfl,{base:=rfl,box:=zdS rfl,self:= .inl rfl,cells:=by rw[zcJ,hcell],owns:=World.ownsRowF_nil _ _ _ _,ne:=by simp[Value.ownBlock],bytes:=fun g hg=>by simp[Value.ownBlock]at hg}⟩
   ·have:c=0∨c=1:=by simp at hc;omega
    rcases this with rfl|rfl
    ·exact .v _ _
    ·exact .h _ _
  ·refine ⟨⟨w.heap.size,0,none⟩,_,{at0:=ho,path:=trivial,at_:=by rw[hp];rfl,spot:=rfl,ro:=fun h=>by simp at h,virt:=fun _ h=>by simp at h},rfl⟩
 rename_i hbb;cases hap:zcA mv cs with
 |false=>rw[hap]at h;simp at h
 |true=>
 rw[hap]at h;simp only[cond_true]at h;split at h
 case h_2=>simp at h
 rename_i ds ws A hab;simp only[Option.some.injEq]at h;subst h;obtain ⟨hsz,hv⟩:=zmU I.objs hx hcs hab;have m0:=zeL I [S.ev x];obtain ⟨hl,G1,obs1,B⟩:=zd0 (lim S) cs 0 I.objs m0.coh (by simp) (by simp) hv hap hab (zdR S)
 have hrun:(execOp a.eval ⟨some d, .box t x,ty,pos,af,gd⟩).run X.P w= .ok (.value (.pointer (some ⟨w.heap.size,0,none⟩))) (zch w (.cells (a.eval x).cells t)):=by
  show Sem.run X.P (bind (Instr.box t (a.eval x)) fun z=>pure (Next.value z)) w=_
  have:(Instr.box t (a.eval x)).run X.P w= .ok (.pointer (some ⟨w.heap.size,0,none⟩)) (zch w (.cells (a.eval x).cells t)):=by
   rw[Instr.box,run_bind (ze7 X.P t _ w)];rfl
  rw[run_bind this];rfl
 refine .of_value hrun (Inv.make I (hd d rfl) B.mvd B.objs (a.eval x).cells t [] (fun π=>some π) _ (fun c=>(a.eval x).cells.getD c undef) (some ⟨w.heap.size,0,none⟩) _ _ (fun _ _ h=>by obtain rfl:=Option.some.inj h;exact id) (fun _=> ?_) (fun obs' pl' ho hp=> ?_))
 ·refine zoq (zcJ w _) (zdS rfl) (by omega) B.len (fun c hc=> ?_)
  have:=B.rel c hc;rw[Nat.zero_add]at this;exact zrM this (fun b hb h=>by simp only[Option.some.injEq]at h;omega) (fun b hb=>zbZ w _ hb) (fun _=>rfl)
 ·exact ⟨⟨w.heap.size,0,none⟩,_,{at0:=ho,path:=trivial,at_:=by rw[hp];rfl,spot:=rfl,ro:=fun h=>by simp at h,virt:=fun _ h=>by simp at h},rfl⟩
end ops
end Go.PV
namespace Go.PV
open Go.RowKit
theorem zqp(off:Nat):∀(xs:List Value) (k:Nat) (cs:Array Value),off+k+xs.length≤cs.size→
 ((xs.zipIdx k).foldl (fun cs x=>cs.setIfInBounds (off+x.2) x.1) cs).size=cs.size∧
 ∀i,((xs.zipIdx k).foldl (fun cs x=>cs.setIfInBounds (off+x.2) x.1) cs).getD i undef=
  if off+k≤i∧i<off+k+xs.length then xs.getD (i-(off+k)) undef else cs.getD i undef:=by
 intro xs
 induction xs with
 |nil=>intro k cs _;refine ⟨rfl,fun i=> ?_⟩;simp only[List.zipIdx_nil,List.foldl_nil,List.length_nil];rw[if_neg (by omega)]
 |cons x xs ih=>
  intro k cs h;simp only[List.length_cons]at h;simp only[List.zipIdx_cons,List.foldl_cons];obtain ⟨h1,h2⟩:=ih (k+1) (cs.setIfInBounds (off+k) x) (by simp;omega)
  refine ⟨by rw[h1];simp,fun i=> ?_⟩
  rw[h2 i,zhl];by_cases hi:i=off+k
  ·subst hi
   rw[if_neg (by omega),if_pos ⟨rfl,by omega⟩,if_pos (by simp only[List.length_cons];omega)]
   simp
  ·by_cases h3:off+(k+1)≤i∧i<off+(k+1)+xs.length
   ·rw[if_pos h3,if_pos (by simp only[List.length_cons];omega)]
    have:i-(off+k)=(i-(off+(k+1)))+1:=by omega
    rw[this];simp
   ·rw[if_neg h3,if_neg (by rintro ⟨h4,_⟩;exact hi h4.symm),if_neg (by simp only[List.length_cons];omega)]
theorem zos{place:Nat→Option (Nat×Nat)}{cs:Array Value}{i off sz:Nat}{v:Value}{rest:List (Nat×Value)}(hp:place i=some (off,sz))(hv:v.cells.size=sz)(ho:off+sz≤cs.size):
 ∃cs',Instr.fill place cs ((i,v)::rest)=Instr.fill place cs' rest∧cs'.size=cs.size∧
  ∀k,cs'.getD k undef=if off≤k∧k<off+sz then v.cells.getD (k-off) undef else cs.getD k undef:=by
 obtain ⟨h1,h2⟩:=zqp off v.cells.toList 0 cs (by simp[hv];omega)
 refine ⟨(v.cells.toList.zipIdx 0).foldl (fun cs x=>cs.setIfInBounds (off+x.2) x.1) cs, ?_,h1,fun k=> ?_⟩
 ·simp only[Instr.fill,hp]
  have hc:¬((decide (v.cells.size≠sz)||decide (off+v.cells.size>cs.size))=true):=by simp;omega
  rw[if_neg hc];congr 1
  rw[←Array.foldl_toList];simp[Array.toList_zipIdx]
 ·rw[h2 k]
  simp only[Nat.add_zero,Array.length_toList,hv];split
  ·rename_i h;simp[Array.getD_eq_getD_getElem?]
  ·rfl
section ops
variable {X:Ctx}{W0:World}{G0:Orig}{S:St}{w:World}{a:Act}{G:Ghost}{pl:zaP}{mv:Bool}{e:Rec}
 {dst:Option Tmp} {ty:TypeId} {pos:String} {af:Array Edge} {gd:Option (Nat×Bool)}
theorem zot(I:Inv W0 G0 S w a.tmps G pl){u:Value}{x:AV}{cs:List A1}(h:VAV w G S.obj pl u x)(hc:x.cells=some cs)(hk:zmO x=true):
 u.cells.size=cs.length∧∀j (hj:j<cs.length),V1 w G S.obj pl (u.cells.getD j undef) (cs[j]):=by
 cases x with
 |one b=>
  simp only[AV.cells,Option.some.injEq]at hc;subst hc;have hb:V1 w G S.obj pl u b:=h
  have hu:zc2 u=true:=by
   cases b with
   |dead=>simp[zmO]at hk
   |v y=>have hy:u=y:=hb;rw[hy];exact hk
   |s es=>exact (zdn hb).2
   |q row c=>obtain ⟨ad,hd,rfl,hro⟩:=hb;rfl
   |r n p c=>obtain ⟨ob,es,_,_,hat⟩:=zdz I.objs hb;exact (zdn hat).2
   |bx cs c=>obtain ⟨b,off,rfl,_⟩:=hb;rfl
   |p ok n p c=>
    cases ok with
    |true=>obtain ⟨ad,ob,_,rfl⟩:=hb;rfl
    |false=>have hb:u=_:=hb;rw[hb];rfl
  rw[zhr hu];refine ⟨rfl,fun j hj=> ?_⟩
  have:j=0:=by simpa using hj
  subst this;exact hb
 |g cs'=>
  simp only[AV.cells,Option.some.injEq]at hc;subst hc;obtain ⟨arr,rfl,h1,h2⟩:=h;exact ⟨h1,h2⟩
 |t vs=>simp[AV.cells]at hc
 |f fn caps=>simp[AV.cells]at hc
theorem ze8{α:Type}(l xs:List α)(c:Nat)(h:c+xs.length≤l.length):(zcU l c xs).length=l.length:=by
 simp[zcU];omega
theorem zek{α:Type}(l xs:List α)(c:Nat)(h:c+xs.length≤l.length)(i:Nat)(hi:i<(zcU l c xs).length)(hl:i<l.length):
 (zcU l c xs)[i]=if hx:c≤i∧i<c+xs.length then xs[i-c]'(by omega)else l[i]:=by
 by_cases h1:i<c
 ·rw[dif_neg (by omega)]
  simp only[zcU,List.append_assoc];rw[List.getElem_append_left (by simp;omega)]
  simp
 ·by_cases h2:i<c+xs.length
  ·rw[dif_pos ⟨by omega,h2⟩]
   simp only[zcU];rw[List.getElem_append_left (by simp;omega),List.getElem_append_right (by simp;omega)]
   congr 1
   simp;omega
  ·rw[dif_neg (by omega)]
   simp only[zcU];rw[List.getElem_append_right (by simp;omega)]
   simp only[List.getElem_drop];congr 1
   simp;omega
theorem ziO(I:Inv W0 G0 S w a.tmps G pl){place:Nat→Option (Nat×Nat)}:∀(ps:List (Nat×AV)) (vs:List (Nat×Value)) (cs:List A1) (us:Array Value) (cs':List A1),
 ps.length=vs.length→(∀j (h:j<ps.length) (h':j<vs.length),(ps[j]).1=(vs[j]).1∧VAV w G S.obj pl (vs[j]).2 (ps[j]).2)→us.size=cs.length→
 (∀j (h:j<cs.length),V1 w G S.obj pl (us.getD j undef) (cs[j]))→fillA place cs ps=some cs'→
 ∃us',Instr.fill place us vs=some us'∧us'.size=cs'.length∧cs'.length=cs.length∧∀j (h:j<cs'.length),V1 w G S.obj pl (us'.getD j undef) (cs'[j]):=by
 intro ps
 induction ps with
 |nil=>
  intro vs cs us cs' hl _ hsz hv h;have:vs=[]:=List.eq_nil_of_length_eq_zero (by simpa using hl.symm)
  subst this;simp only[fillA,Option.some.injEq]at h;subst h;exact ⟨us,rfl,hsz,rfl,hv⟩
 |cons p ps ih=>
  intro vs cs us cs' hl hp hsz hv h;obtain ⟨i,x⟩:=p;cases vs with
  |nil=>simp at hl
  |cons v vs=>
   obtain ⟨i',u⟩:=v;have h0:=hp 0 (by simp) (by simp)
   simp only[List.getElem_cons_zero]at h0;obtain ⟨rfl,hxv⟩:=h0;simp only[fillA]at h;split at h
   case h_2=>simp at h
   rename_i off sz xs hpl hxc;by_cases hc:xs.length=sz∧off+sz≤cs.length∧zmO x=true
   case neg=>rw[if_neg hc]at h;simp at h
   rw[if_pos hc]at h;obtain ⟨h1,h2⟩:=zot I hxv hxc hc.2.2;obtain ⟨us1,hf,hs1,hg1⟩:=zos (cs:=us) (v:=u) (rest:=vs) hpl (by omega) (by omega)
   have hsl:=ze8 cs xs off (by omega)
   obtain ⟨us2,hf2,hs2,hl2,hv2⟩:=ih vs (zcU cs off xs) us1 cs' (by simpa using hl) (fun j h h'=>by
    have:=hp (j+1) (by simpa using h) (by simpa using h')
    simpa using this) (by rw[hs1,hsl];exact hsz) (fun j hj=>by
    rw[hg1 j,zek cs xs off (by omega) j hj (by omega)]
    by_cases hin:off≤j∧j<off+sz
    ·rw[if_pos hin,dif_pos (by omega)]
     exact h2 (j-off) (by omega)
    ·rw[if_neg hin,dif_neg (by omega)]
     exact hv j (by omega)) h
   exact ⟨us2,by rw[hf];exact hf2,hs2,by omega,hv2⟩
theorem zipA(I:Inv W0 G0 S w a.tmps G pl)(parts:Array (Nat×Operand)):
 let ps:=(parts.toList.map (·.1)).zip (parts.toList.map fun x=>S.ev x.2)
 let vs:=parts.toList.map fun x=>(x.1,a.eval x.2)
 ps.length=vs.length∧∀j (h:j<ps.length) (h':j<vs.length),(ps[j]).1=(vs[j]).1∧VAV w G S.obj pl (vs[j]).2 (ps[j]).2:=by
 refine ⟨by simp,fun j h h'=> ?_⟩
 simp only[List.getElem_zip,List.getElem_map];exact ⟨trivial,I.ev _⟩
theorem zqq{α β:Type}{P:Program}{g:α→Sem β}{r:α→β}{w:World}(xs:List α)(h:∀x∈xs,(g x).run P w= .ok (r x) w):
 (xs.mapM g).run P w= .ok (xs.map r) w:=by
 induction xs with
 |nil=>simp[go_sem]
 |cons x xs ih=>
  rw[List.mapM_cons,run_bind (h x (by simp)),run_bind (ih fun y hy=>h y (by simp[hy]))]
  rfl
theorem zou{α β:Type}{P:Program}{g:α→Sem β}{r:α→β}{w:World}(xs:Array α)(h:∀x∈xs.toList,(g x).run P w= .ok (r x) w):
 (xs.mapM g).run P w= .ok (xs.map r) w:=by
 rw[Array.mapM_eq_mapM_toList,zlR (zqq xs.toList h),←Array.toList_map]
theorem zny(t:TypeId)(parts:Array (Nat×Operand)):S.vals ⟨dst, .build t parts,ty,pos,af,gd⟩=parts.toList.map fun x=>S.ev x.2:=by
 simp[St.vals,Op.operands,Function.comp_def]
theorem zqr(z:Array Value):∀j (h:j<(z.toList.map A1.v).length),V1 w G S.obj pl (z.getD j undef) ((z.toList.map A1.v)[j]):=by
 intro j h;have hj:j<z.size:=by simpa using h
 simp only[List.getElem_map];show z.getD j undef=_;simp[hj]
theorem zqs(I:Inv W0 G0 S w a.tmps G pl)(t:TypeId)(parts:Array (Nat×Operand))(h:S.opK X mv ⟨dst, .build t parts,ty,pos,af,gd⟩ some=some e):
 OpOk X.P W0 G0 S w a ⟨dst, .build t parts,ty,pos,af,gd⟩ e:=by
 simp only[St.opK,zny,effK]at h;obtain ⟨hzl,hz⟩:=zipA I parts
 have goal:∀(z:List Value) (v:Value) (i:TypeInfo) (place:Nat→Option (Nat×Nat)) (cs:List A1),X.P.info? t=some i→i.zero=some v→v.cells.toList=z→
  fillA place (z.map A1.v) ((parts.toList.map (·.1)).zip (parts.toList.map fun x=>S.ev x.2))=some cs→
  (∀us',Instr.fill place v.cells ((parts.map fun x=>(x.1,a.eval x.2)).toList)=some us'→(Instr.build t (parts.map fun x=>(x.1,a.eval x.2))).run X.P w= .ok (.agg us') w)→
  OpOk X.P W0 G0 S w a ⟨dst, .build t parts,ty,pos,af,gd⟩ {val:= .g cs}:=by
  intro z v i place cs h1 h2 h3 h4 h5;subst h3;obtain ⟨us',hf,hs,hl,hv⟩:=ziO I _ _ (v.cells.toList.map A1.v) v.cells cs hzl hz (by simp) (zqr v.cells) h4
  have hf':Instr.fill place v.cells ((parts.map fun x=>(x.1,a.eval x.2)).toList)=some us':=by simpa using hf
  refine .of_pure I (v:= .agg us') ?_ ⟨us',rfl,hs,hv⟩;show Sem.run X.P (bind (Instr.build t (parts.map fun x=>(x.1,a.eval x.2))) fun z=>pure (Next.value z)) w=_
  rw[run_bind (h5 us' hf')];rfl
 split at h
 ·rename_i z fs hz0 hu
  obtain ⟨i,v,h1,h2,h3⟩:=zdM hz0;by_cases hall:(fs.toList.all fun f=>(sizeB X.P f.type).isSome)=false
  ·rw[if_pos hall]at h;simp at h
  rw[if_neg hall]at h;simp only[Bool.not_eq_false,List.all_eq_true]at hall;split at h
  case h_2=>simp at h
  rename_i cs hcs;simp only[Option.some.injEq]at h;subst h;refine goal z v i _ cs h1 h2 h3 hcs (fun us' hf=> ?_)
  have hm:=zou (P:=X.P) (w:=w) (g:=fun f:Field=>do pure (f.offset,←sizeOf f.type)) (r:=fun f=>(f.offset,(sizeB X.P f.type).getD 0)) fs (fun f hf'=>by
   have:=hall f hf';obtain ⟨n,hn⟩:=Option.isSome_iff_exists.1 this;rw[run_bind (zca hn w),hn];rfl)
  rw[Instr.build,run_bind (zdd h1 h2 w)];simp only;rw[run_bind (zct hu w)];simp only;rw[run_bind hm]
  have hpl:(fun i=>(fs.map fun f=>(f.offset,(sizeB X.P f.type).getD 0))[i]?)=zoh X.P t:=by
   funext i
   simp only[Array.getElem?_map,zoh,zhg,hu];cases hi:fs[i]? with
   |none=>simp
   |some f=>
    have hmem:f∈fs.toList:=by
     obtain ⟨hlt,rfl⟩:=Array.getElem?_eq_some_iff.1 hi;simp
    obtain ⟨n,hn⟩:=Option.isSome_iff_exists.1 (hall f hmem);simp[hn]
  rw[hpl,hf];rfl
 ·rename_i z n el hz0 hu
  obtain ⟨i,v,h1,h2,h3⟩:=zdM hz0;split at h
  case h_2=>simp at h
  rename_i sz hsz;split at h
  case h_2=>simp at h
  rename_i cs hcs;simp only[Option.some.injEq]at h;subst h;refine goal z v i _ cs h1 h2 h3 hcs (fun us' hf=> ?_)
  rw[Instr.build,run_bind (zdd h1 h2 w)];simp only;rw[run_bind (zct hu w)];simp only;rw[run_bind (zca hsz w),hf];rfl
 ·simp at h
theorem zkx{w:World}{Q:QP}{b len sz:Nat}{cs:Array Value}{el:TypeId}{es:List (List D)}(hb:w.heap[b]? =some (.cells cs el (0,0)))(hq:Q [] b)
 (hl:es.length=len) (hsz:len*sz≤cs.size) (hz:∀i (h:i<es.length),(es[i]).length=sz)
 (hr:∀i j (hi:i<es.length) (hj:j<(es[i]).length),Rel w (fun π b=>Q (i::j::π) b) (cs.getD (i*sz+j) undef) ((es[i])[j])):
 Rel w Q (.slice (some ⟨b,0,none⟩) len len) (.s es):=by
 subst hl;have hlt:b<w.heap.size:=(Array.getElem?_eq_some_iff.1 hb).1
 have hcell:∀k,k<es.length*sz→w.cell? ⟨b,0+k,none⟩=some (cs.getD k undef):=fun k hk=>by
  have:k<cs.size:=by omega
  simp only[World.cell?,hb,Nat.zero_add];simp[this]
 refine .s Q ⟨b,0,none⟩ es.length sz es (fun i j=>cs.getD (i*sz+j) undef) (Nat.le_refl _) (fun he=> .inl (by simp[he])) rfl hlt hq (fun k hk=>by rw[hcell k hk];rfl) hz (fun i j hi hj=> ?_) hr
 refine hcell _ ?_;have:(i+1)*sz≤es.length*sz:=Nat.mul_le_mul_right _ hi;rw[Nat.succ_mul]at this;omega
theorem zhs(t:TypeId)(len:Nat)(parts:Array (Nat×Operand)):S.vals ⟨dst, .buildSlice t len parts,ty,pos,af,gd⟩=parts.toList.map fun x=>S.ev x.2:=by
 simp[St.vals,Op.operands,Function.comp_def]
theorem zgm{P:Program}{t el:TypeId}(h:elemB P t=some el):P.underlying t=some (.slice el):=by
 unfold elemB at h;split at h
 ·rename_i e' he;simp only[Option.some.injEq]at h;subst h;exact he
 ·simp at h
theorem zqt(ds:List D)(sz len:Nat)(h:ds.length=len*sz):
 (∀i (hi:i<((List.range len).map fun e=>(ds.drop (e*sz)).take sz).length),(((List.range len).map fun e=>(ds.drop (e*sz)).take sz)[i]).length=sz)∧
 ∀i j (hi:i<((List.range len).map fun e=>(ds.drop (e*sz)).take sz).length) (hj:j<(((List.range len).map fun e=>(ds.drop (e*sz)).take sz)[i]).length),
  ∃hk:i*sz+j<ds.length,(((List.range len).map fun e=>(ds.drop (e*sz)).take sz)[i])[j]=ds[i*sz+j]:=by
 have h1:∀i,i<len→i*sz+sz≤len*sz:=fun i hi=>by
  have:(i+1)*sz≤len*sz:=Nat.mul_le_mul_right _ hi;rw[Nat.succ_mul]at this;exact this
 refine ⟨fun i hi=> ?_,fun i j hi hj=> ?_⟩
 ·simp only[List.length_map,List.length_range]at hi
  have:=h1 i hi;simp[h];omega
 ·simp only[List.length_map,List.length_range]at hi
  have:=h1 i hi;simp[h]at hj;exact ⟨by omega,by simp⟩
theorem zjt(I:Inv W0 G0 S w a.tmps G pl)(hd:∀d,dst=some d→d<S.t.length)(t:TypeId)(len:Nat)(parts:Array (Nat×Operand))
 (h:S.opK X mv ⟨dst, .buildSlice t len parts,ty,pos,af,gd⟩ some=some e):OpOk X.P W0 G0 S w a ⟨dst, .buildSlice t len parts,ty,pos,af,gd⟩ e:=by
 simp only[St.opK,zhs,effK]at h;obtain ⟨hzl,hz⟩:=zipA I parts;split at h
 case h_2=>simp at h
 rename_i d el hel;split at h
 case h_2=>simp at h
 rename_i z sz hz0 hs0;by_cases hc:z.length=sz∧len*sz≤2^20
 case neg=>rw[if_neg hc]at h;simp at h
 rw[if_pos hc]at h;obtain ⟨hzs,hbig⟩:=hc;split at h
 ·simp at h
 rename_i cs hcs;cases hap:zcA mv cs with
 |false=>rw[hap]at h;simp at h
 |true=>
 rw[hap]at h;simp only[cond_true]at h;split at h
 case h_2=>simp at h
 rename_i ds ws A hab;simp only[Option.some.injEq]at h;subst h;obtain ⟨i,v,h1,h2,h3⟩:=zdM hz0;have hvs:v.cells.size=sz:=by rw[←hzs,←h3];simp
 let us0:Array Value:=(Array.range (len*sz)).map fun k=>v.cells[k%v.cells.size]!
 have hus0:∀k,k<len*sz→us0.getD k undef=z.getD (k%sz) undef:=fun k hk=>by
  have hpos:0<sz:=by
   rcases Nat.eq_zero_or_pos sz with h|h
   ·rw[h,Nat.mul_zero]at hk;omega
   ·exact h
  have hmod:k%sz<v.cells.size:=by rw[hvs];exact Nat.mod_lt _ hpos
  have:us0.getD k undef=v.cells[k%v.cells.size]! :=by simp[us0,hk]
  rw[this,hvs,←h3];simp[hmod]
 obtain ⟨us',hf,hsz',hlen',hv⟩:=ziO I _ _ _ us0 cs hzl hz (by simp[us0]) (fun j hj=>by
  simp only[List.length_map,List.length_range]at hj;simp only[List.getElem_map,List.getElem_range];exact hus0 j hj) hcs
 simp only[List.length_map,List.length_range]at hlen';have m0:=zeL I (parts.toList.map fun x=>S.ev x.2)
 obtain ⟨hl,G1,obs1,B⟩:=zd0 (lim S) cs 0 I.objs m0.coh (by simp) (by simp) (us:=fun j=>us'.getD j undef) hv hap hab (zdR S)
 have hf':Instr.fill (fun i=>some (i*sz,sz)) us0 ((parts.map fun x=>(x.1,a.eval x.2)).toList)=some us':=by simpa using hf
 have hrun:(execOp a.eval ⟨some d, .buildSlice t len parts,ty,pos,af,gd⟩).run X.P w= .ok (.value (.slice (some ⟨w.heap.size,0,none⟩) len len)) (zch w (.cells us' el)):=by
  show Sem.run X.P (bind (Instr.buildSlice t len (parts.map fun x=>(x.1,a.eval x.2))) fun z=>pure (Next.value z)) w=_
  have hb:(Instr.buildSlice t len (parts.map fun x=>(x.1,a.eval x.2))).run X.P w= .ok (.slice (some ⟨w.heap.size,0,none⟩) len len) (zch w (.cells us' el)):=by
   rw[Instr.buildSlice,run_bind (zct (zgm hel) w)];simp only;rw[run_bind (zca hs0 w)];have hnb:¬(len*sz>2^24):=by omega
   simp only[hnb,if_false]
   have hlast:∀zero:Array Value,(Array.range (len*sz)).map (fun x=>zero[x%zero.size]!)=us0→
    (match Instr.fill (fun i=>some (i*sz,sz)) ((Array.range (len*sz)).map (fun x=>zero[x%zero.size]!)) ((parts.map fun x=>(x.1,a.eval x.2)).toList)with
      |some cells=>(do let __do_lift←newRow el cells;pure (Value.slice (some __do_lift) len len))
      |x=>stuck "buildSlice: a part of the wrong size" :Sem Value).run X.P w= .ok (.slice (some ⟨w.heap.size,0,none⟩) len len) (zch w (.cells us' el)):=by
    intro zero hzz;rw[hzz,hf'];simp only;rw[run_bind (ze6 X.P el us' w)];rfl
   by_cases h0:len*sz=0
   ·rw[if_pos h0,run_bind (show (pure #[]:Sem (Array Value)).run X.P w= .ok #[] w from rfl)]
    exact hlast #[] (by simp[us0,h0])
   ·rw[if_neg h0,run_bind (zdd h1 h2 w),run_bind (show (pure v.cells:Sem (Array Value)).run X.P w= .ok v.cells w from rfl)]
    exact hlast v.cells rfl
  rw[run_bind hb];rfl
 refine .of_value hrun (Inv.make I (hd d rfl) B.mvd B.objs us' el [0] (fun π=>if (ws.all fun w=>decide (w= .deep))=true then (match π with|k::ρ=>some (0::k/sz::k%sz::ρ)| []=>none)else none) _ (fun _=> .slice (some ⟨w.heap.size,0,none⟩) len len) none _ _ (fun π ρ hπ hp=>by
  split at hπ
  ·split at hπ
   ·obtain rfl:=Option.some.inj hπ;unfold Plain at hp⊢;simp only[List.length_cons]at hp⊢;simp at hp;right;omega
   ·simp at hπ
  ·simp at hπ) (fun _=> ?_) (fun obs' pl' ho hp=> ?_))
 ·obtain ⟨hr1,hr2⟩:=zqt ds sz len (by omega)
  refine {bld:= .not rfl,fl:=rfl,rel:=fun c hc=> ?_,box:=fun h=>by simp at h}
  have hc0:c=0:=by simpa using hc
  subst hc0;refine zkx (sz:=sz) (zcJ w _) ?_ (by simp) (by omega) hr1 (fun i j hi hj=> ?_)
  ·simp only[QObj,List.getD_cons_zero]
   split<;>exact zdS rfl
  ·obtain ⟨hk,hk2⟩:=hr2 i j hi hj
   rw[hk2];have hB:=B.rel (i*sz+j) hk;rw[Nat.zero_add]at hB;have hjs:j<sz:=by rw[←hr1 i hi];exact hj
   have hdiv:(i*sz+j)/sz=i:=by
    rw[Nat.mul_comm,Nat.mul_add_div (by omega)]
    rw[Nat.div_eq_of_lt hjs];rfl
   have hmod:(i*sz+j)%sz=j:=by
    rw[Nat.mul_comm,Nat.mul_add_mod];exact Nat.mod_eq_of_lt hjs
   have hne:∀b,b<w.heap.size→some w.heap.size≠some b:=fun b hb h=>by simp only[Option.some.injEq]at h;omega
   refine hB.frame (fun π b hl _=>zbZ w _ hl) (fun π b hl hq=> ?_)
   simp only[QObj,List.getD_cons_zero];by_cases hall:(ws.all fun w=>decide (w= .deep))=true
   ·have hdeep:ws.getD (i*sz+j) .sh= .deep:=by
     rw[List.all_eq_true]at hall;have hlw:i*sz+j<ws.length:=by rw[B.len];exact hk
     rw[za2 ws _ _ hlw];simpa using hall _ (List.getElem_mem hlw)
    rw[hdeep]at hq;simp only[if_pos hall,QCell];rw[zd3 (hne b hl) hq];simp[hdiv,hmod]
   ·simp only[if_neg hall,QCell]
    rw[if_neg (by simp)]
    rcases hq.own with h|h
    ·rw[zd3 (hne b hl) h];rfl
    ·exact zej (hne b hl) h
 ·exact ⟨_,{at0:=ho,kind:=by simp,path:=trivial,lt:=by simp[zaj],sl:=⟨_,rfl⟩,head:=by simp[zb2,hp]}⟩
theorem znz{n:Int}(h0:0≤n)(h1:n≤2^62):IntKind.i64.wrap n=n:=by
 have h2:(2:Int)^IntKind.i64.bits=18446744073709551616:=by decide
 have h3:(2:Int)^(IntKind.i64.bits-1)=9223372036854775808:=by decide
 have h4:n%18446744073709551616=n:=by omega
 unfold IntKind.wrap;simp only[h2,h3,h4];rw[if_neg];simp only[Bool.and_eq_true,decide_eq_true_eq,not_and];intro _;omega
theorem zlW(P:Program)(n:Nat)(w:World):(askRoom n).run P w= .ok () w:=by
 unfold askRoom;split<;>rfl
theorem zbW{α:Type}{b:Bool}{x y:α}:(cond b (some x) none=some y)↔(b=true∧x=y):=by cases b<;>simp
theorem zky(I:Inv W0 G0 S w a.tmps G pl)(hd:∀d,dst=some d→d<S.t.length)(t:TypeId)(x y:Operand)
 (h:S.opK X mv ⟨dst, .makeSlice t x y,ty,pos,af,gd⟩ some=some e):OpOk X.P W0 G0 S w a ⟨dst, .makeSlice t x y,ty,pos,af,gd⟩ e:=by
 simp only[St.opK,St.vals,Op.operands,List.map_cons,List.map_nil,effK]at h;have hx:=I.ev x;have hy:=I.ev y;split at h
 case h_2=>simp at h
 rename_i d k1 n k2 m el hsx hsy hel;split at h
 case h_2=>simp at h
 rename_i z ei hz0 hei;rw[zbW]at h;obtain ⟨hc,rfl⟩:=h;simp only[Bool.and_eq_true,decide_eq_true_eq]at hc;obtain ⟨⟨⟨⟨hnm,h0⟩,hbig⟩,hzl⟩,hpos⟩:=hc;rw[hsx]at hx;rw[hsy]at hy;have hx:a.eval x= .int k1 n:=hx;have hy:a.eval y= .int k2 m:=hy
 have hmn:m=n:=by
  split at hnm
  ·rename_i p q
   simp only[Bool.or_eq_true,beq_iff_eq,decide_eq_true_eq]at hnm;rcases hnm with rfl|h
   ·rw[hx]at hy;simp only[Value.int.injEq]at hy;exact hy.2.symm
   ·exact h.symm
  ·simpa using Eq.symm (of_decide_eq_true hnm)
 subst hmn;obtain ⟨i,v,h1,h2,h3⟩:=zdM hz0;have hii:i=ei:=by rw[h1]at hei;exact Option.some.inj hei
 subst hii;have hvs:v.cells.size=i.size:=by rw[←hzl,←h3];simp
 have hle:m≤2^46:=by
  have:m*1≤m*((i.bytes:Int)+1):=Int.mul_le_mul_of_nonneg_left (by omega) h0
  omega
 have hbm:m*(i.bytes:Int)≤2^46:=by
  have:m*((i.bytes:Int)+1)=m*i.bytes+m:=by rw[Int.mul_add,Int.mul_one]
  omega
 let cs:Array Value:=(Array.range (m.toNat*i.size)).map fun k=>v.cells[k%v.cells.size]!
 have hrun:(execOp a.eval ⟨some d, .makeSlice t x y,ty,pos,af,gd⟩).run X.P w= .ok (.value (.slice (some ⟨w.heap.size,0,none⟩) m.toNat m.toNat)) (zch w (.cells cs el)):=by
  show Sem.run X.P (bind (Instr.makeSlice t (a.eval x) (a.eval y)) fun z=>pure (Next.value z)) w=_
  have hb:(Instr.makeSlice t (.int k1 m) (.int k2 m)).run X.P w= .ok (.slice (some ⟨w.heap.size,0,none⟩) m.toNat m.toNat) (zch w (.cells cs el)):=by
   have hw:=znz h0 (by omega)
   have ha:∀k,(asInt (.int k m)).run X.P w= .ok m w:=fun k=>by
    rw[asInt,run_bind (zey X.P k m w)];rfl
   have hti:(typeInfo el).run X.P w= .ok i w:=by simp[typeInfo,go_sem,h1]
   have hsz:(sizeOf el).run X.P w= .ok i.size w:=zca (by unfold sizeB;rw[h1];rfl) w
   rw[Instr.makeSlice,run_bind (zct (zgm hel) w)];simp only;rw[run_bind (ha k1),run_bind (ha k2),run_bind hti];simp only[hw];have hbm2:(i.bytes:Int)*m≤2^46:=by rw[Int.mul_comm];exact hbm
   have ht:((decide (m<0)||decide ((i.bytes:Int)*m>2^48)||decide (m<0)||decide (m>m))=true)=False:=by
    simp;omega
   simp only[ht,if_false];rw[run_bind (zlW X.P _ w),run_bind hsz];by_cases hn0:m.toNat*i.size=0
   ·simp only[hn0,if_true]
    rw[run_bind (show (pure #[]:Sem (Array Value)).run X.P w= .ok #[] w from rfl),run_bind (ze6 X.P el _ w)]
    have:cs= #[]:=by simp[cs,hn0]
    have h6:(Array.range 0).map (fun x=>(#[]:Array Value)[x%(#[]:Array Value).size]!)= #[]:=by simp
    rw[this,h6];rfl
   ·simp only[hn0,if_false]
    rw[run_bind (zdd h1 h2 w),run_bind (show (pure v.cells:Sem (Array Value)).run X.P w= .ok v.cells w from rfl),run_bind (ze6 X.P el _ w)]
    rfl
  rw[hx,hy,run_bind hb];rfl
 refine .of_value hrun (Inv.make I (hd d rfl) (zeL I []) I.objs cs el [0] (fun _=>none) _ (fun _=> .slice (some ⟨w.heap.size,0,none⟩) m.toNat m.toNat) none _ _ (fun _ _ h=>by simp at h) (fun _=> ?_) (fun obs' pl' ho hp=> ?_))
 ·refine {bld:= .not rfl,fl:=rfl,rel:=fun c hc=> ?_,box:=fun h=>by simp at h}
  have hc0:c=0:=by simpa using hc
  subst hc0;refine zkx (sz:=i.size) (zcJ w _) (zdS rfl) (by simp) (by simp[cs]) (fun j hj=>by simp[hzl]) (fun r j hr hj=> ?_)
  simp only[List.getElem_replicate]at hj⊢;have hjz:j<z.length:=by simpa using hj
  have hr':r<m.toNat:=by simpa using hr
  have hk:r*i.size+j<m.toNat*i.size:=by
   have:(r+1)*i.size≤m.toNat*i.size:=Nat.mul_le_mul_right _ hr';rw[Nat.succ_mul]at this;omega
  have hmod:(r*i.size+j)%i.size=j:=by
   rw[Nat.mul_comm,Nat.mul_add_mod];exact Nat.mod_eq_of_lt (by omega)
  have hcell:cs.getD (r*i.size+j) undef=z[j]:=by
   have h5:cs.getD (r*i.size+j) undef=v.cells[(r*i.size+j)%v.cells.size]! :=by simp[cs,hk]
   rw[h5,hvs,hmod];subst h3;have:j<v.cells.size:=by simpa using hjz
   simp[this]
  rw[hcell];simp only[List.getElem_map];exact Rel.dOf _ _ _
 ·exact ⟨_,{at0:=ho,kind:=by simp,path:=trivial,lt:=by simp[zaj],sl:=⟨_,rfl⟩,head:=by simp[zb2,hp]}⟩
end ops
end Go.PV
namespace Go.PV
open Go.RowKit
def setCells(w:World)(b:Nat):Nat→List Value→World
 |_,[]=>w
 |o,v::vs=>setCells (w.setCell ⟨b,o,none⟩ v) b (o+1) vs
structure SetFacts (w w':World) (b o:Nat) (vs:List Value) (cs:Array Value) (ty:TypeId):Prop where
 other:∀b',b'≠b→w'.heap[b']? =w.heap[b']?
 here:∃cs',w'.heap[b]? =some (.cells cs' ty (0,0))∧cs'.size=cs.size∧∀k,cs'[k]? =if o≤k∧k<o+vs.length then (if k<cs.size then vs[k-o]? else none)else cs[k]?
 size:w'.heap.size=w.heap.size
 os:w'.os=w.os
 output:w'.output=w.output
 tape:w'.tape=w.tape
theorem zbP(b:Nat)(ty:TypeId):∀(vs:List Value) (w:World) (o:Nat) (cs:Array Value),w.heap[b]? =some (.cells cs ty (0,0))→
 SetFacts w (setCells w b o vs) b o vs cs ty:=by
 intro vs
 induction vs with
 |nil=>
  intro w o cs h;exact {other:=fun _ _=>rfl,here:=⟨cs,h,rfl,fun k=>by rw[if_neg (by simp)]⟩,size:=rfl,os:=rfl,output:=rfl,tape:=rfl}
 |cons v vs ih=>
  intro w o cs h
  have h1:(w.setCell ⟨b,o,none⟩ v).heap[b]? =some (.cells (cs.setIfInBounds o v) ty (0,0)):=by
   simp[World.setCell,Array.getElem?_modify,h]
  have h2:∀b',b'≠b→(w.setCell ⟨b,o,none⟩ v).heap[b']? =w.heap[b']? :=fun b' hb=>by
   simp only[World.setCell,Array.getElem?_modify];rw[if_neg (fun h=>hb h.symm)]
  have F:=ih (w.setCell ⟨b,o,none⟩ v) (o+1) _ h1;obtain ⟨cs',h3,h4,h5⟩:=F.here
  refine {other:=fun b' hb=>(F.other b' hb).trans (h2 b' hb),here:=⟨cs',h3,by rw[h4];simp,fun k=> ?_⟩,size:=F.size.trans (by simp[World.setCell])
          os:=F.os,output:=F.output,tape:=F.tape}
  rw[h5 k];simp only[List.length_cons,Array.size_setIfInBounds,Array.getElem?_setIfInBounds];by_cases hk:k=o
  ·subst hk
   rw[if_neg (show ¬(k+1≤k∧k<k+1+vs.length) by omega),if_pos (show k≤k∧k<k+(vs.length+1) by omega)]
   simp
  ·have hko:¬o=k:=fun h=>hk h.symm
   by_cases hk2:o+1≤k∧k<o+1+vs.length
   ·rw[if_pos hk2,if_pos (show o≤k∧k<o+(vs.length+1) by omega)]
    have:k-o=(k-(o+1))+1:=by omega
    rw[this];simp
   ·rw[if_neg hk2,if_neg (show ¬(o≤k∧k<o+(vs.length+1)) by omega),if_neg hko]
theorem zed(P:Program)(b:Nat)(ty:TypeId)(ad0:Addr)(hb:ad0.block=b)(hsp:ad0.spot=none):∀(vs:List Value) (i:Nat) (w:World) (cs:Array Value),w.heap[b]? =some (.cells cs ty (0,0))→
 ad0.off+i+vs.length≤cs.size→(∀v∈vs,zc2 v=true)→(storeCells ad0 vs i).run P w= .ok () (setCells w b (ad0.off+i) vs):=by
 intro vs
 induction vs with
 |nil=>intro i w cs _ _ _;rfl
 |cons v vs ih=>
  intro i w cs h hlen hv;simp only[List.length_cons]at hlen;have had:ad0.add i=⟨b,ad0.off+i,none⟩:=by rw[ze5 ad0 hsp,hb]
  have hcell:w.cell? ⟨b,ad0.off+i,none⟩=some (cs[ad0.off+i]'(by omega)):=by
   have:ad0.off+i<cs.size:=by omega
   simp only[World.cell?,h];simp[this]
  have hfz:w.frozen? ⟨b,ad0.off+i,none⟩=false:=by simp[World.frozen?,h]
  have hv0:=hv v (by simp)
  have hst:(store ⟨b,ad0.off+i,none⟩ v).run P w= .ok () (w.setCell ⟨b,ad0.off+i,none⟩ v):=by
   unfold store
   cases v<;>first
    |(simp[zc2]at hv0;done)
    |(simp only[Sem.run,hcell,hfz];rfl)
  rw[storeCells,had,run_bind hst]
  have h1:(w.setCell ⟨b,ad0.off+i,none⟩ v).heap[b]? =some (.cells (cs.setIfInBounds (ad0.off+i) v) ty (0,0)):=by
   simp[World.setCell,Array.getElem?_modify,h]
  have:=ih (i+1) _ _ h1 (by simp;omega) (fun u hu=>hv u (by simp[hu]))
  rw[this];rfl
def gSto(G1:Ghost)(n L:Nat)(f:List Nat→Option (List Nat))(g:List Nat→Bool):Ghost:=fun b=>
 match G1 b with
 |some (k,π)=>if k=L then (f π).map fun ρ=>(n,ρ)else if k=n∧g π=false then none else some (k,π)
 |none=>none
section gsto
variable {G1:Ghost}{n L:Nat}{f:List Nat→Option (List Nat)}{g:List Nat→Bool}{b:Nat}
theorem zdA(h:G1 b=none):gSto G1 n L f g b=none:=by simp[gSto,h]
theorem zkz{k:Nat}{π:List Nat}(h:G1 b=some (k,π))(h1:k≠n)(h2:k≠L):gSto G1 n L f g b=some (k,π):=by simp[gSto,h,h1,h2]
theorem ze9{π:List Nat}(h:G1 b=some (n,π))(h2:n≠L)(h1:g π=true):gSto G1 n L f g b=some (n,π):=by simp[gSto,h,h1,h2]
theorem zov{π:List Nat}(h:G1 b=some (n,π))(h2:n≠L)(h1:g π=false):gSto G1 n L f g b=none:=by simp[gSto,h,h1,h2]
theorem zg6{π:List Nat}(h:G1 b=some (L,π)):gSto G1 n L f g b=(f π).map fun ρ=>(n,ρ):=by simp[gSto,h]
theorem zmW{x:Nat×List Nat}(h:gSto G1 n L f g b=some x):x.1=n∨G1 b=some x∧x.1≠L:=by
 unfold gSto at h;split at h
 ·rename_i k π h1
  split at h
  ·rw[Option.map_eq_some_iff]at h
   obtain ⟨ρ,_,rfl⟩:=h;exact .inl rfl
  ·split at h
   ·simp at h
   ·rename_i h2 h3
    simp only[Option.some.injEq]at h;subst h;exact .inr ⟨h1,h2⟩
 ·simp at h
theorem zmX(hf:∀π ρ,f π=some ρ→Plain ρ→Plain π){x:Nat×List Nat}(h:gSto G1 n L f g b=some x):∃y,G1 b=some y∧(Plain x.2→Plain y.2):=by
 unfold gSto at h;split at h
 ·rename_i k π h1
  refine ⟨_,h1, ?_⟩;split at h
  ·rw[Option.map_eq_some_iff]at h
   obtain ⟨ρ,h2,rfl⟩:=h;exact hf _ _ h2
  ·split at h
   ·simp at h
   ·obtain rfl:=Option.some.inj h;exact id
 ·simp at h
theorem zqu{x:Nat×List Nat}(h:gSto G1 n L f g b=some x):(∃π ρ,G1 b=some (L,π)∧f π=some ρ∧x=(n,ρ))∨G1 b=some x∧x.1≠L:=by
 unfold gSto at h;split at h
 ·rename_i k π h1
  split at h
  ·rename_i hk
   rw[Option.map_eq_some_iff]at h;obtain ⟨ρ,h2,h3⟩:=h;exact .inl ⟨π,ρ,by rw[h1,hk],h2,h3.symm⟩
  ·rename_i hk
   split at h
   ·simp at h
   ·simp only[Option.some.injEq]at h
    subst h;exact .inr ⟨h1,hk⟩
 ·simp at h
end gsto
section ops
variable {X:Ctx}{W0:World}{G0:Orig}{S:St}{w w':World}{a:Act}{G:Ghost}{pl:zaP}{mv:Bool}{e:Rec}
 {dst:Option Tmp} {ty:TypeId} {pos:String} {af:Array Edge} {gd:Option (Nat×Bool)}
def zcq(row row':List D):Prop:=∀q,zbR row q→zbR row' q∧∀(w:World) hd base,zaD w hd row' q base=zaD w hd row q base
theorem zcq.refl(row:List D):zcq row row:=fun _ h=>⟨h,fun _ _ _=>rfl⟩
theorem zcq.trans{a b c:List D}(h:zcq a b)(k:zcq b c):zcq a c:=fun q hq=>by
 obtain ⟨h1,h2⟩:=h q hq;obtain ⟨k1,k2⟩:=k q h1;exact ⟨k1,fun w hd base=>(k2 w hd base).trans (h2 w hd base)⟩
theorem zju{row:List D}{c:Nat}{d:D}(h:c<row.length):(row.set c d).getD c .h=d:=by simp[List.getD,h]
theorem zfk{row:List D}{c c':Nat}{d:D}(h:c≠c'):(row.set c d).getD c' .h=row.getD c' .h:=by simp[List.getD,h]
theorem zmY:∀(p:Path) (row:List D) (c:Nat),((zaj row p).getD c .h).es=[]→zcq row (zaC row p ((zaj row p).set c .h))
 | [],row,c,he,q,hq=>by
  cases q with
  |nil=>exact ⟨trivial,fun _ _ _=>rfl⟩
  |cons y q=>
   obtain ⟨c1,e1⟩:=y;obtain ⟨h1,h2,h3⟩:=hq
   have hne:c≠c1:=fun h=>by
    subst h;have he:(row.getD c .h).es=[]:=he;rw[he]at h2;simp at h2
   have hg:(row.set c .h).getD c1 .h=row.getD c1 .h:=zfk hne;simp only[zaC,zaj,zbR,zaD,hg];exact ⟨⟨by rw[List.length_set];exact h1,h2,h3⟩,fun _ _ _=>trivial⟩
 |(c0,e0)::p,row,c,he,q,hq=>by
  cases q with
  |nil=>exact ⟨trivial,fun _ _ _=>rfl⟩
  |cons y q=>
   obtain ⟨c1,e1⟩:=y;obtain ⟨h1,h2,h3⟩:=hq;by_cases hc:c0=c1
   ·subst hc
    have hs:(zaC row ((c0,e0)::p) ((zaj row ((c0,e0)::p)).set c .h)).getD c0 .h=
     .s ((row.getD c0 .h).es.set e0 (zaC ((row.getD c0 .h).es.getD e0 []) p ((zaj ((row.getD c0 .h).es.getD e0 []) p).set c .h))):=by
     simp only[zaC,zaj];exact zju h1
    have hlen:(zaC row ((c0,e0)::p) ((zaj row ((c0,e0)::p)).set c .h)).length=row.length:=zby _ _ _ (fun h=>by simp at h)
    by_cases hee:e0=e1
    ·subst hee
     have hx:((row.getD c0 .h).es.set e0 (zaC ((row.getD c0 .h).es.getD e0 []) p ((zaj ((row.getD c0 .h).es.getD e0 []) p).set c .h))).getD e0 []=
      zaC ((row.getD c0 .h).es.getD e0 []) p ((zaj ((row.getD c0 .h).es.getD e0 []) p).set c .h):=by
      rw[za2 _ e0 _ (by rw[List.length_set];exact h2),List.getElem_set_self]
     obtain ⟨k1,k2⟩:=zmY p ((row.getD c0 .h).es.getD e0 []) c he q h3
     have hl2:(zaC ((row.getD c0 .h).es.getD e0 []) p ((zaj ((row.getD c0 .h).es.getD e0 []) p).set c .h)).length=((row.getD c0 .h).es.getD e0 []).length:=
      zby _ _ _ (fun h=>by subst h;simp[zaj])
     refine ⟨⟨hlen▸h1, ?_, ?_⟩,fun w hd base=> ?_⟩
     ·rw[hs,zfJ,List.length_set];exact h2
     ·rw[hs,zfJ,hx];exact k1
     ·simp only[zaD]
      rw[hs,zfJ,hx,hl2];cases hd c0 with
      |none=>rfl
      |some v=>
       cases v<;>try rfl
       rename_i o _ _;cases o with
       |none=>rfl
       |some ad=>exact k2 w _ _
    ·have hx:((row.getD c0 .h).es.set e0 (zaC ((row.getD c0 .h).es.getD e0 []) p ((zaj ((row.getD c0 .h).es.getD e0 []) p).set c .h))).getD e1 []=(row.getD c0 .h).es.getD e1 []:=by
      simp[List.getD,hee]
     refine ⟨⟨hlen▸h1, ?_, ?_⟩,fun w hd base=> ?_⟩
     ·rw[hs,zfJ,List.length_set];exact h2
     ·rw[hs,zfJ,hx];exact h3
     ·simp only[zaD]
      rw[hs,zfJ,hx]
   ·have hg:(zaC row ((c0,e0)::p) ((zaj row ((c0,e0)::p)).set c .h)).getD c1 .h=row.getD c1 .h:=by
     simp only[zaC];exact zfk hc
    have hlen:(zaC row ((c0,e0)::p) ((zaj row ((c0,e0)::p)).set c .h)).length=row.length:=zby _ _ _ (fun h=>by simp at h)
    refine ⟨⟨hlen▸h1,by rw[hg];exact h2,by rw[hg];exact h3⟩,fun w hd base=> ?_⟩
    simp only[zaD];rw[hg]
theorem zgK{mv:Bool}:∀(as:List A1) {A A':Env} {ds:List D} {ws:List Own},zcP A mv as=some (ds,ws,A')→((as.zip ds).all fun x=>match x.1 with| .r _ p _=> !p.isEmpty&&x.2.es.isEmpty|_=>true)=true→
 ∀k ob,fget A.o k=some ob→∃ob',fget A'.o k=some ob'∧zcq ob.row ob'.row
 | [],A,A',ds,ws,h,_,k,ob,hk=>by
  simp only[zcP,Option.some.injEq,Prod.mk.injEq]at h;obtain ⟨_,_,rfl⟩:=h;exact ⟨ob,hk,zcq.refl _⟩
 |a::as,A,A',ds,ws,h,he,k,ob,hk=>by
  simp only[zcP]at h;split at h
  case h_2=>simp at h
  rename_i d w' A1 h1;split at h
  case h_2=>simp at h
  rename_i ds' ws' A2 h2;simp only[Option.some.injEq,Prod.mk.injEq]at h;obtain ⟨rfl,rfl,rfl⟩:=h;simp only[List.zip_cons_cons,List.all_cons,Bool.and_eq_true]at he;obtain ⟨he1,he2⟩:=he
  have step:∃ob1,fget A1.o k=some ob1∧zcq ob.row ob1.row:=by
   cases a with
   |r n p c=>
    simp only[zbE]at h1;split at h1
    case h_2=>simp at h1
    rename_i es w2 A3 h3;simp only[Option.some.injEq,Prod.mk.injEq]at h1;obtain ⟨rfl,rfl,rfl⟩:=h1;have he1:(!p.isEmpty&&es.isEmpty)=true:=he1;have hes:es=[]:=by rw[Bool.and_eq_true]at he1;simpa using he1.2
    unfold zeb at h3;split at h3
    ·simp at h3
    rename_i obn hfn;simp only at h3;split at h3
    ·simp only[Option.some.injEq,Prod.mk.injEq]at h3
     obtain ⟨_,_,rfl⟩:=h3;exact ⟨ob,hk,zcq.refl _⟩
    ·split at h3
     ·simp only[Option.some.injEq,Prod.mk.injEq]at h3
      obtain ⟨h4,_,rfl⟩:=h3;by_cases hkn:n=k
      ·subst hkn
       rw[hfn]at hk;obtain rfl:=Option.some.inj hk;exact ⟨{obn with row:=zaC obn.row p ((zaj obn.row p).set c .h)},by simp[fget],zmY p obn.row c (h4.trans hes)⟩
      ·exact ⟨ob,by simp[fget,hkn,hk],zcq.refl _⟩
     ·simp only[Option.some.injEq,Prod.mk.injEq]at h3
      obtain ⟨_,_,rfl⟩:=h3;by_cases hkn:n=k
      ·subst hkn
       rw[hfn]at hk;obtain rfl:=Option.some.inj hk;exact ⟨{obn with fl:=zb6 obn.fl p c},by simp[fget],zcq.refl _⟩
      ·exact ⟨ob,by simp[fget,hkn,hk],zcq.refl _⟩
   |v x=>
    simp only[zbE]at h1;split at h1
    ·simp only[Option.some.injEq,Prod.mk.injEq]at h1
     obtain ⟨_,_,rfl⟩:=h1;exact ⟨ob,hk,zcq.refl _⟩
    ·simp at h1
   |s es=>
    simp only[zbE,Option.some.injEq,Prod.mk.injEq]at h1;obtain ⟨_,_,rfl⟩:=h1;exact ⟨ob,hk,zcq.refl _⟩
   |dead=>simp[zbE]at h1
   |q row c=>simp[zbE]at h1
   |p b n p c=>simp[zbE]at h1
   |bx cs c=>simp[zbE]at h1
  obtain ⟨ob1,k1,k2⟩:=step;obtain ⟨ob2,k3,k4⟩:=zgK as h2 he2 k ob1 k1;exact ⟨ob2,k3,k2.trans k4⟩
theorem zgn{mv:Bool}:∀(as:List A1) {A A':Env} {ds:List D} {ws:List Own},zcP A mv as=some (ds,ws,A')→∀k,k∈A'.tch→k∉A.tch→fget A.o k≠none
 | [],A,A',ds,ws,h,k,h1,h2=>by
  simp only[zcP,Option.some.injEq,Prod.mk.injEq]at h;obtain ⟨_,_,rfl⟩:=h;exact absurd h1 h2
 |a::as,A,A',ds,ws,h,k,h1,h2=>by
  simp only[zcP]at h;split at h
  case h_2=>simp at h
  rename_i d w' A1 g1;split at h
  case h_2=>simp at h
  rename_i ds' ws' A2 g2;simp only[Option.some.injEq,Prod.mk.injEq]at h;obtain ⟨_,_,rfl⟩:=h
  have step:A1=A∨∃n ob' kl,fget A.o n≠none∧A1={o:=(n,some ob')::A.o,tch:=n::A.tch,kl:=kl}:=by
   cases a with
   |r n p c=>
    simp only[zbE]at g1;split at g1
    case h_2=>simp at g1
    rename_i es w2 A3 h3;simp only[Option.some.injEq,Prod.mk.injEq]at g1;obtain ⟨_,_,rfl⟩:=g1;unfold zeb at h3;split at h3
    ·simp at h3
    rename_i obn hfn;simp only at h3;split at h3
    ·simp only[Option.some.injEq,Prod.mk.injEq]at h3
     exact .inl h3.2.2.symm
    ·split at h3
     ·simp only[Option.some.injEq,Prod.mk.injEq]at h3
      exact .inr ⟨n,_,_,by rw[hfn];simp,h3.2.2.symm⟩
     ·simp only[Option.some.injEq,Prod.mk.injEq]at h3
      exact .inr ⟨n,_,_,by rw[hfn];simp,h3.2.2.symm⟩
   |v x=>
    simp only[zbE]at g1;split at g1
    ·simp only[Option.some.injEq,Prod.mk.injEq]at g1
     exact .inl g1.2.2.symm
    ·simp at g1
   |s es=>simp only[zbE,Option.some.injEq,Prod.mk.injEq]at g1;exact .inl g1.2.2.symm
   |dead=>simp[zbE]at g1
   |q row c=>simp[zbE]at g1
   |p b n p c=>simp[zbE]at g1
   |bx cs c=>simp[zbE]at g1
  rcases step with rfl|⟨n,ob',kl,hn,rfl⟩
  ·exact zgn as g2 k h1 h2
  ·by_cases hkn:k=n
   ·subst hkn;exact hn
   ·have:=zgn as g2 k h1 (by simp[hkn,h2])
    have hnk:¬n=k:=fun h=>hkn h.symm
    simpa[fget,hnk]using this
theorem Inv.turn1(I:Inv W0 G0 S w a.tmps G pl){G1 G':Ghost}{obs1:Obs}{F:Foot}{A:Env}(m:Mv (lim S) G S.obj {o:=F} G1 obs1 A)(hO:zcx w G1 obs1 pl)
 {n:Nat} {ob0 ob':Obj} (hn:S.obj n=some ob0) (hk0:ob0.kind≠ .ro) (hkind:ob'.kind=ob0.kind) (hnk:∀x∈A.kl,x.1≠n) (bX:Nat) (hbX:∃π,G1 bX=some (n,π))
 (plN:Place) (hbase:plN.base=(pl n).base) (lv:Nat)
 (hw:∀b,b≠bX→w'.heap[b]? =w.heap[b]?) (hwX:∃cs ty,w'.heap[bX]? =some (.cells cs ty (0,0)))
 (hGn:∀b,G1 b=none→G' b=none) (hGk:∀b k π,G1 b=some (k,π)→k≠n→k≠lim S→G' b=some (k,π))
 (hGd:∀b x,G' b=some x→x.1=n∨G1 b=some x∧x.1≠lim S) (hGp:∀b x,G' b=some x→∃y,G1 b=some y∧(Plain x.2→Plain y.2)) (hN:ObjRel w' G' n plN ob')
 (hR:lv=0→∀c es,c<ob0.row.length→ob0.row.getD c .h= .s es→c<ob'.row.length∧(∃es',ob'.row.getD c .h= .s es')∧plN.hd c=(pl n).hd c)
 (hlenX:ob0.row.length=ob'.row.length) (hplX:ob0.kind≠ .box→plN=pl n) (hX:∀b off,G' b=some (n,[])→(pl n).base=some ⟨b,off,none⟩→G1 b=some (n,[])∧∀k,k<off∨off+ob'.row.length≤k→w'.cell? ⟨b,k,none⟩=w.cell? ⟨b,k,none⟩)
 (hos:w'.os=w.os) (hout:w'.output=w.output) (htape:w'.tape=w.tape) (hsz:w.heap.size≤w'.heap.size) (v:Value) (val:AV)
 (hv:dst≠none→∀obs' pl',obs' n=some ob'→pl' n=plN→VAV w' G' obs' pl' v val) (hlv5:lv<5) (wk:Bool)
 (hE:wk=true→∀k ob ob1,S.obj k=some ob→obs1 k=some ob1→zcq ob.row ob1.row):
 Inv W0 G0 (S.put dst {val,ups:=A.ups++[(n,some ob')],kl:=weak wk A.kl++[(n,lv)]}) w' (a.put dst v).tmps G' (fun k=>if k=n then plN else pl k):=by
 have hwn:∀k,(∀x∈weak wk A.kl,x.1≠k)→∀x∈A.kl,x.1≠k:=fun k h x hx=>by
  cases wk with
  |false=>exact h x hx
  |true=>exact h (x.1,5) (List.mem_map.2 ⟨x,hx,rfl⟩)
 have hw0:∀k,(∀x∈weak wk A.kl,x.1=k→x.2=0)→∀x∈A.kl,x.1=k→x.2=0:=fun k h x hx hk=>by
  cases wk with
  |false=>exact h x hx hk
  |true=>exact absurd (h (x.1,5) (List.mem_map.2 ⟨x,hx,rfl⟩) hk) (by simp)
 have hwm:∀k y,y∈weak wk A.kl→y.1=k→(y.2<5→wk=false)∧(5≤y.2→wk=true)∧∃x∈A.kl,x.1=k:=fun k y hy hk=>by
  cases wk with
  |false=>exact ⟨fun _=>rfl,fun h=>absurd (m.kl y hy).1 (by omega),y,hy,hk⟩
  |true=>
   obtain ⟨x,hx,rfl⟩:=List.mem_map.1 hy;exact ⟨fun h=>absurd h (by simp),fun _=>rfl,x,hx,hk⟩
 have hlt:=zdc hn
 have hobj:∀k,(S.put0 dst {val,ups:=A.ups++[(n,some ob')],kl:=weak wk A.kl++[(n,lv)]}).obj k=if k=n then some ob' else obs1 k:=by
  intro k;rw[zg5,zd1,zfR _ _ _ _ (by rw[zeK];exact hlt),zjs m]
 have hnl:n≠lim S:=fun h=>by rw[h]at hlt;exact absurd hlt (Nat.lt_irrefl _)
 obtain ⟨πX,hbX⟩:=hbX;have hGX:∃y,G bX=some y:=let ⟨y,hy,_⟩:=m.gdom bX _ hbX;⟨y,hy⟩
 have hB:zcc w w' G G':=fun b hb h0=>by
  refine ⟨hw b (fun h=> ?_),hGn b (m.gnone b h0)⟩
  obtain ⟨y,hy⟩:=hGX;rw[h,hy]at h0;simp at h0
 have hGdom:∀b x,G' b=some x→∃y,G1 b=some y:=fun b x hx=>by
  cases h1:G1 b with
  |none=>rw[hGn b h1]at hx;simp at hx
  |some y=>exact ⟨y,rfl⟩
 -- other objects
 have hlimN:∀k ob,obs1 k=some ob→k≠lim S:=by
  rintro k ob hob rfl
  have:∃ob',S.obj (lim S)=some ob':=by
   by_cases ht:lim S∈A.tch
   ·rcases m.tin _ ht with h|h
    ·simp at h
    ·exact h
   ·rw[m.keep _ ht]at hob;exact ⟨_,hob⟩
  obtain ⟨_,h⟩:=this;rw[zdR]at h;simp at h
 refine Inv.stepQ I dst _ v hB (fun k hk ob hob=> ?_) (fun k hk ob hob hkr=> ?_) (fun k hk ob hob=> ?_) (fun k hex hall p ad ob hr=> ?_) (fun k ⟨y,hy,hyk,h5⟩ x hx hxk=> ?_) (fun k ob hob hkr=> ?_) (fun b x hx=> ?_) (fun b x hx=> ?_) (fun b π h=> ?_) (fun k ob hk ho=> ?_) hos hout htape hsz (fun hd=> ?_)
 ·have hkn:k≠n:=fun h=>hk (n,lv) (by simp) h.symm
  obtain ⟨ob1,h1,h2,h3,h4,h5⟩:=m.turn k ob hob;have hkA:=hwn k (fun x hx=>hk x (List.mem_append_left _ hx))
  refine ⟨ob1,by rw[hobj,if_neg hkn];exact h1,h5.1 hkA,h2,if_neg hkn,fun hr=>by rw[h4 hr],fun b π hb=>hw b (fun h=> ?_)⟩
  subst h;rcases m.gstay b k π hb hkA with h6|h6
  ·rw[hbX]at h6;simp only[Option.some.injEq,Prod.mk.injEq]at h6;exact hkn h6.1.symm
  ·rw[hbX]at h6;simp at h6
 ·by_cases hkn:k=n
  ·subst hkn
   have:lv=0:=hk (k,lv) (by simp) rfl
   rw[hn]at hob;obtain rfl:=Option.some.inj hob;refine ⟨ob',by rw[hobj,if_pos rfl],hkind▸hk0,fun c es hc hes=> ?_⟩
   simp only[if_true];exact hR this c es hc hes
  ·have hnk':∀x∈A.kl,x.1=k→x.2=0:=hw0 k (fun x hx h=>hk x (List.mem_append_left _ hx) h)
   obtain ⟨ob1,h1,h2,h3,h4,h5,h6⟩:=m.turn k ob hob;exact ⟨ob1,by rw[hobj,if_neg hkn];exact h1,h2▸hkr,fun c es hc hes=>⟨h3▸hc,h6 hnk' c es hes,by simp only[if_neg hkn]⟩⟩
 ·by_cases hkn:k=n
  ·subst hkn
   rw[hn]at hob;obtain rfl:=Option.some.inj hob;exact ⟨ob',by rw[hobj,if_pos rfl],hkind,by simp only[if_true];exact hbase,fun h=>absurd h hk0⟩
  ·obtain ⟨ob1,h1,h2,h3,h4,h5⟩:=m.turn k ob hob
   exact ⟨ob1,by rw[hobj,if_neg hkn];exact h1,h2,by simp only[if_neg hkn],fun hr=>⟨h4 hr,if_neg hkn⟩⟩
 ·have hkn:k≠n:=fun h=>by
   have:=hall (n,lv) (by simp) h.symm
   simp only at this;omega
  obtain ⟨y,hy,hyk,h5⟩:=hex
  have hyA:y∈weak wk A.kl:=by
   rcases List.mem_append.1 hy with h|h
   ·exact h
   ·have:y=(n,lv):=by simpa using h
    subst this;simp only at h5;omega
  have hwk:=(hwm k y hyA hyk).2.1 h5;have hob:=hr.at0;obtain ⟨ob1,h1,h2,h3,h4,h5⟩:=m.turn k ob hob;have hh:=hE hwk k ob ob1 hob h1;have hkl:=hlimN k ob1 h1;by_cases hro:ob.kind= .ro
  ·obtain rfl:=h4 hro
   obtain ⟨q1,ad0,q2,q3⟩:=hr.ro hro;refine ⟨ob1,{at0:=by rw[hobj,if_neg hkn];exact h1,path:=hr.path,at_:= ?_,spot:=hr.spot,ro:=fun _=>⟨q1,ad0, ?_, ?_⟩,virt:=hr.virt}⟩
   ·simp only[if_neg hkn]
    rw[←hr.at_];exact zcp p _ q3.rel hr.path (fun _ b hl hq=>(hB b hl hq).1)
   ·simp only[if_neg hkn];exact q2
   ·simp only[if_neg hkn];exact q3.frame hB
  have ho:=hO k ob1 h1 (h2▸hro)
  have hne:∀b,(G1 b=none∨∃π,G1 b=some (k,π))→b≠bX:=by
   rintro b h rfl
   rcases h with h|⟨π,h⟩<;>rw[hbX]at h
   ·simp at h
   ·simp only[Option.some.injEq,Prod.mk.injEq]at h;exact hkn h.1.symm
  obtain ⟨hp1,hp2⟩:=hh p hr.path;refine ⟨ob1,{at0:=by rw[hobj,if_neg hkn];exact h1,path:=hp1,at_:= ?_,spot:=hr.spot,ro:=fun h=>absurd (h2▸h) hro,virt:=fun h=>h2▸hr.virt h}⟩
  simp only[if_neg hkn];have hfr:zaD w' (hdf (pl k)) ob1.row p (pl k).base=zaD w (hdf (pl k)) ob1.row p (pl k).base:=zcp p _ ho.rel hp1 (fun π b hl hq=>hw b (hne b ?_))
  ·rw[hfr,hp2];exact hr.at_
  ·rcases hq.own with h|h
   ·exact .inr ⟨π,h⟩
   ·exact .inl h
 ·rcases List.mem_append.1 hx with h|h
  ·have hyA:y∈weak wk A.kl:=by
    rcases List.mem_append.1 hy with h'|h'
    ·exact h'
    ·have:y=(n,lv):=by simpa using h'
     subst this;simp only at h5;omega
   have hwk:=(hwm k y hyA hyk).2.1 h5;rcases Nat.lt_or_ge x.2 5 with h6|h6
   ·have:=(hwm k x h hxk).1 h6
    rw[hwk]at this;simp at this
   ·exact h6
  ·exfalso
   have:x=(n,lv):=by simpa using h
   subst this;rcases List.mem_append.1 hy with h'|h'
   ·obtain ⟨z,hz,hzk⟩:=(hwm k y h' hyk).2.2
    exact hnk z hz (hzk.trans hxk.symm)
   ·have:y=(n,lv):=by simpa using h'
    subst this;simp only at h5;omega
 ·rw[hobj]at hob
  by_cases hkn:k=n
  ·rw[if_pos hkn]at hob
   obtain rfl:=Option.some.inj hob;subst hkn;simp only[if_true];exact hN
  ·rw[if_neg hkn]at hob
   simp only[if_neg hkn];have ho:=hO k ob hob hkr;have hkl:=hlimN k ob hob
   have hne:∀b,(G1 b=none∨∃π,G1 b=some (k,π))→b≠bX:=by
    rintro b h rfl
    rcases h with h|⟨π,h⟩<;>rw[hbX]at h
    ·simp at h
    ·simp only[Option.some.injEq,Prod.mk.injEq]at h;exact hkn h.1.symm
   refine {bld:=ho.bld.frame fun b π hb=>⟨hw b (hne b (.inr ⟨π,hb⟩)),by rw[hb];exact hGk b k π hb hkn hkl⟩,fl:=ho.fl,rel:=ho.rel.frame (fun π b _ hq=>hw b (hne b ?_)) (fun π b _ hb=> ?_),box:=fun hk=> ?_}
   ·rcases hq.own with h|h
    ·exact .inr ⟨π,h⟩
    ·exact .inl h
   ·cases π with
    |nil=>exact hb.elim
    |cons c ρ=>
     simp only[QObj]at hb⊢
     revert hb
     cases ob.fl.getD c .sh with
     |deep=>exact fun h=>hGk b k _ h hkn hkl
     |top=>
      simp only[QCell];split
      ·exact fun h=>hGk b k _ h hkn hkl
      ·exact fun h=>hGn b h
     |sh=>exact fun h=>hGn b h
   ·obtain ⟨b,off,cs,ty,h1,h2,h3,h4,h5⟩:=ho.box hk
    exact ⟨b,off,cs,ty,h1,hGk b k [] h2 hkn hkl,by rw[hw b (hne b (.inr ⟨[],h2⟩))];exact h3,h4,h5⟩
 ·obtain ⟨y,hy,hp1⟩:=hGp b x hx
  obtain ⟨z,hz,hp2⟩:=m.gdom b y hy;by_cases hb:b=bX
  ·subst hb;exact .of hwX
  ·exact (I.own b z hz).moved (fun h=>hp2 (hp1 h)) (hw b hb)
 ·rcases hGd b x hx with h|⟨h,hne⟩
  ·rw[h];exact .inl hlt
  ·obtain ⟨x1,x2⟩:=x
   rcases m.glim b x1 x2 h with h1|h1
   ·exact I.nolim b _ h1
   ·exact absurd h1 hne
 ·have hsm:=I.small
  have hft:FR∉A.tch:=fun h=>by
   rcases m.tin _ h with h|⟨ob,h⟩
   ·simp at h
   ·have:=zdc h;omega
  have h1:=m.gkeep b _ π h hft;have hfn:FR≠n:=by omega
  exact ⟨hw b (fun hb=>by rw[hb,hbX]at h1;simp only[Option.some.injEq,Prod.mk.injEq]at h1;omega),hGk b _ π h1 hfn (by unfold lim;omega)⟩
 ·rw[hobj]at ho
  by_cases hkn:k=n
  ·subst hkn
   simp only[if_true]at ho;obtain rfl:=Option.some.inj ho;refine ⟨ob0,hn,hkind.symm,hlenX,by simp only[if_true];exact hbase,fun hr=>absurd (hkind▸hr) hk0,fun hr _=>by simp only[if_true];exact hplX (hkind▸hr),fun b off hb hG=> ?_⟩
   obtain ⟨h1,h3⟩:=hX b off hG hb;refine ⟨?_,h3⟩;rcases m.glim b k [] h1 with h|h
   ·exact h
   ·exact absurd h hnl
  ·simp only[if_neg hkn]at ho
   have hex:∃ob0,S.obj k=some ob0:=by
    by_cases ht:k∈A.tch
    ·rcases m.tin _ ht with h|h
     ·simp at h
     ·exact h
    ·rw[m.keep _ ht]at ho;exact ⟨_,ho⟩
   obtain ⟨ob2,hob2⟩:=hex;obtain ⟨ob1,h1,h2,h3,h4,_⟩:=m.turn k ob2 hob2;rw[h1]at ho;obtain rfl:=Option.some.inj ho;refine ⟨ob2,hob2,h2.symm,h3.symm,by simp only[if_neg hkn],fun hr=>(h4 (h2▸hr)).symm,fun _ _=>by simp only[if_neg hkn],fun b off hb hG=> ?_⟩
   rcases hGd b _ hG with h|⟨h,hne⟩
   ·exact absurd h hkn
   have h0:G b=some (k,[]):=by
    rcases m.glim b k [] h with h|h
    ·exact h
    ·exact absurd h hne
   exact ⟨h0,fun j _=>cell_of_heap (hw b (fun h'=>by rw[h',hbX]at h;simp only[Option.some.injEq,Prod.mk.injEq]at h;exact hkn h.1.symm)) j⟩
 ·exact hv hd _ _ (by rw[hobj,if_pos rfl]) (by simp)
theorem zht{R:Type}(P:Program)(t:TypeId)(ok:Bool)(n:Nat)(p:Path)(c sz:Nat)(ds:List D)(ws:List Own)(A:Env)(wk:Bool)(k:Rec→Option R):zhf P t ok n p c sz ds ws A wk k=(zhf P t ok n p c sz ds ws A wk some).bind k:=by
 unfold zhf
 repeat' (first|rfl|split)
 all_goals (simp only[cond_eq_ite];split<;>rfl)
theorem zlX{R:Type}(P:Program)(F:Foot)(mv:Bool)(t:TypeId)(b:A1)(x:AV)(k:Rec→Option R):zkm P F mv t b x k=(zkm P F mv t b x some).bind k:=by
 unfold zkm;split
 case h_2=>rfl
 rename_i ok n p c cs sz _ _;cases zcA mv cs with
 |false=>rfl
 |true=>
  simp only[cond_true];split
  case h_2=>rfl
  rename_i ds ws A _;cases (mv&&zkl cs ds)with
  |true=>exact zht ..
  |false=>exact zht ..
theorem zkA{w:World}{G:Ghost}{obs:Obs}{pl:zaP}(hI:zcx w G obs pl){mv:Bool}{us:Nat→Value}:∀(as:List A1) {A:Env} {r:List D×List Own×Env},
 zcP A mv as=some r→(∀j (h:j<as.length),V1 w G obs pl (us j) (as[j]))→∀j,j<as.length→zc2 (us j)=true:=by
 intro as
 induction as generalizing us with
 |nil=>intro A r _ _ j h;simp at h
 |cons b bs ih=>
  intro A r h hv j hj;simp only[zcP]at h;split at h
  case h_2=>simp at h
  rename_i d w' A1 h1;split at h
  case h_2=>simp at h
  rename_i ds ws A2 h2;cases j with
  |zero=>exact zgJ hI (hv 0 (by simp)) h1
  |succ j=>exact ih (us:=fun j=>us (j+1)) h2 (fun j h=>hv (j+1) (by simpa using h)) j (by simpa using hj)
theorem QObj.turn0{Ga Gb:Ghost}{n:Nat}{fl:List Own}(hn:∀b,Ga b=none→Gb b=none)(hs:∀b π,Ga b=some (n,π)→Gb b=some (n,π)):∀π b,QObj Ga n fl π b→QObj Gb n fl π b:=by
 intro π b h;cases π with
 |nil=>exact h.elim
 |cons c ρ=>
  simp only[QObj]at h⊢
  revert h
  cases fl.getD c .sh with
  |deep=>exact hs b _
  |top=>
   simp only[QCell];split
   ·rename_i hρ;subst hρ;exact hs b _
   ·exact hn b
  |sh=>exact hn b
theorem zlY(I:Inv W0 G0 S w a.tmps G pl)(t:TypeId)(y x:Operand){b:A1}(hb:S.ev y= .one b)(h:zjq X.P S.na (S.foot [S.ev y,S.ev x]) t y b (S.ev x)=some e):
 OpOk X.P W0 G0 S w a ⟨none, .store t y x,ty,pos,af,gd⟩ e:=by
 have hy:=I.ev y;have hx:=I.ev x;unfold zjq at h;split at h
 case h_2=>simp at h
 rename_i q n m hxe;split at h
 case h_2=>simp at h
 rename_i ob om hob hom;split at h
 case isFalse=>simp at h
 rename_i hc;obtain ⟨hnm,hna,hbox,hrow,hsz,hmro⟩:=hc;obtain rfl:=Option.some.inj h;have hob:=zd2 S _ n ob hob;have hom:=zd2 S _ m om hom;rw[hb]at hy;rw[hxe]at hx;obtain ⟨ad,ob2,hr,hye⟩:=hy;have:ob2=ob:=by have:=hr.at0;rw[hob]at this;exact (Option.some.inj this).symm
 subst this;obtain ⟨adm,om2,hrm,hxv⟩:=hx;have:om2=om:=by have:=hrm.at0;rw[hom]at this;exact (Option.some.inj this).symm
 subst this;have hrel:=I.objs n ob2 hob (by rw[hbox];simp)
 obtain ⟨bX,off,csX,tyX,hb1,hb2,hb3,hb4,hb5⟩:=hrel.box hbox;have had:ad=⟨bX,off,none⟩:=by have:=hr.at_;simp only[zaD]at this;rw[hb1]at this;exact (Option.some.inj this).symm
 subst had;have hxl:(a.eval x).cells.toList=[a.eval x]:=by rw[hxv];rfl
 have hcellall:∀v∈(a.eval x).cells.toList,zc2 v=true:=by
  intro v hv;rw[hxl]at hv;have:v=a.eval x:=by simpa using hv
  rw[this,hxv];rfl
 have hye:a.eval (.tmp q)= .pointer (some ⟨bX,off+0,none⟩):=hye;have hst:=zed X.P bX tyX ⟨bX,off+0,none⟩ rfl rfl (a.eval x).cells.toList 0 w csX hb3 (by rw[hxl];simp;omega) hcellall
 have FF:=zbP bX tyX (a.eval x).cells.toList w (off+0+0) csX hb3
 have hrun:(execOp a.eval ⟨none, .store t (.tmp q) x,ty,pos,af,gd⟩).run X.P w= .ok .skip (setCells w bX (off+0+0) (a.eval x).cells.toList):=by
  show Sem.run X.P (bind (Instr.storeAt t (a.eval (.tmp q)) (a.eval x)) fun _=>pure Next.skip) w=_
  have:(Instr.storeAt t (a.eval (.tmp q)) (a.eval x)).run X.P w= .ok () (setCells w bX (off+0+0) (a.eval x).cells.toList):=by
   have h1:(Instr.sureAddr (a.eval (.tmp q))).run X.P w= .ok ⟨bX,off+0,none⟩ w:=by rw[hye];rfl
   rw[Instr.storeAt,run_bind h1,storeVar,run_bind (zca hsz w)];have h2:¬((a.eval x).cells.size≠1):=by rw[←Array.length_toList,hxl];simp
   simp only[h2,if_false];exact hst
  rw[run_bind this];rfl
 generalize hw':setCells w bX (off+0+0) (a.eval x).cells.toList=w' at*;refine .of_skip hrun (G':=fun b=>if b=bX then none else G b) (pl':=pl) ?_
 have hcellX:w'.cell? ⟨bX,off+0,none⟩=some (a.eval x):=by
  obtain ⟨cs',h1,h2,h3⟩:=FF.here;have h4:=h3 off;rw[hxl]at h4;rw[if_pos (by simp),if_pos (by omega)]at h4
  simp only[World.cell?,h1];simpa using h4
 have hbne:∀{k:Nat} {b:Nat} {π:List Nat},k≠n→G b=some (k,π)→b≠bX:=fun hk hg he=>by
  subst he;rw[hb2]at hg;simp only[Option.some.injEq,Prod.mk.injEq]at hg;exact hk hg.1.symm
 have hbnn:∀{b:Nat},G b=none→b≠bX:=fun hg he=>by
  subst he;rw[hb2]at hg;simp at hg
 have htm:(a.put (some q) (a.tmps.getD q undef)).tmps=a.tmps:=by
  simp only[Act.put];apply Array.ext
  ·simp
  ·intro i h1 h2
   rw[Array.getElem_setIfInBounds (by simpa using h2)]
   split
   ·rename_i e
    subst e;simp[Array.getD,h2]
   ·rfl
 have hlt:=zdc hob
 have hobj:∀k,(S.put0 (some q) ({val:= .one (.bx [.p true m [] 0] 0),ups:=[(n,none)],kl:=[(n,2)],at':=some q}:Rec)).obj k=if k=n then none else S.obj k:=fun k=>by
  rw[zg5,zfR _ _ _ _ hlt];rfl
 have key:Inv W0 G0 (S.put0 (some q) ({val:= .one (.bx [.p true m [] 0] 0),ups:=[(n,none)],kl:=[(n,2)],at':=some q}:Rec)) w' (a.put (some q) (a.tmps.getD q undef)).tmps (fun b=>if b=bX then none else G b) pl:=by
  refine Inv.step I (some q) _ _ (fun b hlt h0=>⟨FF.other b (hbnn h0),by rw[if_neg (hbnn h0)];exact h0⟩) (fun x hx=>by simp only[List.mem_singleton]at hx;rw[hx];show (2:Nat)<5;omega) (fun k hk ob hob=> ?_) (fun k hk ob hob hkr=> ?_) (fun k hk ob hob=> ?_) (fun k ob hob hkr=> ?_) (fun b x hx=> ?_) (fun b x hx=> ?_) (fun b π h=> ?_) (fun k ob hk ho=> ?_) FF.os FF.output FF.tape (by rw[FF.size];exact Nat.le_refl _) (fun _=> ?_)
  ·have hkn:k≠n:=fun h=>hk (n,2) (by simp) h.symm
   exact ⟨ob,by rw[hobj,if_neg hkn];exact hob,rfl,rfl,rfl,fun _=>rfl,fun b π hg=>FF.other b (hbne hkn hg)⟩
  ·have hkn:k≠n:=fun h=>absurd (hk (n,2) (by simp) h.symm) (by simp)
   exact ⟨ob,by rw[hobj,if_neg hkn];exact hob,hkr,fun c es hc hes=>⟨hc,⟨es,hes⟩,rfl⟩⟩
  ·have hkn:k≠n:=fun h=>absurd (hk (n,2) (by simp) h.symm) (by simp)
   exact ⟨ob,by rw[hobj,if_neg hkn];exact hob,rfl,rfl,fun _=>⟨rfl,rfl⟩⟩
  ·rw[hobj]at hob
   split at hob
   ·simp at hob
   rename_i hkn;have ho:=I.objs k ob hob hkr;refine {bld:=ho.bld.frame fun b π hb=>⟨FF.other b (hbne hkn hb),if_neg (hbne hkn hb)⟩,fl:=ho.fl,rel:=ho.rel.frame (fun π b hl hq=>FF.other b ?_) (fun π b hl hq=> ?_),box:=fun hbk=> ?_}
   ·rcases hq.own with h|h
    ·exact hbne hkn h
    ·exact hbnn h
   ·exact QObj.turn0 (fun b hb=>by rw[if_neg (hbnn hb)];exact hb) (fun b π hb=>by rw[if_neg (hbne hkn hb)];exact hb) π b hq
   ·obtain ⟨b,off',cs',ty',k1,k2,k3,k4,k5⟩:=ho.box hbk
    exact ⟨b,off',cs',ty',k1,by rw[if_neg (hbne hkn k2)];exact k2,by rw[FF.other b (hbne hkn k2)];exact k3,k4,k5⟩
  ·split at hx
   ·simp at hx
   rename_i hne;exact (I.own b x hx).heap (FF.other b hne)
  ·split at hx
   ·simp at hx
   exact I.nolim b x hx
  ·have hne:b≠bX:=hbne (k:=FR) (fun h=>by have:=I.small;omega) h
   exact ⟨FF.other b hne,by rw[if_neg hne];exact h⟩
  ·rw[hobj]at ho
   split at ho
   ·simp at ho
   rename_i hkn;refine ⟨ob,ho,rfl,rfl,rfl,fun _=>rfl,fun _ _=>rfl,fun b off' _ hg=> ?_⟩
   split at hg
   ·simp at hg
   rename_i hne;exact ⟨hg,fun j _=>cell_of_heap (FF.other b hne) j⟩
  ·refine ⟨bX,off,hye,by rw[FF.size];exact (Array.getElem?_eq_some_iff.1 hb3).1,if_pos rfl,fun i hi=> ?_⟩
   have hi0:i=0:=by simpa using hi
   subst hi0;refine ⟨a.eval x,hcellX,adm,om2,{at0:=by rw[hobj,if_neg (fun h=>hnm h.symm)];exact hom,path:=trivial,at_:= ?_,spot:=hrm.spot,ro:=fun h=>absurd h hmro,virt:=hrm.virt},hxv⟩
   have:=hrm.at_;simp only[zaD]at this⊢;exact this
 rw[htm]at key;exact key
theorem zqv(I:Inv W0 G0 S w a.tmps G pl)(t:TypeId)(y x:Operand)(h:S.opK X mv ⟨dst, .store t y x,ty,pos,af,gd⟩ some=some e)(hdn:dst=none):
 OpOk X.P W0 G0 S w a ⟨dst, .store t y x,ty,pos,af,gd⟩ e:=by
 subst hdn;simp only[St.opK,St.vals,Op.operands,List.map_cons,List.map_nil,effK]at h;have hy:=I.ev y;have hx:=I.ev x;split at h
 case h_2=>simp at h
 rename_i b hb;rw[hb]at hy;split at h
 ·rename_i e' hps
  obtain rfl:=Option.some.inj h;split at hps
  ·exact zlY I t y x hb hps
  ·simp at hps
 rename_i hps0;clear hps0;unfold zkm at h;split at h
 case h_2=>simp at h
 rename_i ok n p c cs sz hcs hsz;cases hap:zcA mv cs with
 |false=>rw[hap]at h;simp at h
 |true=>
 rw[hap]at h;simp only[cond_true]at h;split at h
 case h_2=>simp at h
 rename_i ds ws A hab
 obtain ⟨wk,hwk,h⟩:∃wk:Bool,(wk=true→zkl cs ds=true)∧zhf X.P t ok n p c sz ds ws A wk some=some e:=by
  cases hmn:(mv&&zkl cs ds)with
  |true=>rw[hmn]at h;exact ⟨true,fun _=>(Bool.and_eq_true _ _▸hmn).2,h⟩
  |false=>rw[hmn]at h;exact ⟨false,fun h=>absurd h (by simp),h⟩
 unfold zhf at h;split at h
 case h_2=>simp at h
 rename_i ob hob;by_cases hc:(ob.kind= .box∨(ob.kind= .virt∧p.isEmpty=false))∧(A.kl.any fun x=>x.1==n)=false
 case neg=>rw[if_neg hc]at h;simp at h
 rw[if_pos hc]at h;obtain ⟨hkb,hnk⟩:=hc
 have hnk:∀x∈A.kl,x.1≠n:=fun x hx h=>by
  rw[List.any_eq_false]at hnk;exact hnk x hx (by simp[h])
 by_cases hds:ds.length=sz
 case neg=>rw[if_neg hds]at h;simp at h
 rw[if_pos hds]at h;obtain ⟨hcsz,hv⟩:=zmU I.objs hx hcs hab;have m0:=zeL I (S.vals ⟨none, .store t y x,ty,pos,af,gd⟩);obtain ⟨hl,G1,obs1,B⟩:=zd0 (lim S) cs 0 I.objs (zd2 S _) (by simp) (by simp) (us:=fun j=>(a.eval x).cells.getD j undef) hv hap hab (zdR S)
 have hcell:=zkA I.objs (us:=fun j=>(a.eval x).cells.getD j undef) cs hab hv
 have hcellall:∀v∈(a.eval x).cells.toList,zc2 v=true:=by
  intro v hv';obtain ⟨j,hj,rfl⟩:=List.getElem_of_mem hv';have hj':j<(a.eval x).cells.size:=by simpa using hj
  have:=hcell j (by omega)
  simpa[hj']using this
 have hE:wk=true→∀k ob ob1,S.obj k=some ob→obs1 k=some ob1→zcq ob.row ob1.row:=fun hw k ob ob1 hk hk1=>by
  have hno:=hwk hw;unfold zkl at hno;rw[Bool.and_eq_true]at hno;by_cases hin:k∈A.tch
  ·have hu:=B.mvd.ups k hin
   cases hf:fget (S.foot [S.ev y,S.ev x]) k with
   |some ob2=>
    have:=zd2 S _ k ob2 hf;rw[hk]at this;obtain rfl:=Option.some.inj this;obtain ⟨ob3,h3,h4⟩:=zgK cs hab hno.2 k ob hf;rw[h3,hk1]at hu;obtain rfl:=Option.some.inj hu;exact h4
   |none=>
    exfalso
    exact zgn cs hab k hin (by simp) hf
  ·have:=B.mvd.keep k hin
   rw[hk1,hk]at this;obtain rfl:=Option.some.inj this;exact zcq.refl _
 -- the object, and where it lies
 have hob1:obs1 n=some ob:=B.mvd.coh n ob hob
 have hkro:ob.kind≠ .ro:=by rcases hkb with h|h;·rw[h];simp
                            ·rw[h.1];simp
 obtain ⟨ob0,hob0,hk0⟩:∃ob0,S.obj n=some ob0∧ob.kind=ob0.kind∧ob.row=ob0.row:=by
  have:∃ob0,S.obj n=some ob0:=by
   by_cases ht:n∈A.tch
   ·rcases B.mvd.tin n ht with h|h
    ·simp at h
    ·exact h
   ·rw[B.mvd.keep n ht]at hob1;exact ⟨_,hob1⟩
  obtain ⟨ob0,h0⟩:=this;obtain ⟨ob2,h1,h2,h3,h4,h5⟩:=B.mvd.turn n ob0 h0;rw[hob1]at h1;obtain rfl:=Option.some.inj h1;exact ⟨ob0,h0,h2,h5.1 hnk⟩
 obtain ⟨hk0,hrow0⟩:=hk0;have hrel:=B.objs n ob hob1 hkro
 have hsto:∀(w':World) (ad:Addr),a.eval y= .pointer (some ad)→(storeCells ad (a.eval x).cells.toList).run X.P w= .ok () w'→
  (execOp a.eval ⟨none, .store t y x,ty,pos,af,gd⟩).run X.P w= .ok .skip w':=by
  intro w' ad hye hst;show Sem.run X.P (bind (Instr.storeAt t (a.eval y) (a.eval x)) fun _=>pure Next.skip) w=_
  have:(Instr.storeAt t (a.eval y) (a.eval x)).run X.P w= .ok () w':=by
   have h1:(Instr.sureAddr (a.eval y)).run X.P w= .ok ad w:=by rw[hye];rfl
   rw[Instr.storeAt,run_bind h1,storeVar,run_bind (zca hsz w)];have h2:¬((a.eval x).cells.size≠sz):=by omega
   simp only[h2,if_false];exact hst
  rw[run_bind this];rfl
 have hsplice:c+sz≤(zaj ob.row p).length→(zcU (zaj ob.row p) c ds).length=(zaj ob.row p).length:=fun h=>ze8 _ _ _ (by omega)
 by_cases hp:p.isEmpty=true
 · -- a box
   rw[if_pos hp,zbW]at h;obtain ⟨hcond,rfl⟩:=h;simp only[Bool.and_eq_true,decide_eq_true_eq,Bool.or_eq_true]at hcond;obtain ⟨⟨hok,hlen⟩,hscal⟩:=hcond;subst hok;have hp0:p=[]:=by simpa using hp
   subst hp0
   have hbox:ob.kind= .box:=by
    rcases hkb with h|h
    ·exact h
    ·exact absurd h.2 (by simp)
   obtain ⟨ad,ob2,hr,hye⟩:=hy;have:ob2=ob0:=by have:=hr.at0;rw[hob0]at this;exact (Option.some.inj this).symm
   subst this;obtain ⟨bX,off,csX,tyX,hb1,hb2,hb3,hb4,hb5⟩:=hrel.box hbox;have had:ad=⟨bX,off,none⟩:=by have:=hr.at_;simp only[zaD]at this;rw[hb1]at this;exact (Option.some.inj this).symm
   subst had;have hst:=zed X.P bX tyX ⟨bX,off+c,none⟩ rfl rfl (a.eval x).cells.toList 0 w csX hb3 (by simp;omega) hcellall
   have FF:=zbP bX tyX (a.eval x).cells.toList w (off+c+0) csX hb3
   refine .of_skip (hsto _ _ hye hst) (Inv.turn1 (dst:=none) I B.mvd B.objs hob0 (hk0▸hkro) (by exact hk0) hnk bX ⟨[],hb2⟩ ⟨(pl n).base,fun j=>if c≤j∧j<c+sz then (a.eval x).cells.getD (j-c) undef else (pl n).hd j⟩ rfl
    (if bears X.P t then 1 else 0) FF.other ?_ (G':=gSto G1 n (lim S) (fun π=>match π with|i::ρ=>some ((c+i)::ρ)| []=>none) (fun _=>true))
    (fun b h=>zdA h) (fun b k π h hk hkl=>zkz h hk hkl) (fun b x' hx'=>zmW hx') (fun b x' hx'=>zmX (fun π ρ hπ hp=>by
     cases π with
     |nil=>simp at hπ
     |cons i π=>obtain rfl:=Option.some.inj hπ;unfold Plain at hp⊢;simpa using hp) hx') ?_ (fun hlv=> ?_) ?_ (fun h=>absurd (hk0▸hbox) h) (fun b off' hGb hbb=> ?_) FF.os FF.output FF.tape (by rw[FF.size];exact Nat.le_refl _) undef (.one .dead) (fun h=>absurd rfl h) (by first|decide|(split<;>decide)) wk hE)
   ·obtain ⟨cs',h1,_⟩:=FF.here;exact ⟨cs',tyX,h1⟩
   ·have hnb:∀b,(∃k π,G1 b=some (k,π)∧(k≠n∨π≠[]))∨G1 b=none→b≠bX:=by
     rintro b h rfl
     rcases h with ⟨k,π,h,hne⟩|h<;>rw[hb2]at h
     ·simp only[Option.some.injEq,Prod.mk.injEq]at h
      rcases hne with h'|h'
      ·exact h' h.1.symm
      ·exact h' h.2.symm
     ·simp at h
    have hnL:n≠lim S:=fun h=>by have:=zdc hob0;rw[h]at this;exact absurd this (Nat.lt_irrefl _)
    simp only[zaj]at hsplice;have hfl2:c+ws.length≤ob.fl.length:=by rw[B.len,hrel.fl];omega
    refine {bld:= .not (by show ob.kind.isBld=false;rw[hbox];rfl),fl:=by rw[hsplice hlen,ze8 _ _ _ hfl2];exact hrel.fl,rel:=fun c' hc'=> ?_,box:=fun _=> ?_}
    ·have hc2:c'<ob.row.length:=by rw[hsplice hlen]at hc';exact hc'
     have hc3:c'<(zcU ob.fl c ws).length:=by rw[ze8 _ _ _ hfl2,hrel.fl];exact hc2
     have hflg:=zek ob.fl ws c hfl2 c' hc3 (by rw[hrel.fl];exact hc2)
     show Rel _ (QCell _ n c' ((zcU ob.fl c ws).getD c' .sh)) _ ((zcU ob.row c ds)[c']'hc');rw[zek ob.row ds c (by omega) c' hc' hc2,za2 _ _ _ hc3,hflg]
     by_cases hin:c≤c'∧c'<c+ds.length
     ·have hin2:c≤c'∧c'<c+ws.length:=by rw[B.len];exact hin
      rw[dif_pos hin,dif_pos hin2];simp only[hds▸hin,and_self,if_true];have hB:=B.rel (c'-c) (by omega)
      rw[Nat.zero_add,za2 ws _ _ (by omega)]at hB
      refine hB.frame (fun π b hl hq=>FF.other b (hnb b ?_)) (fun π b hl hq=> ?_)
      ·rcases hq.own with h|h
       ·exact .inl ⟨_,_,h, .inl (fun h=>hnL h.symm)⟩
       ·exact .inr h
      ·have hcc:c+(c'-c)=c':=by omega
       revert hq
       cases ws[c'-c]'(by omega)with
       |deep=>intro h;show gSto _ _ _ _ _ b=_;rw[zg6 h];simp[hcc]
       |top=>
        simp only[QCell];split
        ·intro h;rw[zg6 h];simp[hcc]
        ·exact fun h=>zdA h
       |sh=>exact fun h=>zdA h
     ·have hin2:¬(c≤c'∧c'<c+ws.length):=by rw[B.len];exact hin
      have hin3:¬(c≤c'∧c'<c+sz):=by rw[←hds];exact hin
      rw[dif_neg hin,dif_neg hin2];simp only[if_neg hin3];have hr':=hrel.rel c' hc2;simp only[QObj]at hr';rw[za2 ob.fl _ _ (by rw[hrel.fl];exact hc2)]at hr'
      refine hr'.frame (fun π b hl hq=>FF.other b (hnb b ?_)) (fun π b hl hq=> ?_)
      ·rcases hq.own with h|h
       ·exact .inl ⟨_,_,h, .inr (by simp)⟩
       ·exact .inr h
      ·exact QCell.mono n c' _ (fun b h=>zdA h) (fun b π h=>ze9 h hnL rfl) π b hq
    ·obtain ⟨cs',h1,h2,h3⟩:=FF.here
     refine ⟨bX,off,cs',tyX,hb1,ze9 hb2 hnL rfl,h1,by rw[hsplice hlen,h2];exact hb4,fun k hk=> ?_⟩
     have hk2:k<ob.row.length:=by rw[hsplice hlen]at hk;exact hk
     rw[h3 (off+k)];simp only[Nat.add_zero,Array.length_toList];by_cases hin:c≤k∧k<c+(a.eval x).cells.size
     ·rw[if_pos (show off+c≤off+k∧off+k<off+c+(a.eval x).cells.size by omega),if_pos (by omega),if_pos (show c≤k∧k<c+sz by omega)]
      have:k-c<(a.eval x).cells.size:=by omega
      have h5:off+k-(off+c)=k-c:=by omega
      rw[h5];simp[this]
     ·rw[if_neg (show ¬(off+c≤off+k∧off+k<off+c+(a.eval x).cells.size) by omega),if_neg (show ¬(c≤k∧k<c+sz) by omega)]
      exact hb5 k hk2
   ·have hbr:bears X.P t=false:=by
     cases hb:bears X.P t with
     |true=>rw[hb]at hlv;simp at hlv
     |false=>rfl
    rw[hbr]at hscal;simp only[Bool.false_eq_true,false_or,List.all_eq_true]at hscal;intro c' es hc' hes;rw[←hrow0]at hc' hes;simp only[zaj]at hsplice
    have hout:¬(c≤c'∧c'<c+sz):=by
     rintro ⟨h1,h2⟩
     have hmem:ob.row[c']∈(ob.row.drop c).take sz:=by
      rw[List.mem_iff_getElem];refine ⟨c'-c,by simp;omega, ?_⟩
      simp only[List.getElem_take,List.getElem_drop];congr 1;omega
     have:=hscal _ hmem;rw[za2 _ _ _ hc']at hes;rw[hes]at this;simp at this
    have hc2:c'<(zcU ob.row c ds).length:=by rw[hsplice hlen];exact hc'
    refine ⟨hc2,⟨es, ?_⟩,by simp only[if_neg hout]⟩
    rw[za2 _ _ _ hc2,zek ob.row ds c (by omega) c' hc2 hc',dif_neg (by rw[hds];exact hout),←za2 _ _ .h hc']
    exact hes
   ·rw[←hrow0];exact (hsplice hlen).symm
   ·rw[hb1]at hbb
    simp only[Option.some.injEq,Addr.mk.injEq,and_true]at hbb;obtain ⟨rfl,rfl⟩:=hbb;have hrl:(zcU ob.row c ds).length=ob.row.length:=hsplice hlen;refine ⟨hb2,fun k hk=> ?_⟩
    have hk:k<off∨off+(zcU ob.row c ds).length≤k:=hk;rw[hrl]at hk;obtain ⟨cs',h1,h2,h3⟩:=FF.here;simp only[World.cell?,h1,hb3];have hls:(a.eval x).cells.toList.length=sz:=by rw[Array.length_toList];omega
    have hno:¬(off+c+0≤k∧k<off+c+0+(a.eval x).cells.toList.length):=by rw[hls];omega
    have h4:=h3 k;rw[if_neg hno]at h4;simp[h4]
 · -- within a slice
   rw[if_neg hp]at h;by_cases hcw:ownAt ob.fl p c= .sh∧(1<p.length∨ob.fl.getD (p.headD (0,0)).1 .sh≠ .top)
   ·rw[if_pos hcw]at h;simp at h
   rw[if_neg hcw,zbW]at h;obtain ⟨hcond,rfl⟩:=h;simp only[Bool.and_eq_true,decide_eq_true_eq]at hcond;obtain ⟨⟨hok,hlen⟩,hpos⟩:=hcond;subst hok;have hp0:p≠[]:=by simpa using hp
   obtain ⟨ad,ob2,hr,hye⟩:=hy;have:ob2=ob0:=by have:=hr.at0;rw[hob0]at this;exact (Option.some.inj this).symm
   subst this;have hpath:zbR ob.row p:=by rw[hrow0];exact hr.path
   obtain ⟨ad1,hd0,Ds⟩:=zdb p (pl n).base hrel.rel hpath hp0
   have had:ad1=ad:=by
    have h1:=Ds.at_;have h2:=hr.at_;rw[←hrow0]at h2;unfold hdf at h2;rw[h2]at h1;exact (Option.some.inj h1).symm
   subst had;have hnL:n≠lim S:=fun h=>by have:=zdc hob0;rw[h]at this;exact absurd this (Nat.lt_irrefl _)
   obtain ⟨c0,e0,q,rfl⟩:∃c0 e0 q,p=(c0,e0)::q:=by
    cases p with
    |nil=>exact absurd rfl hp0
    |cons x q=>exact ⟨x.1,x.2,q,rfl⟩
   -- how the array is held
   have hfl0:ob.fl.getD c0 .sh= .deep∨(q=[]∧ob.fl.getD c0 .sh= .top):=by
    simp only[ownAt,List.headD_cons,List.length_cons]at hcw;by_cases hd:ob.fl.getD c0 .sh= .deep
    ·exact .inl hd
    ·right
     rw[if_neg hd]at hcw;by_cases hq:q=[]
     ·refine ⟨hq, ?_⟩
      cases ht:ob.fl.getD c0 .sh with
      |deep=>exact absurd ht hd
      |top=>rfl
      |sh=>rw[ht]at hcw;exact absurd ⟨rfl, .inr (by simp)⟩ hcw
     ·refine absurd ⟨rfl, .inl ?_⟩ hcw
      have:0<q.length:=List.length_pos_iff.2 hq;omega
   have hblk:G1 ad1.block=some (n,(flat ((c0,e0)::q)).dropLast):=by
    have h1:=Ds.blk;by_cases hq:q=[]
    ·subst hq
     simp only[zbV,zg3,List.dropLast,QObj]at h1⊢;rcases hfl0 with h|⟨_,h⟩
     ·rw[h]at h1;exact h1
     ·rw[h]at h1;simpa[QCell]using h1
    ·rw[za7 _ _ hq]at h1⊢
     simp only[QObj]at h1;rcases hfl0 with h|⟨h,_⟩
     ·rw[h]at h1;exact h1
     ·exact absurd h hq
   obtain ⟨y0,hy0,hpy⟩:=B.mvd.gdom _ _ hblk
   obtain ⟨csX,tyX,hbX⟩:=(I.own _ _ hy0).plain (hpy (by
    right;simp only[List.length_dropLast,zcW,List.length_cons];omega))
   have hcellX:∀j,j<(zaj ob.row ((c0,e0)::q)).length→csX[ad1.off+j]? =some (hd0 j):=fun j hj=>by
    have:=Ds.cell j hj;simp only[World.cell?,hbX]at this;simpa using this
   have hbound:ad1.off+c+sz≤csX.size:=by
    have:=hcellX (c+sz-1) (by omega)
    have:=(Array.getElem?_eq_some_iff.1 this).1;omega
   have hst:=zed X.P ad1.block tyX ⟨ad1.block,ad1.off+c,none⟩ rfl rfl (a.eval x).cells.toList 0 w csX hbX (by simp;omega) hcellall
   have FF:=zbP ad1.block tyX (a.eval x).cells.toList w (ad1.off+c+0) csX hbX;obtain ⟨cs',hh1,hh2,hh3⟩:=FF.here;simp only[Array.length_toList,Nat.add_zero]at hh3
   let full:Bool:=decide (ob.fl.getD c0 .sh= .deep)&&ws.all (fun w=>decide (w= .deep))
   let f:List Nat→Option (List Nat):=fun π=>if full=true then (match π with|i::ρ=>some (flat ((c0,e0)::q)++(c+i)::ρ)| []=>none)else none
   let g:List Nat→Bool:=fun π=>full|| !(([c0].isPrefixOf π)&&decide (π≠[c0]))
   let fl':=zgi ob.fl ((c0,e0)::q) ws
   have hfl'len:fl'.length=ob.fl.length:=by simp only[fl',zgi];split<;>simp
   have hc0:c0<ob.row.length:=hpath.1
   have hfl'o:∀c',c'≠c0→fl'.getD c' .sh=ob.fl.getD c' .sh:=fun c' hne=>by
    simp only[fl',zgi];split
    ·rfl
    ·have:¬c0=c':=fun h=>hne h.symm
     simp[List.getD,this]
   have hfl'f:full=true→fl'.getD c0 .sh= .deep:=fun h=>by
    simp only[full,Bool.and_eq_true,decide_eq_true_eq]at h;simp only[fl',zgi,h.2,if_true];exact h.1
   have hfl't:full=false→fl'.getD c0 .sh= .top:=fun h=>by
    simp only[fl',zgi];split
    ·rename_i hall
     simp only[full,hall,Bool.and_true,decide_eq_false_iff_not]at h;rcases hfl0 with h1|⟨_,h1⟩
     ·exact absurd h1 h
     ·exact h1
    ·have:c0<ob.fl.length:=by rw[hrel.fl];exact hc0
     simp[List.getD,this]
   have hg0:∀π,¬([c0]<+:π)→g π=true:=fun π h=>by
    have: [c0].isPrefixOf π=false:=by
     cases hb: [c0].isPrefixOf π with
     |true=>exact absurd (List.isPrefixOf_iff_prefix.1 hb) h
     |false=>rfl
    simp[g,this]
   -- what is kept of the object's own
   have hkeepQ:∀π b,QObj G1 n ob.fl π b→¬(flat ((c0,e0)::q)<+:π)∨full=true∨(∃ρ,π=c0::ρ)→QObj (gSto G1 n (lim S) f g) n fl' π b:=by
    intro π b hq0 _;cases π with
    |nil=>exact hq0.elim
    |cons c' ρ=>
     simp only[QObj]at hq0⊢;by_cases hcc:c'=c0
     ·subst hcc
      cases hfull:full with
      |true=>
       rw[hfl'f hfull];have hd:ob.fl.getD c' .sh= .deep:=by simp only[full,Bool.and_eq_true,decide_eq_true_eq]at hfull;exact hfull.1
       rw[hd]at hq0;exact ze9 hq0 hnL (by simp[g,hfull])
      |false=>
       rw[hfl't hfull];simp only[QCell];by_cases hρ:ρ=[]
       ·rw[if_pos hρ]
        subst hρ
        have hown:G1 b=some (n,[c']):=by
         rcases hfl0 with h|⟨_,h⟩<;>rw[h]at hq0
         ·exact hq0
         ·simpa[QCell]using hq0
        exact ze9 hown hnL (by simp[g])
       ·rw[if_neg hρ]
        rcases hq0.own with h|h
        ·exact zov h hnL (by simp[g,hfull,hρ])
        ·exact zdA h
     ·rw[hfl'o c' hcc]
      exact QCell.mono n c' _ (fun b h=>zdA h) (fun b π h=>ze9 h hnL (hg0 _ (fun h=>hcc (List.cons_prefix_cons.1 h).1.symm))) ρ b hq0
   have hrowlen:=hsplice hlen
   let hd':Nat→Value:=fun j=>if c≤j∧j<c+sz then (a.eval x).cells.getD (j-c) undef else hd0 j
   have hcell':∀o,(setCells w ad1.block (ad1.off+c+0) (a.eval x).cells.toList).cell? ⟨ad1.block,o,none⟩=cs'[o]? :=fun o=>by
    simp only[Nat.add_zero]at hh1⊢;simp[World.cell?,hh1]
   have hcellw:∀o,w.cell? ⟨ad1.block,o,none⟩=csX[o]? :=fun o=>by simp[World.cell?,hbX]
   have hnew:zcC (setCells w ad1.block (ad1.off+c+0) (a.eval x).cells.toList) (fun π b=>QObj (gSto G1 n (lim S) f g) n fl' (flat ((c0,e0)::q)++π) b) hd' (zcU (zaj ob.row ((c0,e0)::q)) c ds):=by
    intro c' hc';have hc2:c'<(zaj ob.row ((c0,e0)::q)).length:=by rw[←hrowlen];exact hc'
    rw[zek _ ds c (by omega) c' hc' hc2]
    by_cases hin:c≤c'∧c'<c+ds.length
    ·rw[dif_pos hin]
     have:hd' c'=(a.eval x).cells.getD (c'-c) undef:=if_pos (hds▸hin);rw[this];have hB:=B.rel (c'-c) (by omega)
     rw[Nat.zero_add]at hB;refine hB.frame (fun π b hl hq=>FF.other b (fun h=> ?_)) (fun π b hl hq=> ?_)
     ·subst h
      rcases hq.own with h|h<;>rw[hblk]at h
      ·simp only[Option.some.injEq,Prod.mk.injEq]at h;exact hnL h.1
      ·simp at h
     ·show QObj _ n fl' (c0::(e0::flat q++(c'::π))) b
      simp only[QObj];have hcc:c+(c'-c)=c':=by omega
      cases hfull:full with
      |true=>
       rw[hfl'f hfull];have hall:(ws.all fun w=>decide (w= .deep))=true:=by simp only[full,Bool.and_eq_true]at hfull;exact hfull.2
       have hdeep:ws.getD (c'-c) .sh= .deep:=by
        have hlw:c'-c<ws.length:=by rw[B.len];omega
        rw[List.all_eq_true]at hall;rw[za2 ws _ _ hlw];simpa using hall _ (List.getElem_mem hlw)
       rw[hdeep]at hq;show gSto _ _ _ _ _ b=_;rw[zg6 hq];simp[f,hfull,hcc]
      |false=>
       rw[hfl't hfull];simp only[QCell];rw[if_neg (by simp)]
       rcases hq.own with h|h
       ·rw[zg6 h];simp[f,hfull]
       ·exact zdA h
    ·rw[dif_neg hin]
     have:hd' c'=hd0 c':=if_neg (by rw[←hds];exact hin)
     rw[this];refine (Ds.rel c' hc2).frame (fun π b hl hq=>FF.other b (fun h=> ?_)) (fun π b hl hq=>hkeepQ _ b hq (.inr (.inr ⟨_,rfl⟩)))
     subst h;rcases hq.own with h|h<;>rw[hblk]at h
     ·simp only[Option.some.injEq,Prod.mk.injEq,true_and]at h
      have:=congrArg List.length h;simp at this;omega
     ·simp at h
   refine .of_skip (hsto _ _ hye hst) (Inv.turn1 (dst:=none) I B.mvd B.objs hob0 (hk0▸hkro) (by exact hk0) hnk ad1.block ⟨_,hblk⟩ (pl n) rfl
    0 FF.other ⟨cs',tyX,hh1⟩ (G':=gSto G1 n (lim S) f g) (fun b h=>zdA h) (fun b k π h hk hkl=>zkz h hk hkl) (fun b x' hx'=>zmW hx') (fun b x' hx'=>zmX (fun π ρ hπ hp=>by
     simp only[f]at hπ;split at hπ
     ·cases π with
      |nil=>simp at hπ
      |cons i π=>obtain rfl:=Option.some.inj hπ;unfold Plain at hp⊢;simp only[List.length_append,zcW,List.length_cons,List.append_eq_nil_iff]at hp⊢;simp at hp⊢;omega
     ·simp at hπ) hx')
    {bld:= .not (by show ob.kind.isBld=false;rcases hkb with h|h;rw[h];rfl;rw[h.1];rfl),fl:= ?_,rel:= ?_,box:=fun hk=> ?_} (fun _ c' es hc' hes=> ?_) ?_ (fun _=>rfl) (fun b off' hGb hbb=> ?_) FF.os FF.output FF.tape (by rw[FF.size];exact Nat.le_refl _) undef (.one .dead) (fun h=>absurd rfl h) (by first|decide|(split<;>decide)) wk hE)
   ·show fl'.length=_
    rw[hfl'len,hrel.fl,zby _ _ _ (fun h=>by simp at h)]
   ·have hinj:∀π,QObj G1 n ob.fl π ad1.block→π=(flat ((c0,e0)::q)).dropLast:=fun π hq=>by
     rcases hq.own with h|h<;>rw[hblk]at h
     ·simp only[Option.some.injEq,Prod.mk.injEq,true_and]at h
      exact h.symm
     ·simp at h
    refine zgj _ Ds hrel.rel hpath hp0 _ hd' hrowlen (fun π b hl hq _ hne=>FF.other b (fun h=>hne (hinj π (h▸hq)))) (by rw[FF.size];exact Ds.lt) (fun o ho=> ?_) (fun j hj=> ?_) hinj (fun π b hl hq hne _=>hkeepQ π b hq (.inl hne)) hnew
    ·rw[hcell',hcellw,hh3 o,if_neg (by omega)]
    ·rw[hcell',hh3]
     have hj2:j<(zaj ob.row ((c0,e0)::q)).length:=by rw[←hrowlen];exact hj
     have hold:=hcellX j hj2;have hjs:=(Array.getElem?_eq_some_iff.1 hold).1;by_cases hin:c≤j∧j<c+sz
     ·rw[if_pos (by omega),if_pos hjs]
      have h1:hd' j=(a.eval x).cells.getD (j-c) undef:=if_pos hin;rw[h1];have h2:ad1.off+j-(ad1.off+c)=j-c:=by omega
      have h3:j-c<(a.eval x).cells.size:=by omega
      rw[h2];simp[h3]
     ·rw[if_neg (by omega)]
      have h1:hd' j=hd0 j:=if_neg hin;rw[h1];exact hold
   ·obtain ⟨b,off2,cs2,ty2,h1,h2,h3,h4,h5⟩:=hrel.box hk
    have hbn:b≠ad1.block:=by
     rintro rfl
     rw[hblk]at h2;simp only[Option.some.injEq,Prod.mk.injEq,true_and]at h2;by_cases hq:q=[]
     ·subst hq;simp at h2
     ·rw[za7 _ _ hq]at h2;simp at h2
    refine ⟨b,off2,cs2,ty2,h1,ze9 h2 hnL (hg0 _ (by simp)),by rw[FF.other b hbn];exact h3, ?_,fun k hk=> ?_⟩
    ·show off2+(zaC _ _ _).length≤cs2.size
     rw[zby _ _ _ (fun h=>by simp at h)];exact h4
    ·refine h5 k ?_
     have:(zaC ob.row ((c0,e0)::q) (zcU (zaj ob.row ((c0,e0)::q)) c ds)).length=ob.row.length:=zby _ _ _ (fun h=>by simp at h)
     rw[←this];exact hk
   ·rw[←hrow0]at hc' hes
    refine ⟨by show c'<(zaC _ _ _).length;rw[zby _ _ _ (fun h=>by simp at h)];exact hc', ?_,rfl⟩
    show∃es',(zaC ob.row ((c0,e0)::q) _).getD c' .h= .s es';simp only[zaC];by_cases hcc:c0=c'
    ·subst hcc
     simp[List.getD,hc']
    ·refine ⟨es, ?_⟩
     rw[←hes];simp[List.getD,hcc]
   ·show ob2.row.length=(zaC _ _ _).length
    rw[zby _ _ _ (fun h=>by simp at h),hrow0]
   ·have hG1:G1 b=some (n,[]):=by
     rcases zqu hGb with ⟨π,ρ,_,h2,h3⟩|⟨h,_⟩
     ·simp only[Prod.mk.injEq,true_and]at h3
      subst h3;simp only[f]at h2;split at h2
      ·split at h2<;>simp at h2
      ·simp at h2
     ·exact h
    have hbn:b≠ad1.block:=by
     rintro rfl
     rw[hblk]at hG1;simp only[Option.some.injEq,Prod.mk.injEq,true_and]at hG1;by_cases hq:q=[]
     ·subst hq;simp at hG1
     ·rw[za7 _ _ hq]at hG1;simp at hG1
    refine ⟨hG1,fun k _=>cell_of_heap (FF.other b hbn) k⟩
end ops
end Go.PV
namespace Go.PV
open Go.RowKit
section ops
variable {X:Ctx}{W0:World}{G0:Orig}{S:St}{w w':World}{a:Act}{G:Ghost}{pl:zaP}{mv:Bool}{e:Rec}
 {dst:Option Tmp} {ty:TypeId} {pos:String} {af:Array Edge} {gd:Option (Nat×Bool)}
theorem Inv.freeze(I:Inv W0 G0 S w a.tmps G pl){n:Nat}{p:Path}{c:Nat}{u:Value}(hr:V1 w G S.obj pl u (.r n p c)){ob:Obj}(hob:S.obj n=some ob)(hw:ownAt ob.fl p c≠ .sh):
 ∃G',zcc w w G G'∧zcx w G' (upd S.obj n (some {ob with fl:=zb6 ob.fl p c})) pl∧(∀b x,G' b=some x→G b=some x)∧(∀b k π,G b=some (k,π)→k≠n→G' b=some (k,π))∧
  Rel w (QSh G') u (.s ((zaj ob.row p).getD c .h).es):=by
 obtain ⟨ob1,es,h1,h2,hat⟩:=zdz I.objs hr;rw[hob]at h1;obtain rfl:=Option.some.inj h1;obtain ⟨ob2,hrr⟩:=hr;have hkro:ob.kind≠ .ro:=by have:=hrr.at0;rw[hob]at this;obtain rfl:=Option.some.inj this;exact hrr.notRo hw
 have hpath:zbR ob.row p:=by have:=hrr.at0;rw[hob]at this;obtain rfl:=Option.some.inj this;exact hrr.path
 have hlt0:c<(zaj ob.row p).length:=by have:=hrr.at0;rw[hob]at this;obtain rfl:=Option.some.inj this;exact hrr.lt
 -- the copying half of zeb, at a kind that is never moved
 by_cases hv:ob.kind= .virt∧p=[]
 ·obtain ⟨hv1,rfl⟩:=hv
  have hrel:=I.objs n ob hob hkro
  let G':=gmap G (fDrop n [c] false)
  have hG'n:∀b,G b=none→G' b=none:=fun b hb=>zhk hb
  have hG'o:∀b k π,G b=some (k,π)→(k=n→¬([c]<+:π))→G' b=some (k,π):=fun b k π hb hk=>by
   show gmap G _ b=_;rw[zcd hb];exact zko hk
  have hG'd:∀b π,G b=some (n,c::π)→G' b=none:=fun b π hb=>by
   show gmap G _ b=_;rw[zcd hb];unfold fDrop;rw[if_pos ⟨rfl,by simp,by simp⟩]
  refine ⟨G',fun b _ h=>⟨rfl,hG'n b h⟩,fun k ok hk hkr=> ?_,fun b x hx=> ?_,fun b k π h hk=>hG'o b k π h (fun h=>absurd h hk), ?_⟩
  ·by_cases hkn:k=n
   ·subst hkn
    rw[zce]at hk;obtain rfl:=Option.some.inj hk;refine {bld:= .not (by show ob.kind.isBld=false;rw[hv1];rfl),fl:=by simpa[zb6]using hrel.fl,rel:=fun c' hc'=>(hrel.rel c' hc').mono fun π b hb=> ?_,box:=fun h=>by rw[hv1]at h;exact absurd h (by simp)}
    simp only[QObj,zb6]at hb⊢;by_cases hcc:c'=c
    ·subst hcc
     have:(ob.fl.set c' Own.sh).getD c' .sh= .sh:=by
      simp only[List.getD,List.getElem?_set];split
      ·split<;>rfl
      ·simp_all
     rw[this];show G' b=none;rcases hb.own with h|h
     ·exact hG'd b π h
     ·exact hG'n b h
    ·have hcc':¬c=c':=fun h=>hcc h.symm
     have:(ob.fl.set c Own.sh).getD c' .sh=ob.fl.getD c' .sh:=by simp[List.getD,hcc']
     rw[this];exact QCell.mono k c' _ hG'n (fun b π h=>hG'o b k _ h (fun _ h=>hcc' (List.cons_prefix_cons.1 h).1)) π b hb
   ·rw[zc3 _ _ hkn]at hk
    have ho:=I.objs k ok hk hkr;refine {bld:=ho.bld.frame fun b π hb=>⟨rfl,by rw[hb];exact hG'o b k π hb (fun h=>absurd h hkn)⟩,fl:=ho.fl,rel:=ho.rel.frame (fun _ _ _ _=>rfl) (fun π b _ hq=> ?_),box:=fun hb=> ?_}
    ·cases π with
     |nil=>exact hq.elim
     |cons c' ρ=>exact QCell.mono k c' _ hG'n (fun b π h=>hG'o b k _ h (fun h=>absurd h hkn)) ρ b hq
    ·obtain ⟨b,off,cs,ty,h3,h4,h5,h6,h7⟩:=ho.box hb
     exact ⟨b,off,cs,ty,h3,hG'o b k [] h4 (fun h=>absurd h hkn),h5,h6,h7⟩
  ·cases hG:G b with
   |none=>rw[hG'n b hG]at hx;simp at hx
   |some y=>
    have hx':gmap G (fDrop n [c] false) b=some x:=hx;rw[zcd hG]at hx';unfold fDrop at hx';split at hx'
    ·simp at hx'
    ·exact hx'
  ·rw[h2]
   refine hat.mono fun π b hb=> ?_
   show G' b=none;rcases hb.own with h|h
   ·exact hG'd b π h
   ·exact hG'n b h
 ·have hmo:zeb {o:=[(n,some ob)]} false n p c=some (((zaj ob.row p).getD c .h).es, .sh,{o:=(n,some {ob with fl:=zb6 ob.fl p c}):: [(n,some ob)],tch:=[n],kl:=[]}):=by
   unfold zeb;simp only[fget,if_true];rw[if_neg hw]
   have hcond:¬((false||(decide (ob.kind= .virt)&&p.isEmpty))=true):=by
    simp only[Bool.false_or,Bool.and_eq_true,decide_eq_true_eq,List.isEmpty_iff];exact hv
   rw[if_neg hcond]
  obtain ⟨G',obs',m⟩:=zdK I.objs (A:={o:=[(n,some ob)]}) (fun k o hk=>by
   simp only[fget]at hk;split at hk
   ·rename_i h;subst h;rw[hob];exact hk
   ·exact absurd hk (by simp)) (by simp) (by simp) ⟨ob2,hrr⟩ hmo (lim S) 0 (zdR S)
  have hobs:∀k,obs' k=upd S.obj n (some {ob with fl:=zb6 ob.fl p c}) k:=by
   intro k;by_cases hk:k=n
   ·subst hk
    rw[zce,←m.mvd.ups k (by simp)]
    simp[fget]
   ·rw[zc3 _ _ hk];exact m.other k hk
  refine ⟨G',fun b _ h=>⟨rfl,m.mvd.gnone b h⟩,fun k ok hk hkr=>m.objs k ok (by rw[hobs];exact hk) hkr,fun b x hx=> ?_,fun b k π h hk=>m.mvd.gkeep b k π h (by simpa using hk),m.rel.mono fun _ _ h=>h⟩
  obtain ⟨x1,x2⟩:=x;rcases m.mvd.glim b x1 x2 hx with h|h
  ·exact h
  ·subst h
   obtain ⟨y,hy,_⟩:=m.mvd.gdom b _ hx;obtain ⟨y1,y2⟩:=y;rcases m.mvd.gstay b y1 y2 hy (by simp)with h|h
   ·rw[h]at hx
    simp only[Option.some.injEq,Prod.mk.injEq]at hx;rw[←hx.1,←hx.2];exact hy
   ·rw[h]at hx;simp at hx
theorem zfs{R:Type}(P:Program)(F:Foot)(t:TypeId)(b:A1)(l h:Option Int)(k:A1→List (Nat×Option Obj)→Option R):
 zfG P F t b l h k=(zfG P F t b l h fun x u=>some (x,u)).bind fun z=>k z.1 z.2:=by
 unfold zfG
 repeat' (first|rfl|split)
 all_goals (simp only[cond_eq_ite];split<;>rfl)
theorem zow(I:Inv W0 G0 S w a.tmps G pl){o:Option Operand}{vs r:List AV}{z:Option Int}(rest:List AV)(hvs:vs=(o.map S.ev).toList++rest)(h:zkn o.isSome vs=some (z,r)):
 r=rest∧(o.map a.eval=none∧z=none∨∃k n,o.map a.eval=some (.int k n)∧z=some n):=by
 rcases zlU h with ⟨h1,h2,h3⟩|⟨h1,v,n,h2,h3,h4⟩
 ·cases o with
  |none=>refine ⟨by rw[h3,hvs];rfl, .inl ⟨rfl,h2⟩⟩
  |some y=>simp at h1
 ·cases o with
  |none=>simp at h1
  |some y=>
   simp only[Option.map_some,Option.toList_some,List.singleton_append]at hvs;rw[h2]at hvs;simp only[List.cons.injEq]at hvs;obtain ⟨rfl,hr⟩:=hvs;obtain ⟨k,hk⟩:=ziN I y h3;exact ⟨hr, .inr ⟨k,n,by simp[hk],h4⟩⟩
theorem zqw(I:Inv W0 G0 S w a.tmps G pl)(t:TypeId)(x:Operand)(lo hi:Option Operand)(h:S.opK X mv ⟨dst, .slice t x lo hi none,ty,pos,af,gd⟩ some=some e):
 OpOk X.P W0 G0 S w a ⟨dst, .slice t x lo hi none,ty,pos,af,gd⟩ e:=by
 have hvals:S.vals ⟨dst, .slice t x lo hi none,ty,pos,af,gd⟩=S.ev x::((lo.map S.ev).toList++((hi.map S.ev).toList++[])):=by
  cases lo<;>cases hi<;>simp[St.vals,Op.operands]
 simp only[St.opK,hvals,effK]at h;have hx:=I.ev x;split at h
 case h_2=>simp at h
 rename_i x1 l r hx1' hlo;have hx1:=zmS hx1';clear hx1';rw[hx1]at hx;split at h
 case h_2=>simp at h
 rename_i hh r' hhi;have hb1:=zow I _ rfl hlo;obtain ⟨hr1,hlo⟩:=hb1;rw[hr1]at hhi;have hb2:=zow I _ rfl hhi;obtain ⟨hr2,hhi⟩:=hb2;rw[zfs]at h;cases hs:zfG X.P (S.foot (S.ev x::((lo.map S.ev).toList++((hi.map S.ev).toList++[])))) t x1 l hh (fun x u=>some (x,u))with
 |none=>rw[hs]at h;simp at h
 |some z=>
  obtain ⟨r1,ups⟩:=z;rw[hs]at h;simp only[Option.bind_some,Option.some.injEq]at h;subst h
  -- the bounds
  have hb:∀(isS:Bool) (len cap:Nat),0≤l.getD 0→l.getD 0≤hh.getD len→hh.getD len≤len→len≤cap→
   (Instr.sliceBounds isS len cap (lo.map a.eval) (hi.map a.eval) none).run X.P w= .ok ((l.getD 0).toNat,(hh.getD len).toNat,cap) w:=by
   intro isS len cap h0 h1 h2 h3;refine zhp X.P isS len cap _ _ _ _ ?_ ?_ h0 h1 h2 h3 w
   ·rcases hlo with ⟨h4,rfl⟩|⟨k,n,h4,rfl⟩
    ·exact .inl ⟨h4,rfl⟩
    ·exact .inr ⟨k,h4⟩
   ·rcases hhi with ⟨h4,rfl⟩|⟨k,n,h4,rfl⟩
    ·exact .inl ⟨h4,rfl⟩
    ·exact .inr ⟨k,h4⟩
  have hrun:∀z,(Instr.sliceAt t (a.eval x) (lo.map a.eval) (hi.map a.eval) none).run X.P w= .ok z w→
   (execOp a.eval ⟨dst, .slice t x lo hi none,ty,pos,af,gd⟩).run X.P w= .ok (.value z) w:=by
   intro z hz;show Sem.run X.P (bind (Instr.sliceAt t (a.eval x) (lo.map a.eval) (hi.map a.eval) ((none:Option Operand).map a.eval)) fun z=>pure (Next.value z)) w=_
   rw[Option.map_none,run_bind hz];rfl
  unfold zfG at hs;split at hs
  · -- a string
    rename_i hu;split at hs
    case h_2=>simp at hs
    rename_i s;rw[zbW]at hs;obtain ⟨hc,hs⟩:=hs;simp only[Prod.mk.injEq]at hs;obtain ⟨rfl,rfl⟩:=hs;simp only[Bool.and_eq_true,decide_eq_true_eq]at hc;have hx:a.eval x= .string s:=hx;refine .of_pure I (hrun (.string (s.extract (l.getD 0).toNat (hh.getD s.size).toNat)) ?_) rfl;rw[hx,Instr.sliceAt,run_bind (zct hu w)];simp only;rw[Instr.slice,run_bind (zct hu w)];simp only[Option.isSome_none,Bool.false_eq_true,if_false];rw[run_bind (hb false s.size s.size hc.1.1 hc.1.2 hc.2 (Nat.le_refl _))];rfl
  · -- a slice
    rename_i el hu;split at hs
    ·simp at hs
    rename_i sz hsz
    have hsl:∀(ad:Option Addr) (len cap:Nat),a.eval x= .slice ad len cap→0≤l.getD 0→l.getD 0≤hh.getD len→hh.getD len≤len→len≤cap→
     (Instr.sliceAt t (a.eval x) (lo.map a.eval) (hi.map a.eval) none).run X.P w=
      .ok (.slice (if cap=(l.getD 0).toNat then ad else ad.map (·.add ((l.getD 0).toNat*sz))) ((hh.getD len).toNat-(l.getD 0).toNat) (cap-(l.getD 0).toNat)) w:=by
     intro ad len cap hax h0 h1 h2 h3;rw[hax,Instr.sliceAt,run_bind (zct hu w)];simp only;rw[Instr.slice,run_bind (zct hu w)];simp only;rw[run_bind (hb true len cap h0 h1 h2 h3),run_bind (zca hsz w)];rfl
    split at hs
    · -- shared
      rename_i es;rw[zbW]at hs;obtain ⟨hc,hs⟩:=hs;simp only[Prod.mk.injEq]at hs;obtain ⟨rfl,rfl⟩:=hs;simp only[Bool.and_eq_true,decide_eq_true_eq,Bool.or_eq_true]at hc;obtain ⟨⟨⟨h0,h1⟩,h2⟩,h3⟩:=hc;have hx:Rel w (QSh G) (a.eval x) (.s es):=hx
      obtain ⟨ad,cap,hax,hle,hsub⟩:=hx.sub (fun _ _ _ h=>h) (l:=(l.getD 0).toNat) (hh:=(hh.getD es.length).toNat) (sz:=sz) (by omega) (by omega) (by
       rcases h3 with h|h
       ·left;omega
       ·exact .inr h)
      exact .of_pure I (hrun _ (hsl ad es.length cap hax h0 h1 h2 hle)) hsub
    · -- one's own
      rename_i n p c;split at hs
      case h_2=>simp at hs
      rename_i ob hfo;simp only at hs;rw[zbW]at hs;obtain ⟨hc,hs⟩:=hs;simp only[Prod.mk.injEq]at hs;obtain ⟨rfl,rfl⟩:=hs;simp only[Bool.and_eq_true,decide_eq_true_eq,Bool.or_eq_true]at hc;obtain ⟨⟨⟨h0,h1⟩,h2⟩,h3⟩:=hc;have hob:=zcs S _ n ob hfo;obtain ⟨ob2,es,g1,g2,hat⟩:=zdz I.objs hx;rw[hob]at g1;obtain rfl:=Option.some.inj g1;by_cases hw:ownAt ob.fl p c= .sh
      ·rw[if_pos hw]
       have hxs:Rel w (QSh G) (a.eval x) (.s ((zaj ob.row p).getD c .h).es):=by
        rw[g2];refine hat.mono fun π b hb=> ?_
        have:=zfq p c hb;rw[hw]at this;exact this
       obtain ⟨ad,cap,hax,hle,hsub⟩:=hxs.sub (fun _ _ _ h=>h) (l:=(l.getD 0).toNat) (hh:=(hh.getD ((zaj ob.row p).getD c .h).es.length).toNat) (sz:=sz) (by omega) (by omega) (by
        rcases h3 with h|h
        ·left;omega
        ·exact .inr h)
       exact .of_pure I (hrun _ (hsl ad _ cap hax h0 h1 h2 hle)) hsub
      ·rw[if_neg hw]
       obtain ⟨G',hB,hO,hsubG,hkeepG,hrel⟩:=I.freeze hx hob hw
       obtain ⟨ad,cap,hax,hle,hsub⟩:=hrel.sub (fun _ _ _ h=>h) (l:=(l.getD 0).toNat) (hh:=(hh.getD ((zaj ob.row p).getD c .h).es.length).toNat) (sz:=sz) (by omega) (by omega) (by
        rcases h3 with h|h
        ·left;omega
        ·exact .inr h)
       have hobj:∀k,(S.put0 dst {val:= .one (.s ((((zaj ob.row p).getD c .h).es.take (hh.getD ((zaj ob.row p).getD c .h).es.length).toNat).drop (l.getD 0).toNat)),ups:=[(n,some {ob with fl:=zb6 ob.fl p c})]}).obj k=
        upd S.obj n (some {ob with fl:=zb6 ob.fl p c}) k:=by
        intro k;rw[zg5,zfR _ _ _ _ (zdc hob)];rfl
       have hkro:ob.kind≠ .ro:=by
        obtain ⟨ob3,hr3⟩:=hx;have:=hr3.at0;rw[hob]at this;obtain rfl:=Option.some.inj this;exact hr3.notRo hw
       refine .of_value (hrun _ (hsl ad _ cap hax h0 h1 h2 hle)) (Inv.step I dst _ _ (pl':=pl) hB (fun x hx=>by simp at hx) (fun k _ ok hk=> ?_) (fun k _ ok hk hkr=> ?_) (fun k _ ok hk=> ?_) (fun k ok hk hkr=> ?_)
        (fun b x hx=>I.own b x (hsubG b x hx)) (fun b x hx=>I.nolim b x (hsubG b x hx)) (fun b π h=>⟨rfl,hkeepG b _ π h (by have:=zdc hob;have:=I.small;omega)⟩) (fun k ok hk ho=> ?_) rfl rfl rfl (Nat.le_refl _) (fun _=>hsub))
       ·by_cases hkn:k=n
        ·subst hkn
         rw[hob]at hk;obtain rfl:=Option.some.inj hk;exact ⟨{ob with fl:=zb6 ob.fl p c},by rw[hobj,zce],rfl,rfl,rfl,fun h=>absurd h hkro,fun _ _ _=>rfl⟩
        ·exact ⟨ok,by rw[hobj,zc3 _ _ hkn];exact hk,rfl,rfl,rfl,fun _=>rfl,fun _ _ _=>rfl⟩
       ·by_cases hkn:k=n
        ·subst hkn
         rw[hob]at hk;obtain rfl:=Option.some.inj hk;exact ⟨{ob with fl:=zb6 ob.fl p c},by rw[hobj,zce],hkr,fun c' es' hc hes=>⟨hc,⟨es',hes⟩,rfl⟩⟩
        ·exact ⟨ok,by rw[hobj,zc3 _ _ hkn];exact hk,hkr,fun c es hc hes=>⟨hc,⟨es,hes⟩,rfl⟩⟩
       ·by_cases hkn:k=n
        ·subst hkn
         rw[hob]at hk;obtain rfl:=Option.some.inj hk;exact ⟨{ob with fl:=zb6 ob.fl p c},by rw[hobj,zce],rfl,rfl,fun h=>absurd h hkro⟩
        ·exact ⟨ok,by rw[hobj,zc3 _ _ hkn];exact hk,rfl,rfl,fun _=>⟨rfl,rfl⟩⟩
       ·rw[hobj]at hk
        exact hO k ok hk hkr
       ·rw[hobj]at ho
        by_cases hkn:k=n
        ·subst hkn
         rw[zce]at ho;obtain rfl:=Option.some.inj ho;exact ⟨ob,hob,rfl,rfl,rfl,fun h=>absurd h hkro,fun _ _=>rfl,fun b off _ hG=>⟨hsubG b _ hG,fun _ _=>rfl⟩⟩
        ·rw[zc3 _ _ hkn]at ho
         exact ⟨ok,ho,rfl,rfl,rfl,fun _=>rfl,fun _ _=>rfl,fun b off _ hG=>⟨hsubG b _ hG,fun _ _=>rfl⟩⟩
    ·simp at hs
  ·simp at hs
end ops
end Go.PV
namespace Go.PV
open Go.RowKit
theorem zcZ(b:Nat):∀(vs:List Value) (o:Nat) (w:World),World.setCells w b o vs=setCells w b o vs
 | [],_,_=>rfl
 |v::r,o,w=>zcZ b r (o+1) _
theorem one_cell{v:Value}(h:zc2 v=true):v.oneCell'=true:=by
 cases v<;>first|rfl|simp[zc2]at h
theorem zkB{w:World}{Q:QP}{u:Value}{d:D}{b:Bool}(h:Rel w Q u d)(hc:cellD b d=true):zc2 u=true:=by
 cases d with
 |v x=>rw[h.val];exact hc
 |s es=>exact (zdn h).2
 |h=>simp[cellD]at hc
 |u t=>simp[cellD]at hc
theorem zlZ{i j sz:Nat}(h:j<sz):(i*sz+j)/sz=i∧(i*sz+j)%sz=j:=by
 rw[Nat.mul_comm];refine ⟨?_, ?_⟩
 ·rw[Nat.mul_add_div (by omega),Nat.div_eq_of_lt h];omega
 ·rw[Nat.mul_add_mod];exact Nat.mod_eq_of_lt h
theorem zfS{i j len sz:Nat}(hi:i<len)(h:j<sz):i*sz+j<len*sz:=by
 have:(i+1)*sz≤len*sz:=Nat.mul_le_mul_right _ hi;rw[Nat.succ_mul]at this;omega
theorem zb3{n:Nat}{es:List (List D)}(h:zak n es=true)(i:Nat)(hi:i<es.length):(es[i]).length=n:=by
 simp only[zak,List.all_eq_true,beq_iff_eq]at h;exact h _ (List.getElem_mem hi)
theorem zd4{b:Bool}{es:List (List D)}(h:zap b es=true)(i:Nat)(hi:i<es.length)(j:Nat)(hj:j<(es[i]).length):cellD b ((es[i])[j])=true:=by
 simp only[zap,List.all_eq_true]at h;exact h _ (List.getElem_mem hi) _ (List.getElem_mem hj)
theorem zkC{w:World}{Q:QP}{u:Value}{fs:List (List D)}{sz:Nat}(h:Rel w Q u (.s fs))(hz:∀i (h:i<fs.length),(fs[i]).length=sz)(hp:0<sz):
 ∃(ao:Option Addr) (cap:Nat) (news:List Value),u= .slice ao fs.length cap∧news.length=fs.length*sz∧
  (∀ad,ao=some ad→∀k v,news[k]? =some v→w.cell? (ad.add k)=some v)∧(ao=none→news=[])∧
  ∀i j (hi:i<fs.length) (hj:j<(fs[i]).length),Rel w (fun π b=>Q (i::j::π) b) (news.getD (i*sz+j) undef) ((fs[i])[j]):=by
 rcases h.slice with ⟨rfl,a,rfl⟩|⟨ad,cap,sz',uf,rfl,hl,hs,hb,hq,hcc,hz',hu,hr⟩
 ·exact ⟨a,0,[],rfl,by simp,fun _ _ k v h=>by simp at h,fun _=>rfl,fun i j hi=>absurd hi (by simp)⟩
 ·refine ⟨some ad,cap,(List.range (fs.length*sz)).map fun k=>uf (k/sz) (k%sz),rfl,by simp,fun ad' he k v hk=> ?_,fun h=>absurd h (by simp),fun i j hi hj=> ?_⟩
  ·obtain rfl:=Option.some.inj he
   rw[List.getElem?_eq_some_iff]at hk;obtain ⟨hk,rfl⟩:=hk;simp only[List.length_map,List.length_range]at hk;simp only[List.getElem_map,List.getElem_range];have h1:k/sz<fs.length:=Nat.div_lt_of_lt_mul (by rw[Nat.mul_comm];exact hk)
   have h2:k%sz<sz:=Nat.mod_lt _ hp;have h3:sz=sz':=by rw[←hz _ h1,hz' _ h1]
   have:=hu (k/sz) (k%sz) h1 (h3▸h2);rw[←h3]at this;rw[Nat.mul_comm,Nat.div_add_mod]at this;rw[ze5 ad hs];exact this
  ·have hj':j<sz:=by rw[←hz i hi];exact hj
   have:=zfS hi hj';have hd:=zlZ (i:=i) hj'
   have he:((List.range (fs.length*sz)).map fun k=>uf (k/sz) (k%sz)).getD (i*sz+j) undef=uf i j:=by
    simp[List.getD,this,hd]
   rw[he];exact hr i j hi hj
theorem zox{P:Program}{w:World}{Q:QP}{u:Value}{fs:List (List D)}{sz:Nat}{tx e':TypeId}{bb:Bool}(hk:P.underlying tx=some (.slice e'))(h:Rel w Q u (.s fs))
 (hz:zak sz fs=true) (hc:zap bb fs=true) (hp:0<sz):
 ∃news,Go.Src P sz tx u fs.length news w∧∀i j (hi:i<fs.length) (hj:j<(fs[i]).length),Rel w (fun π b=>Q (i::j::π) b) (news.getD (i*sz+j) undef) ((fs[i])[j]):=by
 obtain ⟨ao,cap,news,rfl,h2,h3,h4,h5⟩:=zkC h (zb3 hz) hp;refine ⟨news, ?_,h5⟩;cases ao with
 |none=>
  have hn:=h4 rfl;subst hn
  have:fs.length=0:=by
   simp only[List.length_nil]at h2;rcases Nat.mul_eq_zero.1 h2.symm with h|h
   ·exact h
   ·omega
  rw[this];exact Go.Src.ofNil w hk cap
 |some ad=>
  refine Go.Src.ofSlice w hk ad fs.length cap news h2 (h3 ad rfl) (fun v hv=> ?_)
  obtain ⟨k,hk',rfl⟩:=List.getElem_of_mem hv;rw[h2]at hk';have h1:k/sz<fs.length:=Nat.div_lt_of_lt_mul (by rw[Nat.mul_comm];exact hk')
  have h6:k%sz<sz:=Nat.mod_lt _ hp;have h7:k%sz<(fs[k/sz]).length:=by rw[zb3 hz _ h1];exact h6
  have h8:=h5 (k/sz) (k%sz) h1 h7;have h9:k/sz*sz+k%sz=k:=by rw[Nat.mul_comm];exact Nat.div_add_mod k sz
  rw[h9]at h8;have h10:news.getD k undef=news[k]'(by rw[h2];exact hk'):=by simp[List.getD,h2,hk']
  rw[h10]at h8;exact one_cell (zkB h8 (zd4 hc _ h1 _ h7))
section ops
variable {X:Ctx}{W0:World}{G0:Orig}{S:St}{w w':World}{a:Act}{G:Ghost}{pl:zaP}{mv:Bool}{e:Rec}
 {dst:Option Tmp} {ty:TypeId} {pos:String} {af:Array Edge} {gd:Option (Nat×Bool)}
theorem zjv(I:Inv W0 G0 S w a.tmps G pl)(vs:List AV){x y:A1}{u v:Value}{es:List (List D)}{w0:Own}{A:Env}(hx:V1 w G S.obj pl u x)(hy:V1 w G S.obj pl v y)
 (hyp:∀ok n p c,y≠ .p ok n p c) (hyb:∀cs c,y≠ .bx cs c) (h:zec {o:=S.foot vs} x=some (es,w0,A)) (hap:zhc true x y=true):
 w0≠ .sh∧∃G1 obs1,zcx w G1 obs1 pl∧Mv (lim S) G S.obj {o:=S.foot vs} G1 obs1 A∧Rel w (QCell G1 (lim S) 0 w0) u (.s es)∧V1 w G1 obs1 pl v y∧obs1 (lim S)=none:=by
 have m0:=zeL I vs;cases x with
 |v z=>
  unfold zec at h;split at h
  ·rename_i heq
   simp only[Option.some.injEq,Prod.mk.injEq]at h;obtain ⟨rfl,rfl,rfl⟩:=h;refine ⟨by simp,G,S.obj,I.objs,m0, ?_,hy,zdR S⟩
   have hx:u=z:=hx;simp only[A1.v.injEq]at heq;rw[hx,heq];exact .e _ _
  ·rename_i heq;simp at heq
  ·simp at h
 |r n p c=>
  simp only[zec]at h;split at h
  case h_2=>simp at h
  rename_i ob hob;split at h
  ·simp at h
  split at h
  ·simp at h
  rename_i hne;obtain ⟨G1,obs1,m⟩:=zdK I.objs m0.coh (by simp) (by simp) hx h (lim S) 0 (zdR S)
  refine ⟨fun hw=> ?_,G1,obs1,m.objs,m.mvd,m.rel, ?_, ?_⟩
  ·subst hw;exact hne _ _ h
  ·cases y with
   |dead=>exact trivial
   |v x=>exact hy
   |s es'=>exact Rel.mono hy (fun _ b hb=>m.mvd.gnone b hb)
   |q row c'=>
    obtain ⟨ad,hd,hu,hro⟩:=hy;exact ⟨ad,hd,hu,hro.frame (fun b _ hb=>⟨rfl,m.mvd.gnone b hb⟩)⟩
   |r n' p' c'=>exact m.refs _ _ _ _ hy hap
   |p ok n' p' c'=>exact absurd rfl (hyp ok n' p' c')
   |bx cs' c'=>exact absurd rfl (hyb cs' c')
  ·have hnL:lim S≠n:=by
    rintro rfl
    obtain ⟨ob,hr⟩:=hx;have:=hr.at0;rw[zdR]at this;simp at this
   rw[m.other _ hnL];exact zdR S
 |dead=>simp[zec]at h
 |s es=>simp[zec]at h
 |q row c=>simp[zec]at h
 |p ok n p c=>simp[zec]at h
 |bx cs c=>simp[zec]at h
theorem zjw{P:Program}{G:Ghost}{obs:Obs}{A A':Env}{L:Nat}(hI:zcx w G obs pl)(coh:∀n ob,fget A.o n=some ob→obs n=some ob)(hups:∀n∈A.tch,fget A.o n=obs n)
 (hkl:∀x∈A.kl,x.2≤1∧x.1∈A.tch) (hL:obs L=none) {y:A1} {v:Value} {elem tx:TypeId} {fs:List (List D)} {w1:Own} {sz:Nat} (hy:V1 w G obs pl v y)
 (h:zgg P A mv elem tx y=some (fs,w1,A')) (hz:zak sz fs=true) (hc:zap (bears P elem) fs=true) (hp:0<sz):
 ∃G' obs' news,zcx w G' obs' pl∧Mv L G obs A G' obs' A'∧(∀b j π,j≠1→G b=some (L,j::π)→G' b=some (L,j::π))∧obs' L=none∧Go.Src P sz tx v fs.length news w∧
  ∀i j (hi:i<fs.length) (hj:j<(fs[i]).length),Rel w (fun π b=>QCell G' L 1 w1 (i::j::π) b) (news.getD (i*sz+j) undef) ((fs[i])[j]):=by
 have plain:∀{Q Q':QP} {u:Value} {d:D},Rel w Q u d→cellD false d=true→Rel w Q' u d:=by
  intro Q Q' u d hr hcd;cases d with
  |v x=>rw[hr.val];exact .v _ _
  |s es=>simp[cellD]at hcd
  |h=>simp[cellD]at hcd
  |u t=>simp[cellD]at hcd
 unfold zgg at h;split at h
 · -- a string
   rename_i x hu;simp only[Option.some.injEq,Prod.mk.injEq]at h;obtain ⟨rfl,rfl,rfl⟩:=h;have hv:v= .string x:=hy;subst hv;have hs1:(x.data.toList.map fun b=> [D.v (.int .u8 b.toNat)]).length=x.size:=by simp
   have hgen:∀i (hi:i<(x.data.toList.map fun b=> [D.v (.int .u8 b.toNat)]).length),(x.data.toList.map fun b=> [D.v (.int .u8 b.toNat)])[i]=[D.v (.int .u8 (x.data.toList[i]'(by simpa using hi)).toNat)]:=fun i hi=>by simp
   refine ⟨G,obs,byteCells x,hI,Mv.refl coh hups hkl,fun _ _ _ _ h=>h,hL, ?_,fun i j hi hj=> ?_⟩
   ·have h1:=Go.Src.ofString (P:=P) w hu x
    rw[hs1];by_cases h0:x.size=0
    ·refine ⟨h1.kind,h1.len, ?_, ?_,by rw[h1.newsLen,h0];simp,h1.one⟩
     ·simp only[Builtin.firstCells]
      rw[h0];have:byteCells x=[]:=List.length_eq_zero_iff.1 (by rw[byteCells_length,h0])
      rw[this];simp[go_sem]
     ·simp only[Builtin.firstCells]
      rw[h0];have:byteCells x=[]:=List.length_eq_zero_iff.1 (by rw[byteCells_length,h0])
      rw[this];simp[go_sem]
    ·have:sz=1:=by
      have h2:=zb3 hz 0 (by rw[hs1];omega)
      rw[hgen 0 (by rw[hs1];omega)]at h2
      simpa using h2.symm
     subst this;exact h1
   ·have h2:=hgen i hi
    have h3:j=0:=by rw[h2]at hj;simpa using hj
    subst h3;have h4:((x.data.toList.map fun b=> [D.v (.int .u8 b.toNat)])[i])[0]'hj=D.v (.int .u8 (x.data.toList[i]'(by simpa using hi)).toNat):=by simp
    rw[h4]
    have h5:sz=1:=by
     have h6:=zb3 hz i hi;rw[h2]at h6;simpa using h6.symm
    subst h5;have h7:i<x.data.toList.length:=by simpa using hi
    have:(byteCells x).getD (i*1+0) undef= .int .u8 (x.data.toList[i]).toNat:=by
     have h8:i<x.data.size:=by simpa using h7
     simp only[byteCells,List.getD,List.getElem?_map,Nat.mul_one,Nat.add_zero,Array.getElem?_toList];rw[Array.getElem?_eq_getElem h8];simp
    rw[this];exact .v _ _
 · -- nil
   rename_i el hu;simp only[Option.some.injEq,Prod.mk.injEq]at h;obtain ⟨rfl,rfl,rfl⟩:=h;have hv:v= .slice none 0 0:=hy;subst hv;exact ⟨G,obs,[],hI,Mv.refl coh hups hkl,fun _ _ _ _ h=>h,hL,Go.Src.ofNil w hu 0,fun i j hi=>absurd hi (by simp)⟩
 · -- shared
   rename_i el es hu;simp only[Option.some.injEq,Prod.mk.injEq]at h;obtain ⟨rfl,rfl,rfl⟩:=h;have hr:Rel w (QSh G) v (.s es):=hy;obtain ⟨news,h1,h2⟩:=zox hu hr hz hc hp;refine ⟨G,obs,news,hI,Mv.refl coh hups hkl,fun _ _ _ _ h=>h,hL,h1,fun i j hi hj=> ?_⟩
   by_cases hb:bears P elem=true
   ·rw[if_pos hb];exact h2 i j hi hj
   ·have hb:bears P elem=false:=by simpa using hb
    rw[hb]at hc;exact plain (h2 i j hi hj) (zd4 hc i hi j hj)
 · -- one's own
   rename_i el n p c hu;by_cases hb:bears P elem=true
   ·rw[if_pos hb]at h
    obtain ⟨G',obs',m⟩:=zdK hI coh hups hkl hy h L 1 hL;obtain ⟨news,h1,h2⟩:=zox hu m.rel hz hc hp
    have hnL:L≠n:=by
     rintro rfl
     obtain ⟨ob,hr⟩:=hy;have:=hr.at0;rw[hL]at this;simp at this
    exact ⟨G',obs',news,m.objs,m.mvd,m.lim,by rw[m.other _ hnL];exact hL,h1,h2⟩
   ·rw[if_neg hb]at h
    have hb:bears P elem=false:=by simpa using hb
    split at h
    case h_2=>simp at h
    rename_i ob hob;simp only[Option.some.injEq,Prod.mk.injEq]at h;obtain ⟨rfl,rfl,rfl⟩:=h;obtain ⟨ob1,es,g1,g2,hat⟩:=zdz hI hy;rw[coh n ob hob]at g1;obtain rfl:=Option.some.inj g1;rw[g2]at hz hc⊢;obtain ⟨news,h1,h2⟩:=zox hu hat hz hc hp;refine ⟨G,obs,news,hI,Mv.refl coh hups hkl,fun _ _ _ _ h=>h,hL,h1,fun i j hi hj=> ?_⟩
    rw[hb]at hc;exact plain (h2 i j hi hj) (zd4 hc i hi j hj)
 ·simp at h
def fApp(inp:Bool)(ow:Own)(len:Nat):List Nat→Option (List Nat)
 | []=>none
 | [k]=>if inp=true∧k=0 then some [0]else none
 |k::i::ρ=>if ow= .deep then (if k=0 then some (0::i::ρ)else some (0::(len+i)::ρ))else none
theorem zmZ{w w':World}{G2:Ghost}{L N:Nat}{b0:Option Nat}{inp:Bool}{ow wn:Own}{len k i i' j:Nat}{u:Value}{d:D}
 (h:Rel w (fun π b=>QCell G2 L k wn (i::j::π) b) u d) (how:ow= .deep∧wn= .deep∨ow= .top) (hk:k=0∧i'=i∨k≠0∧i'=len+i)
 (hsame:∀b,b<w.heap.size→G2 b≠some (L,[0])→w'.heap[b]? =w.heap[b]?) (hb0:∀b,b<w.heap.size→b0≠some b):
 Rel w' (fun π b=>QCell (gNew G2 N L b0 [0] (fApp inp ow len)) N 0 ow (i'::j::π) b) u d:=by
 refine h.frame (fun π b hl hq=>hsame b hl (fun hG=> ?_)) (fun π b hl hq=> ?_)
 ·rcases hq.own with h1|h1<;>rw[hG]at h1<;>simp at h1
 ·rcases how with ⟨rfl,rfl⟩|rfl
  ·show gNew G2 N L b0 [0] (fApp inp .deep len) b=some (N,0::i'::j::π)
   rw[zd3 (hb0 b hl) hq];rcases hk with ⟨rfl,rfl⟩|⟨hk,rfl⟩
   ·simp[fApp]
   ·simp[fApp,hk]
  ·show QCell _ N 0 .top (i'::j::π) b
   simp only[QCell];rw[if_neg (by simp)]
   rcases hq.own with h1|h1
   ·rw[zd3 (hb0 b hl) h1]
    simp[fApp]
   ·exact zej (hb0 b hl) h1
theorem zkD(w0 w1:Own):(zdx w0 w1= .deep∧w0= .deep∧w1= .deep)∨zdx w0 w1= .top:=by
 unfold zdx;split
 ·rename_i h;exact .inl ⟨rfl,h.1,h.2⟩
 ·exact .inr rfl
theorem zl0{w w':World}{G2:Ghost}{L N:Nat}{b0:Option Nat}{inp:Bool}{w0 w1:Own}{es fs:List (List D)}{u:Nat→Nat→Value}{news:List Value}{sz cap:Nat}{ad:Addr}
 (hl:es.length+fs.length≤cap) (hne:es++fs=[]→cap=0) (hs:ad.spot=none) (hb:ad.block<w'.heap.size)
 (hq:gNew G2 N L b0 [0] (fApp inp (zdx w0 w1) es.length) ad.block=some (N,[0]))
 (hc:∀k,k<cap*sz→(w'.cell? ⟨ad.block,ad.off+k,none⟩).isSome) (hz:zak sz es=true) (hz':zak sz fs=true)
 (hu:∀i j,i<es.length→j<sz→w'.cell? ⟨ad.block,ad.off+(i*sz+j),none⟩=some (u i j))
 (hn:∀i j,i<fs.length→j<sz→w'.cell? ⟨ad.block,ad.off+((es.length+i)*sz+j),none⟩=some (news.getD (i*sz+j) undef))
 (hr:∀i j (hi:i<es.length) (hj:j<(es[i]).length),Rel w (fun π b=>QCell G2 L 0 w0 (i::j::π) b) (u i j) ((es[i])[j]))
 (hr':∀i j (hi:i<fs.length) (hj:j<(fs[i]).length),Rel w (fun π b=>QCell G2 L 1 w1 (i::j::π) b) (news.getD (i*sz+j) undef) ((fs[i])[j]))
 (hsame:∀b,b<w.heap.size→G2 b≠some (L,[0])→w'.heap[b]? =w.heap[b]?) (hb0:∀b,b<w.heap.size→b0≠some b):
 Rel w' (QCell (gNew G2 N L b0 [0] (fApp inp (zdx w0 w1) es.length)) N 0 (zdx w0 w1)) (.slice (some ad) (es++fs).length cap) (.s (es++fs)):=by
 have how:=zkD w0 w1;refine .s _ ad cap sz (es++fs) (fun i j=>if i<es.length then u i j else news.getD ((i-es.length)*sz+j) undef) (by simpa using hl) (fun h=> .inl (hne h)) hs hb ?_ hc (fun i hi=> ?_) (fun i j hi hj=> ?_) (fun i j hi hj=> ?_)
 ·rcases how with ⟨h,_,_⟩|h<;>rw[h]at hq⊢
  ·exact hq
  ·simp only[QCell,if_true];exact hq
 ·rw[List.getElem_append]
  split
  ·exact zb3 hz _ _
  ·exact zb3 hz' _ _
 ·by_cases h:i<es.length
  ·rw[if_pos h];exact hu i j h hj
  ·rw[if_neg h]
   have:=hn (i-es.length) j (by simp at hi;omega) hj
   rw[show es.length+(i-es.length)=i from by omega]at this
   exact this
 ·by_cases h:i<es.length
  ·have h1:(es++fs)[i]=es[i]:=List.getElem_append_left h
   have hj':j<(es[i]).length:=by rw[←h1];exact hj
   have:=zmZ (w':=w') (N:=N) (b0:=b0) (inp:=inp) (ow:=zdx w0 w1) (len:=es.length) (i':=i) (hr i j h hj') (how.imp (fun h=>⟨h.1,h.2.1⟩) id) (.inl ⟨rfl,rfl⟩) hsame hb0
   simp only[if_pos h,h1];exact this
  ·have hi':i-es.length<fs.length:=by simp at hi;omega
   have h1:(es++fs)[i]=fs[i-es.length]:=List.getElem_append_right (by omega)
   have hj':j<(fs[i-es.length]).length:=by rw[←h1];exact hj
   have:=zmZ (w':=w') (N:=N) (b0:=b0) (inp:=inp) (ow:=zdx w0 w1) (len:=es.length) (i':=i) (hr' (i-es.length) j hi' hj') (how.imp (fun h=>⟨h.1,h.2.2⟩) id) (.inr ⟨by simp,by omega⟩) hsame hb0
   simp only[if_neg h,h1];exact this
end ops
end Go.PV
namespace Go.PV
open Go.RowKit
section ops
variable {X:Ctx}{W0:World}{G0:Orig}{S:St}{w w':World}{a:Act}{G:Ghost}{pl:zaP}{mv:Bool}{e:Rec}
 {dst:Option Tmp} {ty:TypeId} {pos:String} {af:Array Edge} {gd:Option (Nat×Bool)}
theorem zd5(b:Builtin)(args:Array Operand)(ts:Array TypeId):S.vals ⟨dst, .call ⟨.builtin b,args,ts⟩,ty,pos,af,gd⟩=args.toList.map S.ev:=by
 simp[St.vals,Op.operands,Call.operands]
theorem zjx{args:Array Operand}{x y:AV}(h:args.toList.map S.ev=[x,y]):∃o1 o2,args= #[o1,o2]∧S.ev o1=x∧S.ev o2=y:=by
 obtain ⟨l⟩:=args
 match l,h with
 | [o1,o2],h=>simp only[List.map_cons,List.map_nil,List.cons.injEq,and_true]at h;exact ⟨o1,o2,rfl,h.1,h.2⟩
theorem zrN{args:Array Operand}{x:AV}(h:args.toList.map S.ev=[x]):∃o1,args= #[o1]∧S.ev o1=x:=by
 obtain ⟨l⟩:=args
 match l,h with
 | [o1],h=>simp only[List.map_cons,List.map_nil,List.cons.injEq,and_true]at h;exact ⟨o1,rfl,h⟩
theorem ts_two{ts:Array TypeId}(h:ts.size=2):ts= #[ts.getD 0 0,ts.getD 1 0]:=by
 obtain ⟨l⟩:=ts
 match l,h with
 | [x,y],_=>rfl
theorem zkE{P:Program}{na:Nat}{F:Foot}{ts:Array TypeId}{x y:A1}{d:Tmp}(h:zgh P na F mv ts x y d some=some e):
 ∃elem ei z es w0 A fs w1 A',elemB P (ts.getD 0 0)=some elem∧P.info? elem=some ei∧zeroB P elem=some z∧zec {o:=F} x=some (es,w0,A)∧zhc true x y=true∧
  zgg P A mv elem (ts.getD 1 0) y=some (fs,w1,A')∧zak ei.size es=true∧zak ei.size fs=true∧zap (bears P elem) fs=true∧ts.size=2∧z.length=ei.size∧0<ei.size∧
  (es.length+fs.length)*(ei.bytes+1)≤2^46∧
  e={val:= .one (.r (na+d) [] 0)
     ups:=A'.ups++[(na+d,some ⟨.virt,[.s (es++fs)],[zdx w0 w1]⟩)]
     kl:=A'.kl++[(na+d,2)]}:=by
 unfold zgh at h;split at h
 ·simp at h
 rename_i elem hel;split at h
 case h_2=>simp at h
 rename_i ei z hei hz;split at h
 ·simp at h
 rename_i es w0 A hb;split at h
 ·simp at h
 rename_i fs w1 A' had;rw[zbW]at h;obtain ⟨hc,rfl⟩:=h;simp only[Bool.and_eq_true,decide_eq_true_eq]at hc;obtain ⟨⟨⟨⟨h1,h2⟩,h3⟩,h4,h5,h6⟩,h7⟩:=hc;by_cases hap:zhc true x y=true
 case neg=>rw[if_neg hap]at had;simp at had
 rw[if_pos hap]at had;exact ⟨elem,ei,z,es,w0,A,fs,w1,A',hel,hei,hz,hb,hap,had,h1,h2,h3,h4,h5,h6,h7,rfl⟩
theorem zoy(I:Inv W0 G0 S w a.tmps G pl)(hd:∀d,dst=some d→d<S.t.length)(args:Array Operand)(ts:Array TypeId)
 (h:S.opK X mv ⟨dst, .call ⟨.builtin .append,args,ts⟩,ty,pos,af,gd⟩ some=some e):
 OpOk X.P W0 G0 S w a ⟨dst, .call ⟨.builtin .append,args,ts⟩,ty,pos,af,gd⟩ e:=by
 simp only[St.opK,zd5]at h;generalize hvs:args.toList.map S.ev=vs at h;simp only[effK]at h;split at h
 case h_1=>injections
 case h_3=>injections
 case h_4=>injections
 case h_5=>injections
 case h_6=>simp at h
 case h_2=>
  rename_i x y _;obtain ⟨o1,o2,rfl,hx0,hy0⟩:=zjx hvs;split at h
  case h_2=>simp at h
  rename_i d;obtain ⟨elem,ei,z,es,w0,A,fs,w1,A',hel,hei,hz,hb,hap,had,hr1,hr2,hr3,hts,hzl,hpos,hbig,rfl⟩:=zkE h;have hx:=I.ev o1;have hy:=I.ev o2;rw[hx0]at hx;rw[hy0]at hy;have hx:V1 w G S.obj pl (a.eval o1) x:=hx;have hy:V1 w G S.obj pl (a.eval o2) y:=hy
  have hyp:∀ok n p c,y≠ .p ok n p c:=by
   rintro ok n p c rfl
   unfold zgg at had;split at had<;>simp_all
  have hyb:∀cs c,y≠ .bx cs c:=by
   rintro cs c rfl
   unfold zgg at had;split at had<;>simp_all
  obtain ⟨hw0,G1,obs1,hO1,m1,hrel1,hy1,hL1⟩:=zjv I [.one x, .one y] hx hy hyp hyb hb hap;obtain ⟨G2,obs2,news,hO2,m2,hlim2,hL2,hsrc,hnew⟩:=zjw hO1 m1.coh m1.ups m1.kl hL1 hy1 had hr2 hr3 hpos;have m:=m1.trans m2;obtain ⟨i',v,hi1,hi2,hi3⟩:=zdM hz;have hii:i'=ei:=by rw[hi1]at hei;exact Option.some.inj hei
  subst hii;have hsl:=zgm hel
  have hrel2:Rel w (QCell G2 (lim S) 0 w0) (a.eval o1) (.s es):=
   hrel1.mono (QCell.mono (lim S) 0 w0 m2.gnone (fun b π hb=>hlim2 b 0 π (by simp) hb))
  have hown2:∀b y,G2 b=some y→b<w.heap.size∧OwnAt w b y:=fun b y hy=>by
   obtain ⟨z,hz,hp⟩:=m.gdom b y hy;exact ⟨(I.own b z hz).lt,(I.own b z hz).moved hp rfl⟩
  have hpar:∀inp π ρ,fApp inp (zdx w0 w1) es.length π=some ρ→Plain ρ→Plain π:=fun inp π ρ hπ hp=>by
   unfold fApp at hπ;split at hπ
   ·simp at hπ
   ·right;rfl
   ·split at hπ
    ·split at hπ
     all_goals
      obtain rfl:=Option.some.inj hπ;unfold Plain at hp⊢;simpa using hp
    ·simp at hπ
  -- what comes in at the end
  have fin:∀(w':World) (b0:Option Nat) (inp:Bool) (vv:Value),(Builtin.append_ ts ty #[a.eval o1,a.eval o2]).run X.P w= .ok vv w'→
   (∀b,b<w.heap.size→G2 b≠some (lim S,[0])→w'.heap[b]? =w.heap[b]?)→(∀b,b<w.heap.size→b0≠some b)→
   (∀b y,gNew G2 (S.na+d) (lim S) b0 [0] (fApp inp (zdx w0 w1) es.length) b=some y→y.1=S.na+d→OwnAt w' b y)→
   w'.os=w.os→w'.output=w.output→w'.tape=w.tape→w.heap.size≤w'.heap.size→
   Rel w' (QCell (gNew G2 (S.na+d) (lim S) b0 [0] (fApp inp (zdx w0 w1) es.length)) (S.na+d) 0 (zdx w0 w1)) vv (.s (es++fs))→
   OpOk X.P W0 G0 S w a ⟨some d, .call ⟨.builtin .append, #[o1,o2],ts⟩,ty,pos,af,gd⟩
    {val:= .one (.r (S.na+d) [] 0),ups:=A'.ups++[(S.na+d,some ⟨.virt,[.s (es++fs)],[zdx w0 w1]⟩)],kl:=A'.kl++[(S.na+d,2)]}:=by
   intro w' b0 inp vv hrun hsame hb0 hown hos hout htape hsz hrel
   have hrun':(execOp a.eval ⟨some d, .call ⟨.builtin .append, #[o1,o2],ts⟩,ty,pos,af,gd⟩).run X.P w= .ok (.value vv) w':=by
    rw[zez,show Array.map a.eval #[o1,o2]= #[a.eval o1,a.eval o2] from by simp]
    show Sem.run X.P (bind (Builtin.append_ ts ty #[a.eval o1,a.eval o2]) fun z=>pure (Next.value z)) w=_
    rw[run_bind hrun];rfl
   refine .of_value hrun' (Inv.install I (hd d rfl) m hO2 _ ⟨none,fun _=>vv⟩ vv _ (fun b hb hne=>hsame b hb (fun h=>hne [0] h)) (fun b hb h=>zej (hb0 b hb) h)
    (fun b n π h h1 h2=>zkw (hb0 b (hown2 b _ h).1) h h1 h2) (fun b x h=>zmT h) hown (fun _=> ?_) hos hout htape hsz (fun obs' pl' ho hp=> ?_))
   ·refine {bld:= .not rfl,fl:=rfl,rel:=fun c hc=> ?_,box:=fun h=>by simp at h}
    have hc0:c=0:=by simpa using hc
    subst hc0;exact hrel
   ·exact ⟨_,{at0:=ho,kind:=by simp,path:=trivial,lt:=by simp[zaj],sl:=⟨_,rfl⟩,head:=by simp[zb2,hp]}⟩
  -- the two ways
  have hts':ts= #[ts.getD 0 0,ts.getD 1 0]:=ts_two hts;generalize ts.getD 0 0=t0 at hts' hsl hel had;generalize ts.getD 1 0=t1 at hts' hsrc had;subst hts';have hgo:∀b,b<w.heap.size→(none:Option Nat)≠some b:=fun b _=>by simp
  have hown0:∀inp b y,gNew G2 (S.na+d) (lim S) none [0] (fApp inp (zdx w0 w1) es.length) b=some y→b<w.heap.size∧OwnAt w b y:=fun inp b y h=>by
   rcases zhq (hpar inp) h with h|⟨y',hy',hp⟩
   ·simp at h
   ·exact ⟨(hown2 b y' hy').1,(hown2 b y' hy').2.moved hp rfl⟩
  have hblk0:∀b,QCell G2 (lim S) 0 w0 [] b→G2 b=some (lim S,[0]):=fun b h=>by
   revert h
   cases w0 with
   |deep=>exact id
   |top=>simp[QCell]
   |sh=>exact absurd rfl hw0
  have hblk1:∀b,QCell G2 (lim S) 0 w0 [0] b→G2 b≠some (lim S,[0]):=fun b h hG=>by
   revert h
   cases w0 with
   |deep=>simp[QCell,hG]
   |top=>simp[QCell,hG]
   |sh=>exact absurd rfl hw0
  by_cases hf0:fs=[]
  · -- nothing is added
    subst hf0;have hn0:news=[]:=List.length_eq_zero_iff.1 (by rw[hsrc.newsLen];simp)
    subst hn0;rcases hrel2.slice with ⟨rfl,ad,hv⟩|⟨ad,cap,sz',uf,hv,⟨hle,h0⟩,hsp,hb,hq,hcc,hz',hu,hr⟩
    ·rw[hv]at fin
     exact fin w none true _ (run_append_nothing w t0 t1 ty elem i' hsl hei ad 0 0 (Nat.le_refl _) _ hsrc) (fun _ _ _=>rfl) hgo (fun b y h _=>(hown0 _ b y h).2) rfl rfl rfl (Nat.le_refl _) (.e _ _)
    ·rw[hv]at fin
     refine fin w none true _ (run_append_nothing w t0 t1 ty elem i' hsl hei _ _ _ hle _ hsrc) (fun _ _ _=>rfl) hgo (fun b y h _=>(hown0 _ b y h).2) rfl rfl rfl (Nat.le_refl _) ?_
     have hcap:es=[]→cap=0:=fun he=>(h0 he).elim id (fun h=>absurd (hblk0 _ hq) (hblk1 _ h))
     have:=zl0 (w':=w) (N:=S.na+d) (inp:=true) (b0:=none) (w0:=w0) (w1:=w1) (es:=es) (fs:=[]) (u:=uf) (news:=[]) (sz:=sz') (cap:=cap) (ad:=ad) (by simpa using hle) (fun he=>hcap (by simpa using he)) hsp hb
      (by rw[zd3 (by simp) (hblk0 _ hq)];rfl) hcc (by simp only[zak,List.all_eq_true,beq_iff_eq];intro r hr;obtain ⟨k,hk,rfl⟩:=List.getElem_of_mem hr;exact hz' k hk) (by simp[zak]) hu
      (fun i j hi=>absurd hi (by simp)) hr (fun i j hi=>absurd hi (by simp)) (fun _ _ _=>rfl) hgo
     simpa using this
  · -- something is
    have hfl:0<fs.length:=List.length_pos_iff.2 hf0;have hb46:(es.length+fs.length)*i'.bytes≤2^46:=Nat.le_trans (Nat.mul_le_mul_left _ (by omega)) hbig
    have hl46:es.length+fs.length≤2^46:=by
     have:(es.length+fs.length)*1≤(es.length+fs.length)*(i'.bytes+1):=Nat.mul_le_mul_left _ (by omega)
     omega
    -- the row grows
    have grow:∀(base:Option Addr) (cap:Nat) (olds:List Value) (uf:Nat→Nat→Value),a.eval o1= .slice base es.length cap→cap<es.length+fs.length→
     (Builtin.firstCells i'.size es.length (.slice base es.length cap)).run X.P w.drew= .ok olds.toArray w.drew→olds.length=es.length*i'.size→
     (∀i j,i<es.length→j<i'.size→olds.getD (i*i'.size+j) undef=uf i j)→
     (∀i j (hi:i<es.length) (hj:j<(es[i]).length),Rel w (fun π b=>QCell G2 (lim S) 0 w0 (i::j::π) b) (uf i j) ((es[i])[j]))→
     OpOk X.P W0 G0 S w a ⟨some d, .call ⟨.builtin .append, #[o1,o2], #[t0,t1]⟩,ty,pos,af,gd⟩
      {val:= .one (.r (S.na+d) [] 0),ups:=A'.ups++[(S.na+d,some ⟨.virt,[.s (es++fs)],[zdx w0 w1]⟩)],kl:=A'.kl++[(S.na+d,2)]}:=by
     intro base cap olds uf hv hg hfc hol huf hr;have hrun:=run_append_grow_src w t0 t1 ty elem i' v hsl hi1 hi2 base es.length cap olds hfc _ fs.length news hsrc hg (by omega) (growslice_fits hg (by omega))
     have hge:=grownCap_ge w (es.length+fs.length) cap elem;rw[←hv]at hrun;generalize hgc:grownCap w (es.length+fs.length) cap elem=gc at hrun hge;generalize hcs:(olds++news).toArray++Builtin.zeroCells v.cells (gc-(es.length+fs.length))=cs at hrun
     have hcsz:cs.size=gc*i'.size:=by
      rw[←hcs];have hvs:v.cells.size=i'.size:=by rw[←hzl,←hi3];simp
      simp only[Array.size_append,List.size_toArray,List.length_append,size_zeroCells,hvs,hol,hsrc.newsLen,←Nat.add_mul];congr 1
      omega
     have hcg:∀k,k<(olds++news).length→cs.getD k undef=(olds++news).getD k undef:=fun k hk=>by
      rw[←hcs]
      have:k<((olds++news).toArray++Builtin.zeroCells v.cells (gc-(es.length+fs.length))).size:=by
       simp only[Array.size_append,List.size_toArray];omega
      rw[Array.getD_eq_getD_getElem?,Array.getElem?_append_left (by simpa using hk)]
      simp[List.getD]
     have hheap:∀b,b<w.heap.size→(w.drew.alloc (.cells cs elem)).heap[b]? =w.heap[b]? :=fun b hb=>zbZ w.drew _ hb
     have hnewb:(w.drew.alloc (.cells cs elem)).heap[w.heap.size]? =some (.cells cs elem (0,0)):=zcJ w.drew _
     have hcell:∀k,k<cs.size→(w.drew.alloc (.cells cs elem)).cell? ⟨w.heap.size,0+k,none⟩=some (cs.getD k undef):=fun k hk=>by
      simp only[World.cell?,hnewb,Nat.zero_add];simp[hk]
     have hlen2:(olds++news).length=(es.length+fs.length)*i'.size:=by rw[List.length_append,hol,hsrc.newsLen,Nat.add_mul]
     have hsz1:(w.drew.alloc (.cells cs elem)).heap.size=w.heap.size+1:=zeA w.drew _;have h3:(es.length+fs.length)*i'.size=es.length*i'.size+fs.length*i'.size:=Nat.add_mul _ _ _;have hle2:(es.length+fs.length)*i'.size≤gc*i'.size:=Nat.mul_le_mul_right _ hge;refine fin _ (some w.heap.size) false _ hrun (fun b hb _=>hheap b hb) (fun b hb h=>by simp only[Option.some.injEq]at h;omega) (fun b y h _=> ?_) rfl rfl rfl (by omega) ?_
     ·rcases zhq (hpar false) h with h|⟨y',hy',hp⟩
      ·simp only[Option.some.injEq]at h
       subst h;exact .of ⟨cs,elem,hnewb⟩
      ·obtain ⟨h1,h2⟩:=hown2 b y' hy'
       exact h2.moved hp (hheap b h1)
     ·have:=zl0 (w:=w) (w':=w.drew.alloc (.cells cs elem)) (G2:=G2) (L:=lim S) (N:=S.na+d) (inp:=false) (b0:=some w.heap.size) (w0:=w0) (w1:=w1) (es:=es) (fs:=fs) (u:=uf) (news:=news) (sz:=i'.size) (cap:=gc) (ad:=⟨w.heap.size,0,none⟩)
       hge (fun he=>absurd (List.append_eq_nil_iff.1 he).2 hf0) rfl (by show w.heap.size<_;omega) (zdS rfl) (fun k hk=>by rw[hcell k (by omega)];rfl) hr1 hr2
       (fun i j hi hj=>by
         have h1:=zfS hi hj;rw[hcell _ (by omega),hcg _ (by omega),←huf i j hi hj]
         simp[List.getD,List.getElem?_append_left (show i*i'.size+j<olds.length by omega)])
       (fun i j hi hj=>by
         have h1:=zfS hi hj;have h2:(es.length+i)*i'.size+j=es.length*i'.size+(i*i'.size+j):=by rw[Nat.add_mul];omega
         rw[h2,hcell _ (by omega),hcg _ (by omega)]
         simp only[List.getD];rw[List.getElem?_append_right (by omega)]
         congr 3
         omega)
       hr hnew (fun b hb _=>hheap b hb) (fun b hb h=>by simp only[Option.some.injEq]at h;omega)
      simpa using this
    rcases hrel2.slice with ⟨rfl,ad,hv⟩|⟨ad,cap,sz',uf,hv,⟨hle,h0⟩,hsp,hb,hq,hcc,hz',hu,hr⟩
    ·refine grow ad 0 [] (fun _ _=>undef) hv (by simpa using hfl) ?_ (by simp) (fun i j hi=>absurd hi (by simp)) (fun i j hi=>absurd hi (by simp))
     cases ad with
     |none=>exact run_firstCells_none w.drew _ _ _ _
     |some ad=>exact run_firstCells_some w.drew _ _ ad _ _ [] (by simp) (by simp)
    ·have hcap:es=[]→cap=0:=fun he=>(h0 he).elim id (fun h=>absurd (hblk0 _ hq) (hblk1 _ h))
     by_cases hroom:es.length+fs.length≤cap
     · -- in place
       have hne:es≠[]:=fun he=>by have:=hcap he;omega
       have hsz:sz'=i'.size:=by
        have hp:0<es.length:=List.length_pos_iff.2 hne;rw[←hz' 0 hp,zb3 hr1 0 hp]
       subst hsz;obtain ⟨b,off,sp⟩:=ad;simp only at hsp hb hq hcc hu h0;subst hsp;have hGb:G2 b=some (lim S,[0]):=hblk0 b hq;obtain ⟨hbl,hbo⟩:=hown2 b _ hGb;obtain ⟨cs,cty,hh⟩:=hbo.plain (.inr rfl)
       have hcellb:∀k,k<cap*i'.size→off+k<cs.size:=fun k hk=>by
        have:=hcc k hk;simp only[World.cell?,hh]at this;simpa using this
       have hle2:(es.length+fs.length)*i'.size≤cap*i'.size:=Nat.mul_le_mul_right _ hroom;have h3:(es.length+fs.length)*i'.size=es.length*i'.size+fs.length*i'.size:=Nat.add_mul _ _ _
       have hrun:=run_append_room_src w t0 t1 ty elem i' hsl hi1 b off es.length cap _ fs.length news hsrc hroom
        (fun j hj=>by rw[hsrc.newsLen]at hj;have:=hcc (es.length*i'.size+j) (by omega);rw[←Nat.add_assoc]at this;exact this) (fun j _=>by simp[World.frozen?,hh])
       rw[←hv,zcZ]at hrun;have FF:=zbP b cty news w (off+es.length*i'.size) cs hh;obtain ⟨cs',hh',hsz',hget⟩:=FF.here
       have hcell:∀k,k<cap*i'.size→(setCells w b (off+es.length*i'.size) news).cell? ⟨b,off+k,none⟩=cs'[off+k]? :=fun k _=>by
        simp only[World.cell?,hh'];simp
       refine fin _ none true _ hrun (fun b' hb' hne=>FF.other b' (fun h=>hne (h▸hGb))) hgo (fun b' y h _=> ?_) FF.os FF.output FF.tape (by rw[FF.size];exact Nat.le_refl _) ?_
       ·obtain ⟨h1,h2⟩:=hown0 _ b' y h
        by_cases hbb:b'=b
        ·subst hbb;exact .of ⟨_,_,hh'⟩
        ·exact h2.heap (FF.other b' hbb)
       ·have:=zl0 (w:=w) (w':=setCells w b (off+es.length*i'.size) news) (G2:=G2) (L:=lim S) (N:=S.na+d) (inp:=true) (b0:=none) (w0:=w0) (w1:=w1) (es:=es) (fs:=fs) (u:=uf) (news:=news) (sz:=i'.size) (cap:=cap) (ad:=⟨b,off,none⟩)
         hroom (fun he=>absurd (List.append_eq_nil_iff.1 he).2 hf0) rfl (by show b<_;rw[FF.size];exact hb) (by rw[zd3 (by simp) hGb];rfl)
         (fun k hk=>by
           show ((setCells w b (off+es.length*i'.size) news).cell? ⟨b,off+k,none⟩).isSome;rw[hcell k hk];have:=hcellb k hk;simp[hsz',this]) hr1 hr2
         (fun i j hi hj=>by
           have h1:=zfS hi hj;show (setCells w b (off+es.length*i'.size) news).cell? ⟨b,off+(i*i'.size+j),none⟩=_;rw[hcell _ (by omega),hget,if_neg (by omega)]
           have:=hu i j hi hj;simp only[World.cell?,hh]at this;simpa using this)
         (fun i j hi hj=>by
           have h1:=zfS hi hj;have h2:(es.length+i)*i'.size+j=es.length*i'.size+(i*i'.size+j):=by rw[Nat.add_mul];omega
           show (setCells w b (off+es.length*i'.size) news).cell? ⟨b,off+((es.length+i)*i'.size+j),none⟩=_;have h4:=hcellb (es.length*i'.size+(i*i'.size+j)) (by omega)
           have h5:=hsrc.newsLen;rw[h2,hcell _ (by omega),hget,if_pos (by omega),if_pos (by omega)]
           have h6:off+(es.length*i'.size+(i*i'.size+j))-(off+es.length*i'.size)=i*i'.size+j:=by omega
           rw[h6];simp[List.getD,h5,h1])
         hr hnew (fun b' _ hne=>FF.other b' (fun h=>hne (h▸hGb))) hgo
        simpa using this
     · -- a new row
       refine grow (some ad) cap ((List.range (es.length*i'.size)).map fun k=>uf (k/i'.size) (k%i'.size)) uf hv (by omega) ?_ (by simp) (fun i j hi hj=> ?_) hr
       ·refine run_firstCells_some w.drew _ _ ad _ _ _ (by simp) (fun k v hk=> ?_)
        rw[List.getElem?_eq_some_iff]at hk;obtain ⟨hk,rfl⟩:=hk;simp only[List.length_map,List.length_range]at hk;simp only[List.getElem_map,List.getElem_range];have h1:k/i'.size<es.length:=Nat.div_lt_of_lt_mul (by rw[Nat.mul_comm];exact hk)
        have h2:k%i'.size<i'.size:=Nat.mod_lt _ hpos;have h3:i'.size=sz':=by rw[←zb3 hr1 _ h1,hz' _ h1]
        have:=hu (k/i'.size) (k%i'.size) h1 (h3▸h2);rw[←h3]at this;rw[Nat.mul_comm,Nat.div_add_mod]at this;rw[ze5 ad hsp];exact this
       ·have:=zfS hi hj
        have hd:=zlZ (i:=i) hj;simp[List.getD,this,hd]
theorem ok_len(I:Inv W0 G0 S w a.tmps G pl)(args:Array Operand)(ts:Array TypeId)
 (h:S.opK X mv ⟨dst, .call ⟨.builtin .len,args,ts⟩,ty,pos,af,gd⟩ some=some e):
 OpOk X.P W0 G0 S w a ⟨dst, .call ⟨.builtin .len,args,ts⟩,ty,pos,af,gd⟩ e:=by
 simp only[St.opK,zd5]at h;generalize hvs:args.toList.map S.ev=vs at h;simp only[effK]at h;split at h
 case h_2=>injections
 case h_3=>injections
 case h_4=>injections
 case h_5=>injections
 case h_6=>simp at h
 case h_1=>
  rename_i x _;obtain ⟨o1,rfl,hx0⟩:=zrN hvs;have hx:=I.ev o1;rw[hx0]at hx;have hx:V1 w G S.obj pl (a.eval o1) x:=hx;split at h
  case h_2=>simp at h
  rename_i n hn;simp only[Option.some.injEq]at h;subst h;split at hn
  case isFalse=>simp at hn
  rename_i hts;have hn:lenOf X.P (S.foot [AV.one x]) (ts.getD 0 0) x=some n:=by unfold Array.getD;rw[dif_pos hts];exact hn
  refine .of_pure I (v:= .int .i64 n) ?_ rfl;rw[zez,show Array.map a.eval #[o1]= #[a.eval o1] from by simp]
  show Sem.run X.P (bind (Builtin.len_ ts ty #[a.eval o1]) fun z=>pure (Next.value z)) w=_
  rw[run_bind (zlT (fun n ob=>zcs S _ n ob) I hx hts hn)];rfl
theorem ok_min(I:Inv W0 G0 S w a.tmps G pl)(args:Array Operand)(ts:Array TypeId)
 (h:S.opK X mv ⟨dst, .call ⟨.builtin .min,args,ts⟩,ty,pos,af,gd⟩ some=some e):
 OpOk X.P W0 G0 S w a ⟨dst, .call ⟨.builtin .min,args,ts⟩,ty,pos,af,gd⟩ e:=by
 simp only[St.opK,zd5]at h;generalize hvs:args.toList.map S.ev=vs at h;simp only[effK]at h;split at h
 case h_1=>injections
 case h_2=>injections
 case h_4=>injections
 case h_5=>injections
 case h_6=>simp at h
 case h_3=>
  rename_i i x j y _;obtain ⟨o1,o2,rfl,hx0,hy0⟩:=zjx hvs;have hx:=I.ev o1;have hy:=I.ev o2;rw[hx0]at hx;rw[hy0]at hy;have hx:a.eval o1= .int i x:=hx;have hy:a.eval o2= .int j y:=hy;split at h
  case isFalse=>simp at h
  simp only[Option.some.injEq]at h;subst h;refine .of_pure I (v:= .int i (if x≤y then x else y)) ?_ rfl
  rw[zez,show Array.map a.eval #[o1,o2]= #[a.eval o1,a.eval o2] from by simp]
  show Sem.run X.P (bind (Builtin.min_ ts ty #[a.eval o1,a.eval o2]) fun z=>pure (Next.value z)) w=_
  rw[hx,hy];have:(if y<x then y else x)=if x≤y then x else y:=by split<;>split<;>omega
  rw[←this];rfl
theorem ok_max(I:Inv W0 G0 S w a.tmps G pl)(args:Array Operand)(ts:Array TypeId)
 (h:S.opK X mv ⟨dst, .call ⟨.builtin .max,args,ts⟩,ty,pos,af,gd⟩ some=some e):
 OpOk X.P W0 G0 S w a ⟨dst, .call ⟨.builtin .max,args,ts⟩,ty,pos,af,gd⟩ e:=by
 simp only[St.opK,zd5]at h;generalize hvs:args.toList.map S.ev=vs at h;simp only[effK]at h;split at h
 case h_1=>injections
 case h_2=>injections
 case h_3=>injections
 case h_5=>injections
 case h_6=>simp at h
 case h_4=>
  rename_i i x j y _;obtain ⟨o1,o2,rfl,hx0,hy0⟩:=zjx hvs;have hx:=I.ev o1;have hy:=I.ev o2;rw[hx0]at hx;rw[hy0]at hy;have hx:a.eval o1= .int i x:=hx;have hy:a.eval o2= .int j y:=hy;split at h
  case isFalse=>simp at h
  simp only[Option.some.injEq]at h;subst h;refine .of_pure I (v:= .int i (if x≤y then y else x)) ?_ rfl
  rw[zez,show Array.map a.eval #[o1,o2]= #[a.eval o1,a.eval o2] from by simp]
  show Sem.run X.P (bind (Builtin.max_ ts ty #[a.eval o1,a.eval o2]) fun z=>pure (Next.value z)) w=_
  rw[hx,hy];have:(if y>x then y else x)=if x≤y then y else x:=by split<;>split<;>omega
  rw[←this];rfl
end ops
end Go.PV
namespace Go.PV
open Go.RowKit
theorem znA{w:World}{G:Ghost}{obs:Obs}{pl:zaP}(hI:zcx w G obs pl){F:Foot}(hF:∀n ob,fget F n=some ob→obs n=some ob){u:Value}{b:A1}{es:List (List D)}(hv:V1 w G obs pl u b)(h:zog F b=some es):
 ∃Q,Rel w Q u (.s es):=by
 unfold zog at h;split at h
 ·simp only[Option.some.injEq]at h
  subst h;have hv:u= .slice none 0 0:=hv;subst hv;exact ⟨QSh G, .e _ _⟩
 ·simp only[Option.some.injEq]at h
  subst h;exact ⟨QSh G,hv⟩
 ·rename_i n p c
  split at h
  case h_2=>simp at h
  rename_i ob hf;obtain ⟨ob1,es1,h1,h2,h3⟩:=zdz hI hv;have:=hF n ob hf;rw[h1]at this;obtain rfl:=Option.some.inj this;simp only[Option.some.injEq]at h;rw[h2]at h;subst h;exact ⟨_,h3⟩
 ·simp at h
theorem zoz{P:Program}{w:World}{Q:QP}{u:Value}{es:List (List D)}(hr:Rel w Q u (.s es))(hb:zhe es=true):
 ∃ad cap,u= .slice ad es.length cap∧(Conv.bytesToString u).run P w= .ok (.string (strOf es)) w:=by
 have hrow:∀i (h:i<es.length),∃n,es[i]=[.v (.int .u8 n)]:=fun i h=>by
  have:=List.all_eq_true.1 hb es[i] (List.getElem_mem h);split at this
  ·rename_i n he;exact ⟨n,he⟩
  ·simp at this
 rcases hr.slice with ⟨rfl,a,rfl⟩|⟨ad,cap,sz,uf,rfl,_,hsp,_,_,_,hz,hu,hrel⟩
 ·refine ⟨a,0,rfl, ?_⟩
  cases a with
  |none=>rfl
  |some ad=>exact run_bytesToString w ad 0 0 [] (by simp[loadCells,loadCellsFrom,go_sem])
 ·refine ⟨some ad,cap,rfl, ?_⟩
  obtain ⟨b,off,sp⟩:=ad;have hsp:sp=none:=hsp;subst hsp;refine run_bytesToString w _ es.length cap (es.map fun r=>(r.getD 0 .h).int) ?_
  rw[zfO P w b off es.length (fun i=>uf i 0) (fun i hi=> ?_)]
  ·congr 2
   apply List.ext_getElem (by simp)
   intro i h1 h2;simp only[List.getElem_map,List.getElem_range];have hi:i<es.length:=by simpa using h1
   obtain ⟨n,hn⟩:=hrow i hi;have h0:0<(es[i]).length:=by rw[hn];simp
   have:=hrel i 0 hi h0;have hg:(es[i])[0]= .v (.int .u8 n):=by simp only[hn,List.getElem_cons_zero]
   rw[hg]at this;rw[this.val,hn];rfl
  ·obtain ⟨n,hn⟩:=hrow i hi
   have h1:=hz i hi;rw[hn]at h1;have h1:sz=1:=by simpa using h1.symm
   have:=hu i 0 hi (by omega)
   rw[h1,Nat.mul_one,Nat.add_zero]at this;exact this
section conv
variable {X:Ctx}{W0:World}{G0:Orig}{S:St}{w:World}{a:Act}{G:Ghost}{pl:zaP}{mv:Bool}{dst:Option Tmp}{ty:TypeId}{pos:String}{af:Array Edge}{gd:Option (Nat×Bool)}{e:Rec}
theorem znB(I:Inv W0 G0 S w a.tmps G pl)(s t:TypeId)(x:Operand)(h:S.opK X mv ⟨dst, .convert s t x,ty,pos,af,gd⟩ some=some e):
 OpOk X.P W0 G0 S w a ⟨dst, .convert s t x,ty,pos,af,gd⟩ e:=by
 simp only[St.opK,St.vals,Op.operands,List.map_cons,List.map_nil,effK]at h;have hx:=I.ev x;split at h
 ·rename_i i j k n h1 h2 hs
  rw[hs]at hx;have hx:a.eval x= .int k n:=hx;simp only[Option.some.injEq]at h;subst h;refine .of_pure I (v:= .int j (j.wrap n)) ?_ rfl;show Sem.run X.P (bind (convert s t (a.eval x)) fun z=>pure (Next.value z)) w=_
  rw[hx];simp[go_sem,convert,underlying,h1,h2,Conv.intToInt]
 ·rename_i b h1 h2 hs
  rw[hs]at hx;have hx:a.eval x= .string b:=hx;simp only[Option.some.injEq]at h;subst h;refine .of_pure I (v:= .string b) ?_ rfl;show Sem.run X.P (bind (convert s t (a.eval x)) fun z=>pure (Next.value z)) w=_
  rw[hx];simp[go_sem,convert,underlying,h1,h2]
 ·rename_i el b h1 h2 hs
  rw[hs]at hx;have hx:V1 w G S.obj pl (a.eval x) b:=hx;unfold strK at h;split at h
  case h_2=>simp at h
  rename_i he;split at h
  case h_2=>simp at h
  rename_i es hes;cases hb:zhe es with
  |false=>rw[hb]at h;simp at h
  |true=>
   rw[hb]at h;simp only[cond_true,Option.some.injEq]at h;subst h;obtain ⟨Q,hr⟩:=znA I.objs (zd2 S _) hx hes;obtain ⟨ad,cap,hax,hrun⟩:=zoz (P:=X.P) hr hb;refine .of_pure I (v:= .string (strOf es)) ?_ rfl;show Sem.run X.P (bind (convert s t (a.eval x)) fun z=>pure (Next.value z)) w=_
   have:=run_convert_bytes_string (P:=X.P) w s t el ad es.length cap h1 he h2;rw[hax]at hrun⊢;rw[run_bind (this.trans hrun)];rfl
 ·simp at h
end conv
end Go.PV
namespace Go.PV
open Go.RowKit
def obOf(objs:List Obj):Obs:=fun n=>objs[n]?
structure Entry (gl:List (Nat×List D)) (w:World) (G:Ghost) (objs:List Obj) (pl:zaP) (args:Array Value) (as:List AV):Prop where
 size:args.size=as.length
 vals:∀i (h:i<as.length),VAV w G (obOf objs) pl (args.getD i undef) (as[i])
 okObjs:zcx w G (obOf objs) pl
 own:∀b x,G b=some x→OwnAt w b x
 nolim:∀b x,G b=some x→x.1<objs.length∨x.1=FR
 glob:GlOk gl w G
def TCOk(G0:Orig)(w:World)(G:Ghost)(obs:Obs)(pl:zaP)(N i:Nat)(u:Value):TC→Prop
 | .v x=>u=x
 | .s es=>Rel w (QSh G) u (.s es)
 | .o wn es=>Rel w (QCell G N i wn) u (.s es)
 | .p ok j p c=>if ok then∃ad ob,RefP w G obs pl j p ad ob∧(ob.kind= .ro→G0.obs j=some ob∧pl j=G0.pl j)∧u= .pointer (some ⟨ad.block,ad.off+c,none⟩)else u= .pointer none
 | .d=>True
def tupAt:List (Bool×List R1)→List Value→(Nat→Value)→Prop
 | [],[],_=>True
 |(b,rs)::cs,v::vs,us=>(if b then∃ar:Array Value,v= .agg ar∧ar.size=rs.length∧∀j,j<rs.length→ar.getD j undef=us j else rs.length=1∧v=us 0)∧
  tupAt cs vs (fun j=>us (rs.length+j))
 |_,_,_=>False
def ResAt:RS→Value→(Nat→Value)→Prop
 | .none,v,_=>v= .tuple #[]
 | .one _,v,us=>v=us 0
 | .agg rs,v,us=>∃ar:Array Value,v= .agg ar∧ar.size=rs.length∧∀j,j<rs.length→ar.getD j undef=us j
 | .tup cs,v,us=>∃ar:Array Value,v= .tuple ar∧tupAt cs ar.toList us
 | .fresh _,_,_=>False
def FI:Nat:=1000000
def Fresh(w:World)(G:Ghost)(N:Nat):RS→Value→(Nat→Value)→List TC→Prop
 | .fresh fs,v,us,cells=>
  if (cells.getD fs.length .d).bool then∃b off cs ty,v= .pointer (some ⟨b,off,none⟩)∧us FI=v∧G b=some (N,[])∧w.heap[b]? =some (.cells cs ty (0,0))∧off+fs.length≤cs.size∧
   ∀c,c<fs.length→cs[off+c]? =some (us c)
  else v= .pointer none
 |_,_,_,_=>False
structure Left (w0:World) (G0:Orig) (objs:List Obj) (rs:RS) (w:World) (v:Value) (rv:Res) (G:Ghost) (pl:zaP):Prop where
 os:w.os=w0.os
 output:w.output=w0.output
 tape:w.tape=w0.tape
 hsize:w0.heap.size≤w.heap.size
 base:∀b,b<w0.heap.size→G0.g b=none→w.heap[b]? =w0.heap[b]?∧G b=none
 fr:∀b π,b<w0.heap.size→G0.g b=some (FR,π)→w.heap[b]? =w0.heap[b]?∧G b=G0.g b
 out:∀n b off ob,n<objs.length→rv.objs[n]? =some ob→G b=some (n,[])→(pl n).base=some ⟨b,off,none⟩→∀k,k<off∨off+ob.row.length≤k→w.cell? ⟨b,k,none⟩=w0.cell? ⟨b,k,none⟩
 own:∀b x,G b=some x→OwnAt w b x
 dom:∀b x,G b=some x→x.1≤objs.length∨x.1=FR
 okObjs:zcx w G (obOf rv.objs) pl
 olen:rv.objs.length=objs.length
 start:∀n ob,n<objs.length→rv.objs[n]? =some ob→ob.kind≠ .ro→∃ob0,objs[n]? =some ob0∧ob0.kind=ob.kind∧ob0.row.length=ob.row.length∧(pl n).base=(G0.pl n).base∧(ob.kind≠ .box→ob.kind.isBld=false→pl n=G0.pl n)
 res:∃us,(ResAt rs v us∨Fresh w G objs.length rs v us rv.cells)∧∀i (h:i<rv.cells.length),TCOk G0 w G (obOf rv.objs) pl objs.length i (us i) (rv.cells[i])
def zfl(X:Ctx)(gl:List (Nat×List D)):Prop:=∀f as objs rv,X.call f as objs=some rv→
 (∃fn,X.P.funcs[f]? =some fn∧fn.body.isSome=true∧(fn.name== "runtime.NumGoroutine")=false)∧
 ∀w G pl args,Entry gl w G objs pl args as→Calls X.P f args w fun e w'=>∃v G' pl',e= .returned v∧PV.Left w ⟨G,obOf objs,pl,gl⟩ objs (X.sig f).res w' v rv G' pl'
theorem zl1:∀{cs:List Nat} {i j k:Nat},zdw cs i j=some k→i≤k∧cs[k-i]? =some j:=by
 intro cs
 induction cs with
 |nil=>intro i j k h;simp[zdw]at h
 |cons c cs ih=>
  intro i j k h;simp only[zdw]at h;split at h
  ·rename_i hc
   simp only[Option.some.injEq]at h;subst h hc;exact ⟨Nat.le_refl _,by simp⟩
  ·obtain ⟨h1,h2⟩:=ih h
   refine ⟨by omega, ?_⟩
   rw[show k-i=(k-(i+1))+1 from by omega,List.getElem?_cons_succ]
   exact h2
theorem zkF:∀{cs:List Nat} (_:ziI cs=true) (i k:Nat) (h:k<cs.length),zdw cs i (cs.getD k 0)=some (i+k):=by
 intro cs
 induction cs with
 |nil=>intro _ i k h;simp at h
 |cons c cs ih=>
  intro hn i k h;simp only[ziI,Bool.and_eq_true,Bool.not_eq_true',List.contains_eq_mem,decide_eq_false_iff_not]at hn;cases k with
  |zero=>simp[zdw]
  |succ k=>
   have hk:k<cs.length:=by simpa using h
   have hm:cs.getD k 0∈cs:=by rw[za2 _ _ _ hk];exact List.getElem_mem hk
   have hne:¬c=cs.getD k 0:=fun he=>hn.1 (he▸hm)
   rw[List.getD_cons_succ];simp only[zdw,hne,if_false];rw[ih hn.2 (i+1) k hk];congr 1;omega
theorem zfa(ids:List Nat)(r row:List D):(zdj ids r row).length=row.length:=by simp[zdj]
theorem zkG(ids:List Nat)(r row:List D)(j:Nat)(h:j<(zdj ids r row).length)(h2:j<row.length):
 (zdj ids r row)[j]=(match zdw ids 0 j with|some i=> .s (r.getD i .h).es|none=>row[j]):=by
 simp only[zdj,List.getElem_map,List.getElem_zipIdx,Nat.zero_add];rfl
theorem zm0(ids:List Nat)(row:List D):(hSet ids row).length=row.length:=by simp[hSet]
theorem zrO(ids:List Nat)(row:List D)(j:Nat)(h:j<(hSet ids row).length)(h2:j<row.length):
 (hSet ids row)[j]=(match zdw ids 0 j with|some _=> .h|none=>row[j]):=by
 simp only[hSet,List.getElem_map,List.getElem_zipIdx,Nat.zero_add];cases zdw ids 0 j<;>rfl
theorem zl2(ids:List Nat)(r row:List D)(c:Nat)(es:List (List D))(h:c<row.length)(he:row.getD c .h= .s es):∃es',(zdj ids r row).getD c .h= .s es':=by
 have h1:c<(zdj ids r row).length:=by rw[zfa];exact h
 rw[za2 _ _ _ h1,zkG ids r row c h1 h];cases zdw ids 0 c with
 |some i=>exact ⟨_,rfl⟩
 |none=>exact ⟨es,by rw[←he,za2 _ _ _ h]⟩
def Src.inn:Src→Nat×List Nat→Option (List Nat)
 | .box n,x=>if x.1=n then some x.2 else none
 | .row n p,x=>if x.1=n then (if x.2=(flat p).dropLast then some []else if flat p<+:x.2∧x.2≠flat p then some (x.2.drop (flat p).length)else none)else none
 | .sl n p c,x=>if x.1=n∧(flat p++[c])<+:x.2 then some (0::x.2.drop (flat p++[c]).length)else none
 | .mv n p c,x=>if x.1=n∧(flat p++[c])<+:x.2 then some (0::x.2.drop (flat p++[c]).length)else none
 | .grp n cs _,x=>if x.1=n then (match x.2 with|c::ρ=>(zdw cs 0 c).map (· ::ρ)| []=>none)else none
 |_,_=>none
def Src.outn:Src→List Nat→Option (Nat×List Nat)
 | .box n,ρ=>some (n,ρ)
 | .row n p,[]=>some (n,(flat p).dropLast)
 | .row n p,c::ρ=>some (n,flat p++c::ρ)
 | .sl n p c,0::ρ=>some (n,flat p++c::ρ)
 | .grp n cs false,i::ρ=>(cs[i]?).map fun c=>(n,c::ρ)
 |_,_=>none
def gInAt:List CO→Nat→Nat×List Nat→Option (Nat×List Nat)
 | [],_,_=>none
 |co::cs,i,x=>match co.src.inn x with
  |some ρ=>some (i,ρ)
  |none=>gInAt cs (i+1) x
def lent(bor bop:List Nat)(x:Nat×List Nat):Bool:=bor.contains x.1&&(!x.2.isEmpty||bop.contains x.1)
def gIn(E:Exp)(G:Ghost):Ghost:=fun b=>
 match G b with
 |none=>none
 |some x=>match gInAt E.cos 0 x with
  |some y=>some y
  |none=>if lent E.bor E.bop x then none else some (FR,[0,0])
theorem Src.inn_name{s:Src}{x:Nat×List Nat}{ρ:List Nat}(h:s.inn x=some ρ):s.mutName=[x.1]:=by
 cases s with
 |box n=>simp only[Src.inn]at h;split at h<;>simp_all [Src.mutName]
 |row n p=>simp only[Src.inn]at h;split at h<;>simp_all [Src.mutName]
 |sl n p c=>simp only[Src.inn]at h;split at h<;>simp_all [Src.mutName]
 |mv n p c=>simp only[Src.inn]at h;split at h<;>simp_all [Src.mutName]
 |grp n cs tk=>simp only[Src.inn]at h;split at h<;>simp_all [Src.mutName]
 |ro n p=>simp[Src.inn]at h
 |free=>simp[Src.inn]at h
theorem zhu:¬Plain [0,0]:=by unfold Plain;simp
theorem Src.inn_plain{s:Src}{x:Nat×List Nat}{ρ:List Nat}(h:s.inn x=some ρ)(hp:Plain ρ):Plain x.2:=by
 cases s with
 |box n=>simp only[Src.inn]at h;split at h;(obtain rfl:=Option.some.inj h;exact hp);simp at h
 |row n p=>
  simp only[Src.inn]at h;split at h
  ·split at h
   ·rename_i h1
    rw[h1];cases p with
    |nil=>exact .inl rfl
    |cons x p=>right;simp only[List.length_dropLast,zcW,List.length_cons];omega
   ·split at h
    ·rename_i h1
     obtain rfl:=Option.some.inj h;have hl:=h1.1.length_le;rcases hp with h2|h2
     ·have:=List.drop_eq_nil_iff.1 h2
      exact absurd (h1.1.eq_of_length_le this).symm h1.2
     ·right;rw[List.length_drop]at h2;rw[zcW]at h2 hl;omega
    ·simp at h
  ·simp at h
 |sl n p c=>
  simp only[Src.inn]at h;split at h
  ·rename_i h1
   obtain rfl:=Option.some.inj h;have hl:=h1.2.length_le;rcases hp with h2|h2
   ·simp at h2
   ·right;simp only[List.length_cons,List.length_drop,List.length_append,zcW,List.length_nil]at h2 hl;omega
  ·simp at h
 |mv n p c=>
  simp only[Src.inn]at h;split at h
  ·rename_i h1
   obtain rfl:=Option.some.inj h;have hl:=h1.2.length_le;rcases hp with h2|h2
   ·simp at h2
   ·right;simp only[List.length_cons,List.length_drop,List.length_append,zcW,List.length_nil]at h2 hl;omega
  ·simp at h
 |grp n cs tk=>
  simp only[Src.inn]at h;split at h
  ·split at h
   ·rename_i c ρ' heq
    rw[Option.map_eq_some_iff]at h;obtain ⟨i,_,rfl⟩:=h;rw[heq];unfold Plain at hp⊢;simpa using hp
   ·simp at h
  ·simp at h
 |ro n p=>simp[Src.inn]at h
 |free=>simp[Src.inn]at h
theorem Src.outn_plain{s:Src}{ρ:List Nat}{y:Nat×List Nat}(h:s.outn ρ=some y)(hp:Plain y.2):Plain ρ:=by
 unfold Src.outn at h;split at h
 ·obtain rfl:=Option.some.inj h;exact hp
 ·exact .inl rfl
 ·obtain rfl:=Option.some.inj h
  unfold Plain at hp⊢;simp only[List.length_append,zcW,List.length_cons,List.append_eq_nil_iff]at hp⊢;simp at hp⊢;omega
 ·obtain rfl:=Option.some.inj h
  unfold Plain at hp⊢;simp only[List.length_append,zcW,List.length_cons,List.append_eq_nil_iff]at hp⊢;simp at hp⊢;omega
 ·rw[Option.map_eq_some_iff]at h
  obtain ⟨c,_,rfl⟩:=h;unfold Plain at hp⊢;simpa using hp
 ·simp at h
theorem zhv:∀{cos:List CO} {i:Nat} {x y:Nat×List Nat},gInAt cos i x=some y→Plain y.2→Plain x.2
 | [],_,_,_,h,_=>by simp[gInAt]at h
 |co::cs,i,x,y,h,hp=>by
  simp only[gInAt]at h;split at h
  ·rename_i ρ h1
   obtain rfl:=Option.some.inj h;exact Src.inn_plain h1 hp
  ·exact zhv h hp
theorem zgo{cos:List CO}:∀{i:Nat} {x y:Nat×List Nat},gInAt cos i x=some y→∃k co,cos[k]? =some co∧y.1=i+k∧co.src.inn x=some y.2:=by
 induction cos with
 |nil=>intro i x y h;simp[gInAt]at h
 |cons co cs ih=>
  intro i x y h;simp only[gInAt]at h;split at h
  ·rename_i ρ hρ
   simp only[Option.some.injEq]at h;subst h;exact ⟨0,co,rfl,rfl,hρ⟩
  ·obtain ⟨k,co',h1,h2,h3⟩:=ih h
   exact ⟨k+1,co',by simpa using h1,by omega,h3⟩
theorem zkH{a b:List Nat}(h:nodup (a++b)=true):nodup b=true∧∀x∈a,x∉b:=by
 induction a with
 |nil=>exact ⟨h,fun x hx=>absurd hx (by simp)⟩
 |cons y a ih=>
  simp only[List.cons_append,nodup,Bool.and_eq_true,Bool.not_eq_true',List.contains_eq_mem,decide_eq_false_iff_not]at h;obtain ⟨h1,h2⟩:=ih h.2;refine ⟨h1,fun x hx hb=> ?_⟩
  rcases List.mem_cons.1 hx with rfl|hx
  ·exact h.1 (List.mem_append_right _ hb)
  ·exact h2 x hx hb
theorem zqx{cos:List CO}(hn:nodup (cos.flatMap fun c=>c.src.mutName)=true):∀{i k:Nat} {co:CO} {x:Nat×List Nat} {ρ:List Nat},cos[k]? =some co→co.src.inn x=some ρ→
 gInAt cos i x=some (i+k,ρ):=by
 induction cos with
 |nil=>intro i k co x ρ h;simp at h
 |cons c cs ih=>
  intro i k co x ρ h hi;simp only[List.flatMap_cons]at hn;obtain ⟨h1,h2⟩:=zkH hn;cases k with
  |zero=>
   simp only[List.getElem?_cons_zero,Option.some.injEq]at h;subst h;simp[gInAt,hi]
  |succ k=>
   simp only[List.getElem?_cons_succ]at h
   have hc:c.src.inn x=none:=by
    cases hc:c.src.inn x with
    |none=>rfl
    |some ρ'=>
     have n1:=Src.inn_name hc;have n2:=Src.inn_name hi;refine absurd ?_ (h2 x.1 (by rw[n1];simp))
     exact List.mem_flatMap.2 ⟨co,List.mem_of_getElem? h,by rw[n2];simp⟩
   simp only[gInAt,hc];rw[ih h1 h hi];congr 2;omega
theorem zel{cos:List CO}{x:Nat×List Nat}(h:x.1∉cos.flatMap fun c=>c.src.mutName)(i:Nat):gInAt cos i x=none:=by
 cases hg:gInAt cos i x with
 |none=>rfl
 |some y=>
  obtain ⟨k,co,h1,_,h3⟩:=zgo hg;exact absurd (List.mem_flatMap.2 ⟨co,List.mem_of_getElem? h1,by rw[Src.inn_name h3];simp⟩) h
end Go.PV
namespace Go.PV
open Go.RowKit
def CoOk(w:World)(G:Ghost)(obs:Obs)(pl:zaP)(co:CO)(P:Place):Prop:=
 match co.src with
 | .box n=>obs n=some co.ob∧(co.ob.kind= .box∨co.ob.kind.isBld=true)∧P=pl n
 | .row n p=>∃ob ad,obs n=some ob∧ob.kind≠ .ro∧p≠[]∧zbR ob.row p∧(∀c,ownAt ob.fl p c= .deep)∧P.base=some ad∧
  Desc w (QObj G n ob.fl) (hdf (pl n)) ob.row p (pl n).base ad P.hd∧co.ob=⟨.box,zaj ob.row p,(zaj ob.row p).map fun _=> .deep⟩
 | .sl n p c=>∃ob es,RefR w G obs pl n p c (P.hd 0) ob∧ownAt ob.fl p c≠ .sh∧(zaj ob.row p).getD c .h= .s es∧co.ob=⟨.virt,[.s es],[ownAt ob.fl p c]⟩
 | .mv n p c=>∃ob es,RefR w G obs pl n p c (P.hd 0) ob∧ownAt ob.fl p c≠ .sh∧(zaj ob.row p).getD c .h= .s es∧co.ob=⟨.virt,[.s es],[ownAt ob.fl p c]⟩
 | .grp n cs tk=>∃ob,obs n=some ob∧ob.kind≠ .ro∧(cs≠[]∧∀i,i<cs.length→(zdw cs 0 (cs.getD i 0))=some i)∧(∀c∈cs,c<ob.row.length∧(∃es,ob.row.getD c .h= .s es)∧ob.fl.getD c .sh≠ .sh)∧
  (∀i,P.hd i=(pl n).hd (cs.getD i 0))∧co=grpCo n cs ob tk
 | .ro n p=>co.ob.kind= .ro∧(P.base=none∨∃ad ob,RefP w G obs pl n p ad ob∧P.base=some ad∧(∀j,j<(zaj ob.row p).length→w.cell? ⟨ad.block,ad.off+j,none⟩=some (P.hd j))∧co.ob.row=zaj ob.row p)
 | .free=>True
structure Within (X Ef:Exp):Prop where
 cos:X.cos<+:Ef.cos
 bor:∀n∈X.bor,n∈Ef.bor
 bop:∀n∈X.bop,n∈Ef.bop
theorem Within.trans{X Y Z:Exp}(h:Within X Y)(k:Within Y Z):Within X Z:=
 ⟨h.cos.trans k.cos,fun n hn=>k.bor n (h.bor n hn),fun n hn=>k.bop n (h.bop n hn)⟩
section gin
variable {G:Ghost}{Ef:Exp}
theorem zbX{b:Nat}(h:G b=none):gIn Ef G b=none:=by simp[gIn,h]
theorem Exp.ok_mem(hok:Ef.ok=true){n:Nat}(h:n∈Ef.bor):n∉Ef.cos.flatMap fun c=>c.src.mutName:=by
 intro hm;simp only[Exp.ok,Bool.and_eq_true,List.all_eq_true]at hok;have:=hok.1.2 n hm;simp[h]at this
theorem zjy(hok:Ef.ok=true){b n:Nat}{π:List Nat}(h:G b=some (n,π))(hb:n∈Ef.bor)(hp:π≠[]∨n∈Ef.bop):gIn Ef G b=none:=by
 have h1:=zel (x:=(n,π)) (Exp.ok_mem hok hb) 0
 have h2:lent Ef.bor Ef.bop (n,π)=true:=by
  simp only[lent,List.contains_eq_mem,Bool.and_eq_true,decide_eq_true_eq,Bool.or_eq_true,Bool.not_eq_true'];refine ⟨hb, ?_⟩;rcases hp with h|h
  ·left;cases π with
   |nil=>exact absurd rfl h
   |cons _ _=>rfl
  ·exact .inr h
 simp only[gIn,h,h1,h2,if_true]
theorem zfb(hok:Ef.ok=true){b k:Nat}{x:Nat×List Nat}{co:CO}{ρ:List Nat}(h:G b=some x)(hk:Ef.cos[k]? =some co)(hi:co.src.inn x=some ρ):gIn Ef G b=some (k,ρ):=by
 simp only[Exp.ok,Bool.and_eq_true]at hok;have:=zqx hok.1.1 (i:=0) hk hi;simp only[gIn,h,this,Nat.zero_add]
theorem Exp.ok_small(hok:Ef.ok=true):Ef.cos.length<FR:=by
 simp only[Exp.ok,Bool.and_eq_true,decide_eq_true_eq]at hok;exact hok.2
theorem zm1{w:World}:zcc w w G (gIn Ef G):=fun _ _ h=>⟨rfl,zbX h⟩
end gin
theorem zrP{α:Type}{l l':List α}(h:l<+:l'){k:Nat}{x:α}(hk:l[k]? =some x):l'[k]? =some x:=by
 obtain ⟨t,rfl⟩:=h
 have:k<l.length:=by
  rcases Nat.lt_or_ge k l.length with h|h
  ·exact h
  ·rw[List.getElem?_eq_none h]at hk;simp at hk
 rw[List.getElem?_append_left this];exact hk
theorem zrn(n:Nat)(p:Path)(c:Nat)(π:List Nat):Src.inn (.sl n p c) (n,flat p++c::π)=some (0::π)∧Src.inn (.mv n p c) (n,flat p++c::π)=some (0::π):=by
 have h1:(flat p++[c])<+:(flat p++c::π):=⟨π,by simp⟩
 have h2:(flat p++c::π).drop (flat p++[c]).length=π:=by
  rw[show flat p++c::π=(flat p++[c])++π from by simp]
  exact List.drop_left
 constructor<;>simp only[Src.inn,h1,and_self,if_true,h2]
theorem zrQ{p:Path}(h:p≠[]):flat p≠[]:=by
 cases p with
 |nil=>exact absurd rfl h
 |cons x p=>simp[flat]
theorem zhw{p:Path}(h:p≠[]):(flat p).dropLast≠[]:=by
 intro h2;have h1:=congrArg List.length h2;rw[List.length_dropLast,zcW]at h1;have:p.length≠0:=fun h3=>h (List.length_eq_zero_iff.1 h3)
 simp only[List.length_nil]at h1;omega
theorem zrR(n:Nat){p:Path}(hp:p≠[])(c:Nat)(π:List Nat):Src.inn (.row n p) (n,flat p++c::π)=some (c::π):=by
 have h0:flat p++c::π≠(flat p).dropLast:=fun h=>by
  have:=congrArg List.length h;rw[List.length_append,List.length_dropLast]at this;simp only[List.length_cons]at this;omega
 have h1:flat p++c::π≠flat p:=fun h=>by
  have:=congrArg List.length h;simp at this
 simp[Src.inn,h0,h1]
theorem zqy(n:Nat){p:Path}:Src.inn (.row n p) (n,(flat p).dropLast)=some []:=by simp[Src.inn]
section ops
variable {X:Ctx}{W0:World}{G0:Orig}{S:St}{w w':World}{a:Act}{G:Ghost}{pl:zaP}
structure Exp1 (w:World) (G:Ghost) (obs:Obs) (pl:zaP) (Y Y':Exp) (u:Value) (a':A1) (cos':List CO) (pls':List Place):Prop where
 as:Y'.as=Y.as++[a']
 cos:Y'.cos=Y.cos++cos'
 len:pls'.length=cos'.length
 bor:∀n∈Y.bor,n∈Y'.bor
 bop:∀n∈Y.bop,n∈Y'.bop
 co:∀(k:Nat) co P,cos'[k]? =some co→pls'[k]? =some P→CoOk w G obs pl co P
 fin:∀(Ef:Exp) (plc:zaP),Ef.ok=true→Within Y' Ef→(∀(k:Nat) P,pls'[k]? =some P→plc (Y.cos.length+k)=P)→
  V1 w (gIn Ef G) (obOf (Ef.cos.map (·.ob))) plc u a'∧
  ∀(k:Nat) co,cos'[k]? =some co→co.ob.kind≠ .ro→ObjRel w (gIn Ef G) (Y.cos.length+k) (plc (Y.cos.length+k)) co.ob
theorem zft{Ef:Exp}{Y:Exp}{co:CO}{cos:List CO}(h:Y.cos++[co]<+:Ef.cos):obOf (Ef.cos.map (·.ob)) Y.cos.length=some co.ob∧Ef.cos[Y.cos.length]? =some co:=by
 have h1:(Y.cos++[co])[Y.cos.length]? =some co:=by simp
 have h2:=zrP h h1;exact ⟨by simp[obOf,h2],h2⟩
theorem znC{cs:List A0}{c n:Nat}(h:bxPtr cs c=some n):cs=[.p true n [] 0]∧c=0:=by
 unfold bxPtr at h;split at h
 ·obtain rfl:=Option.some.inj h;exact ⟨rfl,rfl⟩
 ·simp at h
theorem zrS(I:Inv W0 G0 S w a.tmps G pl){o:Foot}(hF:∀n ob,fget o n=some ob→S.obj n=some ob){mode:Nat}{Y Y':Exp}{x:A1}{u:Value}(hv:V1 w G S.obj pl u x)
 (h:exp1 o mode Y x=some Y'):∃a' cos' pls',Exp1 w G S.obj pl Y Y' u a' cos' pls':=by
 cases x with
 |dead=>simp[exp1]at h
 |bx cs c=>
  simp only[exp1]at h;split at h
  case h_2=>simp at h
  rename_i n hbp;split at h
  case h_2=>simp at h
  rename_i ob hfo;have hob:=hF n ob hfo;split at h
  case isFalse=>simp at h
  rename_i hbox;simp only[Option.some.injEq]at h;subst h;obtain ⟨rfl,rfl⟩:=znC hbp;obtain ⟨b0,off0,hu0,hlt0,hG0,hc0⟩:=hv;obtain ⟨x,hx,hvx⟩:=hc0 0 (by simp)
  have hkro:ob.kind≠ .ro:=fun h=>by rw[h]at hbox;exact absurd hbox (by simp[Kind.isBld])
  have hkv:ob.kind≠ .virt:=fun h=>by rw[h]at hbox;exact absurd hbox (by simp[Kind.isBld])
  have hrel:=I.objs n ob hob hkro;refine ⟨_,[_],[pl n],rfl,rfl,rfl,fun m h=>h,fun m h=>h,fun k co P h hP=> ?_,fun Ef plc hok hw hpl=> ?_⟩
  ·cases k with
   |zero=>
    simp only[List.getElem?_cons_zero,Option.some.injEq]at h hP;subst h hP;exact ⟨hob,hbox,rfl⟩
   |succ k=>simp at h
  ·obtain ⟨h1,h2⟩:=zft (cos:=Y.cos) hw.cos
   have hp:=hpl 0 _ rfl;rw[Nat.add_zero]at hp;have hhand:∀b π,G b=some (n,π)→gIn Ef G b=some (Y.cos.length,π):=fun b π h=>zfb hok h h2 (by simp[Src.inn])
   refine ⟨?_,fun k co h hk=> ?_⟩
   ·refine ⟨b0,off0,hu0,hlt0,zbX hG0,fun i hi=> ?_⟩
    have hi0:i=0:=by simpa using hi
    subst hi0;refine ⟨x,hx, ?_⟩;obtain ⟨ad,ob2,hr,hu⟩:=hvx;refine ⟨ad,_,{at0:=h1,path:=trivial,at_:= ?_,spot:=hr.spot,ro:=fun h=>absurd h hkro,virt:=fun _ h=>hkv h},hu⟩
    have:=hr.at_;simp only[zaD]at this⊢;rw[hp];exact this
   ·cases k with
    |succ k=>simp at h
    |zero=>
     simp only[List.getElem?_cons_zero,Option.some.injEq]at h;subst h;rw[Nat.add_zero,hp];refine {bld:=hrel.bld.frame2 fun b π hb=>⟨rfl,hhand b π hb⟩,fl:=hrel.fl,rel:=zcC.frame hrel.rel (fun _ _ _ _=>rfl) (fun π b _ h=> ?_),box:=fun hkb=> ?_}
     ·cases π with
      |nil=>exact h.elim
      |cons c' ρ=>
       simp only[QObj]at h⊢
       revert h
       cases ob.fl.getD c' .sh with
       |deep=>exact fun h=>hhand b _ h
       |top=>
        simp only[QCell];split
        ·exact fun h=>hhand b _ h
        ·exact fun h=>zbX h
       |sh=>exact fun h=>zbX h
     ·obtain ⟨b,off,cs,ty',hb1,hb2,hb3,hb4,hb5⟩:=hrel.box hkb
      exact ⟨b,off,cs,ty',hb1,hhand b [] hb2,hb3,hb4,hb5⟩
 |v x=>
  simp only[exp1,Option.some.injEq]at h;subst h;refine ⟨nilS mode x,[],[],rfl,by simp,rfl,fun _ h=>h,fun _ h=>h,fun k co P h=>by simp at h,fun _ _ _ _ _=>⟨?_,fun k co h=>by simp at h⟩⟩
  have hv:u=x:=hv;unfold nilS;split
  ·split
   ·rw[hv];exact .e _ _
   ·exact hv
  ·exact hv
 |s es=>
  simp only[exp1,Option.some.injEq]at h;subst h;exact ⟨.s es,[],[],rfl,by simp,rfl,fun _ h=>h,fun _ h=>h,fun k co P h=>by simp at h,fun _ _ _ _ _=>⟨Rel.mono hv (fun _ _ h=>zbX h),fun k co h=>by simp at h⟩⟩
 |q row c=>
  simp only[exp1,Option.some.injEq]at h;subst h;obtain ⟨ad,hd,hu,hro⟩:=hv;refine ⟨_,[_],[⟨some ad,hd⟩],rfl,rfl,rfl,fun _ h=>h,fun _ h=>h,fun k co P h _=> ?_,fun Ef plc hok hw hpl=>⟨?_,fun k co h hk=> ?_⟩⟩
  ·cases k with
   |zero=>simp only[List.getElem?_cons_zero,Option.some.injEq]at h;subst h;exact trivial
   |succ k=>simp at h
  ·obtain ⟨h1,h2⟩:=zft (cos:=Y.cos) hw.cos
   have hp:=hpl 0 _ rfl;rw[Nat.add_zero]at hp;refine ⟨ad,_,{at0:=h1,path:=trivial,at_:=by rw[hp];rfl,spot:=hro.spot,ro:=fun _=>⟨fun c=> ?_,ad,by rw[hp], ?_⟩,virt:=fun _ h=>by simp at h},hu⟩
   ·simp only[List.getD,List.getElem?_map]
    cases row[c]? <;>rfl
   ·rw[hp]
    have:=hro.frame (zm1 (Ef:=Ef));exact {spot:=this.spot,lt:=this.lt,blk:=this.blk,cell:=this.cell,rel:=this.rel}
  ·cases k with
   |zero=>simp only[List.getElem?_cons_zero,Option.some.injEq]at h;subst h;exact absurd rfl hk
   |succ k=>simp at h
 |r n p c=>
  simp only[exp1]at h;split at h
  case h_2=>simp at h
  rename_i ob hfo;have hob:=hF n ob hfo;obtain ⟨ob1,es,g1,g2,hat⟩:=zdz I.objs hv;rw[hob]at g1;obtain rfl:=Option.some.inj g1;split at h
  · -- read
    split at h
    ·simp at h
    simp only[Option.some.injEq]at h;subst h;refine ⟨_,[],[],rfl,by simp,rfl,fun m h=>List.mem_cons_of_mem _ h,fun _ h=>h,fun k co P h=>by simp at h,fun Ef plc hok hw _=>⟨?_,fun k co h=>by simp at h⟩⟩
    rw[g2];refine hat.mono fun π b hq=> ?_
    rcases hq.own with h|h
    ·exact zjy hok h (hw.bor n (by simp)) (.inl (by simp))
    ·exact zbX h
  ·split at h
   ·simp at h
   rename_i hmode hown;simp only[not_or]at hown;simp only[Option.some.injEq]at h;subst h;obtain ⟨ob2,hrr⟩:=hv;have:ob2=ob:=by have:=hrr.at0;rw[hob]at this;exact (Option.some.inj this).symm
   subst this;refine ⟨_,[_],[⟨none,fun _=>u⟩],rfl,rfl,rfl,fun _ h=>h,fun _ h=>h,fun k co P h hP=> ?_,fun Ef plc hok hw hpl=> ?_⟩
   ·cases k with
    |zero=>
     simp only[List.getElem?_cons_zero,Option.some.injEq]at h hP;subst h hP;by_cases hm:mode=1
     ·simp only[CoOk,hm,if_true];exact ⟨ob2,es,hrr,hown.1,g2,by simp only[g2,D.es]⟩
     ·simp only[CoOk,hm,if_false];exact ⟨ob2,es,hrr,hown.1,g2,by simp only[g2,D.es]⟩
    |succ k=>simp at h
   ·obtain ⟨h1,h2⟩:=zft (cos:=Y.cos) hw.cos
    have hp:=hpl 0 _ rfl;rw[Nat.add_zero]at hp;refine ⟨⟨_,{at0:=h1,kind:=by simp,path:=trivial,lt:=by simp[zaj],sl:=⟨_,rfl⟩,head:=by simp[zb2,hp]}⟩,fun k co h hk=> ?_⟩
    cases k with
    |succ k=>simp at h
    |zero=>
     simp only[List.getElem?_cons_zero,Option.some.injEq]at h;subst h;rw[Nat.add_zero,hp];refine {bld:= .not rfl,fl:=rfl,rel:=fun c' hc'=> ?_,box:=fun h=>by simp at h}
     have hc0:c'=0:=by simpa using hc'
     subst hc0;rw[g2];refine hat.mono fun π b hq=> ?_
     have hq:=zfq p c hq
     have hhand:G b=some (n,flat p++c::π)→gIn Ef G b=some (Y.cos.length,0::π):=fun h=>by
      refine zfb hok h h2 ?_;by_cases hm:mode=1
      ·simp only[hm,if_true];exact (zrn n p c π).1
      ·simp only[hm,if_false];exact (zrn n p c π).2
     show QCell _ _ 0 (ownAt ob2.fl p c) π b
     revert hq
     cases hw0:ownAt ob2.fl p c with
     |deep=>exact hhand
     |top=>
      rintro ⟨rfl,h⟩
      simp only[QCell];by_cases hπ:π=[]
      ·subst hπ;rw[if_pos rfl]at h⊢;exact hhand h
      ·rw[if_neg hπ]at h⊢;exact zbX h
     |sh=>exact absurd hw0 hown.1
 |p ok n p c=>
  simp only[exp1]at h;split at h
  case h_2=>simp at h
  rename_i ob hfo;have hob:=hF n ob hfo;split at h
  · -- read
    split at h
    ·simp at h
    rename_i hnb;simp only[Option.some.injEq]at h;subst h
    have hbop:∀m∈Y.bop,m∈(if p.isEmpty=true then n::Y.bop else Y.bop):=fun m h=>by
     split
     ·exact List.mem_cons_of_mem _ h
     ·exact h
    cases ok with
    |false=>
     refine ⟨_,[_],[⟨none,fun _=>undef⟩],rfl,rfl,rfl,fun m h=>List.mem_cons_of_mem _ h,hbop,fun k co P h hP=> ?_,fun Ef plc hok hw hpl=>⟨hv,fun k co h hk=> ?_⟩⟩
     ·cases k with
      |zero=>
       simp only[List.getElem?_cons_zero,Option.some.injEq]at h hP;subst h hP;exact ⟨rfl, .inl rfl⟩
      |succ k=>simp at h
     ·cases k with
      |zero=>simp only[List.getElem?_cons_zero,Option.some.injEq]at h;subst h;exact absurd rfl hk
      |succ k=>simp at h
    |true=>
     obtain ⟨ad,ob2,hr,hu⟩:=hv;have:ob2=ob:=by have:=hr.at0;rw[hob]at this;exact (Option.some.inj this).symm
     subst this
     have key:∃hd:Nat→Value,(∀j,j<(zaj ob2.row p).length→w.cell? ⟨ad.block,ad.off+j,none⟩=some (hd j))∧
      ∀Ef:Exp,Ef.ok=true→n∈Ef.bor→(p=[]→n∈Ef.bop)→RoOk w (gIn Ef G) ⟨some ad,hd⟩ (zaj ob2.row p) ad:=by
      by_cases hk:ob2.kind= .ro
      ·obtain ⟨_,ad0,hb0,hro⟩:=hr.ro hk
       by_cases hp:p=[]
       ·subst hp
        have hat:=hr.at_;simp only[zaD]at hat;rw[hb0]at hat;obtain rfl:=Option.some.inj hat;refine ⟨(pl n).hd,hro.cell,fun Ef hok hb hbp=> ?_⟩
        have:=hro.frame (zm1 (Ef:=Ef));exact {spot:=this.spot,lt:=this.lt,blk:=this.blk,cell:=this.cell,rel:=this.rel}
       ·obtain ⟨ad1,hd1,D1⟩:=zdb p (pl n).base hro.rel hr.path hp
        have:ad1=ad:=by have h1:=D1.at_;have h2:=hr.at_;unfold hdf at h2;rw[h2]at h1;exact (Option.some.inj h1).symm
        subst this;exact ⟨hd1,D1.cell,fun Ef hok hb hbp=>{spot:=D1.spot,lt:=D1.lt,blk:=zbX D1.blk,cell:=D1.cell,rel:=D1.rel.frame (fun _ _ _ _=>rfl) (fun _ _ _ h=>zbX h)}⟩
      ·have hrel:=I.objs n ob2 hob hk
       have hq:∀Ef:Exp,Ef.ok=true→n∈Ef.bor→∀π b,QObj G n ob2.fl π b→gIn Ef G b=none:=fun Ef hok hb π b h=>by
        cases π with
        |nil=>exact h.elim
        |cons c ρ=>
         rcases h.own with h|h
         ·exact zjy hok h hb (.inl (by simp))
         ·exact zbX h
       by_cases hp:p=[]
       ·subst hp
        have hbox:ob2.kind= .box:=by
         have:=hr.virt rfl;cases hk2:ob2.kind with
         |box=>rfl
         |virt=>exact absurd hk2 this
         |ro=>exact absurd hk2 hk
         |bld t e=>rw[hk2]at hnb;exact absurd rfl hnb
        obtain ⟨b,off,cs,ty',hb1,hb2,hb3,hb4,hb5⟩:=hrel.box hbox;have hat:=hr.at_;simp only[zaD]at hat;rw[hb1]at hat;obtain rfl:=Option.some.inj hat
        have hcell:∀j,j<(zaj ob2.row []).length→w.cell? ⟨b,off+j,none⟩=some ((pl n).hd j):=fun j hj=>by
         simp only[World.cell?,hb3];simpa using hb5 j hj
        exact ⟨(pl n).hd,hcell,fun Ef hok hb hbp=>{spot:=rfl,lt:=(Array.getElem?_eq_some_iff.1 hb3).1,blk:=zjy hok hb2 hb (.inr (hbp rfl)),cell:=hcell
                                                   rel:=zcC.frame hrel.rel (fun _ _ _ _=>rfl) (fun π b _ h=>hq Ef hok hb π b h)}⟩
       ·obtain ⟨ad1,hd1,D1⟩:=zdb p (pl n).base hrel.rel hr.path hp
        have hat:ad1=ad:=by have h1:=D1.at_;have h2:=hr.at_;unfold hdf at h2;rw[h2]at h1;exact (Option.some.inj h1).symm
        subst hat;exact ⟨hd1,D1.cell,fun Ef hok hb hbp=>{spot:=D1.spot,lt:=D1.lt,blk:=hq Ef hok hb _ _ D1.blk,cell:=D1.cell,rel:=D1.rel.frame (fun _ _ _ _=>rfl) (fun π b _ h=>hq Ef hok hb _ b h)}⟩
     obtain ⟨hd,hcell,hkey⟩:=key;refine ⟨_,[_],[⟨some ad,hd⟩],rfl,rfl,rfl,fun m h=>List.mem_cons_of_mem _ h,hbop,fun k co P h hP=> ?_,fun Ef plc hok hw hpl=>⟨?_,fun k co h hk=> ?_⟩⟩
     ·cases k with
      |zero=>
       simp only[List.getElem?_cons_zero,Option.some.injEq]at h hP;subst h hP;exact ⟨rfl, .inr ⟨ad,ob2,hr,rfl,hcell,rfl⟩⟩
      |succ k=>simp at h
     ·obtain ⟨h1,h2⟩:=zft (cos:=Y.cos) hw.cos
      have hp:=hpl 0 _ rfl;rw[Nat.add_zero]at hp;have hro:=hkey Ef hok (hw.bor n (by simp)) (fun h=>hw.bop n (by subst h;simp))
      refine ⟨ad,_,{at0:=h1,path:=trivial,at_:=by rw[hp];rfl,spot:=hro.spot,ro:=fun _=>⟨fun c=> ?_,ad,by rw[hp],by rw[hp];exact hro⟩,virt:=fun _ h=>by simp at h},hu⟩
      simp only[List.getD,List.getElem?_map];cases (zaj ob2.row p)[c]? <;>rfl
     ·cases k with
      |zero=>simp only[List.getElem?_cons_zero,Option.some.injEq]at h;subst h;exact absurd rfl hk
      |succ k=>simp at h
  ·split at h
   case isFalse=>simp at h
   split at h
   · -- a whole box
     rename_i hp0;have hp0:p=[]:=by simpa using hp0
     subst hp0;split at h
     case isFalse=>simp at h
     rename_i hbox;simp only[Option.some.injEq]at h;subst h;have hkro:ob.kind≠ .ro:=fun h=>by rw[h]at hbox;exact absurd hbox (by simp[Kind.isBld])
     have hkv:ob.kind≠ .virt:=fun h=>by rw[h]at hbox;exact absurd hbox (by simp[Kind.isBld])
     have hrel:=I.objs n ob hob hkro;refine ⟨_,[_],[pl n],rfl,rfl,rfl,fun m h=>h,fun m h=>h,fun k co P h hP=> ?_,fun Ef plc hok hw hpl=> ?_⟩
     ·cases k with
      |zero=>
       simp only[List.getElem?_cons_zero,Option.some.injEq]at h hP;subst h hP;exact ⟨hob,hbox,rfl⟩
      |succ k=>simp at h
     ·obtain ⟨h1,h2⟩:=zft (cos:=Y.cos) hw.cos
      have hp:=hpl 0 _ rfl;rw[Nat.add_zero]at hp;have hhand:∀b π,G b=some (n,π)→gIn Ef G b=some (Y.cos.length,π):=fun b π h=>zfb hok h h2 (by simp[Src.inn])
      refine ⟨?_,fun k co h hk=> ?_⟩
      ·cases ok with
       |false=>exact hv
       |true=>
        obtain ⟨ad,ob2,hr,hu⟩:=hv;refine ⟨ad,_,{at0:=h1,path:=trivial,at_:= ?_,spot:=hr.spot,ro:=fun h=>absurd h hkro,virt:=fun _ h=>hkv h},hu⟩
        have:=hr.at_;simp only[zaD]at this⊢;rw[hp];exact this
      ·cases k with
       |succ k=>simp at h
       |zero=>
        simp only[List.getElem?_cons_zero,Option.some.injEq]at h;subst h;rw[Nat.add_zero,hp];refine {bld:=hrel.bld.frame2 fun b π hb=>⟨rfl,hhand b π hb⟩,fl:=hrel.fl,rel:=zcC.frame hrel.rel (fun _ _ _ _=>rfl) (fun π b _ h=> ?_),box:=fun hkb=> ?_}
        ·cases π with
         |nil=>exact h.elim
         |cons c' ρ=>
          simp only[QObj]at h⊢
          revert h
          cases ob.fl.getD c' .sh with
          |deep=>exact fun h=>hhand b _ h
          |top=>
           simp only[QCell];split
           ·exact fun h=>hhand b _ h
           ·exact fun h=>zbX h
          |sh=>exact fun h=>zbX h
        ·obtain ⟨b,off,cs,ty',hb1,hb2,hb3,hb4,hb5⟩:=hrel.box hkb
         exact ⟨b,off,cs,ty',hb1,hhand b [] hb2,hb3,hb4,hb5⟩
   · -- a row within
     rename_i hp0;have hp0:p≠[]:=by simpa using hp0
     rw[zbW]at h;obtain ⟨hcond,rfl⟩:=h;simp only[Bool.and_eq_true,decide_eq_true_eq,Bool.not_eq_true',List.isEmpty_eq_false_iff]at hcond;obtain ⟨⟨hok1,hdeep,hkro⟩,hne⟩:=hcond;subst hok1;obtain ⟨ad,ob2,hr,hu⟩:=hv;have:ob2=ob:=by have:=hr.at0;rw[hob]at this;exact (Option.some.inj this).symm
     subst this;have hrel:=I.objs n ob2 hob hkro;obtain ⟨ad1,hd1,D1⟩:=zdb p (pl n).base hrel.rel hr.path hp0;have hat:ad1=ad:=by have h1:=D1.at_;have h2:=hr.at_;unfold hdf at h2;rw[h2]at h1;exact (Option.some.inj h1).symm
     subst hat
     have hdeep':∀c,ownAt ob2.fl p c= .deep:=fun c'=>by
      cases p with
      |nil=>exact absurd rfl hp0
      |cons x p=>exact hdeep
     refine ⟨_,[_],[⟨some ad1,hd1⟩],rfl,rfl,rfl,fun m h=>h,fun m h=>h,fun k co P h hP=> ?_,fun Ef plc hok hw hpl=> ?_⟩
     ·cases k with
      |zero=>
       simp only[List.getElem?_cons_zero,Option.some.injEq]at h hP;subst h hP;exact ⟨ob2,ad1,hob,hkro,hp0,hr.path,hdeep',rfl,D1,rfl⟩
      |succ k=>simp at h
     ·obtain ⟨h1,h2⟩:=zft (cos:=Y.cos) hw.cos
      have hp:=hpl 0 _ rfl;rw[Nat.add_zero]at hp;refine ⟨⟨ad1,_,{at0:=h1,path:=trivial,at_:=by rw[hp];rfl,spot:=D1.spot,ro:=fun h=>by simp at h,virt:=fun _ h=>by simp at h},hu⟩,fun k co h hk=> ?_⟩
      cases k with
      |succ k=>simp at h
      |zero=>
       simp only[List.getElem?_cons_zero,Option.some.injEq]at h;subst h;rw[Nat.add_zero,hp];refine {bld:= .not rfl,fl:=by simp,rel:=fun c' hc'=>(D1.rel c' hc').mono fun π b h=> ?_,box:=fun _=> ?_}
       ·have h:=zfq p c' h
        rw[hdeep' c']at h;show QCell _ _ c' (((zaj ob2.row p).map fun _=>Own.deep).getD c' .sh) π b
        have hg:((zaj ob2.row p).map fun _=>Own.deep).getD c' .sh= .deep:=by
         have:c'<(zaj ob2.row p).length:=hc';simp[List.getD,this]
        rw[hg];exact zfb hok h h2 (zrR n hp0 c' π)
       ·have hbG:G ad1.block=some (n,(flat p).dropLast):=by
         have hb:=D1.blk;cases p with
         |nil=>exact absurd rfl hp0
         |cons x p=>
          obtain ⟨c0,e0⟩:=x
          have hdp:ob2.fl.getD c0 .sh= .deep:=by
           have:=hdeep' 0;simp only[ownAt]at this;split at this
           ·rename_i h;exact h
           ·simp at this
          by_cases hq:p=[]
          ·subst hq
           have hb:QCell G n c0 (ob2.fl.getD c0 .sh) [] ad1.block:=hb;rw[hdp]at hb;exact hb
          ·rw[za7 _ _ hq]at hb⊢
           have hb:QCell G n c0 (ob2.fl.getD c0 .sh) (e0::(flat p).dropLast) ad1.block:=hb;rw[hdp]at hb;exact hb
        obtain ⟨cs,ty,hh⟩:=(I.own _ _ hbG).plain (by
         right;have:0<p.length:=List.length_pos_iff.2 hp0;simp only[List.length_dropLast,zcW];omega)
        have hcs:∀j,j<(zaj ob2.row p).length→cs[ad1.off+j]? =some (hd1 j):=fun j hj=>by
         have:=D1.cell j hj;simp only[World.cell?,hh]at this;simpa using this
        have hpos:0<(zaj ob2.row p).length:=List.length_pos_iff.2 hne;have hlast:=(Array.getElem?_eq_some_iff.1 (hcs ((zaj ob2.row p).length-1) (by omega))).1
        obtain ⟨b,off,sp⟩:=ad1;have hsp:sp=none:=D1.spot;subst hsp;exact ⟨b,off,cs,ty,rfl,zfb hok hbG h2 (zqy n),hh,by simp only at hlast⊢;omega,hcs⟩
end ops
end Go.PV
namespace Go.PV
open Go.RowKit
structure ExpS (w:World) (G:Ghost) (obs:Obs) (pl:zaP) (Y Y':Exp) (cos':List CO) (pls':List Place) (Fin:Exp→zaP→Prop):Prop where
 cos:Y'.cos=Y.cos++cos'
 len:pls'.length=cos'.length
 bor:∀n∈Y.bor,n∈Y'.bor
 bop:∀n∈Y.bop,n∈Y'.bop
 co:∀(k:Nat) co P,cos'[k]? =some co→pls'[k]? =some P→CoOk w G obs pl co P
 fin:∀(Ef:Exp) (plc:zaP),Ef.ok=true→Within Y' Ef→(∀(k:Nat) P,pls'[k]? =some P→plc (Y.cos.length+k)=P)→
  Fin Ef plc∧∀(k:Nat) co,cos'[k]? =some co→co.ob.kind≠ .ro→ObjRel w (gIn Ef G) (Y.cos.length+k) (plc (Y.cos.length+k)) co.ob
section ops
variable {X:Ctx}{W0:World}{G0:Orig}{S:St}{w w':World}{a:Act}{G:Ghost}{pl:zaP}{obs:Obs}
theorem ExpS.within{Y Y':Exp}{c:List CO}{p:List Place}{F:Exp→zaP→Prop}(h:ExpS w G obs pl Y Y' c p F):Within Y Y':=
 ⟨⟨c,h.cos.symm⟩,h.bor,h.bop⟩
theorem ExpS.nil(Y:Exp)(F:Exp→zaP→Prop)(hF:∀Ef plc,F Ef plc):ExpS w G obs pl Y Y [] [] F:=
 ⟨by simp,rfl,fun _ h=>h,fun _ h=>h,fun k co P h=>by simp at h,fun Ef plc _ _ _=>⟨hF Ef plc,fun k co h=>by simp at h⟩⟩
theorem ExpS.mono{Y Y':Exp}{c:List CO}{p:List Place}{F F':Exp→zaP→Prop}(h:ExpS w G obs pl Y Y' c p F)(hF:∀Ef plc,F Ef plc→F' Ef plc):ExpS w G obs pl Y Y' c p F':=
 ⟨h.cos,h.len,h.bor,h.bop,h.co,fun Ef plc h1 h2 h3=>⟨hF Ef plc (h.fin Ef plc h1 h2 h3).1,(h.fin Ef plc h1 h2 h3).2⟩⟩
theorem ExpS.comp{Y Y1 Y2:Exp}{c1 c2:List CO}{p1 p2:List Place}{F1 F2:Exp→zaP→Prop}(h:ExpS w G obs pl Y Y1 c1 p1 F1)(k:ExpS w G obs pl Y1 Y2 c2 p2 F2):
 ExpS w G obs pl Y Y2 (c1++c2) (p1++p2) (fun Ef plc=>F1 Ef plc∧F2 Ef plc):=by
 have hl:=h.len;refine ⟨by rw[k.cos,h.cos,List.append_assoc],by simp[h.len,k.len],fun n hn=>k.bor n (h.bor n hn),fun n hn=>k.bop n (h.bop n hn),fun i co P hc hP=> ?_,fun Ef plc hok hw hpl=> ?_⟩
 ·rcases Nat.lt_or_ge i c1.length with hi|hi
  ·rw[List.getElem?_append_left hi]at hc
   rw[List.getElem?_append_left (by omega)]at hP
   exact h.co i co P hc hP
  ·rw[List.getElem?_append_right hi]at hc
   rw[List.getElem?_append_right (by omega),hl]at hP
   exact k.co _ co P hc hP
 ·have hlen:Y1.cos.length=Y.cos.length+c1.length:=by rw[h.cos];simp
  have h1:=h.fin Ef plc hok (k.within.trans hw) (fun i P hP=>hpl i P (by
   have:i<p1.length:=(List.getElem?_eq_some_iff.1 hP).1;rw[List.getElem?_append_left this];exact hP))
  have h2:=k.fin Ef plc hok hw (fun i P hP=>by
   have:=hpl (c1.length+i) P (by rw[List.getElem?_append_right (by omega),hl,Nat.add_sub_cancel_left];exact hP)
   rw[hlen,Nat.add_assoc];exact this)
  refine ⟨⟨h1.1,h2.1⟩,fun i co hc hk=> ?_⟩
  rcases Nat.lt_or_ge i c1.length with hi|hi
  ·rw[List.getElem?_append_left hi]at hc
   exact h1.2 i co hc hk
  ·rw[List.getElem?_append_right hi]at hc
   have:=h2.2 _ co hc hk;rw[hlen,show Y.cos.length+c1.length+(i-c1.length)=Y.cos.length+i from by omega]at this
   exact this
theorem zm2(I:Inv W0 G0 S w a.tmps G pl){o:Foot}(hF:∀n ob,fget o n=some ob→S.obj n=some ob){mode:Nat}{Y Y':Exp}{x:A1}{u:Value}(hv:V1 w G S.obj pl u x)
 (h:exp1 o mode Y x=some Y'):∃a' cos' pls',Y'.as=Y.as++[a']∧ExpS w G S.obj pl Y Y' cos' pls' (fun Ef plc=>V1 w (gIn Ef G) (obOf (Ef.cos.map (·.ob))) plc u a'):=by
 obtain ⟨a',cos',pls',e⟩:=zrS I hF hv h;exact ⟨a',cos',pls',e.as,e.cos,e.len,e.bor,e.bop,e.co,e.fin⟩
theorem zkI(I:Inv W0 G0 S w a.tmps G pl){o:Foot}(hF:∀n ob,fget o n=some ob→S.obj n=some ob){mode:Nat}:∀(xs:List A1) {Y Y':Exp} {us:Nat→Value},
 (∀j (h:j<xs.length),V1 w G S.obj pl (us j) (xs[j]))→zef o mode Y xs=some Y'→
 ∃as' cos' pls',Y'.as=Y.as++as'∧as'.length=xs.length∧ExpS w G S.obj pl Y Y' cos' pls' (fun Ef plc=>∀j (h:j<as'.length),V1 w (gIn Ef G) (obOf (Ef.cos.map (·.ob))) plc (us j) (as'[j])):=by
 intro xs
 induction xs with
 |nil=>
  intro Y Y' us hv h;simp only[zef,Option.some.injEq]at h;subst h;exact ⟨[],[],[],by simp,rfl, .nil _ _ (fun _ _ j h=>absurd h (by simp))⟩
 |cons x xs ih=>
  intro Y Y' us hv h;simp only[zef]at h;split at h
  case h_2=>simp at h
  rename_i Y1 h1;obtain ⟨a',c1,p1,e1,s1⟩:=zm2 I hF (hv 0 (by simp)) h1
  obtain ⟨as',c2,p2,e2,l2,s2⟩:=ih (us:=fun j=>us (j+1)) (fun j hj=>hv (j+1) (by simpa using hj)) h
  refine ⟨a'::as',c1++c2,p1++p2,by rw[e2,e1];simp,by simp[l2],(s1.comp s2).mono fun Ef plc h j hj=> ?_⟩
  cases j with
  |zero=>exact h.1
  |succ j=>exact h.2 j (by simpa using hj)
theorem znD(I:Inv W0 G0 S w a.tmps G pl){o:Foot}(hF:∀n ob,fget o n=some ob→S.obj n=some ob):∀(xs:List A1) {Y Y':Exp} {us:Nat→Value},
 (∀j (h:j<xs.length),V1 w G S.obj pl (us j) (xs[j]))→zdP o Y xs=some Y'→
 ∃as' cos' pls',Y'.as=Y.as++as'∧as'.length=xs.length∧ExpS w G S.obj pl Y Y' cos' pls' (fun Ef plc=>∀j (h:j<as'.length),V1 w (gIn Ef G) (obOf (Ef.cos.map (·.ob))) plc (us j) (as'[j])):=by
 intro xs
 induction xs with
 |nil=>
  intro Y Y' us hv h;simp only[zdP,Option.some.injEq]at h;subst h;exact ⟨[],[],[],by simp,rfl, .nil _ _ (fun _ _ j h=>absurd h (by simp))⟩
 |cons x xs ih=>
  intro Y Y' us hv h;simp only[zdP]at h;split at h
  case h_2=>simp at h
  rename_i Y1 h1;obtain ⟨a',c1,p1,e1,s1⟩:=zm2 I hF (hv 0 (by simp)) h1
  obtain ⟨as',c2,p2,e2,l2,s2⟩:=ih (us:=fun j=>us (j+1)) (fun j hj=>hv (j+1) (by simpa using hj)) h
  refine ⟨a'::as',c1++c2,p1++p2,by rw[e2,e1];simp,by simp[l2],(s1.comp s2).mono fun Ef plc h j hj=> ?_⟩
  cases j with
  |zero=>exact h.1
  |succ j=>exact h.2 j (by simpa using hj)
theorem ExpS.as{Y Y':Exp}{c:List CO}{p:List Place}{F:Exp→zaP→Prop}{l:List A1}(h:ExpS w G obs pl {Y with as:=l} Y' c p F):ExpS w G obs pl Y Y' c p F:=
 ⟨h.cos,h.len,h.bor,h.bop,h.co,h.fin⟩
theorem znE{cs:List A1}{n:Nat}{ids:List Nat}(h:grpOf cs=some (n,ids)):zcQ n cs=some ids∧ziI ids=true∧ids≠[]:=by
 unfold grpOf at h;split at h
 ·simp at h
 ·split at h
  ·rename_i m _ ids' hg
   split at h
   ·rename_i hc
    simp only[Option.some.injEq,Prod.mk.injEq]at h;obtain ⟨rfl,rfl⟩:=h;exact ⟨hg,hc.2,fun h=>by rw[h]at hc;simp at hc⟩
   ·simp at h
  ·simp at h
theorem zhx(k:Nat):∀(cs:List A1) (i:Nat),(zc9 k i cs).length=cs.length:=by
 intro cs
 induction cs with
 |nil=>intro i;rfl
 |cons a cs ih=>intro i;cases a<;>simp[zc9,ih]
theorem znF(k n:Nat):∀(cs:List A1) (i:Nat) (ids:List Nat),zcQ n cs=some ids→∀j (hj:j<cs.length) (hj2:j<(zc9 k i cs).length),
 (∃x,cs[j]= .v x∧(zc9 k i cs)[j]= .v x)∨(∃es,cs[j]= .s es∧(zc9 k i cs)[j]= .s es)∨∃e,e<ids.length∧cs[j]= .r n [] (ids.getD e 0)∧(zc9 k i cs)[j]= .r k [] (i+e):=by
 intro cs
 induction cs with
 |nil=>intro i ids _ j hj;simp at hj
 |cons a cs ih=>
  intro i ids h j hj hj2;cases a with
  |v x=>
   simp only[zcQ]at h;cases j with
   |zero=>exact .inl ⟨x,rfl,rfl⟩
   |succ j=>exact ih i ids h j (by simpa using hj) (by simpa[zc9]using hj2)
  |s es=>
   simp only[zcQ]at h;cases j with
   |zero=>exact .inr (.inl ⟨es,rfl,rfl⟩)
   |succ j=>exact ih i ids h j (by simpa using hj) (by simpa[zc9]using hj2)
  |r m p c=>
   simp only[zcQ]at h;split at h
   case isFalse=>simp at h
   rename_i hc;obtain ⟨rfl,rfl⟩:=hc;rw[Option.map_eq_some_iff]at h;obtain ⟨ids',h1,rfl⟩:=h;cases j with
   |zero=>exact .inr (.inr ⟨0,by simp,rfl,rfl⟩)
   |succ j=>
    rcases ih (i+1) ids' h1 j (by simpa using hj) (by simpa[zc9]using hj2)with h|h|⟨e,h2,h3,h4⟩
    ·exact .inl h
    ·exact .inr (.inl h)
    ·exact .inr (.inr ⟨e+1,by simp[h2],by simpa using h3,by simpa[zc9,Nat.add_assoc,Nat.add_comm 1 e]using h4⟩)
  |dead=>simp[zcQ]at h
  |q row c=>simp[zcQ]at h
  |p ok m p c=>simp[zcQ]at h
  |bx cs c=>simp[zcQ]at h
theorem zoA(n:Nat):∀(cs:List A1) (ids:List Nat),zcQ n cs=some ids→∀e,e<ids.length→∃j,∃hj:j<cs.length,cs[j]= .r n [] (ids.getD e 0):=by
 intro cs
 induction cs with
 |nil=>intro ids h e he;simp only[zcQ,Option.some.injEq]at h;subst h;simp at he
 |cons a cs ih=>
  intro ids h e he;cases a with
  |v x=>
   simp only[zcQ]at h;obtain ⟨j,hj,h1⟩:=ih ids h e he;exact ⟨j+1,by simpa using hj,h1⟩
  |s es=>
   simp only[zcQ]at h;obtain ⟨j,hj,h1⟩:=ih ids h e he;exact ⟨j+1,by simpa using hj,h1⟩
  |r m p c=>
   simp only[zcQ]at h;split at h
   case isFalse=>simp at h
   rename_i hc;obtain ⟨rfl,rfl⟩:=hc;rw[Option.map_eq_some_iff]at h;obtain ⟨ids',h1,rfl⟩:=h;cases e with
   |zero=>exact ⟨0,by simp,rfl⟩
   |succ e=>
    obtain ⟨j,hj,h2⟩:=ih ids' h1 e (by simpa using he)
    exact ⟨j+1,by simpa using hj,by simpa using h2⟩
  |dead=>simp[zcQ]at h
  |q row c=>simp[zcQ]at h
  |p ok m p c=>simp[zcQ]at h
  |bx cs c=>simp[zcQ]at h
theorem zrT(n:Nat)(tk:Bool){ids:List Nat}(hn:ziI ids=true){e:Nat}(he:e<ids.length)(π:List Nat):Src.inn (.grp n ids tk) (n,ids.getD e 0::π)=some (e::π):=by
 have:=zkF hn 0 e he;rw[Nat.zero_add]at this;simp only[Src.inn,if_true,this,Option.map_some]
theorem zqz(I:Inv W0 G0 S w a.tmps G pl){o:Foot}(hF:∀n ob,fget o n=some ob→S.obj n=some ob){mode:Nat}{Y Y':Exp}{x x':AV}{u:Value}(hv:VAV w G S.obj pl u x)
 (h:expAV o mode Y x=some (x',Y')):∃cos' pls',ExpS w G S.obj pl Y Y' cos' pls' (fun Ef plc=>VAV w (gIn Ef G) (obOf (Ef.cos.map (·.ob))) plc u x'):=by
 cases x with
 |one x=>
  simp only[expAV]at h;split at h
  case h_2=>simp at h
  rename_i Y1 h1;simp only[Option.some.injEq,Prod.mk.injEq]at h;obtain ⟨rfl,rfl⟩:=h
  obtain ⟨as',c,p,e,l,s⟩:=zkI I hF [x] (us:=fun _=>u) (fun j hj=>by
   have:j=0:=by simpa using hj
   subst this;exact hv) h1
  refine ⟨c,p,s.as.mono fun Ef plc h=> ?_⟩
  have hl:0<as'.length:=by rw[l];simp
  have:=h 0 hl;show V1 _ _ _ _ u (Y1.as.getD 0 .dead);have he:Y1.as.getD 0 .dead=as'[0]:=by rw[e];simp[List.getD,hl]
  rw[he];exact this
 |g cs=>
  simp only[expAV]at h;split at h
  ·rename_i n ids hg
   split at h
   case h_2=>simp at h
   rename_i ob hfo;split at h
   ·simp at h
   rename_i hno;simp only[not_or,Bool.not_eq_true]at hno;simp only[Option.some.injEq,Prod.mk.injEq]at h;obtain ⟨rfl,rfl⟩:=h
   have hg:grpOf cs=some (n,ids):=by
    by_cases hm:mode≠0
    ·rw[if_pos hm]at hg;exact hg
    ·rw[if_neg hm]at hg;simp at hg
   obtain ⟨hids,hnd,hnn⟩:=znE hg;obtain ⟨arr,rfl,h2,h3⟩:=hv;have hob:=hF n ob hfo;have hrel:=I.objs n ob hob hno.1
   have hsh:∀c∈ids,ob.fl.getD c .sh≠ .sh:=fun c hc h=>by
    have:=List.any_eq_false.1 hno.2 c hc;exact this (decide_eq_true h)
   have hrf:∀e,e<ids.length→∃j,∃hj:j<cs.length,cs[j]= .r n [] (ids.getD e 0)∧RefR w G S.obj pl n [] (ids.getD e 0) (arr.getD j undef) ob:=fun e he=>by
    obtain ⟨j,hj,h1⟩:=zoA n cs ids hids e he;have:=h3 j hj;rw[h1]at this;obtain ⟨ob2,hr⟩:=this;have:ob2=ob:=by have:=hr.at0;rw[hob]at this;exact (Option.some.inj this).symm
    subst this;exact ⟨j,hj,h1,hr⟩
   have hmem:∀c∈ids,∃e,e<ids.length∧ids.getD e 0=c:=fun c hc=>by
    obtain ⟨e,he,h1⟩:=List.getElem_of_mem hc;exact ⟨e,he,by rw[za2 _ _ _ he,h1]⟩
   refine ⟨[grpCo n ids ob (decide (mode≠1))],[⟨none,fun i=>(pl n).hd (ids.getD i 0)⟩],{cos:=rfl,len:=rfl,bor:=fun _ h=>h,bop:=fun _ h=>h,co:=fun k co P h hP=> ?_,fin:=fun Ef plc hok hw hpl=> ?_}⟩
   ·cases k with
    |succ k=>simp at h
    |zero=>
     simp only[List.getElem?_cons_zero,Option.some.injEq]at h hP;subst h hP;refine ⟨ob,hob,hno.1,⟨hnn,fun i hi=> ?_⟩,fun c hc=> ?_,fun i=>rfl,rfl⟩
     ·have:=zkF hnd 0 i hi
      rwa [Nat.zero_add]at this
     ·obtain ⟨e,he,rfl⟩:=hmem c hc
      obtain ⟨j,hj,_,hr⟩:=hrf e he;exact ⟨hr.lt,hr.sl,hsh _ hc⟩
   ·obtain ⟨h1,h4⟩:=zft (cos:=Y.cos) hw.cos
    have hp:=hpl 0 _ rfl;rw[Nat.add_zero]at hp;refine ⟨⟨arr,rfl,by rw[h2,zhx],fun j hj=> ?_⟩,fun k co h hk=> ?_⟩
    ·have hj2:j<cs.length:=by rw[←zhx Y.cos.length cs 0];exact hj
     have hv:=h3 j hj2;rcases znF Y.cos.length n cs 0 ids hids j hj2 hj with ⟨x,e1,e2⟩|⟨es,e1,e2⟩|⟨e,he,e1,e2⟩
     ·rw[e2];rw[e1]at hv;exact hv
     ·rw[e2];rw[e1]at hv;exact Rel.mono hv (fun _ _ h=>zbX h)
     ·rw[e2,Nat.zero_add]
      rw[e1]at hv;obtain ⟨ob2,hr⟩:=hv;have hu:(pl n).hd (ids.getD e 0)=arr.getD j undef:=by have:=hr.head;simp only[zb2,if_true,Option.some.injEq]at this;exact this
      have hlt:e<(ids.map fun c=>D.s (ob.row.getD c .h).es).length:=by simpa using he
      refine ⟨_,{at0:=h1,kind:=by simp[grpCo],path:=trivial,lt:=hlt,sl:= ?_,head:= ?_}⟩
      ·show∃es,(ids.map fun c=>D.s (ob.row.getD c .h).es).getD e .h= .s es
       rw[za2 _ _ _ hlt,List.getElem_map];exact ⟨_,rfl⟩
      ·simp only[zb2,if_true,Option.some.injEq]
       rw[hp];exact hu
    ·cases k with
     |succ k=>simp at h
     |zero=>
      simp only[List.getElem?_cons_zero,Option.some.injEq]at h;subst h;rw[Nat.add_zero,hp];refine {bld:= .not rfl,fl:=by simp[grpCo],rel:=fun e he'=> ?_,box:=fun h=>by simp[grpCo]at h}
      have he':e<(ids.map fun c=>D.s (ob.row.getD c .h).es).length:=he'
      have he:e<ids.length:=by simpa using he'
      obtain ⟨j,hj,_,hr⟩:=hrf e he;obtain ⟨es,hes⟩:=hr.sl;have hes:ob.row.getD (ids.getD e 0) .h= .s es:=hes;have hlt:ids.getD e 0<ob.row.length:=hr.lt
      have hrow:((ids.map fun c=>D.s (ob.row.getD c .h).es)[e]'he')=ob.row[ids.getD e 0]:=by
       rw[List.getElem_map,←za2 ids e 0 he,hes,←za2 ob.row _ .h hlt,hes];rfl
      show Rel w _ ((pl n).hd (ids.getD e 0)) ((ids.map fun c=>D.s (ob.row.getD c .h).es)[e]'he')
      rw[hrow];refine (hrel.rel _ hlt).mono fun π b hq=> ?_
      have hfl:(ids.map fun c=>ob.fl.getD c .sh).getD e .sh=ob.fl.getD (ids.getD e 0) .sh:=by
       have:e<(ids.map fun c=>ob.fl.getD c .sh).length:=by simpa using he
       rw[za2 _ _ _ this,List.getElem_map,←za2 ids e 0 he]
      show QCell _ _ e ((ids.map fun c=>ob.fl.getD c .sh).getD e .sh) π b
      rw[hfl];have hq:QCell G n (ids.getD e 0) (ob.fl.getD (ids.getD e 0) .sh) π b:=hq;have hhand:∀π,G b=some (n,ids.getD e 0::π)→gIn Ef G b=some (Y.cos.length,e::π):=fun π h=>zfb hok h h4 (zrT n _ hnd he π)
      revert hq
      cases ob.fl.getD (ids.getD e 0) .sh with
      |deep=>exact hhand π
      |top=>
       simp only[QCell];by_cases hπ:π=[]
       ·rw[if_pos hπ,if_pos hπ];subst hπ;exact hhand []
       ·rw[if_neg hπ,if_neg hπ];exact zbX
      |sh=>exact zbX
  ·split at h
   case h_2=>simp at h
   rename_i Y1 h1;simp only[Option.some.injEq,Prod.mk.injEq]at h;obtain ⟨rfl,rfl⟩:=h;obtain ⟨arr,rfl,h2,h3⟩:=hv;obtain ⟨as',c,p,e,l,s⟩:=zkI I hF cs (us:=fun j=>arr.getD j undef) h3 h1
   have he:Y1.as=as':=by rw[e];simp
   refine ⟨c,p,s.as.mono fun Ef plc h=>⟨arr,rfl,by rw[he,h2,l],fun i hi=> ?_⟩⟩
   subst he;exact h i hi
 |f fn cs=>
  simp only[expAV]at h;split at h
  case h_2=>simp at h
  rename_i Y1 h1;simp only[Option.some.injEq,Prod.mk.injEq]at h;obtain ⟨rfl,rfl⟩:=h;obtain ⟨arr,rfl,h2,h3⟩:=hv;obtain ⟨as',c,p,e,l,s⟩:=znD I hF cs (us:=fun j=>arr.getD j undef) h3 h1
  have he:Y1.as=as':=by rw[e];simp
  refine ⟨c,p,s.as.mono fun Ef plc h=>⟨arr,rfl,by rw[he,h2,l],fun i hi=> ?_⟩⟩
  subst he;exact h i hi
 |t vs=>simp[expAV]at h
theorem znG(I:Inv W0 G0 S w a.tmps G pl){o:Foot}(hF:∀n ob,fget o n=some ob→S.obj n=some ob){sg:Sig}:∀(xs:List AV) {i:Nat} {Y Y':Exp} {as:List AV} {us:Nat→Value},
 (∀j (h:j<xs.length),VAV w G S.obj pl (us j) (xs[j]))→zcS o sg i Y xs=some (as,Y')→
 as.length=xs.length∧∃cos' pls',ExpS w G S.obj pl Y Y' cos' pls' (fun Ef plc=>∀j (h:j<as.length),VAV w (gIn Ef G) (obOf (Ef.cos.map (·.ob))) plc (us j) (as[j])):=by
 intro xs
 induction xs with
 |nil=>
  intro i Y Y' as us hv h;simp only[zcS,Option.some.injEq,Prod.mk.injEq]at h;obtain ⟨rfl,rfl⟩:=h;exact ⟨rfl,[],[], .nil _ _ (fun _ _ j h=>absurd h (by simp))⟩
 |cons x xs ih=>
  intro i Y Y' as us hv h;simp only[zcS]at h;split at h
  case h_2=>simp at h
  rename_i a' Y1 h1;split at h
  case h_2=>simp at h
  rename_i as' Y2 h2;simp only[Option.some.injEq,Prod.mk.injEq]at h;obtain ⟨rfl,rfl⟩:=h;obtain ⟨c1,p1,s1⟩:=zqz I hF (hv 0 (by simp)) h1
  obtain ⟨l2,c2,p2,s2⟩:=ih (us:=fun j=>us (j+1)) (fun j hj=>hv (j+1) (by simpa using hj)) h2
  refine ⟨by simp[l2],c1++c2,p1++p2,(s1.comp s2).mono fun Ef plc h j hj=> ?_⟩
  cases j with
  |zero=>exact h.1
  |succ j=>exact h.2 j (by simpa using hj)
theorem zqA(I:Inv W0 G0 S w a.tmps G pl){o:Foot}(hF:∀n ob,fget o n=some ob→S.obj n=some ob){sg:Sig}{xs as:List AV}{E:Exp}{args:Array Value}(hsz:args.size=xs.length)
 (hv:∀j (h:j<xs.length),VAV w G S.obj pl (args.getD j undef) (xs[j])) (h:zcS o sg 0 {} xs=some (as,E)) (hok:E.ok=true):
 ∃plc,Entry S.gl w (gIn E G) (E.cos.map (·.ob)) plc args as∧∀(k:Nat) co,E.cos[k]? =some co→CoOk w G S.obj pl co (plc k):=by
 obtain ⟨hl,cos',pls',s⟩:=znG I hF xs (us:=fun j=>args.getD j undef) hv h
 have hc:E.cos=cos':=by rw[s.cos];rfl
 have hpl:∀(k:Nat) P,pls'[k]? =some P→pls'.getD k ⟨none,fun _=>undef⟩=P:=fun k P h=>by simp[List.getD,h]
 have hfin:=s.fin E (fun k=>pls'.getD k ⟨none,fun _=>undef⟩) hok ⟨List.prefix_refl _,fun _ h=>h,fun _ h=>h⟩ (fun k P h=>by
  show pls'.getD (0+k) _=P;rw[Nat.zero_add];exact hpl k P h)
 refine ⟨_,{size:=by rw[hsz,hl],vals:=hfin.1,okObjs:=fun n ob hob hk=> ?_,own:=fun b x hx=> ?_,nolim:=fun b x hx=> ?_,glob:=I.glob.frame fun b _ h=>⟨rfl,zbX h⟩},fun k co hk=> ?_⟩
 ·simp only[obOf,List.getElem?_map,Option.map_eq_some_iff]at hob
  obtain ⟨co,h1,rfl⟩:=hob;have:=hfin.2 n co (by rw[←hc];exact h1) hk
  rw[show ({}:Exp).cos.length+n=n from by simp]at this
  exact this
 ·unfold gIn at hx
  split at hx
  ·simp at hx
  ·rename_i y hy
   refine (I.own b y hy).moved (fun hp=> ?_) rfl
   split at hx
   ·rename_i z hz
    obtain rfl:=Option.some.inj hx;exact zhv hz hp
   ·split at hx
    ·simp at hx
    ·obtain rfl:=Option.some.inj hx
     exact absurd hp zhu
 ·unfold gIn at hx
  split at hx
  ·simp at hx
  ·split at hx
   ·rename_i y hy
    simp only[Option.some.injEq]at hx;subst hx;obtain ⟨k,co,h1,h2,_⟩:=zgo hy;have:=(List.getElem?_eq_some_iff.1 h1).1;left;rw[List.length_map];omega
   ·split at hx
    ·simp at hx
    ·simp only[Option.some.injEq]at hx;subst hx;exact .inr rfl
 ·have h1:k<cos'.length:=by rw[←hc];exact (List.getElem?_eq_some_iff.1 hk).1
  have h2:pls'[k]? =some (pls'[k]'(by rw[s.len];exact h1)):=by simp[s.len,h1]
  have:=s.co k co _ (by rw[←hc];exact hk) h2
  rw[show pls'.getD k ⟨none,fun _=>undef⟩=_ from hpl k _ h2]
  exact this
end ops
end Go.PV
namespace Go.PV
open Go.RowKit
def zem(E:Exp)(N:Option Nat):Nat×List Nat→Option (Nat×List Nat)
 |(k,ρ)=>
  if k=E.cos.length then N.map fun n=>(n,ρ)
  else match E.cos[k]? with
   |some co=>match co.src.outn ρ with
    |some x=>if N=some x.1 then none else some x
    |none=>none
   |none=>none
def gOut(E:Exp)(fz:Bool)(N:Option Nat)(G G':Ghost):Ghost:=fun b=>
 match gIn E G b,G b with
 |some (k,ρ),x=>if k=FR then (match x with|some x=>if N=some x.1 then none else some x|none=>none)else (G' b).bind (zem E N)
 |none,some x=>if fz=true∨N=some x.1 then none else some x
 |none,none=>(G' b).bind (zem E N)
section gout
variable {E:Exp}{fz:Bool}{N:Option Nat}{G G':Ghost}{b:Nat}
theorem zkJ(h:G b=none)(h':G' b=none):gOut E fz N G G' b=none:=by
 simp[gOut,zbX h,h,h']
theorem zqB(h:G b=none):gOut E fz N G G' b=(G' b).bind (zem E N):=by
 simp[gOut,zbX h,h]
theorem zrU{x:Nat×List Nat}{ρ:List Nat}(hg:gIn E G b=some (FR,ρ))(h:G b=some x)(hN:N≠some x.1):gOut E fz N G G' b=some x:=by
 simp[gOut,hg,h,hN]
theorem zoB{x:Nat×List Nat}(hg:gIn E G b=none)(h:G b=some x)(hf:fz=false)(hN:N≠some x.1):gOut E fz N G G' b=some x:=by
 simp[gOut,hg,h,hf,hN]
theorem zkK{x:Nat×List Nat}(hg:gIn E G b=none)(h:G b=some x)(hf:fz=true):gOut E fz N G G' b=none:=by
 simp[gOut,hg,h,hf]
theorem zkL{k:Nat}{ρ:List Nat}(hg:gIn E G b=some (k,ρ))(hk:k≠FR):gOut E fz N G G' b=(G' b).bind (zem E N):=by
 simp[gOut,hg,hk]
theorem ziP{n:Nat}{ρ:List Nat}(hN:N=some n):zem E N (E.cos.length,ρ)=some (n,ρ):=by simp[zem,hN]
theorem zoC{k:Nat}{co:CO}{ρ:List Nat}{x:Nat×List Nat}(hk:E.cos[k]? =some co)(ho:co.src.outn ρ=some x)(hN:N≠some x.1):zem E N (k,ρ)=some x:=by
 have:k≠E.cos.length:=by
  have:=(List.getElem?_eq_some_iff.1 hk).1;omega
 simp[zem,this,hk,ho,hN]
theorem ziQ{y x:Nat×List Nat}(h:zem E N y=some x):(∃n,N=some n∧x.1=n∧y=(E.cos.length,x.2))∨∃co,E.cos[y.1]? =some co∧co.src.outn y.2=some x∧N≠some x.1:=by
 obtain ⟨k,ρ⟩:=y;simp only[zem]at h;split at h
 ·rename_i hk
  rw[Option.map_eq_some_iff]at h;obtain ⟨n,h1,h2⟩:=h;subst h2;exact .inl ⟨n,h1,rfl,by rw[hk]⟩
 ·split at h
  ·rename_i co hco
   split at h
   ·rename_i z hz
    split at h
    ·simp at h
    ·rename_i hN
     simp only[Option.some.injEq]at h;subst h;exact .inr ⟨co,hco,hz,hN⟩
   ·simp at h
  ·simp at h
theorem zjz{x:Nat×List Nat}(h:gOut E fz N G G' b=some x):(G b=some x∧N≠some x.1∧(gIn E G b=none∨∃ρ,gIn E G b=some (FR,ρ)))∨∃y,G' b=some y∧zem E N y=some x:=by
 unfold gOut at h;split at h
 ·rename_i _ k ρ hg
  split at h
  ·rename_i hk
   split at h
   ·rename_i z hz
    split at h
    ·simp at h
    ·rename_i hN
     simp only[Option.some.injEq]at h;subst h;exact .inl ⟨hz,hN, .inr ⟨ρ,by rw[hg,hk]⟩⟩
   ·simp at h
  ·rw[Option.bind_eq_some_iff]at h
   exact .inr h
 ·rename_i z hg hz
  split at h
  ·simp at h
  ·rename_i hN
   simp only[not_or]at hN;simp only[Option.some.injEq]at h;subst h;exact .inl ⟨hz,hN.2, .inl hg⟩
 ·rw[Option.bind_eq_some_iff]at h
  exact .inr h
end gout
theorem zoD{s:Src}{ρ:List Nat}{x:Nat×List Nat}(h:s.outn ρ=some x):s.mutName=[x.1]:=by
 cases s with
 |box n=>simp only[Src.outn,Option.some.injEq]at h;subst h;rfl
 |row n p=>
  cases ρ with
  |nil=>simp only[Src.outn,Option.some.injEq]at h;subst h;rfl
  |cons c ρ=>simp only[Src.outn,Option.some.injEq]at h;subst h;rfl
 |sl n p c=>
  cases ρ with
  |nil=>simp[Src.outn]at h
  |cons k ρ=>
   cases k with
   |zero=>simp only[Src.outn,Option.some.injEq]at h;subst h;rfl
   |succ k=>simp[Src.outn]at h
 |mv n p c=>simp[Src.outn]at h
 |grp n cs tk=>
  cases tk with
  |true=>simp[Src.outn]at h
  |false=>
  cases ρ with
  |nil=>simp[Src.outn]at h
  |cons i ρ=>
   simp only[Src.outn,Option.map_eq_some_iff]at h;obtain ⟨c,_,rfl⟩:=h;rfl
 |ro n p=>simp[Src.outn]at h
 |free=>simp[Src.outn]at h
structure NamesOk (o:Foot) (Y:Exp):Prop where
 bor:∀n∈Y.bor,∃ob,fget o n=some ob∧ob.kind.isBld=false
 bop:∀n∈Y.bop,n∈Y.bor
 cos:∀co∈Y.cos,∀n∈co.src.mutName,∃ob,fget o n=some ob
 ro:∀co∈Y.cos,∀n p,co.src= .ro n p→n∈Y.bor
theorem NamesOk.as{o:Foot}{Y:Exp}{l:List A1}(h:NamesOk o Y):NamesOk o {Y with as:=l}:=⟨h.bor,h.bop,h.cos,h.ro⟩
theorem zcy{α:Type}{l:List α}{x y:α}(h:y∈l++[x]):y∈l∨y=x:=by simpa using h
theorem ziR{o:Foot}{mode:Nat}{Y Y':Exp}{x:A1}(hY:NamesOk o Y)(h:exp1 o mode Y x=some Y'):NamesOk o Y':=by
 cases x with
 |bx cs c=>
  simp only[exp1]at h;split at h
  case h_2=>simp at h
  rename_i n hbp;split at h
  case h_2=>simp at h
  rename_i ob hfo;split at h
  case isFalse=>simp at h
  simp only[Option.some.injEq]at h;subst h;refine ⟨hY.bor,hY.bop,fun co hco m hm=> ?_,fun co hco m q hs=> ?_⟩
  ·rcases zcy hco with h|rfl
   ·exact hY.cos co h m hm
   ·simp only[Src.mutName,List.mem_singleton]at hm;subst hm;exact ⟨ob,hfo⟩
  ·rcases zcy hco with h|rfl
   ·exact hY.ro co h m q hs
   ·simp at hs
 |dead=>simp[exp1]at h
 |v x=>simp only[exp1,Option.some.injEq]at h;subst h;exact ⟨hY.bor,hY.bop,hY.cos,hY.ro⟩
 |s es=>simp only[exp1,Option.some.injEq]at h;subst h;exact ⟨hY.bor,hY.bop,hY.cos,hY.ro⟩
 |q row c=>
  simp only[exp1,Option.some.injEq]at h;subst h;refine ⟨hY.bor,hY.bop,fun co hco n hn=> ?_,fun co hco n p hs=> ?_⟩
  ·rcases zcy hco with h|rfl
   ·exact hY.cos co h n hn
   ·simp[Src.mutName]at hn
  ·rcases zcy hco with h|rfl
   ·exact hY.ro co h n p hs
   ·simp at hs
 |r n p c=>
  simp only[exp1]at h;split at h
  case h_2=>simp at h
  rename_i ob hfo;split at h
  ·split at h
   ·simp at h
   rename_i hnb;simp only[Option.some.injEq]at h;subst h;refine ⟨fun m hm=> ?_,fun m hm=>List.mem_cons_of_mem _ (hY.bop m hm),hY.cos,fun co hco m q hs=>List.mem_cons_of_mem _ (hY.ro co hco m q hs)⟩
   rcases List.mem_cons.1 hm with rfl|hm
   ·exact ⟨ob,hfo,by simpa using hnb⟩
   ·exact hY.bor m hm
  ·split at h
   ·simp at h
   ·simp only[Option.some.injEq]at h;subst h
    refine ⟨hY.bor,hY.bop,fun co hco m hm=> ?_,fun co hco m q hs=> ?_⟩
    ·rcases zcy hco with h|rfl
     ·exact hY.cos co h m hm
     ·have:m=n:=by
       revert hm
       simp only;split<;>simp[Src.mutName]
      subst this;exact ⟨ob,hfo⟩
    ·rcases zcy hco with h|rfl
     ·exact hY.ro co h m q hs
     ·revert hs
      simp only;split<;>simp
 |p ok n p c=>
  simp only[exp1]at h;split at h
  case h_2=>simp at h
  rename_i ob hfo;split at h
  ·split at h
   ·simp at h
   rename_i hnb;simp only[Option.some.injEq]at h;subst h;refine ⟨fun m hm=> ?_,fun m hm=> ?_,fun co hco m hm=> ?_,fun co hco m q hs=> ?_⟩
   ·rcases List.mem_cons.1 hm with rfl|hm
    ·exact ⟨ob,hfo,by simpa using hnb⟩
    ·exact hY.bor m hm
   ·revert hm
    simp only;split
    ·intro hm
     rcases List.mem_cons.1 hm with rfl|hm
     ·exact List.mem_cons_self
     ·exact List.mem_cons_of_mem _ (hY.bop m hm)
    ·exact fun hm=>List.mem_cons_of_mem _ (hY.bop m hm)
   ·rcases zcy hco with h|rfl
    ·exact hY.cos co h m hm
    ·simp[Src.mutName]at hm
   ·rcases zcy hco with h|rfl
    ·exact List.mem_cons_of_mem _ (hY.ro co h m q hs)
    ·simp only[Src.ro.injEq]at hs
     rw[hs.1];exact List.mem_cons_self
  ·split at h
   case isFalse=>simp at h
   split at h
   ·split at h
    ·simp only[Option.some.injEq]at h;subst h
     refine ⟨hY.bor,hY.bop,fun co hco m hm=> ?_,fun co hco m q hs=> ?_⟩
     ·rcases zcy hco with h|rfl
      ·exact hY.cos co h m hm
      ·simp only[Src.mutName,List.mem_singleton]at hm;subst hm;exact ⟨ob,hfo⟩
     ·rcases zcy hco with h|rfl
      ·exact hY.ro co h m q hs
      ·simp at hs
    ·simp at h
   ·rw[zbW]at h
    obtain ⟨_,rfl⟩:=h;refine ⟨hY.bor,hY.bop,fun co hco m hm=> ?_,fun co hco m q hs=> ?_⟩
    ·rcases zcy hco with h|rfl
     ·exact hY.cos co h m hm
     ·simp only[Src.mutName,List.mem_singleton]at hm;subst hm;exact ⟨ob,hfo⟩
    ·rcases zcy hco with h|rfl
     ·exact hY.ro co h m q hs
     ·simp at hs
theorem zgL{o:Foot}{mode:Nat}:∀(xs:List A1) {Y Y':Exp},NamesOk o Y→zef o mode Y xs=some Y'→NamesOk o Y':=by
 intro xs
 induction xs with
 |nil=>intro Y Y' hY h;simp only[zef,Option.some.injEq]at h;subst h;exact hY
 |cons x xs ih=>
  intro Y Y' hY h;simp only[zef]at h;split at h
  case h_2=>simp at h
  rename_i Y1 h1;exact ih (ziR hY h1) h
theorem zjA{o:Foot}:∀(xs:List A1) {Y Y':Exp},NamesOk o Y→zdP o Y xs=some Y'→NamesOk o Y':=by
 intro xs
 induction xs with
 |nil=>intro Y Y' hY h;simp only[zdP,Option.some.injEq]at h;subst h;exact hY
 |cons x xs ih=>
  intro Y Y' hY h;simp only[zdP]at h;split at h
  case h_2=>simp at h
  rename_i Y1 h1;exact ih (ziR hY h1) h
theorem zl3{o:Foot}{mode:Nat}{Y Y':Exp}{x x':AV}(hY:NamesOk o Y)(h:expAV o mode Y x=some (x',Y')):NamesOk o Y':=by
 cases x with
 |one x=>
  simp only[expAV]at h;split at h
  case h_2=>simp at h
  rename_i Y1 h1;simp only[Option.some.injEq,Prod.mk.injEq]at h;obtain ⟨_,rfl⟩:=h;exact zgL _ hY.as h1
 |g cs=>
  simp only[expAV]at h;split at h
  ·split at h
   case h_2=>simp at h
   rename_i n ids _ _ ob hfo;split at h
   ·simp at h
   simp only[Option.some.injEq,Prod.mk.injEq]at h;obtain ⟨_,rfl⟩:=h;refine ⟨hY.bor,hY.bop,fun co hco m hm=> ?_,fun co hco m q hs=> ?_⟩
   ·rcases zcy hco with h|rfl
    ·exact hY.cos co h m hm
    ·have:m=n:=by simpa[grpCo,Src.mutName]using hm
     subst this;exact ⟨ob,hfo⟩
   ·rcases zcy hco with h|rfl
    ·exact hY.ro co h m q hs
    ·simp[grpCo]at hs
  ·split at h
   case h_2=>simp at h
   rename_i Y1 h1;simp only[Option.some.injEq,Prod.mk.injEq]at h;obtain ⟨_,rfl⟩:=h;exact zgL _ hY.as h1
 |f fn cs=>
  simp only[expAV]at h;split at h
  case h_2=>simp at h
  rename_i Y1 h1;simp only[Option.some.injEq,Prod.mk.injEq]at h;obtain ⟨_,rfl⟩:=h;exact zjA _ hY.as h1
 |t vs=>simp[expAV]at h
theorem zjB{o:Foot}{sg:Sig}:∀(xs:List AV) {i:Nat} {Y Y':Exp} {as:List AV},NamesOk o Y→zcS o sg i Y xs=some (as,Y')→NamesOk o Y':=by
 intro xs
 induction xs with
 |nil=>intro i Y Y' as hY h;simp only[zcS,Option.some.injEq,Prod.mk.injEq]at h;obtain ⟨_,rfl⟩:=h;exact hY
 |cons x xs ih=>
  intro i Y Y' as hY h;simp only[zcS]at h;split at h
  case h_2=>simp at h
  rename_i a' Y1 h1;split at h
  case h_2=>simp at h
  rename_i as' Y2 h2;simp only[Option.some.injEq,Prod.mk.injEq]at h;obtain ⟨_,rfl⟩:=h;exact ih (zl3 hY h1) h2
theorem NamesOk.empty(o:Foot):NamesOk o {}:=⟨fun n h=>by simp at h,fun n h=>by simp at h,fun co h=>by simp at h,fun co h=>by simp at h⟩
end Go.PV
namespace Go.PV
open Go.RowKit
structure Aft (W0:World) (G0:Orig) (S:St) (w:World) (tm:Array Value) (G:Ghost) (pl:zaP) (E:Exp) (plc:zaP) (rs:RS) (w':World) (v:Value) (rv:Res) (G':Ghost) (pl':zaP)
 (fz:Bool) (N:Option Nat):Prop where
 inv:Inv W0 G0 S w tm G pl
 ok:E.ok=true
 bor:∀n∈E.bor,∃ob,S.obj n=some ob∧ob.kind.isBld=false
 co:∀(k:Nat) co,E.cos[k]? =some co→CoOk w G S.obj pl co (plc k)
 left:Left w ⟨gIn E G,obOf (E.cos.map (·.ob)),plc,S.gl⟩ (E.cos.map (·.ob)) rs w' v rv G' pl'
 new:∀n,N=some n→S.na≤n∧n<S.o.length
section aft
variable {W0:World}{G0:Orig}{S:St}{w w':World}{tm:Array Value}{G G':Ghost}{pl plc pl':zaP}{E:Exp}{rs:RS}{v:Value}{rv:Res}{fz:Bool}{N:Option Nat}
theorem Aft.lt(A:Aft W0 G0 S w tm G pl E plc rs w' v rv G' pl' fz N){b:Nat}{x:Nat×List Nat}(h:G b=some x):b<w.heap.size:=by
 exact (A.inv.own b x h).lt
theorem Aft.base(A:Aft W0 G0 S w tm G pl E plc rs w' v rv G' pl' fz N):zcc w w' G (gOut E fz N G G'):=fun b hb h=>by
 obtain ⟨h1,h2⟩:=A.left.base b hb (zbX h);exact ⟨h1,zkJ h h2⟩
theorem Aft.mut(A:Aft W0 G0 S w tm G pl E plc rs w' v rv G' pl' fz N){n:Nat}(h:n∈E.cos.flatMap fun c=>c.src.mutName):∃(k:Nat) (co:CO) (ob:Obj),E.cos[k]? =some co∧co.src.mutName=[n]∧S.obj n=some ob∧ob.kind≠ .ro:=by
 obtain ⟨co,h1,h2⟩:=List.mem_flatMap.1 h;obtain ⟨k,h3,h4⟩:=List.getElem_of_mem h1;have hk:E.cos[k]? =some co:=by rw[List.getElem?_eq_getElem h3,h4]
 have hc:=A.co k co hk;refine ⟨k,co, ?_⟩;obtain ⟨cob,src⟩:=co;cases src with
 |box m=>
  simp only[Src.mutName,List.mem_singleton]at h2;subst h2;exact ⟨cob,hk,rfl,hc.1,fun h=>by have:=hc.2.1;simp only at this;rw[h]at this;exact absurd this (by simp[Kind.isBld])⟩
 |row m p=>
  simp only[Src.mutName,List.mem_singleton]at h2;subst h2;obtain ⟨ob,ad,g1,g2,_⟩:=hc;exact ⟨ob,hk,rfl,g1,g2⟩
 |sl m p c=>
  simp only[Src.mutName,List.mem_singleton]at h2;subst h2;obtain ⟨ob,es,g1,g2,_⟩:=hc;exact ⟨ob,hk,rfl,g1.at0,g1.notRo g2⟩
 |mv m p c=>
  simp only[Src.mutName,List.mem_singleton]at h2;subst h2;obtain ⟨ob,es,g1,g2,_⟩:=hc;exact ⟨ob,hk,rfl,g1.at0,g1.notRo g2⟩
 |grp m cs tk=>
  simp only[Src.mutName,List.mem_singleton]at h2;subst h2;obtain ⟨ob,g1,g2,_⟩:=hc;exact ⟨ob,hk,rfl,g1,g2⟩
 |ro m p=>simp[Src.mutName]at h2
 |free=>simp[Src.mutName]at h2
theorem Aft.lt_mut(A:Aft W0 G0 S w tm G pl E plc rs w' v rv G' pl' fz N){n:Nat}(h:n∈E.cos.flatMap fun c=>c.src.mutName):n<S.o.length:=by
 obtain ⟨_,_,ob,_,_,h1,_⟩:=A.mut h;exact zdc h1
theorem Aft.rest(A:Aft W0 G0 S w tm G pl E plc rs w' v rv G' pl' fz N){b:Nat}{x:Nat×List Nat}(h:G b=some x)(hg:gInAt E.cos 0 x=none)(hl:lent E.bor E.bop x=false)(hN:N≠some x.1):
 w'.heap[b]? =w.heap[b]?∧gOut E fz N G G' b=some x:=by
 have h1:gIn E G b=some (FR,[0,0]):=by simp[gIn,h,hg,hl]
 exact ⟨(A.left.fr b [0,0] (A.lt h) h1).1,zrU h1 h hN⟩
theorem Aft.lent(A:Aft W0 G0 S w tm G pl E plc rs w' v rv G' pl' fz N){b:Nat}{x:Nat×List Nat}(h:G b=some x)(hl:lent E.bor E.bop x=true):
 w'.heap[b]? =w.heap[b]?∧gIn E G b=none:=by
 have hb:x.1∈E.bor:=by simp only[PV.lent,Bool.and_eq_true,List.contains_eq_mem,decide_eq_true_eq]at hl;exact hl.1
 have hg:=zel (x:=x) (Exp.ok_mem A.ok hb) 0;have h1:gIn E G b=none:=by simp[gIn,h,hg,hl]
 exact ⟨(A.left.base b (A.lt h) h1).1,h1⟩
theorem Aft.same(A:Aft W0 G0 S w tm G pl E plc rs w' v rv G' pl' fz N){n:Nat}(hm:n∉E.cos.flatMap fun c=>c.src.mutName){b:Nat}{π:List Nat}(h:G b=some (n,π)):w'.heap[b]? =w.heap[b]? :=by
 have hg:=zel (x:=(n,π)) hm 0;cases hl:PV.lent E.bor E.bop (n,π)with
 |true=>exact (A.lent h hl).1
 |false=>
  have h1:gIn E G b=some (FR,[0,0]):=by simp[gIn,h,hg,hl]
  exact (A.left.fr b [0,0] (A.lt h) h1).1
theorem Aft.keep(A:Aft W0 G0 S w tm G pl E plc rs w' v rv G' pl' fz N){n:Nat}(hm:n∉E.cos.flatMap fun c=>c.src.mutName)(hf:n∈E.bor→fz=false)(hN:N≠some n){b:Nat}{π:List Nat}(h:G b=some (n,π)):
 w'.heap[b]? =w.heap[b]?∧gOut E fz N G G' b=some (n,π):=by
 cases hl:PV.lent E.bor E.bop (n,π)with
 |true=>
  obtain ⟨h1,h2⟩:=A.lent h hl;have hb:n∈E.bor:=by simp only[PV.lent,Bool.and_eq_true,List.contains_eq_mem,decide_eq_true_eq]at hl;exact hl.1
  exact ⟨h1,zoB h2 h (hf hb) hN⟩
 |false=>exact A.rest h (zel hm 0) hl hN
theorem Aft.foreign(A:Aft W0 G0 S w tm G pl E plc rs w' v rv G' pl' fz N){b:Nat}{π:List Nat}(h:G b=some (FR,π)):w'.heap[b]? =w.heap[b]?∧gOut E fz N G G' b=some (FR,π):=by
 have hsm:=A.inv.small;refine A.keep (fun hm=> ?_) (fun hb=> ?_) (fun hN=> ?_) h
 ·have:=A.lt_mut hm;omega
 ·obtain ⟨ob,hob,_⟩:=A.bor _ hb
  have:=zdc hob;omega
 ·have:=(A.new _ hN).2;omega
theorem QObj.turn{Ga Gb:Ghost}{n:Nat}{fl:List Own}(hn:∀b,Ga b=none→Gb b=none)(hs:∀b π,Ga b=some (n,π)→Gb b=some (n,π)):∀π b,QObj Ga n fl π b→QObj Gb n fl π b:=by
 intro π b h;cases π with
 |nil=>exact h.elim
 |cons c ρ=>exact QCell.mono n c _ hn (fun b π h=>hs b _ h) ρ b h
theorem Aft.objKeep(A:Aft W0 G0 S w tm G pl E plc rs w' v rv G' pl' fz N){n:Nat}{ob:Obj}(hob:S.obj n=some ob)(hk:ob.kind≠ .ro)(hm:n∉E.cos.flatMap fun c=>c.src.mutName)(hf:n∈E.bor→fz=false)
 (hN:N≠some n):ObjRel w' (gOut E fz N G G') n (pl n) ob:=by
 have ho:=A.inv.objs n ob hob hk;refine {bld:=ho.bld.frame2 fun b π hb=>A.keep hm hf hN hb,fl:=ho.fl,rel:=ho.rel.frame (fun π b hl hq=> ?_) (fun π b hl hq=> ?_),box:=fun hb=> ?_}
 ·rcases hq.own with h|h
  ·exact (A.keep hm hf hN h).1
  ·exact (A.base b hl h).1
 ·cases π with
  |nil=>exact hq.elim
  |cons c ρ=>
   simp only[QObj]at hq⊢
   revert hq
   cases ob.fl.getD c .sh with
   |deep=>exact fun h=>(A.keep hm hf hN h).2
   |top=>
    simp only[QCell];split
    ·exact fun h=>(A.keep hm hf hN h).2
    ·exact fun h=>(A.base b hl h).2
   |sh=>exact fun h=>(A.base b hl h).2
 ·obtain ⟨b,off,cs,ty,h1,h2,h3,h4,h5⟩:=ho.box hb
  obtain ⟨g1,g2⟩:=A.keep hm hf hN h2;exact ⟨b,off,cs,ty,h1,g2,by rw[g1];exact h3,h4,h5⟩
theorem Aft.objFroz(A:Aft W0 G0 S w tm G pl E plc rs w' v rv G' pl' fz N){n:Nat}{ob:Obj}(hob:S.obj n=some ob)(hk:ob.kind≠ .ro)(hb:n∈E.bor)(hf:fz=true)(hp:ob.kind= .box→n∉E.bop)(hN:N≠some n):
 ObjRel w' (gOut E fz N G G') n (pl n) {ob with fl:=ob.fl.map fun _=> .sh}:=by
 have ho:=A.inv.objs n ob hob hk;have hm:=Exp.ok_mem A.ok hb
 have hnb:ob.kind.isBld=false:=by
  obtain ⟨ob',h1,h2⟩:=A.bor n hb;rw[hob]at h1;obtain rfl:=Option.some.inj h1;exact h2
 refine {bld:= .not hnb,fl:=by simpa using ho.fl,rel:=ho.rel.frame (fun π b hl hq=> ?_) (fun π b hl hq=> ?_),box:=fun hbx=> ?_}
 ·rcases hq.own with h|h
  ·exact A.same hm h
  ·exact (A.base b hl h).1
 ·cases π with
  |nil=>exact hq.elim
  |cons c ρ=>
   have hsh:(ob.fl.map fun _=>Own.sh).getD c .sh= .sh:=by
    simp only[List.getD,List.getElem?_map];cases ob.fl[c]? <;>rfl
   show QCell _ n c ((ob.fl.map fun _=>Own.sh).getD c .sh) ρ b
   rw[hsh];show gOut E fz N G G' b=none;rcases hq.own with h|h
   ·have hl2:PV.lent E.bor E.bop (n,c::ρ)=true:=by simp[PV.lent,hb]
    exact zkK (A.lent h hl2).2 h hf
   ·exact (A.base b hl h).2
 ·have hbx:ob.kind= .box:=hbx
  obtain ⟨b,off,cs,ty,h1,h2,h3,h4,h5⟩:=ho.box hbx;have hl2:PV.lent E.bor E.bop (n,[])=false:=by simp[PV.lent,hp hbx]
  obtain ⟨g1,g2⟩:=A.rest h2 (zel hm 0) hl2 hN;exact ⟨b,off,cs,ty,h1,g2,by rw[g1];exact h3,h4,h5⟩
end aft
end Go.PV
namespace Go.PV
open Go.RowKit
theorem zdN{cos:List CO}(hn:nodup (cos.flatMap fun c=>c.src.mutName)=true):∀{i j:Nat} {a b:CO} {n:Nat},cos[i]? =some a→cos[j]? =some b→n∈a.src.mutName→n∈b.src.mutName→i=j:=by
 induction cos with
 |nil=>intro i j a b n h;simp at h
 |cons c cs ih=>
  intro i j a b n hi hj ha hb;simp only[List.flatMap_cons]at hn;obtain ⟨h1,h2⟩:=zkH hn;have hmem:∀{k:Nat} {x:CO},cs[k]? =some x→n∈x.src.mutName→n∈cs.flatMap fun c=>c.src.mutName:=fun h h'=>List.mem_flatMap.2 ⟨_,List.mem_of_getElem? h,h'⟩
  cases i with
  |zero=>
   cases j with
   |zero=>rfl
   |succ j=>
    simp only[List.getElem?_cons_zero,Option.some.injEq,List.getElem?_cons_succ]at hi hj;subst hi;exact absurd (hmem hj hb) (h2 n ha)
  |succ i=>
   cases j with
   |zero=>
    simp only[List.getElem?_cons_zero,Option.some.injEq,List.getElem?_cons_succ]at hi hj;subst hj;exact absurd (hmem hi ha) (h2 n hb)
   |succ j=>
    simp only[List.getElem?_cons_succ]at hi hj;rw[ih h1 hi hj ha hb]
theorem znH{cos:List CO}(hn:nodup (cos.flatMap fun c=>c.src.mutName)=true){k:Nat}{co:CO}{x:Nat×List Nat}(hk:cos[k]? =some co)(hm:co.src.mutName=[x.1])(hi:co.src.inn x=none)(i:Nat):
 gInAt cos i x=none:=by
 cases hg:gInAt cos i x with
 |none=>rfl
 |some y=>
  obtain ⟨k',co',h1,_,h3⟩:=zgo hg;have:=zdN hn hk h1 (n:=x.1) (by rw[hm];simp) (by rw[Src.inn_name h3];simp)
  subst this;rw[hk]at h1;obtain rfl:=Option.some.inj h1;rw[hi]at h3;simp at h3
theorem zoE{a b:D}(h:zbH a b=true):zmM a b=b:=by
 unfold zbH at h;split at h
 ·simp only[decide_eq_true_eq]at h
  subst h;rfl
 ·rfl
 ·rfl
 ·rfl
 ·rfl
 ·rfl
 ·simp at h
theorem zci{a b:Obj}(h:zcY a b=true):zcB a b=b∧b.kind=a.kind∧b.row.length=a.row.length∧b.fl=a.fl∧∀c,c<a.row.length→zbH (a.row.getD c .h) (b.row.getD c .h)=true:=by
 simp only[zcY,Bool.and_eq_true,decide_eq_true_eq,beq_iff_eq,List.all_eq_true]at h;obtain ⟨⟨⟨h1,h2⟩,h3⟩,h4⟩:=h
 have hs:∀c,c<a.row.length→zbH (a.row.getD c .h) (b.row.getD c .h)=true:=fun c hc=>by
  have hb:c<b.row.length:=by omega
  have:=h4 (a.row[c],b.row[c]) (by
   rw[List.mem_iff_getElem];exact ⟨c,by simp;omega,by simp⟩)
  rw[za2 _ _ _ hc,za2 _ _ _ hb];exact this
 refine ⟨?_,h1.symm,h2.symm,h3.symm,hs⟩;obtain ⟨bk,br,bf⟩:=b;simp only at h1 h2 h3;simp only[zcB];rw[←h1,←h3];congr 1
 apply List.ext_getElem
 ·simp[h2]
 ·intro i hi hi2
  simp only[List.length_map,List.length_zipIdx]at hi;simp only[List.getElem_map,List.getElem_zipIdx,Nat.zero_add];have:=hs i hi;rw[za2 _ _ _ hi]at this;rw[zoE this];exact za2 _ _ _ hi2
section aft
variable {W0:World}{G0:Orig}{S:St}{w w':World}{tm:Array Value}{G G':Ghost}{pl plc pl':zaP}{E:Exp}{rs:RS}{v:Value}{rv:Res}{fz:Bool}{N:Option Nat}
theorem Aft.nodup(A:Aft W0 G0 S w tm G pl E plc rs w' v rv G' pl' fz N):nodup (E.cos.flatMap fun c=>c.src.mutName)=true:=by
 have:=A.ok;simp only[Exp.ok,Bool.and_eq_true]at this;exact this.1.1
theorem Aft.back(A:Aft W0 G0 S w tm G pl E plc rs w' v rv G' pl' fz N){b k:Nat}{ρ:List Nat}(h:G' b=some (k,ρ))(hk:k≤E.cos.length):gOut E fz N G G' b=zem E N (k,ρ):=by
 have hsm:=Exp.ok_small A.ok;cases hG:G b with
 |none=>rw[zqB hG,h];rfl
 |some x=>
  cases hi:gIn E G b with
  |none=>
   have:=(A.left.base b (A.lt hG) hi).2;rw[h]at this;simp at this
  |some y=>
   obtain ⟨k0,ρ0⟩:=y;by_cases hf:k0=FR
   ·subst hf
    have:=(A.left.fr b ρ0 (A.lt hG) hi).2.trans hi;rw[h]at this;simp only[Option.some.injEq,Prod.mk.injEq]at this;omega
   ·rw[zkL hi hf,h];rfl
theorem Aft.gone(A:Aft W0 G0 S w tm G pl E plc rs w' v rv G' pl' fz N){b:Nat}(hf:fz=true)(h:G' b=none):gOut E fz N G G' b=none:=by
 cases hG:G b with
 |none=>exact zkJ hG h
 |some x=>
  cases hi:gIn E G b with
  |none=>exact zkK hi hG hf
  |some y=>
   obtain ⟨k0,ρ0⟩:=y;by_cases hf:k0=FR
   ·subst hf
    have:=(A.left.fr b ρ0 (A.lt hG) hi).2.trans hi;rw[h]at this;simp at this
   ·rw[zkL hi hf,h];rfl
theorem Aft.backCo(A:Aft W0 G0 S w tm G pl E plc rs w' v rv G' pl' fz N){k:Nat}{co:CO}(hk:E.cos[k]? =some co){b:Nat}{ρ:List Nat}{x:Nat×List Nat}(h:G' b=some (k,ρ))(ho:co.src.outn ρ=some x)(hN:N≠some x.1):
 gOut E fz N G G' b=some x:=by
 rw[A.back h (Nat.le_of_lt (List.getElem?_eq_some_iff.1 hk).1),zoC hk ho hN]
theorem Aft.restCo(A:Aft W0 G0 S w tm G pl E plc rs w' v rv G' pl' fz N){k:Nat}{co:CO}(hk:E.cos[k]? =some co){n:Nat}(hm:co.src.mutName=[n])(hN:N≠some n){b:Nat}{π:List Nat}(h:G b=some (n,π))(hi:co.src.inn (n,π)=none):
 w'.heap[b]? =w.heap[b]?∧gOut E fz N G G' b=some (n,π):=by
 refine A.rest h (znH A.nodup hk hm hi 0) ?_ hN;have:n∉E.bor:=fun hb=>Exp.ok_mem A.ok hb (List.mem_flatMap.2 ⟨co,List.mem_of_getElem? hk,by rw[hm];simp⟩)
 simp[PV.lent,this]
theorem Aft.cellBack(A:Aft W0 G0 S w tm G pl E plc rs w' v rv G' pl' fz N){k:Nat}{co:CO}(hk:E.cos[k]? =some co){n c:Nat}{wn:Own}(hfz:wn≠ .deep→fz=true)(ho:∀ρ,co.src.outn (c::ρ)=some (n,c::ρ))(hN:N≠some n):
 ∀ρ b,QCell G' k c wn ρ b→QCell (gOut E fz N G G') n c wn ρ b:=by
 intro ρ b;cases wn with
 |deep=>exact fun h=>A.backCo hk h (ho ρ) hN
 |top=>
  simp only[QCell];split
  ·exact fun h=>A.backCo hk h (ho []) hN
  ·exact fun h=>A.gone (hfz (by simp)) h
 |sh=>exact fun h=>A.gone (hfz (by simp)) h
theorem Aft.objBox(A:Aft W0 G0 S w tm G pl E plc rs w' v rv G' pl' fz N){k n:Nat}{ob ob1:Obj}(hk:E.cos[k]? =some ⟨ob, .box n⟩)(h1:rv.objs[k]? =some ob1)(hkind:ob1.kind= .box∨ob1.kind.isBld=true)
 (hfz:(∀wn∈ob1.fl,wn= .deep)∨fz=true) (hN:N≠some n):ObjRel w' (gOut E fz N G G') n (pl' k) ob1:=by
 have ho:=A.left.okObjs k ob1 h1 (fun h=>by rw[h]at hkind;exact absurd hkind (by simp[Kind.isBld]))
 refine {bld:=ho.bld.frame2 fun b π hb=>⟨rfl,A.backCo hk hb rfl hN⟩,fl:=ho.fl,rel:=fun c hc=>(ho.rel c hc).mono fun ρ b h=> ?_,box:=fun hb=> ?_}
 ·refine A.cellBack hk (fun hw=> ?_) (fun _=>rfl) hN ρ b h
  rcases hfz with hd|h
  ·refine absurd (hd _ ?_) hw
   have:c<ob1.fl.length:=by rw[ho.fl];exact hc
   rw[za2 _ _ _ this];exact List.getElem_mem this
  ·exact h
 ·obtain ⟨b,off,cs,ty,g1,g2,g3,g4,g5⟩:=ho.box hb
  exact ⟨b,off,cs,ty,g1,A.backCo hk g2 rfl hN,g3,g4,g5⟩
end aft
end Go.PV
namespace Go.PV
open Go.RowKit
theorem QObj.turn1{Ga Gb:Ghost}{n:Nat}{fl:List Own}{π:List Nat}{b:Nat}(hs:Ga b=some (n,π)→Gb b=some (n,π))(hn:Ga b=none→Gb b=none)(h:QObj Ga n fl π b):QObj Gb n fl π b:=by
 cases π with
 |nil=>exact h.elim
 |cons c ρ=>
  simp only[QObj]at h⊢
  revert h
  cases fl.getD c .sh with
  |deep=>exact hs
  |top=>
   simp only[QCell];split
   ·rename_i hρ;subst hρ;exact hs
   ·exact hn
  |sh=>exact hn
theorem zkM{Ga:Ghost}{n:Nat}{fl:List Own}{p:Path}(hp:p≠[])(hd:∀c,ownAt fl p c= .deep)(π:List Nat)(b:Nat):
 QObj Ga n fl (flat p++π) b↔Ga b=some (n,flat p++π):=by
 cases p with
 |nil=>exact absurd rfl hp
 |cons x p=>
  obtain ⟨c0,e0⟩:=x
  have h2:fl.getD c0 .sh= .deep:=by
   have:=hd 0;simp only[ownAt]at this;split at this
   ·rename_i h;exact h
   ·simp at this
  show QCell Ga n c0 (fl.getD c0 .sh) (e0::(flat p++π)) b↔_;rw[h2];exact Iff.rfl
theorem zgp{Ga:Ghost}{n:Nat}{fl:List Own}{p:Path}(hp:p≠[])(hd:∀c,ownAt fl p c= .deep)(b:Nat):
 QObj Ga n fl (flat p).dropLast b↔Ga b=some (n,(flat p).dropLast):=by
 cases p with
 |nil=>exact absurd rfl hp
 |cons x p=>
  obtain ⟨c0,e0⟩:=x
  have h2:fl.getD c0 .sh= .deep:=by
   have:=hd 0;simp only[ownAt]at this;split at this
   ·rename_i h;exact h
   ·simp at this
  by_cases hq:p=[]
  ·subst hq
   show QCell Ga n c0 (fl.getD c0 .sh) [] b↔_;rw[h2];exact Iff.rfl
  ·rw[za7 _ _ hq]
   show QCell Ga n c0 (fl.getD c0 .sh) (e0::(flat p).dropLast) b↔_;rw[h2];exact Iff.rfl
theorem zjC{fl:List Own}{p:Path}(hp:p≠[]){c:Nat}(h:ownAt fl p c≠ .sh):∀c,ownAt fl p c= .deep:=by
 cases p with
 |nil=>exact absurd rfl hp
 |cons x p=>
  intro c';simp only[ownAt]at h⊢;split
  ·rfl
  ·rename_i h0;rw[if_neg h0]at h;exact absurd rfl h
section aft
variable {W0:World}{G0:Orig}{S:St}{w w':World}{tm:Array Value}{G G':Ghost}{pl plc pl':zaP}{E:Exp}{rs:RS}{v:Value}{rv:Res}{fz:Bool}{N:Option Nat}
theorem Aft.objPath(A:Aft W0 G0 S w tm G pl E plc rs w' v rv G' pl' fz N){k:Nat}{co:CO}(hk:E.cos[k]? =some co){n:Nat}(hm:co.src.mutName=[n])(hN:N≠some n){ob:Obj}(hob:S.obj n=some ob)(hkro:ob.kind≠ .ro)
 {p:Path} (hp0:p≠[]) (hpath:zbR ob.row p) {ad:Addr} {hd0:Nat→Value} (Ds:Desc w (QObj G n ob.fl) (hdf (pl n)) ob.row p (pl n).base ad hd0) (hdeep:∀c,ownAt ob.fl p c= .deep)
 (row':List D) (hd':Nat→Value) (hlen:row'.length=(zaj ob.row p).length) (hinn:∀π,¬(flat p<+:π)→π≠(flat p).dropLast→co.src.inn (n,π)=none)
 (hlt:ad.block<w'.heap.size) (hout:∀o,(o<ad.off∨ad.off+(zaj ob.row p).length≤o)→w'.cell? ⟨ad.block,o,none⟩=w.cell? ⟨ad.block,o,none⟩)
 (hin:∀j,j<row'.length→w'.cell? ⟨ad.block,ad.off+j,none⟩=some (hd' j)) (hblk:gOut E fz N G G' ad.block=some (n,(flat p).dropLast))
 (hnew:zcC w' (fun π b=>QObj (gOut E fz N G G') n ob.fl (flat p++π) b) hd' row'):
 ObjRel w' (gOut E fz N G G') n (pl n) {ob with row:=zaC ob.row p row'}:=by
 have hrel:=A.inv.objs n ob hob hkro;have hgl:=zby p ob.row row' (fun h=>absurd h hp0)
 refine {bld:= .not (hrel.bld.path hpath hp0),fl:=by show ob.fl.length=_;rw[hgl];exact hrel.fl,rel:= ?_,box:=fun hb=> ?_}
 ·refine zgj p Ds hrel.rel hpath hp0 row' hd' hlen (fun π b hl hq h1 h2=> ?_) hlt hout hin (fun π hq=> ?_) (fun π b hl hq h1 h3=> ?_) hnew
  ·rcases hq.own with h|h
   ·exact (A.restCo hk hm hN h (hinn π h1 h2)).1
   ·exact (A.base b hl h).1
  ·have hb:=(zgp hp0 hdeep _).1 Ds.blk
   rcases hq.own with h|h<;>rw[hb]at h
   ·simp only[Option.some.injEq,Prod.mk.injEq,true_and]at h
    exact h.symm
   ·simp at h
  ·by_cases hπ:π=(flat p).dropLast
   ·have:=h3 hπ
    subst hπ this;exact (zgp hp0 hdeep _).2 hblk
   ·exact hq.turn1 (fun h=>(A.restCo hk hm hN h (hinn π h1 hπ)).2) (fun h=>(A.base b hl h).2)
 ·have hb:ob.kind= .box:=hb
  obtain ⟨b,off,cs,ty,g1,g2,g3,g4,g5⟩:=hrel.box hb;obtain ⟨h1,h2⟩:=A.restCo hk hm hN g2 (hinn [] (fun h=>zrQ hp0 (List.prefix_nil.1 h)) (fun h=>zhw hp0 h.symm))
  exact ⟨b,off,cs,ty,g1,h2,by rw[h1];exact g3,by show off+(zaC ob.row p row').length≤_;rw[hgl];exact g4,fun c hc=>g5 c (by
   have hc:c<(zaC ob.row p row').length:=hc;rw[hgl]at hc;exact hc)⟩
theorem Aft.objSlot(A:Aft W0 G0 S w tm G pl E plc rs w' v rv G' pl' fz N){k:Nat}{co:CO}(hk:E.cos[k]? =some co){n:Nat}{p:Path}{c:Nat}(hs:co.src= .sl n p c∨co.src= .mv n p c)(hN:N≠some n){ob:Obj}{u:Value}
 (hr:RefR w G S.obj pl n p c u ob) (hown:ownAt ob.fl p c≠ .sh) (d:D) (hnew:Rel w' (fun π b=>QObj (gOut E fz N G G') n ob.fl (flat p++c::π) b) u d):
 ObjRel w' (gOut E fz N G G') n (pl n) {ob with row:=zaC ob.row p ((zaj ob.row p).set c d)}:=by
 have hro:=hr.notRo hown;have hrel:=A.inv.objs n ob hr.at0 hro;have hm:co.src.mutName=[n]:=by rcases hs with h|h<;>rw[h]<;>rfl
 have hinn:∀π,¬((flat p++[c])<+:π)→co.src.inn (n,π)=none:=fun π h=>by
  rcases hs with h'|h'<;>rw[h']<;>simp[Src.inn,h]
 have hcell:∀j (hj:j<(zaj ob.row p).length) (x:Value),j≠c→Rel w (fun π b=>QObj G n ob.fl (flat p++j::π) b) x ((zaj ob.row p)[j])→Rel w' (fun π b=>QObj (gOut E fz N G G') n ob.fl (flat p++j::π) b) x ((zaj ob.row p)[j]):=by
  intro j hj x hne h
  have hni:∀π,co.src.inn (n,flat p++j::π)=none:=fun π=>hinn _ (fun hp=>by
   rw[List.prefix_append_right_inj]at hp;exact hne (List.cons_prefix_cons.1 hp).1.symm)
  refine h.frame (fun π b hl hq=> ?_) (fun π b hl hq=>hq.turn1 (fun h=>(A.restCo hk hm hN h (hni π)).2) (fun h=>(A.base b hl h).2))
  rcases hq.own with h|h
  ·exact (A.restCo hk hm hN h (hni π)).1
  ·exact (A.base b hl h).1
 by_cases hp0:p=[]
 ·subst hp0
  have hu:(pl n).hd c=u:=by have:=hr.head;simp only[zb2,if_true,Option.some.injEq]at this;exact this
  refine {bld:= .not (hr.notBld A.inv.objs),fl:=by show ob.fl.length=(ob.row.set c d).length;simpa using hrel.fl,rel:=fun j hj=> ?_,box:=fun hb=> ?_}
  ·have hj2:j<(ob.row.set c d).length:=hj
   have hj3:j<ob.row.length:=by simpa using hj2
   show Rel w' _ _ ((ob.row.set c d)[j]'hj2);rw[getElem_set];by_cases hc:c=j
   ·subst hc
    rw[if_pos rfl,hu];exact hnew
   ·rw[if_neg hc]
    exact hcell j hj3 _ (fun h=>hc h.symm) (hrel.rel j hj3)
  ·have hb:ob.kind= .box:=hb
   obtain ⟨b,off,cs,ty,g1,g2,g3,g4,g5⟩:=hrel.box hb;obtain ⟨h1,h2⟩:=A.restCo hk hm hN g2 (hinn [] (fun h=>by have:=h.length_le;simp at this))
   have hgl:(ob.row.set c d).length=ob.row.length:=by simp
   exact ⟨b,off,cs,ty,g1,h2,by rw[h1];exact g3,by show off+(ob.row.set c d).length≤_;rw[hgl];exact g4,fun j hj=>g5 j (by
    have hj:j<(ob.row.set c d).length:=hj;rw[hgl]at hj;exact hj)⟩
 ·obtain ⟨ad,hd0,Ds⟩:=zdb p (pl n).base hrel.rel hr.path hp0
  have hdeep:=zjC hp0 hown;have hbG:=(zgp hp0 hdeep _).1 Ds.blk
  have hnp:¬((flat p++[c])<+:(flat p).dropLast):=fun h=>by
   have:=h.length_le;simp only[List.length_append,List.length_dropLast,List.length_cons,List.length_nil]at this;omega
  obtain ⟨hsame,hblk⟩:=A.restCo hk hm hN hbG (hinn _ hnp)
  have hu:hd0 c=u:=by
   have h1:=hr.head;simp only[zb2,if_neg hp0]at h1
   have h2:zaD w (hdf (pl n)) ob.row p none=zaD w (hdf (pl n)) ob.row p (pl n).base:=by
    cases p with
    |nil=>exact absurd rfl hp0
    |cons x p=>obtain ⟨c0,e0⟩:=x;rfl
   have h3:zaD w (hdf (pl n)) ob.row p (pl n).base=some ad:=Ds.at_;rw[h2,h3,Option.bind_some,Ds.cell c hr.lt]at h1;exact Option.some.inj h1
  refine A.objPath hk hm hN hr.at0 hro hp0 hr.path Ds hdeep _ hd0 (by simp) (fun π h1 _=>hinn π (fun h=>h1 ((List.prefix_append _ _).trans h))) (zeh hsame Ds.lt) (fun o _=>cell_of_heap hsame o)
   (fun j hj=>by rw[cell_of_heap hsame];exact Ds.cell j (by simpa using hj)) hblk (fun j hj=> ?_)
  have hj3:j<(zaj ob.row p).length:=by simpa using hj
  rw[getElem_set];by_cases hc:c=j
  ·subst hc
   rw[if_pos rfl,hu];exact hnew
  ·rw[if_neg hc]
   exact hcell j hj3 _ (fun h=>hc h.symm) (Ds.rel j hj3)
end aft
end Go.PV
