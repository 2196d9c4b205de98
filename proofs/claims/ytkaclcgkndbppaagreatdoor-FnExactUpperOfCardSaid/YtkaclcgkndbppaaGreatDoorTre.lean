/- A part of the proof: PvG, PvT1, PvP1, PvP2, PvP3, PvT2, PvT4, PvT5, PvT6, PvT7, PvT8, PvT9, PvTA, PvTB. -/
import Derived.Test.YtkaclcgkndbppaaGreatDoorDat
import Derived.Test.YtkaclcgkndbppaaGreatDoorTy
import Derived.Test.YtkaclcgkndbppaaGreatDoorDau
set_option linter.unusedSimpArgs false
set_option linter.unusedVariables false
namespace Go.PVx
open Go.PV Go.Proofs
theorem zmm{α:Type}(f:α→List D)(m:List α)(x y:List D)(r:List (List D)):(m.map f++x::r).set m.length y=m.map f++y::r:=by
 rw[List.set_append_right _ _ (by simp),List.length_map,Nat.sub_self,List.set_cons_zero]
noncomputable def mks{α:Type}(c:α→Nat)(mk:Int→α→α):Int→List α→List α
 |_,[]=> []
 |k,a::l=>mk k a::mks c mk (k+c a) l
@[simp] theorem zsl{α:Type}(c:α→Nat)(mk:Int→α→α):∀(l:List α) (k:Int),(mks c mk k l).length=l.length
 | [],_=>rfl
 |_::l,k=>by simp[mks,zsl c mk l]
theorem znh{α X:Type}(e:α→List D)(c:α→Nat)(mk:Int→α→α)(p:α→Prop)(L:Int→Int→List (List D)→Option X)(R:Int→List (List D)→Option X)
 (hs:∀(m l:List α) (a:α) (k:Int),p a→0≤k→k+c a≤Top→m.length+l.length+1≤1048576→
   L k m.length (m.map e++e a::l.map e)=L (k+c a) ((m.length+1:Nat):Int) (m.map e++e (mk k a)::l.map e))
 (he:∀(m:List α) (k:Int),L k m.length (m.map e)=R k (m.map e)):
 ∀(l m:List α) (k:Int),(∀a∈l,p a)→0≤k→k+(sumW c l:Nat)≤Top→m.length+l.length≤1048576→
  L k m.length (m.map e++l.map e)=R (k+(sumW c l:Nat)) ((m++mks c mk k l).map e)
 | [],m,k,_,h0,h1,hl=>by simp[mks,sumW,he]
 |a::l,m,k,hp,h0,h1,hl=>by
  simp only[sumW]at h1;simp only[List.length_cons]at hl;have:=znh e c mk p L R hs he l (m++[mk k a]) (k+c a) (fun b hb=>hp b (by simp[hb])) (by omega) (by push_cast at h1⊢;omega) (by simp only[List.length_append,List.length_cons,List.length_nil];omega)
  simp only[List.map_cons,mks,sumW];rw[hs m l a k (hp a (by simp)) h0 (by push_cast at h1;omega) (by omega)]
  rw[show m++mk k a::mks c mk (k+c a) l=m++[mk k a]++mks c mk (k+c a) l from by simp]
  rw[show k+((c a+sumW c l:Nat):Int)=k+c a+(sumW c l:Nat) by push_cast;omega,←this]
  simp
theorem zrx{α X:Type}(e:α→List D)(c:α→Nat)(mk:Int→α→α)(p:α→Prop)(L:List (List D)→Int→Int→Option X)(R:Int→Option X)
 (hs:∀(m l:List α) (a:α) (k:Int),p a→0≤k→k+c a≤Top→m.length+l.length+1≤1048576→
   L (m.map e++e (mk k a)::l.map e) k m.length=L (m.map e++e (mk k a)::l.map e) (k+c a) ((m.length+1:Nat):Int))
 (he:∀(m:List α) (k:Int),L (m.map e) k m.length=R k):
 ∀(l m:List α) (k:Int),(∀a∈l,p a)→0≤k→k+(sumW c l:Nat)≤Top→m.length+l.length≤1048576→
  L (m.map e++(mks c mk k l).map e) k m.length=R (k+(sumW c l:Nat))
 | [],m,k,_,h0,h1,hl=>by simp[mks,sumW,he]
 |a::l,m,k,hp,h0,h1,hl=>by
  simp only[sumW]at h1;simp only[List.length_cons]at hl;have:=zrx e c mk p L R hs he l (m++[mk k a]) (k+c a) (fun b hb=>hp b (by simp[hb])) (by omega) (by push_cast at h1⊢;omega) (by simp only[List.length_append,List.length_cons,List.length_nil];omega)
  simp only[List.map_cons,mks,sumW];rw[hs m (mks c mk (k+c a) l) a k (hp a (by simp)) h0 (by push_cast at h1;omega) (by simp;omega)]
  rw[show k+((c a+sumW c l:Nat):Int)=k+c a+(sumW c l:Nat) by push_cast;omega,←this]
  simp
end Go.PVx
namespace Go.PVx
open Go.PV Go.Proofs
mutual
def cT:Tree→Nat
 |⟨_,_,_,ns,ks⟩=>3+ns.length+cTs ks
def cTs:List Tree→Nat
 | []=>0
 |t::ts=>cT t+cTs ts
end
theorem zpM:∀l:List Tree,cTs l=sumW cT l
 | []=>rfl
 |t::ts=>by rw[cTs,zpM ts,sumW]
theorem cT_eq(t:Tree):cT t=3+t.names.length+sumW cT t.kids:=by
 obtain ⟨d,m,s,ns,ks⟩:=t;rw[cT,zpM]
theorem cT_le(t:Tree):cT t≤3*(1+wT t):=by
 induction t using Tree.ind with
 |h d m s ns ks ih=>
  rw[cT_eq,wT_eq];have h1:ns.length≤wP ns:=zcf _ _
  have h2:∀l:List Tree,(∀x∈l,cT x≤3*(1+wT x))→sumW cT l≤3*wL wT l:=by
   intro l hl
   induction l with
   |nil=>simp[sumW]
   |cons x l ihl=>
    have:=hl x (by simp)
    have:=ihl (fun y hy=>hl y (by simp[hy]))
    simp only[sumW,wL];omega
  have:=h2 ks ih;simp only;omega
mutual
noncomputable def mT:Tree→Int→Tree
 |⟨_,_,_,ns,ks⟩,k=>⟨k.tmod 3==0,k+1,mt (k+2),mP (k+3) ns,mTs ks (k+3+ns.length)⟩
noncomputable def mTs:List Tree→Int→List Tree
 | [],_=> []
 |t::ts,k=>mT t k::mTs ts (k+cT t)
end
theorem mT_eq(t:Tree)(k:Int):mT t k=⟨k.tmod 3==0,k+1,mt (k+2),mP (k+3) t.names,mTs t.kids (k+3+t.names.length)⟩:=by
 obtain ⟨d,m,s,ns,ks⟩:=t;rw[mT]
theorem zpN:∀(l:List Tree) (k:Int),mTs l k=mks cT (fun k t=>mT t k) k l
 | [],_=>by rw[mTs];rfl
 |t::ts,k=>by rw[mTs,zpN ts];rfl
theorem zj1(l:List Tree)(hl0:l.length≤1048576)
 (hX:∀a∈l,∀k:Int,0≤k→k+(sumW cT a.kids:Nat)≤Top→zay [.one (.r 0 [] 0),vI k] [gV (a.kids.map eT)]=rM (k+(sumW cT a.kids:Nat)) ((mTs a.kids k).map eT))
 (k:Int) (h0:0≤k) (h1:k+(sumW cT l:Nat)≤Top):
 zay [.one (.r 0 [] 0),vI k] [gV (l.map eT)]=rM (k+(sumW cT l:Nat)) ((mTs l k).map eT):=by
 have hT:Top=1000000000000:=rfl;rw[zay.e,zpN]
 have key:=znh eT cT (fun k t=>mT t k) (fun a=>∀k:Int,0≤k→k+(sumW cT a.kids:Nat)≤Top→zay [.one (.r 0 [] 0),vI k] [gV (a.kids.map eT)]=rM (k+(sumW cT a.kids:Nat)) ((mTs a.kids k).map eT))
  (fun k j r=>(zay.L2 k j r).bind zay.A2) (fun k r=>rM k r) ?_ ?_ l [] k hX h0 h1 (by simpa using hl0)
 ·simpa using key
 ·intro m l a k ha h0 h1 hl
  have hcn:=cT_eq a;have ht:=zc8 (k+2) (by omega) (by omega)
  have hS:=zcH a.names (k+3) (by omega) (by omega)
  have hR:=ha (k+3+a.names.length) (by omega) (by omega)
  have e1:k+1+1=k+2:=by omega
  have e2:k+2+1=k+3:=by omega
  have e3:k+3+a.names.length+(sumW cT a.kids:Nat)=k+(cT a:Nat):=by omega
  rw[e3]at hR;rw[zay.s2];simp (disch:=omega) only[pvS,pvT,pvC,pvL,pvN,pvR,pvO,Nat.sub_self,zmm,ht,hS,hR,e1,e2,List.set_cons_zero,List.set_cons_succ,List.take_succ_cons,List.take_zero,List.drop_succ_cons,List.drop_zero,List.cons_append,List.nil_append,zay.p9,mT_eq]
 ·intro m k
  rw[zay.s2];simp (disch:=omega) only[pvL,pvN,zay.a2x2]
theorem zln(t:Tree):wT t≤1048576→∀k:Int,0≤k→k+(sumW cT t.kids:Nat)≤Top→
 zay [.one (.r 0 [] 0),vI k] [gV (t.kids.map eT)]=rM (k+(sumW cT t.kids:Nat)) ((mTs t.kids k).map eT):=by
 induction t using Tree.ind with
 |h d m s ns ks ih=>
  intro hw k h0 h1;rw[wT_eq]at hw;have h2:ks.length≤wL wT ks:=zcf _ _;simp only at hw h1⊢;refine zj1 ks (by omega) (fun a ha k h0 h1=>ih a ha ?_ k h0 h1) k h0 h1
  have:=zc5 wT ks a ha;omega
theorem zlo(t:Tree)(hw:wT t≤1048576)(k:Int)(h0:0≤k)(h1:k+(cT t:Nat)≤Top):
 zcF [.g [.v (.bool t.dir), .v (.int .i64 t.mode), .v (.string (mkS t.data)), .r 0 [] 0, .r 0 [] 1],vI k] [⟨.virt,[.s (eSs t.names), .s (t.kids.map eT)],[.deep, .deep]⟩]=
  some ⟨[.v (.int .i64 (k+t.names.length+(sumW cT t.kids:Nat)))],[⟨.virt,[.s (eSs (mP k t.names)), .s ((mTs t.kids (k+t.names.length)).map eT)],[.deep, .deep]⟩]⟩:=by
 have hT:Top=1000000000000:=rfl;rw[cT_eq]at h1;have hS:=zcH t.names k (by omega) (by omega)
 have hR:=zln t hw (k+t.names.length) (by omega) (by omega)
 rw[zcF.e];simp (disch:=omega) only[pvS,pvT,pvC,pvL,pvN,pvR,pvO,hS,hR]
theorem zpO{a b:Nat}{x:Int}:(((a:Int)≤x)∧szR (a+b) x=szR b (x-a)∧szR a x=x-a)∨(x<a∧szR (a+b) x= -1∧szR a x= -1):=by
 by_cases h:(a:Int)≤x
 ·exact .inl ⟨h,zfy h,zeU h⟩
 ·exact .inr ⟨by omega,zeF h,zee h⟩
theorem zsm(a:Nat)(x:Int):((a:Int)≤x∧szR a x=x-a)∨(x<a∧szR a x= -1):=by
 by_cases h:(a:Int)≤x
 ·exact .inl ⟨h,zeU h⟩
 ·exact .inr ⟨by omega,zee h⟩
theorem zn0(t:Tree):oT t→∀x:Int,0≤x→x≤Lim→zbY [vT t,vI x] []=rI (szR (wT t) x):=by
 induction t using Tree.ind with
 |h a b c ns ks ih=>
  intro ho x h0 h1;have hL:(Lim:Int)=1048576:=rfl;have hd:=zsh ho;have hn:=zjW ho;have hk:=zh0 ho;unfold sS at hd;simp only at hd hn hk;have neg:((-1:Int)<0)=True:=by simp
  rw[zbY.e,wT_eq,Nat.add_assoc];rcases zpO (a:=c.length) (b:=wP ns+wL wT ks) (x:=x)with ⟨c1,c2,c3⟩|⟨c1,c2,c3⟩
  ·rw[c2]
   have h2:=zf1 ns hn (x-c.length) (by omega) (by omega)
   rcases zpO (a:=wP ns) (b:=wL wT ks) (x:=x-c.length)with ⟨d1,d2,d3⟩|⟨d1,d2,d3⟩
   ·rw[d2]
    rw[d3]at h2;have h3:=zmi ks hk.1 (fun t ht x h0 h1=>ih t ht (hk.2 t ht) x h0 h1) (x-c.length-wP ns) (by omega) (by omega)
    rcases zsm (wL wT ks) (x-c.length-wP ns)with ⟨e1,e2⟩|⟨e1,e2⟩
    ·rw[e2]at h3⊢
     simp (disch:=omega) only[pvS,pvT,pvC,pvL,pvN,pvR,h2,h3,zbY.p8]
    ·rw[e2]at h3⊢
     simp (disch:=omega) only[pvS,pvT,pvC,pvL,pvN,pvR,h2,h3,zbY.p8]
   ·rw[d2]
    rw[d3]at h2;simp (disch:=omega) only[pvS,pvT,pvC,pvL,pvN,pvR,h2]
  ·rw[c2]
   simp (disch:=omega) only[pvS,pvT,pvC,pvL,pvN,pvR]
theorem zlp(t:Tree):wT t≤1048576→zb9 [vT t,vT t] []=rB true:=by
 induction t using Tree.ind with
 |h a b c ns ks ih=>
  intro hw;rw[wT_eq]at hw;have h2:ks.length≤wL wT ks:=zcf _ _;have h3:=zbG ns;simp only at hw;have e1:=zdf ns (by omega)
  have e2:=zmk ks (by omega) fun a ha=>ih a ha (by have:=zc5 wT ks a ha;omega)
  have b1:(!(a==a))=false:=by cases a<;>rfl
  have b3:(c==c)=true:=by simp
  rw[zb9.e];simp (disch:=omega) only[pvS,pvT,pvC,pvL,pvN,pvR,e1,e2,zb9.p9,b1,b3]
end Go.PVx
namespace Go.PVx
open Go.PV
theorem zh7(a b:UInt8)(l m:Str):Op.bytesLess (a::l) (b::m)=(decide (a<b)||(a==b&&Op.bytesLess l m)):=rfl
theorem zcN:∀a b c:Str,Op.bytesLess a b=true→Op.bytesLess b c=true→Op.bytesLess a c=true
 | [],[],c,h,_=>by simp[Op.bytesLess]at h
 |_::_,[],c,h,_=>by simp[Op.bytesLess]at h
 | [],b::bs,[],_,h=>by simp[Op.bytesLess]at h
 | [],b::bs,c::cs,_,_=>by simp[Op.bytesLess]
 |a::xs,b::bs,[],_,h=>by simp[Op.bytesLess]at h
 |a::xs,b::bs,c::cs,h1,h2=>by
  rw[zh7]at h1 h2⊢;simp only[Bool.or_eq_true,decide_eq_true_eq,Bool.and_eq_true,beq_iff_eq,UInt8.lt_iff_toNat_lt]at h1 h2⊢;rcases h1 with h1|⟨rfl,h1⟩
  ·rcases h2 with h2|⟨rfl,h2⟩
   ·exact .inl (by omega)
   ·exact .inl h1
  ·rcases h2 with h2|⟨rfl,h2⟩
   ·exact .inl h2
   ·exact .inr ⟨rfl,zcN _ _ _ h1 h2⟩
theorem zdF{a b:Str}(h:Op.bytesLess a b=true):a≠b:=fun e=>by
 subst e;rw[zjV]at h;simp at h
theorem zjd{a b:Str}(h:Op.bytesLess a b=true):Op.bytesLess b a=false:=by
 cases h2:Op.bytesLess b a with
 |false=>rfl
 |true=>exact absurd (zcN _ _ _ h h2) (by rw[zjV];simp)
theorem zeG:∀a b:Str,Op.bytesLess a b=false→a≠b→Op.bytesLess b a=true
 | [],[],_,h=>absurd rfl h
 | [],b::bs,h,_=>by simp[Op.bytesLess]at h
 |a::xs,[],_,_=>by simp[Op.bytesLess]
 |a::xs,b::bs,h,hne=>by
  rw[zh7]at h⊢;simp only[Bool.or_eq_false_iff,decide_eq_false_iff_not,UInt8.lt_iff_toNat_lt,Bool.and_eq_false_iff,Bool.or_eq_true,decide_eq_true_eq,Bool.and_eq_true,beq_iff_eq]at h⊢;by_cases e:a=b
  ·subst e
   right;have h2:Op.bytesLess xs bs=false:=by rcases h.2 with h2|h2;simp at h2;exact h2
   exact ⟨rfl,zeG xs bs h2 fun e=>hne (by rw[e])⟩
  ·left
   have:a.toNat≠b.toNat:=fun h=>e (UInt8.toNat_inj.1 h)
   omega
def Asc(l:List Str):Prop:=l.Pairwise fun a b=>Op.bytesLess a b=true
theorem zje:∀(l:List Str) (p:Option Str),zdJ p l=true→Asc l∧∀y,p=some y→∀x∈l,Op.bytesLess y x=true
 | [],_,_=>⟨List.Pairwise.nil,by simp⟩
 |a::l,p,h=>by
  simp only[zdJ,Bool.and_eq_true]at h;obtain ⟨h1,h2⟩:=zje l (some a) h.2;refine ⟨List.Pairwise.cons (fun x hx=>h2 a rfl x hx) h1,fun y hy x hx=> ?_⟩
  subst hy;have h3:Op.bytesLess y a=true:=h.1.2;rcases List.mem_cons.1 hx with rfl|hx
  ·exact h3
  ·exact zcN _ _ _ h3 (h2 a rfl x hx)
mutual
def sub(p:List Str):Tree→List (List Str×Tree)
 |⟨d,m,s,ns,ks⟩=>(p,⟨d,m,s,ns,ks⟩)::subZ p ns ks
def subZ(p:List Str):List Str→List Tree→List (List Str×Tree)
 |n::ns,k::ks=>sub (p++[n]) k++subZ p ns ks
 | [],_=> []
 |_::_,[]=> []
end
theorem zcz(p:List Str)(t:Tree):sub p t=(p,t)::subZ p t.names t.kids:=by
 obtain ⟨d,m,s,ns,ks⟩:=t;rw[sub]
def pre(a:List Str)(x:List Str×Tree):List Str×Tree:=(a++x.1,x.2)
theorem zni(a p:List Str):∀(ns:List Str) (ks:List Tree),(∀k∈ks,∀p,sub (a++p) k=(sub p k).map (pre a))→subZ (a++p) ns ks=(subZ p ns ks).map (pre a)
 | [],ks,_=>by simp[subZ]
 |_::_,[],_=>by simp[subZ]
 |n::ns,k::ks,h=>by
  simp only[subZ,List.map_append];rw[List.append_assoc,h k (by simp),zni a p ns ks fun x hx=>h x (by simp[hx])]
theorem zsn(a:List Str)(t:Tree):∀p,sub (a++p) t=(sub p t).map (pre a):=by
 induction t using Tree.ind with
 |h d m s ns ks ih=>
  intro p;rw[zcz,zcz,List.map_cons,zni a p ns ks ih];rfl
theorem zso(n:Str)(t:Tree):sub [n] t=(sub [] t).map (pre [n]):=by
 have:=zsn [n] t [];simpa using this
theorem zf3(p:List Str):∀(ns:List Str) (ks:List Tree),(∀k∈ks,∀p,∀x∈sub p k,∃q,x.1=p++q)→∀x∈subZ p ns ks,∃n q,x.1=p++n::q
 | [],ks,_,x,hx=>by simp[subZ]at hx
 |_::_,[],_,x,hx=>by simp[subZ]at hx
 |n::ns,k::ks,h,x,hx=>by
  simp only[subZ,List.mem_append]at hx;rcases hx with hx|hx
  ·obtain ⟨q,hq⟩:=h k (by simp) _ x hx
   exact ⟨n,q,by rw[hq];simp⟩
  ·exact zf3 p ns ks (fun y hy=>h y (by simp[hy])) x hx
theorem zg8(t:Tree):∀p,∀x∈sub p t,∃q,x.1=p++q:=by
 induction t using Tree.ind with
 |h d m s ns ks ih=>
  intro p x hx;rw[zcz,List.mem_cons]at hx;rcases hx with rfl|hx
  ·exact ⟨[],by simp⟩
  ·obtain ⟨n,q,h⟩:=zf3 p ns ks ih x hx
   exact ⟨_,h⟩
theorem zdL{t:Tree}{x:List Str×Tree}(hx:x∈(sub [] t).tail):x.1≠[]:=by
 rw[zcz]at hx;obtain ⟨n,q,h⟩:=zf3 [] t.names t.kids (fun k _=>zg8 k) x hx
 rw[h];simp
def leaf(t:Tree):Tree:=⟨t.dir,t.mode,t.data,[],[]⟩
def ixN:List Str→Str→Option Nat
 | [],_=>none
 |a::l,n=>if a=n then some 0 else (ixN l n).map (· +1)
theorem zq4(A:List Str)(n:Str)(h:n∉A):ixN (A++[n]) n=some A.length:=by
 induction A with
 |nil=>simp[ixN]
 |cons a A ih=>
  have h1:a≠n:=fun e=>h (by simp[e])
  have h2:=ih fun e=>h (by simp[e])
  simp only[List.cons_append,ixN,if_neg h1,h2];rfl
theorem zdv:∀{l:List Str} {n:Str} {k:Nat},ixN l n=some k→∃h:k<l.length,l[k]=n
 | [],n,k,h=>by simp[ixN]at h
 |a::l,n,k,h=>by
  simp only[ixN]at h;split at h
  ·rename_i e
   obtain rfl:=Option.some.inj h;exact ⟨by simp,e⟩
  ·simp only[Option.map_eq_some_iff]at h
   obtain ⟨j,h1,rfl⟩:=h;obtain ⟨h2,h3⟩:=zdv h1;exact ⟨by simpa using h2,by simpa using h3⟩
theorem zj2:∀{l:List Str} {n:Str},ixN l n=none→n∉l
 | [],n,_=>by simp
 |a::l,n,h=>by
  simp only[ixN]at h;split at h
  ·simp at h
  ·rename_i e
   simp only[Option.map_eq_none_iff]at h;have:=zj2 h;simp only[List.mem_cons,not_or];exact ⟨fun h=>e h.symm,this⟩
def putAt(ins:Tree→Str→Tree→Tree)(x:Tree):Tree→List Str→Option Tree
 |_,[]=>none
 |t,[n]=>some (ins t n x)
 |t,n::m::q=>match ixN t.names n with
  |none=>none
  |some k=>match t.kids[k]? with
   |none=>none
   |some kd=>(putAt ins x kd (m::q)).map fun z=>⟨t.dir,t.mode,t.data,t.names,t.kids.set k z⟩
def build(ins:Tree→Str→Tree→Tree):Tree→List (List Str×Tree)→Option Tree
 |t,[]=>some t
 |t,e::l=>(putAt ins (leaf e.2) t e.1).bind fun z=>build ins z l
theorem zgU(ins:Tree→Str→Tree→Tree):∀(a b:List (List Str×Tree)) (t:Tree),build ins t (a++b)=(build ins t a).bind fun z=>build ins z b
 | [],b,t=>rfl
 |e::a,b,t=>by
  simp only[List.cons_append,build];cases putAt ins (leaf e.2) t e.1 with
  |none=>rfl
  |some z=>exact zgU ins a b z
def InsOk(ins:Tree→Str→Tree→Tree):Prop:=∀t n x,t.names.length=t.kids.length→(∀m∈t.names,Op.bytesLess m n=true)→ins t n x=⟨t.dir,t.mode,t.data,t.names++[n],t.kids++[x]⟩
theorem zn1(ins:Tree→Str→Tree→Tree)(x:Tree)(d:Bool)(m:Int)(s:Str)(A:List Str)(B:List Tree)(n:Str)(K:Tree)(h:A.length=B.length)(hn:n∉A)(q:List Str)(hq:q≠[]):
 putAt ins x ⟨d,m,s,A++[n],B++[K]⟩ (n::q)=(putAt ins x K q).map fun z=>⟨d,m,s,A++[n],B++[z]⟩:=by
 cases q with
 |nil=>exact absurd rfl hq
 |cons a q=>
  simp only[putAt,zq4 A n hn,h,List.getElem?_concat_length];have:∀z:Tree,(B++[K]).set B.length z=B++[z]:=fun z=>by simp
  simp only[this]
theorem zjf(ins:Tree→Str→Tree→Tree)(d:Bool)(m:Int)(s:Str)(A:List Str)(B:List Tree)(n:Str)(h:A.length=B.length)(hn:n∉A):
 ∀(l:List (List Str×Tree)) (K:Tree),(∀x∈l,x.1≠[])→build ins ⟨d,m,s,A++[n],B++[K]⟩ (l.map (pre [n]))=(build ins K l).map fun z=>⟨d,m,s,A++[n],B++[z]⟩
 | [],K,_=>rfl
 |e::l,K,hl=>by
  simp only[List.map_cons,build];have e1:(pre [n] e).1=n::e.1:=rfl;have e2:(pre [n] e).2=e.2:=rfl;rw[e1,e2,zn1 ins _ d m s A B n K h hn e.1 (hl e (by simp))]
  cases putAt ins (leaf e.2) K e.1 with
  |none=>rfl
  |some z=>exact zjf ins d m s A B n h hn l z fun x hx=>hl x (by simp[hx])
theorem znj(ins:Tree→Str→Tree→Tree)(hi:InsOk ins)(d:Bool)(m:Int)(s:Str):∀(ns:List Str) (ks:List Tree) (A:List Str) (B:List Tree),A.length=B.length→ns.length=ks.length→Asc (A++ns)→
 (∀k∈ks,build ins (leaf k) (sub [] k).tail=some k)→build ins ⟨d,m,s,A,B⟩ (subZ [] ns ks)=some ⟨d,m,s,A++ns,B++ks⟩
 | [],[],A,B,_,_,_,_=>by simp[subZ,build]
 | [],_::_,A,B,_,h,_,_=>by simp at h
 |_::_,[],A,B,_,h,_,_=>by simp at h
 |n::ns,k::ks,A,B,hAB,hl,ha,hk=>by
  simp only[subZ,List.nil_append];have hlt:∀m∈A,Op.bytesLess m n=true:=fun m hm=>(List.pairwise_append.1 ha).2.2 m hm n (by simp)
  have hn:n∉A:=fun hm=>zdF (hlt n hm) rfl
  rw[zso,zcz,List.map_cons,List.cons_append,build];have e1:(pre [n] ([],k)).1=[n]:=rfl;have e2:(pre [n] ([],k)).2=k:=rfl;rw[e1,e2,putAt,hi _ n _ hAB hlt,Option.bind_some,zgU];have h1:=zjf ins d m s A B n hAB hn (sub [] k).tail (leaf k) fun x hx=>zdL hx
  rw[zcz,List.tail_cons]at h1;have h2:=hk k (by simp)
  rw[zcz,List.tail_cons]at h2;simp only;rw[h1,h2,Option.map_some,Option.bind_some,znj ins hi d m s ns ks (A++[n]) (B++[k]) (by simp[hAB]) (by simpa using hl) (by simpa using ha) (fun x hx=>hk x (by simp[hx]))]
  simp
theorem zcO{d:Int}{t:Tree}(h:za1 d t=true):Asc t.names:=by
 rw[zes]at h;simp only[plainB,Bool.and_eq_true]at h;have h1:=h.1.1.2;cases hd:t.dir with
 |true=>
  rw[hd]at h1;simp only[cond_true,Bool.and_eq_true]at h1;exact (zje _ _ h1.1).1
 |false=>
  rw[hd]at h1;simp only[cond_false,Bool.and_eq_true,decide_eq_true_eq,List.length_eq_zero_iff]at h1;rw[h1.2];exact List.Pairwise.nil
theorem zpP(ins:Tree→Str→Tree→Tree)(hi:InsOk ins)(t:Tree):∀d,za1 d t=true→build ins (leaf t) (sub [] t).tail=some t:=by
 induction t using Tree.ind with
 |h dd m s ns ks ih=>
  intro d h;rw[zcz,List.tail_cons];have:=znj ins hi dd m s ns ks [] [] rfl (zbm h) (by simpa using zcO h) fun k hk=>ih k hk (d+1) (zaZ h hk)
  simpa[leaf]using this
end Go.PVx
namespace Go.PVx
open Go.PV
def entX(x:List Str×Tree):Entry:=⟨x.1,2,x.2.dir,x.2.mode,x.2.data⟩
def showT(t:Tree):Str:=((sub [] t).map fun x=>putL (entX x)).flatten
theorem zjg:∀{l:List Str} {p:Option Str},zdJ p l=true→∀x∈l,nameB x=true
 | [],_,_=>by simp
 |a::l,p,h=>fun x hx=>by
  simp only[zdJ,Bool.and_eq_true]at h;rcases List.mem_cons.1 hx with rfl|hx
  ·exact h.1.1
  ·exact zjg h.2 x hx
structure PlainOk (t:Tree):Prop where
 m0:0≤t.mode
 m7:t.mode≤7
 len:t.names.length=t.kids.length
 nm:∀x∈t.names,nameB x=true
 asc:Asc t.names
 file:t.dir=false→t.data.length≤24∧t.names=[]
 dat:t.dir=true→t.data=[]
theorem zdG{d:Int}{t:Tree}(h:za1 d t=true):PlainOk t∧d≤4:=by
 have ha:=zcO h;rw[zes]at h;simp only[plainB,inB,Bool.and_eq_true,decide_eq_true_eq]at h;obtain ⟨⟨⟨⟨⟨h1,h2⟩,h3⟩,h4⟩,h5⟩,_⟩:=h;cases hd:t.dir with
 |true=>
  rw[hd]at h4;simp only[cond_true,Bool.and_eq_true,decide_eq_true_eq]at h4;exact ⟨⟨h1,h2,h3,fun x hx=>zjg h4.1 x hx,ha,fun h=>by rw[hd]at h;exact absurd h (by simp),fun _=>h4.2⟩,h5⟩
 |false=>
  rw[hd]at h4;simp only[cond_false,Bool.and_eq_true,decide_eq_true_eq,List.length_eq_zero_iff]at h4;exact ⟨⟨h1,h2,h3,fun x hx=>by rw[h4.2]at hx;simp at hx,ha,fun _=>h4,fun h=>by rw[hd]at h;exact absurd h (by simp)⟩,h5⟩
theorem zry(t:Tree):∀(d:Int) (p:List Str),za1 d t=true→(p.length:Int)=d→(∀x∈p,nameB x=true)→
 ∀x∈sub p t,∃e:Int,za1 e x.2=true∧(x.1.length:Int)=e∧∀y∈x.1,nameB y=true:=by
 induction t using Tree.ind with
 |h dd m s ns ks ih=>
  intro d p h hp hn x hx;rw[zcz,List.mem_cons]at hx;rcases hx with rfl|hx
  ·exact ⟨d,h,hp,hn⟩
  ·have hk:∀k∈ks,za1 (d+1) k=true:=fun k hk=>zaZ h hk
   have hnm:=(zdG h).1.nm;simp only at hx hnm;clear h
   revert hx hnm hk ih
   induction ns generalizing ks with
   |nil=>intro _ hx _ _;simp[subZ]at hx
   |cons n ns ihn=>
    intro ih hx hk hnm;cases ks with
    |nil=>simp[subZ]at hx
    |cons k ks=>
     simp only[subZ,List.mem_append]at hx;rcases hx with hx|hx
     ·refine ih k (by simp) (d+1) (p++[n]) (hk k (by simp)) (by simp;omega) (fun y hy=> ?_) x hx
      rcases List.mem_append.1 hy with hy|hy
      ·exact hn y hy
      ·have:y=n:=by simpa using hy
       subst this;exact hnm y (by simp)
     ·exact ihn ks (fun k hk=>ih k (by simp[hk])) hx (fun k h=>hk k (by simp[h])) (fun y hy=>hnm y (by simp[hy]))
theorem zh8{t:Tree}(h:treeB t=true):t.dir=true:=by
 unfold treeB at h;simp only[Bool.and_eq_true]at h;exact h.1.1
theorem zeu{t:Tree}(h:treeB t=true):cnt t≤30:=by
 unfold treeB at h;simp only[Bool.and_eq_true,decide_eq_true_eq]at h;exact h.2
theorem zsp{t:Tree}(h:treeB t=true):∀x∈sub [] t,putB (entX x)=true:=by
 intro x hx;have hp:=zbA h;obtain ⟨e,h1,h2,h3⟩:=zry t 0 [] hp rfl (by simp) x hx
 obtain ⟨h4,h5⟩:=zdG h1
 have hroot:x.1=[]→x.2.dir=true:=fun h0=>by
  rw[zcz,List.mem_cons]at hx;rcases hx with rfl|hx
  ·exact zh8 h
  ·exact absurd h0 (zdL (t:=t) (by rw[zcz];exact hx))
 have hlen:x.1≠[]→1≤x.1.length:=fun h0=>by
  cases hq:x.1 with
  |nil=>exact absurd hq h0
  |cons=>simp
 obtain ⟨p,y⟩:=x;have hm0:=h4.m0;have hm7:=h4.m7;have hf:=h4.file;have hd:=h4.dat;unfold putB entX entB kindB inB pathB inB;simp only at hroot hlen h2 h3 hm0 hm7 hf hd⊢;by_cases h0:p=[]
 ·have hy:=hroot h0
  subst h0;simp only[hy,hd hy,beq_self_eq_true,cond_true,Bool.true_and,decide_eq_true hm0,decide_eq_true hm7,Bool.and_self]
 ·have h0':(p==([]:List Str))=false:=by simpa using h0
  have hl:=hlen h0;have ha:p.all nameB=true:=List.all_eq_true.2 h3;simp only[h0',cond_false,ha];cases hy:y.dir with
  |true=>have:=hd hy;simp[hy,this];omega
  |false=>have:=hf hy;simp[hy];omega
theorem zfA(t:Tree):∀d p,za1 d t=true→(sub p t).length=1+cnt t:=by
 induction t using Tree.ind with
 |h dd m s ns ks ih=>
  intro d p h;rw[zcz,zgT];have hl:=zbm h;have hk:∀k∈ks,za1 (d+1) k=true:=fun k hk=>zaZ h hk
  simp only[List.length_cons]at hl⊢
  have key:∀(ns:List Str) (ks:List Tree),ns.length=ks.length→(∀k∈ks,∀p,(sub p k).length=1+cnt k)→(subZ p ns ks).length=wL cnt ks:=by
   intro ns
   induction ns with
   |nil=>intro ks h _;cases ks with
    |nil=>simp[subZ,wL]
    |cons=>simp at h
   |cons n ns ihn=>
    intro ks h hk;cases ks with
    |nil=>simp at h
    |cons k ks=>
     simp only[subZ,List.length_append,wL,hk k (by simp),ihn ks (by simpa using h) fun x hx=>hk x (by simp[hx])]
  have:=key ns ks hl fun k hk' p=>ih k hk' (d+1) p (hk k hk')
  omega
def insI(t:Tree)(n:Str)(x:Tree):Tree:=
 let k:=(t.names.takeWhile fun m=>Op.bytesLess m n).length
 if t.names[k]? =some n then ⟨t.dir,t.mode,t.data,t.names,t.kids.set k x⟩else ⟨t.dir,t.mode,t.data,t.names.take k++n::t.names.drop k,t.kids.take k++x::t.kids.drop k⟩
theorem zf4{α:Type}{p:α→Bool}:∀l:List α,(∀x∈l,p x=true)→l.takeWhile p=l
 | [],_=>rfl
 |a::l,h=>by rw[List.takeWhile_cons,h a (by simp)];simp only[if_true];rw[zf4 l fun x hx=>h x (by simp[hx])]
theorem zsq:InsOk insI:=fun t n x hl hlt=>by
 have h1:t.names.takeWhile (fun m=>Op.bytesLess m n)=t.names:=zf4 _ hlt
 unfold insI;simp only[h1];rw[if_neg (by simp),List.take_length,List.drop_length,hl,List.take_length,List.drop_length]
def insS(t:Tree)(n:Str)(x:Tree):Tree:=⟨t.dir,t.mode,t.data,t.names++[n],t.kids++[x]⟩
theorem zsr:InsOk insS:=fun t n x _ _=>rfl
end Go.PVx
namespace Go.PVx
open Go.PV
noncomputable instance:DecidableEq Row:=fun _ _=>Classical.propDecidable _
def idS:Int→Str→Int
 |h,[]=>h
 |h,b::s=>idS ((131*h+(b.toNat:Int))%1000000007) s
def idT(t:Tree):Int:=idS 7 (showT t)
def rowX(x:List Str×Tree):Row:=⟨x.1,x.2.dir,x.2.mode,x.2.data,idT x.2⟩
def tabT(t:Tree):List Row:=(sub [] t).map rowX
def rowT(r:Row):Tree:=⟨r.dir,r.mode,r.data,[],[]⟩
theorem zlq(x:List Str×Tree):rowT (rowX x)=leaf x.2:=rfl
def zgV:Tree→List Row→Option Tree
 |t,[]=>some t
 |t,r::rs=>if r.path=[]then none else (putAt insI (rowT r) t r.path).bind fun z=>zgV z rs
noncomputable def RRI:List Row→Option Tree
 | []=>none
 |r::rs=>if 31<(r::rs).length then none else (zgV (rowT r) rs).bind fun t=>if treeB t=true∧tabT t=r::rs then some t else none
theorem zj3(r:Row)(rs:List Row):RRI (r::rs)=if 31<(r::rs).length then none else (zgV (rowT r) rs).bind fun t=>if treeB t=true∧tabT t=r::rs then some t else none:=rfl
theorem zq5{rs:List Row}{t:Tree}(h:RRI rs=some t):treeB t=true∧tabT t=rs:=by
 cases rs with
 |nil=>exact absurd h (by simp[RRI])
 |cons r rs=>
  rw[zj3]at h;split at h
  ·simp at h
  ·simp only[Option.bind_eq_some_iff]at h
   obtain ⟨z,_,h⟩:=h;split at h
   ·rename_i hc
    obtain rfl:=Option.some.inj h;exact hc
   ·simp at h
theorem zh9:∀(l:List (List Str×Tree)) (t:Tree),(∀x∈l,x.1≠[])→zgV t (l.map rowX)=build insI t l
 | [],t,_=>rfl
 |x::l,t,h=>by
  simp only[List.map_cons,zgV,build,zlq];have e:(rowX x).path=x.1:=rfl;rw[e,if_neg (h x (by simp))]
  congr 1
  funext z
  exact zh9 l z fun y hy=>h y (by simp[hy])
theorem zmn{t:Tree}(h:treeB t=true):(tabT t).length=1+cnt t:=by
 unfold tabT;rw[List.length_map,zfA t 0 [] (zbA h)]
theorem zg9(t:Tree):tabT t=rowX ([],t)::(sub [] t).tail.map rowX:=by
 unfold tabT;rw[zcz,List.map_cons,List.tail_cons]
theorem zss{t:Tree}(h:treeB t=true):RRI (tabT t)=some t:=by
 have hl:=zmn h;have hc:=zeu h;have h2:=zpP insI zsq t 0 (zbA h)
 have h3:zgV (rowT (rowX ([],t))) ((sub [] t).tail.map rowX)=some t:=by
  rw[zh9 _ _ fun x hx=>zdL hx]
  exact h2
 rw[zg9]at hl⊢;rw[zj3];rw[if_neg (by omega),h3,Option.bind_some,if_pos ⟨h,zg9 t⟩]
def zeX:Tree→List Row→Option Tree
 |t,[]=>some t
 |t,r::rs=>if pathB 1 r.path=true then (putAt insS (rowT r) t r.path).bind fun z=>zeX z rs else none
noncomputable def RRS:List Row→Option Tree
 | []=>none
 |r::rs=>if 31<(r::rs).length∨r.path≠[]then none else (zeX (rowT r) rs).bind fun t=>if treeB t=true∧tabT t=r::rs then some t else none
theorem zj4(r:Row)(rs:List Row):RRS (r::rs)=if 31<(r::rs).length∨r.path≠[]then none else (zeX (rowT r) rs).bind fun t=>if treeB t=true∧tabT t=r::rs then some t else none:=rfl
theorem zha{rs:List Row}{t:Tree}(h:RRS rs=some t):treeB t=true∧tabT t=rs:=by
 cases rs with
 |nil=>exact absurd h (by simp[RRS])
 |cons r rs=>
  rw[zj4]at h;split at h
  ·simp at h
  ·simp only[Option.bind_eq_some_iff]at h
   obtain ⟨z,_,h⟩:=h;split at h
   ·rename_i hc
    obtain rfl:=Option.some.inj h;exact hc
   ·simp at h
theorem zia:∀(l:List (List Str×Tree)) (t:Tree),(∀x∈l,pathB 1 x.1=true)→zeX t (l.map rowX)=build insS t l
 | [],t,_=>rfl
 |x::l,t,h=>by
  simp only[List.map_cons,zeX,build,zlq];have e:(rowX x).path=x.1:=rfl;rw[e,if_pos (h x (by simp))]
  congr 1
  funext z
  exact zia l z fun y hy=>h y (by simp[hy])
theorem zmo{t:Tree}(h:treeB t=true):∀x∈(sub [] t).tail,pathB 1 x.1=true:=fun x hx=>by
 have h1:=zsp h x (List.mem_of_mem_tail hx);exact (zpL h1).2.2.2.1 (zdL hx)
theorem zst{t:Tree}(h:treeB t=true):RRS (tabT t)=some t:=by
 have hl:=zmn h;have hc:=zeu h;have h2:=zpP insS zsr t 0 (zbA h)
 have h3:zeX (rowT (rowX ([],t))) ((sub [] t).tail.map rowX)=some t:=by
  rw[zia _ _ (zmo h)];exact h2
 rw[zg9]at hl⊢;rw[zj4];rw[if_neg (by rw[not_or];exact ⟨by omega,fun h=>h rfl⟩),h3,Option.bind_some,if_pos ⟨h,zg9 t⟩]
theorem zsu(rs:List Row):RRI rs=RRS rs:=by
 cases h:RRI rs with
 |some t=>
  obtain ⟨h1,h2⟩:=zq5 h;rw[←h2,zst h1]
 |none=>
  cases h3:RRS rs with
  |none=>rfl
  |some t=>
   obtain ⟨h1,h2⟩:=zha h3;rw[←h2,zss h1]at h;simp at h
theorem zf5(p:List Str)(a b:List Str):lessP (p++a) (p++b)=lessP a b:=by
 induction p with
 |nil=>rfl
 |cons x p ih=>simp[lessP,ih]
theorem zlr{n m:Str}(h:Op.bytesLess n m=true)(a b:List Str):lessP (n::a) (m::b)=true:=by
 have:(n==m)=false:=by simpa using zdF h
 simp[lessP,this,h]
theorem zfB:∀a b c:List Str,lessP a b=true→lessP b c=true→lessP a c=true
 | [],[],c,h,_=>by simp[lessP]at h
 |_::_,[],c,h,_=>by simp[lessP]at h
 | [],b::bs,[],_,h=>by simp[lessP]at h
 | [],b::bs,c::cs,_,_=>by simp[lessP]
 |a::xs,b::bs,[],_,h=>by simp[lessP]at h
 |a::xs,b::bs,c::cs,h1,h2=>by
  unfold lessP at h1 h2⊢;by_cases e1:a=b
  ·subst e1
   simp only[beq_self_eq_true,cond_true]at h1;by_cases e2:a=c
   ·subst e2
    simp only[beq_self_eq_true,cond_true]at h2⊢;exact zfB _ _ _ h1 h2
   ·have:(a==c)=false:=by simpa using e2
    rw[this]at h2⊢;exact h2
  ·have e1':(a==b)=false:=by simpa using e1
   rw[e1',cond_false]at h1;by_cases e2:b=c
   ·subst e2
    rw[e1',cond_false];exact h1
   ·have e2':(b==c)=false:=by simpa using e2
    rw[e2',cond_false]at h2;have h3:=zcN _ _ _ h1 h2;have:(a==c)=false:=by simpa using zdF h3
    rw[this,cond_false];exact h3
theorem zpQ(a:List Str):lessP a a=false:=by
 induction a with
 |nil=>rfl
 |cons x a ih=>simp[lessP,ih]
theorem zsv(t:Tree):∀d p,za1 d t=true→(sub p t).Pairwise fun x y=>lessP x.1 y.1=true:=by
 induction t using Tree.ind with
 |h dd m s ns ks ih=>
  intro d p h;have ha:=zcO h;have hk:∀k∈ks,za1 (d+1) k=true:=fun k hk=>zaZ h hk
  have key:∀(ns:List Str) (ks:List Tree),Asc ns→(∀k∈ks,∀p,(sub p k).Pairwise fun x y=>lessP x.1 y.1=true)→(subZ p ns ks).Pairwise fun x y=>lessP x.1 y.1=true:=by
   intro ns
   induction ns with
   |nil=>intro ks _ _;simp[subZ]
   |cons n ns ihn=>
    intro ks ha hk;cases ks with
    |nil=>simp[subZ]
    |cons k ks=>
     simp only[subZ];have ha':=List.pairwise_cons.1 ha;refine List.pairwise_append.2 ⟨hk k (by simp) _,ihn ks ha'.2 fun x hx=>hk x (by simp[hx]),fun x hx y hy=> ?_⟩
     obtain ⟨q,hq⟩:=zg8 k _ x hx
     have:∃n' q',n'∈ns∧y.1=p++n'::q':=by
      clear ihn ha ha' hk hx hq h
      revert hy
      induction ns generalizing ks with
      |nil=>intro hy;simp[subZ]at hy
      |cons n2 ns ih2=>
       intro hy;cases ks with
       |nil=>simp[subZ]at hy
       |cons k2 ks=>
        simp only[subZ,List.mem_append]at hy;rcases hy with hy|hy
        ·obtain ⟨q,hq⟩:=zg8 k2 _ y hy
         exact ⟨n2,q,by simp,by rw[hq];simp⟩
        ·obtain ⟨a,b,h1,h2⟩:=ih2 ks hy
         exact ⟨a,b,by simp[h1],h2⟩
     obtain ⟨n',q',h1,h2⟩:=this;rw[hq,h2,List.append_assoc,zf5];exact zlr (ha'.1 n' h1) _ _
  rw[zcz];refine List.pairwise_cons.2 ⟨fun y hy=> ?_,key ns ks ha fun k hk' p=>ih k hk' (d+1) p (hk k hk')⟩
  obtain ⟨n,q,e⟩:=zf3 p ns ks (fun k _=>zg8 k) y hy
  rw[e];have:=zf5 p [] (n::q);rw[List.append_nil]at this;rw[this];rfl
end Go.PVx
namespace Go.PVx
open Go.PV Go.Proofs
theorem bwrite(a s:Str)(h:a.length+s.length≤140737488355328):zbp [.one (.p true 0 [] 0),vS s] [⟨.bld 170 5,[.v (.string (mkS a)), .h],[.deep, .deep]⟩]=
 some ⟨[.v (.int .i64 s.length), .d],[⟨.bld 170 5,[.v (.string (mkS (a++s))), .h],[.deep, .deep]⟩]⟩:=by
 rw[zbp.ext];unfold zeQ;simp (disch:=omega) only[pvC,pvL,pvN]
theorem zsw(a:Str):zbB [.one (.p true 0 [] 0)] [⟨.bld 170 5,[.v (.string (mkS a)), .h],[.deep, .deep]⟩]=
 some ⟨[.v (.string (mkS a))],[⟨.bld 170 5,[.v (.string (mkS a)), .h],[.deep, .deep]⟩]⟩:=by
 rw[zbB.ext];unfold zep;simp (disch:=omega) only[pvC,pvL,pvN]
theorem zjh(d:Bool)(m:Int)(s:Str)(p:List Str)(x y:List (List D))(h0:0≤m)(h1:m≤1000000)(hp:wP p≤1048576)(hs:s.length≤1048576):
 zds [vS (pt p), .g [.v (.bool d), .v (.int .i64 m), .v (.string (mkS s)), .s x, .s y]] []=rS (lineT d m s p):=by
 have e1:=zng p;have e2:=zfz m h1;have e3:=zh6 s;have e4:=zpF s hs;rw[zds.e];unfold lineT;cases d<;>simp (disch:=omega) only[pvS,pvT,pvC,pvL,pvR,pvN,znZ,e4]
theorem zj5(d:Bool)(m:Int)(s:Str)(p:List Str)(x y:List (List D))(h0:0≤m)(h1:m≤1000000)(hp:wP p≤1048576)(hs:s.length≤1048576):
 zcm [.g [.v (.bool d), .v (.int .i64 m), .v (.string (mkS s)), .s x, .s y],vP p] []=rS (lineT d m s p):=by
 have e1:=zng p;have e2:=zfz m h1;have e3:=zh6 s;have e4:=zlk s hs;have e5:=zlh p hp;have e6:=zh3 m.toNat (by omega)
 rw[show ((m.toNat:Nat):Int)=m by omega]at e6
 rw[zcm.e];unfold lineT;cases d<;>simp (disch:=omega) only[pvS,pvT,pvC,pvL,pvR,pvN,e4,e5,e6]
def linX(x:List Str×Tree):Str:=putL (entX x)
theorem zsx(p:List Str)(t:Tree):linX (p,t)=lineT t.dir t.mode t.data p:=rfl
def showP(p:List Str)(t:Tree):Str:=((sub p t).map linX).flatten
def showZ(p:List Str)(ns:List Str)(ks:List Tree):Str:=((subZ p ns ks).map linX).flatten
theorem zmp(t:Tree):showT t=showP [] t:=rfl
theorem zfe(p:List Str)(t:Tree):showP p t=lineT t.dir t.mode t.data p++showZ p t.names t.kids:=by
 unfold showP showZ;rw[zcz,List.map_cons,List.flatten_cons,zsx]
theorem zgC(p:List Str){ns:List Str}{ks:List Tree}{k:Nat}(h1:k<ns.length)(h2:k<ks.length):
 showZ p (ns.drop k) (ks.drop k)=showP (p++[ns[k]]) ks[k]++showZ p (ns.drop (k+1)) (ks.drop (k+1)):=by
 unfold showP showZ;rw[zaF ns k h1,zaF ks k h2,subZ,List.map_append,List.flatten_append]
theorem zib(p:List Str)(ks:List Tree):showZ p [] ks=[]:=by
 unfold showZ;cases ks<;>simp[subZ]
theorem zdh(p:List Str)(n:Str):wP (p++[n])=wP p+(1+n.length):=by
 unfold wP;rw[zfV];simp[wL]
theorem wP_at{p:List Str}{k:Nat}(h:k<p.length):1+p[k].length≤wP p:=wL_at List.length h
theorem zf6(t:Tree):∀(p:List Str) (d:Int),za1 d t=true→wP p+wT t≤2097152→(showP p t).length≤(1+cnt t)*8000000:=by
 induction t using Tree.ind with
 |h a b c ns ks ih=>
  intro p d hp hw;have hm:=(zdG hp).1.m7;have hn:=zbm hp;have hk:=fun k (h:k∈ks)=>zaZ hp (k:=k) h
  have hl:=zpI a b c p (by simp only at hm;omega)
  rw[wT_eq]at hw;rw[zfe,zgT];simp only[List.length_append]at hn hw⊢
  have key:∀k,k≤ns.length→(showZ p (ns.drop k) (ks.drop k)).length≤wL cnt (ks.drop k)*8000000:=by
   refine up ns.length ?_ fun k hk1 ihk=> ?_
   ·rw[List.drop_length,zib];simp
   ·have hk2:k<ks.length:=by omega
    have h1:=wP_at hk1;have h2:=wL_at wT hk2;have h3:=ih ks[k] (List.getElem_mem hk2) (p++[ns[k]]) (d+1) (hk _ (List.getElem_mem hk2)) (by rw[zdh];omega)
    rw[zgC p hk1 hk2,List.length_append,zgz cnt hk2];omega
  have h0:=key 0 (by omega)
  simp only[List.drop_zero]at h0;omega
abbrev oBd(a:Str):PV.Obj:=⟨.bld 170 5,[.v (.string (mkS a)), .h],[.deep, .deep]⟩
theorem zic(p:List Str)(d:Bool)(m:Int)(s:Str)(x y:List (List D))(acc:Str)(h0:0≤m)(h1:m≤1000000)(hp:wP p≤1048576)(hs:s.length≤1048576)(ha:acc.length+(lineT d m s p).length≤140737488355328):
 zbc [vP p, .g [.v (.bool d), .v (.int .i64 m), .v (.string (mkS s)), .s x, .s y], .one (.bx [.p true 0 [] 0] 0)] [oBd acc]=some ⟨[],[oBd (acc++lineT d m s p)]⟩:=by
 have e1:=zj5 d m s p x y h0 h1 hp hs;have e2:=bwrite acc (lineT d m s p) ha;rw[zbc.e];simp (disch:=omega) only[pvS,pvC,pvL,pvR,pvN,pvO,e1,e2]
theorem zf7(t:Tree):∀(p:List Str) (d:Int) (acc:Str),za1 d t=true→oT t→wP p+wT t≤1048576→acc.length+(showP p t).length≤100000000000000→
 zaU [vT t,vP p, .f zbc.id [.bx [.p true 0 [] 0] 0]] [oBd acc]=some ⟨[],[oBd (acc++showP p t)]⟩:=by
 induction t using Tree.ind with
 |h a b c ns ks ih=>
  intro p d acc hp ho hw hacc;have hm0:=(zdG hp).1.m0;have hm:=(zdG hp).1.m7;have hn:=zbm hp;have hk:=fun k (h:k∈ks)=>zaZ hp (k:=k) h
  have hok:=zh0 ho;rw[wT_eq]at hw;rw[zfe]at hacc⊢;simp only[List.length_append]at hm0 hm hn hw hacc hok⊢;have hkl:=hok.1;have hpl:=zbG p;have h1:=zic p a b c (eSs ns) (ks.map eT) acc (by omega) (by omega) (by omega) (by omega) (by omega)
  have hl:∀k,k≤ns.length→∀acc:Str,acc.length+(showZ p (ns.drop k) (ks.drop k)).length≤100000000000000→
   (iTree_each_show.L3 (eSs p) (eSs ns) ns.length (k:Int) (mkS acc) a b (mkS c) (eSs ns) (ks.map eT)).bind iTree_each_show.A3=some ⟨[],[oBd (acc++showZ p (ns.drop k) (ks.drop k))]⟩:=by
   refine up ns.length ?_ fun k hk1 ihk acc hacc=> ?_
   ·intro acc _
    rw[iTree_each_show.s3,List.drop_length,zib];simp (disch:=omega) only[pvL,pvN,iTree_each_show.a3x3]
   ·have hk2:k<ks.length:=by omega
    rw[zgC p hk1 hk2]at hacc⊢;simp only[List.length_append]at hacc;have hwk:=wL_at wT hk2;have hwn:=wP_at hk1;have h2:=zf0 p ns[k] (by omega)
    have h3:=ih ks[k] (List.getElem_mem hk2) (p++[ns[k]]) (d+1) acc (hk _ (List.getElem_mem hk2)) (sL_at hok hk2) (by rw[zdh];omega) (by omega)
    have h4:=ihk (acc++showP (p++[ns[k]]) ks[k]) (by simp only[List.length_append];omega)
    rw[List.append_assoc]at h4;rw[iTree_each_show.s3,←h4];simp (disch:=omega) only[pvS,pvT,pvC,pvL,pvR,pvN,pvO,h2,h3]
  have h0:=hl 0 (by omega) (acc++lineT a b c p) (by simp only[List.drop_zero,List.length_append];omega)
  simp only[List.drop_zero]at h0;rw[List.append_assoc]at h0;rw[iTree_each_show.e,←h0];simp (disch:=omega) only[pvS,pvC,pvL,pvR,pvN,pvO,h1]
theorem zj6(t:Tree)(d:Int)(hp:za1 d t=true)(ho:oT t)(hw:wT t≤1048576):zcn [vT t] []=rS (showT t):=by
 have hl:=zf6 t [] d hp (by have:wP []=0:=rfl;omega)
 have hc:=zdl t;have h1:=zf7 t [] d [] hp ho (by have:wP []=0:=rfl;omega) (by simp only[List.length_nil];omega)
 have h2:=zsw (showP [] t);rw[List.nil_append]at h1;have h1':zaU [vT t,AV.one (A1.s []), .f zbc.id [.bx [.p true 0 [] 0] 0]] [oBd []]=_:=h1;rw[zcn.e,zmp];simp (disch:=omega) only[pvS,pvC,pvL,pvR,pvN,pvO,h1',h2]
def ptS(p:List Str):Str:=Lib.joinTail [47] p
theorem zpR{p:List Str}(h:p≠[]):ptS p=pt p:=by unfold pt ptS;rw[if_neg h]
theorem zq6(p:List Str)(n:Str):ptS p++[47]++n=pt (p++[n]):=by
 rw[←zpR (by simp)]
 unfold ptS;simp[Lib.joinTail]
theorem zsy(p:List Str):(ptS p).length≤1+wP p:=by
 by_cases h:p=[]
 ·subst h;simp[ptS,Lib.joinTail]
 ·rw[zpR h];exact zng p
theorem zn2(t:Tree):∀(p:List Str) (d:Int),za1 d t=true→oT t→wP p+wT t≤1048576→zbt [vS (ptS p),vT t] []=rS (showZ p t.names t.kids):=by
 induction t using Tree.ind with
 |h a b c ns ks ih=>
  intro p d hp ho hw;have hpo:=(zdG hp).1;have hn:=zbm hp;have hk:=fun k (h:k∈ks)=>zaZ hp (k:=k) h
  have hok:=zh0 ho;have hlen:=zf6 _ p d hp (by omega)
  have hcc:=zdl ⟨a,b,c,ns,ks⟩;rw[zfe]at hlen;have hw':=hw;rw[wT_eq]at hw';simp only[List.length_append]at hn hw' hok hlen⊢;have hkl:=hok.1;have hpl:=zsy p
  have hl:∀k,k≤ns.length→∀acc:Str,acc.length+(showZ p (ns.drop k) (ks.drop k)).length≤60000000000000→
   (zbt.L3 (mkS (ptS p)) (mkS acc) (k:Int) a b (mkS c) (eSs ns) (ks.map eT)).bind zbt.A3=rS (acc++showZ p (ns.drop k) (ks.drop k)):=by
   refine up ns.length ?_ fun k hk1 ihk acc hacc=> ?_
   ·intro acc _
    rw[zbt.s3,List.drop_length,zib,List.append_nil];simp (disch:=omega) only[pvL,pvN,zbt.a3x3]
   ·have hk2:k<ks.length:=by omega
    have hkm:=hk _ (List.getElem_mem hk2);have hko:=sL_at hok hk2;rw[zgC p hk1 hk2,zfe]at hacc⊢;simp only[List.length_append]at hacc;have hwk:=wL_at wT hk2;have hwn:=wP_at hk1;have hwp:=zdh p ns[k];have hm:=(zdG hkm).1;have hwt:=wT_eq ks[k];have h2:=zjh ks[k].dir ks[k].mode ks[k].data (p++[ns[k]]) (eSs ks[k].names) (ks[k].kids.map eT) hm.m0 (by have:=hm.m7;omega) (by omega) (by omega)
    have h3:=ih ks[k] (List.getElem_mem hk2) (p++[ns[k]]) (d+1) hkm hko (by omega)
    rw[zpR (by simp)]at h3
    have h4:=ihk (acc++lineT ks[k].dir ks[k].mode ks[k].data (p++[ns[k]])++showZ (p++[ns[k]]) ks[k].names ks[k].kids) (by simp only[List.length_append];omega)
    have e1:acc++(lineT ks[k].dir ks[k].mode ks[k].data (p++[ns[k]])++showZ (p++[ns[k]]) ks[k].names ks[k].kids++showZ p (ns.drop (k+1)) (ks.drop (k+1)))=
     acc++lineT ks[k].dir ks[k].mode ks[k].data (p++[ns[k]])++showZ (p++[ns[k]]) ks[k].names ks[k].kids++showZ p (ns.drop (k+1)) (ks.drop (k+1)):=by simp
    have e2:=zq6 p ns[k];have e3:ByteArray.mk #[47]=mkS [47]:=rfl;rw[zbt.s3,e1,←h4,e3];simp (disch:=omega) only[pvS,pvT,pvC,pvL,pvR,pvN,e2,h2,h3]
  have h0:=hl 0 (by omega) [] (by simp only[List.drop_zero,List.length_nil];omega)
  simp only[List.drop_zero,List.nil_append]at h0;rw[zbt.e];exact h0
end Go.PVx
namespace Go.PVx
open Go.PV
inductive OkT:Tree→Prop
 |mk (t:Tree):Asc t.names→t.names.length=t.kids.length→(∀k∈t.kids,OkT k)→OkT t
theorem OkT.asc{t:Tree}(h:OkT t):Asc t.names:=by cases h;assumption
theorem OkT.len{t:Tree}(h:OkT t):t.names.length=t.kids.length:=by cases h;assumption
theorem OkT.kid{t:Tree}(h:OkT t):∀k∈t.kids,OkT k:=by cases h;assumption
theorem OkT.leaf(d:Bool)(m:Int)(s:Str):OkT ⟨d,m,s,[],[]⟩:=⟨_,List.Pairwise.nil,rfl,fun k hk=>by simp at hk⟩
def plc(l:List Str)(n:Str):Nat:=(l.takeWhile fun m=>Op.bytesLess m n).length
theorem zf8(n:Str):∀l:List Str,Asc l→plc l n≤l.length∧∀j (h:j<l.length),Op.bytesLess l[j] n=decide (j<plc l n)
 | [],_=>⟨by simp[plc],fun j h=>by simp at h⟩
 |a::l,ha=>by
  have ha':=List.pairwise_cons.1 ha;obtain ⟨h1,h2⟩:=zf8 n l ha'.2;cases hb:Op.bytesLess a n with
  |true=>
   have e:plc (a::l) n=plc l n+1:=by unfold plc;rw[List.takeWhile_cons,hb];rfl
   rw[e];refine ⟨by simp only[List.length_cons];omega,fun j h=> ?_⟩
   cases j with
   |zero=>simp[hb]
   |succ j=>
    have:=h2 j (by simpa using h)
    simp only[List.getElem_cons_succ,this];congr 1
    simp
  |false=>
   have e:plc (a::l) n=0:=by unfold plc;rw[List.takeWhile_cons,hb];rfl
   rw[e];refine ⟨by omega,fun j h=> ?_⟩
   cases j with
   |zero=>simp[hb]
   |succ j=>
    have hj:j<l.length:=by simpa using h
    simp only[List.getElem_cons_succ,Nat.not_lt_zero,decide_false];cases hc:Op.bytesLess l[j] n with
    |false=>rfl
    |true=>
     rw[zcN _ _ _ (ha'.1 _ (List.getElem_mem hj)) hc]at hb;simp at hb
theorem zmq(t:Tree)(n:Str)(x:Tree):insI t n x=if t.names[plc t.names n]? =some n then ⟨t.dir,t.mode,t.data,t.names,t.kids.set (plc t.names n) x⟩
 else ⟨t.dir,t.mode,t.data,t.names.take (plc t.names n)++n::t.names.drop (plc t.names n),t.kids.take (plc t.names n)++x::t.kids.drop (plc t.names n)⟩:=rfl
theorem zq7{t x:Tree}{n:Str}(h:OkT t)(hx:OkT x):OkT (insI t n x):=by
 have hl:=h.len;have ha:=h.asc;have hk:=h.kid;obtain ⟨h1,h2⟩:=zf8 n t.names ha;rw[zmq];generalize plc t.names n=K at*;split
 ·refine ⟨_,ha,by simpa using hl,fun k hm=> ?_⟩
  rcases List.mem_or_eq_of_mem_set hm with hm|rfl
  ·exact hk k hm
  ·exact hx
 ·rename_i hne
  refine ⟨_, ?_,by simp;omega,fun k hm=> ?_⟩
  ·show Asc (t.names.take K++n::t.names.drop K)
   have ha2:Asc (t.names.take K++t.names.drop K):=by rw[List.take_append_drop];exact ha
   obtain ⟨p1,p2,p3⟩:=List.pairwise_append.1 ha2
   have q1:∀y∈t.names.take K,Op.bytesLess y n=true:=fun y hy=>by
    obtain ⟨i,hi,rfl⟩:=List.mem_iff_getElem.1 hy;have hi':i<K∧i<t.names.length:=by simp at hi;omega
    rw[List.getElem_take,h2 i hi'.2];exact decide_eq_true hi'.1
   have q2:∀y∈t.names.drop K,Op.bytesLess n y=true:=fun y hy=>by
    obtain ⟨i,hi,rfl⟩:=List.mem_iff_getElem.1 hy;have hi':K+i<t.names.length:=by simp at hi;omega
    rw[List.getElem_drop];have h3:=h2 (K+i) hi';rw[decide_eq_false (by omega)]at h3
    refine zeG _ _ h3 fun e=> ?_
    cases i with
    |zero=>exact hne (by rw[List.getElem?_eq_getElem (by omega)];simp only[Nat.add_zero]at e;rw[e])
    |succ i=>
     have hK:K<t.names.length:=by omega
     have h4:=List.pairwise_iff_getElem.1 ha K (K+(i+1)) hK hi' (by omega)
     rw[e]at h4;rw[h2 K hK]at h4;exact absurd (of_decide_eq_true h4) (by omega)
   exact List.pairwise_append.2 ⟨p1,List.pairwise_cons.2 ⟨q2,p2⟩,fun y hy z hz=>by
    rcases List.mem_cons.1 hz with rfl|hz
    ·exact q1 y hy
    ·exact p3 y hy z hz⟩
  ·rcases List.mem_append.1 hm with hm|hm
   ·exact hk k (List.mem_of_mem_take hm)
   ·rcases List.mem_cons.1 hm with rfl|hm
    ·exact hx
    ·exact hk k (List.mem_of_mem_drop hm)
theorem znk{α:Type}(w:α→Nat):∀(l:List α) (k:Nat) (h:k<l.length) (a:α),wL w (l.set k a)+w l[k]=wL w l+w a
 |x::l,0,h,a=>by simp only[List.set_cons_zero,wL,List.getElem_cons_zero];omega
 |x::l,k+1,h,a=>by
  have:=znk w l k (by simpa using h) a
  simp only[List.set_cons_succ,wL,List.getElem_cons_succ];omega
theorem wL_ins{α:Type}(w:α→Nat)(l:List α)(k:Nat)(a:α):wL w (l.take k++a::l.drop k)=wL w l+(1+w a):=by
 have h:wL w (l.take k++l.drop k)=wL w l:=by rw[List.take_append_drop]
 rw[zfV]at h⊢;simp only[wL];omega
theorem insI_w(t x:Tree)(n:Str)(hl:t.names.length=t.kids.length):wT (insI t n x)≤wT t+(2+n.length+wT x):=by
 rw[zmq];generalize plc t.names n=K at*;split
 ·rename_i h
  have hK:K<t.kids.length:=by have:=(List.getElem?_eq_some_iff.1 h).1;omega
  have:=znk wT t.kids K hK x;rw[wT_eq t,wT_eq];simp only;omega
 ·rw[wT_eq t,wT_eq]
  simp only[wP,wL_ins];omega
def locT:Tree→List Str→Option (PV.Path×Tree)
 |t,[]=>some ([],t)
 |t,n::q=>match ixN t.names n with
  |none=>none
  |some k=>match t.kids[k]? with
   |none=>none
   |some kd=>(locT kd q).map fun y=>((4,k)::y.1,y.2)
def setP:Tree→List Str→Tree→Tree
 |_,[],z=>z
 |t,n::q,z=>match ixN t.names n with
  |none=>t
  |some k=>match t.kids[k]? with
   |none=>t
   |some kd=>⟨t.dir,t.mode,t.data,t.names,t.kids.set k (setP kd q z)⟩
theorem zdY{t:Tree}{n:Str}{q:List Str}{y:PV.Path×Tree}(h:locT t (n::q)=some y):∃k kd y',ixN t.names n=some k∧t.kids[k]? =some kd∧locT kd q=some y'∧y=((4,k)::y'.1,y'.2):=by
 unfold locT at h;cases hk:ixN t.names n with
 |none=>rw[hk]at h;simp at h
 |some k=>
  rw[hk]at h;cases hd:t.kids[k]? with
  |none=>simp only[hd]at h;simp at h
  |some kd=>
   simp only[hd,Option.map_eq_some_iff]at h;obtain ⟨y',h1,h2⟩:=h;exact ⟨k,kd,y',rfl,hd,h1,h2.symm⟩
theorem zid(ins:Tree→Str→Tree→Tree)(x:Tree)(n:Str):∀(q:List Str) (t:Tree),putAt ins x t (q++[n])=(locT t q).map fun y=>setP t q (ins y.2 n x)
 | [],t=>rfl
 |m::q,t=>by
  have ih:=zid ins x n q;obtain ⟨a,b,hq⟩:∃a b,q++[n]=a::b:=by cases q<;>simp
  rw[List.cons_append,hq];unfold putAt locT setP;cases ixN t.names m with
  |none=>rfl
  |some k=>
   simp only;cases t.kids[k]? with
   |none=>rfl
   |some kd=>
    simp only;rw[←hq,ih kd];cases locT kd q<;>rfl
theorem zmr:∀(q:List Str) (t:Tree) (y:PV.Path×Tree),locT t q=some y→OkT t→OkT y.2
 | [],t,y,h,ho=>by cases h;exact ho
 |n::q,t,y,h,ho=>by
  obtain ⟨k,kd,y',h1,h2,h3,rfl⟩:=zdY h;exact zmr q kd y' h3 (ho.kid kd (List.mem_of_getElem? h2))
theorem zpS(z:Tree)(hz:OkT z):∀(q:List Str) (t:Tree) (y:PV.Path×Tree),locT t q=some y→OkT t→OkT (setP t q z)
 | [],t,y,h,ho=>hz
 |n::q,t,y,h,ho=>by
  obtain ⟨k,kd,y',h1,h2,h3,rfl⟩:=zdY h;unfold setP;rw[h1];simp only[h2];refine ⟨_,ho.asc,by simpa using ho.len,fun x hx=> ?_⟩
  rcases List.mem_or_eq_of_mem_set hx with hx|rfl
  ·exact ho.kid x hx
  ·exact zpS z hz q kd y' h3 (ho.kid kd (List.mem_of_getElem? h2))
theorem set_w(z:Tree):∀(q:List Str) (t:Tree) (y:PV.Path×Tree),locT t q=some y→wT (setP t q z)+wT y.2=wT t+wT z
 | [],t,y,h=>by cases h;exact Nat.add_comm _ _
 |n::q,t,y,h=>by
  obtain ⟨k,kd,y',h1,h2,h3,rfl⟩:=zdY h;have ih:=set_w z q kd y' h3;obtain ⟨hk,rfl⟩:=List.getElem?_eq_some_iff.1 h2;have hs:=znk wT t.kids k hk (setP t.kids[k] q z);unfold setP;rw[h1];simp only[h2];rw[wT_eq t,wT_eq];simp only;omega
theorem zpT(z:Tree):∀(q:List Str) (t:Tree) (y:PV.Path×Tree),locT t q=some y→zaj (eT t) y.1=eT y.2∧zaC (eT t) y.1 (eT z)=eT (setP t q z)
 | [],t,y,h=>by cases h;exact ⟨rfl,rfl⟩
 |n::q,t,y,h=>by
  obtain ⟨k,kd,y',h1,h2,h3,rfl⟩:=zdY h;obtain ⟨i1,i2⟩:=zpT z q kd y' h3;obtain ⟨hk,rfl⟩:=List.getElem?_eq_some_iff.1 h2;have e1:((eT t).getD 4 .h).es=t.kids.map eT:=by rw[eT_eq];rfl
  have e2:(t.kids.map eT).getD k []=eT t.kids[k]:=by rw[List.getD_eq_getElem?_getD,List.getElem?_map,h2];rfl
  constructor
  ·simp only[zaj,e1,e2,i1]
  ·unfold setP
   rw[h1];simp only[h2,zaC,e1,e2,i2];rw[eT_eq t,eT_eq ⟨_,_,_,_,_⟩,List.map_set];rfl
theorem znl{t:Tree}{q:List Str}{k:Nat}{p:PV.Path}{a:Nat}{c:Tree}(h:locT t q=some ((a,k)::p,c))(z:Tree):
 a=4∧k<t.kids.length∧zaj ((t.kids.map eT).getD k []) p=eT c∧(t.kids.map eT).set k (zaC ((t.kids.map eT).getD k []) p (eT z))=(setP t q z).kids.map eT∧
 (setP t q z).dir=t.dir∧(setP t q z).mode=t.mode∧(setP t q z).data=t.data∧(setP t q z).names=t.names:=by
 cases q with
 |nil=>simp[locT]at h
 |cons n q=>
  obtain ⟨k',kd,y',h1,h2,h3,h4⟩:=zdY h;have h5:(a,k)=(4,k')∧p=y'.1∧c=y'.2:=by simpa[and_assoc]using h4
  obtain ⟨h6,rfl,rfl⟩:=h5;obtain ⟨rfl,rfl⟩:=Prod.mk.inj h6;obtain ⟨i1,i2⟩:=zpT z q kd y' h3;obtain ⟨hk,rfl⟩:=List.getElem?_eq_some_iff.1 h2;have e2:(t.kids.map eT).getD k []=eT t.kids[k]:=by rw[List.getD_eq_getElem?_getD,List.getElem?_map,h2];rfl
  have e3:setP t (n::q) z=⟨t.dir,t.mode,t.data,t.names,t.kids.set k (setP t.kids[k] q z)⟩:=by
   conv=>lhs;unfold setP
   rw[h1];simp only[h2]
  rw[e2,e3,i1,i2];exact ⟨rfl,hk,rfl,by simp only[List.map_set],rfl,rfl,rfl,rfl⟩
theorem zpU{t:Tree}{q:List Str}{c:Tree}(h:locT t q=some ([],c))(z:Tree):c=t∧setP t q z=z:=by
 cases q with
 |nil=>cases h;exact ⟨rfl,rfl⟩
 |cons n q=>
  obtain ⟨k',kd,y',h1,h2,h3,h4⟩:=zdY h;simp at h4
theorem zq8{t x z:Tree}{q:List Str}(h:putAt insI x t q=some z)(ho:OkT t)(hx:OkT x):OkT z∧wT z≤wT t+(2+(q.getLastD []).length+wT x):=by
 rcases List.eq_nil_or_concat q with rfl|⟨q,n,rfl⟩
 ·simp[putAt]at h
 ·rw[List.concat_eq_append]at h⊢
  rw[zid]at h;simp only[Option.map_eq_some_iff]at h;obtain ⟨y,h1,rfl⟩:=h;have hy:=zmr q t y h1 ho;have h2:=set_w (insI y.2 n x) q t y h1;have h3:=insI_w y.2 x n hy.len;refine ⟨zpS _ (zq7 hy hx) q t y h1 ho, ?_⟩;simp only[List.getLastD_eq_getLast?,List.getLast?_append,List.getLast?_singleton];simp only[Option.or,Option.getD_some];omega
end Go.PVx
namespace Go.PVx
open Go.PV Go.Proofs
theorem zrz:∀(l:List Str) (n:Str) (k:Nat),k≤l.length→ixN (l.drop k) n=(if h:k<l.length then if l[k]=n then some 0 else (ixN (l.drop (k+1)) n).map (· +1)else none):=by
 intro l n k hk;by_cases h:k<l.length
 ·rw[dif_pos h,zaF l k h];rfl
 ·rw[dif_neg h,List.drop_eq_nil_of_le (by omega)];rfl
theorem zie(p:List Str)(n:Str)(hp:p.length≤1048576):zaf [vP p,vS n] []=rI (match ixN p n with|some k=>(k:Int)|none=> -1):=by
 have hl:∀k,k≤p.length→(zaf.L2 (eSs p) (mkS n) p.length (k:Int)).bind zaf.A2=rI (match ixN (p.drop k) n with|some j=>((k+j:Nat):Int)|none=> -1):=by
  refine up p.length ?_ fun k hk ih=> ?_
  ·rw[zaf.s2,List.drop_length]
   simp (disch:=omega) only[pvS,pvL,pvN,zaf.a2x2];rfl
  ·rw[zaf.s2,zrz p n k (by omega),dif_pos hk]
   by_cases he:p[k]=n
   ·have hb:(n==p[k])=true:=by simp[he]
    rw[if_pos he];simp (disch:=omega) only[pvS,pvT,pvC,pvL,pvR,pvN,hb,zaf.a2q2];rfl
   ·have hb:(n==p[k])=false:=by simpa using fun e=>he e.symm
    rw[if_neg he];simp (disch:=omega) only[pvS,pvT,pvC,pvL,pvR,pvN,hb];rw[ih];cases ixN (p.drop (k+1)) n with
    |none=>rfl
    |some j=>
     have e:k+1+j=k+(j+1):=by omega
     simp only[Option.map_some,e]
 have h0:=hl 0 (by omega)
 rw[List.drop_zero]at h0;rw[zaf.e];simp (disch:=omega) only[pvS,pvT,pvC,pvL,pvR,pvN];refine h0.trans ?_;cases ixN p n<;>simp
abbrev oR(t:Tree):PV.Obj:=⟨.ro,[.v (.bool t.dir), .v (.int .i64 t.mode), .v (.string (mkS t.data)), .s (eSs t.names), .s (t.kids.map eT)],[.sh, .sh, .sh, .sh, .sh]⟩
abbrev oB5(t:Tree):PV.Obj:=⟨.box,[.v (.bool t.dir), .v (.int .i64 t.mode), .v (.string (mkS t.data)), .s (eSs t.names), .s (t.kids.map eT)],[.deep, .deep, .deep, .deep, .deep]⟩
theorem zd9(t:Tree)(n:Str)(ho:OkT t)(hw:wT t≤1048576):za5 [.one (.p true 0 [] 0),vS n] [oR t]=
 some ⟨[match ixN t.names n with|some k=> .p true 0 [(4,k)] 0|none=> .p false 0 [] 0],[oR t]⟩:=by
 have hl:=ho.len;have hw':=wT_eq t;have hpl:=zbG t.names;have h1:=zie t.names n (by omega)
 rw[za5.e];cases hk:ixN t.names n with
 |none=>
  rw[hk]at h1;simp (disch:=omega) only[pvS,pvT,pvC,pvL,pvR,pvN,pvO,h1,za5.p3]
 |some k=>
  rw[hk]at h1;obtain ⟨hk1,_⟩:=zdv hk;have hk2:k<t.kids.length:=by omega
  simp (disch:=omega) only[pvS,pvT,pvC,pvL,pvR,pvN,pvO,h1,za5.p3,za5.p4]
theorem zj7(n:Nat)(b:Bool)(k:Nat)(p:PV.Path):R1.fits (.ptr n) (.p b n ((4,k)::p) 0)=true:=by simp[R1.fits]
theorem zhb(n:Nat)(b:Bool):R1.fits (.ptr n) (.p b n [] 0)=true:=by simp[R1.fits]
theorem rowGet_append:∀(row:List D) (p q:PV.Path),zaj row (p++q)=zaj (zaj row p) q
 |_,[],_=>rfl
 |row,(c,e)::p,q=>by
  simp only[List.cons_append,zaj];exact rowGet_append _ p q
theorem zn3{r:List D}{c:Tree}{p:PV.Path}(h:zaj r p=eT c){j:Nat}(hj:j<c.kids.length):zaj r (p++[(4,j)])=eT c.kids[j]:=by
 rw[rowGet_append,h,eT_eq c];simp only[zaj];show (c.kids.map eT).getD j []=_;rw[List.getD_eq_getElem?_getD,List.getElem?_map,List.getElem?_eq_getElem hj];rfl
theorem znm{c:Tree}{j:Nat}(hj:j<c.kids.length):wT c.kids[j]≤wT c:=by
 have:=wL_at wT hj;have:=wT_eq c;omega
theorem zeJ(b:Bool)(n:Nat)(p:PV.Path)(c:Nat):(TC.p b n p c).path=p:=rfl
theorem ok_p(b:Bool)(n:Nat)(p:PV.Path)(c:Nat):(TC.p b n p c).ok=b:=rfl
def rAt(t:Tree):Option (PV.Path×Tree)→Option Res
 |some y=>some ⟨[.p true 0 y.1 0],[oR t]⟩
 |none=>some ⟨[.p false 0 [] 0],[oR t]⟩
theorem zam.l2c(t:Tree)(q:List Str)(hq:q.length≤1048576):∀k,k≤q.length→∀(c:Tree) (a:Nat) (p:PV.Path),OkT c→wT c≤1048576→zaj ((t.kids.map eT).getD a []) p=eT c→
 (zam.L2c true a p (eSs q) q.length (k:Int) t.dir t.mode (mkS t.data) (eSs t.names) (t.kids.map eT)).bind zam.A2=rAt t ((locT c (q.drop k)).map fun y=>((4,a)::(p++y.1),y.2)):=by
 refine up q.length ?_ fun k hk ih c a p ho hw hr=> ?_
 ·intro c a p ho hw hr
  rw[zam.s2c,List.drop_length];simp (disch:=omega) only[pvS,pvL,pvN,zam.a2x2c,locT,Option.map_some,List.append_nil];rfl
 ·rw[zam.s2c,zaF q k hk]
  have h1:=zd9 c q[k] ho hw;simp (disch:=omega) only[pvS,pvT,pvC,pvL,pvR,pvN,hr,List.map_cons,List.map_nil];unfold locT;cases hk1:ixN c.names q[k]with
  |none=>
   rw[hk1]at h1;simp (disch:=omega) only[pvS,pvT,pvC,pvL,pvR,pvN,pvO,h1,zhb,zeJ,ok_p,List.isEmpty_nil,zam.p5b,zam.a2q2b];rfl
  |some j=>
   rw[hk1]at h1;obtain ⟨hj1,_⟩:=zdv hk1;have hj2:j<c.kids.length:=by have:=ho.len;omega
   have hd:c.kids[j]? =some c.kids[j]:=List.getElem?_eq_getElem hj2;simp (disch:=omega) only[pvS,pvT,pvC,pvL,pvR,pvN,pvO,h1,hd,zj7,zeJ,ok_p,List.isEmpty_cons,List.headD_cons,List.tail_cons,zam.p5b];rw[ih c.kids[j] a (p++[(4,j)]) (ho.kid _ (List.getElem_mem hj2)) (by have:=znm hj2;omega) (zn3 hr hj2)]
   cases locT c.kids[j] (q.drop (k+1))with
   |none=>rfl
   |some y=>simp only[Option.map_some,List.append_assoc,List.cons_append,List.nil_append]
theorem zif(t:Tree)(q:List Str)(hq:q.length≤1048576)(ho:OkT t)(hw:wT t≤1048576):zam [.one (.p true 0 [] 0),vP q] [oR t]=rAt t (locT t q):=by
 rw[zam.e];cases q with
 |nil=>
  simp (disch:=omega) only[pvS,pvT,pvC,pvL,pvR,pvN,pvO];rw[zam.s2];simp (disch:=omega) only[pvS,pvT,pvC,pvL,pvR,pvN,pvO,zam.a2x2];rfl
 |cons n q=>
  have h1:=zd9 t n ho hw;have hq':q.length+1≤1048576:=by simpa using hq
  have hl2:=zam.l2c t (n::q) hq 1 (by simp)
  have e:(eSs (n::q)).length=q.length+1:=by simp[eSs]
  have e0:(eSs (n::q)).getD 0 []=[.v (.string (mkS n))]:=rfl;rw[zam.s2];unfold locT;cases hk1:ixN t.names n with
  |none=>
   rw[hk1]at h1;simp (disch:=omega) only[pvS,pvT,pvC,pvL,pvR,pvN,pvO,e,e0,h1,zhb,zeJ,ok_p,List.isEmpty_nil,zam.p5,zam.a2q2];rfl
  |some j=>
   rw[hk1]at h1;obtain ⟨hj1,_⟩:=zdv hk1;have hj2:j<t.kids.length:=by have:=ho.len;omega
   have hd:t.kids[j]? =some t.kids[j]:=List.getElem?_eq_getElem hj2;have h2:=hl2 t.kids[j] j [] (ho.kid _ (List.getElem_mem hj2)) (by have:=znm hj2;omega) (by rw[List.getD_eq_getElem?_getD,List.getElem?_map,hd];rfl)
   simp (disch:=omega) only[pvS,pvT,pvC,pvL,pvR,pvN,pvO,e,e0,h1,hd,zj7,zeJ,ok_p,List.isEmpty_cons,List.headD_cons,List.tail_cons,zam.p5b];exact h2
theorem half(a b:Nat)(h:a+b≤2000000000):IntKind.i64.wrap ((IntKind.u64.wrap (IntKind.i64.wrap ((a:Int)+(b:Int)))).fdiv (2^min (Int.toNat 1) IntKind.u64.bits))=(((a+b)/2:Nat):Int):=by
 have e1:IntKind.i64.wrap ((a:Int)+(b:Int))=((a+b:Nat):Int):=by rw[Sx.wrap64]<;>omega
 have e2:IntKind.u64.wrap ((a+b:Nat):Int)=((a+b:Nat):Int):=by
  rw[IntKind.wrap_u64];omega
 have e3:(2:Int)^min (Int.toNat 1) IntKind.u64.bits=2:=rfl;rw[e1,e2,e3,Int.fdiv_eq_ediv_of_nonneg _ (by omega),Sx.wrap64]<;>omega
theorem zms(a b:Str):zbx [vS a,vS b] []=rB (Op.bytesLess a b):=by
 have h1:=zgS a;have h2:=zgS b;rw[zbx.e];simp (disch:=omega) only[pvS,pvC,pvL,pvR,pvN,h1,h2]
theorem zig(a:Str):za8 [vS a] []=rB false:=by
 rw[za8.e];simp only[beq_self_eq_true,Bool.not_true]
end Go.PVx
namespace Go.PVx
open Go.PV Go.Proofs
theorem binS.l3(p:List Str)(n:Str)(hp:p.length≤1048576)(ha:Asc p):∀m lo hi:Nat,hi-lo≤m→lo≤plc p n→plc p n≤hi→hi≤p.length→
 zae.L3 (eSs p) (mkS n) p.length (lo:Int) (hi:Int)=some (zae.x3 (eSs p) (mkS n) p.length (plc p n:Int)):=by
 obtain ⟨_,h2⟩:=zf8 n p ha;intro m
 induction m with
 |zero=>
  intro lo hi h0 h3 h4 h5;have e:lo=hi:=by omega
  have e':plc p n=hi:=by omega
  subst e;rw[zae.s3,e'];simp (disch:=omega) only[pvS,pvL,pvN]
 |succ m ih=>
  intro lo hi h0 h3 h4 h5;rcases Nat.eq_or_lt_of_le (Nat.le_trans h3 h4)with e|hlt
  ·have e':plc p n=hi:=by omega
   subst e;rw[zae.s3,e'];simp (disch:=omega) only[pvS,pvL,pvN]
  ·have hm:=half lo hi (by omega)
   have hmid:(lo+hi)/2<p.length:=by omega
   have hc:=zms p[(lo+hi)/2] n;have hb:=h2 ((lo+hi)/2) hmid;rw[zae.s3];have i1:=ih ((lo+hi)/2+1) hi (by omega)
   have i2:=ih lo ((lo+hi)/2) (by omega)
   have hlo:lo≤(lo+hi)/2:=by omega
   have hhi:(lo+hi)/2<hi:=by omega
   simp only[hm];generalize (lo+hi)/2=c at*;by_cases hk:c<plc p n
   ·rw[decide_eq_true hk]at hb
    have i1:=i1 (by omega) (by omega) (by omega)
    simp (disch:=omega) only[pvS,pvT,pvC,pvL,pvR,pvN,hc,hb];exact i1
   ·rw[decide_eq_false hk]at hb
    have i2:=i2 (by omega) (by omega) (by omega)
    simp (disch:=omega) only[pvS,pvT,pvC,pvL,pvR,pvN,hc,hb];exact i2
theorem zsz(p:List Str)(n:Str)(hp:p.length≤1048576)(ha:Asc p):zae [vP p,vS n] []=some ⟨[.v (.int .i64 (plc p n)), .v (.bool (decide (p[plc p n]? =some n)))],[]⟩:=by
 obtain ⟨h1,_⟩:=zf8 n p ha;have h3:=binS.l3 p n hp ha p.length 0 p.length (by omega) (by omega) h1 (by omega)
 rw[zae.e];simp (disch:=omega) only[pvS,pvT,pvC,pvL,pvR,pvN]at h3⊢;simp (disch:=omega) only[pvS,pvT,pvC,pvL,pvR,pvN,h3,zae.a3x3];generalize plc p n=K at*;rcases Nat.eq_or_lt_of_le h1 with e|hlt
 ·subst e
  rw[List.getElem?_eq_none (by omega)]
  simp (disch:=omega) only[pvS,pvT,pvC,pvL,pvR,pvN];rfl
 ·have hz:=zig p[K]
  rw[List.getElem?_eq_getElem hlt];by_cases he:p[K]=n
  ·have hb:(p[K]==n)=true:=by simp[he]
   rw[he]at hb⊢;simp (disch:=omega) only[pvS,pvT,pvC,pvL,pvR,pvN,he,hb]
  ·have hb:(p[K]==n)=false:=by simp[he]
   have hb2:decide (some p[K]=some n)=false:=decide_eq_false fun h=>he (Option.some.inj h)
   simp (disch:=omega) only[pvS,pvT,pvC,pvL,pvR,pvN,hb,hz,hb2]
theorem zq9(p:List Str)(n:Str)(k:Nat)(hk:k≤p.length)(hp:p.length≤1048576):zbk [.one (.r 0 [] 0),vI k, .one (.r 1 [] 0)] [⟨.virt,[.s (eSs p)],[.deep]⟩,⟨.virt,[.s [[.v (.string (mkS n))]]],[.deep]⟩]=
 some ⟨[.o .deep (eSs (p.take k++n::p.drop k))],[⟨.virt,[.h],[.deep]⟩,⟨.virt,[.h],[.deep]⟩]⟩:=by
 rw[zbk.ext];unfold zc6;have r1:zak 1 (eSs p)=true:=Sx.rowsLen_map 1 eS (fun _=>rfl) p
 have r2:zap true (eSs p)=true:=Sx.rowsCell_map true eS (fun _=>rfl) p
 have r3: [D.v (Value.string (mkS n))].all (cellD true)=true:=rfl;simp (disch:=omega) only[pvS,pvC,pvL,pvR,pvN,Int.toNat_natCast,r1,r2,r3];simp[eSs,eS]
theorem zra(p:List Tree)(x:Tree)(k:Nat)(hk:k≤p.length)(hp:p.length≤1048576):zbh [.one (.r 0 [] 0),vI k, .one (.r 1 [] 0)]
 [⟨.virt,[.s (p.map eT)],[.deep]⟩,⟨.virt,[.s [[.v (.bool x.dir), .v (.int .i64 x.mode), .v (.string (mkS x.data)), .s (eSs x.names), .s (x.kids.map eT)]]],[.deep]⟩]=
 some ⟨[.o .deep ((p.take k++x::p.drop k).map eT)],[⟨.virt,[.h],[.deep]⟩,⟨.virt,[.h],[.deep]⟩]⟩:=by
 rw[zbh.ext];unfold zc6;have r1:zak 5 (p.map eT)=true:=Sx.rowsLen_map 5 eT Sx.eT_len p;have r2:zap true (p.map eT)=true:=Sx.rowsCell_map true eT (fun a=>by rw[eT_eq];rfl) p
 have r3: [D.v (Value.bool x.dir),D.v (Value.int IntKind.i64 x.mode),D.v (Value.string (mkS x.data)),D.s (eSs x.names),D.s (x.kids.map eT)].all (cellD true)=true:=rfl;simp (disch:=omega) only[pvS,pvC,pvL,pvR,pvN,Int.toNat_natCast,r1,r2,r3];rw[List.map_append,List.map_cons,eT_eq x,List.append_assoc];rfl
theorem zj8(t:Tree)(n:Str)(d:Bool)(m:Int)(s:Str)(ho:OkT t)(hw:wT t≤1048576):
 zcu [.one (.p true 0 [] 0),vS n, .g [.v (.bool d), .v (.int .i64 m), .v (.string (mkS s)), .v (.slice none 0 0), .v (.slice none 0 0)]] [oB5 t]=some ⟨[],[oB5 (insI t n ⟨d,m,s,[],[]⟩)]⟩:=by
 have hl:=ho.len;have hwt:=wT_eq t;have hpl:=zbG t.names;obtain ⟨hK,_⟩:=zf8 n t.names ho.asc;have h1:=zsz t.names n (by omega) ho.asc
 have h2:=zq9 t.names n (plc t.names n) hK (by omega)
 have h3:zbh [.one (.r 0 [] 0),vI (plc t.names n), .one (.r 1 [] 0)] [⟨.virt,[.s (t.kids.map eT)],[.deep]⟩,⟨.virt,[.s [[.v (.bool d), .v (.int .i64 m), .v (.string (mkS s)), .s [], .s []]]],[.deep]⟩]=_:=
  zra t.kids ⟨d,m,s,[],[]⟩ (plc t.names n) (by omega) (by omega)
 rw[iTree_putn.e,zmq];by_cases he:t.names[plc t.names n]? =some n
 ·rw[if_pos he]
  rw[decide_eq_true he]at h1;have hk:plc t.names n<t.kids.length:=by have:=(List.getElem?_eq_some_iff.1 he).1;omega
  generalize plc t.names n=K at*;simp (disch:=omega) only[pvS,pvT,pvC,pvL,pvR,pvN,pvO,h1,oB5,List.map_set,List.drop_succ_cons,List.drop_nil];rfl
 ·rw[if_neg he]
  rw[decide_eq_false he]at h1;generalize plc t.names n=K at*;simp (disch:=omega) only[pvS,pvT,pvC,pvL,pvR,pvN,pvO,h1,h2,h3,iTree_putn.p5]
end Go.PVx
namespace Go.PVx
open Go.PV Go.Proofs
abbrev rT(t:Tree):Option Res:=some ⟨[.v (.bool t.dir), .v (.int .i64 t.mode), .v (.string (mkS t.data)), .o .deep (eSs t.names), .o .deep (t.kids.map eT)],[]⟩
theorem ziC(t:Tree):wT t≤1048576→zaI [vT t] []=rT t:=by
 induction t using Tree.ind with
 |h d m s ns ks ih=>
  intro hw;have hwt:=wT_eq ⟨d,m,s,ns,ks⟩;simp only at hwt;have hl1:=zcf wT ks;have hl2:=zbG ns;have r1:zak 1 (eSs ns)=true:=Sx.rowsLen_map 1 eS (fun _=>rfl) ns
  have r2:zap false (eSs ns)=true:=Sx.rowsCell_map false eS (fun _=>rfl) ns
  have hl:∀k,k≤ks.length→(zaI.L3 (ks.map eT) ks.length (k:Int) d m (mkS s) (eSs ns) (ks.map eT) false 0 (mkS []) [] [] ((ks.take k).map eT)).bind zaI.A3=rT ⟨d,m,s,ns,ks⟩:=by
   refine up ks.length ?_ fun k hk ihk=> ?_
   ·rw[zaI.s3,List.take_length]
    simp (disch:=omega) only[pvS,pvT,pvC,pvL,pvR,pvN,zaI.a3x3,r1,r2]
   ·have hk1:=wL_at wT hk
    have h1:=ih ks[k] (List.getElem_mem hk) (by omega)
    have r3:zak 5 ((ks.take k).map eT)=true:=Sx.rowsLen_map 5 eT Sx.eT_len _
    have e:(ks.take k).map eT++[eT ks[k]]=(ks.take (k+1)).map eT:=by
     rw[List.take_add_one,List.getElem?_eq_getElem hk,List.map_append];rfl
    have e2:((ks.take k).map eT).length=k:=by simp;omega
    rw[←ihk,←e,zaI.s3];rw[eT_eq ks[k]];simp (disch:=omega) only[pvS,pvT,pvC,pvL,pvR,pvN,h1,r3,e2]
  have h0:=hl 0 (by omega)
  rw[zaI.e];simp (disch:=omega) only[pvS,pvT,pvC,pvL,pvR,pvN];exact h0
theorem zji(t:Tree)(n:Str)(hp:t.names.length≤1048576):zbd [vT t,vS n] []=rI (match ixN t.names n with|some k=>(k:Int)|none=> -1):=by
 have hl:∀k,k≤t.names.length→(zbd.L2 (mkS n) (k:Int) t.dir t.mode (mkS t.data) (eSs t.names) (t.kids.map eT)).bind zbd.A2=rI (match ixN (t.names.drop k) n with|some j=>((k+j:Nat):Int)|none=> -1):=by
  refine up t.names.length ?_ fun k hk ih=> ?_
  ·rw[zbd.s2,List.drop_length]
   simp (disch:=omega) only[pvS,pvL,pvN,zbd.a2x2];rfl
  ·rw[zbd.s2,zrz t.names n k (by omega),dif_pos hk]
   by_cases he:t.names[k]=n
   ·have hb:(t.names[k]==n)=true:=by simp[he]
    rw[if_pos he];simp (disch:=omega) only[pvS,pvT,pvC,pvL,pvR,pvN,hb,zbd.a2q2];rfl
   ·have hb:(t.names[k]==n)=false:=by simpa using he
    rw[if_neg he];simp (disch:=omega) only[pvS,pvT,pvC,pvL,pvR,pvN,hb];rw[ih];cases ixN (t.names.drop (k+1)) n with
    |none=>rfl
    |some j=>
     have e:k+1+j=k+(j+1):=by omega
     simp only[Option.map_some,e]
 have h0:=hl 0 (by omega)
 rw[List.drop_zero]at h0;rw[zbd.e];refine h0.trans ?_;cases ixN t.names n<;>simp
inductive OkL:Tree→Prop
 |mk (t:Tree):t.names.length=t.kids.length→(∀k∈t.kids,OkL k)→OkL t
theorem OkL.len{t:Tree}(h:OkL t):t.names.length=t.kids.length:=by cases h;assumption
theorem OkL.kid{t:Tree}(h:OkL t):∀k∈t.kids,OkL k:=by cases h;assumption
theorem OkL.leaf(d:Bool)(m:Int)(s:Str):OkL ⟨d,m,s,[],[]⟩:=⟨_,rfl,fun k hk=>by simp at hk⟩
theorem zih(x:Tree)(hx:OkL x):∀(q:List Str) (t z:Tree),putAt insS x t q=some z→OkL t→OkL z∧wT z=wT t+(2+(q.getLastD []).length+wT x)
 | [],t,z,h,_=>by simp[putAt]at h
 | [n],t,z,h,ho=>by
  simp only[putAt,Option.some.injEq]at h;subst h;refine ⟨⟨_,by simp[insS,ho.len],fun k hk=> ?_⟩, ?_⟩
  ·simp only[insS,List.mem_append,List.mem_singleton]at hk
   rcases hk with hk|rfl
   ·exact ho.kid k hk
   ·exact hx
  ·rw[wT_eq t,wT_eq]
   simp only[insS,wP,zfV,wL,List.getLastD_cons,List.getLastD_nil];omega
 |n::m::q,t,z,h,ho=>by
  unfold putAt at h;cases hk:ixN t.names n with
  |none=>rw[hk]at h;simp at h
  |some k=>
   rw[hk]at h;cases hd:t.kids[k]? with
   |none=>simp only[hd]at h;simp at h
   |some kd=>
    simp only[hd,Option.map_eq_some_iff]at h;obtain ⟨y,h1,rfl⟩:=h;have hm:=List.mem_of_getElem? hd;obtain ⟨i1,i2⟩:=zih x hx (m::q) kd y h1 (ho.kid kd hm);obtain ⟨hkl,rfl⟩:=List.getElem?_eq_some_iff.1 hd;have hs:=znk wT t.kids k hkl y;refine ⟨⟨_,by simpa using ho.len,fun a ha=> ?_⟩, ?_⟩
    ·rcases List.mem_or_eq_of_mem_set ha with ha|rfl
     ·exact ho.kid a ha
     ·exact i1
    ·have e:(n::m::q).getLastD []=(m::q).getLastD []:=rfl
     rw[e,wT_eq t,wT_eq];simp only;omega
abbrev rPut(u:Tree)(b:Bool):Option Res:=some ⟨[.v (.bool u.dir), .v (.int .i64 u.mode), .v (.string (mkS u.data)), .s (eSs u.names), .s (u.kids.map eT), .v (.bool b)],[]⟩
theorem zii(x:Tree):∀(q:List Str) (t:Tree),q≠[]→q.length≤1048576→OkL t→wT t≤1048576→∃u,zbL [vT t,vP q,vT x] []=rPut u (putAt insS x t q).isSome∧∀z,putAt insS x t q=some z→u=z
 | [],_,h,_,_,_=>absurd rfl h
 | [n],t,_,_,ho,hw=>by
  have hwt:=wT_eq t;have hl1:=zcf wT t.kids;have hl2:=zbG t.names;have r1:zak 1 (eSs t.names)=true:=Sx.rowsLen_map 1 eS (fun _=>rfl) _
  have r2:zap false (eSs t.names)=true:=Sx.rowsCell_map false eS (fun _=>rfl) _
  have r3:zak 5 (t.kids.map eT)=true:=Sx.rowsLen_map 5 eT Sx.eT_len _;have r4:zap true (t.kids.map eT)=true:=Sx.rowsCell_map true eT (fun a=>by rw[eT_eq];rfl) _
  refine ⟨insS t n x, ?_,fun z h=>by simpa[putAt]using h⟩
  have e1:(eSs [n]).length=1:=rfl;have e2:(eSs [n]).getD 0 []=[.v (.string (mkS n))]:=rfl;rw[zbL.e];simp (disch:=omega) only[pvS,pvT,pvC,pvL,pvR,pvN,r1,r2,r3,r4,zbL.p3,e1,e2,putAt,Option.isSome_some];simp only[rPut,insS,eSs,List.map_append,List.map_cons,List.map_nil,eT_eq x];rfl
 |n::m::q,t,_,hq,ho,hw=>by
  have hwt:=wT_eq t;have hl1:=zcf wT t.kids;have hl2:=zbG t.names;have r1:zak 1 (eSs t.names)=true:=Sx.rowsLen_map 1 eS (fun _=>rfl) _
  have r2:zap false (eSs t.names)=true:=Sx.rowsCell_map false eS (fun _=>rfl) _
  have r3:zak 5 (t.kids.map eT)=true:=Sx.rowsLen_map 5 eT Sx.eT_len _;have r4:zap true (t.kids.map eT)=true:=Sx.rowsCell_map true eT (fun a=>by rw[eT_eq];rfl) _
  have hf:=zji t n (by omega)
  simp only[List.length_cons]at hq;have e1:(eSs (n::m::q)).length=q.length+2:=by simp[eSs]
  have e2:(eSs (n::m::q)).getD 0 []=[.v (.string (mkS n))]:=rfl;have e3:List.drop 1 (List.take (q.length+2) (n::m::q))=m::q:=by simp
  have ep:putAt insS x t (n::m::q)=match ixN t.names n with
   |none=>none
   |some k=>match t.kids[k]? with
    |none=>none
    |some kd=>(putAt insS x kd (m::q)).map fun z=>⟨t.dir,t.mode,t.data,t.names,t.kids.set k z⟩:=rfl
  rw[ep];cases hk:ixN t.names n with
  |none=>
   rw[hk]at hf;refine ⟨t, ?_,fun z h=>by simp at h⟩
   rw[zbL.e];simp (disch:=omega) only[pvS,pvT,pvC,pvL,pvR,pvN,r1,r2,r3,r4,zbL.p3,zbL.p7,e1,e2,hf,Option.isSome_none]
  |some k=>
   rw[hk]at hf;obtain ⟨hk1,_⟩:=zdv hk;have hk2:k<t.kids.length:=by have:=ho.len;omega
   have hd:t.kids[k]? =some t.kids[k]:=List.getElem?_eq_getElem hk2;obtain ⟨u,h1,h2⟩:=zii x (m::q) t.kids[k] (by simp) (by simp only[List.length_cons];omega) (ho.kid _ (List.getElem_mem hk2)) (by have:=znm hk2;omega)
   simp only[hd];refine ⟨⟨t.dir,t.mode,t.data,t.names,t.kids.set k u⟩, ?_,fun z h=> ?_⟩
   ·rw[zbL.e]
    simp (disch:=omega) only[pvS,pvT,pvC,pvL,pvR,pvN,r1,r2,r3,r4,zbL.p3,zbL.p7,e1,e2,e3,hf,h1,Option.isSome_map,rPut,List.map_set,List.drop_succ_cons,List.drop_nil]
   ·simp only[Option.map_eq_some_iff]at h
    obtain ⟨y,h3,rfl⟩:=h;rw[h2 y h3]
end Go.PVx
namespace Go.PVx
open Go.PV Go.Proofs
def rTB:Option Tree→Option Res
 |some t=>some ⟨[.v (.bool t.dir), .v (.int .i64 t.mode), .v (.string (mkS t.data)), .o .deep (eSs t.names), .o .deep (t.kids.map eT), .v (.bool true)],[]⟩
 |none=>some ⟨[.v (.bool false), .v (.int .i64 0), .v (.string (mkS [])), .o .deep [], .o .deep [], .v (.bool false)],[]⟩
theorem oT_of:∀t:Tree,wT t≤1048576→oT t:=fun t=>by
 induction t using Tree.ind with
 |h d m s ns ks ih=>
  intro hw;rw[wT_eq]at hw;simp only at hw;have h1:=zcf wT ks;rw[oT_eq];refine ⟨by unfold sS;simp only;omega,oP_of (by simp only;omega),⟨by simp only;omega,fun k hk=>ih k hk (by have:=zc5 wT ks k hk;omega)⟩⟩
end Go.PVx
namespace Go.PVx
open Go.PV Go.Proofs
theorem zrb(q:List Str)(n:Str):(eSs (q++[n])).getD q.length []=[.v (.string (mkS n))]:=by
 unfold eSs;rw[List.map_append,List.getD_eq_getElem?_getD,List.getElem?_append_right (by simp)]
 simp[eS]
theorem loc_w:∀(q:List Str) (t:Tree) (y:PV.Path×Tree),locT t q=some y→wT y.2≤wT t
 | [],t,y,h=>by cases h;exact Nat.le_refl _
 |n::q,t,y,h=>by
  obtain ⟨k,kd,y',h1,h2,h3,rfl⟩:=zdY h;obtain ⟨hk,rfl⟩:=List.getElem?_eq_some_iff.1 h2;have:=loc_w q _ y' h3;have:=znm hk;simp only;omega
end Go.PVx
namespace Go.PVx
open Go.PV Go.Proofs
end Go.PVx
namespace Go.PVx
open Go.PV Go.Proofs
theorem znn{l:List Str}(h:∀x∈l,nameB x=true):wP l≤6*l.length:=by
 unfold wP
 induction l with
 |nil=>simp[wL]
 |cons a l ih=>
  have h1:=h a (by simp)
  have h2:=ih fun x hx=>h x (by simp[hx])
  unfold nameB inB at h1;simp only[Bool.and_eq_true,decide_eq_true_eq]at h1;simp only[wL,List.length_cons];omega
theorem zsA(t:Tree):∀d,za1 d t=true→wT t≤24+31*cnt t:=by
 induction t using Tree.ind with
 |h dd m s ns ks ih=>
  intro d h;have hp:=(zdG h).1;have hl:=zbm h;have hk:=fun k (hm:k∈ks)=>ih k hm (d+1) (zaZ h (k:=k) hm)
  have h1:=hp.len;have h2:=znn hp.nm;have h3:=hp.file;have h4:=hp.dat;rw[wT_eq,zgT];simp only at h1 h2 h3 h4 hl⊢
  have h5:s.length≤24:=by
   cases hd:dd with
   |true=>rw[h4 hd];simp
   |false=>exact (h3 hd).1
  have key:∀l:List Tree,(∀k∈l,wT k≤24+31*cnt k)→wL wT l+6*l.length≤31*wL cnt l:=by
   intro l
   induction l with
   |nil=>simp[wL]
   |cons a l ihl=>
    intro h;have:=h a (by simp)
    have:=ihl fun k hk=>h k (by simp[hk])
    simp only[wL,List.length_cons];omega
  have:=key ks hk;omega
theorem zgD{t:Tree}(h:treeB t=true):wT t≤1000:=by
 have:=zsA t 0 (zbA h);have:=zeu h;omega
end Go.PVx
