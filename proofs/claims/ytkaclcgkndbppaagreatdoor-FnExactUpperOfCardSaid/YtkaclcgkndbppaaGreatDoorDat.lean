/- A part of the proof: PvU1, PvU2, PvU3, PvU4, PvL0, PvL1, PvV1, PvV2, PvV3, PvV4, PvM1, PvM2. -/
import Derived.Test.YtkaclcgkndbppaaGreatDoorReb
import Derived.Test.YtkaclcgkndbppaaGreatDoorTy
import Derived.Test.YtkaclcgkndbppaaGreatDoorExt
set_option linter.unusedSimpArgs false
set_option linter.unusedVariables false
namespace Go.PVx
open Go.PV Go.Proofs
def inB(a b c:Int):Bool:=decide (b≤a)&&decide (a≤c)
theorem zjU(a b c:Int):sl1In [vI a,vI b,vI c] []=rB (inB a b c):=by
 rw[sl1In.e];unfold inB;by_cases h:b≤a<;>simp[h]
theorem zfd(a b c:Int):zcT [vI a,vI b,vI c] []=rB (inB a b c):=by
 rw[zcT.e];unfold inB;by_cases h:b≤a<;>simp[h]
theorem znW(a:Int):zdV [vI a] []=rB (inB a 0 7):=by
 rw[zdV.e,zfd];simp
def okc(b:UInt8):Bool:=(decide (97≤(b.toNat:Int))&&decide ((b.toNat:Int)≤122))||(decide (48≤(b.toNat:Int))&&decide ((b.toNat:Int)≤57))
def nameB(s:Str):Bool:=s.all okc&&inB s.length 1 5
theorem zau.l2(s:Str)(hs:sS s):∀k,k≤s.length→zau.L2 (mkS s) (k:Int)=some (bif (s.drop k).all okc then zau.x2 (mkS s)else zau.q2 (mkS s) false):=by
 unfold sS at hs;refine up s.length ?_ fun k hk ih=> ?_
 ·rw[zau.s2];simp
 ·rw[zau.s2,zaF s k hk,List.all_cons]
  simp only[Int.toNat_natCast,zeO s k hk,zau.p5,zbC k (by omega),ih,okc]
  by_cases h1:97≤(s[k].toNat:Int)<;>by_cases h2:(s[k].toNat:Int)≤122<;>by_cases h3:48≤(s[k].toNat:Int)<;>by_cases h4:(s[k].toNat:Int)≤57<;>simp[h1,h2,h3,h4,hk]
theorem zgQ(s:Str)(hs:sS s):zau [vS s] []=rB (nameB s):=by
 have h:=zau.l2 s hs 0 (by omega)
 rw[zau.e,show (0:Int)=((0:Nat):Int) from rfl,h]
 unfold nameB;cases h:s.all okc<;>simp[h,zau.a2q2,zau.a2x2,zjU]
theorem zaV.l2(s:Str)(hs:sS s):∀k,k≤s.length→zaV.L2 (mkS s) s.length (k:Int)=some (bif (s.drop k).all okc then zaV.x2 (mkS s)else zaV.q2 (mkS s) false):=by
 unfold sS at hs;refine up s.length ?_ fun k hk ih=> ?_
 ·rw[zaV.s2];simp
 ·rw[zaV.s2,zaF s k hk,List.all_cons]
  simp only[Int.toNat_natCast,zeO s k hk,zaV.p5,zbC k (by omega),ih,okc]
  have e1:decide ((s[k].toNat:Int)<97)= !decide (97≤(s[k].toNat:Int)):=by by_cases h:97≤(s[k].toNat:Int)<;>simp[h]<;>omega
  have e2:decide ((s[k].toNat:Int)>122)= !decide ((s[k].toNat:Int)≤122):=by by_cases h:(s[k].toNat:Int)≤122<;>simp[h]<;>omega
  have e3:decide ((s[k].toNat:Int)<48)= !decide (48≤(s[k].toNat:Int)):=by by_cases h:48≤(s[k].toNat:Int)<;>simp[h]<;>omega
  have e4:decide ((s[k].toNat:Int)>57)= !decide ((s[k].toNat:Int)≤57):=by by_cases h:(s[k].toNat:Int)≤57<;>simp[h]<;>omega
  simp only[e1,e2,e3,e4];cases decide (97≤(s[k].toNat:Int))<;>cases decide ((s[k].toNat:Int)≤122)<;>cases decide (48≤(s[k].toNat:Int))<;>cases decide ((s[k].toNat:Int)≤57)<;>simp[hk]
theorem znX(s:Str)(hs:sS s):zaV [vS s] []=rB (nameB s):=by
 have h:=zaV.l2 s hs 0 (by omega)
 rw[zaV.e,zeC,show (0:Int)=((0:Nat):Int) from rfl,h]
 unfold nameB;cases h:s.all okc<;>simp[h,zaV.a2q2,zaV.a2x2,zfd]
def pathB(least:Int)(p:List Str):Bool:=p.all nameB&&inB p.length least 4
theorem zaN.l2(p:List Str)(hp:oP p):∀k,k≤p.length→zaN.L2 (eSs p) (k:Int)=some (bif (p.drop k).all nameB then zaN.x2 (eSs p)else zaN.q2 (eSs p) false):=by
 have hl:=hp.1;refine up p.length ?_ fun k hk ih=> ?_
 ·rw[zaN.s2];simp
 ·rw[zaN.s2,zaF p k hk,List.all_cons]
  simp only[Int.toNat_natCast,zbT eS p k hk,zbC k (by omega),ih]
  have h:=zgQ p[k] (sL_at hp hk);cases hn:nameB p[k]<;>rw[hn]at h<;>simp[hk,eS,h]
theorem zgR(p:List Str)(hp:oP p):zaN [vP p] []=rB (pathB 1 p):=by
 have h:=zaN.l2 p hp 0 (by omega)
 rw[zaN.e,show (0:Int)=((0:Nat):Int) from rfl,h]
 unfold pathB;cases h:p.all nameB<;>simp[h,zaN.a2q2,zaN.a2x2,zjU]
theorem zaQ.l4(a b:List Str)(ha:a.length≤9223372036854775807)(hab:b.length≤a.length):∀k,k≤b.length→zaQ.L4 (eSs a) (eSs b) (k:Int)=
 some (bif decide (b.drop k=(a.take b.length).drop k)then zaQ.x4 else zaQ.q4 false):=by
 refine up b.length ?_ fun k hk ih=> ?_
 ·rw[zaQ.s4];simp[hab]
 ·rw[zaQ.s4]
  have hk2:k<a.length:=by omega
  have hk3:k<(a.take b.length).length:=by simp;omega
  rw[zaF b k hk,zaF _ k hk3];simp only[Int.toNat_natCast,zbT eS a k hk2,zbT eS b k hk,zbC k (by omega),ih,List.getElem_take]
  by_cases he:a[k]=b[k]
  ·simp[-List.getElem_cons_drop,hk,hk2,eS,he]
  ·simp[-List.getElem_cons_drop,hk,hk2,eS,beq_eq_false_iff_ne.2 he,show ¬b[k]=a[k] from fun h=>he h.symm]
def isPre(b a:List Str):Bool:=b.isPrefixOf a
theorem zi8(a b:List Str)(h:b.length≤a.length):decide (b=a.take b.length)=isPre b a:=by
 unfold isPre;rw[Bool.eq_iff_iff,decide_eq_true_iff,List.isPrefixOf_iff_prefix,List.prefix_iff_eq_take]
theorem zlg(a b:List Str)(ha:a.length≤9223372036854775807):zaQ [vP a,vP b] []=rB (isPre b a):=by
 rw[zaQ.e];by_cases h:a.length<b.length
 ·have h2:isPre b a=false:=by
   unfold isPre;rw[Bool.eq_false_iff,ne_eq,List.isPrefixOf_iff_prefix];intro hp;have:=hp.length_le;omega
  simp[h,h2]
 ·have hl:=zaQ.l4 a b ha (by omega) 0 (by omega)
  simp only[List.drop_zero]at hl;rw[zi8 a b (by omega)]at hl
  simp only[List.length_map];rw[show (0:Int)=((0:Nat):Int) from rfl,hl]
  cases hp:isPre b a<;>simp[h,zaQ.a4q4,zaQ.a4x4]
theorem zpx(a b:List Str)(h:a.length=b.length):isPre b a=decide (a=b):=by
 rw[←zi8 a b (by omega),Bool.eq_iff_iff,decide_eq_true_iff,decide_eq_true_iff,←h,List.take_length]
 exact ⟨Eq.symm,Eq.symm⟩
theorem zhZ(a b:List Str)(ha:a.length≤9223372036854775807):zcL [vP a,vP b] []=rB (decide (a=b)):=by
 rw[zcL.e];by_cases h:a.length=b.length
 ·simp[h,zlg a b ha,zpx a b h]
 ·have:a≠b:=fun he=>h (by rw[he])
  have h':((a.length:Int)==(b.length:Int))=false:=by rw[beq_eq_false_iff_ne];omega
  simp[h',this,bne]
theorem zad.l4(a b:List Str)(ha:a.length≤9223372036854775807)(hab:a.length=b.length):∀k,k≤a.length→zad.L4 (eSs a) (eSs b) a.length (k:Int)=
 some (bif decide (a.drop k=b.drop k)then zad.x4 else zad.q4 false):=by
 refine up a.length ?_ fun k hk ih=> ?_
 ·rw[zad.s4];simp[hab]
 ·rw[zad.s4]
  have hk2:k<b.length:=by omega
  rw[zaF b k hk2,zaF a k hk];simp only[Int.toNat_natCast,zbT eS b k hk2,zbT eS a k hk,zbC k (by omega),ih]
  by_cases he:a[k]=b[k]
  ·simp[-List.getElem_cons_drop,hk,hk2,eS,he]
  ·simp[-List.getElem_cons_drop,hk,hk2,eS,beq_eq_false_iff_ne.2 he,he]
theorem zeS(a b:List Str)(ha:a.length≤9223372036854775807):zad [vP a,vP b] []=rB (decide (a=b)):=by
 rw[zad.e];by_cases h:a.length=b.length
 ·have hl:=zad.l4 a b ha h 0 (by omega)
  simp only[List.drop_zero]at hl;simp only[List.length_map];rw[show (0:Int)=((0:Nat):Int) from rfl,hl]
  by_cases hp:a=b<;>simp[h,hp,zad.a4q4,zad.a4x4]
 ·have:a≠b:=fun he=>h (by rw[he])
  have h':((a.length:Int)==(b.length:Int))=false:=by rw[beq_eq_false_iff_ne];omega
  simp[h',this,bne]
def lessP:List Str→List Str→Bool
 |_,[]=>false
 | [],_::_=>true
 |x::a,y::b=>bif x==y then lessP a b else Op.bytesLess x y
theorem zgS(a:Str):zbn [vS a] []=rB false:=by
 rw[zbn.e];simp
theorem zjV:∀a:Str,Op.bytesLess a a=false:=by
 intro a
 induction a with
 |nil=>rfl
 |cons x a ih=>simp[Op.bytesLess,ih]
end Go.PVx
namespace Go.PVx
open Go.PV Go.Proofs
theorem zeT{ks:List Tree}{k:Nat}(h:k<ks.length):
 (ks.map eT).getD k []=[.v (.bool ks[k].dir), .v (.int .i64 ks[k].mode), .v (.string (mkS ks[k].data)), .s (eSs ks[k].names), .s (ks[k].kids.map eT)]:=by
 rw[zbT eT ks k h,eT_eq]
theorem zsh{t:Tree}(h:oT t):sS t.data:=((oT_eq t).1 h).1
theorem zjW{t:Tree}(h:oT t):oP t.names:=((oT_eq t).1 h).2.1
theorem zh0{t:Tree}(h:oT t):sL oT t.kids:=((oT_eq t).1 h).2.2
def zdJ:Option Str→List Str→Bool
 |_,[]=>true
 |p,x::l=>nameB x&&(match p with|none=>true|some y=>Op.bytesLess y x)&&zdJ (some x) l
def zfn(l:List Str):Nat→Option Str
 |0=>none
 |k+1=>l[k]?
def plainB(t:Tree):Bool:=inB t.mode 0 7&&decide (t.names.length=t.kids.length)&&(bif t.dir then zdJ none t.names&&decide (t.data=[])else decide (t.data.length≤24)&&decide (t.names.length=0))
mutual
def za1:Int→Tree→Bool
 |d,⟨a,b,c,e,ks⟩=>plainB ⟨a,b,c,e,ks⟩&&decide (d≤4)&&zjX (d+1) ks
def zjX:Int→List Tree→Bool
 |_,[]=>true
 |d,t::ts=>za1 d t&&zjX d ts
end
theorem zh1(d:Int):∀l:List Tree,zjX d l=l.all (za1 d)
 | []=>rfl
 |t::ts=>by rw[zjX,zh1 d ts];rfl
theorem zes(d:Int)(t:Tree):za1 d t=(plainB t&&decide (d≤4)&&t.kids.all (za1 (d+1))):=by
 obtain ⟨a,b,c,e,ks⟩:=t;rw[za1,zh1]
mutual
def cnt:Tree→Nat
 |⟨_,_,_,_,ks⟩=>cnts ks
def cnts:List Tree→Nat
 | []=>0
 |t::ts=>1+cnt t+cnts ts
end
theorem zpy:∀l:List Tree,cnts l=wL cnt l
 | []=>rfl
 |t::ts=>by rw[cnts,zpy ts];rfl
theorem zgT(t:Tree):cnt t=wL cnt t.kids:=by
 obtain ⟨a,b,c,e,ks⟩:=t;rw[cnt,zpy]
theorem wL_le{α:Type}(v w:α→Nat):∀l:List α,(∀x∈l,v x≤w x)→wL v l≤wL w l
 | [],_=>Nat.le_refl _
 |x::l,h=>by
  have h1:=h x (by simp)
  have h2:=wL_le v w l fun y hy=>h y (List.mem_cons_of_mem _ hy)
  simp only[wL];omega
theorem zdl(t:Tree):cnt t≤wT t:=by
 induction t using Tree.ind with
 |h d m s ns ks ih=>
  rw[zgT,wT_eq];have:=wL_le cnt wT ks ih;simp only at this⊢;omega
def treeB(t:Tree):Bool:=t.dir&&za1 0 t&&decide (cnt t≤30)
theorem zq1(s:Str):s.isEmpty=decide (s=[]):=by cases s<;>rfl
theorem zfZ{l:List Str}{k:Nat}(h:k<l.length):zfn l (k+1)=some l[k]:=by simp[zfn,h]
theorem zaq.l6(t:Tree)(hn:oP t.names):∀k,k≤t.names.length→zaq.L6 (k:Int) t.dir t.mode (mkS t.data) (eSs t.names) (t.kids.map eT)=
 some (bif zdJ (zfn t.names k) (t.names.drop k)then zaq.x6 t.dir t.mode (mkS t.data) (eSs t.names) (t.kids.map eT)else zaq.q6 false t.dir t.mode (mkS t.data) (eSs t.names) (t.kids.map eT)):=by
 have hl:=hn.1;refine up t.names.length ?_ fun k hk ih=> ?_
 ·rw[zaq.s6];simp[zdJ]
 ·rw[zaq.s6,zaF t.names k hk]
  have h:=zgQ t.names[k] (sL_at hn hk)
  have ih':zaq.L6 (IntKind.i64.wrap ((k:Int)+1)) t.dir t.mode (mkS t.data) (eSs t.names) (t.kids.map eT)=some (bif zdJ (some t.names[k]) (t.names.drop (k+1))then zaq.x6 t.dir t.mode (mkS t.data) (eSs t.names) (t.kids.map eT)else zaq.q6 false t.dir t.mode (mkS t.data) (eSs t.names) (t.kids.map eT)):=by
   rw[zbC k (by omega),ih,zfZ hk]
  simp only[Int.toNat_natCast,zbT eS t.names k hk,zaq.p9,ih',zdJ];cases hnb:nameB t.names[k]with
  |false=>rw[hnb]at h;simp[hk,eS,h]
  |true=>
   rw[hnb]at h;by_cases hk0:k=0
   ·have e0:decide ((k:Int)>0)=false:=by simp;omega
    have hpv0:zfn t.names k=none:=by rw[hk0];rfl
    simp only[e0,hpv0];simp[-List.getElem_cons_drop,hk,eS,h]
   ·obtain ⟨j,hjk⟩:∃j,k=j+1:=⟨k-1,by omega⟩
    have hj:j<t.names.length:=by omega
    have hw:IntKind.i64.wrap ((k:Int)-1)=(j:Int):=by rw[zk5 k (by omega) (by omega),hjk];rfl
    have hpv:zfn t.names k=some t.names[j]:=by rw[hjk];exact zfZ hj
    have e1:decide ((k:Int)>0)=true:=by simp;omega
    simp only[hw,Int.toNat_natCast,zbT eS t.names j hj,hpv,e1];cases hb:Op.bytesLess t.names[j] t.names[k]<;>simp[-List.getElem_cons_drop,hk,hj,eS,h,hb]
theorem zmf(t:Tree)(ho:oT t):zaq [vT t] []=rB (plainB t):=by
 rw[zaq.e,zjU];unfold plainB;cases h1:inB t.mode 0 7 with
 |false=>simp[zaq.p2]
 |true=>
  by_cases h2:t.names.length=t.kids.length
  ·have h2':((t.names.length:Int) !=(t.kids.length:Int))=false:=by rw[h2];simp
   cases h3:t.dir with
   |false=>
    simp only[Option.bind_some,List.length_map,h2',zaq.p2,zaq.p3,zeC];by_cases h4:t.data.length≤24
    ·have h4':((t.data.length:Int)≤24):=by omega
     by_cases h5:t.names.length=0
     ·simp[h4,h4',h5,←h2]
     ·have h5':((t.names.length:Int)==0)=false:=by rw[beq_eq_false_iff_ne];omega
      simp[h4,h4',h5,h5',←h2]
    ·have h4':¬((t.data.length:Int)≤24):=by omega
     simp[h4,h4',←h2]
   |true=>
    have hl:=zaq.l6 t (zjW ho) 0 (by omega)
    simp only[List.drop_zero,zfn,h3]at hl;have hl:zaq.L6 0 true t.mode (mkS t.data) (eSs t.names) (t.kids.map eT)=_:=hl;simp only[List.length_map,h2',Option.bind_some,zac,List.getD_cons_zero,zjI];cases h6:zdJ none t.names<;>rw[h6]at hl<;>simp[zaq.p2,zaq.p3,hl,zaq.a6q6,zaq.a6x6,h2,zq1]
  ·have h2':((t.names.length:Int) !=(t.kids.length:Int))=true:=by simp[bne];omega
   simp[h2,h2',zaq.p2,zaq.p3]
theorem zmg(t:Tree):oT t→∀d:Int,0≤d→d≤5→zaB [vT t,vI d] []=rB (za1 d t):=by
 induction t using Tree.ind with
 |h a b c ns ks ih=>
  intro ho d h0 h5;rw[zaB.e,zmf _ ho,zes];cases h1:plainB ⟨a,b,c,ns,ks⟩with
  |false=>simp[zaB.p2]
  |true=>
   by_cases h2:d≤4
   ·have hk:=zh0 ho
    have hkl:=hk.1
    have hl:∀k,k≤ks.length→zaB.L4 d (k:Int) a b (mkS c) (eSs ns) (ks.map eT)=some (bif (ks.drop k).all (za1 (d+1))then zaB.x4 else zaB.q4 false):=by
     refine up ks.length ?_ fun k hk2 ihk=> ?_
     ·rw[zaB.s4];simp
     ·rw[zaB.s4,zaF ks k hk2,List.all_cons]
      have hr:=ih ks[k] (List.getElem_mem hk2) (sL_at hk hk2) (d+1) (by omega) (by omega)
      simp only[Int.toNat_natCast,zeT hk2,zbC k (by simp only at hkl;omega),ihk,zc1 (d+1) (by omega)]
      cases hp:za1 (d+1) ks[k]<;>rw[hp]at hr<;>simp[-List.getElem_cons_drop,hk2,hr]
    have h2':¬d>4:=by omega
    have hl0:zaB.L4 d 0 a b (mkS c) (eSs ns) (ks.map eT)=_:=hl 0 (by omega)
    simp only[List.drop_zero]at hl0;cases hp:ks.all (za1 (d+1))<;>rw[hp]at hl0<;>simp[hl0,zaB.a4q4,zaB.a4x4,h2,h2',hp,zaB.p2,zaB.p3]
   ·have h2':d>4:=by omega
    simp[h2,h2',zaB.p2]
def sumC:List Tree→Int
 | []=>0
 |t::l=>(cnt t:Int)+sumC l
theorem zpz:∀l:List Tree,sumC l=(wL cnt l:Int)-l.length
 | []=>rfl
 |t::l=>by simp only[sumC,wL,List.length_cons,zpz l];omega
theorem zmh(t:Tree):wT t≤1048576→zba [vT t] []=rI (cnt t):=by
 induction t using Tree.ind with
 |h a b c ns ks ih=>
  intro hw;rw[zba.e,zgT];rw[wT_eq]at hw;simp only at hw⊢;have hlen:=zcf wT ks
  have hl:∀k,k≤ks.length→∀x:Int,0≤x→x+wL wT (ks.drop k)≤4194304→zba.L3 x (k:Int) a b (mkS c) (eSs ns) (ks.map eT)=some (zba.x3 (x+sumC (ks.drop k))):=by
   refine up ks.length ?_ fun k hk ihk x hn1 hn2=> ?_
   ·intro x _ _;rw[zba.s3];simp[sumC]
   ·rw[zba.s3]
    have h1:=zgz wT hk;have h3:=wL_at wT hk;have h4:=zdl ks[k];have hr:=ih ks[k] (List.getElem_mem hk) (by omega)
    have e1:IntKind.i64.wrap (x+(cnt ks[k]:Int))=x+(cnt ks[k]:Int):=zc1 _ (by omega)
    have:=ihk (x+(cnt ks[k]:Int)) (by omega) (by omega)
    have e2:x+(cnt ks[k]:Int)+sumC (ks.drop (k+1))=x+sumC (ks.drop k):=by rw[zaF ks k hk];simp only[sumC];omega
    rw[e2]at this;push_cast at this;simp only[Int.toNat_natCast,zeT hk,zbC k (by omega)]
    simp[hk,hr,e1,this]
  have h0:zba.L3 (ks.length:Int) 0 a b (mkS c) (eSs ns) (ks.map eT)=_:=hl 0 (by omega) ks.length (by omega) (by rw[List.drop_zero];omega)
  simp only[List.length_map];rw[h0,List.drop_zero,zpz];simp only[Option.bind_some,zba.a3x3];rw[show ((ks.length:Int)+((wL cnt ks:Int)-ks.length))=wL cnt ks from by omega]
theorem zi9(t:Tree)(ho:oT t)(hw:wT t≤1048576):zdr [vT t] []=rB (treeB t):=by
 rw[zdr.e,zmg t ho 0 (by omega) (by omega),zmh t hw]
 unfold treeB;have h3:decide ((cnt t:Int)≤30)=decide (cnt t≤30):=decide_eq_decide.2 (by omega)
 cases h1:t.dir<;>cases h2:za1 0 t<;>simp[h3]
theorem ziz(t:Tree):oT t→∀d:Int,0≤d→d≤5→zai [vT t,vI d] []=rB (za1 d t):=by
 induction t using Tree.ind with
 |h a b c ns ks ih=>
  intro ho d h0 h5;rw[zai.e,znW,zes];unfold plainB;simp only;cases h1:inB b 0 7 with
  |false=>simp[zai.p2]
  |true=>
   by_cases hd:d≤4
   ·have hd':¬d>4:=by omega
    by_cases h2:ns.length=ks.length
    ·have h2':((ns.length:Int) !=(ks.length:Int))=false:=by rw[h2];simp
     cases a with
     |false=>
      simp only[Option.bind_some,List.length_map,h2',zai.p2,zai.p3,zeC];by_cases h4:c.length≤24
      ·have h4':((c.length:Int)≤24):=by omega
       by_cases h5:ns.length=0
       ·have:ks=[]:=List.eq_nil_of_length_eq_zero (by omega)
        simp[h4,h4',h5,hd,hd',this]
       ·have h5':((ns.length:Int)==0)=false:=by rw[beq_eq_false_iff_ne];omega
        simp[h4,h4',h5',h5,hd,hd',←h2]
      ·have h4':¬((c.length:Int)≤24):=by omega
       simp[h4,h4',hd,hd',←h2]
     |true=>
      have hk:=zh0 ho;have hn:=zjW ho;have hkl:=hk.1;simp only at hkl hn
      have hl:∀k,k≤ns.length→zai.L8 d (eSs ns) ns.length (k:Int) true b (mkS c) (eSs ns) (ks.map eT)=
       some (bif zdJ (zfn ns k) (ns.drop k)&&(ks.drop k).all (za1 (d+1))then zai.x8 else zai.q8 false):=by
       refine up ns.length ?_ fun k hk1 ihk=> ?_
       ·rw[zai.s8,show ks.drop ns.length=[] from List.drop_eq_nil_of_le (by omega)];simp[zdJ]
       ·have hk2:k<ks.length:=by omega
        rw[zai.s8,zaF ns k hk1,zaF ks k hk2,List.all_cons];have h:=znX ns[k] (sL_at hn hk1);have hr:=ih ks[k] (List.getElem_mem hk2) (sL_at hk hk2) (d+1) (by omega) (by omega)
        have ih':zai.L8 d (eSs ns) ns.length (IntKind.i64.wrap ((k:Int)+1)) true b (mkS c) (eSs ns) (ks.map eT)=some (bif zdJ (some ns[k]) (ns.drop (k+1))&&(ks.drop (k+1)).all (za1 (d+1))then zai.x8 else zai.q8 false):=by
         rw[zbC k (by omega),ihk,zfZ hk1]
        simp only[Int.toNat_natCast,zbT eS ns k hk1,zeT hk2,zai.p11,ih',zdJ,zc1 (d+1) (by omega)]
        cases hnb:nameB ns[k]with
        |false=>rw[hnb]at h;simp[hk1,eS,h]
        |true=>
         rw[hnb]at h;by_cases hk0:k=0
         ·have e0:decide ((k:Int)>0)=false:=by simp;omega
          have hpv0:zfn ns k=none:=by rw[hk0];rfl
          simp only[e0,hpv0];cases hp:za1 (d+1) ks[k]<;>rw[hp]at hr<;>simp[-List.getElem_cons_drop,hk1,hk2,eS,h,hr]
         ·obtain ⟨j,hjk⟩:∃j,k=j+1:=⟨k-1,by omega⟩
          have hj:j<ns.length:=by omega
          have hw:IntKind.i64.wrap ((k:Int)-1)=(j:Int):=by rw[zk5 k (by omega) (by omega),hjk];rfl
          have hpv:zfn ns k=some ns[j]:=by rw[hjk];exact zfZ hj
          have e1:decide ((k:Int)>0)=true:=by simp;omega
          simp only[hw,Int.toNat_natCast,zbT eS ns j hj,hpv,e1];cases hb:Op.bytesLess ns[j] ns[k]with
          |false=>simp[-List.getElem_cons_drop,hk1,hj,eS,h,hb]
          |true=>cases hp:za1 (d+1) ks[k]<;>rw[hp]at hr<;>simp[-List.getElem_cons_drop,hk1,hk2,hj,eS,h,hb,hr]
      have hl0:zai.L8 d (eSs ns) ns.length 0 true b (mkS c) (eSs ns) (ks.map eT)=_:=hl 0 (by omega)
      simp only[List.drop_zero,zfn]at hl0;have h2d:decide (ns.length=ks.length)=true:=by simp[h2]
      by_cases h7:c=[]
      ·subst h7
       cases h6:zdJ none ns<;>cases h8:ks.all (za1 (d+1))<;>rw[h6,h8]at hl0<;>
        simp[zai.p2,zai.p3,hl0,zai.a8q8,zai.a8x8,h2d,h2',hd,hd',h6,h8]
      ·have h7':(c==[])=false:=by simpa using h7
       simp[zai.p2,zai.p3,h2,h2',hd,hd',h7,h7']
    ·have h2':((ns.length:Int) !=(ks.length:Int))=true:=by simp[bne];omega
     simp[h2,h2',hd,hd',zai.p2]
   ·have hd':d>4:=by omega
    simp[hd,hd',zai.p2]
theorem ziA(t:Tree):wT t≤1048576→zaH [vT t] []=rI ((cnt t:Int)+1):=by
 induction t using Tree.ind with
 |h a b c ns ks ih=>
  intro hw;rw[zaH.e,zgT];rw[wT_eq]at hw;simp only at hw⊢;have hlen:=zcf wT ks
  have hl:∀k,k≤ks.length→∀x:Int,0≤x→x+wL wT (ks.drop k)≤4194304→zaH.L3 x (ks.map eT) ks.length (k:Int)=some (zaH.x3 (x+wL cnt (ks.drop k))):=by
   refine up ks.length ?_ fun k hk ihk x hn1 hn2=> ?_
   ·intro x _ _;rw[zaH.s3];simp[wL]
   ·rw[zaH.s3]
    have h1:=zgz wT hk;have h2:=zgz cnt hk;have h3:=wL_at wT hk;have h4:=zdl ks[k];have hr:=ih ks[k] (List.getElem_mem hk) (by omega)
    have e1:IntKind.i64.wrap (x+((cnt ks[k]:Int)+1))=x+((cnt ks[k]:Int)+1):=zc1 _ (by omega)
    have:=ihk (x+((cnt ks[k]:Int)+1)) (by omega) (by omega)
    have e2:x+((cnt ks[k]:Int)+1)+(wL cnt (ks.drop (k+1)):Int)=x+wL cnt (ks.drop k):=by omega
    rw[e2]at this;push_cast at this;simp only[Int.toNat_natCast,zeT hk,zbC k (by omega)]
    simp[hk,hr,e1,this]
  have h0:zaH.L3 1 (ks.map eT) ks.length 0=_:=hl 0 (by omega) 1 (by omega) (by rw[List.drop_zero];omega)
  simp only[List.length_map];rw[h0,List.drop_zero];simp only[Option.bind_some,zaH.a3x3];rw[Int.add_comm]
theorem zja(t:Tree)(ho:oT t)(hw:wT t≤1048576):zdq [vT t] []=rB (treeB t):=by
 rw[zdq.e,ziz t ho 0 (by omega) (by omega),ziA t hw]
 unfold treeB;have h3:decide ((cnt t:Int)+1≤31)=decide (cnt t≤30):=decide_eq_decide.2 (by omega)
 cases h1:t.dir<;>cases h2:za1 0 t<;>simp[h3]
end Go.PVx
namespace Go.PVx
open Go.PV Go.Proofs
def zrt(nx:Int):List NodeOf→List NodeOf→Bool
 |_,[]=>true
 |pre,x::l=>inB x.id 1 (IntKind.i64.wrap (nx-1))&&(pathB 1 x.path&&((match pre.getLast? with|none=>true|some y=>lessP y.path x.path)&&(pre.all (fun y=> !(y.id==x.id))&&zrt nx (pre++[x]) l)))
def okB(n:Nodes):Bool:=inB n.next 1 10000&&decide (n.list.length≤30)&&zrt n.next [] n.list
end Go.PVx
namespace Go.PVx
open Go.PV Go.Proofs
theorem rowsLen_map{α:Type}(f:α→List D)(n:Nat)(h:∀x,(f x).length=n)(l:List α):zak n (l.map f)=true:=by
 simp[zak,h]
@[simp] theorem zjb(l:List Str):zak 1 (eSs l)=true:=rowsLen_map eS 1 (fun _=>rfl) l
@[simp] theorem zsi(l:List (List Str)):zak 1 (l.map ePa)=true:=rowsLen_map ePa 1 (fun _=>rfl) l
@[simp] theorem zsS(l:List NodeOf):zak 2 (l.map eN)=true:=rowsLen_map eN 2 (fun _=>rfl) l
@[simp] theorem zh2(b:Bool)(l:List Str):zap b (eSs l)=true:=by simp[zap,eS,cellD,zc2]
@[simp] theorem zru(l:List (List Str)):zap true (l.map ePa)=true:=by simp[zap,ePa,cellD]
theorem zpA(l:List Str)(s:Str):eSs l++[[D.v (.string (mkS s))]]=eSs (l++[s]):=by simp[eS]
theorem zet(p:List Str)(n:Str)(hp:p.length≤4194304):zcw [vP p,vS n] []=rSh (eSs (p++[n])):=by
 rw[zcw.e];have e1:decide ((0+p.length)*17≤70368744177664)=true:=by simp;omega
 have e2:decide ((p.length+1)*17≤70368744177664)=true:=by simp;omega
 simp only[zjb,zh2,List.length_map,e1,e2,Bool.and_self,cond_true,zpA]
theorem zf0(p:List Str)(n:Str)(hp:p.length≤4194304):zdD [vP p,vS n] []=rO (eSs (p++[n])):=by
 rw[zdD.e];have e1:decide ((0+p.length)*17≤70368744177664)=true:=by simp;omega
 have e2:decide ((p.length+1)*17≤70368744177664)=true:=by simp;omega
 simp only[zjb,zh2,List.length_map,e1,e2,Bool.and_self,cond_true,zpA]
theorem zbm{d:Int}{t:Tree}(h:za1 d t=true):t.names.length=t.kids.length:=by
 rw[zes]at h;simp only[plainB,Bool.and_eq_true,decide_eq_true_eq]at h;exact h.1.1.1.2
theorem zaZ{d:Int}{t:Tree}(h:za1 d t=true){k:Tree}(hk:k∈t.kids):za1 (d+1) k=true:=by
 rw[zes]at h;simp only[Bool.and_eq_true,List.all_eq_true]at h;exact h.2 k hk
theorem zbA{t:Tree}(h:treeB t=true):za1 0 t=true:=by
 simp only[treeB,Bool.and_eq_true]at h;exact h.1.2
end Go.PVx
namespace Go.PVx
open Go.PV Go.Proofs
def szR(w:Nat)(x:Int):Int:=bif decide ((w:Int)≤x)then x-w else-1
theorem zeU{w:Nat}{x:Int}(h:(w:Int)≤x):szR w x=x-w:=by simp[szR,h]
theorem zee{w:Nat}{x:Int}(h:¬(w:Int)≤x):szR w x= -1:=by simp[szR,h]
def sumW{α:Type}(w:α→Nat):List α→Nat
 | []=>0
 |x::l=>w x+sumW w l
theorem zne{α:Type}(w:α→Nat):∀l:List α,wL w l=l.length+sumW w l
 | []=>rfl
 |x::l=>by simp only[wL,sumW,List.length_cons,zne w l];omega
theorem zfy{a b:Nat}{x:Int}(h:(a:Int)≤x):szR (a+b) x=szR b (x-a):=by
 unfold szR;by_cases h2:(b:Int)≤x-a
 ·have h3:((a+b:Nat):Int)≤x:=by omega
  simp only[h2,h3,decide_true,cond_true];omega
 ·have h3:¬((a+b:Nat):Int)≤x:=by omega
  simp only[h2,h3,decide_false,cond_false]
theorem zeF{a b:Nat}{x:Int}(h:¬(a:Int)≤x):szR (a+b) x= -1:=zee (by omega)
theorem znf{l:List Str}{k:Nat}(h:k<l.length):(eSs l).getD k []=[.v (.string (mkS l[k]))]:=by
 rw[zbT eS l k h];rfl
theorem zaA.l5(l:List Str)(ho:oP l):∀k,k≤l.length→∀x:Int,0≤x→x≤Lim→(zaA.L5 (eSs l) x (k:Int)).bind zaA.A5=rI (szR (sumW List.length (l.drop k)) x):=by
 have hl:=ho.1;have hL:(Lim:Int)=1048576:=rfl;refine up l.length ?_ fun k hk ih x h0 h1=> ?_
 ·intro x h0 h1;rw[zaA.s5];simp[sumW,szR,zaA.a5x5,h0]
 ·rw[zaA.s5,zaF l k hk]
  have hsz:=sL_at ho hk;unfold sS at hsz;have hw:IntKind.i64.wrap (x-(l[k].length:Int))=x-(l[k].length:Int):=zc1 _ (by omega)
  simp only[Int.toNat_natCast,znf hk,zbC k (by omega),sumW,List.getD_cons_zero,str_v,zeC,hw]
  by_cases hx:(l[k].length:Int)≤x
  ·have hn:¬x-(l[k].length:Int)<0:=by omega
   have:=ih (x-(l[k].length:Int)) (by omega) (by omega)
   push_cast at this;rw[zfy hx,←this];simp[-List.getElem_cons_drop,hk,hn]
  ·have hn:x-(l[k].length:Int)<0:=by omega
   rw[zeF hx];simp[-List.getElem_cons_drop,hk,hn,zaA.a5q5]
theorem zf1(l:List Str)(ho:oP l)(x:Int)(h0:0≤x)(h1:x≤Lim):zaA [vP l,vI x] []=rI (szR (wP l) x):=by
 have hl:=ho.1;have hL:(Lim:Int)=1048576:=rfl;have hw:IntKind.i64.wrap (x-(l.length:Int))=x-(l.length:Int):=zc1 _ (by omega)
 rw[zaA.e];unfold wP;simp only[List.length_map,hw,zne];by_cases hx:(l.length:Int)≤x
 ·have hn:¬x-(l.length:Int)<0:=by omega
  have:=zaA.l5 l ho 0 (by omega) (x-(l.length:Int)) (by omega) (by omega)
  rw[List.drop_zero]at this;rw[zfy hx,←this];simp[hn]
 ·have hn:x-(l.length:Int)<0:=by omega
  rw[zeF hx];simp[hn]
theorem zf2(l:List Str)(hl:l.length≤1048576):zaT [vP l] []=rO (eSs l):=by
 have key:∀k,k≤l.length→(zaT.L3 (eSs l) (k:Int) ((l.take k).map eS++List.replicate (l.length-k) [D.v (Value.string (mkS []))])).bind zaT.A3=rO (eSs l):=by
  refine up l.length ?_ fun k hk ih=> ?_
  ·rw[zaT.s3,zjM];simp[zaT.a3x3]
  ·rw[zaT.s3]
   have h1:=zjK eS l [D.v (Value.string (mkS []))] k hk;have h2:=zjJ eS l [D.v (Value.string (mkS []))] k (by omega)
   have h3:=zjL eS l [D.v (Value.string (mkS []))] k hk;rw[←ih];simp only[Int.toNat_natCast,znf hk,zbC k (by omega),h1,h2,List.getD_cons_zero,str_v]
   have h3':List.set ((l.take k).map eS++List.replicate (l.length-k) [D.v (Value.string (mkS []))]) k (D.v (Value.string (mkS l[k]))::List.drop 1 [D.v (Value.string (mkS []))])=_:=h3;rw[h3'];have hb1:decide ((k:Int)<((eSs l).length:Int))=true:=by simp;omega
   have hb2:decide (0≤(k:Int))=true:=by simp
   have hb3:decide ((k:Int)<(l.length:Int))=true:=by simp;omega
   simp only[hb1,hb2,hb3];rfl
 rw[zaT.e];have hc:(decide (((eSs l).length:Int)*((↑16:Int)+1)≤2^46)&&true&&true)=true:=by simp;omega
 rw[hc,cond_true];have h0:=key 0 (by omega)
 rw[zhR]at h0;simp only[List.length_map,Int.toNat_natCast];exact h0
theorem zdf(l:List Str)(hl:l.length≤9223372036854775807):zaE [vP l,vP l] []=rB true:=by
 have key:∀k,k≤l.length→zaE.L4 (eSs l) (eSs l) (k:Int)=some zaE.x4:=by
  refine up l.length ?_ fun k hk ih=> ?_
  ·rw[zaE.s4];simp
  ·rw[zaE.s4]
   simp only[Int.toNat_natCast,znf hk,zbC k (by omega),ih]
   simp[hk]
 have h0:zaE.L4 (eSs l) (eSs l) 0=_:=key 0 (by omega)
 rw[zaE.e,h0];simp[zaE.a4x4]
end Go.PVx
namespace Go.PVx
open Go.PV Go.Proofs
abbrev rTree(t:Tree):Option Res:=some ⟨[.v (.bool t.dir), .v (.int .i64 t.mode), .v (.string (mkS t.data)), .o .deep (eSs t.names), .o .deep (t.kids.map eT)],[]⟩
theorem zaY.l5(l:List Tree)(hl:l.length≤9223372036854775807)(hX:∀a∈l,∀x:Int,0≤x→x≤Lim→zbY [vT a,vI x] []=rI (szR (wT a) x)):∀k,k≤l.length→∀x:Int,0≤x→x≤Lim→
 (zaY.L5 (l.map eT) x (k:Int)).bind zaY.A5=rI (szR (sumW wT (l.drop k)) x):=by
 have hL:(Lim:Int)=1048576:=rfl;refine up l.length ?_ fun k hk ih x h0 h1=> ?_
 ·intro x h0 h1;rw[zaY.s5];simp[sumW,szR,zaY.a5x5,h0]
 ·rw[zaY.s5,zaF l k hk]
  have h:=hX l[k] (List.getElem_mem hk) x h0 h1;simp only[Int.toNat_natCast,zeT hk,zbC k (by omega),sumW]
  by_cases hx:(wT l[k]:Int)≤x
  ·have hn:¬x-(wT l[k]:Int)<0:=by omega
   have:=ih (x-(wT l[k]:Int)) (by omega) (by omega)
   push_cast at this;rw[zeU hx]at h;rw[zfy hx,←this];simp[-List.getElem_cons_drop,hk,hn,h]
  ·rw[zee hx]at h
   rw[zeF hx];simp[-List.getElem_cons_drop,hk,h,zaY.a5q5]
theorem zmi(l:List Tree)(hl:l.length≤9223372036854775807)(hX:∀a∈l,∀x:Int,0≤x→x≤Lim→zbY [vT a,vI x] []=rI (szR (wT a) x))(x:Int)(h0:0≤x)(h1:x≤Lim):
 zaY [.one (.s (l.map eT)),vI x] []=rI (szR (wL wT l) x):=by
 have hL:(Lim:Int)=1048576:=rfl;have hw:IntKind.i64.wrap (x-(l.length:Int))=x-(l.length:Int):=zc1 _ (by omega)
 rw[zaY.e];simp only[List.length_map,hw,zne];by_cases hx:(l.length:Int)≤x
 ·have hn:¬x-(l.length:Int)<0:=by omega
  have:=zaY.l5 l hl hX 0 (by omega) (x-(l.length:Int)) (by omega) (by omega)
  rw[List.drop_zero]at this;rw[zfy hx,←this];simp[hn]
 ·have hn:x-(l.length:Int)<0:=by omega
  rw[zeF hx];simp[hn]
theorem zmj(l:List Tree)(hl:l.length≤1048576)(hX:∀a∈l,zck [vT a] []=rTree a):zbf [.one (.s (l.map eT))] []=rO (l.map eT):=by
 have key:∀k,k≤l.length→(zbf.L3 (l.map eT) (k:Int) ((l.take k).map eT++List.replicate (l.length-k) [D.v (Value.bool false),D.v (Value.int IntKind.i64 0),D.v (Value.string (mkS [])),D.s [],D.s []])).bind zbf.A3=rO (l.map eT):=by
  refine up l.length ?_ fun k hk ih=> ?_
  ·rw[zbf.s3,zjM];simp[zbf.a3x3]
  ·rw[zbf.s3]
   have h:=hX l[k] (List.getElem_mem hk);have h1:=zjK eT l [D.v (Value.bool false),D.v (Value.int IntKind.i64 0),D.v (Value.string (mkS [])),D.s [],D.s []] k hk;have h2:=zjJ eT l [D.v (Value.bool false),D.v (Value.int IntKind.i64 0),D.v (Value.string (mkS [])),D.s [],D.s []] k (by omega)
   have h3:=zjL eT l [D.v (Value.bool false),D.v (Value.int IntKind.i64 0),D.v (Value.string (mkS [])),D.s [],D.s []] k hk;have h4:eT l[k]=_:=(zbT eT l k hk).symm.trans (zeT hk);rw[h4]at h3;rw[←ih];simp only[Int.toNat_natCast,zeT hk,zbC k (by omega),h1,h2]
   have hb1:decide ((k:Int)<((l.map eT).length:Int))=true:=by simp;omega
   have hb2:decide (0≤(k:Int))=true:=by simp
   have hb3:decide ((k:Int)<(l.length:Int))=true:=by simp;omega
   simp only[hb1,hb2,hb3];simp only[zao,CK.fits,List.zipIdx,List.all_cons,List.all_nil,List.getD_cons_zero,List.getD_cons_succ,List.length_cons,List.length_nil,str_v,zpk,int_v,es_s,h,Option.bind_some,zac,R1.fits,tes_o,zpl,zjI,znc];simp only[List.drop_succ_cons,List.drop_zero,List.drop_nil];rw[h3];rfl
 rw[zbf.e];have hc:(decide (((l.map eT).length:Int)*((↑80:Int)+1)≤2^46)&&true&&true)=true:=by simp;omega
 rw[hc,cond_true];have h0:=key 0 (by omega)
 rw[zhR]at h0;simp only[List.length_map,Int.toNat_natCast];exact h0
theorem zmk(l:List Tree)(hl:l.length≤9223372036854775807)(hX:∀a∈l,zb9 [vT a,vT a] []=rB true):za6 [.one (.s (l.map eT)), .one (.s (l.map eT))] []=rB true:=by
 have key:∀k,k≤l.length→za6.L4 (l.map eT) (l.map eT) (k:Int)=some za6.x4:=by
  refine up l.length ?_ fun k hk ih=> ?_
  ·rw[za6.s4];simp
  ·rw[za6.s4]
   have h:=hX l[k] (List.getElem_mem hk);simp only[Int.toNat_natCast,zeT hk,zbC k (by omega),ih]
   simp[hk,h]
 have h0:za6.L4 (l.map eT) (l.map eT) 0=_:=key 0 (by omega)
 rw[za6.e,h0];simp[za6.a4x4]
theorem zbG(p:List Str):p.length≤wP p:=zcf _ p
theorem znY(t:Tree):wT t≤1048576→zck [vT t] []=rTree t:=by
 induction t using Tree.ind with
 |h a b c ns ks ih=>
  intro hw;rw[wT_eq]at hw;simp only at hw;have h1:=zbG ns;have h2:=zcf wT ks;rw[zck.e,zf2 ns (by omega),zmj ks (by omega) (fun t ht=>ih t ht (by have:=zc5 wT ks t ht;omega))]
  simp
end Go.PVx
namespace Go.PVx
open Go.PV Go.Proofs
abbrev dec(n:Nat):Str:=Lib.decDigits n
theorem zpB(n:Nat)(h:n≤1000000):(dec n).length≤7:=by
 unfold dec;rw[Lib.decDigits_length];by_cases h0:n=0
 ·subst h0;rw[Lib.nDigits_small (by omega)];omega
 ·have:∀(k m:Nat),m<10^(k+1)→Lib.nDigits m≤k+1:=by
   intro k
   induction k with
   |zero=>intro m hm;rw[Lib.nDigits_small (by simpa using hm)];omega
   |succ k ih=>
    intro m hm;by_cases h10:m<10
    ·rw[Lib.nDigits_small h10];omega
    ·rw[Lib.nDigits_big h10]
     have:=ih (m/10) (by rw[Nat.pow_succ]at hm;omega)
     omega
  exact this 6 n (by omega)
theorem zjc(d:Nat)(h:d<10):strOf [[D.v (Value.int IntKind.u8 (IntKind.u8.wrap (IntKind.i64.wrap (48+(d:Int)))))]]=mkS [UInt8.ofNat (48+d)]:=by
 rw[zc1 _ (by omega),IntKind.wrap_u8]
 have:(48+(d:Int))%256=((48+d:Nat):Int):=by omega
 rw[this];rfl
theorem zpC:∀(n:Nat),n≤1000000→zdW [vI n] []=rS (dec n):=by
 intro n
 induction n using Nat.strongRecOn with
 |_ n ih=>
  intro h;rw[zdW.e];have h1:decide ((n:Int)< -9223372036854775807)=false:=decide_eq_false (by omega)
  have h2:decide ((n:Int)<0)=false:=by simp
  rw[h1,h2];simp only[cond_false];unfold dec;rw[Lib.decDigits];by_cases h10:n<10
  ·have h3:decide ((n:Int)<10)=true:=by simp;omega
   rw[h3,dif_pos h10,cond_true,zjc n h10]
  ·have h3:decide ((n:Int)<10)=false:=by simp;omega
   have hq:(n:Int).tdiv 10=((n/10:Nat):Int):=by rw[Int.tdiv_eq_ediv_of_nonneg (by omega)];omega
   have hr:(n:Int).tmod 10=((n%10:Nat):Int):=by rw[Int.tmod_eq_emod_of_nonneg (by omega)];omega
   have hw:IntKind.i64.wrap ((n/10:Nat):Int)=((n/10:Nat):Int):=zc1 _ (by omega)
   have hi:=ih (n/10) (by omega) (by omega)
   have hl:=zpB (n/10) (by omega)
   unfold dec at hi hl;have e1:(Lib.decDigits (n/10)).length≤70368744177663:=by omega
   rw[h3,dif_neg h10,cond_false,hq,hw,hi,hr,zjc (n%10) (by omega)]
   simp[e1]
theorem zh3(n:Nat)(h:n≤1000000):strconv_Itoa [vI n] []=rS (dec n):=by
 rw[strconv_Itoa.ext];have h1:decide (-9223372036854775808≤(n:Int))=true:=decide_eq_true (by omega)
 have h2:decide ((n:Int)≤9223372036854775807)=true:=decide_eq_true (by omega)
 simp only[zhU,h1,h2,Bool.and_self,cond_true,Lib.itoa_nonneg];rfl
def pt(p:List Str):Str:=if p=[]then [47]else Lib.joinTail [47] p
theorem zeV(p:List Str):(Lib.joinTail [47] p).length=wP p:=by
 unfold wP
 induction p with
 |nil=>rfl
 |cons x p ih=>
  have:Lib.joinTail [47] (x::p)=[47]++x++Lib.joinTail [47] p:=by simp[Lib.joinTail]
  rw[this];simp only[List.length_append,List.length_cons,List.length_nil,ih,wL]
theorem zng(p:List Str):(pt p).length≤1+wP p:=by
 unfold pt;split
 ·simp
 ·rw[zeV];omega
theorem zh4:∀p:List Str,zfx (eSs p)=some (p.map mkS)
 | []=>rfl
 |x::p=>by
  have:=zh4 p;simp only[List.map_cons,zfx,this];rfl
theorem zh5(p:List Str)(hp:wP p≤1048576)(h0:p≠[]):strings_Join [vP p,vS [47]] []=rS (Lib.join p [47]):=by
 rw[strings_Join.ext];have hm:(p.map mkS).map (fun x=>x.data.toList)=p:=by simp[List.map_map,Function.comp_def]
 have hlen:(Lib.join p [47]).length≤wP p:=by
  cases p with
  |nil=>exact absurd rfl h0
  |cons x r=>
   have hj:=zeV r;rw[Lib.join_cons,List.length_append,hj];unfold wP;simp only[wL];omega
 have hpl:=zbG p;have e1:decide ((p.map mkS).length≤140737488355328)=true:=by simp;omega
 have e2:decide ((Lib.join p [47]).length≤140737488355328)=true:=by simp;omega
 have hx:joinD (p.map mkS) (mkS [47])=mkS (Lib.join p [47]):=by
  unfold joinD;rw[hm];rfl
 show zgA [.one (.s (eSs p)), .one (.v (.string (mkS [47])))] []=_;simp only[zgA,zh4,e1,hm];have hs:(mkS [47]).data.toList=[47]:=rfl;rw[hs,e2];simp only[Bool.and_self,cond_true,hx]
theorem zlh(p:List Str)(hp:wP p≤1048576):zcv [vP p] []=rS (pt p):=by
 rw[zcv.e];cases p with
 |nil=>rfl
 |cons x r=>
  have h1:=zh5 (x::r) hp (by simp)
  have h2:(Lib.join (x::r) [47]).length≤1048576:=by
   have hj:=zeV r;unfold wP at hp hj;rw[Lib.join_cons,List.length_append,hj];simp only[wL]at hp;omega
  have e1:decide (1+(Lib.join (x::r) [47]).length≤70368744177664)=true:=by simp;omega
  have h3:((((eSs (x::r)).length:Nat):Int)==0)=false:=by simp;omega
  have h4:(ByteArray.mk #[47])=mkS [47]:=rfl;rw[h3,cond_false,h4,h1]
  have h5:pt (x::r)=47::Lib.join (x::r) [47]:=by
   unfold pt;rw[if_neg (by simp),Lib.join_cons]
   simp[Lib.joinTail]
  rw[h5];simp[e1]
end Go.PVx
namespace Go.PVx
open Go.PV Go.Proofs
def line(a:NodeOf):Str:=dec a.id.toNat++[32]++pt a.path++[10]
def head5(n:Nodes):Str:=[110,101,120,116,32]++dec n.next.toNat++[10]
def zpD(n:Nodes):Str:=bif okB n then head5 n++(n.list.map line).flatten else []
end Go.PVx
namespace Go.PVx
open Go.PV Go.Proofs
def hexD:Str:=[48,49,50,51,52,53,54,55,56,57,97,98,99,100,101,102]
theorem zpE:(ByteArray.mk #[48,49,50,51,52,53,54,55,56,57,97,98,99,100,101,102])=mkS hexD:=rfl
def dig(n:Nat):UInt8:=hexD.getD n 0
def hexB(b:UInt8):Str:=[dig (b.toNat/16),dig (b.toNat%16)]
def hexS(s:Str):Str:=(s.map hexB).flatten
def dataT(s:Str):Str:=if s=[]then [45]else hexS s
theorem zsj:∀i:Fin 16,(hexD.take (i.val+1)).drop i.val=[dig i.val]:=by decide
theorem zrv{i:Nat}(h:i<16):(hexD.take (i+1)).drop i=[dig i]:=zsj ⟨i,h⟩
theorem zg7:∀s:Str,(hexS s).length=2*s.length
 | []=>rfl
 |b::s=>by
  have:hexS (b::s)=hexB b++hexS s:=by simp[hexS]
  rw[this,List.length_append,zg7 s];simp only[hexB,List.length_cons,List.length_nil];omega
theorem zli(s:Str)(k:Nat)(h:k<s.length):hexS (s.take (k+1))=hexS (s.take k)++hexB s[k]:=by
 unfold hexS;rw[zk4 s k h];simp only[List.map_append,List.flatten_append,List.map_cons,List.map_nil,List.flatten_cons,List.flatten_nil,List.append_nil]
theorem nib(b:UInt8):(IntKind.u8.wrap ((b.toNat:Int).tdiv 16))=((b.toNat/16:Nat):Int)∧IntKind.u8.wrap (((b.toNat/16:Nat):Int)+1)=((b.toNat/16+1:Nat):Int)∧
 (b.toNat:Int).tmod 16=((b.toNat%16:Nat):Int)∧IntKind.u8.wrap (((b.toNat%16:Nat):Int)+1)=((b.toNat%16+1:Nat):Int)∧b.toNat/16<16∧b.toNat%16<16:=by
 have hb:b.toNat<256:=b.toNat_lt;refine ⟨?_, ?_, ?_, ?_,by omega,by omega⟩
 ·rw[IntKind.wrap_u8,Int.tdiv_eq_ediv_of_nonneg (by omega)];omega
 ·rw[IntKind.wrap_u8];omega
 ·rw[Int.tmod_eq_emod_of_nonneg (by omega)];omega
 ·rw[IntKind.wrap_u8];omega
theorem zpF(s:Str)(hs:s.length≤1048576):zbM [vS s] []=rS (dataT s):=by
 have key:∀k,k≤s.length→zbM.L3 (mkS s) (mkS (hexS (s.take k))) (k:Int)=some (zbM.x3 (mkS (hexS s))):=by
  refine up s.length ?_ fun k hk ih=> ?_
  ·rw[zbM.s3];simp
  ·obtain ⟨n1,n2,n3,n4,n5,n6⟩:=nib s[k]
   have hl:=zg7 (s.take k);rw[List.length_take]at hl;rw[zli s k hk]at ih;have e0:decide ((k:Int)<(s.length:Int))=true:=by simp;omega
   have e1:decide ((0:Int)≤(k:Int))=true:=by simp
   have e2:decide (((s[k].toNat/16:Nat):Int)≤((s[k].toNat/16+1:Nat):Int))=true:=decide_eq_true (by omega)
   have e3:decide (((s[k].toNat/16+1:Nat):Int)≤((hexD.length:Nat):Int))=true:=decide_eq_true (by show _≤((16:Nat):Int);omega)
   have e4:decide (((s[k].toNat%16:Nat):Int)≤((s[k].toNat%16+1:Nat):Int))=true:=decide_eq_true (by omega)
   have e5:decide (((s[k].toNat%16+1:Nat):Int)≤((hexD.length:Nat):Int))=true:=decide_eq_true (by show _≤((16:Nat):Int);omega)
   have e6:decide ((hexS (s.take k)).length+1≤70368744177664)=true:=decide_eq_true (by omega)
   have e7:decide ((hexS (s.take k)).length+1+1≤70368744177664)=true:=decide_eq_true (by omega)
   have hx:hexS (s.take k)++[dig (s[k].toNat/16)]++[dig (s[k].toNat%16)]=hexS (s.take k)++hexB s[k]:=by simp[hexB]
   rw[zbM.s3];simp only[Int.toNat_natCast,zeO s k hk,zpE,zeC,n1,n2,n3,n4,zhQ,zrv n5,zrv n6,zi3,List.length_append,List.length_cons,List.length_nil,Nat.zero_add,zbC k (by omega),e0,e1,e2,e3,e4,e5,e6,e7,hx,ih]
   rfl
 have h0:zbM.L3 (mkS s) (mkS (hexS (s.take 0))) 0=_:=key 0 (by omega)
 have h1:(ByteArray.mk #[])=mkS (hexS (s.take 0)):=rfl;rw[zbM.e,h1,h0,Option.bind_some,zbM.a3x3,zgx];unfold dataT;cases s with
 |nil=>rfl
 |cons b s=>
  have:hexS (b::s)=dig (b.toNat/16)::dig (b.toNat%16)::hexS s:=by simp[hexS,hexB]
  rw[this];rfl
def zdg(b:UInt8):List D:=[.v (.int .u8 (b.toNat:Int))]
theorem zml(l:Str):strOf (l.map zdg)=mkS l:=by
 have key:∀(l:Str) (acc:Str),((l.map zdg).map fun r=>(r.getD 0 .h).int).foldl (fun r n=>r.push (UInt8.ofNat n.toNat)) (mkS acc)=mkS (acc++l):=by
  intro l
  induction l with
  |nil=>intro acc;simp
  |cons b l ih=>
   intro acc
   have hp:(mkS acc).push b=mkS (acc++[b]):=by
    show ByteArray.mk (acc.toArray.push b)=ByteArray.mk (acc++[b]).toArray;rw[List.push_toArray]
   have hb:UInt8.ofNat (b.toNat:Int).toNat=b:=by simp
   simp only[List.map_cons,List.foldl_cons,zdg,List.getD_cons_zero,int_v];rw[hb,hp];have:=ih (acc++[b]);simp only[zdg,List.append_assoc,List.cons_append,List.nil_append]at this;exact this
 exact key l []
theorem zlj(l:Str):zhe (l.map zdg)=true:=by
 simp[zhe,zdg]
theorem zjY(l:Str):zak 1 (l.map zdg)=true:=rowsLen_map zdg 1 (fun _=>rfl) l
theorem zpG(s:Str)(hs:s.length≤1048576):zbN [vS s] []=rS (hexS s):=by
 have key:∀k,k≤s.length→zbN.L3 (mkS s) (k:Int) ((hexS (s.take k)).map zdg)=some (zbN.x3 ((hexS s).map zdg)):=by
  refine up s.length ?_ fun k hk ih=> ?_
  ·rw[zbN.s3];simp
  ·obtain ⟨n1,n2,n3,n4,n5,n6⟩:=nib s[k]
   have hl:=zg7 (s.take k);rw[List.length_take]at hl;rw[zli s k hk]at ih;have e0:decide ((k:Int)<(s.length:Int))=true:=by simp;omega
   have e1:decide ((0:Int)≤(k:Int))=true:=by simp
   have e2:decide (((s[k].toNat/16:Nat):Int)<((hexD.length:Nat):Int))=true:=decide_eq_true (by show _<((16:Nat):Int);omega)
   have e3:decide (((s[k].toNat%16:Nat):Int)<((hexD.length:Nat):Int))=true:=decide_eq_true (by show _<((16:Nat):Int);omega)
   have e6:decide ((((hexS (s.take k)).map zdg).length+2)*2≤70368744177664)=true:=decide_eq_true (by rw[List.length_map];omega)
   have hx:(hexS (s.take k)).map zdg++[[D.v (Value.int IntKind.u8 ((dig (s[k].toNat/16)).toNat:Int))],[D.v (Value.int IntKind.u8 ((dig (s[k].toNat%16)).toNat:Int))]]=(hexS (s.take k)++hexB s[k]).map zdg:=by
    simp[hexB,zdg]
   have d1:zbw (mkS hexD) (s[k].toNat/16)=((dig (s[k].toNat/16)).toNat:Int):=zgy _ _;have d2:zbw (mkS hexD) (s[k].toNat%16)=((dig (s[k].toNat%16)).toNat:Int):=zgy _ _;rw[zbN.s3];simp only[Int.toNat_natCast,zeO s k hk,zpE,zeC,n1,n3,zbC k (by omega),e0,e1,e2,e3,e6,zjY,d1,d2,hx,ih]
   rfl
 have h0:zbN.L3 (mkS s) 0 []=_:=key 0 (by omega)
 rw[zbN.e,h0,Option.bind_some,zbN.a3x3,zlj,zml];rfl
theorem zlk(s:Str)(hs:s.length≤1048576):zcG [vS s] []=rS (dataT s):=by
 rw[zcG.e,zpG s hs,zgx];unfold dataT;cases s with
 |nil=>rfl
 |cons b s=>simp
end Go.PVx
namespace Go.PVx
open Go.PV Go.Proofs
end Go.PVx
namespace Go.PVx
open Go.PV Go.Proofs
abbrev Top:Int:=1000000000000
theorem zpH(n:Int):(strOf [[D.v (Value.int IntKind.u8 n)]]).size=1:=rfl
theorem zaJ.l4:∀(n:Nat) (k:Int) (b:ByteArray),0≤k→k≤1000000000000→k<10^n→b.size+n≤40→∃b':ByteArray,zaJ.L4 k b=some (zaJ.x4 b')∧b'.size≤40
 |0,k,b,h0,ht,h1,h3=>by
  have:k=0:=by simp at h1;omega
  subst this;refine ⟨b, ?_,by omega⟩
  rw[zaJ.s4];simp
 |n+1,k,b,h0,ht,h1,h3=>by
  rw[zaJ.s4];by_cases hk:k>0
  ·have hd:k.tdiv 10=k/10:=Int.tdiv_eq_ediv_of_nonneg h0
   have hp:(10:Int)^(n+1)=10^n*10:=Int.pow_succ _ _;have hq:k/10<10^n:=by omega
   have hw:IntKind.i64.wrap (k/10)=k/10:=zc1 _ (by omega)
   have hsz:(strOf [[D.v (Value.int IntKind.u8 (IntKind.u8.wrap (IntKind.i64.wrap (48+k.tmod 10))))]]++b).size=1+b.size:=by
    rw[ByteArray.size_append,zpH]
   obtain ⟨b',h4,h5⟩:=zaJ.l4 n (k/10) (strOf [[D.v (Value.int IntKind.u8 (IntKind.u8.wrap (IntKind.i64.wrap (48+k.tmod 10))))]]++b) (by omega) (by omega) hq (by rw[hsz];omega)
   refine ⟨b', ?_,h5⟩;rw[hd,hw,h4];have h6:decide (1+b.size≤70368744177664)=true:=by simp;omega
   rw[h6];simp[hk]
  ·have:k=0:=by omega
   subst this;exact ⟨b,by simp,by omega⟩
theorem zll(k:Int)(h0:0≤k)(h1:k≤Top):∃s:Str,zaJ [vI k] []=rS s:=by
 rw[zaJ.e];by_cases hk:k≤0
 ·exact ⟨[109,48],by simp only[hk,decide_true,cond_true];rfl⟩
 ·have hT:Top=1000000000000:=rfl
  obtain ⟨b',h4,h5⟩:=zaJ.l4 20 k {data:= #[]} (by omega) (by omega) (by omega) (by decide)
  refine ⟨(ByteArray.mk #[109]++b').data.toList, ?_⟩;rw[h4];have h6:decide (1+b'.size≤70368744177664)=true:=by simp;omega
  simp only[hk,decide_false,cond_false,Option.bind_some,zaJ.a4x4,h6,cond_true];rfl
noncomputable def mt(k:Int):Str:=by
 classical
 exact if h:∃s:Str,zaJ [vI k] []=rS s then h.choose else []
theorem zc8(k:Int)(h0:0≤k)(h1:k≤Top):zaJ [vI k] []=rS (mt k):=by
 have h:=zll k h0 h1;unfold mt;rw[dif_pos h];exact h.choose_spec
noncomputable def mP(k:Int):List Str→List Str
 | []=> []
 |_::l=>mt k::mP (k+1) l
@[simp] theorem zrw:∀(l:List Str) (k:Int),(mP k l).length=l.length
 | [],_=>rfl
 |_::l,k=>by simp[mP,zrw l]
theorem mP_at:∀(l:List Str) (k:Int) (i:Nat) (h:i<(mP k l).length),(mP k l)[i]=mt (k+i)
 | [],_,i,h=>by simp[mP]at h
 |x::l,k,0,h=>by simp[mP]
 |x::l,k,i+1,h=>by
  simp only[mP,List.getElem_cons_succ];rw[mP_at l (k+1) i (by simpa[mP]using h)]
  congr 1;push_cast;omega
abbrev gV(es:List (List D)):PV.Obj:={kind:=Kind.virt,row:=[D.s es],fl:=[Own.deep]}
abbrev rM(k:Int)(es:List (List D)):Option Res:=some ⟨[.v (.int .i64 k)],[gV es]⟩
theorem zcH(l:List Str)(k:Int)(h0:0≤k)(h1:k+l.length≤Top):
 zas [.one (.r 0 [] 0),vI k] [gV (eSs l)]=rM (k+l.length) (eSs (mP k l)):=by
 have hT:Top=1000000000000:=rfl
 have key:∀j,j≤l.length→∀m:List Str,m.length=j→(zas.L2 (k+j) (j:Int) (m.map eS++(l.drop j).map eS)).bind zas.A2=rM (k+l.length) (eSs (m++mP (k+j) (l.drop j))):=by
  refine up l.length ?_ fun j hj ih m hm=> ?_
  ·intro m hm
   rw[zas.s2];simp[hm,zas.a2x2,mP]
  ·have hg:=zjN eS eS l m j hj hm
   have hl:=zjO eS eS l m j (by omega) hm
   have hs:=zjP eS eS l m j hj hm (mt (k+j));have ht:=zc8 (k+j) (by omega) (by omega)
   have hw:IntKind.i64.wrap (k+j+1)=k+j+1:=zc1 _ (by omega)
   have:=ih (m++[mt (k+j)]) (by simp[hm])
   rw[zas.s2];simp only[Int.toNat_natCast,hg,hl,hw,zbC j (by omega)]
   have hs':List.set (m.map eS++(l.drop j).map eS) j (D.v (Value.string (mkS (mt (k+j))))::List.drop 1 (eS l[j]))=_:=hs;push_cast at this;rw[show k+((j:Int)+1)=k+j+1 from by omega]at this
   have hd:mP (k+j) (l.drop j)=mt (k+j)::mP (k+j+1) (l.drop (j+1)):=by rw[zaF l j hj,mP]
   rw[hd];rw[show m++mt (k+j)::mP (k+j+1) (l.drop (j+1))=m++[mt (k+j)]++mP (k+j+1) (l.drop (j+1)) from by simp,←this]
   have h2:decide ((j:Int)<(l.length:Int))=true:=by simp;omega
   have h3:decide ((0:Int)≤(j:Int))=true:=by simp
   have h4:(eS l[j]).length=1:=rfl;simp only[h2,h3,h4,ht,Option.bind_some];have h5:(zac [R1.str] [TC.v (Value.string (mkS (mt (k+j))))])=true:=rfl;simp only[h5,Bool.and_true,decide_true,Bool.and_self,cond_true,Nat.le_refl,List.getD_cons_zero,znc,hs'];push_cast;rfl
 rw[zas.e];have:=key 0 (by omega) [] rfl
 simpa using this
theorem zeW(l:List Str)(k:Int)(h0:0≤k)(h1:k+l.length≤Top):zav [vP (mP k l),vI k] []=rI (k+l.length):=by
 have hT:Top=1000000000000:=rfl;have hlen:=zrw l k
 have key:∀j,j≤l.length→(zav.L2 (eSs (mP k l)) (k+j) (j:Int)).bind zav.A2=rI (k+l.length):=by
  refine up l.length ?_ fun j hj ih=> ?_
  ·rw[zav.s2]
   simp[zav.a2x2]
  ·have hj':j<(mP k l).length:=by omega
   have ht:=zc8 (k+j) (by omega) (by omega)
   have hw:IntKind.i64.wrap (k+j+1)=k+j+1:=zc1 _ (by omega)
   push_cast at ih;rw[show k+((j:Int)+1)=k+j+1 from by omega]at ih
   rw[zav.s2];simp only[Int.toNat_natCast,znf hj',mP_at l k j hj',zbC j (by omega),hw,ht,Option.bind_some]
   rw[←ih];simp[hj]
 rw[zav.e];have:=key 0 (by omega)
 simpa using this
end Go.PVx
namespace Go.PVx
open Go.PV Go.Proofs
def cN(a:NodeOf):Nat:=1+a.path.length
noncomputable def mN(k:Int)(a:NodeOf):NodeOf:=⟨k,mP (k+1) a.path⟩
noncomputable def mNs(k:Int):List NodeOf→List NodeOf
 | []=> []
 |a::l=>mN k a::mNs (k+cN a) l
@[simp] theorem zsk:∀(l:List NodeOf) (k:Int),(mNs k l).length=l.length
 | [],_=>rfl
 |_::l,k=>by simp[mNs,zsk l]
theorem eN_len(a:NodeOf):(eN a).length=2:=rfl
end Go.PVx
