/- A part of the proof: PvT3, PvTC, PvTD, PvTE, PvTF, PvTG, PvX8, PvX9, PvQ1, PvQ2, PvQ3, PvQ4, PvQ5, PvQ6, PvQ7, PvQ8, PvQ9, PvQA, PvInZ. -/
import Derived.Test.YtkaclcgkndbppaaGreatDoorTre
import Derived.Test.YtkaclcgkndbppaaGreatDoorDat
import Derived.Test.YtkaclcgkndbppaaGreatDoorDau
import Derived.Test.YtkaclcgkndbppaaGreatDoorSrt
import Derived.Test.YtkaclcgkndbppaaGreatDoorProg
import Derived.Test.YtkaclcgkndbppaaGreatDoorIns
import Derived.KernelRfl
set_option linter.unusedSimpArgs false
set_option linter.unusedVariables false
namespace Go.PVx
open Go.PV Go.Proofs
theorem zpV(h:Int)(b:UInt8)(h0:0≤h)(h1:h<1000000007):(131*h+(b.toNat:Int)).tmod 1000000007=(131*h+(b.toNat:Int))%1000000007:=by
 have hb:=b.toNat_lt;rw[Int.tmod_eq_emod_of_nonneg (by omega)]
theorem zpW(s:Str)(hs:s.length≤1000000000000000):zbO [vS s] []=rI (idS 7 s):=by
 have hl:∀k,k≤s.length→∀h:Int,0≤h→h<1000000007→(zbO.L3 (mkS s) h (k:Int)).bind zbO.A3=rI (idS h (s.drop k)):=by
  refine up s.length ?_ fun k hk ih=> ?_
  ·intro h _ _
   rw[zbO.s3,List.drop_length];simp (disch:=omega) only[pvS,pvT,pvC,pvL,pvR,pvN,zbO.a3x3,idS]
  ·intro h h0 h1
   have hb:=(s[k]).toNat_lt;have hst:=zpV h s[k] h0 h1;rw[zaF s k hk];unfold idS;rw[zbO.s3];simp (disch:=omega) only[pvS,pvT,pvC,pvL,pvR,pvN];rw[Int.mul_comm h 131,hst];exact ih _ (by omega) (by omega)
 have h0:=hl 0 (by omega) 7 (by omega) (by omega)
 rw[List.drop_zero]at h0;rw[zbO.e];exact h0
theorem zmt(t:Tree)(d:Int)(hp:za1 d t=true)(hw:wT t≤1048576):zbg [vT t] []=rI (idT t):=by
 have h1:=zj6 t d hp (oT_of t hw) hw;have hlen:=zf6 t [] d hp (by have:wP []=0:=rfl;omega)
 have hc:=zdl t;rw[←zmp]at hlen;have hs:(showT t).length≤1000000000000000:=by omega
 have hl:∀k,k≤(showT t).length→∀h:Int,0≤h→h<1000000007→(zbg.L4 h (mkS (showT t)) (showT t).length (k:Int)).bind zbg.A4=rI (idS h ((showT t).drop k)):=by
  refine up (showT t).length ?_ fun k hk ih=> ?_
  ·intro h _ _
   rw[zbg.s4,List.drop_length];simp (disch:=omega) only[pvS,pvT,pvC,pvL,pvR,pvN,zbg.a4x4,idS]
  ·intro h h0 h1
   have hb:=((showT t)[k]).toNat_lt;have hst:=zpV h (showT t)[k] h0 h1;rw[zaF (showT t) k hk];unfold idS;rw[zbg.s4];simp (disch:=omega) only[pvS,pvT,pvC,pvL,pvR,pvN];rw[hst];exact ih _ (by omega) (by omega)
 have h0:=hl 0 (by omega) 7 (by omega) (by omega)
 rw[List.drop_zero]at h0;rw[zbg.e];simp (disch:=omega) only[pvS,pvT,pvC,pvL,pvR,pvN,h1];exact h0
theorem zpX(t:Tree)(d:Int)(hp:za1 d t=true)(hw:wT t≤1048576):zeR [vT t] []=rI (idT t):=by
 have ho:=oT_of t hw;have hm:=(zdG hp).1;have hwt:=wT_eq t;have hw0:wP []=0:=rfl;have h2:=zjh t.dir t.mode t.data [] (eSs t.names) (t.kids.map eT) hm.m0 (by have:=hm.m7;omega) (by omega) (by omega)
 have h3:=zn2 t [] d hp ho (by omega)
 have hl:=zf6 t [] d hp (by omega)
 have hc:=zdl t;rw[zfe]at hl;simp only[List.length_append]at hl;have e1:pt []=[47]:=rfl;have e2:ptS []=[]:=rfl;rw[e1]at h2;rw[e2]at h3;have h4:=zpW (lineT t.dir t.mode t.data []++showZ [] t.names t.kids) (by rw[List.length_append];omega)
 unfold idT;rw[zmp,zfe,zeR.e];simp (disch:=omega) only[pvS,pvT,pvC,pvL,pvR,pvN,pvO,h2,h3,h4]
def eRX(x:List Str×Tree):List D:=eR (rowX x)
theorem zpY(x:List Str×Tree):(eRX x).length=5:=rfl
theorem zrc(x:List Str×Tree):(eRX x).all (cellD true)=true:=rfl
theorem zrA(p:List Str)(t:Tree):eRX (p,t)=[.s (eSs p), .v (.bool t.dir), .v (.int .i64 t.mode), .v (.string (mkS t.data)), .v (.int .i64 (idT t))]:=rfl
theorem subZ_drop(p:List Str){ns:List Str}{ks:List Tree}{k:Nat}(h1:k<ns.length)(h2:k<ks.length):
 subZ p (ns.drop k) (ks.drop k)=sub (p++[ns[k]]) ks[k]++subZ p (ns.drop (k+1)) (ks.drop (k+1)):=by
 rw[zaF ns k h1,zaF ks k h2,subZ]
theorem subZ_nil(p:List Str)(ks:List Tree):subZ p [] ks=[]:=by cases ks<;>rfl
theorem zmu(t:Tree):∀(p:List Str) (d:Int),za1 d t=true→wP p+wT t≤1048576→za9 [vP p,vT t] []=rO ((sub p t).map eRX):=by
 induction t using Tree.ind with
 |h a b c ns ks ih=>
  intro p d hp hw;have hn:=zbm hp;have hk:=fun k (h:k∈ks)=>zaZ hp (k:=k) h
  have hlen:=zfA _ d p hp;have hcc:=zdl ⟨a,b,c,ns,ks⟩;have hid:=zpX ⟨a,b,c,ns,ks⟩ d hp (by omega)
  rw[zcz]at hlen⊢;have hw':=hw;rw[wT_eq]at hw';simp only[List.length_cons]at hn hw' hlen⊢;have hpl:=zbG p;have hnl:=zbG ns;have r1:zak 1 (eSs p)=true:=Sx.rowsLen_map 1 eS (fun _=>rfl) _
  have r2:zap false (eSs p)=true:=Sx.rowsCell_map false eS (fun _=>rfl) _
  have r3:∀l:List (List Str×Tree),zak 5 (l.map eRX)=true:=Sx.rowsLen_map 5 eRX zpY;have r4:∀l:List (List Str×Tree),zap true (l.map eRX)=true:=Sx.rowsCell_map true eRX zrc
  have hl:∀k,k≤ns.length→∀acc:List (List Str×Tree),acc.length+(subZ p (ns.drop k) (ks.drop k)).length≤1048577→
   (za9.L3 (eSs p) (k:Int) a b (mkS c) (eSs ns) (ks.map eT) (acc.map eRX)).bind za9.A3=rO ((acc++subZ p (ns.drop k) (ks.drop k)).map eRX):=by
   refine up ns.length ?_ fun k hk1 ihk acc hacc=> ?_
   ·intro acc _
    rw[za9.s3,List.drop_length,subZ_nil,List.append_nil];simp (disch:=omega) only[pvS,pvT,pvC,pvL,pvR,pvN,za9.a3x3]
   ·have hk2:k<ks.length:=by omega
    rw[subZ_drop p hk1 hk2]at hacc⊢;simp only[List.length_append]at hacc;have hwk:=wL_at wT hk2;have hwn:=wP_at hk1;have hwp:=zdh p ns[k];have h2:=zet p ns[k] (by omega)
    have h3:=ih ks[k] (List.getElem_mem hk2) (p++[ns[k]]) (d+1) (hk _ (List.getElem_mem hk2)) (by omega)
    have h4:=ihk (acc++sub (p++[ns[k]]) ks[k]) (by simp only[List.length_append];omega)
    rw[List.append_assoc,List.map_append]at h4;have r3':=r3 acc;have r4':=r4 acc;have r5:=r3 (sub (p++[ns[k]]) ks[k]);have r6:=r4 (sub (p++[ns[k]]) ks[k]);rw[za9.s3,←h4];generalize sub (p++[ns[k]]) ks[k]=Z at*;simp (disch:=omega) only[pvS,pvT,pvC,pvL,pvR,pvN,h2,h3,r3',r4',r5,r6,List.length_map]
  have h0:=hl 0 (by omega) [(p,⟨a,b,c,ns,ks⟩)] (by simp only[List.drop_zero,List.length_cons,List.length_nil];omega)
  simp only[List.drop_zero,List.map_cons,List.map_nil,zrA]at h0;rw[za9.e];simp (disch:=omega) only[pvS,pvC,pvL,pvR,pvN,pvO,hid,r1,r2];exact h0
abbrev oBx(es:List (List D)):PV.Obj:=⟨.box,[.s es],[.deep]⟩
theorem zgX(p:List Str)(t:Tree)(d:Int)(acc:List (List Str×Tree))(hp:za1 d t=true)(hw:wP p+wT t≤1048576)(ha:acc.length≤1048577):
 za4 [vP p,vT t, .one (.p true 0 [] 0)] [oBx (acc.map eRX)]=some ⟨[],[oBx ((acc++[(p,t)]).map eRX)]⟩:=by
 have h1:=zmt t d hp (by omega)
 have hpl:=zbG p;have r1:zak 1 (eSs p)=true:=Sx.rowsLen_map 1 eS (fun _=>rfl) _
 have r2:zap false (eSs p)=true:=Sx.rowsCell_map false eS (fun _=>rfl) _
 have r3:zak 5 (acc.map eRX)=true:=Sx.rowsLen_map 5 eRX zpY _;rw[za4.e,List.map_append,List.map_cons,List.map_nil,zrA];simp (disch:=omega) only[pvS,pvC,pvL,pvR,pvN,pvO,h1,r1,r2,r3,List.length_map]
theorem zfC(t:Tree):∀(p:List Str) (d:Int) (acc:List (List Str×Tree)),za1 d t=true→wP p+wT t≤1048576→acc.length+(sub p t).length≤1048577→
 zaU [vT t,vP p, .f za4.id [.p true 0 [] 0]] [oBx (acc.map eRX)]=some ⟨[],[oBx ((acc++sub p t).map eRX)]⟩:=by
 induction t using Tree.ind with
 |h a b c ns ks ih=>
  intro p d acc hp hw hacc;have hn:=zbm hp;have hk:=fun k (h:k∈ks)=>zaZ hp (k:=k) h
  have h1:=zgX p ⟨a,b,c,ns,ks⟩ d acc hp hw (by omega)
  rw[zcz]at hacc⊢;rw[wT_eq]at hw;simp only[List.length_cons]at hn hw hacc⊢;have hpl:=zbG p;have hnl:=zbG ns
  have hl:∀k,k≤ns.length→∀acc:List (List Str×Tree),acc.length+(subZ p (ns.drop k) (ks.drop k)).length≤1048577→
   (iTree_each_table.L3 (eSs p) (eSs ns) ns.length (k:Int) (acc.map eRX) a b (mkS c) (eSs ns) (ks.map eT)).bind iTree_each_table.A3=some ⟨[],[oBx ((acc++subZ p (ns.drop k) (ks.drop k)).map eRX)]⟩:=by
   refine up ns.length ?_ fun k hk1 ihk acc hacc=> ?_
   ·intro acc _
    rw[iTree_each_table.s3,List.drop_length,subZ_nil,List.append_nil];simp (disch:=omega) only[pvS,pvT,pvC,pvL,pvR,pvN,iTree_each_table.a3x3]
   ·have hk2:k<ks.length:=by omega
    rw[subZ_drop p hk1 hk2]at hacc⊢;simp only[List.length_append]at hacc;have hwk:=wL_at wT hk2;have hwn:=wP_at hk1;have hwp:=zdh p ns[k];have h2:=zf0 p ns[k] (by omega)
    have h3:=ih ks[k] (List.getElem_mem hk2) (p++[ns[k]]) (d+1) acc (hk _ (List.getElem_mem hk2)) (by omega) (by omega)
    have h4:=ihk (acc++sub (p++[ns[k]]) ks[k]) (by simp only[List.length_append];omega)
    rw[List.append_assoc]at h4;rw[iTree_each_table.s3,←h4];generalize acc++sub (p++[ns[k]]) ks[k]=Z at*;generalize acc.map eRX=Y at*;generalize Z.map eRX=Z' at*;simp (disch:=omega) only[pvS,pvT,pvC,pvL,pvR,pvN,pvO,h2,h3]
  have h0:=hl 0 (by omega) (acc++[(p,⟨a,b,c,ns,ks⟩)]) (by simp only[List.drop_zero,List.length_append,List.length_cons,List.length_nil];omega)
  simp only[List.drop_zero]at h0;rw[List.append_assoc,List.singleton_append]at h0;rw[iTree_each_table.e,←h0];generalize (acc++[(p,(⟨a,b,c,ns,ks⟩:Tree))]).map eRX=Z' at*;generalize acc.map eRX=Y at*;simp (disch:=omega) only[pvS,pvC,pvL,pvR,pvN,pvO,h1]
theorem ziD(t:Tree)(hp:za1 0 t=true)(hw:wT t≤1048576):zb4 [vT t] []=rO ((sub [] t).map eRX):=by
 have hlen:=zfA t 0 [] hp;have hc:=zdl t;have h1:=zfC t [] 0 [] hp (by have:wP []=0:=rfl;omega) (by simp only[List.length_nil];omega)
 rw[List.nil_append]at h1;have h1':zaU [vT t,AV.one (A1.s []), .f za4.id [.p true 0 [] 0]] [oBx []]=_:=h1;rw[zb4.e];generalize (sub [] t).map eRX=Z at*;simp (disch:=omega) only[pvS,pvC,pvL,pvR,pvN,pvO,h1']
theorem zpZ(t:Tree):(sub [] t).map eRX=(tabT t).map eR:=by
 unfold tabT eRX;rw[List.map_map];rfl
end Go.PVx
namespace Go.PVx
open Go.PV Go.Proofs
abbrev vR(r:Row):AV:= .g [.s (eSs r.path), .v (.bool r.dir), .v (.int .i64 r.mode), .v (.string (mkS r.data)), .v (.int .i64 r.id)]
abbrev vRs(l:List Row):AV:= .one (.s (l.map eR))
def wR(r:Row):Nat:=wP r.path+r.data.length
def sameR(a b:Row):Bool:=decide (a.path=b.path)&&((a.dir==b.dir)&&((a.mode==b.mode)&&((a.data==b.data)&&(a.id==b.id))))
theorem zp0(a b:Row):sameR a b=true↔a=b:=by
 obtain ⟨a1,a2,a3,a4,a5⟩:=a;obtain ⟨b1,b2,b3,b4,b5⟩:=b;simp[sameR]
def eqRs:List Row→List Row→Bool
 | [],[]=>true
 |a::x,b::y=>sameR a b&&eqRs x y
 |_,_=>false
theorem zff:∀x y:List Row,eqRs x y=true↔x=y
 | [],[]=>by simp[eqRs]
 | [],_::_=>by simp[eqRs]
 |_::_,[]=>by simp[eqRs]
 |a::x,b::y=>by simp[eqRs,zp0,zff x y]
theorem zmv(a b:Row)(ha:a.path.length≤1048576):zb7 [vR a,vR b] []=rB (sameR a b):=by
 have h1:=zeS a.path b.path (by omega)
 rw[zb7.e];unfold sameR;generalize decide (a.path=b.path)=p at*;simp (disch:=omega) only[pvS,pvC,pvL,pvR,pvN,h1];generalize (a.dir==b.dir)=q;generalize (a.mode==b.mode)=q1;generalize (a.data==b.data)=q2;generalize (a.id==b.id)=q3;cases p<;>cases q<;>cases q1<;>cases q2<;>rfl
theorem zij(a b:Row)(ha:a.path.length≤1048576):zcM [vR a,vR b] []=rB (sameR a b):=by
 have h1:=zhZ a.path b.path (by omega)
 rw[zcM.e];unfold sameR;generalize decide (a.path=b.path)=p at*;simp (disch:=omega) only[pvS,pvC,pvL,pvR,pvN,h1];generalize (a.dir==b.dir)=q;generalize (a.mode==b.mode)=q1;generalize (a.data==b.data)=q2;generalize (a.id==b.id)=q3;cases p<;>cases q<;>cases q1<;>cases q2<;>rfl
theorem zp1{l:List Row}{k:Nat}(h:k<l.length):l[k].path.length+1≤wL wR l:=by
 have h1:=wL_at wR h;have h2:=zbG l[k].path;have e:wR l[k]=wP l[k].path+l[k].data.length:=rfl;omega
theorem zp2(x y:List Row)(hw:wL wR x≤1048576)(hy:y.length≤1048576):zaa [vRs x,vRs y, .f zb7.id []] []=rB (eqRs x y):=by
 have hl:=zcf wR x;rw[zaa.e];by_cases hlen:x.length=y.length
 ·have key:∀k,k≤x.length→(zaa.L4 (y.map eR) (x.map eR) x.length (k:Int)).bind zaa.A4=rB (eqRs (x.drop k) (y.drop k)):=by
   refine up x.length ?_ fun k hk ih=> ?_
   ·rw[zaa.s4,List.drop_length,hlen,List.drop_length]
    simp (disch:=omega) only[pvS,pvL,pvN,zaa.a4x4,eqRs]
   ·have hk2:k<y.length:=by omega
    have h1:=zmv x[k] y[k] (by have:=zp1 hk;omega)
    rw[zaF x k hk,zaF y k hk2];unfold eqRs;rw[zaa.s4];cases hb:sameR x[k] y[k]with
    |true=>
     rw[hb]at h1;simp (disch:=omega) only[pvS,pvT,pvC,pvL,pvR,pvN,h1];exact ih
    |false=>
     rw[hb]at h1;simp (disch:=omega) only[pvS,pvT,pvC,pvL,pvR,pvN,h1,zaa.a4q4]
  have h0:=key 0 (by omega)
  simp only[List.drop_zero]at h0;simp (disch:=omega) only[pvS,pvT,pvC,pvL,pvR,pvN,List.length_map,hlen]at h0⊢;exact h0
 ·have:eqRs x y=false:=by
   cases h:eqRs x y with
   |false=>rfl
   |true=>exact absurd (congrArg List.length ((zff x y).1 h)) hlen
  rw[this];simp (disch:=omega) only[pvS,pvT,pvC,pvL,pvR,pvN,List.length_map]
theorem zik(r:Row):wT (rowT r)=r.data.length:=by rw[wT_eq];simp[rowT,wP,wL]
theorem tab_w{t:Tree}(h:treeB t=true):wL wR (tabT t)≤100000:=by
 have hl:=zmn h;have hc:=zeu h
 have key:∀l:List (List Str×Tree),(∀x∈l,wP x.1+x.2.data.length≤2000)→wL wR (l.map rowX)≤2001*l.length:=by
  intro l
  induction l with
  |nil=>simp[wL]
  |cons a l ih=>
   intro h;have h1:=h a (by simp)
   have h2:=ih fun x hx=>h x (by simp[hx])
   have e:wR (rowX a)=wP a.1+a.2.data.length:=rfl;simp only[List.map_cons,wL,List.length_cons];omega
 have h1:=key (sub [] t) fun x hx=>by
  obtain ⟨e,h3,h4,h5⟩:=zry t 0 [] (zbA h) rfl (by simp) x hx
  obtain ⟨h6,h7⟩:=zdG h3;have h8:=znn h5
  have h9:x.2.data.length≤24:=by
   cases hd:x.2.dir with
   |true=>rw[h6.dat hd];simp
   |false=>exact (h6.file hd).1
  omega
 have e:(sub [] t).length=(tabT t).length:=by unfold tabT;rw[List.length_map]
 have e2:tabT t=(sub [] t).map rowX:=rfl;rw[e2];rw[e]at h1;omega
theorem zah.fin(all:List Row)(hall:all.length≤1048576)(t:Tree)(hw:wT t≤1048576):zah.A5 (zah.x5 (all.map eR) false 0 (mkS []) [] [] t.dir t.mode (mkS t.data) (eSs t.names) (t.kids.map eT))=
 rTB (if treeB t=true∧tabT t=all then some t else none):=by
 have h1:=zja t (oT_of t hw) hw;have h2:=ziC t hw;rw[zah.a5x5];cases hb:treeB t with
 |false=>
  rw[hb]at h1;rw[if_neg (fun h=>by simp at h)]
  simp (disch:=omega) only[pvS,pvT,pvC,pvL,pvR,pvN,h1,zah.p16];rfl
 |true=>
  rw[hb]at h1;have h3:=ziD t (zbA hb) hw;rw[zpZ]at h3;have h4:=zp2 (tabT t) all (by have:=tab_w hb;omega) hall
  by_cases hc:tabT t=all
  ·have e:eqRs (tabT t) all=true:=(zff _ _).2 hc
   rw[if_pos ⟨rfl,hc⟩];rw[e]at h4;generalize tabT t=rs at*;simp (disch:=omega) only[pvS,pvC,pvL,pvR,pvN,h1,h2,h3,h4,zah.p16,zah.p17];rfl
  ·have e:eqRs (tabT t) all=false:=by
    cases h:eqRs (tabT t) all with
    |false=>rfl
    |true=>exact absurd ((zff _ _).1 h) hc
   rw[if_neg (fun h=>hc h.2)]
   rw[e]at h4;generalize tabT t=rs at*;simp (disch:=omega) only[pvS,pvC,pvL,pvR,pvN,h1,h2,h3,h4,zah.p16,zah.p17];rfl
end Go.PVx
namespace Go.PVx
open Go.PV Go.Proofs
theorem zmw{q:List Str}{n:Str}:(n.length+1)+q.length≤wP (q++[n]):=by
 have:=zdh q n;have:=zbG q;omega
theorem zah.l5(all rs:List Row)(hall:all.length≤1048576)(hrs:rs.length≤1048576):∀k,k≤rs.length→∀t:Tree,OkT t→wT t+wL wR (rs.drop k)≤1048576→
 (zah.L5 (all.map eR) (rs.map eR) rs.length (k:Int) false 0 (mkS []) [] [] t.dir t.mode (mkS t.data) (eSs t.names) (t.kids.map eT)).bind zah.A5=
 rTB ((zgV t (rs.drop k)).bind fun z=>if treeB z=true∧tabT z=all then some z else none):=by
 refine up rs.length ?_ fun k hk ih=> ?_
 ·intro t ho hw
  rw[List.drop_length]at hw⊢;simp only[wL]at hw;have hf:=zah.fin all hall t (by omega)
  rw[zah.s5];simp (disch:=omega) only[pvS,pvL,pvN];rw[hf];rfl
 ·intro t ho hw
  rw[zgz wR hk]at hw;rw[zaF rs k hk];unfold zgV;have hwr:=zik rs[k];have hr:rs[k]=rs[k]:=rfl;rw[zah.s5];have eR1:(rs.map eR).getD k []=eR rs[k]:=by rw[List.getD_eq_getElem?_getD,List.getElem?_map,List.getElem?_eq_getElem hk];rfl
  generalize rs[k]=r at*;obtain ⟨p,d,m,dat,i⟩:=r;have hwe:wR ⟨p,d,m,dat,i⟩=wP p+dat.length:=rfl;have hrow:rowT ⟨p,d,m,dat,i⟩=⟨d,m,dat,[],[]⟩:=rfl;rw[hrow]at hwr⊢;simp only at hwr⊢;rcases List.eq_nil_or_concat p with rfl|⟨q,n,rfl⟩
  ·rw[if_pos rfl]
   simp (disch:=omega) only[pvS,pvC,pvL,pvR,pvN,eR1,eR,List.length_map,Int.toNat_natCast,zah.a5q5];rfl
  ·rw[List.concat_eq_append]at*
   have hne:q++[n]≠[]:=by simp
   have hwl:= @zmw q n;rw[if_neg hne];have hat:=zif t q (by omega) ho (by omega)
   have e0:((q.length+1:Nat):Int)-1=(q.length:Int):=by omega
   have e1:List.take q.length (q++[n])=q:=by simp
   have e2:=zrb q n;have hpu:=fun z (h:putAt insI ⟨d,m,dat,[],[]⟩ t (q++[n])=some z)=>zq8 h ho (OkT.leaf d m dat)
   simp (disch:=omega) only[pvS,pvC,pvL,pvR,pvN,eR1,eR,List.length_map,Int.toNat_natCast,List.length_append,List.length_cons,List.length_nil,e0,e1];rw[zid]at hpu⊢;cases hloc:locT t q with
   |none=>
    rw[hloc]at hat;simp only[rAt]at hat;simp (disch:=omega) only[pvS,pvT,pvC,pvL,pvR,pvN,pvO,hat,zhb,zeJ,ok_p,List.isEmpty_nil,zah.p11,zah.a5q5];rfl
   |some y=>
    obtain ⟨π,c⟩:=y;have hco:=zmr q t _ hloc ho;have hcw:=loc_w q t _ hloc;rw[hloc]at hat hpu;simp only[rAt]at hat;obtain ⟨hz,hzw⟩:=hpu _ rfl;simp only at hco hcw hz hzw;rw[hwr]at hzw;have hlast:((q++[n]).getLastD [])=n:=by simp
    rw[hlast]at hzw;have hput:=zj8 c n d m dat hco (by omega)
    have ih2:=ih _ hz (by omega)
    simp only[Option.map_some,Option.bind_some];refine Eq.trans ?_ ih2;cases π with
    |nil=>
     obtain ⟨rfl,hs⟩:=zpU hloc (insI c n ⟨d,m,dat,[],[]⟩);rw[hs];simp (disch:=omega) only[pvS,pvT,pvC,pvL,pvR,pvN,pvO,hat,zhb,zeJ,ok_p,List.isEmpty_nil,zah.p11,e2,hput]
    |cons b π=>
     obtain ⟨a,j⟩:=b;obtain ⟨rfl,hj,g1,g2,g3,g4,g5,g6⟩:=znl hloc (insI c n ⟨d,m,dat,[],[]⟩);rw[g3,g4,g5,g6];rw[eT_eq (insI c n _)]at g2;simp (disch:=omega) only[pvS,pvC,pvL,pvR,pvN,pvO,hat,zj7,zeJ,ok_p,List.isEmpty_cons,List.headD_cons,List.tail_cons];rw[zah.p11b];generalize (t.kids.map eT).getD j []=R at*;simp (disch:=omega) only[pvS,pvT,pvC,pvL,pvR,pvN,pvO,e2,g1,hput,List.map_cons,List.map_nil,List.isEmpty_cons];rw[←g2];rfl
theorem zj9(rs:List Row)(hw:wL wR rs≤1048576):zah [vRs rs] []=rTB (RRI rs):=by
 have hl:=zcf wR rs;have hin:=zfd (rs.length:Int) 1 31;unfold inB at hin;rw[zah.e];cases rs with
 |nil=>
  have hin':zcT [vI 0,vI 1,vI 31] []=rB false:=zfd 0 1 31;simp (disch:=omega) only[pvS,pvC,pvL,pvR,pvN,List.map_nil,List.length_nil,hin'];rfl
 |cons r rs=>
  rw[zj3];simp only[List.length_cons]at hl hin⊢;by_cases h31:31<rs.length+1
  ·rw[if_pos h31]
   simp (disch:=omega) only[pvS,pvC,pvL,pvR,pvN,List.length_map,List.length_cons,hin];rfl
  ·rw[if_neg h31]
   simp only[wL]at hw;have hwe:wR r=wP r.path+r.data.length:=rfl;have h2:=zah.l5 (r::rs) rs (by simp only[List.length_cons];omega) (by omega) 0 (by omega) (rowT r) (OkT.leaf _ _ _) (by rw[zik];simp only[List.drop_zero];omega)
   simp (disch:=omega) only[pvS,pvC,pvL,pvR,pvN,List.length_map,List.length_cons,List.map_cons,hin,eR]
   have e1:∀x:List D,List.drop 1 (List.take (rs.length+1) (x::rs.map eR))=rs.map eR:=fun x=>by
    rw[List.take_of_length_le (by simp),List.drop_succ_cons,List.drop_zero]
   have e2:min (rs.length+1) (rs.length+1)-1=rs.length:=by omega
   have e3:((min (rs.length+1) (rs.length+1):Nat):Int)-1=(rs.length:Int):=by omega
   simp only[e1,e2,e3,zah.p5];exact h2
end Go.PVx
namespace Go.PVx
open Go.PV Go.Proofs
theorem zjj(t:Tree):wT t≤1048576→zbo [vT t] []=rT t:=by
 induction t using Tree.ind with
 |h d m s ns ks ih=>
  intro hw;have hwt:=wT_eq ⟨d,m,s,ns,ks⟩;simp only at hwt;have hl1:=zcf wT ks;have hl2:=zbG ns;have r1:zak 1 (eSs ns)=true:=Sx.rowsLen_map 1 eS (fun _=>rfl) ns
  have r2:zap false (eSs ns)=true:=Sx.rowsCell_map false eS (fun _=>rfl) ns
  have hl:∀k,k≤ks.length→(zbo.L3 (k:Int) d m (mkS s) (eSs ns) (ks.map eT) false 0 (mkS []) [] [] d m (mkS s) (eSs ns) ((ks.take k).map eT)).bind zbo.A3=rT ⟨d,m,s,ns,ks⟩:=by
   refine up ks.length ?_ fun k hk ihk=> ?_
   ·rw[zbo.s3,List.take_length]
    simp (disch:=omega) only[pvS,pvT,pvC,pvL,pvR,pvN,zbo.a3x3,r1,r2]
   ·have hk1:=wL_at wT hk
    have h1:=ih ks[k] (List.getElem_mem hk) (by omega)
    have r3:zak 5 ((ks.take k).map eT)=true:=Sx.rowsLen_map 5 eT Sx.eT_len _
    have e:(ks.take k).map eT++[eT ks[k]]=(ks.take (k+1)).map eT:=by
     rw[List.take_add_one,List.getElem?_eq_getElem hk,List.map_append];rfl
    have e2:((ks.take k).map eT).length=k:=by simp;omega
    rw[←ihk,←e,zbo.s3];rw[eT_eq ks[k]];simp (disch:=omega) only[pvS,pvT,pvC,pvL,pvR,pvN,h1,r3,e2]
  have h0:=hl 0 (by omega)
  rw[zbo.e];simp (disch:=omega) only[pvS,pvT,pvC,pvL,pvR,pvN,r1,r2];exact h0
theorem zf9(t:Tree)(hw:wT t≤1048576):zb1 [vT t] []=rO (if treeB t=true then (tabT t).map eR else []):=by
 have h0:=zi9 t (oT_of t hw) hw;rw[zb1.e];cases hb:treeB t with
 |false=>
  rw[hb]at h0;simp (disch:=omega) only[pvS,pvT,pvC,pvL,pvR,pvN,h0];rfl
 |true=>
  rw[hb]at h0;have h1:za9 [AV.one (A1.s []),vT t] []=_:=zmu t [] 0 (zbA hb) (by have:wP []=0:=rfl;omega)
  rw[zpZ]at h1;rw[if_pos rfl];generalize (tabT t).map eR=Z at*;simp (disch:=omega) only[pvS,pvC,pvL,pvR,pvN,h0,h1]
theorem zab.c18(all made:List Row)(hw:wL wR made≤1048576)(hall:all.length≤1048576)(hlen:made.length=all.length)(t:Tree)(ht:wT t≤1048576):∀k,k≤all.length→
 (zab.L18 (all.map eR) (k:Int) false 0 (mkS []) [] [] t.dir t.mode (mkS t.data) (eSs t.names) (t.kids.map eT) (made.map eR)).bind zab.A18=rTB (if eqRs (made.drop k) (all.drop k)=true then some t else none):=by
 have h2:=zjj t ht;refine up all.length ?_ fun k hk ih=> ?_
 ·have e:eqRs (made.drop all.length) (all.drop all.length)=true:=by rw[List.drop_length,←hlen,List.drop_length];rfl
  rw[if_pos e,zab.s18];simp (disch:=omega) only[pvS,pvC,pvL,pvR,pvN,List.length_map,zab.a18x18,h2];rfl
 ·have hk2:k<made.length:=by omega
  have h1:=zij made[k] all[k] (by have:=zp1 hk2;omega)
  rw[zaF all k hk,zaF made k hk2];unfold eqRs;rw[zab.s18];cases hb:sameR made[k] all[k]with
  |true=>
   rw[hb]at h1;simp (disch:=omega) only[pvS,pvT,pvC,pvL,pvR,pvN,List.length_map,h1,Bool.true_and];exact ih
  |false=>
   rw[hb]at h1;rw[if_neg (by simp)]
   simp (disch:=omega) only[pvS,pvT,pvC,pvL,pvR,pvN,List.length_map,h1,zab.a18q18];rfl
theorem zab.fin(all:List Row)(hall:all.length≤1048576)(h1:1≤all.length)(t:Tree)(hw:wT t≤1048576):zab.A5 (zab.x5 (all.map eR) false 0 (mkS []) [] [] t.dir t.mode (mkS t.data) (eSs t.names) (t.kids.map eT))=
 rTB (if treeB t=true∧tabT t=all then some t else none):=by
 have hm:=zf9 t hw;rw[zab.a5x5];cases hb:treeB t with
 |false=>
  rw[hb]at hm;rw[if_neg (fun h=>by simp at h)]
  rw[if_neg (by simp)]at hm
  simp (disch:=omega) only[pvS,pvC,pvL,pvR,pvN,List.length_map,hm];rfl
 |true=>
  rw[hb,if_pos rfl]at hm;have htw:=tab_w hb;have htl:=zcf wR (tabT t);generalize tabT t=made at*;by_cases hlen:made.length=all.length
  ·have hc:=zab.c18 all made (by omega) hall hlen t hw 0 (by omega)
   simp only[List.drop_zero,zff]at hc;simp (disch:=omega) only[pvS,pvC,pvL,pvR,pvN,List.length_map,hm,hlen];refine hc.trans ?_;simp only[true_and]
  ·rw[if_neg (fun h=>hlen (congrArg List.length h.2))]
   simp (disch:=omega) only[pvS,pvC,pvL,pvR,pvN,List.length_map,hm];rfl
theorem zab.c18b(all made:List Row)(hw:wL wR made≤1048576)(hall:all.length≤1048576)(hlen:made.length=all.length)(t:Tree)(ht:wT t≤1048576):∀k,k≤all.length→
 (zab.L18b (all.map eR) (k:Int) false 0 (mkS []) [] [] t.dir t.mode (mkS t.data) (eSs t.names) (t.kids.map eT) (made.map eR)).bind zab.A18=rTB (if eqRs (made.drop k) (all.drop k)=true then some t else none):=by
 have h2:=zjj t ht;refine up all.length ?_ fun k hk ih=> ?_
 ·have e:eqRs (made.drop all.length) (all.drop all.length)=true:=by rw[List.drop_length,←hlen,List.drop_length];rfl
  rw[if_pos e,zab.s18b];simp (disch:=omega) only[pvS,pvC,pvL,pvR,pvN,List.length_map,zab.a18x18b,h2];rfl
 ·have hk2:k<made.length:=by omega
  have h1:=zij made[k] all[k] (by have:=zp1 hk2;omega)
  rw[zaF all k hk,zaF made k hk2];unfold eqRs;rw[zab.s18b];cases hb:sameR made[k] all[k]with
  |true=>
   rw[hb]at h1;simp (disch:=omega) only[pvS,pvT,pvC,pvL,pvR,pvN,List.length_map,h1,Bool.true_and];exact ih
  |false=>
   rw[hb]at h1;rw[if_neg (by simp)]
   simp (disch:=omega) only[pvS,pvT,pvC,pvL,pvR,pvN,List.length_map,h1,zab.a18q18b];rfl
theorem zab.finb(all:List Row)(hall:all.length≤1048576)(h1:1≤all.length)(t:Tree)(hw:wT t≤1048576):zab.A5 (zab.x5b (all.map eR) false 0 (mkS []) [] [] t.dir t.mode (mkS t.data) (eSs t.names) (t.kids.map eT))=
 rTB (if treeB t=true∧tabT t=all then some t else none):=by
 have hm:=zf9 t hw;rw[zab.a5x5b];cases hb:treeB t with
 |false=>
  rw[hb]at hm;rw[if_neg (fun h=>by simp at h)]
  rw[if_neg (by simp)]at hm
  simp (disch:=omega) only[pvS,pvC,pvL,pvR,pvN,List.length_map,hm];rfl
 |true=>
  rw[hb,if_pos rfl]at hm;have htw:=tab_w hb;have htl:=zcf wR (tabT t);generalize tabT t=made at*;by_cases hlen:made.length=all.length
  ·have hc:=zab.c18b all made (by omega) hall hlen t hw 0 (by omega)
   simp only[List.drop_zero,zff]at hc;simp (disch:=omega) only[pvS,pvC,pvL,pvR,pvN,List.length_map,hm,hlen];refine hc.trans ?_;simp only[true_and]
  ·rw[if_neg (fun h=>hlen (congrArg List.length h.2))]
   simp (disch:=omega) only[pvS,pvC,pvL,pvR,pvN,List.length_map,hm];rfl
theorem zab.line(all:List Row)(hall:wL wR all≤1048576)(k:Nat)(hk:k<all.length)(t:Tree)(ho:OkL t)(hw:wT t≤1048576):
 (zab.L5 (all.map eR) (k:Int) false 0 (mkS []) [] [] t.dir t.mode (mkS t.data) (eSs t.names) (t.kids.map eT)).bind zab.A5=
 (match (if pathB 1 all[k].path=true then putAt insS (rowT all[k]) t all[k].path else none)with
 |none=>rTB none
 |some z=>(zab.L5b (all.map eR) ((k+1:Nat):Int) false 0 (mkS []) [] [] z.dir z.mode (mkS z.data) (eSs z.names) (z.kids.map eT)).bind zab.A5):=by
 have hat:=wL_at wR hk;have hln:=zcf wR all;have eR1:(all.map eR).getD k []=eR all[k]:=by rw[List.getD_eq_getElem?_getD,List.getElem?_map,List.getElem?_eq_getElem hk];rfl
 rw[zab.s5];generalize all[k]=r at*;obtain ⟨p,d,m,dat,i⟩:=r;have hwe:wR ⟨p,d,m,dat,i⟩=wP p+dat.length:=rfl;have hrow:rowT ⟨p,d,m,dat,i⟩=⟨d,m,dat,[],[]⟩:=rfl;have hpl:=zbG p;have hpo:=zgR p (oP_of (by omega))
 rw[hrow];simp only;cases hb:pathB 1 p with
 |false=>
  rw[hb]at hpo;rw[if_neg (by simp)]
  simp (disch:=omega) only[pvS,pvC,pvL,pvR,pvN,eR1,eR,List.length_map,Int.toNat_natCast,hpo,zab.a5q5];rfl
 |true=>
  rw[hb]at hpo;rw[if_pos rfl];have hne:p≠[]:=fun h=>by subst h;exact absurd hb (by decide)
  obtain ⟨u,hu1,hu2⟩:=zii ⟨d,m,dat,[],[]⟩ p t hne (by omega) ho hw
  have hu3:zbL [vT t,vP p, .g [.v (.bool d), .v (.int .i64 m), .v (.string (mkS dat)), .s [], .s []]] []=_:=hu1;cases hz:putAt insS ⟨d,m,dat,[],[]⟩ t p with
  |none=>
   rw[hz]at hu3;simp (disch:=omega) only[pvS,pvC,pvL,pvR,pvN,eR1,eR,List.length_map,Int.toNat_natCast,hpo,hu3,rPut,Option.isSome_none,zab.p11,zab.a5q5b];rfl
  |some z=>
   rw[hz]at hu3;obtain rfl:=hu2 z hz;simp (disch:=omega) only[pvS,pvC,pvL,pvR,pvN,eR1,eR,List.length_map,Int.toNat_natCast,hpo,hu3,rPut,Option.isSome_some,zab.p11]
theorem zab.lineb(all:List Row)(hall:wL wR all≤1048576)(k:Nat)(hk:k<all.length)(t:Tree)(ho:OkL t)(hw:wT t≤1048576):
 (zab.L5b (all.map eR) (k:Int) false 0 (mkS []) [] [] t.dir t.mode (mkS t.data) (eSs t.names) (t.kids.map eT)).bind zab.A5=
 (match (if pathB 1 all[k].path=true then putAt insS (rowT all[k]) t all[k].path else none)with
 |none=>rTB none
 |some z=>(zab.L5b (all.map eR) ((k+1:Nat):Int) false 0 (mkS []) [] [] z.dir z.mode (mkS z.data) (eSs z.names) (z.kids.map eT)).bind zab.A5):=by
 have hat:=wL_at wR hk;have hln:=zcf wR all;have eR1:(all.map eR).getD k []=eR all[k]:=by rw[List.getD_eq_getElem?_getD,List.getElem?_map,List.getElem?_eq_getElem hk];rfl
 rw[zab.s5b];generalize all[k]=r at*;obtain ⟨p,d,m,dat,i⟩:=r;have hwe:wR ⟨p,d,m,dat,i⟩=wP p+dat.length:=rfl;have hrow:rowT ⟨p,d,m,dat,i⟩=⟨d,m,dat,[],[]⟩:=rfl;have hpl:=zbG p;have hpo:=zgR p (oP_of (by omega))
 rw[hrow];simp only;cases hb:pathB 1 p with
 |false=>
  rw[hb]at hpo;rw[if_neg (by simp)]
  simp (disch:=omega) only[pvS,pvC,pvL,pvR,pvN,eR1,eR,List.length_map,Int.toNat_natCast,hpo,zab.a5q5c];rfl
 |true=>
  rw[hb]at hpo;rw[if_pos rfl];have hne:p≠[]:=fun h=>by subst h;exact absurd hb (by decide)
  obtain ⟨u,hu1,hu2⟩:=zii ⟨d,m,dat,[],[]⟩ p t hne (by omega) ho hw
  have hu3:zbL [vT t,vP p, .g [.v (.bool d), .v (.int .i64 m), .v (.string (mkS dat)), .s [], .s []]] []=_:=hu1;cases hz:putAt insS ⟨d,m,dat,[],[]⟩ t p with
  |none=>
   rw[hz]at hu3;simp (disch:=omega) only[pvS,pvC,pvL,pvR,pvN,eR1,eR,List.length_map,Int.toNat_natCast,hpo,hu3,rPut,Option.isSome_none,zab.p11b,zab.a5q5c];rfl
  |some z=>
   rw[hz]at hu3;obtain rfl:=hu2 z hz;simp (disch:=omega) only[pvS,pvC,pvL,pvR,pvN,eR1,eR,List.length_map,Int.toNat_natCast,hpo,hu3,rPut,Option.isSome_some,zab.p11b]
theorem zab.l5b(all:List Row)(hall:wL wR all≤1048576):∀k,k≤all.length→1≤k→∀t:Tree,OkL t→wT t+wL wR (all.drop k)≤1048576→
 (zab.L5b (all.map eR) (k:Int) false 0 (mkS []) [] [] t.dir t.mode (mkS t.data) (eSs t.names) (t.kids.map eT)).bind zab.A5=
 rTB ((zeX t (all.drop k)).bind fun z=>if treeB z=true∧tabT z=all then some z else none):=by
 have hln:=zcf wR all;refine up all.length ?_ fun k hk ih=> ?_
 ·intro h1 t ho hw
  rw[List.drop_length]at hw⊢;simp only[wL]at hw;have hf:=zab.finb all (by omega) h1 t (by omega)
  rw[zab.s5b];simp (disch:=omega) only[pvS,pvL,pvN,List.length_map];exact hf
 ·intro h1 t ho hw
  rw[zgz wR hk]at hw;rw[zaF all k hk,zab.lineb all hall k hk t ho (by omega)]
  unfold zeX;by_cases hb:pathB 1 all[k].path=true
  ·rw[if_pos hb,if_pos hb]
   cases hz:putAt insS (rowT all[k]) t all[k].path with
   |none=>rfl
   |some z=>
    obtain ⟨z1,z2⟩:=zih (rowT all[k]) (OkL.leaf _ _ _) _ t z hz ho;rw[zik]at z2;have hwe:wR all[k]=wP all[k].path+all[k].data.length:=rfl;have hne:all[k].path≠[]:=fun h=>by rw[h]at hb;exact absurd hb (by decide)
    obtain ⟨q,n,hq⟩:=(List.eq_nil_or_concat all[k].path).resolve_left hne;rw[List.concat_eq_append]at hq;rw[hq]at hwe z2;have hlast:((q++[n]).getLastD [])=n:=by simp
    have hwl:= @zmw q n;rw[hlast]at z2;simp only[Option.bind_some];exact ih (by omega) z z1 (by omega)
  ·rw[if_neg hb,if_neg hb];rfl
theorem zka(all:List Row)(hall:wL wR all≤1048576):zab [vRs all] []=rTB (RRS all):=by
 have hln:=zcf wR all;rw[zab.e];cases all with
 |nil=>
  simp (disch:=omega) only[pvS,pvC,pvL,pvR,pvN,List.map_nil,List.length_nil,zab.p2];rfl
 |cons r rs=>
  rw[zj4];have eR0:((r::rs).map eR).getD 0 []=eR r:=rfl;have hwe:wR r=wP r.path+r.data.length:=rfl;have hpl:=zbG r.path;simp only[List.length_cons]at hln;have hall':=hall;simp only[wL]at hall';by_cases h31:31<(r::rs).length
  ·rw[if_pos (Or.inl h31)]
   simp only[List.length_cons]at h31;simp (disch:=omega) only[pvS,pvC,pvL,pvR,pvN,List.length_map,List.length_cons,zab.p2];rfl
  ·have h31':=h31
   simp only[List.length_cons]at h31';by_cases hp:r.path=[]
   ·rw[if_neg (by rw[not_or];exact ⟨h31,fun h=>h hp⟩)]
    have hstart:(zab.L5 ((r::rs).map eR) ((1:Nat):Int) false 0 (mkS []) [] [] (rowT r).dir (rowT r).mode (mkS (rowT r).data) (eSs (rowT r).names) ((rowT r).kids.map eT)).bind zab.A5=
     rTB ((zeX (rowT r) rs).bind fun t=>if treeB t=true∧tabT t=r::rs then some t else none):=by
     cases hrs:rs with
     |nil=>
      have hf:=zab.fin [r] (by simp) (by simp) (rowT r) (by rw[zik];omega)
      rw[zab.s5];simp (disch:=omega) only[pvS,pvL,pvN,List.length_map,List.length_cons,List.length_nil];exact hf
     |cons r2 rs2=>
      rw[←hrs];have h2l:1<(r::rs).length:=by rw[hrs];simp
      rw[zab.line (r::rs) hall 1 h2l (rowT r) (OkL.leaf _ _ _) (by rw[zik];omega)]
      have eg:(r::rs)[1]=r2:=by simp[hrs]
      rw[eg];have eP:zeX (rowT r) rs=if pathB 1 r2.path=true then (putAt insS (rowT r2) (rowT r) r2.path).bind fun z=>zeX z rs2 else none:=by rw[hrs];rfl
      rw[eP];by_cases hb:pathB 1 r2.path=true
      ·rw[if_pos hb,if_pos hb]
       cases hz:putAt insS (rowT r2) (rowT r) r2.path with
       |none=>rfl
       |some z=>
        obtain ⟨z1,z2⟩:=zih (rowT r2) (OkL.leaf _ _ _) _ (rowT r) z hz (OkL.leaf _ _ _);rw[zik,zik]at z2;have hwe2:wR r2=wP r2.path+r2.data.length:=rfl;have hne:r2.path≠[]:=fun h=>by rw[h]at hb;exact absurd hb (by decide)
        obtain ⟨q,n,hq⟩:=(List.eq_nil_or_concat r2.path).resolve_left hne;rw[List.concat_eq_append]at hq;rw[hq]at hwe2 z2;have hlast:((q++[n]).getLastD [])=n:=by simp
        have hwl:= @zmw q n;rw[hlast]at z2;have hrw:wL wR rs=1+wR r2+wL wR rs2:=by rw[hrs];rfl
        have hdr:(r::rs).drop 2=rs2:=by rw[hrs];rfl
        have:=zab.l5b (r::rs) hall 2 (by simp only[List.length_cons]at h2l⊢;omega) (by omega) z z1 (by rw[hdr];omega)
        rw[hdr]at this;simp only[Option.bind_some];exact this
      ·rw[if_neg hb,if_neg hb];rfl
    simp (disch:=omega) only[pvS,pvC,pvL,pvR,pvN,List.length_map,List.length_cons,eR0,eR,hp,List.length_nil,zab.p2,zab.p3];exact hstart
   ·have hpn:0<r.path.length:=List.length_pos_iff.2 hp
    rw[if_pos (Or.inr hp)];simp (disch:=omega) only[pvS,pvC,pvL,pvR,pvN,List.length_map,List.length_cons,eR0,eR,zab.p2];rfl
end Go.PVx
namespace Go.PVx
open Go.PV Go.Proofs
structure OR (r:Row):Prop where
 path:oP r.path
 data:sS r.data
abbrev rRow(r:Row):Option Res:=some ⟨[.o .deep (eSs r.path), .v (.bool r.dir), .v (.int .i64 r.mode), .v (.string (mkS r.data)), .v (.int .i64 r.id)],[]⟩
theorem zno{l:List Row}{k:Nat}(h:k<l.length):(l.map eR).getD k []=[.s (eSs l[k].path), .v (.bool l[k].dir), .v (.int .i64 l[k].mode), .v (.string (mkS l[k].data)), .v (.int .i64 l[k].id)]:=by
 rw[zbT eR l k h];rfl
theorem zbb.l5(l:List Row)(hl:l.length≤9223372036854775807)(hX:∀a∈l,∀x:Int,0≤x→x≤Lim→zeq [vR a,vI x] []=rI (szR (wR a) x)):∀k,k≤l.length→∀x:Int,0≤x→x≤Lim→
 (zbb.L5 (l.map eR) x (k:Int)).bind zbb.A5=rI (szR (sumW wR (l.drop k)) x):=by
 have hL:(Lim:Int)=1048576:=rfl;refine up l.length ?_ fun k hk ih x h0 h1=> ?_
 ·intro x h0 h1;rw[zbb.s5];simp[sumW,szR,zbb.a5x5,h0]
 ·rw[zbb.s5,zaF l k hk]
  have h:=hX l[k] (List.getElem_mem hk) x h0 h1;simp only[Int.toNat_natCast,zno hk,zbC k (by omega),sumW]
  by_cases hx:(wR l[k]:Int)≤x
  ·have hn:¬x-(wR l[k]:Int)<0:=by omega
   have:=ih (x-(wR l[k]:Int)) (by omega) (by omega)
   push_cast at this;rw[zeU hx]at h;rw[zfy hx,←this];simp[-List.getElem_cons_drop,hk,hn,h]
  ·rw[zee hx]at h
   rw[zeF hx];simp[-List.getElem_cons_drop,hk,h,zbb.a5q5]
theorem zn4(l:List Row)(hl:l.length≤9223372036854775807)(hX:∀a∈l,∀x:Int,0≤x→x≤Lim→zeq [vR a,vI x] []=rI (szR (wR a) x))(x:Int)(h0:0≤x)(h1:x≤Lim):
 zbb [.one (.s (l.map eR)),vI x] []=rI (szR (wL wR l) x):=by
 have hL:(Lim:Int)=1048576:=rfl;have hw:IntKind.i64.wrap (x-(l.length:Int))=x-(l.length:Int):=zc1 _ (by omega)
 rw[zbb.e];simp only[List.length_map,hw,zne];by_cases hx:(l.length:Int)≤x
 ·have hn:¬x-(l.length:Int)<0:=by omega
  have:=zbb.l5 l hl hX 0 (by omega) (x-(l.length:Int)) (by omega) (by omega)
  rw[List.drop_zero]at this;rw[zfy hx,←this];simp[hn]
 ·have hn:x-(l.length:Int)<0:=by omega
  rw[zeF hx];simp[hn]
theorem zn5(l:List Row)(hl:l.length≤1048576)(hX:∀a∈l,zeI [vR a] []=rRow a):zbj [.one (.s (l.map eR))] []=rO (l.map eR):=by
 have key:∀k,k≤l.length→(zbj.L3 (l.map eR) (k:Int) ((l.take k).map eR++List.replicate (l.length-k) [D.s [],D.v (Value.bool false),D.v (Value.int IntKind.i64 0),D.v (Value.string (mkS [])),D.v (Value.int IntKind.i64 0)])).bind zbj.A3=rO (l.map eR):=by
  refine up l.length ?_ fun k hk ih=> ?_
  ·rw[zbj.s3,zjM];simp[zbj.a3x3]
  ·rw[zbj.s3]
   have h:=hX l[k] (List.getElem_mem hk);have h1:=zjK eR l [D.s [],D.v (Value.bool false),D.v (Value.int IntKind.i64 0),D.v (Value.string (mkS [])),D.v (Value.int IntKind.i64 0)] k hk;have h2:=zjJ eR l [D.s [],D.v (Value.bool false),D.v (Value.int IntKind.i64 0),D.v (Value.string (mkS [])),D.v (Value.int IntKind.i64 0)] k (by omega)
   have h3:=zjL eR l [D.s [],D.v (Value.bool false),D.v (Value.int IntKind.i64 0),D.v (Value.string (mkS [])),D.v (Value.int IntKind.i64 0)] k hk;have h4:eR l[k]=_:=(zbT eR l k hk).symm.trans (zno hk);rw[h4]at h3;rw[←ih];simp only[Int.toNat_natCast,zno hk,zbC k (by omega),h1,h2]
   have hb1:decide ((k:Int)<((l.map eR).length:Int))=true:=by simp;omega
   have hb2:decide (0≤(k:Int))=true:=by simp
   have hb3:decide ((k:Int)<(l.length:Int))=true:=by simp;omega
   simp only[hb1,hb2,hb3];simp only[zao,CK.fits,List.zipIdx,List.all_cons,List.all_nil,List.getD_cons_zero,List.getD_cons_succ,List.length_cons,List.length_nil,str_v,zpk,int_v,es_s,h,Option.bind_some,zac,R1.fits,tes_o,zpl,zjI,znc];simp only[List.drop_succ_cons,List.drop_zero,List.drop_nil];rw[h3];rfl
 rw[zbj.e];have hc:(decide (((l.map eR).length:Int)*((↑64:Int)+1)≤2^46)&&true&&true)=true:=by simp;omega
 rw[hc,cond_true];have h0:=key 0 (by omega)
 rw[zhR]at h0;simp only[List.length_map,Int.toNat_natCast];exact h0
theorem zn6(l:List Row)(hl:l.length≤9223372036854775807)(hX:∀a∈l,zc7 [vR a,vR a] []=rB true):zbl [.one (.s (l.map eR)), .one (.s (l.map eR))] []=rB true:=by
 have key:∀k,k≤l.length→zbl.L4 (l.map eR) (l.map eR) (k:Int)=some zbl.x4:=by
  refine up l.length ?_ fun k hk ih=> ?_
  ·rw[zbl.s4];simp
  ·rw[zbl.s4]
   have h:=hX l[k] (List.getElem_mem hk);simp only[Int.toNat_natCast,zno hk,zbC k (by omega),ih]
   simp[hk,h]
 have h0:zbl.L4 (l.map eR) (l.map eR) 0=_:=key 0 (by omega)
 rw[zbl.e,h0];simp[zbl.a4x4]
theorem zp3(e:Row)(h:OR e)(x:Int)(h0:0≤x)(h1:x≤Lim):zeq [vR e,vI x] []=rI (szR (wR e) x):=by
 have hL:(Lim:Int)=1048576:=rfl;have hd:=h.data;unfold sS at hd;have e1:=zf1 e.path h.path x h0 h1;rw[zeq.e,e1];unfold wR;by_cases hx:(wP e.path:Int)≤x
 ·rw[zeU hx]
  by_cases hx2:(e.data.length:Int)≤x-wP e.path
  ·rw[zeU (by omega),show x-((wP e.path+e.data.length:Nat):Int)=x-wP e.path-e.data.length by omega]
   simp (disch:=omega) only[pvS,pvT,pvC,pvL,pvR,pvN]
  ·rw[zee (by omega)]
   simp (disch:=omega) only[pvS,pvT,pvC,pvL,pvR,pvN]
 ·rw[zee hx,zee (by omega)]
  rfl
theorem zp4(e:Row)(hw:wR e≤1048576):zeI [vR e] []=rRow e:=by
 have:=zbG e.path;unfold wR at hw;rw[zeI.e,zf2 e.path (by omega)]
 simp (disch:=omega) only[pvS,pvT,pvC,pvL,pvR,pvN]
theorem zmx(e:Row)(hw:wR e≤1048576):zc7 [vR e,vR e] []=rB true:=by
 have:=zbG e.path;unfold wR at hw;rw[zc7.e,zdf e.path (by omega)]
 have b1:(!(e.dir==e.dir))=false:=by simp
 have b2:(e.mode !=e.mode)=false:=by simp
 have b3:(e.id !=e.id)=false:=by simp
 have b4:(e.data==e.data)=true:=by simp
 simp (disch:=omega) only[pvS,pvT,pvC,pvL,pvR,pvN,b1,b2,b3,b4,zc7.p9]
def cR(e:Row):Nat:=e.path.length+4
noncomputable def mR(k:Int)(e:Row):Row:=
 ⟨mP k e.path,(k+e.path.length).tmod 3==0,k+e.path.length+1,mt (k+e.path.length+2),k+e.path.length+3⟩
theorem zls(l:List Row)(k:Int)(h0:0≤k)(h1:k+(sumW cR l:Nat)≤Top)(hl:l.length≤1048576):
 zaR [.one (.r 0 [] 0),vI k] [gV (l.map eR)]=rM (k+(sumW cR l:Nat)) ((mks cR mR k l).map eR):=by
 have hT:Top=1000000000000:=rfl;rw[zaR.e];have key:=znh eR cR mR (fun _=>True) (fun k j r=>(zaR.L2 k j r).bind zaR.A2) (fun k r=>rM k r) ?_ ?_ l [] k (fun _ _=>trivial) h0 h1 (by simpa using hl)
 ·simpa using key
 ·intro m l a k _ h0 h1 hl
  unfold cR at h1;have ht:=zc8 (k+a.path.length+2) (by omega) (by omega)
  have hS:=zcH a.path k (by omega) (by omega)
  have e1:k+a.path.length+1+1=k+a.path.length+2:=by omega
  have e2:k+a.path.length+2+1=k+a.path.length+3:=by omega
  have e3:k+a.path.length+3+1=k+(cR a:Nat):=by unfold cR;omega
  have hfr:zao [CK.sl] (eR a) 0=true:=rfl;rw[zaR.s2];simp (disch:=omega) only[pvS,pvT,pvC,pvL,pvN,pvR,pvO,Nat.sub_self,zmm,ht,hS,e1,e2,e3,List.set_cons_zero,List.take_succ_cons,List.take_zero,List.drop_succ_cons,List.drop_zero,List.cons_append,List.nil_append,zaR.p8,mR]
 ·intro m k
  rw[zaR.s2];simp (disch:=omega) only[pvL,pvN,zaR.a2x2]
end Go.PVx
namespace Go.PVx
open Go.PV Go.Proofs
theorem zrB:∀l:List Row,sumW cR l≤4*wL wR l
 | []=>by simp[sumW]
 |r::l=>by
  have:=zrB l;have:=zbG r.path;simp only[sumW,wL,cR,wR];omega
theorem zn7(rs:List Row)(h:sL OR rs):zbb [vRs rs,vI 1048576] []=rI (szR (wL wR rs) 1048576):=
 zn4 rs h.1 (fun a ha x h0 h1=>zp3 a (h.2 a ha) x h0 h1) 1048576 (by omega) (by have hL:(Lim:Int)=1048576:=rfl;omega)
theorem zn8(rs:List Row)(hw:wL wR rs≤1048576):zbj [vRs rs] []=rO (rs.map eR):=
 zn5 rs (by have:=zcf wR rs;omega) (fun a ha=>zp4 a (by have:=zc5 wR rs a ha;omega))
theorem zn9(rs:List Row)(hw:wL wR rs≤1048576):zbl [vRs rs,vRs rs] []=rB true:=
 zn6 rs (by have:=zcf wR rs;omega) (fun a ha=>zmx a (by have:=zc5 wR rs a ha;omega))
end Go.PVx
namespace Go.PVx
open Go.PV Go.Proofs
noncomputable def mPs:Int→List (List Str)→List (List Str)
 |_,[]=> []
 |k,p::l=>mP k p::mPs (k+p.length) l
def cPs:List (List Str)→Nat
 | []=>0
 |p::l=>p.length+cPs l
@[simp] theorem zp5:∀(l:List (List Str)) (k:Int),(mPs k l).length=l.length
 | [],_=>rfl
 |p::l,k=>by simp[mPs,zp5 l]
theorem zgY(l:List (List Str))(hl:l.length≤1048576)(k:Int)(h0:0≤k)(h1:k+cPs l≤Top):
 zax [.one (.r 0 [] 0),vI k] [gV (l.map ePa)]=rM (k+cPs l) ((mPs k l).map ePa):=by
 have hT:Top=1000000000000:=rfl
 have key:∀j,j≤l.length→∀(m:List (List Str)) (k:Int),m.length=j→0≤k→k+cPs (l.drop j)≤Top→
  (zax.L2 k (j:Int) (m.map ePa++(l.drop j).map ePa)).bind zax.A2=rM (k+cPs (l.drop j)) ((m++mPs k (l.drop j)).map ePa):=by
  refine up l.length ?_ fun j hj ih m k hm h0 h1=> ?_
  ·intro m k hm h0 h1
   rw[zax.s2];simp[hm,zax.a2x2,mPs,cPs]
  ·have hd:=zaF l j hj
   have hg:=zjN ePa ePa l m j hj hm;have hlen:=zjO ePa ePa l m j (by omega) hm
   have hmp:mPs k (l.drop j)=mP k l[j]::mPs (k+l[j].length) (l.drop (j+1)):=by rw[hd,mPs]
   have hcp:cPs (l.drop j)=l[j].length+cPs (l.drop (j+1)):=by rw[hd,cPs]
   rw[hcp]at h1⊢;rw[hmp];have hs:=zjP ePa ePa l m j hj hm (mP k l[j]);have ht:=zcH l[j] k h0 (by omega)
   have ih':=ih (m++[mP k l[j]]) (k+l[j].length) (by simp[hm]) (by omega) (by omega)
   rw[zax.s2];have hs':List.set (m.map ePa++(l.drop j).map ePa) j ((ePa l[j]).set 0 (D.s (eSs (mP k l[j]))))=_:=hs;have he:(ePa l[j]).getD 0 D.h=D.s (eSs l[j]):=rfl;have hle:(ePa l[j]).length=1:=rfl;rw[show m++mP k l[j]::mPs (k+l[j].length) (l.drop (j+1))=m++[mP k l[j]]++mPs (k+l[j].length) (l.drop (j+1)) from by simp]
   rw[show k+((l[j].length+cPs (l.drop (j+1)):Nat):Int)=k+l[j].length+(cPs (l.drop (j+1)):Nat) by omega,←ih']
   have hfr:zao [CK.sl] (ePa l[j]) 0=true:=rfl;simp (disch:=omega) only[pvS,pvC,pvL,pvN,pvO,hg,hlen,he,hle,ht,hs',hfr]
 rw[zax.e];have:=key 0 (by omega) [] k rfl h0 (by simpa using h1)
 simpa using this
theorem ePa_len'(p:List Str):(ePa p).length=1:=rfl
theorem ePa_get'(p:List Str):(ePa p).getD 0 D.h=D.s (eSs p):=rfl
theorem zsB{α:Type}(f:α→List D)(a b:List α)(x:α):((a++x::b).map f).getD a.length []=f x:=by
 rw[zbT f _ _ (by simp)]
 simp
theorem zeY:∀(l pre:List (List Str)) (k:Int),0≤k→k+cPs l≤Top→pre.length+l.length≤1048576→
 (zat.L2 ((pre++mPs k l).map ePa) k (pre.length:Int)).bind zat.A2=rI (k+cPs l)
 | [],pre,k,h0,h1,hl=>by
  rw[zat.s2];simp[mPs,cPs,zat.a2x2]
 |p::l,pre,k,h0,h1,hl=>by
  have hT:Top=1000000000000:=rfl;simp only[cPs]at h1;simp only[List.length_cons]at hl;have ih:=zeY l (pre++[mP k p]) (k+p.length) (by omega) (by omega) (by simp only[List.length_append,List.length_cons,List.length_nil];omega)
  have ht:=zeW p k h0 (by omega)
  have hg:=zsB ePa pre (mPs (k+p.length) l) (mP k p);rw[List.append_assoc,List.singleton_append]at ih;have hlen:=zp5 l (k+p.length);rw[zat.s2,mPs,cPs];simp (disch:=omega) only[pvS,pvC,pvL,pvN,hg,hlen,ht,ePa_len',ePa_get'];simp only[List.length_append,List.length_cons,List.length_nil]at ih;rw[show k+((p.length+cPs l:Nat):Int)=k+p.length+(cPs l:Nat) by omega,←ih]
theorem zgZ(l:List (List Str))(hl:l.length≤1048576)(k:Int)(h0:0≤k)(h1:k+cPs l≤Top):
 zat [.one (.s ((mPs k l).map ePa)),vI k] []=rI (k+cPs l):=by
 rw[zat.e];exact zeY l [] k h0 h1 (by simpa using hl)
end Go.PVx
namespace Go.PVx
open Go.PV Go.Proofs
def cE(e:Entry):Nat:=e.path.length+4
noncomputable def mE(k:Int)(e:Entry):Entry:=
 ⟨mP k e.path,k+e.path.length,(k+e.path.length+1).tmod 3==0,k+e.path.length+2,mt (k+e.path.length+3)⟩
theorem ziE(l:List Entry)(k:Int)(h0:0≤k)(h1:k+(sumW cE l:Nat)≤Top)(hl:l.length≤1048576):
 zaw [.one (.r 0 [] 0),vI k] [gV (l.map eE)]=rM (k+(sumW cE l:Nat)) ((mks cE mE k l).map eE):=by
 have hT:Top=1000000000000:=rfl;rw[zaw.e];have key:=znh eE cE mE (fun _=>True) (fun k j r=>(zaw.L2 k j r).bind zaw.A2) (fun k r=>rM k r) ?_ ?_ l [] k (fun _ _=>trivial) h0 h1 (by simpa using hl)
 ·simpa using key
 ·intro m l a k _ h0 h1 hl
  unfold cE at h1;have ht:=zc8 (k+a.path.length+3) (by omega) (by omega)
  have hS:=zcH a.path k (by omega) (by omega)
  have e1:k+a.path.length+1+1=k+a.path.length+2:=by omega
  have e2:k+a.path.length+2+1=k+a.path.length+3:=by omega
  have e3:k+a.path.length+3+1=k+(cE a:Nat):=by unfold cE;omega
  have hfr:zao [CK.sl] (eE a) 0=true:=rfl;rw[zaw.s2];simp (disch:=omega) only[pvS,pvT,pvC,pvL,pvN,pvR,pvO,Nat.sub_self,zmm,ht,hS,e1,e2,e3,List.set_cons_zero,List.take_succ_cons,List.take_zero,List.drop_succ_cons,List.drop_zero,List.cons_append,List.nil_append,zaw.p8,mE]
 ·intro m k
  rw[zaw.s2];simp (disch:=omega) only[pvL,pvN,zaw.a2x2]
theorem ziF(l:List Entry)(k:Int)(h0:0≤k)(h1:k+(sumW cE l:Nat)≤Top)(hl:l.length≤1048576):
 zal [.one (.s ((mks cE mE k l).map eE)),vI k] []=rI (k+(sumW cE l:Nat)):=by
 have hT:Top=1000000000000:=rfl;rw[zal.e];have key:=zrx eE cE mE (fun _=>True) (fun r k j=>(zal.L2 r k j).bind zal.A2) (fun k=>rI k) ?_ ?_ l [] k (fun _ _=>trivial) h0 h1 (by simpa using hl)
 ·simpa using key
 ·intro m l a k _ h0 h1 hl
  unfold cE at h1;have ht:=zc8 (k+a.path.length+3) (by omega) (by omega)
  have hS:=zeW a.path k (by omega) (by omega)
  have e1:k+a.path.length+1+1=k+a.path.length+2:=by omega
  have e2:k+a.path.length+2+1=k+a.path.length+3:=by omega
  have e3:k+a.path.length+3+1=k+(cE a:Nat):=by unfold cE;omega
  rw[zal.s2];simp (disch:=omega) only[pvS,pvT,pvC,pvL,pvN,pvR,pvO,Nat.sub_self,ht,hS,e1,e2,e3,zal.p10,zal.p17,mE,beq_self_eq_true]
 ·intro m k
  rw[zal.s2];simp (disch:=omega) only[pvL,pvN,zal.a2x2]
def cU(u:Upper):Nat:=cPs u.gone+sumW cE u.puts
theorem zkb(u:Upper)(k:Int)(h0:0≤k)(h1:k+(cU u:Nat)≤Top)(hg:u.gone.length≤1048576)(hp:u.puts.length≤1048576):
 zcl [.g [.r 0 [] 0, .r 0 [] 1],vI k] [⟨.virt,[.s (u.gone.map ePa), .s (u.puts.map eE)],[.deep, .deep]⟩]=
  some ⟨[.v (.int .i64 (k+(cU u:Nat)))],[⟨.virt,[.s ((mPs k u.gone).map ePa), .s ((mks cE mE (k+cPs u.gone) u.puts).map eE)],[.deep, .deep]⟩]⟩:=by
 have hT:Top=1000000000000:=rfl;unfold cU at*;have m1:=zgY u.gone hg k (by omega) (by omega)
 have m2:=ziE u.puts (k+cPs u.gone) (by omega) (by push_cast at h1;omega) hp
 rw[zcl.e];simp (disch:=omega) only[pvS,pvT,pvC,pvL,pvR,pvN,pvO,m1,m2];rw[show k+((cPs u.gone+sumW cE u.puts:Nat):Int)=k+cPs u.gone+(sumW cE u.puts:Nat) by push_cast;omega]
theorem zkc(u:Upper)(k:Int)(h0:0≤k)(h1:k+(cU u:Nat)≤Top)(hg:u.gone.length≤1048576)(hp:u.puts.length≤1048576):
 zb0 [.g [.s ((mPs k u.gone).map ePa), .s ((mks cE mE (k+cPs u.gone) u.puts).map eE)],vI k] []=rI (k+(cU u:Nat)):=by
 have hT:Top=1000000000000:=rfl;unfold cU at*;have m1:=zgZ u.gone hg k (by omega) (by omega)
 have m2:=ziF u.puts (k+cPs u.gone) (by omega) (by push_cast at h1;omega) hp
 rw[zb0.e];simp (disch:=omega) only[pvS,pvT,pvC,pvL,pvR,pvN,pvO,m1,m2];rw[show k+((cPs u.gone+sumW cE u.puts:Nat):Int)=k+cPs u.gone+(sumW cE u.puts:Nat) by push_cast;omega]
end Go.PVx
namespace Go.PVx
open Go.PV
theorem zp6:∀a b:Str,Op.bytesLess a b=true↔a<b
 | [],[]=>by simp[Op.bytesLess]
 | [],b::bs=>by simp[Op.bytesLess]
 |a::xs,[]=>by simp[Op.bytesLess]
 |a::xs,b::bs=>by
  rw[zh7,List.cons_lt_cons_iff,Bool.or_eq_true,decide_eq_true_eq,Bool.and_eq_true,beq_iff_eq,zp6 xs bs]
theorem zkd(a b:Str):decide (a≤b)= !Op.bytesLess b a:=by
 have h:=zp6 b a;have e:(a≤b)=¬(b<a):=rfl;rw[Bool.eq_iff_iff,decide_eq_true_iff,e,←h];simp
def sortN(l:List Str):List Str:=l.mergeSort fun x y=>decide (x≤y)
theorem zp7(l:List Str)(x:Str):x∈sortN l↔x∈l:=(List.mergeSort_perm l _).mem_iff
theorem zlt(l:List Str):(sortN l).length=l.length:=(List.mergeSort_perm l _).length_eq
theorem zrd(l:List Str):(sortN l).Pairwise fun x y=>Op.bytesLess y x=false:=by
 have h:(sortN l).Pairwise fun x y=>decide (x≤y)=true:=by
  refine List.pairwise_mergeSort ?_ ?_ l
  ·intro a b c h1 h2
   rw[zkd]at h1 h2⊢;simp only[Bool.not_eq_true']at h1 h2⊢;cases h3:Op.bytesLess c a with
   |false=>rfl
   |true=>
    by_cases e:a=b
    ·subst e;rw[h3]at h2;simp at h2
    ·have h4:=zeG _ _ h1 (fun h=>e h.symm)
     rw[zcN _ _ _ h3 h4]at h2;simp at h2
  ·intro a b
   rw[zkd,zkd];cases h3:Op.bytesLess b a with
   |false=>rfl
   |true=>rw[zjd h3];rfl
 exact h.imp fun h=>by rw[zkd]at h;simpa using h
def uniqN:List Str→List Str
 | []=> []
 | [a]=> [a]
 |a::b::l=>if a=b then uniqN (b::l)else a::uniqN (b::l)
theorem zil(x:Str):∀l:List Str,x∈uniqN l↔x∈l
 | []=>Iff.rfl
 | [a]=>Iff.rfl
 |a::b::l=>by
  have ih:=zil x (b::l);unfold uniqN;split
  ·rename_i e;subst e;rw[ih];simp
  ·rw[List.mem_cons,ih,List.mem_cons (b:=a)]
theorem zlu:∀l:List Str,(l.Pairwise fun x y=>Op.bytesLess y x=false)→Asc (uniqN l)
 | [],_=>List.Pairwise.nil
 | [a],_=>List.pairwise_singleton _ _
 |a::b::l,h=>by
  have h2:=List.pairwise_cons.1 h;have ih:=zlu (b::l) h2.2;unfold uniqN;split
  ·exact ih
  ·rename_i e
   refine List.pairwise_cons.2 ⟨fun x hx=> ?_,ih⟩
   rw[zil]at hx;refine zeG _ _ (h2.1 x hx) fun ex=> ?_
   subst ex;rcases List.mem_cons.1 hx with hx|hx
   ·exact e hx
   ·have h3:=h2.1 b (by simp)
    have h4:=(List.pairwise_cons.1 h2.2).1 x hx
    exact e (Classical.byContradiction fun ne=>by
     have:=zeG _ _ h3 (fun q=>ne q.symm)
     rw[this]at h4;exact absurd h4 (by simp))
theorem zoa(l:List Str)(a:Str)(j:Nat)(h:j<l.length):Lib.keeps (l++[a]).toArray j=Lib.keeps l.toArray j:=by
 unfold Lib.keeps
 have e1:(l++[a]).toArray[j]! =l.toArray[j]! :=by
  rw[getElem!_pos _ j (by simp;omega),getElem!_pos _ j (by simpa using h)];simp[List.getElem_append_left h]
 have e2:(l++[a]).toArray[j-1]! =l.toArray[j-1]! :=by
  rw[getElem!_pos _ (j-1) (by simp;omega),getElem!_pos _ (j-1) (by simp;omega)];simp[List.getElem_append_left (show j-1<l.length by omega)]
 rw[e1,e2]
theorem zlv(l:List Str)(a:Str):∀m,m≤l.length→Lib.compactUpTo (l++[a]).toArray m=Lib.compactUpTo l.toArray m
 |0,_=>by simp[Lib.compactUpTo]
 |m+1,h=>by
  have e1:(l++[a]).toArray[m]! =l.toArray[m]! :=by
   rw[getElem!_pos _ m (by simp;omega),getElem!_pos _ m (by simp;omega)];simp[List.getElem_append_left (show m<l.length by omega)]
  rw[Lib.compactUpTo_succ,Lib.compactUpTo_succ,zlv l a m (by omega),zoa l a m (by omega),e1]
theorem zlw(l:List Str)(a:Str):Lib.compact (l++[a])=Lib.compact l++(if l.getLast? =some a then []else [a]):=by
 unfold Lib.compact;rw[List.length_append,List.length_singleton,Lib.compactUpTo_succ,zlv l a l.length (Nat.le_refl _)];have e1:(l++[a]).toArray[l.length]! =a:=by rw[getElem!_pos _ l.length (by simp)];simp
 congr 1
 unfold Lib.keeps;rw[e1];rcases List.eq_nil_or_concat l with rfl|⟨q,b,rfl⟩
 ·simp
 ·rw[List.concat_eq_append]
  have e2:(q++[b]++[a]).toArray[(q++[b]).length-1]! =b:=by
   rw[getElem!_pos _ _ (by simp)];simp
  rw[e2];simp only[List.length_append,List.length_singleton,Nat.add_eq_zero_iff,Nat.succ_ne_self,and_false,false_or,decide_eq_true_eq,List.getLast?_append,List.getLast?_singleton,Option.some_or,Option.some.injEq];by_cases e:a=b
  ·subst e;simp
  ·rw[if_pos e,if_neg fun h=>e h.symm]
theorem zjk(a:Str):∀l:List Str,uniqN (l++[a])=uniqN l++(if l.getLast? =some a then []else [a])
 | []=>by simp[uniqN]
 | [b]=>by
  simp only[List.cons_append,List.nil_append,uniqN,List.getLast?_singleton,Option.some.injEq];split
  ·rename_i e;subst e;simp
  ·simp
 |b::c::l=>by
  have ih:=zjk a (c::l);simp only[List.cons_append]at ih⊢;unfold uniqN;rw[ih,List.getLast?_cons_cons];split<;>simp
theorem zlx(l:List Str):Lib.compact l=uniqN l:=by
 generalize hn:l.length=n
 induction n generalizing l with
 |zero=>have:=List.length_eq_zero_iff.1 hn;subst this;simp[Lib.compact,Lib.compactUpTo,uniqN]
 |succ n ih=>
  rcases List.eq_nil_or_concat l with rfl|⟨q,b,rfl⟩
  ·simp at hn
  ·rw[List.concat_eq_append]at hn⊢
   rw[zlw,zjk,ih q (by simpa using hn)]
def setN(l:List Str):List Str:=uniqN (sortN l)
theorem zke(l:List Str):Asc (setN l):=zlu _ (zrd l)
theorem zea(l:List Str)(x:Str):x∈setN l↔x∈l:=by unfold setN;rw[zil,zp7]
theorem zly:∀l:List Str,(uniqN l).length≤l.length
 | []=>Nat.le_refl _
 | [a]=>Nat.le_refl _
 |a::b::l=>by
  have ih:=zly (b::l);unfold uniqN;split<;>simp only[List.length_cons]at ih⊢<;>omega
theorem zre(l:List Str):(setN l).length≤l.length:=by
 have:=zly (sortN l);rw[zlt]at this;exact this
theorem zp8:∀l m:List Str,Asc l→Asc m→(∀x,x∈l↔x∈m)→l=m
 | [],[],_,_,_=>rfl
 | [],b::m,_,_,h=>absurd ((h b).2 (by simp)) (by simp)
 |a::l,[],_,_,h=>absurd ((h a).1 (by simp)) (by simp)
 |a::l,b::m,h1,h2,h=>by
  have p1:=List.pairwise_cons.1 h1;have p2:=List.pairwise_cons.1 h2
  have e:a=b:=by
   rcases List.mem_cons.1 ((h a).1 (by simp))with e|ha
   ·exact e
   ·rcases List.mem_cons.1 ((h b).2 (by simp))with e|hb
    ·exact e.symm
    ·have:=zjd (p1.1 b hb)
     rw[p2.1 a ha]at this;simp at this
  subst e;rw[zp8 l m p1.2 p2.2 fun x=> ?_]
  have hx:=h x;simp only[List.mem_cons]at hx;constructor
  ·intro hl
   rcases hx.1 (.inr hl)with e|hm
   ·subst e;exact absurd rfl (zdF (p1.1 x hl))
   ·exact hm
  ·intro hm
   rcases hx.2 (.inr hm)with e|hl
   ·subst e;exact absurd rfl (zdF (p2.1 x hm))
   ·exact hl
theorem zsC{l m:List Str}(h:Asc l)(hm:∀x,x∈l↔x∈m):setN m=l:=
 zp8 _ _ (zke m) h fun x=>by rw[zea,hm]
theorem zlz(l:List Str):(eSs l).map zdk=l:=by
 rw[List.map_map];exact List.map_id'' (fun _=>rfl) l
theorem zmy(l:List Str):zcK (eSs l)=eSs (sortN l):=by
 unfold zcK;rw[zlz];rfl
theorem ziG(l:List Str):zcE (eSs l)=eSs (uniqN l):=by
 unfold zcE;rw[zlz,zlx];rfl
theorem zlA(l:List Str):(eSs l).all isStr=true:=by
 rw[List.all_map,List.all_eq_true];intro x _;rfl
end Go.PVx
namespace Go.PVx
open Go.PV
def look:List Str→List Tree→Str→Option Tree
 |n::ns,k::ks,m=>if n=m then some k else look ns ks m
 |_,_,_=>none
theorem zgE:∀(ns:List Str) (ks:List Tree) (m:Str),look ns ks m=(ixN ns m).bind fun k=>ks[k]?
 | [],ks,m=>by cases ks<;>rfl
 |n::ns,[],m=>by
  unfold look ixN;split
  ·rfl
  ·cases ixN ns m<;>rfl
 |n::ns,k::ks,m=>by
  unfold look ixN;by_cases h:n=m
  ·rw[if_pos h,if_pos h];rfl
  ·rw[if_neg h,if_neg h,zgE ns ks m]
   cases ixN ns m<;>rfl
theorem zlB{ns:List Str}{ks:List Tree}{m:Str}(h:m∉ns):look ns ks m=none:=by
 rw[zgE];cases hx:ixN ns m with
 |none=>rfl
 |some k=>obtain ⟨h1,h2⟩:=zdv hx;exact absurd (List.getElem_mem h1) (by rw[h2];exact h)
theorem zdi:∀{ns:List Str} {ks:List Tree} {m:Str} {k:Tree},look ns ks m=some k→m∈ns∧k∈ks
 |n::ns,k::ks,m,x,h=>by
  unfold look at h;split at h
  ·rename_i e;subst e;obtain rfl:=Option.some.inj h;exact ⟨by simp,by simp⟩
  ·obtain ⟨h1,h2⟩:=zdi h;exact ⟨by simp[h1],by simp[h2]⟩
 | [],ks,m,x,h=>by cases ks<;>exact absurd h (by simp[look])
 |n::ns,[],m,x,h=>absurd h (by simp[look])
theorem zp9(t:Tree)(n:Str)(q:List Str):(locT t (n::q)).map (·.2)=(look t.names t.kids n).bind fun k=>(locT k q).map (·.2):=by
 rw[zgE]
 conv=>lhs;unfold locT
 cases ixN t.names n with
 |none=>rfl
 |some k=>
  simp only[Option.bind_some];cases t.kids[k]? with
  |none=>rfl
  |some kd=>simp only[Option.bind_some];cases locT kd q<;>rfl
def atT(t:Tree)(q:List Str):Option Tree:=(locT t q).map (·.2)
theorem zqa(t:Tree):atT t []=some t:=rfl
theorem zeH(t:Tree)(n:Str)(q:List Str):atT t (n::q)=(look t.names t.kids n).bind fun k=>atT k q:=zp9 t n q
abbrev goneE(p:List Str):Entry:=⟨p,1,false,0,[]⟩
def partE(p:List Str)(a b:Tree):List Entry:=
 (if a.mode=b.mode then []else [⟨p,3,false,b.mode,[]⟩])++(if a.data=b.data then []else [⟨p,4,false,0,b.data⟩])
def zco(p:List Str)(t:Tree):List Entry:=(sub p t).map entX
def wkO(g:List Str→Tree→Tree→List Entry)(p:List Str):Option Tree→Option Tree→List Entry
 |none,none=> []
 |none,some b=>zco p b
 |some _,none=> [goneE p]
 |some a,some b=>g p a b
def wkZ(g:List Str→Tree→Tree→List Entry)(p:List Str)(ns:List Str)(ks:List Tree)(ms:List Str)(ls:List Tree):List Entry:=
 (setN (ns++ms)).flatMap fun n=>wkO g (p++[n]) (look ns ks n) (look ms ls n)
def wk:Nat→List Str→Tree→Tree→List Entry
 |0,_,_,_=> []
 |f+1,p,a,b=>if a.dir=b.dir then partE p a b++wkZ (wk f) p a.names a.kids b.names b.kids else goneE p::zco p b
theorem zmz(g:List Str→Tree→Tree→List Entry)(p:List Str)(ks ls:List Tree):wkZ g p [] ks [] ls=[]:=by
 unfold wkZ;have:setN ([]++[])=[]:=List.eq_nil_iff_forall_not_mem.2 fun x hx=>by rw[zea]at hx;simp at hx
 rw[this];rfl
theorem zim{n:Str}{l m:List Str}(hm:∀x,x∈m↔x=n∨x∈l)(hl:∀x∈l,Op.bytesLess n x=true):setN m=n::setN l:=by
 refine zsC (List.pairwise_cons.2 ⟨fun x hx=>hl x ((zea l x).1 hx),zke l⟩) fun x=> ?_
 rw[List.mem_cons,zea,hm]
theorem zkf(g:List Str→Tree→Tree→List Entry)(p:List Str){n:Str}{ns:List Str}{k:Tree}{ks:List Tree}{ms:List Str}(ls:List Tree)
 (h1:∀x∈ns,Op.bytesLess n x=true) (h2:∀x∈ms,Op.bytesLess n x=true):wkZ g p (n::ns) (k::ks) ms ls=goneE (p++[n])::wkZ g p ns ks ms ls:=by
 have hl:∀x∈ns++ms,Op.bytesLess n x=true:=fun x hx=>(List.mem_append.1 hx).elim (h1 x) (h2 x)
 unfold wkZ;rw[zim (l:=ns++ms) (fun x=>by simp) hl,List.flatMap_cons]
 have e1:look (n::ns) (k::ks) n=some k:=by simp[look]
 have e2:look ms ls n=none:=zlB fun h=>zdF (h2 n h) rfl
 rw[e1,e2];show [goneE (p++[n])]++_=_;rw[List.singleton_append];congr 1
 rw[List.flatMap_def,List.flatMap_def];congr 1
 refine List.map_congr_left fun x hx=> ?_
 have hx':=hl x ((zea _ x).1 hx)
 have e3:look (n::ns) (k::ks) x=look ns ks x:=by
  conv=>lhs;unfold look
  rw[if_neg (zdF hx')]
 rw[e3]
theorem zga(g:List Str→Tree→Tree→List Entry)(p:List Str){m:Str}{ms:List Str}{l:Tree}{ls:List Tree}{ns:List Str}(ks:List Tree)
 (h1:∀x∈ms,Op.bytesLess m x=true) (h2:∀x∈ns,Op.bytesLess m x=true):wkZ g p ns ks (m::ms) (l::ls)=zco (p++[m]) l++wkZ g p ns ks ms ls:=by
 have hl:∀x∈ns++ms,Op.bytesLess m x=true:=fun x hx=>(List.mem_append.1 hx).elim (h2 x) (h1 x)
 unfold wkZ;rw[zim (l:=ns++ms) (fun x=>by simp only[List.mem_append,List.mem_cons];grind) hl,List.flatMap_cons]
 have e1:look (m::ms) (l::ls) m=some l:=by simp[look]
 have e2:look ns ks m=none:=zlB fun h=>zdF (h2 m h) rfl
 rw[e1,e2];show zco (p++[m]) l++_=_;congr 1
 rw[List.flatMap_def,List.flatMap_def];congr 1
 refine List.map_congr_left fun x hx=> ?_
 have hx':=hl x ((zea _ x).1 hx)
 have e3:look (m::ms) (l::ls) x=look ms ls x:=by
  conv=>lhs;unfold look
  rw[if_neg (zdF hx')]
 rw[e3]
theorem znp(g:List Str→Tree→Tree→List Entry)(p:List Str){n:Str}{ns:List Str}{k:Tree}{ks:List Tree}{ms:List Str}{l:Tree}{ls:List Tree}
 (h1:∀x∈ns,Op.bytesLess n x=true) (h2:∀x∈ms,Op.bytesLess n x=true):wkZ g p (n::ns) (k::ks) (n::ms) (l::ls)=g (p++[n]) k l++wkZ g p ns ks ms ls:=by
 have hl:∀x∈ns++ms,Op.bytesLess n x=true:=fun x hx=>(List.mem_append.1 hx).elim (h1 x) (h2 x)
 unfold wkZ;rw[zim (l:=ns++ms) (fun x=>by simp only[List.cons_append,List.mem_append,List.mem_cons];grind) hl,List.flatMap_cons]
 have e1:look (n::ns) (k::ks) n=some k:=by simp[look]
 have e2:look (n::ms) (l::ls) n=some l:=by simp[look]
 rw[e1,e2];show g (p++[n]) k l++_=_;congr 1
 rw[List.flatMap_def,List.flatMap_def];congr 1
 refine List.map_congr_left fun x hx=> ?_
 have hx':=hl x ((zea _ x).1 hx)
 have e3:look (n::ns) (k::ks) x=look ns ks x:=by
  conv=>lhs;unfold look
  rw[if_neg (zdF hx')]
 have e4:look (n::ms) (l::ls) x=look ms ls x:=by
  conv=>lhs;unfold look
  rw[if_neg (zdF hx')]
 rw[e3,e4]
theorem sub_at(t:Tree):∀d,za1 d t=true→∀p,∀x∈sub p t,∃q,x.1=p++q∧atT t q=some x.2:=by
 induction t using Tree.ind with
 |h dd m s ns ks ih=>
  intro d h p x hx;rw[zcz,List.mem_cons]at hx;rcases hx with rfl|hx
  ·exact ⟨[],by simp,rfl⟩
  ·have ha:=zcO h
   have hl:=zbm h;have hk:=fun k hk=>ih k hk (d+1) (zaZ h hk)
   simp only at ha hl hx
   have key:∀(ns:List Str) (ks:List Tree),Asc ns→(∀k∈ks,∀p,∀x∈sub p k,∃q,x.1=p++q∧atT k q=some x.2)→x∈subZ p ns ks→∃n q k,x.1=p++n::q∧look ns ks n=some k∧atT k q=some x.2:=by
    intro ns
    induction ns with
    |nil=>intro ks _ _ hx;simp[subZ]at hx
    |cons n ns ihn=>
     intro ks ha hk hx;cases ks with
     |nil=>simp[subZ]at hx
     |cons k ks=>
      simp only[subZ,List.mem_append]at hx;have ha':=List.pairwise_cons.1 ha;rcases hx with hx|hx
      ·obtain ⟨q,h1,h2⟩:=hk k (by simp) _ x hx
       exact ⟨n,q,k,by rw[h1];simp,by simp[look],h2⟩
      ·obtain ⟨n',q,k',h1,h2,h3⟩:=ihn ks ha'.2 (fun y hy=>hk y (by simp[hy])) hx
       refine ⟨n',q,k',h1, ?_,h3⟩;unfold look;rw[if_neg (zdF (ha'.1 n' (zdi h2).1)),h2]
   obtain ⟨n,q,k,h1,h2,h3⟩:=key ns ks ha hk hx;exact ⟨n::q,h1,by rw[zeH];simp only[h2,Option.bind_some,h3]⟩
theorem zrC(t:Tree):∀p q k,atT t q=some k→(p++q,k)∈sub p t:=by
 induction t using Tree.ind with
 |h dd m s ns ks ih=>
  intro p q k h;rw[zcz];cases q with
  |nil=>rw[zqa]at h;obtain rfl:=Option.some.inj h;simp
  |cons n q=>
   rw[zeH]at h;simp only[Option.bind_eq_some_iff]at h;obtain ⟨kd,h1,h2⟩:=h;refine List.mem_cons_of_mem _ ?_
   have key:∀(ns:List Str) (ks:List Tree),look ns ks n=some kd→(∀k'∈ks,k'=kd→∀p,(p++q,k)∈sub p k')→(p++n::q,k)∈subZ p ns ks:=by
    intro ns
    induction ns with
    |nil=>intro ks h;cases ks<;>exact absurd h (by simp[look])
    |cons a ns ihn=>
     intro ks h hk;cases ks with
     |nil=>exact absurd h (by simp[look])
     |cons b ks=>
      simp only[subZ,List.mem_append];unfold look at h;split at h
      ·rename_i e
       subst e;obtain rfl:=Option.some.inj h;left;have:=hk b (by simp) rfl (p++[a])
       simpa using this
      ·right
       exact ihn ks h fun k' hk'=>hk k' (by simp[hk'])
   exact key ns ks h1 fun k' hk' e p=>by subst e;exact ih k' hk' p q k h2
end Go.PVx
namespace Go.PVx
open Go.PV
def RE(x y:Entry):Prop:=(x.what=1→y.what=1→lessP x.path y.path=true)∧(x.what≠1→y.what≠1→lessP x.path y.path=true∨x.path=y.path)
def WS(p:List Str)(oa ob:Option Tree)(es:List Entry):Prop:=
 (∀e∈es,∃q,e.path=p++q∧(e.what=1→(oa.bind fun t=>atT t q).isSome=true)∧(e.what≠1→(ob.bind fun t=>atT t q).isSome=true))∧es.Pairwise RE
theorem znq(p:List Str)(oa:Option Tree)(b:Tree)(d:Int)(hb:za1 d b=true):WS p oa (some b) (zco p b):=by
 constructor
 ·intro e he
  unfold zco at he;obtain ⟨x,hx,rfl⟩:=List.mem_map.1 he;obtain ⟨q,h1,h2⟩:=sub_at b d hb p x hx;refine ⟨q,h1,fun h=> ?_,fun _=> ?_⟩
  ·have:(2:Int)=1:=h
   exact absurd this (by decide)
  ·simp only[Option.bind_some,h2,Option.isSome_some]
 ·unfold zco
  rw[List.pairwise_map];refine (zsv b d p hb).imp fun h=>⟨fun h1=> ?_,fun _ _=> .inl h⟩
  have:(2:Int)=1:=h1;exact absurd this (by decide)
theorem zsD(p:List Str)(a:Tree)(ob:Option Tree):WS p (some a) ob [goneE p]:=by
 constructor
 ·intro e he
  obtain rfl:=List.mem_singleton.1 he;exact ⟨[],by simp,fun _=>rfl,fun h=>absurd rfl h⟩
 ·exact List.pairwise_singleton _ _
theorem ws_O(g:List Str→Tree→Tree→List Entry)(p:List Str)(oa ob:Option Tree)(d:Int)(hb:∀b,ob=some b→za1 d b=true)
 (hg:∀a b,oa=some a→ob=some b→WS p oa ob (g p a b)):WS p oa ob (wkO g p oa ob):=by
 cases oa with
 |none=>cases ob with
  |none=>exact ⟨fun e he=>absurd he (by simp[wkO]),List.Pairwise.nil⟩
  |some b=>exact znq p none b d (hb b rfl)
 |some a=>cases ob with
  |none=>exact zsD p a none
  |some b=>exact hg a b rfl rfl
theorem zin(f:Nat)(p:List Str)(a b:Tree):wk (f+1) p a b=if a.dir=b.dir then partE p a b++wkZ (wk f) p a.names a.kids b.names b.kids else goneE p::zco p b:=rfl
theorem zev{p:List Str}{a b:Tree}{e:Entry}(h:e∈partE p a b):e.path=p∧e.what≠1:=by
 unfold partE at h;rcases List.mem_append.1 h with h|h
 ·split at h
  ·simp at h
  ·obtain rfl:=List.mem_singleton.1 h
   exact ⟨rfl,show (3:Int)≠1 by decide⟩
 ·split at h
  ·simp at h
  ·obtain rfl:=List.mem_singleton.1 h
   exact ⟨rfl,show (4:Int)≠1 by decide⟩
theorem zeZ:∀(f:Nat) (p:List Str) (a b:Tree) (d:Int),za1 d a=true→za1 d b=true→WS p (some a) (some b) (wk f p a b)
 |0,p,a,b,d,ha,hb=>⟨fun e he=>absurd he (by simp[wk]),List.Pairwise.nil⟩
 |f+1,p,a,b,d,ha,hb=>by
  rw[zin];split
  ·have hz:∀n∈setN (a.names++b.names),WS (p++[n]) (look a.names a.kids n) (look b.names b.kids n) (wkO (wk f) (p++[n]) (look a.names a.kids n) (look b.names b.kids n)):=fun n _=>
    ws_O _ _ _ _ (d+1) (fun k hk=>zaZ hb (zdi hk).2) fun k l hk hl=>by
     rw[hk,hl];exact zeZ f _ k l (d+1) (zaZ ha (zdi hk).2) (zaZ hb (zdi hl).2)
   have hpth:∀e∈wkZ (wk f) p a.names a.kids b.names b.kids,∃n q,e.path=p++n::q∧(e.what=1→((some a).bind fun t=>atT t (n::q)).isSome=true)∧(e.what≠1→((some b).bind fun t=>atT t (n::q)).isSome=true):=fun e he=>by
    obtain ⟨n,hn,he⟩:=List.mem_flatMap.1 he;obtain ⟨q,h1,h2,h3⟩:=(hz n hn).1 e he;refine ⟨n,q,by rw[h1];simp,fun h=> ?_,fun h=> ?_⟩
    ·have:=h2 h;simp only[Option.bind_some,zeH];exact this
    ·have:=h3 h;simp only[Option.bind_some,zeH];exact this
   constructor
   ·intro e he
    rcases List.mem_append.1 he with he|he
    ·obtain ⟨h1,h2⟩:=zev he
     exact ⟨[],by rw[h1];simp,fun h=>absurd h h2,fun _=>rfl⟩
    ·obtain ⟨n,q,h⟩:=hpth e he
     exact ⟨n::q,h⟩
   ·refine List.pairwise_append.2 ⟨?_, ?_,fun x hx y hy=> ?_⟩
    ·refine List.pairwise_of_forall_mem_list fun x hx y hy=> ?_
     obtain ⟨h1,h2⟩:=zev hx;obtain ⟨h3,h4⟩:=zev hy;exact ⟨fun h=>absurd h h2,fun _ _=> .inr (h1.trans h3.symm)⟩
    ·unfold wkZ
     rw[List.pairwise_flatMap];refine ⟨fun n hn=>(hz n hn).2, ?_⟩
     have hp:(setN (a.names++b.names)).Pairwise fun n m=>n∈setN (a.names++b.names)∧m∈setN (a.names++b.names)∧Op.bytesLess n m=true:=by
      refine List.Pairwise.imp_of_mem (fun hx hy h=>⟨hx,hy,h⟩) (zke _)
     refine hp.imp fun {n m} h x hx y hy=> ?_
     obtain ⟨hn,hm,hlt⟩:=h;obtain ⟨q,h1,_⟩:=(hz n hn).1 x hx;obtain ⟨r,h2,_⟩:=(hz m hm).1 y hy
     have:lessP x.path y.path=true:=by
      rw[h1,h2,List.append_assoc,List.append_assoc,zf5];exact zlr hlt _ _
     exact ⟨fun _ _=>this,fun _ _=> .inl this⟩
    ·obtain ⟨h1,h2⟩:=zev hx
     obtain ⟨n,q,h3,_⟩:=hpth y hy;refine ⟨fun h=>absurd h h2,fun _ _=> .inl ?_⟩
     rw[h1,h3];have:=zf5 p [] (n::q);rw[List.append_nil]at this;rw[this];rfl
  ·have hf:=znq p (some a) b d hb
   constructor
   ·intro e he
    rcases List.mem_cons.1 he with rfl|he
    ·exact ⟨[],by simp,fun _=>rfl,fun h=>absurd rfl h⟩
    ·exact hf.1 e he
   ·refine List.pairwise_cons.2 ⟨fun y hy=> ?_,hf.2⟩
    have hy2:y.what≠1:=by
     obtain ⟨x,_,rfl⟩:=List.mem_map.1 hy;show (2:Int)≠1;decide
    exact ⟨fun _ h=>absurd h hy2,fun h=>absurd rfl h⟩
def putE(c:Tree)(p:List Str):Entry:=match atT c p with
 |some y=>⟨p,2,y.dir,y.mode,y.data⟩
 |none=>⟨p,2,false,0,[]⟩
theorem ze0(c:Tree)(p:List Str):(putE c p).path=p:=by unfold putE;cases atT c p<;>rfl
def upS(c:Tree)(u:Upper)(e:Entry):Upper:=
 if e.what=1 then ⟨u.gone++[e.path],u.puts⟩else if u.puts.getLast?.map (·.path)=some e.path then u else ⟨u.gone,u.puts++[putE c e.path]⟩
def upI(c:Tree)(u:Upper)(e:Entry):Upper:=
 if e.what=1 then ⟨u.gone++[e.path],u.puts⟩else if u.puts.any (fun x=>decide (x.path=e.path))=true then u else ⟨u.gone,u.puts++[putE c e.path]⟩
def upOf(a b:Tree):Upper:=(wk 5 [] a b).foldl (upS b) ⟨[],[]⟩
structure UpInv (u:Upper) (es:List Entry):Prop where
 asc:u.puts.Pairwise fun x y=>lessP x.path y.path=true
 gasc:u.gone.Pairwise fun x y=>lessP x y=true
 put:∀x∈u.puts,∀e∈es,e.what≠1→lessP x.path e.path=true∨x.path=e.path
 gone:∀g∈u.gone,∀e∈es,e.what=1→lessP g e.path=true
theorem zgb{p q:List Str}(h:lessP p q=true):p≠q:=fun e=>by subst e;rw[zpQ]at h;simp at h
theorem zsE{c:Tree}{u:Upper}{e:Entry}{es:List Entry}(h:UpInv u (e::es)):upI c u e=upS c u e:=by
 unfold upI upS;by_cases h1:e.what=1
 ·rw[if_pos h1,if_pos h1]
 ·rw[if_neg h1,if_neg h1]
  rcases List.eq_nil_or_concat u.puts with hu|⟨l,x,hu⟩
  ·rw[hu];rfl
  ·rw[List.concat_eq_append]at hu
   have e1:u.puts.getLast?.map (·.path)=some x.path:=by rw[hu];simp
   rw[e1];have hx:x∈u.puts:=by rw[hu];simp
   by_cases h2:x.path=e.path
   ·have h3:u.puts.any (fun x=>decide (x.path=e.path))=true:=List.any_eq_true.2 ⟨x,hx,decide_eq_true h2⟩
    rw[if_pos h3,if_pos (congrArg some h2)]
   ·have h3:lessP x.path e.path=true:=(h.put x hx e (by simp) h1).resolve_right h2
    have h4:¬(u.puts.any (fun x=>decide (x.path=e.path))=true):=fun h4=>by
     obtain ⟨y,hy,he⟩:=List.any_eq_true.1 h4;have he:=of_decide_eq_true he;rw[hu]at hy;rcases List.mem_append.1 hy with hy|hy
     ·have ha:=h.asc
      rw[hu]at ha;have:=(List.pairwise_append.1 ha).2.2 y hy x (by simp)
      rw[he]at this;exact zgb (zfB _ _ _ this h3) rfl
     ·obtain rfl:=List.mem_singleton.1 hy
      exact h2 he
    rw[if_neg h4,if_neg fun h=>h2 (Option.some.inj h)]
theorem zsF{c:Tree}{u:Upper}{e:Entry}{es:List Entry}(h:UpInv u (e::es))(hr:(e::es).Pairwise RE):UpInv (upS c u e) es:=by
 have hr':=List.pairwise_cons.1 hr;unfold upS;by_cases h1:e.what=1
 ·rw[if_pos h1]
  refine ⟨h.asc,List.pairwise_append.2 ⟨h.gasc,List.pairwise_singleton _ _,fun x hx y hy=> ?_⟩,fun x hx y hy=>h.put x hx y (by simp[hy]),fun g hg y hy hw=> ?_⟩
  ·obtain rfl:=List.mem_singleton.1 hy
   exact h.gone x hx e (by simp) h1
  ·rcases List.mem_append.1 hg with hg|hg
   ·exact h.gone g hg y (by simp[hy]) hw
   ·obtain rfl:=List.mem_singleton.1 hg
    exact (hr'.1 y hy).1 h1 hw
 ·rw[if_neg h1]
  split
  ·exact ⟨h.asc,h.gasc,fun x hx y hy=>h.put x hx y (by simp[hy]),fun g hg y hy=>h.gone g hg y (by simp[hy])⟩
  ·rename_i hl
   refine ⟨List.pairwise_append.2 ⟨h.asc,List.pairwise_singleton _ _,fun x hx y hy=> ?_⟩,h.gasc,fun x hx y hy hw=> ?_,fun g hg y hy=>h.gone g hg y (by simp[hy])⟩
   ·obtain rfl:=List.mem_singleton.1 hy
    rw[ze0];rcases h.put x hx e (by simp) h1 with h2|h2
    ·exact h2
    ·exfalso
     rcases List.eq_nil_or_concat u.puts with hu|⟨l,z,hu⟩
     ·rw[hu]at hx;simp at hx
     ·rw[List.concat_eq_append]at hu
      have e1:u.puts.getLast?.map (·.path)=some z.path:=by rw[hu];simp
      rw[e1]at hl;have hz:z∈u.puts:=by rw[hu];simp
      have h3:lessP z.path e.path=true:=(h.put z hz e (by simp) h1).resolve_right fun h=>hl (by rw[h])
      have ha:=h.asc;rw[hu]at ha hx;rcases List.mem_append.1 hx with hx|hx
      ·have:=(List.pairwise_append.1 ha).2.2 x hx z (by simp)
       rw[h2]at this;exact zgb (zfB _ _ _ this h3) rfl
      ·obtain rfl:=List.mem_singleton.1 hx
       rw[h2]at h3;exact zgb h3 rfl
   ·rcases List.mem_append.1 hx with hx|hx
    ·exact h.put x hx y (by simp[hy]) hw
    ·obtain rfl:=List.mem_singleton.1 hx
     rw[ze0];exact (hr'.1 y hy).2 h1 hw
theorem zio(c:Tree):∀(es:List Entry) (u:Upper),UpInv u es→es.Pairwise RE→es.foldl (upI c) u=es.foldl (upS c) u∧UpInv (es.foldl (upS c) u) []
 | [],u,h,_=>⟨rfl,h⟩
 |e::es,u,h,hr=>by
  rw[List.foldl_cons,List.foldl_cons,zsE h];exact zio c es _ (zsF h hr) (List.pairwise_cons.1 hr).2
theorem zlC(es:List Entry):UpInv ⟨[],[]⟩ es:=⟨List.Pairwise.nil,List.Pairwise.nil,fun x hx=>absurd hx (by simp),fun x hx=>absurd hx (by simp)⟩
theorem upOf_I{a b:Tree}(ha:za1 0 a=true)(hb:za1 0 b=true):(wk 5 [] a b).foldl (upI b) ⟨[],[]⟩=upOf a b:=(zio b _ _ (zlC _) (zeZ 5 [] a b 0 ha hb).2).1
theorem zrf{a b:Tree}(ha:za1 0 a=true)(hb:za1 0 b=true):UpInv (upOf a b) []:=(zio b _ _ (zlC _) (zeZ 5 [] a b 0 ha hb).2).2
theorem ziq(c:Tree):∀(es:List Entry) (u:Upper) (x:Entry),x∈(es.foldl (upS c) u).puts→x∈u.puts∨∃e∈es,e.what≠1∧x=putE c e.path
 | [],u,x,h=> .inl h
 |e::es,u,x,h=>by
  rw[List.foldl_cons]at h;rcases ziq c es _ x h with h|⟨e',h1,h2⟩
  ·unfold upS at h
   split at h
   ·exact .inl h
   ·rename_i hw
    split at h
    ·exact .inl h
    ·rcases List.mem_append.1 h with h|h
     ·exact .inl h
     ·exact .inr ⟨e,by simp,hw,List.mem_singleton.1 h⟩
  ·exact .inr ⟨e',by simp[h1],h2⟩
theorem zir(c:Tree)(g:List Str):∀(es:List Entry) (u:Upper),g∈(es.foldl (upS c) u).gone↔g∈u.gone∨∃e∈es,e.what=1∧e.path=g
 | [],u=>by simp
 |e::es,u=>by
  rw[List.foldl_cons,zir c g es];unfold upS;constructor
  ·rintro (h|⟨e',h1,h2⟩)
   ·split at h
    ·rename_i hw
     rcases List.mem_append.1 h with h|h
     ·exact .inl h
     ·exact .inr ⟨e,by simp,hw,(List.mem_singleton.1 h).symm⟩
    ·split at h<;>exact .inl h
   ·exact .inr ⟨e',by simp[h1],h2⟩
  ·rintro (h|⟨e',h1,h2,h3⟩)
   ·left
    split
    ·exact List.mem_append.2 (.inl h)
    ·split<;>exact h
   ·rcases List.mem_cons.1 h1 with rfl|h1
    ·left
     rw[if_pos h2];exact List.mem_append.2 (.inr (by simp[h3]))
    ·exact .inr ⟨e',h1,h2,h3⟩
theorem zkg{α:Type}[DecidableEq α]:∀l m:List α,l.Nodup→(∀x∈l,x∈m)→l.length≤m.length
 | [],m,_,_=>Nat.zero_le _
 |x::l,m,hn,h=>by
  have hn':=List.nodup_cons.1 hn;have hx:=h x (by simp)
  have:=zkg l (m.erase x) hn'.2 fun y hy=>(List.mem_erase_of_ne fun (e:y=x)=>hn'.1 (by rw[←e];exact hy)).2 (h y (by simp[hy]))
  rw[List.length_erase_of_mem hx]at this;have:0<m.length:=List.length_pos_of_mem hx;simp only[List.length_cons];omega
theorem zgc(t:Tree)(d:Int)(h:za1 d t=true)(p:List Str):((sub p t).map (·.1)).length=1+cnt t:=by rw[List.length_map,zfA t d p h]
theorem zrg{a b:Tree}(ha:treeB a=true)(hb:treeB b=true):(upOf a b).puts.length≤31∧(upOf a b).gone.length≤30:=by
 have pa:=zbA ha;have pb:=zbA hb;have hi:=zrf pa pb;have hs:=(zeZ 5 [] a b 0 pa pb).1;have ca:=zeu ha;have cb:=zeu hb;constructor
 ·have h1:=zkg ((upOf a b).puts.map (·.path)) ((sub [] b).map (·.1)) (by
   rw[List.nodup_iff_pairwise_ne,List.pairwise_map]
   exact hi.asc.imp fun h=>zgb h) fun p hp=>by
    obtain ⟨x,hx,rfl⟩:=List.mem_map.1 hp;rcases ziq b _ _ x hx with h|⟨e,he,hw,rfl⟩
    ·simp at h
    ·obtain ⟨q,h1,_,h2⟩:=hs e he
     have h3:=h2 hw;simp only[Option.bind_some]at h3;obtain ⟨y,hy⟩:=Option.isSome_iff_exists.1 h3;rw[ze0,h1];exact List.mem_map.2 ⟨_,zrC b [] q y hy,rfl⟩
  rw[zgc b 0 pb,List.length_map]at h1;omega
 ·have h1:=zkg ((upOf a b).gone) (((sub [] a).tail).map (·.1)) (by
   rw[List.nodup_iff_pairwise_ne]
   exact hi.gasc.imp fun h=>zgb h) fun p hp=>by
    rcases (zir b p _ _).1 hp with h|⟨e,he,hw,rfl⟩
    ·simp at h
    ·obtain ⟨q,h1,h2,_⟩:=hs e he
     have h3:=h2 hw;simp only[Option.bind_some]at h3;obtain ⟨y,hy⟩:=Option.isSome_iff_exists.1 h3;have h4:=zrC a [] q y hy
     have hq:q≠[]:=fun hq=>by
      have hdir:a.dir=b.dir:=by rw[zh8 ha,zh8 hb]
      rw[show (5:Nat)=4+1 from rfl,zin,if_pos hdir]at he
      rcases List.mem_append.1 he with he|he
      ·exact (zev he).2 hw
      ·obtain ⟨n,hn,he⟩:=List.mem_flatMap.1 he
       have:=ws_O (wk 4) ([]++[n]) (look a.names a.kids n) (look b.names b.kids n) 1 (fun k hk=>zaZ pb (zdi hk).2) fun k l hk hl=>by
        rw[hk,hl];exact zeZ 4 _ k l 1 (zaZ pa (zdi hk).2) (zaZ pb (zdi hl).2)
       obtain ⟨r,h5,_⟩:=this.1 e he;rw[h1,hq]at h5;simp at h5
     rw[h1];rw[zcz,List.mem_cons]at h4;rcases h4 with h4|h4
     ·exact absurd (congrArg Prod.fst h4) (by simpa using hq)
     ·rw[zcz,List.tail_cons]
      exact List.mem_map.2 ⟨_,h4,rfl⟩
  have h2:=zgc a 0 pa [];rw[zcz]at h1 h2;simp only[List.tail_cons,List.map_cons,List.length_cons,List.length_map]at h1 h2;omega
end Go.PVx
namespace Go.PVx
open Go.PV
def headD(h:Option (Bool×Int×Str)):Bool×Int×Str:=h.getD (false,0,[])
noncomputable instance:DecidableEq Upper:=fun _ _=>Classical.propDecidable _
end Go.PVx
namespace Go.PVx
open Go.PV Go.Proofs
def eEX(x:List Str×Tree):List D:=eE (entX x)
theorem zqb(x:List Str×Tree):(eEX x).length=5:=rfl
theorem zrh(x:List Str×Tree):(eEX x).all (cellD true)=true:=rfl
theorem zrD(p:List Str)(t:Tree):eEX (p,t)=[.s (eSs p), .v (.int .i64 2), .v (.bool t.dir), .v (.int .i64 t.mode), .v (.string (mkS t.data))]:=rfl
theorem ze1(p:List Str)(t:Tree):(zco p t).map eE=(sub p t).map eEX:=by
 unfold zco;rw[List.map_map];rfl
theorem subZ_drop'(p:List Str){ns:List Str}{ks:List Tree}{k:Nat}(h1:k<ns.length)(h2:k<ks.length):
 subZ p (ns.drop k) (ks.drop k)=sub (p++[ns[k]]) ks[k]++subZ p (ns.drop (k+1)) (ks.drop (k+1)):=by
 rw[zaF ns k h1,zaF ks k h2,subZ]
theorem subZ_nil'(p:List Str)(ks:List Tree):subZ p [] ks=[]:=by cases ks<;>rfl
theorem zis(t:Tree):∀(p:List Str) (d:Int),za1 d t=true→wP p+wT t≤1048576→zbF [vP p,vT t] []=rO ((sub p t).map eEX):=by
 induction t using Tree.ind with
 |h a b c ns ks ih=>
  intro p d hp hw;have hn:=zbm hp;have hk:=fun k (h:k∈ks)=>zaZ hp (k:=k) h
  have hlen:=zfA _ d p hp;have hcc:=zdl ⟨a,b,c,ns,ks⟩;rw[zcz]at hlen⊢;have hw':=hw;rw[wT_eq]at hw';simp only[List.length_cons]at hn hw' hlen⊢;have hpl:=zbG p;have hnl:=zbG ns;have r1:zak 1 (eSs p)=true:=Sx.rowsLen_map 1 eS (fun _=>rfl) _
  have r2:zap false (eSs p)=true:=Sx.rowsCell_map false eS (fun _=>rfl) _
  have r3:∀l:List (List Str×Tree),zak 5 (l.map eEX)=true:=Sx.rowsLen_map 5 eEX zqb;have r4:∀l:List (List Str×Tree),zap true (l.map eEX)=true:=Sx.rowsCell_map true eEX zrh
  have hl:∀k,k≤ns.length→∀acc:List (List Str×Tree),acc.length+(subZ p (ns.drop k) (ks.drop k)).length≤1048577→
   (zbF.L3 (eSs p) (k:Int) a b (mkS c) (eSs ns) (ks.map eT) (acc.map eEX)).bind zbF.A3=rO ((acc++subZ p (ns.drop k) (ks.drop k)).map eEX):=by
   refine up ns.length ?_ fun k hk1 ihk acc hacc=> ?_
   ·intro acc _
    rw[zbF.s3,List.drop_length,subZ_nil',List.append_nil];simp (disch:=omega) only[pvS,pvT,pvC,pvL,pvR,pvN,zbF.a3x3]
   ·have hk2:k<ks.length:=by omega
    rw[subZ_drop' p hk1 hk2]at hacc⊢;simp only[List.length_append]at hacc;have hwk:=wL_at wT hk2;have hwn:=wP_at hk1;have hwp:=zdh p ns[k];have h2:=zet p ns[k] (by omega)
    have h3:=ih ks[k] (List.getElem_mem hk2) (p++[ns[k]]) (d+1) (hk _ (List.getElem_mem hk2)) (by omega)
    have h4:=ihk (acc++sub (p++[ns[k]]) ks[k]) (by simp only[List.length_append];omega)
    rw[List.append_assoc,List.map_append]at h4;have r3':=r3 acc;have r5:=r3 (sub (p++[ns[k]]) ks[k]);have r6:=r4 (sub (p++[ns[k]]) ks[k]);rw[zbF.s3,←h4];generalize sub (p++[ns[k]]) ks[k]=Z at*;simp (disch:=omega) only[pvS,pvT,pvC,pvL,pvR,pvN,h2,h3,r3',r5,r6,List.length_map]
  have h0:=hl 0 (by omega) [(p,⟨a,b,c,ns,ks⟩)] (by simp only[List.drop_zero,List.length_cons,List.length_nil];omega)
  simp only[List.drop_zero,List.map_cons,List.map_nil,zrD]at h0;rw[zbF.e];simp (disch:=omega) only[pvS,pvC,pvL,pvR,pvN,pvO,r1,r2];exact h0
abbrev oBe(es:List (List D)):PV.Obj:=⟨.box,[.s es],[.deep]⟩
theorem zmA(p:List Str)(t:Tree)(acc:List (List Str×Tree))(hw:wP p+wT t≤1048576)(ha:acc.length≤1048577):
 zbQ [vP p,vT t, .one (.p true 0 [] 0)] [oBe (acc.map eEX)]=some ⟨[],[oBe ((acc++[(p,t)]).map eEX)]⟩:=by
 have hpl:=zbG p;have r1:zak 1 (eSs p)=true:=Sx.rowsLen_map 1 eS (fun _=>rfl) _
 have r2:zap false (eSs p)=true:=Sx.rowsCell_map false eS (fun _=>rfl) _
 have r3:zak 5 (acc.map eEX)=true:=Sx.rowsLen_map 5 eEX zqb _;rw[zbQ.e,List.map_append,List.map_cons,List.map_nil,zrD];simp (disch:=omega) only[pvS,pvC,pvL,pvR,pvN,pvO,r1,r2,r3,List.length_map]
theorem zfD(t:Tree):∀(p:List Str) (d:Int) (acc:List (List Str×Tree)),za1 d t=true→wP p+wT t≤1048576→acc.length+(sub p t).length≤1048577→
 zaU [vT t,vP p, .f zbQ.id [.p true 0 [] 0]] [oBe (acc.map eEX)]=some ⟨[],[oBe ((acc++sub p t).map eEX)]⟩:=by
 induction t using Tree.ind with
 |h a b c ns ks ih=>
  intro p d acc hp hw hacc;have hn:=zbm hp;have hk:=fun k (h:k∈ks)=>zaZ hp (k:=k) h
  have h1:=zmA p ⟨a,b,c,ns,ks⟩ acc hw (by omega)
  rw[zcz]at hacc⊢;rw[wT_eq]at hw;simp only[List.length_cons]at hn hw hacc⊢;have hpl:=zbG p;have hnl:=zbG ns
  have hl:∀k,k≤ns.length→∀acc:List (List Str×Tree),acc.length+(subZ p (ns.drop k) (ks.drop k)).length≤1048577→
   (iTree_each_fresh.L3 (eSs p) (eSs ns) ns.length (k:Int) (acc.map eEX) a b (mkS c) (eSs ns) (ks.map eT)).bind iTree_each_fresh.A3=some ⟨[],[oBe ((acc++subZ p (ns.drop k) (ks.drop k)).map eEX)]⟩:=by
   refine up ns.length ?_ fun k hk1 ihk acc hacc=> ?_
   ·intro acc _
    rw[iTree_each_fresh.s3,List.drop_length,subZ_nil',List.append_nil];simp (disch:=omega) only[pvS,pvT,pvC,pvL,pvR,pvN,iTree_each_fresh.a3x3]
   ·have hk2:k<ks.length:=by omega
    rw[subZ_drop' p hk1 hk2]at hacc⊢;simp only[List.length_append]at hacc;have hwk:=wL_at wT hk2;have hwn:=wP_at hk1;have hwp:=zdh p ns[k];have h2:=zf0 p ns[k] (by omega)
    have h3:=ih ks[k] (List.getElem_mem hk2) (p++[ns[k]]) (d+1) acc (hk _ (List.getElem_mem hk2)) (by omega) (by omega)
    have h4:=ihk (acc++sub (p++[ns[k]]) ks[k]) (by simp only[List.length_append];omega)
    rw[List.append_assoc]at h4;rw[iTree_each_fresh.s3,←h4];generalize acc++sub (p++[ns[k]]) ks[k]=Z at*;generalize acc.map eEX=Y at*;generalize Z.map eEX=Z' at*;simp (disch:=omega) only[pvS,pvT,pvC,pvL,pvR,pvN,pvO,h2,h3]
  have h0:=hl 0 (by omega) (acc++[(p,⟨a,b,c,ns,ks⟩)]) (by simp only[List.drop_zero,List.length_append,List.length_cons,List.length_nil];omega)
  simp only[List.drop_zero]at h0;rw[List.append_assoc,List.singleton_append]at h0;rw[iTree_each_fresh.e,←h0];generalize (acc++[(p,(⟨a,b,c,ns,ks⟩:Tree))]).map eEX=Z' at*;generalize acc.map eEX=Y at*;simp (disch:=omega) only[pvS,pvC,pvL,pvR,pvN,pvO,h1]
theorem zlD(p:List Str)(t:Tree)(d:Int)(hp:za1 d t=true)(hw:wP p+wT t≤1048576):zer [vP p,vT t] []=rO ((sub p t).map eEX):=by
 have hlen:=zfA t d p hp;have hc:=zdl t;have h1:=zfD t p d [] hp hw (by simp only[List.length_nil];omega)
 rw[List.nil_append]at h1;have h1':zaU [vT t,vP p, .f zbQ.id [.p true 0 [] 0]] [oBe []]=_:=h1;rw[zer.e];generalize (sub p t).map eEX=Z at*;simp (disch:=omega) only[pvS,pvC,pvL,pvR,pvN,pvO,h1']
theorem ze2(p:List Str):zak 1 (eSs p)=true:=Sx.rowsLen_map 1 eS (fun _=>rfl) _
theorem ze3(p:List Str):zap false (eSs p)=true:=Sx.rowsCell_map false eS (fun _=>rfl) _
theorem zdH(l:List Entry):zak 5 (l.map eE)=true:=Sx.rowsLen_map 5 eE (fun _=>rfl) _
theorem zfE(l:List Entry):zap true (l.map eE)=true:=Sx.rowsCell_map true eE (fun _=>rfl) _
theorem zjl(p:List Str)(a b:Tree):(partE p a b).map eE=(if a.mode=b.mode then []else [[.s (eSs p), .v (.int .i64 3), .v (.bool false), .v (.int .i64 b.mode), .v (.string (mkS []))]])++
 (if a.data=b.data then []else [[.s (eSs p), .v (.int .i64 4), .v (.bool false), .v (.int .i64 0), .v (.string (mkS b.data))]]):=by
 unfold partE;rw[List.map_append];congr 1<;>(split<;>rfl)
theorem zob(p:List Str)(a b:Tree)(hp:p.length≤1048576):zb5 [vP p,vT a,vT b] []=rO ((partE p a b).map eE):=by
 have r1:=ze2 p;have r2:=ze3 p;rw[zb5.e,zjl];by_cases hm:a.mode=b.mode
 ·have b1:(a.mode !=b.mode)=false:=by simp[hm]
  rw[if_pos hm];by_cases hd:a.data=b.data
  ·have b2:(!a.data==b.data)=false:=by simp[hd]
   rw[if_pos hd];simp (disch:=omega) only[pvS,pvC,pvL,pvR,pvN,b1,zb5.p4,b2]
  ·have b2:(!a.data==b.data)=true:=by simp[hd]
   rw[if_neg hd];simp (disch:=omega) only[pvS,pvC,pvL,pvR,pvN,b1,zb5.p4,b2,r1,r2,List.length_map]
 ·have b1:(a.mode !=b.mode)=true:=by simp[hm]
  rw[if_neg hm];by_cases hd:a.data=b.data
  ·have b2:(!a.data==b.data)=false:=by simp[hd]
   rw[if_pos hd];simp (disch:=omega) only[pvS,pvC,pvL,pvR,pvN,b1,zb5.p4,b2,r1,r2,List.length_map]
  ·have b2:(!a.data==b.data)=true:=by simp[hd]
   rw[if_neg hd];simp (disch:=omega) only[pvS,pvC,pvL,pvR,pvN,b1,zb5.p4,b2,r1,r2,List.length_map]
theorem zmB(p:List Str)(a b:Tree)(hp:p.length≤1048576):zbK [vP p,vT a,vT b] []=rO ((partE p a b).map eE):=by
 have r1:=ze2 p;have r2:=ze3 p;rw[zbK.e,zjl];by_cases hm:a.mode=b.mode
 ·have b1:(a.mode !=b.mode)=false:=by simp[hm]
  rw[if_pos hm];by_cases hd:a.data=b.data
  ·have b2:(!a.data==b.data)=false:=by simp[hd]
   rw[if_pos hd];simp (disch:=omega) only[pvS,pvC,pvL,pvR,pvN,b1,zbK.p4,b2]
  ·have b2:(!a.data==b.data)=true:=by simp[hd]
   rw[if_neg hd];simp (disch:=omega) only[pvS,pvC,pvL,pvR,pvN,b1,zbK.p4,b2,r1,r2,List.length_map]
 ·have b1:(a.mode !=b.mode)=true:=by simp[hm]
  rw[if_neg hm];by_cases hd:a.data=b.data
  ·have b2:(!a.data==b.data)=false:=by simp[hd]
   rw[if_pos hd];simp (disch:=omega) only[pvS,pvC,pvL,pvR,pvN,b1,zbK.p4,b2,r1,r2,List.length_map]
  ·have b2:(!a.data==b.data)=true:=by simp[hd]
   rw[if_neg hd];simp (disch:=omega) only[pvS,pvC,pvL,pvR,pvN,b1,zbK.p4,b2,r1,r2,List.length_map]
abbrev rE(e:Entry):Option Res:=some ⟨[.o .deep (eSs e.path), .v (.int .i64 e.what), .v (.bool e.dir), .v (.int .i64 e.mode), .v (.string (mkS e.data))],[]⟩
theorem znr(p:List Str)(hp:p.length≤1048576):igone [vP p] []=rE (goneE p):=by
 have r1:=ze2 p;have r2:=ze3 p;rw[igone.e];simp (disch:=omega) only[pvS,pvC,pvL,pvR,pvN,r1,r2,List.length_map]
theorem zjm(p:List Str)(hp:p.length≤1048576):zdt [vP p] []=rO ([goneE p].map eE):=by
 have r1:=ze2 p;have r2:=ze3 p;rw[zdt.e];simp (disch:=omega) only[pvS,pvC,pvL,pvR,pvN,r1,r2,List.length_map,List.map_cons,List.map_nil]
theorem zmC(l:List Str)(h:l.length≤2097152):zfY [.one (.r 0 [] 0)] [⟨.virt,[.s (eSs l)],[.deep]⟩]=some ⟨[],[⟨.virt,[.s (eSs (sortN l))],[.deep]⟩]⟩:=by
 have:(decide ((eSs l).length≤2^30)&&(eSs l).all isStr)=true:=by
  rw[zlA,Bool.and_true,decide_eq_true_iff,List.length_map];omega
 show (bif decide ((eSs l).length≤2^30)&&(eSs l).all isStr then some (⟨[],[⟨.virt,[.s (zcK (eSs l))],[.deep]⟩]⟩:Res)else none)=_;rw[this,cond_true,zmy]
theorem ziH(l:List Str)(h:l.length≤2097152):zdU [.one (.r 0 [] 0)] [⟨.virt,[.s (eSs l)],[.deep]⟩]=some ⟨[.o .deep (eSs (uniqN l))],[⟨.virt,[.h],[.deep]⟩]⟩:=by
 have:(decide ((eSs l).length≤2^30)&&(eSs l).all isStr)=true:=by
  rw[zlA,Bool.and_true,decide_eq_true_iff,List.length_map];omega
 show (bif decide ((eSs l).length≤2^30)&&(eSs l).all isStr then some (⟨[.o .deep (zcE (eSs l))],[⟨.virt,[.h],[.deep]⟩]⟩:Res)else none)=_;rw[this,cond_true,ziG]
theorem zri(l:List Str):uniqN (sortN l)=setN l:=rfl
theorem zoc(a b:Tree)(ha:a.names.length≤1048576)(hb:b.names.length≤1048576):zdX [.one (.p true 0 [] 0), .one (.p true 1 [] 0)] [oR a,oR b]=
 some ⟨[.o .deep (eSs (setN (a.names++b.names)))],[oR a,oR b]⟩:=by
 have r1:=ze2 a.names;have r2:=ze3 a.names;have r3:=ze2 b.names;have r4:=ze3 b.names;have h1:=zmC (a.names++b.names) (by rw[List.length_append];omega)
 have h2:=ziH (sortN (a.names++b.names)) (by rw[zlt,List.length_append];omega)
 rw[←zbz.ext]at h1;rw[←zbu.ext,zri]at h2;have e0:eSs a.names++eSs b.names=eSs (a.names++b.names):=List.map_append.symm;rw[zdX.e];simp (disch:=omega) only[pvS,pvC,pvL,pvR,pvN,pvO,r1,r2,r3,r4,e0,h1,h2,List.length_map]
end Go.PVx
namespace Go.PVx
open Go.PV Go.Proofs
theorem zgd(t:Tree):∀d,za1 d t=true→OkT t:=by
 induction t using Tree.ind with
 |h dd m s ns ks ih=>
  intro d h;exact ⟨_,zcO h,zbm h,fun k hk=>ih k hk (d+1) (zaZ h hk)⟩
theorem zfg{l:List Str}(h:Asc l){i:Nat}(hi:i<l.length):∀x∈l.drop (i+1),Op.bytesLess l[i] x=true:=by
 have h2:Asc (l.drop i):=List.Pairwise.sublist (List.drop_sublist i l) h;rw[zaF l i hi]at h2;exact (List.pairwise_cons.1 h2).1
theorem zlE{l:List Str}(h:Asc l){i:Nat}(hi:i<l.length){n:Str}(hn:Op.bytesLess n l[i]=true):∀x∈l.drop i,Op.bytesLess n x=true:=by
 intro x hx;rw[zaF l i hi]at hx;rcases List.mem_cons.1 hx with rfl|hx
 ·exact hn
 ·exact zcN _ _ _ hn (zfg h hi x hx)
theorem zew(p:List Str)(t:Tree)(d:Int)(h:za1 d t=true):(zco p t).length=1+cnt t:=by
 unfold zco;rw[List.length_map,zfA t d p h]
theorem zgF(g:List Str→Tree→Tree→List Entry)(p:List Str)(d:Int):∀(m:Nat) (ns:List Str) (ks:List Tree) (ms:List Str) (ls:List Tree),ns.length+ms.length≤m→Asc ns→Asc ms→ns.length=ks.length→ms.length=ls.length→
 (∀l∈ls,za1 d l=true)→(∀k∈ks,∀l∈ls,∀q,(g q k l).length≤(1+cnt k)+2*(1+cnt l))→(wkZ g p ns ks ms ls).length≤wL cnt ks+2*wL cnt ls
 |_,[],[],[],[],_,_,_,_,_,_,_=>by rw[zmz];simp
 |_,[],_::_,_,_,_,_,_,h,_,_,_=>by simp at h
 |_,_::_,[],_,_,_,_,_,h,_,_,_=>by simp at h
 |_,_,_,[],_::_,_,_,_,_,h,_,_=>by simp at h
 |_,_,_,_::_,[],_,_,_,_,h,_,_=>by simp at h
 |0,n::ns,_,_,_,h,_,_,_,_,_,_=>by simp at h
 |0,[],_,n::ms,_,h,_,_,_,_,_,_=>by simp at h
 |m+1,n::ns,k::ks,[],[],hm,ha,hb,h1,h2,hl,hg=>by
  rw[zkf g p [] (List.pairwise_cons.1 ha).1 (fun x hx=>by simp at hx)]
  have:=zgF g p d m ns ks [] [] (by simp only[List.length_cons,List.length_nil]at hm⊢;omega) (List.pairwise_cons.1 ha).2 hb (by simpa using h1) rfl hl (fun a ha' b hb'=>by simp at hb')
  simp only[List.length_cons,wL]at this⊢;omega
 |m+1,[],[],n::ms,l::ls,hm,ha,hb,h1,h2,hl,hg=>by
  rw[zga g p [] (List.pairwise_cons.1 hb).1 (fun x hx=>by simp at hx)]
  have:=zgF g p d m [] [] ms ls (by simp only[List.length_cons,List.length_nil]at hm⊢;omega) ha (List.pairwise_cons.1 hb).2 rfl (by simpa using h2) (fun x hx=>hl x (by simp[hx])) (fun a ha'=>by simp at ha')
  rw[List.length_append,zew _ l d (hl l (by simp))]
  simp only[wL]at this⊢;omega
 |m+1,n::ns,k::ks,o::ms,l::ls,hm,ha,hb,h1,h2,hl,hg=>by
  have pa:=List.pairwise_cons.1 ha;have pb:=List.pairwise_cons.1 hb;simp only[List.length_cons]at hm h1 h2;cases hlt:Op.bytesLess n o with
  |true=>
   rw[zkf g p _ pa.1 (fun x hx=>by rcases List.mem_cons.1 hx with rfl|hx;exact hlt;exact zcN _ _ _ hlt (pb.1 x hx))]
   have:=zgF g p d m ns ks (o::ms) (l::ls) (by simp only[List.length_cons];omega) pa.2 hb (by omega) (by simp only[List.length_cons];omega) hl (fun a ha'=>hg a (by simp[ha']))
   simp only[List.length_cons,wL]at this⊢;omega
  |false=>
   cases hgt:Op.bytesLess o n with
   |true=>
    rw[zga g p _ pb.1 (fun x hx=>by rcases List.mem_cons.1 hx with rfl|hx;exact hgt;exact zcN _ _ _ hgt (pa.1 x hx))]
    have:=zgF g p d m (n::ns) (k::ks) ms ls (by simp only[List.length_cons];omega) ha pb.2 (by simp only[List.length_cons];omega) (by omega) (fun x hx=>hl x (by simp[hx])) (fun a ha' b hb'=>hg a ha' b (by simp[hb']))
    rw[List.length_append,zew _ l d (hl l (by simp))]
    simp only[wL]at this⊢;omega
   |false=>
    have e:n=o:=Classical.byContradiction fun hne=>by rw[zeG _ _ hlt hne]at hgt;simp at hgt
    subst e;rw[znp g p pa.1 pb.1];have:=zgF g p d m ns ks ms ls (by omega) pa.2 pb.2 (by omega) (by omega) (fun x hx=>hl x (by simp[hx])) (fun a ha' b hb'=>hg a (by simp[ha']) b (by simp[hb']))
    have h5:=hg k (by simp) l (by simp) (p++[n])
    rw[List.length_append];simp only[wL]at this⊢;omega
theorem zqc(p:List Str)(a b:Tree):(partE p a b).length≤2:=by
 unfold partE;split<;>split<;>simp
theorem zjn:∀(f:Nat) (p:List Str) (a b:Tree) (d:Int),za1 d a=true→za1 d b=true→(wk f p a b).length≤(1+cnt a)+2*(1+cnt b)
 |0,p,a,b,d,_,_=>by simp[wk]
 |f+1,p,a,b,d,ha,hb=>by
  rw[zin];split
  ·have h1:=zgF (wk f) p (d+1) _ a.names a.kids b.names b.kids (Nat.le_refl _) (zcO ha) (zcO hb) (zbm ha) (zbm hb) (fun l hl=>zaZ hb hl)
    (fun k hk l hl q=>zjn f q k l (d+1) (zaZ ha hk) (zaZ hb hl))
   have h2:=zqc p a b;rw[List.length_append,zgT a,zgT b];omega
  ·rw[List.length_cons,zew p b d hb]
   omega
theorem zar.l6(f:Nat)(p:List Str)(a b:Tree)(d:Int)(ha:za1 d a=true)(hb:za1 d b=true)(hw:wP p+wT a+wT b≤1048576)
 (IH:∀n k l,k∈a.kids→l∈b.kids→n∈a.names→zar [vP (p++[n]),vT k,vT l] []=rO ((wk f (p++[n]) k l).map eE)):
 ∀m i k,(a.names.length-i)+(b.names.length-k)≤m→i≤a.names.length→k≤b.names.length→∀acc:List Entry,
 acc.length+(wkZ (wk f) p (a.names.drop i) (a.kids.drop i) (b.names.drop k) (b.kids.drop k)).length≤10000000→
 (zar.L6 (eSs p) (i:Int) (k:Int) a.dir a.mode (mkS a.data) (eSs a.names) (a.kids.map eT) b.dir b.mode (mkS b.data) (eSs b.names) (b.kids.map eT) (acc.map eE)).bind zar.A6=
 rO ((acc++wkZ (wk f) p (a.names.drop i) (a.kids.drop i) (b.names.drop k) (b.kids.drop k)).map eE):=by
 have pa:=zcO ha;have pb:=zcO hb;have la:=zbm ha;have lb:=zbm hb;have wa:=wT_eq a;have wb:=wT_eq b;have na:=zbG a.names;have nb:=zbG b.names;have hpl:=zbG p;intro m
 induction m with
 |zero=>
  intro i k hm hi hk acc hacc;have e1:i=a.names.length:=by omega
  have e2:k=b.names.length:=by omega
  subst e1 e2;rw[List.drop_length,List.drop_length,zmz,List.append_nil,zar.s6];simp (disch:=omega) only[pvS,pvL,pvN,List.length_map,zar.a6x6]
 |succ m ih=>
  intro i k hm hi hk acc hacc;have r3:=zdH acc;by_cases hia:i<a.names.length
  ·have hia2:i<a.kids.length:=by omega
   have hwn:=wP_at hia;have hwk:=wL_at wT hia2;have hwp:=zdh p a.names[i];have h2:=zet p a.names[i] (by omega)
   have h3:=zjm (p++[a.names[i]]) (by rw[List.length_append];simp only[List.length_cons,List.length_nil];omega)
   have gone:(∀x∈b.names.drop k,Op.bytesLess a.names[i] x=true)→
    (zar.P11 (eSs p) (i:Int) (k:Int) true a.dir a.mode (mkS a.data) (eSs a.names) (a.kids.map eT) b.dir b.mode (mkS b.data) (eSs b.names) (b.kids.map eT) (acc.map eE)).bind zar.A6=
    rO ((acc++wkZ (wk f) p (a.names.drop i) (a.kids.drop i) (b.names.drop k) (b.kids.drop k)).map eE):=fun hlt=>by
    rw[zaF a.names i hia,zaF a.kids i hia2,zkf (wk f) p _ (zfg pa hia) hlt]at hacc⊢;have h4:=ih (i+1) k (by omega) (by omega) hk (acc++[goneE (p++[a.names[i]])]) (by simp only[List.length_append,List.length_cons,List.length_nil]at hacc⊢;omega)
    rw[List.append_assoc,List.singleton_append,List.map_append]at h4;have r5:=zdH [goneE (p++[a.names[i]])];have r6:=zfE [goneE (p++[a.names[i]])];rw[←h4,zar.p11];simp only[List.length_cons]at hacc;have hZl: [goneE (p++[a.names[i]])].length=1:=rfl;generalize [goneE (p++[a.names[i]])]=Z at h3 hZl r5 r6⊢;simp (disch:=omega) only[pvS,pvT,pvC,pvL,pvR,pvN,h2,h3,r3,r5,r6,List.length_map]
   by_cases hkb:k<b.names.length
   ·have hkb2:k<b.kids.length:=by omega
    have hwn2:=wP_at hkb;have hwk2:=wL_at wT hkb2;cases hlt:Op.bytesLess a.names[i] b.names[k]with
    |true=>
     have:=gone (zlE pb hkb hlt);rw[←this,zar.s6,zar.p10];simp (disch:=omega) only[pvS,pvT,pvC,pvL,pvR,pvN,hlt]
    |false=>
     cases hgt:Op.bytesLess b.names[k] a.names[i]with
     |true=>
      have hwp2:=zdh p b.names[k];have h5:=zet p b.names[k] (by omega)
      have h6:=zis b.kids[k] (p++[b.names[k]]) (d+1) (zaZ hb (List.getElem_mem hkb2)) (by omega)
      rw[←ze1]at h6;have hfl:=zew (p++[b.names[k]]) b.kids[k] (d+1) (zaZ hb (List.getElem_mem hkb2));rw[zaF b.names k hkb,zaF b.kids k hkb2,zga (wk f) p _ (zfg pb hkb) (zlE pa hia hgt)]at hacc⊢;simp only[List.length_append]at hacc;have h4:=ih i (k+1) (by omega) (by omega) (by omega) (acc++zco (p++[b.names[k]]) b.kids[k]) (by simp only[List.length_append];omega)
      rw[List.append_assoc,List.map_append]at h4;have r5:=zdH (zco (p++[b.names[k]]) b.kids[k]);have r6:=zfE (zco (p++[b.names[k]]) b.kids[k]);rw[←h4,zar.s6,zar.p10];generalize zco (p++[b.names[k]]) b.kids[k]=Z at*;simp (disch:=omega) only[pvS,pvT,pvC,pvL,pvR,pvN,hlt,hgt,zar.p11,zar.p14,h5,h6,r3,r5,r6,List.length_map]
     |false=>
      have e:a.names[i]=b.names[k]:=Classical.byContradiction fun hne=>by rw[zeG _ _ hlt hne]at hgt;simp at hgt
      have h6:=IH a.names[i] a.kids[i] b.kids[k] (List.getElem_mem hia2) (List.getElem_mem hkb2) (List.getElem_mem hia);have hfl:=zjn f (p++[a.names[i]]) a.kids[i] b.kids[k] (d+1) (zaZ ha (List.getElem_mem hia2)) (zaZ hb (List.getElem_mem hkb2));have hirr:=zjV a.names[i];have pb1:=zfg pb hkb;rw[zaF b.names k hkb,zaF b.kids k hkb2,zaF a.names i hia,zaF a.kids i hia2]at hacc⊢;rw[←e]at hacc hlt hgt pb1⊢;rw[znp (wk f) p (zfg pa hia) pb1]at hacc⊢;simp only[List.length_append]at hacc;have h4:=ih (i+1) (k+1) (by omega) (by omega) (by omega) (acc++wk f (p++[a.names[i]]) a.kids[i] b.kids[k]) (by simp only[List.length_append];omega)
      rw[List.append_assoc,List.map_append]at h4;have r5:=zdH (wk f (p++[a.names[i]]) a.kids[i] b.kids[k]);have r6:=zfE (wk f (p++[a.names[i]]) a.kids[i] b.kids[k]);rw[←h4,zar.s6,zar.p10];generalize wk f (p++[a.names[i]]) a.kids[i] b.kids[k]=Z at*;simp (disch:=omega) only[pvS,pvT,pvC,pvL,pvR,pvN,←e,hirr,zar.p11,zar.p14,h2,h6,r3,r5,r6,List.length_map]
   ·have e2:k=b.names.length:=by omega
    have:=gone (by rw[e2,List.drop_length];intro x hx;simp at hx)
    rw[←this,zar.s6,zar.p10];simp (disch:=omega) only[pvS,pvT,pvC,pvL,pvR,pvN,List.length_map]
  ·have e1:i=a.names.length:=by omega
   have hkb:k<b.names.length∨k=b.names.length:=by omega
   rcases hkb with hkb|e2
   ·have hkb2:k<b.kids.length:=by omega
    have hwn2:=wP_at hkb;have hwk2:=wL_at wT hkb2;have hwp2:=zdh p b.names[k];have h5:=zet p b.names[k] (by omega)
    have h6:=zis b.kids[k] (p++[b.names[k]]) (d+1) (zaZ hb (List.getElem_mem hkb2)) (by omega)
    rw[←ze1]at h6;have hfl:=zew (p++[b.names[k]]) b.kids[k] (d+1) (zaZ hb (List.getElem_mem hkb2));rw[zaF b.names k hkb,zaF b.kids k hkb2,zga (wk f) p _ (zfg pb hkb) (by rw[e1,List.drop_length];intro x hx;simp at hx)]at hacc⊢
    simp only[List.length_append]at hacc;have h4:=ih i (k+1) (by omega) (by omega) (by omega) (acc++zco (p++[b.names[k]]) b.kids[k]) (by simp only[List.length_append];omega)
    rw[List.append_assoc,List.map_append]at h4;have r5:=zdH (zco (p++[b.names[k]]) b.kids[k]);have r6:=zfE (zco (p++[b.names[k]]) b.kids[k]);rw[←h4,zar.s6,zar.p10];generalize zco (p++[b.names[k]]) b.kids[k]=Z at*;simp (disch:=omega) only[pvS,pvT,pvC,pvL,pvR,pvN,zar.p11,zar.p14,h5,h6,r3,r5,r6,List.length_map]
   ·subst e1 e2
    rw[List.drop_length,List.drop_length,zmz,List.append_nil,zar.s6];simp (disch:=omega) only[pvS,pvL,pvN,List.length_map,zar.a6x6]
theorem zjo:∀(f:Nat) (p:List Str) (a b:Tree) (d:Int),za1 d a=true→za1 d b=true→d+f=5→wP p+wT a+wT b≤1048576→zar [vP p,vT a,vT b] []=rO ((wk f p a b).map eE)
 |0,p,a,b,d,ha,hb,hd,hw=>by have:=(zdG ha).2;omega
 |f+1,p,a,b,d,ha,hb,hd,hw=>by
  have hpl:=zbG p;have wa:=wT_eq a;have wb:=wT_eq b;have hlen:=zjn (f+1) p a b d ha hb;have hca:=zdl a;have hcb:=zdl b;rw[zin]at hlen⊢;rw[zar.e];by_cases hdir:a.dir=b.dir
  ·rw[if_pos hdir]at hlen⊢
   have b1:(!a.dir==b.dir)=false:=by rw[hdir];cases b.dir<;>rfl
   have h1:=zob p a b (by omega)
   have h0:=zar.l6 f p a b d ha hb hw (fun n k l hk hl hn=>by
    obtain ⟨i,hi,rfl⟩:=List.mem_iff_getElem.1 hk;have h2:=zc5 wT a.kids a.kids[i] (List.getElem_mem hi);have h3:=zc5 wT b.kids l hl;have h4:=zc5 List.length a.names n hn;have h5:=zdh p n;have e:wP a.names=wL List.length a.names:=rfl;exact zjo f (p++[n]) _ l (d+1) (zaZ ha (List.getElem_mem hi)) (zaZ hb hl) (by omega) (by omega)) _ 0 0 (Nat.le_refl _) (by omega) (by omega) (partE p a b) (by
    simp only[List.drop_zero];rw[List.length_append]at hlen;omega)
   simp only[List.drop_zero]at h0;simp (disch:=omega) only[pvS,pvC,pvL,pvR,pvN,b1,h1,zar.p6];exact h0
  ·rw[if_neg hdir]at hlen⊢
   have b1:(!a.dir==b.dir)=true:=by revert hdir;cases a.dir<;>cases b.dir<;>simp
   have h1:=zjm p (by omega)
   have h2:=zis b p d hb (by omega)
   rw[←ze1]at h2;have r1:=zdH (zco p b);have r2:=zfE (zco p b);rw[List.length_cons]at hlen;simp (disch:=omega) only[pvS,pvC,pvL,pvR,pvN,b1,h1,h2,r1,r2,List.length_map,List.map_cons,List.map_nil,List.cons_append,List.nil_append]
end Go.PVx
namespace Go.PVx
open Go.PV Go.Proofs
abbrev rW(es:List Entry)(a b:Tree):Option Res:=some ⟨[.o .deep (es.map eE)],[oR a,oR b]⟩
theorem zmD(p:List Str)(x b:Tree)(d:Int)(hb:za1 d b=true)(hw:wP p+wT b≤1048576):
 iwalk [vP p, .one (.p false 0 [] 0), .one (.p true 1 [] 0)] [oR x,oR b]=rW (zco p b) x b:=by
 have h1:=zlD p b d hb hw;rw[←ze1]at h1;rw[iwalk_nb.e];simp (disch:=omega) only[pvS,pvC,pvL,pvN,h1]
theorem zmE(p:List Str)(a x:Tree)(hp:p.length≤1048576):iwalk [vP p, .one (.p true 0 [] 0), .one (.p false 1 [] 0)] [oR a,oR x]=rW [goneE p] a x:=by
 have h1:=znr p hp;rw[iwalk_nc.e];simp (disch:=omega) only[pvS,pvC,pvL,pvR,pvN,h1,List.map_cons,List.map_nil];rfl
theorem rg0(r:List D):zaj r []=r:=rfl
theorem fl5(a b c d e:D):([a,b,c,d,e]:List D).map (fun _=>Own.sh)=[.sh, .sh, .sh, .sh, .sh]:=rfl
theorem hd1(k:Nat):([(4,k)]:PV.Path).headD (0,0)=(4,k):=rfl
theorem tl1(k:Nat):([(4,k)]:PV.Path).tail=[]:=rfl
theorem em1(k:Nat):([(4,k)]:PV.Path).isEmpty=false:=rfl
theorem em0:([]:PV.Path).isEmpty=true:=rfl
theorem pfit0(b:Bool):R1.fits (.ptr 0) (.p b 0 [] 0)=true:=rfl
theorem pfit1(b:Bool)(k:Nat):R1.fits (.ptr 0) (.p b 0 [(4,k)] 0)=true:=rfl
theorem iwalk.l9(f:Nat)(p:List Str)(a b:Tree)(d:Int)(ha:za1 d a=true)(hb:za1 d b=true)(hw:wP p+wT a+wT b≤1048576)
 (IH:∀n k l,k∈a.kids→l∈b.kids→n∈a.names→iwalk [vP (p++[n]), .one (.p true 0 [] 0), .one (.p true 1 [] 0)] [oR k,oR l]=rW (wk f (p++[n]) k l) k l)
 (N:List Str) (hN:∀n∈N,n∈a.names∨n∈b.names) (hNl:N.length≤2097152):∀j,j≤N.length→∀acc:List Entry,
 acc.length+((N.drop j).flatMap fun n=>wkO (wk f) (p++[n]) (look a.names a.kids n) (look b.names b.kids n)).length≤10000000→
 (iwalk.L9 (eSs p) (N.length:Int) (j:Int) a.dir a.mode (mkS a.data) (eSs a.names) (a.kids.map eT) b.dir b.mode (mkS b.data) (eSs b.names) (b.kids.map eT) (acc.map eE) (eSs N)).bind iwalk.A9=
 rW (acc++(N.drop j).flatMap fun n=>wkO (wk f) (p++[n]) (look a.names a.kids n) (look b.names b.kids n)) a b:=by
 have oa:=zgd a d ha;have ob:=zgd b d hb;have la:=zbm ha;have lb:=zbm hb;have wa:=wT_eq a;have wb:=wT_eq b;have hpl:=zbG p;refine up N.length ?_ fun j hj ih=> ?_
 ·intro acc _
  rw[iwalk.s9,List.drop_length,List.flatMap_nil,List.append_nil];simp (disch:=omega) only[pvS,pvL,pvN,iwalk.a9x9]
 ·intro acc hacc
  have hn:=hN N[j] (List.getElem_mem hj);have eN:(eSs N).getD j []=eS N[j]:=zbT eS N j hj;rw[zaF N j hj,List.flatMap_cons]at hacc⊢;have hkp:p.length+1≤1048577:=by omega
  have h1:=zf0 p N[j] (by omega)
  have h2:=zd9 a N[j] oa (by omega)
  have h3:=zd9 b N[j] ob (by omega)
  have r3:=zdH acc;have ea:=zgE a.names a.kids N[j];have eb:=zgE b.names b.kids N[j];have ih':=ih (acc++wkO (wk f) (p++[N[j]]) (look a.names a.kids N[j]) (look b.names b.kids N[j])) (by rw[List.length_append]at hacc⊢;omega)
  rw[List.append_assoc,List.map_append]at ih';have r5:=zdH (wkO (wk f) (p++[N[j]]) (look a.names a.kids N[j]) (look b.names b.kids N[j]));have r6:=zfE (wkO (wk f) (p++[N[j]]) (look a.names a.kids N[j]) (look b.names b.kids N[j]));rw[←ih',iwalk.s9];clear ih';rw[List.length_append]at hacc;generalize hZ:wkO (wk f) (p++[N[j]]) (look a.names a.kids N[j]) (look b.names b.kids N[j])=Z at*;have hwp:=zdh p N[j];generalize N[j]=n at*;cases ha1:ixN a.names n with
  |none=>
   rw[ha1]at h2 ea;cases hb1:ixN b.names n with
   |none=>exact absurd hn (by rw[not_or];exact ⟨zj2 ha1,zj2 hb1⟩)
   |some l=>
    rw[hb1]at h3 eb;obtain ⟨hl1,hl2⟩:=zdv hb1;have hl:l<b.kids.length:=by omega
    have e1:look b.names b.kids n=some b.kids[l]:=by rw[eb];simp[hl]
    have e2:look a.names a.kids n=none:=ea;rw[e1,e2]at hZ;have hZ':zco (p++[n]) b.kids[l]=Z:=hZ;have hwl:=wL_at wT hl;have hwn:=wP_at hl1;rw[hl2]at hwn;have h4:=zmD (p++[n]) a b.kids[l] (d+1) (zaZ hb (List.getElem_mem hl)) (by omega)
    rw[hZ']at h4;simp (disch:=omega) only[pvS,pvT,pvC,pvL,pvR,pvN,pvO,eN,h1,h2,h3,h4,r3,r5,r6,rg0,fl5,hd1,tl1,em1,em0,pfit0,pfit1,zeJ,ok_p,List.length_map]
  |some k=>
   rw[ha1]at h2 ea;obtain ⟨hk1,hk2⟩:=zdv ha1;have hk:k<a.kids.length:=by omega
   have e2:look a.names a.kids n=some a.kids[k]:=by rw[ea];simp[hk]
   have hwk:=wL_at wT hk;have hwn:=wP_at hk1;rw[hk2]at hwn;cases hb1:ixN b.names n with
   |none=>
    rw[hb1]at h3 eb;have e1:look b.names b.kids n=none:=eb;rw[e1,e2]at hZ;have hZ': [goneE (p++[n])]=Z:=hZ;have h4:=zmE (p++[n]) a.kids[k] b (by rw[List.length_append];simp only[List.length_cons,List.length_nil];omega)
    rw[hZ']at h4;simp (disch:=omega) only[pvS,pvT,pvC,pvL,pvR,pvN,pvO,eN,h1,h2,h3,h4,r3,r5,r6,rg0,fl5,hd1,tl1,em1,em0,pfit0,pfit1,zeJ,ok_p,List.length_map]
   |some l=>
    rw[hb1]at h3 eb;obtain ⟨hl1,hl2⟩:=zdv hb1;have hl:l<b.kids.length:=by omega
    have e1:look b.names b.kids n=some b.kids[l]:=by rw[eb];simp[hl]
    rw[e1,e2]at hZ;have hZ':wk f (p++[n]) a.kids[k] b.kids[l]=Z:=hZ;have h4:=IH n a.kids[k] b.kids[l] (List.getElem_mem hk) (List.getElem_mem hl) (by rw[←hk2];exact List.getElem_mem hk1)
    rw[hZ']at h4;simp (disch:=omega) only[pvS,pvT,pvC,pvL,pvR,pvN,pvO,eN,h1,h2,h3,h4,r3,r5,r6,rg0,fl5,hd1,tl1,em1,em0,pfit0,pfit1,zeJ,ok_p,List.length_map]
theorem zns:∀(f:Nat) (p:List Str) (a b:Tree) (d:Int),za1 d a=true→za1 d b=true→d+f=5→wP p+wT a+wT b≤1048576→
 iwalk [vP p, .one (.p true 0 [] 0), .one (.p true 1 [] 0)] [oR a,oR b]=rW (wk f p a b) a b
 |0,p,a,b,d,ha,hb,hd,hw=>by have:=(zdG ha).2;omega
 |f+1,p,a,b,d,ha,hb,hd,hw=>by
  have hpl:=zbG p;have wa:=wT_eq a;have wb:=wT_eq b;have na:=zbG a.names;have nb:=zbG b.names;have hlen:=zjn (f+1) p a b d ha hb;have hca:=zdl a;have hcb:=zdl b;rw[zin]at hlen⊢;rw[iwalk.e];by_cases hdir:a.dir=b.dir
  ·rw[if_pos hdir]at hlen⊢
   have b1:(!a.dir==b.dir)=false:=by rw[hdir];cases b.dir<;>rfl
   have h1:=zmB p a b (by omega)
   have h2:=zoc a b (by omega) (by omega)
   have hsl:=zre (a.names++b.names);rw[List.length_append]at hsl
   have h0:=iwalk.l9 f p a b d ha hb hw (fun n k l hk hl hn=>by
    obtain ⟨i,hi,rfl⟩:=List.mem_iff_getElem.1 hk;have h2:=zc5 wT a.kids a.kids[i] (List.getElem_mem hi);have h3:=zc5 wT b.kids l hl;have h4:=zc5 List.length a.names n hn;have h5:=zdh p n;have e:wP a.names=wL List.length a.names:=rfl;exact zns f (p++[n]) _ l (d+1) (zaZ ha (List.getElem_mem hi)) (zaZ hb hl) (by omega) (by omega)) (setN (a.names++b.names))
    (fun n hn=>List.mem_append.1 ((zea _ n).1 hn)) (by omega) 0 (by omega) (partE p a b) (by
    rw[List.drop_zero];have e:wkZ (wk f) p a.names a.kids b.names b.kids=(setN (a.names++b.names)).flatMap fun n=>wkO (wk f) (p++[n]) (look a.names a.kids n) (look b.names b.kids n):=rfl
    rw[e,List.length_append]at hlen;omega)
   simp only[List.drop_zero]at h0;simp (disch:=omega) only[pvS,pvC,pvL,pvR,pvN,pvO,b1,h1,h2,iwalk.p7,List.length_map];exact h0
  ·rw[if_neg hdir]at hlen⊢
   have b1:(!a.dir==b.dir)=true:=by revert hdir;cases a.dir<;>cases b.dir<;>simp
   have h1:=znr p (by omega)
   have h2:=zlD p b d hb (by omega)
   rw[←ze1]at h2;have r1:=zdH (zco p b);have r2:=zfE (zco p b);rw[List.length_cons]at hlen;simp (disch:=omega) only[pvS,pvC,pvL,pvR,pvN,pvO,b1,h1,h2,r1,r2,List.length_map,List.map_cons];rfl
end Go.PVx
namespace Go.PVx
open Go.PV Go.Proofs
abbrev rUp(u:Upper):Option Res:=some ⟨[.o .deep (u.gone.map ePa), .o .deep (u.puts.map eE)],[]⟩
def rAtS:Option Tree→Option Res
 |some y=>some ⟨[.v (.bool y.dir), .v (.int .i64 y.mode), .v (.string (mkS y.data)), .s (eSs y.names), .s (y.kids.map eT), .v (.bool true)],[]⟩
 |none=>some ⟨[.v (.bool false), .v (.int .i64 0), .v (.string (mkS [])), .s [], .s [], .v (.bool false)],[]⟩
theorem zmF:∀(q:List Str) (t:Tree),(atT t q).isSome=true→q.length≤wT t
 | [],t,_=>Nat.zero_le _
 |n::q,t,h=>by
  rw[zeH]at h;cases hk:look t.names t.kids n with
  |none=>rw[hk]at h;simp at h
  |some k=>
   rw[hk,Option.bind_some]at h;have:=zmF q k h;have h2:=zc5 wT t.kids k (zdi hk).2;have h3:=wT_eq t;simp only[List.length_cons];omega
theorem znt:∀(q:List Str) (t:Tree),OkT t→wT t≤1048576→q.length≤1048576→sl1At [vT t,vP q] []=rAtS (atT t q)
 | [],t,ho,hw,hq=>by
  rw[sl1At.e];simp (disch:=omega) only[pvS,pvL,pvN,List.map_nil];rfl
 |n::q,t,ho,hw,hq=>by
  have hl:=ho.len;have hwt:=wT_eq t;have hnl:=zbG t.names;simp only[List.length_cons]at hq;have h1:=zji t n (by omega)
  have el:=zgE t.names t.kids n;rw[sl1At.e,zeH];have e0:(eSs (n::q)).getD 0 []=eS n:=rfl;have e1:(eSs (n::q)).length=q.length+1:=by simp
  have e2:List.drop 1 (List.take (((q.length+1:Nat):Int)).toNat (eSs (n::q)))=eSs q:=by
   rw[Int.toNat_natCast,List.take_of_length_le (by rw[e1];omega)];rfl
  have e3:List.drop 1 (List.take (q.length+1) (n::q))=q:=by rw[List.take_of_length_le (by simp)];rfl
  cases hx:ixN t.names n with
  |none=>
   rw[hx]at h1 el;have el:look t.names t.kids n=none:=el;rw[el];simp (disch:=omega) only[pvS,pvC,pvL,pvR,pvN,e0,e1,h1];rfl
  |some k=>
   rw[hx]at h1 el;obtain ⟨hk1,hk2⟩:=zdv hx;have hk:k<t.kids.length:=by omega
   have el:look t.names t.kids n=some t.kids[k]:=by rw[el];simp[hk]
   have hwk:=wL_at wT hk;have ih:=znt q t.kids[k] (ho.kid _ (List.getElem_mem hk)) (by omega) (by omega)
   rw[el,Option.bind_some];cases hy:atT t.kids[k] q with
   |none=>
    rw[hy]at ih;unfold rAtS at ih⊢;simp (disch:=omega) only[pvS,pvT,pvC,pvL,pvR,pvN,e0,e1,e2,e3,h1,ih]
   |some y=>
    rw[hy]at ih;unfold rAtS at ih⊢;simp (disch:=omega) only[pvS,pvT,pvC,pvL,pvR,pvN,e0,e1,e2,e3,h1,ih]
theorem zsG(c:Tree)(u:Upper)(e:Entry):(upS c u e).gone.length+(upS c u e).puts.length≤u.gone.length+u.puts.length+1:=by
 unfold upS;split
 ·simp only[List.length_append,List.length_cons,List.length_nil];omega
 ·split
  ·omega
  ·simp only[List.length_append,List.length_cons,List.length_nil];omega
theorem zrj{c:Tree}{u:Upper}{e:Entry}(h:∀x∈u.puts,x.path.length≤1048576)(he:e.path.length≤1048576):∀x∈(upS c u e).puts,x.path.length≤1048576:=by
 intro x hx;unfold upS at hx;split at hx
 ·exact h x hx
 ·split at hx
  ·exact h x hx
  ·rcases List.mem_append.1 hx with hx|hx
   ·exact h x hx
   ·obtain rfl:=List.mem_singleton.1 hx
    rw[ze0];exact he
theorem zaX.l4b(c:Tree)(ho:OkT c)(hw:wT c≤1048576)(es:List Entry)(hes:es.length≤10000000)(hp:∀e∈es,e.path.length≤1048576):∀j,j≤es.length→∀u:Upper,u.gone.length+u.puts.length≤j→(∀x∈u.puts,x.path.length≤1048576)→
 (zaX.L4b (j:Int) c.dir c.mode (mkS c.data) (eSs c.names) (c.kids.map eT) [] [] (es.map eE) (u.gone.map ePa) (u.puts.map eE)).bind zaX.A4=rUp ((es.drop j).foldl (upS c) u):=by
 refine up es.length ?_ fun j hj ih=> ?_
 ·intro u _ _
  rw[zaX.s4b,List.drop_length,List.foldl_nil];simp (disch:=omega) only[pvS,pvL,pvN,List.length_map,zaX.a4x4]
 ·intro u hu hup
  have hpe:=hp es[j] (List.getElem_mem hj);have ih':=ih (upS c u es[j]) (by have:=zsG c u es[j];omega) (zrj hup hpe)
  rw[zaF es j hj,List.foldl_cons,←ih',zaX.s4b];clear ih' ih;have r1:=ze2 es[j].path;have r2:=ze3 es[j].path;have rg:zak 1 (u.gone.map ePa)=true:=Sx.rowsLen_map 1 ePa (fun _=>rfl) _
  have rp:=zdH u.puts;have hat:=znt es[j].path c ho hw hpe;generalize hE:es[j]=e at*;obtain ⟨path,what,dir,mode,data⟩:=e;simp only at*;unfold upS;by_cases h1:what=1
  ·rw[if_pos h1]
   simp (disch:=omega) only[pvS,pvT,pvC,pvL,pvR,pvN,hE,h1,r1,r2,rg,List.length_map,List.map_append,List.map_cons,List.map_nil]
  ·rw[if_neg h1]
   have put:(zaX.P11 (j:Int) c.dir c.mode (mkS c.data) (eSs c.names) (c.kids.map eT) [] [] (es.map eE) (u.gone.map ePa) (u.puts.map eE) (eSs path) what dir mode (mkS data))=
    zaX.L4b ((j+1:Nat):Int) c.dir c.mode (mkS c.data) (eSs c.names) (c.kids.map eT) [] [] (es.map eE) (u.gone.map ePa) ((u.puts++[putE c path]).map eE):=by
    rw[zaX.p11,List.map_append];unfold putE;cases hy:atT c path with
    |none=>
     rw[hy]at hat;unfold rAtS at hat;simp (disch:=omega) only[pvS,pvT,pvC,pvL,pvR,pvN,hat,r1,r2,rp,List.length_map,List.map_cons,List.map_nil]
    |some y=>
     rw[hy]at hat;unfold rAtS at hat;simp (disch:=omega) only[pvS,pvT,pvC,pvL,pvR,pvN,hat,r1,r2,rp,List.length_map,List.map_cons,List.map_nil]
   rcases List.eq_nil_or_concat u.puts with hn|⟨l,x,hn⟩
   ·have e1:u.puts.getLast?.map (·.path)=none:=by rw[hn];rfl
    have e2:u.puts.length=0:=by rw[hn];rfl
    rw[e1,if_neg (by simp),←put]
    simp (disch:=omega) only[pvS,pvT,pvC,pvL,pvR,pvN,hE,zaX.p10]
   ·rw[List.concat_eq_append]at hn
    have e1:u.puts.getLast?.map (·.path)=some x.path:=by rw[hn];simp
    have e2:(u.puts.map eE).length=l.length+1:=by rw[hn];simp
    have e3:(u.puts.map eE).getD l.length []=eE x:=by rw[hn];simp
    have e4:IntKind.i64.wrap (((l.length+1:Nat):Int)-1)=(l.length:Int):=by
     rw[zc1 _ (by rw[hn]at hu;simp only[List.length_append,List.length_cons,List.length_nil]at hu;omega)];omega
    rw[e1];have hxl:=hup x (by rw[hn];simp)
    have h3:=zhZ x.path path (by omega)
    by_cases h2:x.path=path
    ·rw[decide_eq_true h2]at h3
     rw[if_pos (by rw[h2])]
     simp (disch:=omega) only[pvS,pvT,pvC,pvL,pvR,pvN,hE,e2,e3,e4,zaX.p10,h3]
    ·rw[decide_eq_false h2]at h3
     rw[if_neg fun h=>h2 (Option.some.inj h),←put]
     simp (disch:=omega) only[pvS,pvT,pvC,pvL,pvR,pvN,hE,e2,e3,e4,zaX.p10,h3]
theorem zqd{f:Nat}{a b:Tree}(ha:za1 0 a=true)(hb:za1 0 b=true)(wa:wT a≤1048576)(wb:wT b≤1048576):∀e∈wk f [] a b,e.path.length≤1048576:=by
 intro e he;obtain ⟨q,h1,h2,h3⟩:=(zeZ f [] a b 0 ha hb).1 e he;rw[h1,List.nil_append];by_cases hw:e.what=1
 ·have:=zmF q a (h2 hw);omega
 ·have:=zmF q b (h3 hw);omega
theorem zqe(a b:Tree)(ha:za1 0 a=true)(hb:za1 0 b=true)(hw:wT a+wT b≤1048576):zaX [vT a,vT b] []=rUp (upOf a b):=by
 have h1:=zjo 5 [] a b 0 ha hb rfl (by have:wP []=0:=rfl;omega)
 have hl:=zjn 5 [] a b 0 ha hb;have hca:=zdl a;have hcb:=zdl b;have hp:=zqd (f:=5) ha hb (by omega) (by omega)
 have h2:=zaX.l4b b (zgd b 0 hb) (by omega) (wk 5 [] a b) (by omega) hp 0 (by omega) ⟨[],[]⟩ (by simp) (fun x hx=>by simp at hx)
 rw[List.drop_zero]at h2;have h1':zar [AV.one (A1.s []),vT a,vT b] []=_:=h1;have r5:=zdH (wk 5 [] a b);rw[zaX.e];unfold upOf;generalize wk 5 [] a b=es at*;rw[←h2];simp (disch:=omega) only[pvS,pvC,pvL,pvR,pvN,h1',List.map_nil];exact congrArg (fun x=>x.bind zaX.A4) ((zaX.s4 _ _ _ _ _ _ _ _ _ _ _).trans (zaX.s4b _ _ _ _ _ _ _ _ _ _ _).symm)
end Go.PVx
namespace Go.PVx
open Go.PV Go.Proofs
abbrev oEn(e:Entry):PV.Obj:=⟨.box,[.s (eSs e.path), .v (.int .i64 e.what), .v (.bool e.dir), .v (.int .i64 e.mode), .v (.string (mkS e.data))],[.deep, .deep, .deep, .deep, .deep]⟩
abbrev oEr(e:Entry):PV.Obj:=⟨.ro,[.s (eSs e.path), .v (.int .i64 e.what), .v (.bool e.dir), .v (.int .i64 e.mode), .v (.string (mkS e.data))],[.sh, .sh, .sh, .sh, .sh]⟩
def findE(p:List Str):List Entry→Nat→Int
 | [],_=> -1
 |e::es,i=>if e.path=p then (i:Int)else findE p es (i+1)
theorem zlF(p:List Str):∀(es:List Entry) (i:Nat),decide (findE p es i≥0)=es.any fun x=>decide (x.path=p)
 | [],_=>rfl
 |e::es,i=>by
  unfold findE;by_cases h:e.path=p
  ·rw[if_pos h,List.any_cons,decide_eq_true h,Bool.true_or]
   exact decide_eq_true (by omega)
  ·rw[if_neg h,List.any_cons,decide_eq_false h,Bool.false_or]
   exact zlF p es (i+1)
theorem zkh(x e:Entry)(hx:x.path.length≤1048576):zbr [vE x, .one (.p true 0 [] 0)] [oEr e]=some ⟨[.v (.bool (decide (x.path=e.path)))],[oEr e]⟩:=by
 have h1:=zeS x.path e.path (by omega)
 rw[zbr.e];generalize decide (x.path=e.path)=b at*;simp (disch:=omega) only[pvS,pvC,pvL,pvN,h1]
theorem zqf(ps:List Entry)(e:Entry)(hl:ps.length≤20000000)(hp:∀x∈ps,x.path.length≤1048576):
 zaz [.one (.s (ps.map eE)), .f zbr.id [.p true 0 [] 0]] [oEn e]=some ⟨[.v (.int .i64 (findE e.path ps 0))],[oEn e]⟩:=by
 have key:∀k,k≤ps.length→(slices_IndexFunc_upperOf.L2 (ps.map eE) ps.length (k:Int) (eSs e.path) e.what e.dir e.mode (mkS e.data)).bind slices_IndexFunc_upperOf.A2=some ⟨[.v (.int .i64 (findE e.path (ps.drop k) k))],[oEn e]⟩:=by
  refine up ps.length ?_ fun k hk ih=> ?_
  ·rw[slices_IndexFunc_upperOf.s2,List.drop_length]
   simp (disch:=omega) only[pvS,pvL,pvN,slices_IndexFunc_upperOf.a2x2,findE]
  ·have h1:=zkh ps[k] e (hp _ (List.getElem_mem hk))
   rw[zaF ps k hk,slices_IndexFunc_upperOf.s2];unfold findE;by_cases hb:ps[k].path=e.path
   ·rw[if_pos hb]
    rw[decide_eq_true hb]at h1;simp (disch:=omega) only[pvS,pvC,pvL,pvR,pvN,List.length_map,h1,slices_IndexFunc_upperOf.a2q2]
   ·rw[if_neg hb]
    rw[decide_eq_false hb]at h1;simp (disch:=omega) only[pvS,pvC,pvL,pvR,pvN,List.length_map,h1];exact ih
 have h0:=key 0 (by omega)
 rw[List.drop_zero]at h0;rw[slices_IndexFunc_upperOf.e,List.length_map];exact h0
theorem zlG(ps:List Entry)(e:Entry)(hl:ps.length≤20000000)(hp:∀x∈ps,x.path.length≤1048576):
 zaO [.one (.s (ps.map eE)), .f zbr.id [.p true 0 [] 0]] [oEn e]=some ⟨[.v (.bool (ps.any fun x=>decide (x.path=e.path)))],[oEn e]⟩:=by
 have h1:=zqf ps e hl hp;have h2:=zlF e.path ps 0;rw[slices_ContainsFunc_upperOf.e,←h2];generalize findE e.path ps 0=n at*;simp (disch:=omega) only[pvS,pvC,pvL,pvR,pvN,pvO,h1]
def eEh(e:Entry):List D:=[.h, .v (.int .i64 e.what), .v (.bool e.dir), .v (.int .i64 e.mode), .v (.string (mkS e.data))]
theorem zsH(e:Entry):(eE e).set 0 .h=eEh e:=rfl
theorem zsI(c:Tree)(u:Upper)(e:Entry):(upI c u e).gone.length+(upI c u e).puts.length≤u.gone.length+u.puts.length+1:=by
 unfold upI;split
 ·simp only[List.length_append,List.length_cons,List.length_nil];omega
 ·split
  ·omega
  ·simp only[List.length_append,List.length_cons,List.length_nil];omega
theorem zrk{c:Tree}{u:Upper}{e:Entry}(h:∀x∈u.puts,x.path.length≤1048576)(he:e.path.length≤1048576):∀x∈(upI c u e).puts,x.path.length≤1048576:=by
 intro x hx;unfold upI at hx;split at hx
 ·exact h x hx
 ·split at hx
  ·exact h x hx
  ·rcases List.mem_append.1 hx with hx|hx
   ·exact h x hx
   ·obtain rfl:=List.mem_singleton.1 hx
    rw[ze0];exact he
theorem zsJ(t:Tree)(q:List Str):atT t q=(locT t q).map (·.2):=rfl
theorem zaK.l3(c:Tree)(ho:OkT c)(hw:wT c≤1048576)(es:List Entry)(hes:es.length≤10000000)(hp:∀e∈es,e.path.length≤1048576)(hc:∀e∈es,e.what≠1→(atT c e.path).isSome=true):
 ∀j,j≤es.length→∀u:Upper,u.gone.length+u.puts.length≤j→(∀x∈u.puts,x.path.length≤1048576)→
 (zaK.L3 (es.length:Int) (j:Int) c.dir c.mode (mkS c.data) (eSs c.names) (c.kids.map eT) [] [] (u.gone.map ePa) (u.puts.map eE) ((es.take j).map eEh++(es.drop j).map eE)).bind zaK.A3=rUp ((es.drop j).foldl (upI c) u):=by
 refine up es.length ?_ fun j hj ih=> ?_
 ·intro u _ _
  rw[zaK.s3,List.drop_length,List.foldl_nil];simp (disch:=omega) only[pvS,pvL,pvN,zaK.a3x3]
 ·intro u hu hup
  have hpe:=hp es[j] (List.getElem_mem hj);have hce:=hc es[j] (List.getElem_mem hj);have ih':=ih (upI c u es[j]) (by have:=zsI c u es[j];omega) (zrk hup hpe)
  have hm:(es.take j).length=j:=by rw[List.length_take];omega
  have g1:=zjN eE eEh es (es.take j) j hj hm;have g2:=zjO eE eEh es (es.take j) j (by omega) hm
  have g3:=zjP eE eEh es (es.take j) j hj hm es[j];rw[←zk4 es j hj]at g3;rw[←zsH]at g3;rw[List.drop_eq_getElem_cons hj,List.foldl_cons,←ih',←List.drop_eq_getElem_cons hj];clear ih' ih;have r1:=ze2 es[j].path;have r2:=ze3 es[j].path;have rg:zak 1 (u.gone.map ePa)=true:=Sx.rowsLen_map 1 ePa (fun _=>rfl) _
  have rp:=zdH u.puts;have hat:=zif c es[j].path hpe ho hw;have hcon:=zlG u.puts es[j] (by omega) hup
  rw[zaK.s3];generalize (es.take j).map eEh++(es.drop j).map eE=Y at*;generalize (es.take (j+1)).map eEh++(es.drop (j+1)).map eE=Y' at*;generalize es[j]=e at*;have hset:Y.set j [.h, .v (.int .i64 e.what), .v (.bool e.dir), .v (.int .i64 e.mode), .v (.string (mkS e.data))]=Y':=g3;unfold upI;by_cases h1:e.what=1
  ·rw[if_pos h1]
   simp (disch:=omega) only[pvS,pvT,pvC,pvL,pvR,pvN,g1,g2,rg,h1,List.set_cons_zero,List.length_map,List.map_append,List.map_cons,List.map_nil]at hset⊢;simp only[hset]
  ·rw[if_neg h1]
   have hce:=hce h1;obtain ⟨y,hy⟩:=Option.isSome_iff_exists.1 hce;have hput:putE c e.path=⟨e.path,2,y.dir,y.mode,y.data⟩:=by unfold putE;rw[hy]
   rw[hput];cases hany:u.puts.any fun x=>decide (x.path=e.path)with
   |true=>
    rw[hany]at hcon;rw[if_pos rfl];simp (disch:=omega) only[pvS,pvT,pvC,pvL,pvR,pvN,pvO,g1,g2,hset,hcon,List.set_cons_zero]
   |false=>
    rw[hany]at hcon;rw[if_neg (by simp)]
    rw[zsJ]at hy;obtain ⟨z,hz,hzy⟩:=Option.map_eq_some_iff.1 hy;obtain ⟨pth,w⟩:=z;have hzy:w=y:=hzy;subst hzy;rw[hz]at hat;cases pth with
    |nil=>
     obtain ⟨rfl,_⟩:=zpU hz w;unfold rAt at hat;simp (disch:=omega) only[pvS,pvT,pvC,pvL,pvR,pvN,pvO,g1,g2,hset,hcon,hat,rp,pfit0,zeJ,ok_p,em0,zaK.p9,List.set_cons_zero,List.length_map,List.map_append,List.map_cons,List.map_nil]
    |cons a pth=>
     obtain ⟨a,k⟩:=a;obtain ⟨rfl,hk,hrow,_⟩:=znl hz w;rw[eT_eq w,zbT eT c.kids k hk]at hrow;unfold rAt at hat;have hf:=zj7 0 true k pth;have hh:((4,k)::pth:PV.Path).headD (0,0)=(4,k):=rfl;have ht:((4,k)::pth:PV.Path).tail=pth:=rfl;have he:((4,k)::pth:PV.Path).isEmpty=false:=rfl;simp (disch:=omega) only[pvS,pvT,pvC,pvL,pvN,pvO,eE,g1,g2,hset,hcon,hat,rp,hf,zeJ,ok_p,hh,ht,he,hrow,zaK.p9b,List.set_cons_zero,List.length_map,List.map_append,List.map_cons,List.map_nil]
theorem zmG(a b:Tree)(ha:za1 0 a=true)(hb:za1 0 b=true)(hw:wT a+wT b≤1048576):zaK [vT a,vT b] []=rUp (upOf a b):=by
 have h1:=zns 5 [] a b 0 ha hb rfl (by have:wP []=0:=rfl;omega)
 have hl:=zjn 5 [] a b 0 ha hb;have hca:=zdl a;have hcb:=zdl b;have hp:=zqd (f:=5) ha hb (by omega) (by omega)
 have hs:=(zeZ 5 [] a b 0 ha hb).1
 have h2:=zaK.l3 b (zgd b 0 hb) (by omega) (wk 5 [] a b) (by omega) hp (fun e he hw=>by
  obtain ⟨q,h1,_,h3⟩:=hs e he;rw[h1,List.nil_append];exact h3 hw) 0 (by omega) ⟨[],[]⟩ (by simp) (fun x hx=>by simp at hx)
 rw[List.drop_zero,upOf_I ha hb,List.take_zero]at h2;have h1':iwalk [AV.one (A1.s []), .one (.p true 0 [] 0), .one (.p true 1 [] 0)] [oR a,oR b]=_:=h1;rw[zaK.e];generalize wk 5 [] a b=es at*;simp (disch:=omega) only[pvS,pvC,pvL,pvR,pvN,h1',List.length_map];exact h2
end Go.PVx
namespace Go.PVx
open Go.PV Go.Proofs
theorem zrE:∀l:List (List Str),cPs l≤wL wP l
 | []=>Nat.le_refl _
 |p::l=>by have:=zrE l;have:=zbG p;simp only[cPs,wL];omega
theorem zrF:∀l:List Entry,sumW cE l≤4*wL wE l
 | []=>by simp[sumW]
 |e::l=>by
  have:=zrF l;have:=zbG e.path;simp only[sumW,wL,cE,wE];omega
theorem cU_le(u:Upper):cU u≤4*wU u:=by
 have:=zrE u.gone;have:=zrF u.puts;unfold cU wU;omega
theorem atT_w:∀(q:List Str) (t y:Tree),atT t q=some y→wP q+wT y≤wT t
 | [],t,y,h=>by
  rw[zqa]at h;obtain rfl:=Option.some.inj h;have:wP []=0:=rfl;omega
 |n::q,t,y,h=>by
  rw[zeH]at h;obtain ⟨k,h1,h2⟩:=Option.bind_eq_some_iff.1 h;have ih:=atT_w q k y h2;have h3:=zc5 wT t.kids k (zdi h1).2;have h4:=zc5 List.length t.names n (zdi h1).1;have h5:=wT_eq t;have e:wP t.names=wL List.length t.names:=rfl;have e2:wP (n::q)=1+n.length+wP q:=rfl;omega
theorem zki{α:Type}(w:α→Nat)(B:Nat):∀l:List α,(∀x∈l,w x≤B)→wL w l≤(1+B)*l.length
 | [],_=>by simp[wL]
 |x::l,h=>by
  have h1:=h x (by simp)
  have h2:=zki w B l fun y hy=>h y (by simp[hy])
  simp only[wL,List.length_cons,Nat.mul_add,Nat.mul_one];omega
theorem upOf_w{a b:Tree}(ha:treeB a=true)(hb:treeB b=true):wU (upOf a b)≤100000:=by
 have pa:=zbA ha;have pb:=zbA hb;obtain ⟨h1,h2⟩:=zrg ha hb;have wa:=zgD ha;have wb:=zgD hb;have hs:=(zeZ 5 [] a b 0 pa pb).1
 have hg:=zki wP 1000 (upOf a b).gone fun p hp=>by
  rcases (zir b p _ _).1 hp with h|⟨e,he,hw,rfl⟩
  ·simp at h
  ·obtain ⟨q,h3,h4,_⟩:=hs e he
   obtain ⟨y,hy⟩:=Option.isSome_iff_exists.1 (h4 hw);have:=atT_w q a y hy;rw[h3,List.nil_append];omega
 have hp:=zki wE 1000 (upOf a b).puts fun x hx=>by
  rcases ziq b _ _ x hx with h|⟨e,he,hw,rfl⟩
  ·simp at h
  ·obtain ⟨q,h3,_,h4⟩:=hs e he
   obtain ⟨y,hy⟩:=Option.isSome_iff_exists.1 (h4 hw);have h5:=atT_w q b y hy;have h6:=wT_eq y;rw[h3,List.nil_append];unfold putE;have hy:atT b q=some y:=hy;rw[hy];unfold wE;simp only;omega
 have hg2:1001*(upOf a b).gone.length≤1001*30:=Nat.mul_le_mul_left _ h2;have hp2:1001*(upOf a b).puts.length≤1001*31:=Nat.mul_le_mul_left _ h1;unfold wU;omega
def rUB:Option Upper→Option Res
 |some u=>some ⟨[.o .deep (u.gone.map ePa), .o .deep (u.puts.map eE), .v (.bool true)],[]⟩
 |none=>some ⟨[.o .deep [], .o .deep [], .v (.bool false)],[]⟩
noncomputable def UO(rs:List Row)(t:Tree):Option Upper:=(RRS rs).bind fun base=>if treeB t=true then some (upOf base t)else none
theorem UO_w{rs:List Row}{t:Tree}{u:Upper}(h:UO rs t=some u):wU u≤100000:=by
 unfold UO at h;obtain ⟨base,h1,h2⟩:=Option.bind_eq_some_iff.1 h;split at h2
 ·rename_i ht
  obtain rfl:=Option.some.inj h2;exact upOf_w (zha h1).1 ht
 ·simp at h2
theorem oT_w{t:Tree}(h:wT t≤1048576):oT t:=oT_of t h
theorem zmH(rs:List Row)(t:Tree)(hr:wL wR rs≤1048576)(ht:wT t≤1048576):zbv [vRs rs,vT t] []=rUB (UO rs t):=by
 have h1:=zka rs hr;have h2:=zi9 t (oT_w ht) ht;rw[zbv.e];unfold UO;cases hb:RRS rs with
 |none=>
  rw[hb]at h1;unfold rTB at h1;unfold rUB;simp (disch:=omega) only[pvS,pvC,pvL,pvR,pvN,h1,zbv.p3,Option.bind_none,List.map_nil]
 |some base=>
  obtain ⟨hbase,_⟩:=zha hb;rw[hb]at h1;unfold rTB at h1;cases htb:treeB t with
  |false=>
   rw[htb]at h2;unfold rUB;simp (disch:=omega) only[pvS,pvC,pvL,pvR,pvN,h1,h2,zbv.p3,Option.bind_some,if_neg (show ¬(false=true) by decide),List.map_nil]
  |true=>
   rw[htb]at h2;have h3:=zqe base t (zbA hbase) (zbA htb) (by have:=zgD hbase;have:=zgD htb;omega)
   unfold rUB;simp (disch:=omega) only[pvS,pvC,pvL,pvR,pvN,h1,h2,h3,zbv.p3,zbv.p4,Option.bind_some,if_true]
theorem zmI(rs:List Row)(t:Tree)(hr:wL wR rs≤1048576)(ht:wT t≤1048576):zbq [vRs rs,vT t] []=rUB (UO rs t):=by
 have h1:=zj9 rs hr;rw[zsu]at h1;have h2:=zja t (oT_w ht) ht;rw[zbq.e];unfold UO;cases hb:RRS rs with
 |none=>
  rw[hb]at h1;unfold rTB at h1;unfold rUB;simp (disch:=omega) only[pvS,pvC,pvL,pvR,pvN,h1,zbq.p3,Option.bind_none,List.map_nil]
 |some base=>
  obtain ⟨hbase,_⟩:=zha hb;rw[hb]at h1;unfold rTB at h1;cases htb:treeB t with
  |false=>
   rw[htb]at h2;unfold rUB;simp (disch:=omega) only[pvS,pvC,pvL,pvR,pvN,h1,h2,zbq.p3,Option.bind_some,if_neg (show ¬(false=true) by decide),List.map_nil]
  |true=>
   rw[htb]at h2;have h3:=zmG base t (zbA hbase) (zbA htb) (by have:=zgD hbase;have:=zgD htb;omega)
   unfold rUB;simp (disch:=omega) only[pvS,pvC,pvL,pvR,pvN,h1,h2,h3,zbq.p3,zbq.p4,Option.bind_some,if_true]
theorem zge(rs:List Row)(t:Tree)(h:sL OR rs)(ho:oT t):zag [vRs rs,vT t] []=rB true:=by
 rw[zag.e,zn7 rs h];by_cases hr:wL wR rs≤1048576
 ·rw[zeU (by omega)]
  have hz:=zn0 t ho (1048576-(wL wR rs:Nat)) (by omega) (by have hL:(Lim:Int)=1048576:=rfl;omega)
  by_cases ht:(wT t:Int)≤1048576-(wL wR rs:Nat)
  ·rw[zeU ht]at hz
   have hl:=zcf wR rs;have hcr:=zrB rs;have h0:=zn8 rs hr;have hT0:=znY t (by omega)
   have h1:=zmH rs t hr (by omega)
   have h2:=zmI rs t hr (by omega)
   have h6:=zn9 rs hr;have h6t:=zlp t (by omega)
   have hT:Top=1000000000000:=rfl;have hct:=cT_le t;have h7:=zls rs 1 (by omega) (by omega) (by omega)
   have h7t:=zlo t (by omega) (1+(sumW cR rs:Nat)) (by omega) (by omega)
   have hwu:wU ((UO rs t).getD ⟨[],[]⟩)≤100000:=by
    cases h:UO rs t with
    |none=>simp[wU,wL]
    |some u=>exact UO_w h
   have e1:rUB (UO rs t)=some ⟨[.o .deep (((UO rs t).getD ⟨[],[]⟩).gone.map ePa), .o .deep (((UO rs t).getD ⟨[],[]⟩).puts.map eE), .v (.bool (UO rs t).isSome)],[]⟩:=by
    cases UO rs t<;>rfl
   rw[e1]at h1 h2;generalize (UO rs t).getD ⟨[],[]⟩=u at*;generalize (UO rs t).isSome=b at*;clear e1;have hc:=cU_le u;have hg:=zcf wP u.gone;have hp:=zcf wE u.puts;have hw':=hwu;unfold wU at hw';have h3:=zj0 u (by omega)
   have h4:=zkb u 1 (by omega) (by omega) (by omega) (by omega)
   have h5:=zkc u 1 (by omega) (by omega) (by omega) (by omega)
   have b1:((!b)==b)=false:=by cases b<;>rfl
   have b2:(!(b==b))=false:=by cases b<;>rfl
   generalize mTs t.kids (1+(sumW cR rs:Nat)+t.names.length)=ks at*;generalize mP (1+(sumW cR rs:Nat)) t.names=nms at*;generalize (mks cR mR 1 rs).map eR=ms at*;generalize (mPs 1 u.gone).map ePa=mg at*;generalize (mks cE mE (1+cPs u.gone) u.puts).map eE=mp at*;generalize (sumW cR rs:Nat)=n at*;generalize (sumW cT t.kids:Nat)=n2 at*;simp (disch:=omega) only[pvS,pvC,pvL,pvR,pvN,pvO,hz,h0,hT0,h1,h2,h3,h4,h5,h6,h6t,h7,h7t,zag.p9,zag.p13,zag.p14,zag.p21,zag.p22,zag.p23,zag.p32,zag.p33,zag.p34,b1,b2]
  ·rw[zee ht]at hz
   simp (disch:=omega) only[pvS,pvC,pvL,pvR,pvN,hz]
 ·rw[zee (by omega)]
  rfl
end Go.PVx
namespace Go.PVx
open Go.PV Go.Proofs Go.Shelf
def zsK:Ren:=⟨fun|22=>131|29=>183|30=>184|n=>n,fun|24=>23|9=>9|3=>3|4=>4|0=>0|n=>n,fun n=>n⟩
def zsL:Ren:=⟨fun|22=>132|29=>185|30=>186|n=>n,fun|24=>35|9=>37|3=>3|4=>4|0=>0|n=>n,fun n=>n⟩
theorem zsM:InsAt Tryz.prog zsK "slices.Insert[[]string,string]" Tryz.f183 1 16 (.string ⟨#[]⟩):={
 mixed:=by kernel_rfl
 f22:=Tryz.func131.trans (congrArg some (by kernel_rfl))
 f29:=Tryz.func183
 on:=by kernel_rfl
 ob:=by kernel_rfl
 ox:=by kernel_rfl
 of_:=by kernel_rfl
 t0:=Tryz.underlying0
 a0:=Tryz.isAgg0
 z0:=Tryz.sizeOf0
 v0:=Tryz.zeroValue0
 t3:=Tryz.underlying3
 a3:=Tryz.isAgg3
 z3:=Tryz.sizeOf3
 v3:=Tryz.zeroValue3
 t4:=Tryz.underlying4
 a4:=Tryz.isAgg4
 z4:=Tryz.sizeOf4
 v4:=Tryz.zeroValue4
 z9:=Tryz.sizeOf9
 t24:=Tryz.underlying23
 a24:=Tryz.isAgg23
 z24:=Tryz.sizeOf23
 v24:=Tryz.zeroValue23
 i9:=by kernel_rfl
 zk:=by kernel_rfl
 k0:=by decide}
theorem zsN:InsAt Tryz.prog zsL "slices.Insert[[]loop.example/changetrail/impl.Tree,loop.example/changetrail/impl.Tree]" Tryz.f185 5 80 (.agg #[.bool false, .int .i64 0, .string ⟨#[]⟩, .slice none 0 0, .slice none 0 0]):={
 mixed:=by kernel_rfl
 f22:=Tryz.func132.trans (congrArg some (by kernel_rfl))
 f29:=Tryz.func185
 on:=by kernel_rfl
 ob:=by kernel_rfl
 ox:=by kernel_rfl
 of_:=by kernel_rfl
 t0:=Tryz.underlying0
 a0:=Tryz.isAgg0
 z0:=Tryz.sizeOf0
 v0:=Tryz.zeroValue0
 t3:=Tryz.underlying3
 a3:=Tryz.isAgg3
 z3:=Tryz.sizeOf3
 v3:=Tryz.zeroValue3
 t4:=Tryz.underlying4
 a4:=Tryz.isAgg4
 z4:=Tryz.sizeOf4
 v4:=Tryz.zeroValue4
 z9:=Tryz.sizeOf37
 t24:=Tryz.underlying35
 a24:=Tryz.isAgg35
 z24:=Tryz.sizeOf35
 v24:=Tryz.zeroValue35
 i9:=by kernel_rfl
 zk:=by kernel_rfl
 k0:=by decide}
end Go.PVx
