/- A part of the proof: PvY1, PvW0, PvW1, PvW2, PvN1, PvN2, PvN3, PvN4, PvN5, PvN6, PvY2, PvY3, PvY4, PvX1, PvX4. -/
import Derived.Test.YtkaclcgkndbppaaGreatDoorDat
import Derived.Test.YtkaclcgkndbppaaGreatDoorTy
import Derived.Test.YtkaclcgkndbppaaGreatDoorExt
import Derived.Lib.AtoiAllCases
set_option linter.unusedSimpArgs false
set_option linter.unusedVariables false
namespace Go.PVx
open Go.PV Go.Proofs
theorem zh6(s:Str):(dataT s).length≤1+2*s.length:=by
 unfold dataT;split
 ·simp
 ·rw[zg7];omega
theorem znZ(a:Int)(h0:0≤a)(h1:a≤1000000):zdW [AV.one (A1.v (Value.int IntKind.i64 a))] []=rS (dec a.toNat):=by
 have:=zpC a.toNat (by omega)
 rwa [show ((a.toNat:Nat):Int)=a by omega]at this
theorem zfz(a:Int)(h1:a≤1000000):(dec a.toNat).length≤7:=zpB a.toNat (by omega)
end Go.PVx
namespace Go.PVx
open Go.PV Go.Proofs
def wE(e:Entry):Nat:=wP e.path+e.data.length
def wU(u:Upper):Nat:=wL wP u.gone+wL wE u.puts
abbrev vU(u:Upper):AV:= .g [.s (u.gone.map ePa), .s (u.puts.map eE)]
theorem zq2{l:List (List Str)}{k:Nat}(h:k<l.length):(l.map ePa).getD k []=[.s (eSs l[k])]:=by
 rw[zbT ePa l k h];rfl
theorem zq3{l:List Entry}{k:Nat}(h:k<l.length):(l.map eE).getD k []=[.s (eSs l[k].path), .v (.int .i64 l[k].what), .v (.bool l[k].dir), .v (.int .i64 l[k].mode), .v (.string (mkS l[k].data))]:=by
 rw[zbT eE l k h];rfl
theorem ziB(l:List (List Str))(hl:l.length≤9223372036854775807)(hX:∀a∈l,zaE [vP a,vP a] []=rB true):zaG [.one (.s (l.map ePa)), .one (.s (l.map ePa))] []=rB true:=by
 have key:∀k,k≤l.length→zaG.L4 (l.map ePa) (l.map ePa) (k:Int)=some zaG.x4:=by
  refine up l.length ?_ fun k hk ih=> ?_
  ·rw[zaG.s4];simp
  ·rw[zaG.s4]
   have h:=hX l[k] (List.getElem_mem hk);simp only[Int.toNat_natCast,zq2 hk,zbC k (by omega),ih]
   simp[hk,h]
 have h0:zaG.L4 (l.map ePa) (l.map ePa) 0=_:=key 0 (by omega)
 rw[zaG.e,h0];simp[zaG.a4x4]
theorem zlm(l:List Entry)(hl:l.length≤9223372036854775807)(hX:∀a∈l,zbU [vE a,vE a] []=rB true):zaW [.one (.s (l.map eE)), .one (.s (l.map eE))] []=rB true:=by
 have key:∀k,k≤l.length→zaW.L4 (l.map eE) (l.map eE) (k:Int)=some zaW.x4:=by
  refine up l.length ?_ fun k hk ih=> ?_
  ·rw[zaW.s4];simp
  ·rw[zaW.s4]
   have h:=hX l[k] (List.getElem_mem hk);simp only[Int.toNat_natCast,zq3 hk,zbC k (by omega),ih]
   simp[hk,h]
 have h0:zaW.L4 (l.map eE) (l.map eE) 0=_:=key 0 (by omega)
 rw[zaW.e,h0];simp[zaW.a4x4]
theorem zjZ(e:Entry)(hw:wE e≤1048576):zbU [vE e,vE e] []=rB true:=by
 have:=zbG e.path;unfold wE at hw;rw[zbU.e,zdf e.path (by omega)]
 have b1:(e.dir !=e.dir)=false:=by simp
 have b2:(e.what !=e.what)=false:=by simp
 have b3:(e.mode !=e.mode)=false:=by simp
 have b4:(e.data==e.data)=true:=by simp
 simp (disch:=omega) only[pvS,pvT,pvC,pvL,pvR,pvN,b1,b2,b3,b4,zbU.p9];try simp
theorem zj0(u:Upper)(hw:wU u≤1048576):zcr [vU u,vU u] []=rB true:=by
 unfold wU at hw;have h1:=zcf wP u.gone;have h2:=zcf wE u.puts;have e1:=ziB u.gone (by omega) (fun p hp=>zdf p (by have:=zc5 wP u.gone p hp;have:=zbG p;omega))
 have e2:=zlm u.puts (by omega) (fun p hp=>zjZ p (by have:=zc5 wE u.puts p hp;omega))
 rw[zcr.e,e1,Option.bind_some];simp (disch:=omega) only[pvS,pvT,pvC,pvL,pvR,pvN,e2]
end Go.PVx
namespace Go.PVx
open Go.PV Go.Proofs
def kindB(e:Entry):Bool:=
 if e.what=1 then !e.dir&&(e.mode==0&&e.data==[])else if e.what=2 then !e.dir||e.data==[]else if e.what=3 then !e.dir&&e.data==[]else if e.what=4 then !e.dir&&e.mode==0 else false
def entB(e:Entry):Bool:=pathB (if e.what=3 then 0 else 1) e.path&&(inB e.mode 0 7&&(decide (e.data.length≤24)&&kindB e))
end Go.PVx
namespace Go.PVx
open Go.PV Go.Proofs
def lineT(d:Bool)(m:Int)(s:Str)(p:List Str):Str:=
 bif d then [100,105,114,32]++pt p++[32]++dec m.toNat++[10]else [102,105,108,101,32]++pt p++[32]++dec m.toNat++[32]++dataT s++[10]
theorem zpI(d:Bool)(m:Int)(s:Str)(p:List Str)(h:m≤1000000):(lineT d m s p).length≤17+wP p+2*s.length:=by
 have h1:=zng p;have h2:=zfz m h;have h3:=zh6 s;unfold lineT;cases d<;>simp only[cond_true,cond_false,List.length_append,List.length_cons,List.length_nil]<;>omega
def putB(e:Entry):Bool:=e.what==2&&bif e.path==[]then e.dir&&(e.data==[]&&inB e.mode 0 7)else entB e
def putL(e:Entry):Str:=lineT e.dir e.mode e.data e.path
theorem zpJ{e:Entry}(h:putB e=true):0≤e.mode∧e.mode≤7:=by
 unfold putB entB inB at h;grind
end Go.PVx
namespace Go.PVx
open Go.PV Go.Proofs
def cutAt(b:UInt8):Str→List Str
 | []=> [[]]
 |c::s=>if c=b then []::cutAt b s else ((c::(cutAt b s).headD [])::(cutAt b s).tail)
end Go.PVx
namespace Go.PVx
open Go.PV Go.Proofs
def valS:Int→Str→Int
 |a,[]=>a
 |a,c::r=>if (c.toNat:Int)<48∨(c.toNat:Int)>57 then-1 else valS (a*10+((c.toNat:Int)-48)) r
def numS(s:Str):Int:=if inB s.length 1 5=false∨(1<s.length∧s.headD 0=48)then-1 else valS 0 s
end Go.PVx
namespace Go.PVx
open Go.PV Go.Proofs
end Go.PVx
namespace Go.PVx
open Go.PV Go.Proofs
def zpK:Nat→Int→List NodeOf→List Str→Option Nodes
 |_,nx,acc,[]=>some ⟨nx,acc⟩
 |i,nx,acc,l::ls=>
  if (cutAt 32 l).length≠2∨30<i then none
  else if i=0 then zpK (i+1) (numS ((cutAt 32 l).getD 1 [])) acc ls
  else zpK (i+1) nx (acc++[⟨numS ((cutAt 32 l).getD 0 []),(cutAt 47 ((cutAt 32 l).getD 1 [])).drop 1⟩]) ls
def linesT(s:Str):List Str:=(cutAt 10 s).dropLast
def RS(s:Str):Option Nodes:=match zpK 0 0 [] (linesT s)with
 |some n=>if okB n=true∧zpD n=s then some n else none
 |none=>none
end Go.PVx
namespace Go.PVx
open Go.PV Go.Proofs
theorem oP_of{p:List Str}(h:wP p≤1048576):oP p:=by
 unfold wP at h;refine ⟨?_,fun x hx=> ?_⟩
 ·have:=zcf List.length p;omega
 ·have:=zc5 List.length p x hx
  unfold sS;omega
end Go.PVx
namespace Go.PVx
open Go.PV Go.Proofs
end Go.PVx
namespace Go.PVx
open Go.PV Go.Proofs
def hx(a b:Int):UInt8:=UInt8.ofNat (16*a+b).toNat
theorem two{α:Type}(s:List α)(k:Nat)(h:k+1<s.length):s.drop k=s[k]::s[k+1]::s.drop (k+2):=by
 rw[zaF s k (by omega),zaF s (k+1) h]
end Go.PVx
namespace Go.PVx
open Go.PV Go.Proofs
end Go.PVx
namespace Go.PVx
open Go.PV Go.Proofs
end Go.PVx
namespace Go.PVx
open Go.PV Go.Proofs
def hideW:Str:=[104,105,100,101]
def gl(g:List Str):Str:=hideW++32::pt g
def pl(e:Entry):Str:=bif e.dir then [100,105,114]++([pt e.path,dec e.mode.toNat].map fun y=>32::y).flatten else [102,105,108,101]++([pt e.path,dec e.mode.toNat,dataT e.data].map fun y=>32::y).flatten
theorem zpL{e:Entry}(h:putB e=true):e.what=2∧(e.dir=true→e.data=[])∧(e.dir=false→e.path≠[])∧(e.path≠[]→pathB 1 e.path=true)∧0≤e.mode∧e.mode≤7:=by
 have hm:=zpJ h;refine ⟨?_, ?_, ?_, ?_,hm⟩
 all_goals
  unfold putB entB kindB at h;grind
end Go.PVx
namespace Go.PVx
open Go.PV Go.Proofs
end Go.PVx
