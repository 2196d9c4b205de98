/- A part of the proof: PvUoTab. -/
import Derived.Test.YtkaclcgkndbppaaGreatDoorProg
import Derived.Test.YtkaclcgkndbppaaGreatDoorPvC
import Derived.KernelRfl
import Derived.Test.YtkaclcgkndbppaaGreatDoorExt
import Derived.Test.YtkaclcgkndbppaaGreatDoorBld
import Derived.Test.YtkaclcgkndbppaaGreatDoorIns
import Derived.Test.YtkaclcgkndbppaaGreatDoorSrt
set_option linter.unusedSimpArgs false
set_option linter.unusedVariables false
namespace Go.PVx
open Go.PV Go.Proofs
abbrev runOk(fn:Go.Func)(xs:List AV)(os:List PV.Obj):Bool:=decide (xs.length≤fn.ntmps)&&decide (os.length+fn.ntmps<1000000000)&& !(fn.name== "runtime.NumGoroutine")
def sigs:FuncId→Sig
 |131=>{con:=[0,2],res:= .one (.own .deep)}
 |132=>{con:=[0,2],res:= .one (.own .deep)}
 |156=>{mu:=[0],res:= .tup [(false,[.int .i64]),(false,[.any])]}
 |162=>{mu:=[0],res:= .one (.str)}
 |201=>{res:= .one (.str)}
 |202=>{res:= .one (.str)}
 |218=>{mu:=[0],res:= .none}
 |219=>{con:=[0],res:= .one (.own .deep)}
 |10=>{res:= .one (.bool)}
 |14=>{res:= .one (.int .i64)}
 |15=>{res:= .one (.int .i64)}
 |17=>{res:= .one (.own .deep)}
 |18=>{res:= .one (.own .deep)}
 |20=>{res:= .one (.bool)}
 |21=>{res:= .one (.bool)}
 |24=>{res:= .tup [(true,[.bool, .int .i64, .str, .own .deep, .own .deep]),(false,[.bool])]}
 |25=>{res:= .tup [(true,[.bool, .int .i64, .str, .own .deep, .own .deep]),(false,[.bool])]}
 |26=>{res:= .one (.bool)}
 |27=>{mu:=[0],res:= .one (.int .i64)}
 |28=>{mu:=[0],res:= .one (.int .i64)}
 |32=>{mu:=[0],res:= .one (.int .i64)}
 |33=>{res:= .one (.int .i64)}
 |34=>{res:= .one (.int .i64)}
 |36=>{res:= .agg [.bool, .int .i64, .str, .own .deep, .own .deep]}
 |43=>{res:= .one (.bool)}
 |44=>{mu:=[0],res:= .one (.int .i64)}
 |45=>{res:= .one (.int .i64)}
 |48=>{res:= .tup [(true,[.own .deep, .own .deep]),(false,[.bool])]}
 |49=>{res:= .tup [(true,[.own .deep, .own .deep]),(false,[.bool])]}
 |58=>{res:= .one (.int .i64)}
 |60=>{res:= .one (.bool)}
 |61=>{res:= .agg [.own .deep, .bool, .int .i64, .str, .int .i64]}
 |64=>{res:= .one (.bool)}
 |65=>{res:= .one (.bool)}
 |66=>{res:= .one (.bool)}
 |68=>{res:= .one (.bool)}
 |69=>{res:= .tup [(true,[.bool, .int .i64, .str, .sh, .sh]),(false,[.bool])]}
 |70=>{res:= .one (.own .deep)}
 |71=>{res:= .one (.bool)}
 |72=>{res:= .agg [.bool, .int .i64, .str, .own .deep, .own .deep]}
 |73=>{res:= .one (.bool)}
 |74=>{res:= .one (.ptr 0)}
 |75=>{mu:=[0],con:=[2],res:= .none}
 |76=>{res:= .one (.bool)}
 |77=>{res:= .one (.bool)}
 |78=>{res:= .one (.own .deep)}
 |79=>{res:= .one (.bool)}
 |80=>{res:= .agg [.bool, .int .i64, .str, .own .deep, .own .deep]}
 |81=>{res:= .one (.bool)}
 |82=>{res:= .one (.str)}
 |83=>{mu:=[0],res:= .one (.int .i64)}
 |85=>{res:= .one (.int .i64)}
 |86=>{res:= .one (.bool)}
 |88=>{res:= .one (.own .deep)}
 |107=>{res:= .one (.bool)}
 |108=>{res:= .one (.bool)}
 |109=>{mu:=[0],res:= .one (.int .i64)}
 |110=>{mu:=[0],res:= .one (.int .i64)}
 |111=>{res:= .one (.int .i64)}
 |112=>{res:= .one (.int .i64)}
 |115=>{res:= .agg [.own .deep, .own .deep]}
 |116=>{res:= .agg [.own .deep, .own .deep]}
 |125=>{res:= .one (.bool)}
 |126=>{res:= .one (.bool)}
 |127=>{res:= .one (.int .i64)}
 |128=>{res:= .one (.own .deep)}
 |129=>{res:= .one (.ptr 0)}
 |130=>{res:= .tup [(false,[.int .i64]),(false,[.bool])]}
 |133=>{res:= .one (.bool)}
 |134=>{res:= .one (.int .i64)}
 |135=>{mu:=[2],res:= .none}
 |136=>{mu:=[2],res:= .none}
 |137=>{res:= .one (.int .i64)}
 |138=>{res:= .one (.bool)}
 |139=>{res:= .one (.int .i64)}
 |149=>{res:= .one (.str)}
 |157=>{res:= .one (.str)}
 |158=>{res:= .one (.bool)}
 |160=>{res:= .one (.str)}
 |163=>{res:= .one (.bool)}
 |164=>{res:= .one (.str)}
 |165=>{res:= .one (.str)}
 |166=>{res:= .one (.own .deep)}
 |167=>{res:= .tup [(true,[.bool, .int .i64, .str, .sh, .sh]),(false,[.bool])]}
 |168=>{res:= .one (.own .deep)}
 |169=>{res:= .one (.bool)}
 |170=>{res:= .one (.bool)}
 |173=>{res:= .one .sh}
 |179=>{res:= .one (.int .i64)}
 |180=>{res:= .one (.int .i64)}
 |181=>{res:= .one (.bool)}
 |182=>{res:= .one (.bool)}
 |187=>{res:= .one (.bool)}
 |188=>{res:= .one (.own .deep)}
 |189=>{res:= .one (.bool)}
 |193=>{res:= .one (.str)}
 |194=>{res:= .one (.str)}
 |203=>{res:= .one (.str)}
 |204=>{res:= .none}
 |205=>{res:= .one (.own .deep)}
 |206=>{res:= .one (.own .deep)}
 |207=>{res:= .one (.own .deep)}
 |208=>{res:= .one (.own .deep)}
 |209=>{res:= .agg [.own .deep, .int .i64, .bool, .int .i64, .str]}
 |210=>{res:= .one (.own .deep)}
 |211=>{res:= .one (.own .deep)}
 |212=>{res:= .one (.int .i64)}
 |223=>{res:= .one (.int .i64)}
 |224=>{res:= .one (.bool)}
 |236=>{res:= .one (.str)}
 |237=>{mu:=[2],res:= .none}
 |_=>{res:= .none}
def lives:FuncId→Nat→List Nat×List Nat
 |10,100009=>([0,3,6,7],[1])
 |10,100013=>([0,3,6,7,8,9,10,11,53],[1])
 |10,100014=>([0,3,6,7,8,9,10,11],[1])
 |10,100021=>([0,3,6,7,10,11,12],[1])
 |10,100022=>([0,3,6,7,10,82],[1])
 |10,100023=>([0,3,6,7,10],[1])
 |10,100032=>([6,7,10,13,15,16],[1])
 |10,100033=>([10,13,110],[1])
 |10,100034=>([10,13],[1])
 |14,5=>([0,1,5],[1,4])
 |15,5=>([0,1,5],[1,4])
 |17,3=>([0,3,4],[3])
 |18,3=>([0,3,4],[3])
 |20,4=>([0,1,5],[4])
 |21,4=>([0,1,5],[4])
 |24,5=>([0,2,4,5],[0,2,3,4])
 |24,18=>([0,2,4,9,10],[2,3,4])
 |24,100002=>([0,2,26],[1])
 |24,100003=>([0,2],[1])
 |24,100011=>([0,2,4,5,7,8],[1])
 |25,5=>([0,2,4,28,29,30],[0,2,3,4])
 |25,100005=>([0,2,4,28,29,30],[1])
 |25,100011=>([0,2,4,6,7,8,28,29,30],[1])
 |25,100016=>([2,4,75],[1])
 |25,100017=>([2,4],[1])
 |26,100009=>([2,3],[1])
 |27,2=>([0,1,5],[1])
 |27,100008=>([0,1,5],[1])
 |32,2=>([0,1,5],[1])
 |33,2=>([0,1,5],[1,4])
 |34,100008=>([1],[1])
 |48,100003=>([3,4,6,19],[1])
 |48,100004=>([3,4,6],[1])
 |49,100003=>([3,4,6,19],[1])
 |49,100004=>([3,4,6],[1])
 |64,4=>([0,1,12,13],[4])
 |65,100009=>([2,3],[1])
 |66,4=>([0,1,5],[4])
 |68,2=>([0,3],[0,2])
 |69,100003=>([1,3,5,6,8,29],[1])
 |69,100007=>([1,3,5,6,8,9],[1])
 |72,3=>([1,2,3,4],[2,3])
 |74,2=>([0,7,8,9],[0,4])
 |74,100005=>([0,7,8,9],[1])
 |75,100005=>([0,5,6],[1])
 |77,4=>([1,2,15,16,17],[6])
 |80,3=>([1,2,3,8,9,10],[1,2,3])
 |81,4=>([0,1,5],[4])
 |82,4=>([0,3],[3])
 |83,2=>([0,1,5],[1])
 |83,100009=>([0,1,5],[1])
 |85,5=>([0,1,5],[1,4])
 |88,3=>([0,3,4],[3])
 |107,4=>([0,1,5],[4])
 |108,4=>([0,1,5],[4])
 |109,2=>([0,1,5],[1])
 |110,2=>([0,1,5],[1])
 |110,100008=>([0,1,5],[1])
 |111,2=>([0,1,5],[1,4])
 |112,2=>([0,1,5],[1,4])
 |112,100010=>([0,1,5],[1])
 |112,100017=>([0,1,5,57],[1])
 |115,4=>([3,4,5,6,7],[4,6])
 |115,100010=>([3,4,5,6,7,8,9],[1])
 |115,100011=>([3,4,5,6,7,8],[1])
 |116,3=>([3,4,5,12,13,14],[4,5])
 |116,100009=>([3,4,5,7,8,12,13,14],[1])
 |125,2=>([0,3],[0,2])
 |125,100005=>([0,3,32],[1])
 |127,2=>([1,2,5],[4])
 |128,3=>([0,3,5,6],[5])
 |129,100003=>([0,5,22],[1])
 |129,100004=>([0,5],[1])
 |130,3=>([0,1,6,7,8],[0,1,6,7])
 |133,8=>([1,2,41,42,43],[4])
 |133,100002=>([1,2,23],[1])
 |133,100003=>([1,2],[1])
 |133,100011=>([1,2,41,42,43,75],[1])
 |134,3=>([3,7,8,9],[3])
 |135,3=>([1,2,3,13,14,15],[])
 |137,4=>([3,4,9,10],[3])
 |138,4=>([1,2,5],[4])
 |138,100002=>([1,2,12],[1])
 |138,100003=>([1,2],[1])
 |139,3=>([1,3,4],[3])
 |163,100009=>([2,3],[1])
 |164,3=>([0,3,5,6],[5])
 |166,6=>([0,4,5,7,8,9],[7])
 |166,100006=>([0,4,5,7,8,9],[1])
 |166,100010=>([0,4,5,7,8,9],[1])
 |166,100011=>([0,4,5,7,8,9,61],[1])
 |166,100014=>([0,4,5,7,8,9,99],[1])
 |168,9=>([0,1,2,7,53,54,55],[7])
 |168,100007=>([0,1,2],[1])
 |180,2=>([0,1,7,8],[4])
 |187,2=>([0,5,6],[0,2])
 |187,100005=>([0,5,6,30],[1])
 |189,6=>([1,3],[1,2])
 |189,100002=>([1,16],[1])
 |189,100003=>([1],[1])
 |189,100009=>([1,3,61],[1])
 |194,3=>([0,3,4],[3])
 |206,3=>([0,3,5,6],[5])
 |207,100004=>([0,4,5,7],[1])
 |210,100004=>([0,4,5,7],[1])
 |212,2=>([0,1,7,8],[4])
 |223,3=>([0,3,4],[3])
 |236,3=>([0,3,4],[3])
 |_,_=>([],[])
def mvs:FuncId→Nat→Nat→Bool
 |24,2,1=>true
 |24,9,1=>true
 |24,12,1=>true
 |24,16,1=>true
 |24,21,1=>true
 |24,22,2=>true
 |25,2,1=>true
 |25,8,1=>true
 |25,12,1=>true
 |25,16,1=>true
 |25,17,2=>true
 |28,0,0=>true
 |36,7,1=>true
 |44,0,0=>true
 |48,3,1=>true
 |48,4,3=>true
 |49,3,1=>true
 |49,4,3=>true
 |61,7,1=>true
 |69,5,1=>true
 |69,8,1=>true
 |69,11,2=>true
 |72,6,1=>true
 |75,3,7=>true
 |75,5,7=>true
 |80,9,1=>true
 |115,13,1=>true
 |116,4,3=>true
 |116,6,4=>true
 |116,9,17=>true
 |116,11,1=>true
 |165,1,2=>true
 |165,1,3=>true
 |167,2,1=>true
 |167,5,1=>true
 |167,6,10=>true
 |209,1,4=>true
 |_,_,_=>false
noncomputable def exts:FuncId→Option (List AV→List PV.Obj→Option Res)
 |131=>some (zc6 1)
 |132=>some (zc6 5)
 |156=>some (zeQ 170 5)
 |162=>some (zep 170 5)
 |201=>some zgA
 |202=>some zhU
 |218=>some zfY
 |219=>some zdU
 |_=>none
def GL:List (Nat×List D):=[(5,Lib.pow10Tab.map fun z=> .v (.int .u64 z))]
noncomputable def Y:Prm:={P:=Tryz.prog,sig:=sigs,mv:=mvs,live:=lives,ext:=exts,gl:=GL,bt:=fun t=>bif t==170 then some 5 else none}
noncomputable def XX:Ctx:=Y.ctx (lim' Y)
noncomputable def zag(xs:List AV)(os:List PV.Obj):Option Res:=lim' Y 10 xs os
theorem zaM(f:FuncId)(fn:Go.Func)(cd:Code)(hx:Y.ext f=none)(hf:Y.P.funcs[f]? =some fn)(hb:fn.body=some cd)(xs:List AV)(os:List PV.Obj)(hc:runOk fn xs os=true):lim' Y f xs os=evK XX f (lpL XX f) cd (zdy fn xs os GL) (outE XX f fn):=
 lim_eq (Y:=Y) (f:=f) (fn:=fn) (cd:=cd) hx hf hb xs os hc
noncomputable def zag.c:Code:=zaL Tryz.f10
abbrev zag.run:=zaM 10 Tryz.f10 zag.c rfl Tryz.func10 (by kernel_rfl)
noncomputable def zbb(xs:List AV)(os:List PV.Obj):Option Res:=lim' Y 14 xs os
noncomputable def zbb.c:Code:=zaL Tryz.f14
abbrev zbb.run:=zaM 14 Tryz.f14 zbb.c rfl Tryz.func14 (by kernel_rfl)
noncomputable def zaA(xs:List AV)(os:List PV.Obj):Option Res:=lim' Y 15 xs os
noncomputable def zaA.c:Code:=zaL Tryz.f15
abbrev zaA.run:=zaM 15 Tryz.f15 zaA.c rfl Tryz.func15 (by kernel_rfl)
noncomputable def zbj(xs:List AV)(os:List PV.Obj):Option Res:=lim' Y 17 xs os
noncomputable def zbj.c:Code:=zaL Tryz.f17
abbrev zbj.run:=zaM 17 Tryz.f17 zbj.c rfl Tryz.func17 (by kernel_rfl)
noncomputable def zaT(xs:List AV)(os:List PV.Obj):Option Res:=lim' Y 18 xs os
noncomputable def zaT.c:Code:=zaL Tryz.f18
abbrev zaT.run:=zaM 18 Tryz.f18 zaT.c rfl Tryz.func18 (by kernel_rfl)
noncomputable def zbl(xs:List AV)(os:List PV.Obj):Option Res:=lim' Y 20 xs os
noncomputable def zbl.c:Code:=zaL Tryz.f20
abbrev zbl.run:=zaM 20 Tryz.f20 zbl.c rfl Tryz.func20 (by kernel_rfl)
noncomputable def zaE(xs:List AV)(os:List PV.Obj):Option Res:=lim' Y 21 xs os
noncomputable def zaE.c:Code:=zaL Tryz.f21
abbrev zaE.run:=zaM 21 Tryz.f21 zaE.c rfl Tryz.func21 (by kernel_rfl)
noncomputable def zab(xs:List AV)(os:List PV.Obj):Option Res:=lim' Y 24 xs os
noncomputable def zab.c:Code:=zaL Tryz.f24
abbrev zab.run:=zaM 24 Tryz.f24 zab.c rfl Tryz.func24 (by kernel_rfl)
noncomputable def zah(xs:List AV)(os:List PV.Obj):Option Res:=lim' Y 25 xs os
noncomputable def zah.c:Code:=zaL Tryz.f25
abbrev zah.run:=zaM 25 Tryz.f25 zah.c rfl Tryz.func25 (by kernel_rfl)
noncomputable def zb9(xs:List AV)(os:List PV.Obj):Option Res:=lim' Y 26 xs os
noncomputable def zb9.c:Code:=zaL Tryz.f26
abbrev zb9.run:=zaM 26 Tryz.f26 zb9.c rfl Tryz.func26 (by kernel_rfl)
noncomputable def zaR(xs:List AV)(os:List PV.Obj):Option Res:=lim' Y 27 xs os
noncomputable def zaR.c:Code:=zaL Tryz.f27
abbrev zaR.run:=zaM 27 Tryz.f27 zaR.c rfl Tryz.func27 (by kernel_rfl)
noncomputable def zcF(xs:List AV)(os:List PV.Obj):Option Res:=lim' Y 28 xs os
noncomputable def zcF.c:Code:=zaL Tryz.f28
abbrev zcF.run:=zaM 28 Tryz.f28 zcF.c rfl Tryz.func28 (by kernel_rfl)
noncomputable def zas(xs:List AV)(os:List PV.Obj):Option Res:=lim' Y 32 xs os
noncomputable def zas.c:Code:=zaL Tryz.f32
abbrev zas.run:=zaM 32 Tryz.f32 zas.c rfl Tryz.func32 (by kernel_rfl)
noncomputable def zav(xs:List AV)(os:List PV.Obj):Option Res:=lim' Y 33 xs os
noncomputable def zav.c:Code:=zaL Tryz.f33
abbrev zav.run:=zaM 33 Tryz.f33 zav.c rfl Tryz.func33 (by kernel_rfl)
noncomputable def zbY(xs:List AV)(os:List PV.Obj):Option Res:=lim' Y 34 xs os
noncomputable def zbY.c:Code:=zaL Tryz.f34
abbrev zbY.run:=zaM 34 Tryz.f34 zbY.c rfl Tryz.func34 (by kernel_rfl)
noncomputable def zck(xs:List AV)(os:List PV.Obj):Option Res:=lim' Y 36 xs os
noncomputable def zck.c:Code:=zaL Tryz.f36
abbrev zck.run:=zaM 36 Tryz.f36 zck.c rfl Tryz.func36 (by kernel_rfl)
noncomputable def zcr(xs:List AV)(os:List PV.Obj):Option Res:=lim' Y 43 xs os
noncomputable def zcr.c:Code:=zaL Tryz.f43
abbrev zcr.run:=zaM 43 Tryz.f43 zcr.c rfl Tryz.func43 (by kernel_rfl)
noncomputable def zcl(xs:List AV)(os:List PV.Obj):Option Res:=lim' Y 44 xs os
noncomputable def zcl.c:Code:=zaL Tryz.f44
abbrev zcl.run:=zaM 44 Tryz.f44 zcl.c rfl Tryz.func44 (by kernel_rfl)
noncomputable def zb0(xs:List AV)(os:List PV.Obj):Option Res:=lim' Y 45 xs os
noncomputable def zb0.c:Code:=zaL Tryz.f45
abbrev zb0.run:=zaM 45 Tryz.f45 zb0.c rfl Tryz.func45 (by kernel_rfl)
noncomputable def zbv(xs:List AV)(os:List PV.Obj):Option Res:=lim' Y 48 xs os
noncomputable def zbv.c:Code:=zaL Tryz.f48
abbrev zbv.run:=zaM 48 Tryz.f48 zbv.c rfl Tryz.func48 (by kernel_rfl)
noncomputable def zbq(xs:List AV)(os:List PV.Obj):Option Res:=lim' Y 49 xs os
noncomputable def zbq.c:Code:=zaL Tryz.f49
abbrev zbq.run:=zaM 49 Tryz.f49 zbq.c rfl Tryz.func49 (by kernel_rfl)
noncomputable def zeq(xs:List AV)(os:List PV.Obj):Option Res:=lim' Y 58 xs os
noncomputable def zeq.c:Code:=zaL Tryz.f58
abbrev zeq.run:=zaM 58 Tryz.f58 zeq.c rfl Tryz.func58 (by kernel_rfl)
noncomputable def zcL(xs:List AV)(os:List PV.Obj):Option Res:=lim' Y 60 xs os
noncomputable def zcL.c:Code:=zaL Tryz.f60
abbrev zcL.run:=zaM 60 Tryz.f60 zcL.c rfl Tryz.func60 (by kernel_rfl)
noncomputable def zeI(xs:List AV)(os:List PV.Obj):Option Res:=lim' Y 61 xs os
noncomputable def zeI.c:Code:=zaL Tryz.f61
abbrev zeI.run:=zaM 61 Tryz.f61 zeI.c rfl Tryz.func61 (by kernel_rfl)
noncomputable def zad(xs:List AV)(os:List PV.Obj):Option Res:=lim' Y 64 xs os
noncomputable def zad.c:Code:=zaL Tryz.f64
abbrev zad.run:=zaM 64 Tryz.f64 zad.c rfl Tryz.func64 (by kernel_rfl)
noncomputable def zc7(xs:List AV)(os:List PV.Obj):Option Res:=lim' Y 65 xs os
noncomputable def zc7.c:Code:=zaL Tryz.f65
abbrev zc7.run:=zaM 65 Tryz.f65 zc7.c rfl Tryz.func65 (by kernel_rfl)
noncomputable def zaQ(xs:List AV)(os:List PV.Obj):Option Res:=lim' Y 66 xs os
noncomputable def zaQ.c:Code:=zaL Tryz.f66
abbrev zaQ.run:=zaM 66 Tryz.f66 zaQ.c rfl Tryz.func66 (by kernel_rfl)
noncomputable def zaN(xs:List AV)(os:List PV.Obj):Option Res:=lim' Y 68 xs os
noncomputable def zaN.c:Code:=zaL Tryz.f68
abbrev zaN.run:=zaM 68 Tryz.f68 zaN.c rfl Tryz.func68 (by kernel_rfl)
noncomputable def zbL(xs:List AV)(os:List PV.Obj):Option Res:=lim' Y 69 xs os
noncomputable def zbL.c:Code:=zaL Tryz.f69
abbrev zbL.run:=zaM 69 Tryz.f69 zbL.c rfl Tryz.func69 (by kernel_rfl)
noncomputable def zb1(xs:List AV)(os:List PV.Obj):Option Res:=lim' Y 70 xs os
noncomputable def zb1.c:Code:=zaL Tryz.f70
abbrev zb1.run:=zaM 70 Tryz.f70 zb1.c rfl Tryz.func70 (by kernel_rfl)
noncomputable def zcM(xs:List AV)(os:List PV.Obj):Option Res:=lim' Y 71 xs os
noncomputable def zcM.c:Code:=zaL Tryz.f71
abbrev zcM.run:=zaM 71 Tryz.f71 zcM.c rfl Tryz.func71 (by kernel_rfl)
noncomputable def zbo(xs:List AV)(os:List PV.Obj):Option Res:=lim' Y 72 xs os
noncomputable def zbo.c:Code:=zaL Tryz.f72
abbrev zbo.run:=zaM 72 Tryz.f72 zbo.c rfl Tryz.func72 (by kernel_rfl)
noncomputable def zcT(xs:List AV)(os:List PV.Obj):Option Res:=lim' Y 73 xs os
noncomputable def zcT.c:Code:=zaL Tryz.f73
abbrev zcT.run:=zaM 73 Tryz.f73 zcT.c rfl Tryz.func73 (by kernel_rfl)
noncomputable def zam(xs:List AV)(os:List PV.Obj):Option Res:=lim' Y 74 xs os
noncomputable def zam.c:Code:=zaL Tryz.f74
abbrev zam.run:=zaM 74 Tryz.f74 zam.c rfl Tryz.func74 (by kernel_rfl)
noncomputable def zcu(xs:List AV)(os:List PV.Obj):Option Res:=lim' Y 75 xs os
noncomputable def zcu.c:Code:=zaL Tryz.f75
abbrev zcu.run:=zaM 75 Tryz.f75 zcu.c rfl Tryz.func75 (by kernel_rfl)
noncomputable def zdq(xs:List AV)(os:List PV.Obj):Option Res:=lim' Y 76 xs os
noncomputable def zdq.c:Code:=zaL Tryz.f76
abbrev zdq.run:=zaM 76 Tryz.f76 zdq.c rfl Tryz.func76 (by kernel_rfl)
noncomputable def zaa(xs:List AV)(os:List PV.Obj):Option Res:=lim' Y 77 xs os
noncomputable def zaa.c:Code:=zaL Tryz.f77
abbrev zaa.run:=zaM 77 Tryz.f77 zaa.c rfl Tryz.func77 (by kernel_rfl)
noncomputable def zb4(xs:List AV)(os:List PV.Obj):Option Res:=lim' Y 78 xs os
noncomputable def zb4.c:Code:=zaL Tryz.f78
abbrev zb4.run:=zaM 78 Tryz.f78 zb4.c rfl Tryz.func78 (by kernel_rfl)
abbrev zb7.id:FuncId:=79
noncomputable def zb7(xs:List AV)(os:List PV.Obj):Option Res:=lim' Y 79 xs os
noncomputable def zb7.c:Code:=zaL Tryz.f79
abbrev zb7.run:=zaM 79 Tryz.f79 zb7.c rfl Tryz.func79 (by kernel_rfl)
noncomputable def zaI(xs:List AV)(os:List PV.Obj):Option Res:=lim' Y 80 xs os
noncomputable def zaI.c:Code:=zaL Tryz.f80
abbrev zaI.run:=zaM 80 Tryz.f80 zaI.c rfl Tryz.func80 (by kernel_rfl)
noncomputable def za6(xs:List AV)(os:List PV.Obj):Option Res:=lim' Y 81 xs os
noncomputable def za6.c:Code:=zaL Tryz.f81
abbrev za6.run:=zaM 81 Tryz.f81 za6.c rfl Tryz.func81 (by kernel_rfl)
noncomputable def zaJ(xs:List AV)(os:List PV.Obj):Option Res:=lim' Y 82 xs os
noncomputable def zaJ.c:Code:=zaL Tryz.f82
abbrev zaJ.run:=zaM 82 Tryz.f82 zaJ.c rfl Tryz.func82 (by kernel_rfl)
noncomputable def zay(xs:List AV)(os:List PV.Obj):Option Res:=lim' Y 83 xs os
noncomputable def zay.c:Code:=zaL Tryz.f83
abbrev zay.run:=zaM 83 Tryz.f83 zay.c rfl Tryz.func83 (by kernel_rfl)
noncomputable def zaY(xs:List AV)(os:List PV.Obj):Option Res:=lim' Y 85 xs os
noncomputable def zaY.c:Code:=zaL Tryz.f85
abbrev zaY.run:=zaM 85 Tryz.f85 zaY.c rfl Tryz.func85 (by kernel_rfl)
noncomputable def zdr(xs:List AV)(os:List PV.Obj):Option Res:=lim' Y 86 xs os
noncomputable def zdr.c:Code:=zaL Tryz.f86
abbrev zdr.run:=zaM 86 Tryz.f86 zdr.c rfl Tryz.func86 (by kernel_rfl)
noncomputable def zbf(xs:List AV)(os:List PV.Obj):Option Res:=lim' Y 88 xs os
noncomputable def zbf.c:Code:=zaL Tryz.f88
abbrev zbf.run:=zaM 88 Tryz.f88 zbf.c rfl Tryz.func88 (by kernel_rfl)
noncomputable def zaG(xs:List AV)(os:List PV.Obj):Option Res:=lim' Y 107 xs os
noncomputable def zaG.c:Code:=zaL Tryz.f107
abbrev zaG.run:=zaM 107 Tryz.f107 zaG.c rfl Tryz.func107 (by kernel_rfl)
noncomputable def zaW(xs:List AV)(os:List PV.Obj):Option Res:=lim' Y 108 xs os
noncomputable def zaW.c:Code:=zaL Tryz.f108
abbrev zaW.run:=zaM 108 Tryz.f108 zaW.c rfl Tryz.func108 (by kernel_rfl)
noncomputable def zax(xs:List AV)(os:List PV.Obj):Option Res:=lim' Y 109 xs os
noncomputable def zax.c:Code:=zaL Tryz.f109
abbrev zax.run:=zaM 109 Tryz.f109 zax.c rfl Tryz.func109 (by kernel_rfl)
noncomputable def zaw(xs:List AV)(os:List PV.Obj):Option Res:=lim' Y 110 xs os
noncomputable def zaw.c:Code:=zaL Tryz.f110
abbrev zaw.run:=zaM 110 Tryz.f110 zaw.c rfl Tryz.func110 (by kernel_rfl)
noncomputable def zat(xs:List AV)(os:List PV.Obj):Option Res:=lim' Y 111 xs os
noncomputable def zat.c:Code:=zaL Tryz.f111
abbrev zat.run:=zaM 111 Tryz.f111 zat.c rfl Tryz.func111 (by kernel_rfl)
noncomputable def zal(xs:List AV)(os:List PV.Obj):Option Res:=lim' Y 112 xs os
noncomputable def zal.c:Code:=zaL Tryz.f112
abbrev zal.run:=zaM 112 Tryz.f112 zal.c rfl Tryz.func112 (by kernel_rfl)
noncomputable def zaX(xs:List AV)(os:List PV.Obj):Option Res:=lim' Y 115 xs os
noncomputable def zaX.c:Code:=zaL Tryz.f115
abbrev zaX.run:=zaM 115 Tryz.f115 zaX.c rfl Tryz.func115 (by kernel_rfl)
noncomputable def zaK(xs:List AV)(os:List PV.Obj):Option Res:=lim' Y 116 xs os
noncomputable def zaK.c:Code:=zaL Tryz.f116
abbrev zaK.run:=zaM 116 Tryz.f116 zaK.c rfl Tryz.func116 (by kernel_rfl)
noncomputable def zau(xs:List AV)(os:List PV.Obj):Option Res:=lim' Y 125 xs os
noncomputable def zau.c:Code:=zaL Tryz.f125
abbrev zau.run:=zaM 125 Tryz.f125 zau.c rfl Tryz.func125 (by kernel_rfl)
noncomputable def sl1In(xs:List AV)(os:List PV.Obj):Option Res:=lim' Y 126 xs os
noncomputable def sl1In.c:Code:=zaL Tryz.f126
abbrev sl1In.run:=zaM 126 Tryz.f126 sl1In.c rfl Tryz.func126 (by kernel_rfl)
noncomputable def zbd(xs:List AV)(os:List PV.Obj):Option Res:=lim' Y 127 xs os
noncomputable def zbd.c:Code:=zaL Tryz.f127
abbrev zbd.run:=zaM 127 Tryz.f127 zbd.c rfl Tryz.func127 (by kernel_rfl)
noncomputable def za9(xs:List AV)(os:List PV.Obj):Option Res:=lim' Y 128 xs os
noncomputable def za9.c:Code:=zaL Tryz.f128
abbrev za9.run:=zaM 128 Tryz.f128 za9.c rfl Tryz.func128 (by kernel_rfl)
noncomputable def za5(xs:List AV)(os:List PV.Obj):Option Res:=lim' Y 129 xs os
noncomputable def za5.c:Code:=zaL Tryz.f129
abbrev za5.run:=zaM 129 Tryz.f129 za5.c rfl Tryz.func129 (by kernel_rfl)
noncomputable def zae(xs:List AV)(os:List PV.Obj):Option Res:=lim' Y 130 xs os
noncomputable def zae.c:Code:=zaL Tryz.f130
abbrev zae.run:=zaM 130 Tryz.f130 zae.c rfl Tryz.func130 (by kernel_rfl)
noncomputable def zbk(xs:List AV)(os:List PV.Obj):Option Res:=lim' Y 131 xs os
theorem zbk.ext(xs:List AV)(os:List PV.Obj):zbk xs os=(zc6 1) xs os:=zd8 (Y:=Y) rfl xs os
noncomputable def zbh(xs:List AV)(os:List PV.Obj):Option Res:=lim' Y 132 xs os
theorem zbh.ext(xs:List AV)(os:List PV.Obj):zbh xs os=(zc6 5) xs os:=zd8 (Y:=Y) rfl xs os
noncomputable def zai(xs:List AV)(os:List PV.Obj):Option Res:=lim' Y 133 xs os
noncomputable def zai.c:Code:=zaL Tryz.f133
abbrev zai.run:=zaM 133 Tryz.f133 zai.c rfl Tryz.func133 (by kernel_rfl)
noncomputable def zaH(xs:List AV)(os:List PV.Obj):Option Res:=lim' Y 134 xs os
noncomputable def zaH.c:Code:=zaL Tryz.f134
abbrev zaH.run:=zaM 134 Tryz.f134 zaH.c rfl Tryz.func134 (by kernel_rfl)
noncomputable def zaU(xs:List AV)(os:List PV.Obj):Option Res:=lim' Y 135 xs os
noncomputable def zaU.c:Code:=zaL Tryz.f135
abbrev zaU.run:=zaM 135 Tryz.f135 zaU.c rfl Tryz.func135 (by kernel_rfl)
abbrev za4.id:FuncId:=136
noncomputable def za4(xs:List AV)(os:List PV.Obj):Option Res:=lim' Y 136 xs os
noncomputable def za4.c:Code:=zaL Tryz.f136
abbrev za4.run:=zaM 136 Tryz.f136 za4.c rfl Tryz.func136 (by kernel_rfl)
noncomputable def zbg(xs:List AV)(os:List PV.Obj):Option Res:=lim' Y 137 xs os
noncomputable def zbg.c:Code:=zaL Tryz.f137
abbrev zbg.run:=zaM 137 Tryz.f137 zbg.c rfl Tryz.func137 (by kernel_rfl)
noncomputable def zaB(xs:List AV)(os:List PV.Obj):Option Res:=lim' Y 138 xs os
noncomputable def zaB.c:Code:=zaL Tryz.f138
abbrev zaB.run:=zaM 138 Tryz.f138 zaB.c rfl Tryz.func138 (by kernel_rfl)
noncomputable def zba(xs:List AV)(os:List PV.Obj):Option Res:=lim' Y 139 xs os
noncomputable def zba.c:Code:=zaL Tryz.f139
abbrev zba.run:=zaM 139 Tryz.f139 zba.c rfl Tryz.func139 (by kernel_rfl)
noncomputable def zds(xs:List AV)(os:List PV.Obj):Option Res:=lim' Y 149 xs os
noncomputable def zds.c:Code:=zaL Tryz.f149
abbrev zds.run:=zaM 149 Tryz.f149 zds.c rfl Tryz.func149 (by kernel_rfl)
noncomputable def zbp(xs:List AV)(os:List PV.Obj):Option Res:=lim' Y 156 xs os
theorem zbp.ext(xs:List AV)(os:List PV.Obj):zbp xs os=(zeQ 170 5) xs os:=zd8 (Y:=Y) rfl xs os
noncomputable def zcv(xs:List AV)(os:List PV.Obj):Option Res:=lim' Y 157 xs os
noncomputable def zcv.c:Code:=zaL Tryz.f157
abbrev zcv.run:=zaM 157 Tryz.f157 zcv.c rfl Tryz.func157 (by kernel_rfl)
noncomputable def zdV(xs:List AV)(os:List PV.Obj):Option Res:=lim' Y 158 xs os
noncomputable def zdV.c:Code:=zaL Tryz.f158
abbrev zdV.run:=zaM 158 Tryz.f158 zdV.c rfl Tryz.func158 (by kernel_rfl)
noncomputable def zcm(xs:List AV)(os:List PV.Obj):Option Res:=lim' Y 160 xs os
noncomputable def zcm.c:Code:=zaL Tryz.f160
abbrev zcm.run:=zaM 160 Tryz.f160 zcm.c rfl Tryz.func160 (by kernel_rfl)
noncomputable def zbB(xs:List AV)(os:List PV.Obj):Option Res:=lim' Y 162 xs os
theorem zbB.ext(xs:List AV)(os:List PV.Obj):zbB xs os=(zep 170 5) xs os:=zd8 (Y:=Y) rfl xs os
noncomputable def zbU(xs:List AV)(os:List PV.Obj):Option Res:=lim' Y 163 xs os
noncomputable def zbU.c:Code:=zaL Tryz.f163
abbrev zbU.run:=zaM 163 Tryz.f163 zbU.c rfl Tryz.func163 (by kernel_rfl)
noncomputable def zbt(xs:List AV)(os:List PV.Obj):Option Res:=lim' Y 164 xs os
noncomputable def zbt.c:Code:=zaL Tryz.f164
abbrev zbt.run:=zaM 164 Tryz.f164 zbt.c rfl Tryz.func164 (by kernel_rfl)
noncomputable def zcn(xs:List AV)(os:List PV.Obj):Option Res:=lim' Y 165 xs os
noncomputable def zcn.c:Code:=zaL Tryz.f165
abbrev zcn.run:=zaM 165 Tryz.f165 zcn.c rfl Tryz.func165 (by kernel_rfl)
noncomputable def zar(xs:List AV)(os:List PV.Obj):Option Res:=lim' Y 166 xs os
noncomputable def zar.c:Code:=zaL Tryz.f166
abbrev zar.run:=zaM 166 Tryz.f166 zar.c rfl Tryz.func166 (by kernel_rfl)
noncomputable def sl1At(xs:List AV)(os:List PV.Obj):Option Res:=lim' Y 167 xs os
noncomputable def sl1At.c:Code:=zaL Tryz.f167
abbrev sl1At.run:=zaM 167 Tryz.f167 sl1At.c rfl Tryz.func167 (by kernel_rfl)
noncomputable def iwalk(xs:List AV)(os:List PV.Obj):Option Res:=lim' Y 168 xs os
noncomputable def iwalk.c:Code:=zaL Tryz.f168
abbrev iwalk.run:=zaM 168 Tryz.f168 iwalk.c rfl Tryz.func168 (by kernel_rfl)
noncomputable def zaO(xs:List AV)(os:List PV.Obj):Option Res:=lim' Y 169 xs os
noncomputable def zaO.c:Code:=zaL Tryz.f169
abbrev zaO.run:=zaM 169 Tryz.f169 zaO.c rfl Tryz.func169 (by kernel_rfl)
abbrev zbr.id:FuncId:=170
noncomputable def zbr(xs:List AV)(os:List PV.Obj):Option Res:=lim' Y 170 xs os
noncomputable def zbr.c:Code:=zaL Tryz.f170
abbrev zbr.run:=zaM 170 Tryz.f170 zbr.c rfl Tryz.func170 (by kernel_rfl)
noncomputable def zcw(xs:List AV)(os:List PV.Obj):Option Res:=lim' Y 173 xs os
noncomputable def zcw.c:Code:=zaL Tryz.f173
abbrev zcw.run:=zaM 173 Tryz.f173 zcw.c rfl Tryz.func173 (by kernel_rfl)
noncomputable def zeR(xs:List AV)(os:List PV.Obj):Option Res:=lim' Y 179 xs os
noncomputable def zeR.c:Code:=zaL Tryz.f179
abbrev zeR.run:=zaM 179 Tryz.f179 zeR.c rfl Tryz.func179 (by kernel_rfl)
noncomputable def zaf(xs:List AV)(os:List PV.Obj):Option Res:=lim' Y 180 xs os
noncomputable def zaf.c:Code:=zaL Tryz.f180
abbrev zaf.run:=zaM 180 Tryz.f180 zaf.c rfl Tryz.func180 (by kernel_rfl)
noncomputable def zbx(xs:List AV)(os:List PV.Obj):Option Res:=lim' Y 181 xs os
noncomputable def zbx.c:Code:=zaL Tryz.f181
abbrev zbx.run:=zaM 181 Tryz.f181 zbx.c rfl Tryz.func181 (by kernel_rfl)
noncomputable def za8(xs:List AV)(os:List PV.Obj):Option Res:=lim' Y 182 xs os
noncomputable def za8.c:Code:=zaL Tryz.f182
abbrev za8.run:=zaM 182 Tryz.f182 za8.c rfl Tryz.func182 (by kernel_rfl)
noncomputable def zaV(xs:List AV)(os:List PV.Obj):Option Res:=lim' Y 187 xs os
noncomputable def zaV.c:Code:=zaL Tryz.f187
abbrev zaV.run:=zaM 187 Tryz.f187 zaV.c rfl Tryz.func187 (by kernel_rfl)
noncomputable def zdD(xs:List AV)(os:List PV.Obj):Option Res:=lim' Y 188 xs os
noncomputable def zdD.c:Code:=zaL Tryz.f188
abbrev zdD.run:=zaM 188 Tryz.f188 zdD.c rfl Tryz.func188 (by kernel_rfl)
noncomputable def zaq(xs:List AV)(os:List PV.Obj):Option Res:=lim' Y 189 xs os
noncomputable def zaq.c:Code:=zaL Tryz.f189
abbrev zaq.run:=zaM 189 Tryz.f189 zaq.c rfl Tryz.func189 (by kernel_rfl)
noncomputable def zdW(xs:List AV)(os:List PV.Obj):Option Res:=lim' Y 193 xs os
noncomputable def zdW.c:Code:=zaL Tryz.f193
abbrev zdW.run:=zaM 193 Tryz.f193 zdW.c rfl Tryz.func193 (by kernel_rfl)
noncomputable def zbM(xs:List AV)(os:List PV.Obj):Option Res:=lim' Y 194 xs os
noncomputable def zbM.c:Code:=zaL Tryz.f194
abbrev zbM.run:=zaM 194 Tryz.f194 zbM.c rfl Tryz.func194 (by kernel_rfl)
noncomputable def strings_Join(xs:List AV)(os:List PV.Obj):Option Res:=lim' Y 201 xs os
theorem strings_Join.ext(xs:List AV)(os:List PV.Obj):strings_Join xs os=zgA xs os:=zd8 (Y:=Y) rfl xs os
noncomputable def strconv_Itoa(xs:List AV)(os:List PV.Obj):Option Res:=lim' Y 202 xs os
theorem strconv_Itoa.ext(xs:List AV)(os:List PV.Obj):strconv_Itoa xs os=zhU xs os:=zd8 (Y:=Y) rfl xs os
noncomputable def zcG(xs:List AV)(os:List PV.Obj):Option Res:=lim' Y 203 xs os
noncomputable def zcG.c:Code:=zaL Tryz.f203
abbrev zcG.run:=zaM 203 Tryz.f203 zcG.c rfl Tryz.func203 (by kernel_rfl)
abbrev zbc.id:FuncId:=204
noncomputable def zbc(xs:List AV)(os:List PV.Obj):Option Res:=lim' Y 204 xs os
noncomputable def zbc.c:Code:=zaL Tryz.f204
abbrev zbc.run:=zaM 204 Tryz.f204 zbc.c rfl Tryz.func204 (by kernel_rfl)
noncomputable def zdt(xs:List AV)(os:List PV.Obj):Option Res:=lim' Y 205 xs os
noncomputable def zdt.c:Code:=zaL Tryz.f205
abbrev zdt.run:=zaM 205 Tryz.f205 zdt.c rfl Tryz.func205 (by kernel_rfl)
noncomputable def zbF(xs:List AV)(os:List PV.Obj):Option Res:=lim' Y 206 xs os
noncomputable def zbF.c:Code:=zaL Tryz.f206
abbrev zbF.run:=zaM 206 Tryz.f206 zbF.c rfl Tryz.func206 (by kernel_rfl)
noncomputable def zb5(xs:List AV)(os:List PV.Obj):Option Res:=lim' Y 207 xs os
noncomputable def zb5.c:Code:=zaL Tryz.f207
abbrev zb5.run:=zaM 207 Tryz.f207 zb5.c rfl Tryz.func207 (by kernel_rfl)
noncomputable def zer(xs:List AV)(os:List PV.Obj):Option Res:=lim' Y 208 xs os
noncomputable def zer.c:Code:=zaL Tryz.f208
abbrev zer.run:=zaM 208 Tryz.f208 zer.c rfl Tryz.func208 (by kernel_rfl)
noncomputable def igone(xs:List AV)(os:List PV.Obj):Option Res:=lim' Y 209 xs os
noncomputable def igone.c:Code:=zaL Tryz.f209
abbrev igone.run:=zaM 209 Tryz.f209 igone.c rfl Tryz.func209 (by kernel_rfl)
noncomputable def zbK(xs:List AV)(os:List PV.Obj):Option Res:=lim' Y 210 xs os
noncomputable def zbK.c:Code:=zaL Tryz.f210
abbrev zbK.run:=zaM 210 Tryz.f210 zbK.c rfl Tryz.func210 (by kernel_rfl)
noncomputable def zdX(xs:List AV)(os:List PV.Obj):Option Res:=lim' Y 211 xs os
noncomputable def zdX.c:Code:=zaL Tryz.f211
abbrev zdX.run:=zaM 211 Tryz.f211 zdX.c rfl Tryz.func211 (by kernel_rfl)
noncomputable def zaz(xs:List AV)(os:List PV.Obj):Option Res:=lim' Y 212 xs os
noncomputable def zaz.c:Code:=zaL Tryz.f212
abbrev zaz.run:=zaM 212 Tryz.f212 zaz.c rfl Tryz.func212 (by kernel_rfl)
noncomputable def zbz(xs:List AV)(os:List PV.Obj):Option Res:=lim' Y 218 xs os
theorem zbz.ext(xs:List AV)(os:List PV.Obj):zbz xs os=zfY xs os:=zd8 (Y:=Y) rfl xs os
noncomputable def zbu(xs:List AV)(os:List PV.Obj):Option Res:=lim' Y 219 xs os
theorem zbu.ext(xs:List AV)(os:List PV.Obj):zbu xs os=zdU xs os:=zd8 (Y:=Y) rfl xs os
noncomputable def zbO(xs:List AV)(os:List PV.Obj):Option Res:=lim' Y 223 xs os
noncomputable def zbO.c:Code:=zaL Tryz.f223
abbrev zbO.run:=zaM 223 Tryz.f223 zbO.c rfl Tryz.func223 (by kernel_rfl)
noncomputable def zbn(xs:List AV)(os:List PV.Obj):Option Res:=lim' Y 224 xs os
noncomputable def zbn.c:Code:=zaL Tryz.f224
abbrev zbn.run:=zaM 224 Tryz.f224 zbn.c rfl Tryz.func224 (by kernel_rfl)
noncomputable def zbN(xs:List AV)(os:List PV.Obj):Option Res:=lim' Y 236 xs os
noncomputable def zbN.c:Code:=zaL Tryz.f236
abbrev zbN.run:=zaM 236 Tryz.f236 zbN.c rfl Tryz.func236 (by kernel_rfl)
abbrev zbQ.id:FuncId:=237
noncomputable def zbQ(xs:List AV)(os:List PV.Obj):Option Res:=lim' Y 237 xs os
noncomputable def zbQ.c:Code:=zaL Tryz.f237
abbrev zbQ.run:=zaM 237 Tryz.f237 zbQ.c rfl Tryz.func237 (by kernel_rfl)
end Go.PVx
