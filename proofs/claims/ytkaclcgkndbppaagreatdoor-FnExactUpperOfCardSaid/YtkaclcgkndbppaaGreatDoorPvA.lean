/- A part of the proof: PvDef, PvRel, PvInv, PvAbs, PvOps, PvOps2, PvOps3, PvOps4, PvHeap. -/
import Derived.Calls
import Derived.Below
import Derived.Lib.FrozenHead
set_option linter.unusedSimpArgs false
set_option linter.unusedVariables false
namespace Go.PV
inductive D where
 |v (x:Value)
 |s (es:List (List D))
 |h
 |u (t:Bool)
instance:Inhabited D:=⟨.h⟩
def D.es:D→List (List D)
 | .s es=>es
 |_=> []
def D.int:D→Int
 | .v (.int _ n)=>n
 |_=>0
def D.bool:D→Bool
 | .v (.bool b)=>b
 |_=>false
def D.str:D→ByteArray
 | .v (.string x)=>x
 |_=>⟨#[]⟩
def dOf:Value→D
 | .slice none 0 0=> .s []
 |x=> .v x
inductive CK where
 |int (k:IntKind)
 |bool
 |str
 |sl
 |any
def CK.fits:CK→D→Bool
 | .int k, .v (.int k' _)=>decide (k=k')
 | .bool, .v (.bool _)=>true
 | .str, .v (.string _)=>true
 | .sl, .s _=>true
 |_,_=>false
inductive Own where
 |deep
 |top
 |sh
 deriving DecidableEq
abbrev Path:=List (Nat×Nat)
inductive A0 where
 |dead
 |v (x:Value)
 |s (es:List (List D))
 |r (n:Nat) (p:Path) (c:Nat)
 |p (ok:Bool) (n:Nat) (p:Path) (c:Nat)
instance:Inhabited A0:=⟨.dead⟩
inductive A1 where
 |dead
 |v (x:Value)
 |s (es:List (List D))
 |q (row:List D) (c:Nat)
 |r (n:Nat) (p:Path) (c:Nat)
 |p (ok:Bool) (n:Nat) (p:Path) (c:Nat)
 |bx (cs:List A0) (c:Nat)
instance:Inhabited A1:=⟨.dead⟩
def A0.a1:A0→A1
 | .dead=> .dead
 | .v x=> .v x
 | .s es=> .s es
 | .r n pa c=> .r n pa c
 | .p ok n pa c=> .p ok n pa c
def A1.a0:A1→Option A0
 | .dead=>some .dead
 | .v x=>some (.v x)
 | .s es=>some (.s es)
 | .r n pa c=>some (.r n pa c)
 |_=>none
def a0s:List A1→Option (List A0)
 | []=>some []
 |a::as=>match a.a0 with
  |some x=>(a0s as).map (x::·)
  |none=>none
inductive AV where
 |one (a:A1)
 |g (cs:List A1)
 |t (vs:List (Bool×List A1))
 |f (fn:Nat) (caps:List A1)
instance:Inhabited AV:=⟨.one .dead⟩
def AV.cells:AV→Option (List A1)
 | .one a=>some [a]
 | .g cs=>some cs
 |_=>none
inductive Kind where
 |box
 |virt
 |ro
 | bld (t e : Nat)   -- a strings.Builder: its type, its bytes' type; its row: its text, and a cell that nobody looks at
 deriving DecidableEq
def Kind.isBld:Kind→Bool
 | .bld _ _=>true
 |_=>false
structure Obj where
 kind:Kind
 row:List D
 fl:List Own
structure St where
 na:Nat
 t:List AV
 o:List (Option Obj)
 gl:List (Nat×List D):=[]
def glGet:List (Nat×List D)→Nat→Option (List D)
 | [],_=>none
 |(m,row)::r,n=>if m=n then some row else glGet r n
def zaj:List D→Path→List D
 |row,[]=>row
 |row,(c,e)::p=>zaj ((row.getD c .h).es.getD e []) p
def zaC:List D→Path→List D→List D
 |_,[],r=>r
 |row,(c,e)::p,r=>
  row.set c (.s ((row.getD c .h).es.set e (zaC ((row.getD c .h).es.getD e []) p r)))
def ownAt(fl:List Own):Path→Nat→Own
 | [],c=>fl.getD c .sh
 |(c0,_)::_,_=>if fl.getD c0 .sh= .deep then .deep else .sh
def zb6(fl:List Own):Path→Nat→List Own
 | [],c=>fl.set c .sh
 |(c0,_)::_,_=>if fl.getD c0 .sh= .deep then fl.set c0 .top else fl
def A0.names:A0→List Nat
 | .r n _ _=> [n]
 | .p _ n _ _=> [n]
 |_=> []
def A1.names:A1→List Nat
 | .r n _ _=> [n]
 | .p _ n _ _=> [n]
 | .bx cs _=>cs.flatMap A0.names
 |_=> []
def AV.names:AV→List Nat
 | .one a=>a.names
 | .g cs=>cs.flatMap A1.names
 | .t vs=>vs.flatMap fun x=>x.2.flatMap A1.names
 | .f _ caps=>caps.flatMap A1.names
def A0.kill(kl:List (Nat×Nat)):A0→A0
 | .r n pa c=>if kl.any fun x=>x.1==n&&(decide (0<x.2)|| !pa.isEmpty)then .dead else .r n pa c
 | .p b n pa c=>if kl.any fun x=>x.1==n&&((decide (1<x.2)|| !pa.isEmpty)&&decide (x.2<5))then .dead else .p b n pa c
 |a=>a
def A1.kill(kl:List (Nat×Nat)):A1→A1
 | .r n pa c=>if kl.any fun x=>x.1==n&&(decide (0<x.2)|| !pa.isEmpty)then .dead else .r n pa c
 | .p b n pa c=>if kl.any fun x=>x.1==n&&((decide (1<x.2)|| !pa.isEmpty)&&decide (x.2<5))then .dead else .p b n pa c
 | .bx cs c=> .bx (cs.map (A0.kill kl)) c
 |a=>a
def AV.kill(kl:List (Nat×Nat)):AV→AV
 | .one a=> .one (a.kill kl)
 | .g cs=> .g (cs.map (A1.kill kl))
 | .t vs=> .t (vs.map fun x=>(x.1,x.2.map (A1.kill kl)))
 | .f fn caps=> .f fn (caps.map (A1.kill kl))
structure Rec where
 val:AV
 ups:List (Nat×Option Obj):=[]
 kl:List (Nat×Nat):=[]
 at':Option Tmp:=none
def Rec.dst(e:Rec)(dst:Option Tmp):Option Tmp:=match e.at' with
 |none=>dst
 |some p=>some p
def St.put0(S:St)(dst:Option Tmp)(e:Rec):St:=
 let t0:=if e.kl.isEmpty then S.t else S.t.map (AV.kill e.kl)
 {na:=S.na
  t:=match dst with|some d=>t0.set d e.val|none=>t0
  o:=e.ups.foldl (fun o x=>o.set x.1 x.2) S.o
  gl:=S.gl}
def St.put(S:St)(dst:Option Tmp)(e:Rec):St:=S.put0 (e.dst dst) e
def avOf:Value→AV
 | .agg cs=> .g (cs.toList.map .v)
 |x=> .one (.v x)
def St.ev(S:St):Operand→AV
 | .tmp t=>S.t.getD t (.one .dead)
 | .const v=>avOf v
 | .global g=>match glGet S.gl g with
  |some row=> .one (.q row 0)
  |none=> .one .dead
 | .func f=> .f f []
def St.obj(S:St)(n:Nat):Option Obj:=S.o.getD n none
def aggB(P:Program)(t:TypeId):Bool:=
 match P.underlying t with
 |some (.struct _)=>true
 |some (.array _ _)=>true
 |_=>false
def sizeB(P:Program)(t:TypeId):Option Nat:=(P.info? t).map (·.size)
def zod(P:Program):Nat→TypeId→List CK
 |0,_=> [.any]
 |n+1,t=>
  match P.underlying t with
  |some (.int k)=> [.int k]
  |some .bool=> [.bool]
  |some .string=> [.str]
  |some (.slice _)=> [.sl]
  |some (.struct fs)=>fs.toList.flatMap fun f=>zod P n f.type
  |some (.array m e)=>(List.replicate m (zod P n e)).flatten
  |_=> [.any]
def kinds(P:Program)(t:TypeId):List CK:=zod P 6 t
def elemB(P:Program)(t:TypeId):Option TypeId:=
 match P.underlying t with
 |some (.slice e)=>some e
 |_=>none
def zeroB(P:Program)(t:TypeId):Option (List Value):=((P.info? t).bind (·.zero)).map (·.cells.toList)
def zkj(k:CK)(d:D)(w:Own)(n:Nat)(p:Path)(c:Nat):A1:=
 match k with
 | .int i=> .v (.int i d.int)
 | .bool=> .v (.bool d.bool)
 | .str=> .v (.string d.str)
 | .sl=>if w= .sh then .s d.es else .r n p c
 | .any=> .dead
def zjp(d:D)(w:Own)(n:Nat)(c:Nat):A1:=
 match d with
 | .v x=> .v x
 | .s es=>if w= .sh then .s es else .r n [] c
 | .h=> .dead
 | .u _=> .dead
def zao(ks:List CK)(row:List D)(c:Nat):Bool:=
 ks.zipIdx.all fun x=>x.1.fits (row.getD (c+x.2) .h)
abbrev Foot:=List (Nat×Option Obj)
def fget:Foot→Nat→Option Obj
 | [],_=>none
 |(m,ob)::r,n=>if m=n then ob else fget r n
structure Env where
 o:Foot
 tch:List Nat:=[]
 kl:List (Nat×Nat):=[]
def Env.ups(A:Env):List (Nat×Option Obj):=A.tch.map fun n=>(n,fget A.o n)
def zeb(A:Env)(mv:Bool)(n:Nat)(p:Path)(c:Nat):Option (List (List D)×Own×Env):=
 match fget A.o n with
 |none=>none
 |some ob=>
  let es:=((zaj ob.row p).getD c .h).es
  let w:=ownAt ob.fl p c
  if w= .sh then some (es, .sh,A)
  else if mv||(decide (ob.kind= .virt)&&p.isEmpty)then
   some (es,w,{o:=(n,some {ob with row:=zaC ob.row p ((zaj ob.row p).set c .h)})::A.o,tch:=n::A.tch,kl:=(n,if p.isEmpty then 1 else 0)::A.kl})
  else some (es, .sh,{o:=(n,some {ob with fl:=zb6 ob.fl p c})::A.o,tch:=n::A.tch,kl:=A.kl})
def zc2:Value→Bool
 | .agg _=>false
 | .tuple _=>false
 |_=>true
def zbE(A:Env)(mv:Bool)(a:A1):Option (D×Own×Env):=
 match a with
 | .v x=>if zc2 x then some (dOf x, .deep,A)else none
 | .s es=>some (.s es, .sh,A)
 | .r n p c=>match zeb A mv n p c with
  |some (es,w,A')=>some (.s es,w,A')
  |none=>none
 |_=>none
def zcP(A:Env)(mv:Bool):List A1→Option (List D×List Own×Env)
 | []=>some ([],[],A)
 |a::as=>match zbE A mv a with
  |some (d,w,A')=>match zcP A' mv as with
   |some (ds,ws,A'')=>some (d::ds,w::ws,A'')
   |none=>none
  |none=>none
def zhc(mv:Bool):A1→A1→Bool
 | .r n p c, .r m q d=>n !=m||(p.isEmpty&&q.isEmpty&&c !=d)||(!mv&& !p.isEmpty&& !q.isEmpty)||(c !=d&&decide (p=q))
 |_,_=>true
def zcA(mv:Bool):List A1→Bool
 | []=>true
 |a::as=>as.all (zhc mv a)&&zcA mv as
inductive TC where
 |v (x:Value)
 |s (es:List (List D))
 |o (w:Own) (es:List (List D))
 |p (ok:Bool) (j:Nat) (p:Path) (c:Nat)
 |d
def TC.int:TC→Int
 | .v (.int _ n)=>n
 |_=>0
def TC.bool:TC→Bool
 | .v (.bool b)=>b
 |_=>false
def TC.str:TC→ByteArray
 | .v (.string x)=>x
 |_=>⟨#[]⟩
def TC.es:TC→List (List D)
 | .s es=>es
 | .o _ es=>es
 |_=> []
def TC.ok:TC→Bool
 | .p b _ _ _=>b
 |_=>false
def TC.path:TC→Path
 | .p _ _ x _=>x
 |_=> []
def TC.cell:TC→Nat
 | .p _ _ _ x=>x
 |_=>0
inductive R1 where
 |int (k:IntKind)
 |bool
 |str
 |sh
 |own (w:Own)
 |ptr (j:Nat)
 |any
def R1.fits:R1→TC→Bool
 | .int k, .v (.int k' _)=>decide (k=k')
 | .bool, .v (.bool _)=>true
 | .str, .v (.string _)=>true
 | .sh, .s _=>true
 | .own w, .o w' _=>decide (w=w')
 | .any, .d=>true
 | .ptr j, .p _ j' p c=>j==j'&&c==0&&(match p with| []=>true|(a,_)::_=>a==4)
 |_,_=>false
def R1.isSh:R1→Bool
 | .sh=>true
 | .own .deep=>false
 | .own _=>true
 |_=>false
inductive RS where
 |none
 |one (r:R1)
 |agg (rs:List R1)
 |tup (cs:List (Bool×List R1))
 | fresh (rs : List R1)   -- nil, or a pointer to a box of its own; its cells, then whether it is there
def RS.cells:RS→List R1
 | .fresh rs=>rs++[.bool]
 | .none=> []
 | .one r=> [r]
 | .agg rs=>rs
 | .tup cs=>cs.flatMap (·.2)
structure Sig where
 mu:List Nat:=[]
 con:List Nat:=[]
 res:RS
structure Res where
 cells:List TC
 objs:List Obj
structure Ctx where
 P:Program
 sig:FuncId→Sig
 call:FuncId→List AV→List Obj→Option Res
 mv : FuncId → Nat → Nat → Bool       -- region, operation: what is stored is moved
 live : FuncId → Nat → List Nat × List Nat   -- a loop by its first region: the temporaries that live at its head, and behind it
 gl:List (Nat×List D):=[]
 bt : TypeId → Option TypeId := fun _ => none   -- a builder's type: its bytes' type
inductive Src where
 |box (n:Nat)
 |row (n:Nat) (p:Path)
 |sl (n:Nat) (p:Path) (c:Nat)
 |mv (n:Nat) (p:Path) (c:Nat)
 |grp (n:Nat) (cs:List Nat) (tk:Bool)
 |ro (n:Nat) (p:Path)
 |free
def Src.mutName:Src→List Nat
 | .box n=> [n]
 | .row n _=> [n]
 | .sl n _ _=> [n]
 | .mv n _ _=> [n]
 | .grp n _ _=> [n]
 |_=> []
def Src.kills:Src→List (Nat×Nat)
 | .box n=> [(n,1)]
 | .row n _=> [(n,0)]
 | .sl n _ _=> [(n,0)]
 | .mv n _ _=> [(n,1)]
 | .grp n _ tk=> [(n,bif tk then 1 else 0)]
 |_=> []
def Src.isRow:Src→Bool
 | .row _ _=>true
 |_=>false
def Src.back:Src→Bool
 | .box _=>true
 | .row _ _=>true
 | .sl _ _ _=>true
 | .grp _ _ tk=> !tk
 |_=>false
structure CO where
 ob:Obj
 src:Src
structure Exp where
 as:List A1:=[]
 cos:List CO:=[]
 bor : List Nat := []      -- names that are read
 bop : List Nat := []      -- boxes that are read by a pointer
def nilS(mode:Nat):Value→A1
 | .slice none 0 0=>if mode=0 then .s []else .v (.slice none 0 0)
 |x=> .v x
def bxPtr:List A0→Nat→Option Nat
 | [.p true n [] 0],0=>some n
 |_,_=>none
def exp1(o:Foot)(mode:Nat)(X:Exp)(a:A1):Option Exp:=
 match a with
 | .v x=>some {X with as:=X.as++[nilS mode x]}
 | .s es=>some {X with as:=X.as++[.s es]}
 | .r n p c=>match fget o n with
  |some ob=>
   if mode=0 then (if ob.kind.isBld=true then none else some {X with as:=X.as++[.s ((zaj ob.row p).getD c .h).es],bor:=n::X.bor})
   else if ownAt ob.fl p c= .sh∨ob.kind= .ro then none
   else some {X with as:=X.as++[.r X.cos.length [] 0]
                     cos:=X.cos++[⟨⟨.virt,[.s ((zaj ob.row p).getD c .h).es],[ownAt ob.fl p c]⟩,if mode=1 then .sl n p c else .mv n p c⟩]}
  |none=>none
 | .p ok n p c=>match fget o n with
  |some ob=>
   if mode=0 then
    if ob.kind.isBld=true then none else
    some {as:=X.as++[.p ok X.cos.length [] c],bor:=n::X.bor,bop:=if p.isEmpty then n::X.bop else X.bop
          cos:=X.cos++[⟨⟨.ro,zaj ob.row p,(zaj ob.row p).map fun _=> .sh⟩, .ro n p⟩]}
   else if mode=1 then
    if p.isEmpty then
     if ob.kind= .box∨ob.kind.isBld=true then some {X with as:=X.as++[.p ok X.cos.length [] c],cos:=X.cos++[⟨ob, .box n⟩]}else none
    else
     bif ok&&decide (ownAt ob.fl p c= .deep∧ob.kind≠ .ro)&& !(zaj ob.row p).isEmpty then
      some {X with as:=X.as++[.p true X.cos.length [] c],cos:=X.cos++[⟨⟨.box,zaj ob.row p,(zaj ob.row p).map fun _=> .deep⟩, .row n p⟩]}
     else none
   else none
  |none=>none
 | .q row c=>some {X with as:=X.as++[.p true X.cos.length [] c],cos:=X.cos++[⟨⟨.ro,row,row.map fun _=> .sh⟩, .free⟩]}
 | .dead=>none
 | .bx cs c=>match bxPtr cs c with
  |some n=>match fget o n with
   |some ob=>if ob.kind= .box∨ob.kind.isBld=true then some {X with as:=X.as++[.bx [.p true X.cos.length [] 0] 0],cos:=X.cos++[⟨ob, .box n⟩]}else none
   |none=>none
  |none=>none
def zef(o:Foot)(mode:Nat)(X:Exp):List A1→Option Exp
 | []=>some X
 |a::as=>match exp1 o mode X a with
  |some X'=>zef o mode X' as
  |none=>none
def zdP(o:Foot)(X:Exp):List A1→Option Exp
 | []=>some X
 |a::as=>match exp1 o (match a with| .p _ _ _ _=>1|_=>0) X a with
  |some X'=>zdP o X' as
  |none=>none
def zcQ(n:Nat):List A1→Option (List Nat)
 | []=>some []
 | .r m p c::as=>if m=n∧p=[]then (zcQ n as).map (c::·)else none
 | .v _::as=>zcQ n as
 | .s _::as=>zcQ n as
 |_=>none
def zmL:List A1→Option Nat
 | []=>none
 | .r n _ _::_=>some n
 |_::as=>zmL as
def ziI:List Nat→Bool
 | []=>true
 |a::as=> !as.contains a&&ziI as
def grpOf(as:List A1):Option (Nat×List Nat):=
 match zmL as with
 |none=>none
 |some n=>match zcQ n as with
  |some ids=>if 2≤ids.length∧ziI ids=true then some (n,ids)else none
  |none=>none
def zc9(k:Nat):Nat→List A1→List A1
 |_,[]=> []
 |i, .r _ _ _::as=> .r k [] i::zc9 k (i+1) as
 |i,a::as=>a::zc9 k i as
def zdw:List Nat→Nat→Nat→Option Nat
 | [],_,_=>none
 |c::cs,i,j=>if c=j then some i else zdw cs (i+1) j
def zdj(ids:List Nat)(r row:List D):List D:=
 row.zipIdx.map fun x=>match zdw ids 0 x.2 with
  |some i=> .s (r.getD i .h).es
  |none=>x.1
def hSet(ids:List Nat)(row:List D):List D:=
 row.zipIdx.map fun x=>match zdw ids 0 x.2 with
  |some _=> .h
  |none=>x.1
def grpCo(n:Nat)(ids:List Nat)(ob:Obj)(tk:Bool):CO:=⟨⟨.virt,ids.map fun c=> .s (ob.row.getD c .h).es,ids.map fun c=>ob.fl.getD c .sh⟩, .grp n ids tk⟩
def expAV(o:Foot)(mode:Nat)(X:Exp):AV→Option (AV×Exp)
 | .one a=>match zef o mode {X with as:=[]} [a]with
  |some X'=>some (.one (X'.as.getD 0 .dead),X')
  |none=>none
 | .g cs=>match (if mode≠0 then grpOf cs else none)with
  |some (n,ids)=>match fget o n with
   |some ob=>if ob.kind= .ro∨(ids.any fun c=>decide (ob.fl.getD c .sh= .sh))=true then none
    else some (.g (zc9 X.cos.length 0 cs),{X with as:=[],cos:=X.cos++[grpCo n ids ob (decide (mode≠1))]})
   |none=>none
  |none=>match zef o mode {X with as:=[]} cs with
   |some X'=>some (.g X'.as,X')
   |none=>none
 | .f fn caps=>match zdP o {X with as:=[]} caps with
  |some X'=>some (.f fn X'.as,X')
  |none=>none
 | .t _=>none
def zcS(o:Foot)(sg:Sig):Nat→Exp→List AV→Option (List AV×Exp)
 |_,X,[]=>some ([],X)
 |i,X,a::as=>match expAV o (if sg.mu.contains i then 1 else if sg.con.contains i then 2 else 0) X a with
  |some (a',X')=>match zcS o sg (i+1) X' as with
   |some (as',X'')=>some (a'::as',X'')
   |none=>none
  |none=>none
def nodup:List Nat→Bool
 | []=>true
 |a::as=> !as.contains a&&nodup as
def Exp.ok(X:Exp):Bool:=
 let ms:=X.cos.flatMap fun c=>c.src.mutName
 nodup ms&&(ms.all fun n=> !X.bor.contains n)&&decide (X.cos.length<1000000000)
def froz(rs:List R1)(cos:List CO):Bool:=
 rs.any R1.isSh||cos.any fun c=> !c.src.isRow&&(!c.src.mutName.isEmpty&&c.ob.fl.any fun w=>decide (w≠ .deep))
def zmM:D→D→D
 | .v (.int k _),d=> .v (.int k d.int)
 | .v (.bool _),d=> .v (.bool d.bool)
 | .v (.string _),d=> .v (.string d.str)
 | .s _,d=> .s d.es
 | .v (.pointer _),_=> .h
 |e,_=>e
def zbH:D→D→Bool
 | .v (.int k _), .v (.int k' _)=>decide (k=k')
 | .v (.bool _), .v (.bool _)=>true
 | .v (.string _), .v (.string _)=>true
 | .s _, .s _=>true
 | .v (.pointer _), .h=>true
 | .h, .h=>true
 |_,_=>false
def zcY(old new:Obj):Bool:=
 decide (old.kind=new.kind)&&old.row.length==new.row.length&&decide (old.fl=new.fl)&&
  (old.row.zip new.row).all fun x=>zbH x.1 x.2
def zcB(old new:Obj):Obj:={old with row:=old.row.zipIdx.map fun x=>zmM x.1 (new.row.getD x.2 .h)}
def zac(rs:List R1)(cells:List TC):Bool:=
 rs.length==cells.length&&rs.zipIdx.all fun x=>x.1.fits (cells.getD x.2 .d)
def za3(cos:List CO)(objs:List Obj):Bool:=
 cos.zipIdx.all fun x=> !x.1.src.back||zcY x.1.ob (objs.getD x.2 ⟨.ro,[],[]⟩)
def zgf(fz:Bool)(cos:List CO)(d:Nat)(r:R1)(tc:TC)(i:Nat):A1:=
 match r with
 | .int k=> .v (.int k tc.int)
 | .bool=> .v (.bool tc.bool)
 | .str=> .v (.string tc.str)
 | .sh=> .s tc.es
 | .own _=> .r d [] i
 | .any=> .dead
 | .ptr j=>match (cos.getD j ⟨⟨.ro,[],[]⟩, .free⟩).src with
  | .ro n p=>if n=d∨fz=true then .dead else .p tc.ok n (p++tc.path) tc.cell
  | .box n=>if n=d then .dead else .p tc.ok n tc.path tc.cell
  | .row n p=>if n=d then .dead else .p tc.ok n (p++tc.path) tc.cell
  |_=> .dead
def zdu(fz:Bool)(cos:List CO)(d:Nat)(rs:List R1)(cells:List TC):List A1:=
 rs.zipIdx.map fun x=>zgf fz cos d x.1 (cells.getD x.2 .d) x.2
def zeg(rs:List R1)(cells:List TC):List D:=
 rs.zipIdx.map fun x=>match x.1 with| .own _=> .s (cells.getD x.2 .d).es|_=> .h
def impFl(rs:List R1):List Own:=rs.map fun r=>match r with| .own w=>w|_=> .sh
def split:List (Bool×List R1)→List A1→List (Bool×List A1)
 | [],_=> []
 |(b,rs)::cs,as=>(b,as.take rs.length)::split cs (as.drop rs.length)
def zmN(rs:RS)(as:List A1):AV:=
 match rs with
 | .none=> .t []
 | .one _=> .one (as.getD 0 .dead)
 | .agg _=> .g as
 | .tup cs=> .t (split cs as)
 | .fresh _=> .one .dead
def zbD(o:Foot)(objs:List Obj)(i:Nat):CO→List (Nat×Option Obj)
 |⟨ob, .box n⟩=> [(n,some (zcB ob (objs.getD i ⟨.ro,[],[]⟩)))]
 |⟨ob, .row n p⟩=>match fget o n with
  |some ob'=> [(n,some {ob' with row:=zaC ob'.row p (zcB ob (objs.getD i ⟨.ro,[],[]⟩)).row})]
  |none=> []
 |⟨_, .sl n p c⟩=>match fget o n with
  |some ob'=> [(n,some {ob' with row:=zaC ob'.row p ((zaj ob'.row p).set c (.s ((objs.getD i ⟨.ro,[],[]⟩).row.getD 0 .h).es))})]
  |none=> []
 |⟨_, .mv n p c⟩=>match fget o n with
  |some ob'=> [(n,some {ob' with row:=zaC ob'.row p ((zaj ob'.row p).set c .h)})]
  |none=> []
 |⟨_, .grp n cs false⟩=>match fget o n with
  |some ob'=> [(n,some {ob' with row:=zdj cs (objs.getD i ⟨.ro,[],[]⟩).row ob'.row})]
  |none=> []
 |⟨_, .grp n cs true⟩=>match fget o n with
  |some ob'=> [(n,some {ob' with row:=hSet cs ob'.row})]
  |none=> []
 |_=> []
def frozen(o:Foot)(bop:List Nat)(n:Nat):List (Nat×Option Obj):=
 match fget o n with
 |some ob=>if ob.kind= .ro then []else if ob.kind= .box∧bop.contains n then [(n,none)]else [(n,some {ob with fl:=ob.fl.map fun _=> .sh})]
 |none=> []
def zcV(o:Foot)(n:Nat):List (Nat×Nat):=
 match fget o n with
 |some ob=>if ob.kind= .ro then []else [(n,2)]
 |none=> []
def ptrAt:List R1→Nat→Option Nat
 | [],_=>none
 | .ptr _::_,i=>some i
 |_::rs,i=>ptrAt rs (i+1)
def pathK{R:Type}(P:Path)(k:Path→R):R:=bif P.isEmpty then k []else k ((4,(P.headD (0,0)).2)::P.tail)
def zfF(fz:Bool)(cos:List CO)(d:Nat)(rs:List R1)(cells:List TC)(i:Nat)(P:Path):List A1:=
 rs.zipIdx.map fun x=>zgf fz cos d x.1 (if x.2=i then .p (cells.getD i .d).ok 0 P 0 else cells.getD x.2 .d) x.2
def retK{R:Type}(fz:Bool)(cos:List CO)(d:Nat)(rs:List R1)(cells:List TC)(k:Rec→Option R)(mk:List A1→Rec):Option R:=
 match ptrAt rs 0 with
 |none=>k (mk (zdu fz cos d rs cells))
 |some i=>pathK (cells.getD i .d).path fun P=>k (mk (zfF fz cos d rs cells i P))
def zgG(rs:List R1)(cells:List TC):List D:=
 rs.zipIdx.map fun x=>match x.1 with
  | .int k=> .v (.int k (cells.getD x.2 .d).int)
  | .bool=> .v (.bool (cells.getD x.2 .d).bool)
  | .str=> .v (.string (cells.getD x.2 .d).str)
  | .own _=> .s (cells.getD x.2 .d).es
  | .sh=> .s (cells.getD x.2 .d).es
  |_=> .h
def newK{R:Type}(fz:Bool)(cos:List CO)(nd:Nat)(rs:RS)(cells:List TC)(ups:List (Nat×Option Obj))(kl:List (Nat×Nat))(k:Rec→Option R):Option R:=
 match rs with
 | .fresh fs=>
  bif (cells.getD fs.length .d).bool then k {val:= .one (.p true nd [] 0),ups:=ups++[(nd,some ⟨.box,zgG fs cells,impFl fs⟩)],kl}
  else k {val:= .one (.v (.pointer none)),ups:=ups++[(nd,none)],kl}
 |rs=>retK fz cos nd rs.cells cells k fun as=>{val:=zmN rs as,ups:=ups++[(nd,some ⟨.virt,zeg rs.cells cells,impFl rs.cells⟩)],kl}
def zkk{R:Type}(X:Ctx)(f:FuncId)(args:List AV)(na:Nat)(F:Foot)(dst:Option Tmp)(k:Rec→Option R):Option R:=
 match zcS F (X.sig f) 0 {} args with
 |some (as,E)=>
  if E.ok then
   (X.call f as (E.cos.map (·.ob))).bind fun rv=>
    bif zac (X.sig f).res.cells rv.cells&&za3 E.cos rv.objs then
     match dst with
     |some d=>
      newK (froz (X.sig f).res.cells E.cos) E.cos (na+d) (X.sig f).res rv.cells
       ((if froz (X.sig f).res.cells E.cos then E.bor.flatMap (frozen F E.bop)else [])++E.cos.zipIdx.flatMap (fun x=>zbD F rv.objs x.2 x.1))
       ((if froz (X.sig f).res.cells E.cos then E.bop.flatMap (zcV F)else [])++E.cos.flatMap (fun x=>x.src.kills)++[(na+d,2)]) k
     |none=>
      k {val:= .one .dead
         ups:=(if froz (X.sig f).res.cells E.cos then E.bor.flatMap (frozen F E.bop)else [])++
          E.cos.zipIdx.flatMap (fun x=>zbD F rv.objs x.2 x.1)
         kl:=(if froz (X.sig f).res.cells E.cos then E.bop.flatMap (zcV F)else [])++E.cos.flatMap (fun x=>x.src.kills)}
    else none
  else none
 |none=>none
def exp1K{R:Type}(o:Foot)(mode:Nat)(X:Exp)(a:A1)(k:Exp→Option R):Option R:=
 match a with
 | .v x=>k {X with as:=X.as++[nilS mode x]}
 | .s es=>k {X with as:=X.as++[.s es]}
 | .r n p c=>match fget o n with
  |some ob=>
   if mode=0 then (if ob.kind.isBld=true then none else k {X with as:=X.as++[.s ((zaj ob.row p).getD c .h).es],bor:=n::X.bor})
   else if ownAt ob.fl p c= .sh∨ob.kind= .ro then none
   else k {X with as:=X.as++[.r X.cos.length [] 0]
                  cos:=X.cos++[⟨⟨.virt,[.s ((zaj ob.row p).getD c .h).es],[ownAt ob.fl p c]⟩,if mode=1 then .sl n p c else .mv n p c⟩]}
  |none=>none
 | .p ok n p c=>match fget o n with
  |some ob=>
   if mode=0 then
    if ob.kind.isBld=true then none else
    k {as:=X.as++[.p ok X.cos.length [] c],bor:=n::X.bor,bop:=if p.isEmpty then n::X.bop else X.bop
       cos:=X.cos++[⟨⟨.ro,zaj ob.row p,(zaj ob.row p).map fun _=> .sh⟩, .ro n p⟩]}
   else if mode=1 then
    if p.isEmpty then
     if ob.kind= .box∨ob.kind.isBld=true then k {X with as:=X.as++[.p ok X.cos.length [] c],cos:=X.cos++[⟨ob, .box n⟩]}else none
    else
     bif ok&&decide (ownAt ob.fl p c= .deep∧ob.kind≠ .ro)&& !(zaj ob.row p).isEmpty then
      k {X with as:=X.as++[.p true X.cos.length [] c],cos:=X.cos++[⟨⟨.box,zaj ob.row p,(zaj ob.row p).map fun _=> .deep⟩, .row n p⟩]}
     else none
   else none
  |none=>none
 | .q row c=>k {X with as:=X.as++[.p true X.cos.length [] c],cos:=X.cos++[⟨⟨.ro,row,row.map fun _=> .sh⟩, .free⟩]}
 | .dead=>none
 | .bx cs c=>match bxPtr cs c with
  |some n=>match fget o n with
   |some ob=>if ob.kind= .box∨ob.kind.isBld=true then k {X with as:=X.as++[.bx [.p true X.cos.length [] 0] 0],cos:=X.cos++[⟨ob, .box n⟩]}else none
   |none=>none
  |none=>none
def zhd{R:Type}(o:Foot)(mode:Nat):Exp→List A1→(Exp→Option R)→Option R
 |X,[],k=>k X
 |X,a::as,k=>exp1K o mode X a fun X'=>zhd o mode X' as k
def zg0{R:Type}(o:Foot):Exp→List A1→(Exp→Option R)→Option R
 |X,[],k=>k X
 |X,a::as,k=>exp1K o (match a with| .p _ _ _ _=>1|_=>0) X a fun X'=>zg0 o X' as k
def zoe{R:Type}(o:Foot)(mode:Nat)(X:Exp)(a:AV)(k:AV→Exp→Option R):Option R:=
 match a with
 | .one a=>zhd o mode {X with as:=[]} [a] fun X'=>k (.one (X'.as.getD 0 .dead)) X'
 | .g cs=>match (if mode≠0 then grpOf cs else none)with
  |some (n,ids)=>match fget o n with
   |some ob=>if ob.kind= .ro∨(ids.any fun c=>decide (ob.fl.getD c .sh= .sh))=true then none
    else k (.g (zc9 X.cos.length 0 cs)) {X with as:=[],cos:=X.cos++[grpCo n ids ob (decide (mode≠1))]}
   |none=>none
  |none=>zhd o mode {X with as:=[]} cs fun X'=>k (.g X'.as) X'
 | .f fn caps=>zg0 o {X with as:=[]} caps fun X'=>k (.f fn X'.as) X'
 | .t _=>none
def zg1{R:Type}(o:Foot)(sg:Sig):Nat→Exp→List AV→(List AV→Exp→Option R)→Option R
 |_,X,[],k=>k [] X
 |i,X,a::as,k=>zoe o (if sg.mu.contains i then 1 else if sg.con.contains i then 2 else 0) X a fun a' X'=>
  zg1 o sg (i+1) X' as fun as' X''=>k (a'::as') X''
def callK{R:Type}(X:Ctx)(f:FuncId)(args:List AV)(na:Nat)(F:Foot)(dst:Option Tmp)(k:Rec→Option R):Option R:=
 zg1 F (X.sig f) 0 {} args fun as E=>
  if E.ok then
   (X.call f as (E.cos.map (·.ob))).bind fun rv=>
    bif zac (X.sig f).res.cells rv.cells&&za3 E.cos rv.objs then
     match dst with
     |some d=>
      newK (froz (X.sig f).res.cells E.cos) E.cos (na+d) (X.sig f).res rv.cells
       ((if froz (X.sig f).res.cells E.cos then E.bor.flatMap (frozen F E.bop)else [])++E.cos.zipIdx.flatMap (fun x=>zbD F rv.objs x.2 x.1))
       ((if froz (X.sig f).res.cells E.cos then E.bop.flatMap (zcV F)else [])++E.cos.flatMap (fun x=>x.src.kills)++[(na+d,2)]) k
     |none=>
      k {val:= .one .dead
         ups:=(if froz (X.sig f).res.cells E.cos then E.bor.flatMap (frozen F E.bop)else [])++
          E.cos.zipIdx.flatMap (fun x=>zbD F rv.objs x.2 x.1)
         kl:=(if froz (X.sig f).res.cells E.cos then E.bop.flatMap (zcV F)else [])++E.cos.flatMap (fun x=>x.src.kills)}
    else none
  else none
def zbw(s:ByteArray)(i:Nat):Int:=((s.data.getD i 0).toNat:Int)
def zrl(op:BinOp)(x y:Int):Option Bool:=
 match op with
 | .eql=>some (x==y)
 | .neq=>some (x !=y)
 | .lss=>some (decide (x<y))
 | .leq=>some (decide (x≤y))
 | .gtr=>some (decide (x>y))
 | .geq=>some (decide (x≥y))
 |_=>none
def zof(op:BinOp)(k:IntKind)(x y:Int):Option Int:=
 match op with
 | .and=>some (k.wrap (BitVec.ofInt k.bits x&&&BitVec.ofInt k.bits y).toNat)
 | .or=>some (k.wrap (BitVec.ofInt k.bits x|||BitVec.ofInt k.bits y).toNat)
 | .xor=>some (k.wrap (BitVec.ofInt k.bits x^^^BitVec.ofInt k.bits y).toNat)
 |_=>none
def binK{R:Type}(P:Program)(t:TypeId)(op:BinOp)(x y:A1)(k:A1→Option R):Option R:=
 match x,y with
 | .v (.int i a), .v (.int j b)=>
  if op= .shl then (bif decide (0≤b)then k (.v (.int i (i.wrap (a*2^(min b.toNat i.bits)))))else none)
  else if op= .shr then (bif decide (0≤b)then k (.v (.int i (a.fdiv (2^(min b.toNat i.bits)))))else none)
  else if i=j then
   match op with
   | .add=>k (.v (.int i (i.wrap (a+b))))
   | .sub=>k (.v (.int i (i.wrap (a-b))))
   | .mul=>k (.v (.int i (i.wrap (a*b))))
   | .quo=>bif decide (b=0)then none else k (.v (.int i (i.wrap (a.tdiv b))))
   | .rem=>bif decide (b=0)then none else k (.v (.int i (a.tmod b)))
   |_=>match zrl op a b with
    |some c=>k (.v (.bool c))
    |none=>match zof op i a b with
     |some c=>k (.v (.int i c))
     |none=>none
  else none
 | .v (.string a), .v (.string b)=>
  match op with
  | .add=>bif decide (a.size+b.size≤2^46)then k (.v (.string (a++b)))else none
  | .eql=>k (.v (.bool (a.toList==b.toList)))
  | .neq=>k (.v (.bool (!(a.toList==b.toList))))
  | .lss=>k (.v (.bool (Op.bytesLess a.toList b.toList)))
  | .leq=>k (.v (.bool (Op.bytesLess a.toList b.toList||a.toList==b.toList)))
  | .gtr=>k (.v (.bool (!(Op.bytesLess a.toList b.toList||a.toList==b.toList))))
  | .geq=>k (.v (.bool (!(Op.bytesLess a.toList b.toList))))
  |_=>none
 | .v (.bool a), .v (.bool b)=>
  match P.underlying t,op with
  |some .bool, .eql=>k (.v (.bool (a==b)))
  |some .bool, .neq=>k (.v (.bool (!(a==b))))
  |_,_=>none
 | .p ok _ _ _, .v (.pointer none)=>
  match P.underlying t,op with
  |some (.pointer _), .eql=>k (.v (.bool (!ok)))
  |some (.pointer _), .neq=>k (.v (.bool ok))
  |_,_=>none
 | .v (.pointer none), .v (.pointer none)=>
  match P.underlying t,op with
  |some (.pointer _), .eql=>k (.v (.bool true))
  |some (.pointer _), .neq=>k (.v (.bool false))
  |_,_=>none
 |_,_=>none
def slen(F:Foot):A1→Option Int
 | .v (.slice none 0 0)=>some 0
 | .s es=>some (es.length:Int)
 | .r n p c=>(match fget F n with
  |some ob=>some ((((zaj ob.row p).getD c .h).es.length:Nat):Int)
  |none=>none)
 |_=>none
def lenOf(P:Program)(F:Foot)(t:TypeId)(a:A1):Option Int:=
 match P.underlying t with
 |some .string=>(match a with| .v (.string x)=>some (x.size:Int)|_=>none)
 |some (.slice _)=>slen F a
 |_=>none
def zog(F:Foot):A1→Option (List (List D))
 | .v (.slice none 0 0)=>some []
 | .s es=>some es
 | .r n p c=>(match fget F n with
  |some ob=>some ((zaj ob.row p).getD c .h).es
  |none=>none)
 |_=>none
def zhe(es:List (List D)):Bool:=es.all fun r=>match r with
 | [.v (.int .u8 _)]=>true
 |_=>false
def strOf(es:List (List D)):ByteArray:=(es.map fun r=>(r.getD 0 .h).int).foldl (fun r n=>r.push (UInt8.ofNat n.toNat)) ByteArray.empty
def strK{R:Type}(P:Program)(F:Foot)(e:TypeId)(a:A1)(k:A1→Option R):Option R:=
 match P.underlying e with
 |some (.int .u8)=>(match zog F a with
  |some es=>bif zhe es then k (.v (.string (strOf es)))else none
  |none=>none)
 |_=>none
def bears(P:Program)(t:TypeId):Bool:=(kinds P t).any fun k=>match k with| .sl=>true| .any=>true|_=>false
def zgg(P:Program)(A:Env)(mv:Bool)(elem tx:TypeId)(a:A1):Option (List (List D)×Own×Env):=
 match P.underlying tx,a with
 |some .string, .v (.string x)=>some (x.data.toList.map fun b=> [.v (.int .u8 b.toNat)], .deep,A)
 |some (.slice _), .v (.slice none 0 0)=>some ([], .deep,A)
 |some (.slice _), .s es=>some (es,if bears P elem then .sh else .deep,A)
 |some (.slice _), .r n p c=>
  if bears P elem then zeb A mv n p c
  else match fget A.o n with
   |some ob=>some (((zaj ob.row p).getD c .h).es, .deep,A)
   |none=>none
 |_,_=>none
def zdx(a b:Own):Own:=if a= .deep∧b= .deep then .deep else .top
def zec(A:Env):A1→Option (List (List D)×Own×Env)
 | .v (.slice none 0 0)=>some ([], .deep,A)
 | .r n p c=>match fget A.o n with
  |some ob=>
   if ob.kind= .ro then none
   else match zeb A true n p c with
    |some (_, .sh,_)=>none
    |x=>x
  |none=>none
 |_=>none
def cellD(b:Bool):D→Bool
 | .v x=>zc2 x
 | .s _=>b
 | .h=>false
 | .u _=>false
def zak(n:Nat)(es:List (List D)):Bool:=es.all fun r=>r.length==n
def zap(b:Bool)(es:List (List D)):Bool:=es.all fun r=>r.all (cellD b)
def zgh{R:Type}(P:Program)(na:Nat)(F:Foot)(mv:Bool)(ts:Array TypeId)(a b:A1)(d:Tmp)(k:Rec→Option R):Option R:=
 match elemB P (ts.getD 0 0)with
 |none=>none
 |some elem=>
  match P.info? elem,zeroB P elem with
  |some ei,some z=>
   match zec {o:=F} a with
   |none=>none
   |some (es,w,A)=>
    match (if zhc true a b then zgg P A mv elem (ts.getD 1 0) b else none)with
    |none=>none
    |some (fs,w',A')=>
     bif zak ei.size es&&zak ei.size fs&&zap (bears P elem) fs&&decide (ts.size=2∧z.length=ei.size∧0<ei.size)&&
      decide ((es.length+fs.length)*(ei.bytes+1)≤2^46)then
      k {val:= .one (.r (na+d) [] 0)
         ups:=A'.ups++[(na+d,some ⟨.virt,[.s (es++fs)],[zdx w w']⟩)]
         kl:=A'.kl++[(na+d,2)]}
     else none
  |_,_=>none
def zlI(ks:List CK):Bool:=ks.all fun k=>match k with| .sl=>false| .any=>false|_=>true
def asRef(ob:Obj)(w:Own):Own:=if ob.kind= .ro then .deep else w
def loadK{R:Type}(P:Program)(F:Foot)(t:TypeId)(a:A1)(k:AV→Option R):Option R:=
 match sizeB P t with
 |none=>none
 |some sz=>
  let wrap (cs:List A1):AV:=if aggB P t then .g cs else .one (cs.getD 0 .dead)
  if (kinds P t).length=sz∧(aggB P t=true∨sz=1)∧(P.underlying t).isSome=true then
   match a with
   | .q row c=>
    bif zao (kinds P t) row c&&decide (c+sz≤row.length)then
     k (wrap ((kinds P t).zipIdx.map fun x=>zkj x.1 (row.getD (c+x.2) .h) .sh 0 [] 0))
    else none
   | .p ok n p c=>
    match fget F n with
    |none=>none
    |some ob=>
     if ob.kind.isBld=true then none else
     if p.isEmpty&& !zlI (kinds P t)then
      bif ok&&decide (c+sz≤ob.row.length)then
       k (wrap ((List.range sz).map fun i=>zjp (ob.row.getD (c+i) .h) (asRef ob (ob.fl.getD (c+i) .sh)) n (c+i)))
      else none
     else
      bif ok&&zao (kinds P t) (zaj ob.row p) c&&decide (c+sz≤(zaj ob.row p).length)then
       k (wrap ((kinds P t).zipIdx.map fun x=>zkj x.1 ((zaj ob.row p).getD (c+x.2) .h) (asRef ob (ownAt ob.fl p c)) n p (c+x.2)))
      else none
   | .bx cs c=>bif decide (c+sz≤cs.length)then k (wrap (((cs.drop c).take sz).map A0.a1))else none
   |_=>none
  else none
def zcU{α:Type}(l:List α)(c:Nat)(xs:List α):List α:=l.take c++xs++l.drop (c+xs.length)
def zgi(fl:List Own)(p:Path)(ws:List Own):List Own:=
 match p with
 | []=>fl
 |(c0,_)::_=>if ws.all (fun w=>decide (w= .deep))then fl else fl.set c0 .top
def zkl(cs:List A1)(ds:List D):Bool:=decide (1<(cs.countP fun a=>match a with| .r _ _ _=>true|_=>false))&&
 (cs.zip ds).all fun x=>match x.1 with
  | .r _ p _=> !p.isEmpty&&x.2.es.isEmpty
  |_=>true
def weak(b:Bool)(kl:List (Nat×Nat)):List (Nat×Nat):=bif b then kl.map fun x=>(x.1,5)else kl
def zhf{R:Type}(P:Program)(t:TypeId)(ok:Bool)(n:Nat)(p:Path)(c sz:Nat)(ds:List D)(ws:List Own)(A:Env)(wk:Bool)(k:Rec→Option R):Option R:=
 match fget A.o n with
 |some ob=>
  if (ob.kind= .box∨(ob.kind= .virt∧p.isEmpty=false))∧(A.kl.any fun x=>x.1==n)=false then
   if ds.length=sz then
    if p.isEmpty then
     bif ok&&decide (c+sz≤ob.row.length)&&(bears P t||((ob.row.drop c).take sz).all (fun d=>match d with| .v _=>true|_=>false))then
      k {val:= .one .dead
         ups:=A.ups++[(n,some {ob with row:=zcU ob.row c ds,fl:=zcU ob.fl c ws})]
         kl:=weak wk A.kl++[(n,if bears P t then 1 else 0)]}
     else none
    else
     if ownAt ob.fl p c= .sh∧(1<p.length∨ob.fl.getD (p.headD (0,0)).1 .sh≠ .top)then none
     else
      bif ok&&decide (c+sz≤(zaj ob.row p).length)&&decide (0<sz)then
       k {val:= .one .dead
          ups:=A.ups++[(n,some {ob with row:=zaC ob.row p (zcU (zaj ob.row p) c ds),fl:=zgi ob.fl p ws})]
          kl:=weak wk A.kl++[(n,0)]}
      else none
   else none
  else none
 |none=>none
def zkm{R:Type}(P:Program)(F:Foot)(mv:Bool)(t:TypeId)(a:A1)(x:AV)(k:Rec→Option R):Option R:=
 match a,x.cells,sizeB P t with
 | .p ok n p c,some cs,some sz=>
  bif zcA mv cs then match zcP {o:=F} mv cs with
  |some (ds,ws,A)=>bif mv&&zkl cs ds then zhf P t ok n p c sz ds ws A true k else zhf P t ok n p c sz ds ws A false k
  |none=>none
  else none
 |_,_,_=>none
def zhg(P:Program)(t:TypeId)(i:Nat):Option (Nat×TypeId):=
 match P.underlying t with
 |some (.struct fs)=>(fs[i]?).map fun f=>(f.offset,f.type)
 |_=>none
def zoh(P:Program)(t:TypeId)(i:Nat):Option (Nat×Nat):=
 match zhg P t i with
 |some (off,ft)=>(sizeB P ft).map fun sz=>(off,sz)
 |none=>none
def intOf:AV→Option Int
 | .one (.v (.int _ n))=>some n
 |_=>none
def one:AV→Option A1
 | .one a=>some a
 |_=>none
def zcI{R:Type}(P:Program)(F:Foot)(t:TypeId)(a:A1)(i:Int)(k:A1→Option R):Option R:=
 match P.underlying t with
 |some (.slice e)=>
  match sizeB P e with
  |none=>none
  |some sz=>
   match a with
   | .s es=>bif decide (0≤i)&&decide (i<es.length)&&decide ((es.getD i.toNat []).length=sz)then k (.q (es.getD i.toNat []) 0)else none
   | .r n p c=>match fget F n with
    |some ob=>
     bif decide (0≤i)&&decide (i<((zaj ob.row p).getD c .h).es.length)&&
      decide ((((zaj ob.row p).getD c .h).es.getD i.toNat []).length=sz)then
      k (.p true n (p++[(c,i.toNat)]) 0)else none
    |none=>none
   |_=>none
 |some (.array m e)=>
  match sizeB P e with
  |none=>none
  |some sz=>
   match a with
   | .p ok n p c=>bif ok&&decide (0≤i)&&decide (i<m)&&decide (1<m)then k (.p true n p (c+i.toNat*sz))else none
   | .q row c=>bif decide (0≤i)&&decide (i<m)&&decide (1<m)then k (.q row (c+i.toNat*sz))else none
   |_=>none
 |_=>none
def zfG{R:Type}(P:Program)(F:Foot)(t:TypeId)(a:A1)(lo hi:Option Int)(k:A1→List (Nat×Option Obj)→Option R):Option R:=
 match P.underlying t with
 |some .string=>
  match a with
  | .v (.string x)=>
   bif decide (0≤lo.getD 0)&&decide (lo.getD 0≤hi.getD x.size)&&decide (hi.getD x.size≤x.size)then
    k (.v (.string (x.extract (lo.getD 0).toNat (hi.getD x.size).toNat))) []else none
  |_=>none
 |some (.slice e)=>
  match sizeB P e with
  |none=>none
  |some sz=>
  match a with
  | .s es=>
   bif decide (0≤lo.getD 0)&&decide (lo.getD 0≤hi.getD es.length)&&decide (hi.getD es.length≤es.length)&&(decide (lo.getD 0=0)||decide ((es.getD 0 []).length=sz))then
    k (.s ((es.take (hi.getD es.length).toNat).drop (lo.getD 0).toNat)) []else none
  | .r n p c=>match fget F n with
   |some ob=>
    let es:=((zaj ob.row p).getD c .h).es
    bif decide (0≤lo.getD 0)&&decide (lo.getD 0≤hi.getD es.length)&&decide (hi.getD es.length≤es.length)&&(decide (lo.getD 0=0)||decide ((es.getD 0 []).length=sz))then
     k (.s ((es.take (hi.getD es.length).toNat).drop (lo.getD 0).toNat)) (if ownAt ob.fl p c= .sh then []else [(n,some {ob with fl:=zb6 ob.fl p c})])else none
   |none=>none
  |_=>none
 |_=>none
def zkn(present:Bool):List AV→Option (Option Int×List AV)
 |vs=>if present then (match vs with
  |v::r=>(match intOf v with|some n=>some (some n,r)|none=>none)
  | []=>none)
  else some (none,vs)
def zmO:AV→Bool
 | .one (.v y)=>zc2 y
 | .one .dead=>false
 | .one _=>true
 | .g _=>true
 |_=>false
def fillA(place:Nat→Option (Nat×Nat))(cs:List A1):List (Nat×AV)→Option (List A1)
 | []=>some cs
 |(i,a)::rest=>
  match place i,a.cells with
  |some (off,sz),some xs=>if xs.length=sz∧off+sz≤cs.length∧zmO a=true then fillA place (zcU cs off xs) rest else none
  |_,_=>none
def zoi(na:Nat):A1→Bool
 | .r n _ _=>decide (n<na)
 |_=>false
def zrm(bt:TypeId→Option TypeId)(t:TypeId)(cs:List A1):Option TypeId:=match bt t with
 |none=>none
 |some e=>match cs with
  | [.v (.pointer none), .v (.slice none 0 0)]=>if t=e then none else some e
  |_=>none
def zoj(na:Nat)(cs:List A1):Option (List A0):=
 if cs.any (zoi na)=true then a0s cs else none
def zjq(P:Program)(na:Nat)(F:Foot)(t:TypeId)(pa:Operand)(a:A1)(x:AV):Option Rec:=
 match pa,a,x with
 | .tmp q, .p true n [] 0, .one (.p true m [] 0)=>
  match fget F n,fget F m with
  |some ob,some om=>
   if n≠m∧na≤n∧ob.kind= .box∧ob.row.length=1∧sizeB P t=some 1∧om.kind≠ .ro then
    some {val:= .one (.bx [.p true m [] 0] 0),ups:=[(n,none)],kl:=[(n,2)],at':=some q}
   else none
  |_,_=>none
 |_,_,_=>none
def effK{R:Type}(X:Ctx)(mv:Bool)(o:Oper)(na:Nat)(vs:List AV)(F:Foot)(k:Rec→Option R):Option R:=
 let ok (a:AV):Option R:=k {val:=a}
 let ok1 (a:A1):Option R:=k {val:= .one a}
 match o.op,vs with
 | .move _,[a]=>ok a
 | .assign _,[a]=>ok a
 | .pick _ _ _,[c,a,b]=>match c with
  | .one (.v (.bool t))=>bif t then ok a else ok b
  |_=>none
 | .nilCheck _,[a]=>match a with
  | .one (.p b n p c)=>bif b then ok1 (.p true n p c)else none
  | .one (.q row c)=>ok1 (.q row c)
  | .one (.bx cs c)=>ok1 (.bx cs c)
  | .f fn caps=>ok (.f fn caps)
  |_=>none
 | .alloc t,[]=>match o.dst,zeroB X.P t with
  |some d,some z=>
   match X.bt t with
   |none=>
    k {val:= .one (.p true (na+d) [] 0)
       ups:=[(na+d,some ⟨.box,z.map dOf,z.map fun _=> .deep⟩)],kl:=[(na+d,2)]}
   |some e=>
    match z with
    | [.pointer none, .slice none 0 0]=>if t=e then none else
     k {val:= .one (.p true (na+d) [] 0)
        ups:=[(na+d,some ⟨.bld t e,[.v (.string ⟨#[]⟩), .h],[.deep, .deep]⟩)],kl:=[(na+d,2)]}
    |_=>none
  |_,_=>none
 | .box t _,[a]=>match o.dst,a.cells with
  |some d,some cs=>
   match (if mv then zoj na cs else none)with
   |some as=>ok1 (.bx as 0)
   |none=>match zrm X.bt t cs with
    |some e=>k {val:= .one (.p true (na+d) [] 0)
                ups:=[(na+d,some ⟨.bld t e,[.v (.string ⟨#[]⟩), .h],[.deep, .deep]⟩)],kl:=[(na+d,2)]}
    |none=>bif zcA mv cs then match zcP {o:=F} mv cs with
    |some (ds,ws,A)=>
     k {val:= .one (.p true (na+d) [] 0)
        ups:=A.ups++[(na+d,some ⟨.box,ds,ws⟩)],kl:=A.kl++[(na+d,2)]}
    |none=>none
    else none
  |_,_=>none
 | .build t parts,vs=>match zeroB X.P t,X.P.underlying t with
  |some z,some (.struct fs)=>
   if (fs.toList.all fun f=>(sizeB X.P f.type).isSome)=false then none else
   match fillA (zoh X.P t) (z.map .v) ((parts.toList.map (·.1)).zip vs)with
   |some cs=>ok (.g cs)
   |none=>none
  |some z,some (.array _ e)=>
   match sizeB X.P e with
   |some sz=>match fillA (fun i=>some (i*sz,sz)) (z.map .v) ((parts.toList.map (·.1)).zip vs)with
    |some cs=>ok (.g cs)
    |none=>none
   |none=>none
  |_,_=>none
 | .buildSlice t len parts,vs=>match o.dst,elemB X.P t with
  |some d,some e=>match zeroB X.P e,sizeB X.P e with
   |some z,some sz=>
    if z.length=sz∧len*sz≤2^20 then
     match fillA (fun i=>some (i*sz,sz)) ((List.range (len*sz)).map fun k=> .v (z.getD (k%sz) undef)) ((parts.toList.map (·.1)).zip vs)with
     |none=>none
     |some cs=>bif zcA mv cs then match zcP {o:=F} mv cs with
      |some (ds,ws,A)=>
       k {val:= .one (.r (na+d) [] 0)
          ups:=A.ups++[(na+d,some ⟨.virt,[.s ((List.range len).map fun e=>(ds.drop (e*sz)).take sz)],[if ws.all (fun w=>decide (w= .deep))then .deep else .top]⟩)]
          kl:=A.kl++[(na+d,2)]}
      |none=>none
      else none
    else none
   |_,_=>none
  |_,_=>none
 | .load t _,[a]=>match a with
  | .one a=>loadK X.P F t a ok
  |_=>none
 | .store t pa _,[a,x]=>match a with
  | .one a=>match (if mv then zjq X.P na F t pa a x else none)with
   |some e=>k e
   |none=>zkm X.P F mv t a x k
  |_=>none
 | .binOp op t _ _ _,[a,b]=>match a,b with
  | .one a, .one b=>binK X.P t op a b ok1
  |_,_=>none
 | .unOp op _ _,[a]=>match op,a with
  | .not, .one (.v (.bool b))=>ok1 (.v (.bool (!b)))
  | .neg, .one (.v (.int i n))=>ok1 (.v (.int i (i.wrap (0-n))))
  |_,_=>none
 | .convert src dst _,[a]=>match X.P.underlying src,X.P.underlying dst,a with
  |some (.int _),some (.int i), .one (.v (.int _ n))=>ok1 (.v (.int i (i.wrap n)))
  |some .string,some .string, .one (.v (.string x))=>ok1 (.v (.string x))
  |some (.slice e),some .string, .one a=>strK X.P F e a ok1
  |_,_,_=>none
 | .makeFunc (.func fn) first capt,vs=>
  if first.size=0 then
   match capt.size==vs.length,(vs.map one).all Option.isSome with
   |true,true=>ok (.f fn (vs.map fun v=>(one v).getD .dead))
   |_,_=>none
  else none
 | .makeSlice t l c,[n,m]=>match o.dst,n,m,elemB X.P t with
  |some d, .one (.v (.int _ n)), .one (.v (.int _ m)),some e=>
   match zeroB X.P e,X.P.info? e with
   |some z,some ei=>
    bif (match l,c with| .tmp a, .tmp b=>a==b||decide (n=m)|_,_=>decide (n=m))&&decide (0≤n)&&decide (n*(ei.bytes+1)≤2^46)&&decide (z.length=ei.size)&&decide (0<ei.size)then
     k {val:= .one (.r (na+d) [] 0)
        ups:=[(na+d,some ⟨.virt,[.s (List.replicate n.toNat (z.map dOf))],[.deep]⟩)],kl:=[(na+d,2)]}
    else none
   |_,_=>none
  |_,_,_,_=>none
 | .slice t _ lo hi none,a::r=>match one a,zkn lo.isSome r with
  |some a,some (l,r)=>match zkn hi.isSome r with
   |some (h,_)=>zfG X.P F t a l h fun x ups=>k {val:= .one x,ups:=ups}
   |none=>none
  |_,_=>none
 | .fieldAddr t _ f,[a]=>match zhg X.P t f,a with
  |some (off,ft), .one (.p b n p c)=>match sizeB X.P ft with
   |some (_+1)=>bif b then ok1 (.p true n p (c+off))else none
   |_=>none
  |some (off,ft), .one (.q row c)=>match sizeB X.P ft with
   |some (_+1)=>ok1 (.q row (c+off))
   |_=>none
  |some (off,ft), .one (.bx cs c)=>match sizeB X.P ft with
   |some (_+1)=>ok1 (.bx cs (c+off))
   |_=>none
  |_,_=>none
 | .field t _ f,[a]=>match zhg X.P t f,a with
  |some (off,ft), .g cs=>match sizeB X.P ft with
   |some sz=>
    if off+sz≤cs.length then
     if aggB X.P ft then ok (.g ((cs.drop off).take sz))else if sz=1∧(X.P.underlying ft).isSome=true then ok1 (cs.getD off .dead)else none
    else none
   |none=>none
  |_,_=>none
 | .indexAddr t _ _,[a,i]=>match one a,intOf i with
  |some a,some i=>zcI X.P F t a i ok1
  |_,_=>none
 | .index t _ _,[a,i]=>match X.P.underlying t,a,intOf i with
  |some .string, .one (.v (.string x)),some i=>
   bif decide (0≤i)&&decide (i<x.size)then ok1 (.v (.int .u8 (zbw x i.toNat)))else none
  |_,_,_=>none
 | .extract _ i,[a]=>match a with
  | .t vs=>match vs[i]? with
   |some (true,cs)=>ok (.g cs)
   |some (false,[c])=>ok1 c
   |_=>none
  |_=>none
 | .call c,vs=>match c.callee,vs with
  | .builtin .len,[.one a]=>match (if 0<c.argTypes.size then lenOf X.P F (c.argTypes.getD 0 0) a else none)with
   |some n=>ok1 (.v (.int .i64 n))
   |none=>none
  | .builtin .append,[.one a, .one b]=>match o.dst with
   |some d=>zgh X.P na F mv c.argTypes a b d k
   |none=>none
  | .builtin .min,[.one (.v (.int i a)), .one (.v (.int j b))]=>if i=j then ok1 (.v (.int i (if a≤b then a else b)))else none
  | .builtin .max,[.one (.v (.int i a)), .one (.v (.int j b))]=>if i=j then ok1 (.v (.int i (if a≤b then b else a)))else none
  | .value _, .f fn caps::args=>callK X fn (args++caps.map .one) na F o.dst k
  |_,_=>none
 |_,_=>none
def St.vals(S:St)(o:Oper):List AV:=o.op.operands.toList.map S.ev
def St.foot(S:St)(vs:List AV):Foot:=(vs.flatMap AV.names).map fun n=>(n,S.obj n)
def St.opK{R:Type}(X:Ctx)(mv:Bool)(o:Oper)(S:St)(k:Rec→Option R):Option R:=
 effK X mv o S.na (S.vals o) (S.foot (S.vals o)) k
def noRec:Rec:={val:= .one (.v undef)}
def setB(S:St)(g:Tmp)(b:Bool):St:={S with t:=S.t.set g (.one (.v (.bool b)))}
def opsK{R:Type}(X:Ctx)(fn rid:Nat)(ops:Array Oper):List Nat→St→(St→Option R)→Option R
 | [],S,k=>k S
 |i::l,S,k=>
  match ops[i]? with
  |none=>none
  |some o=>
   match o.guard with
   |none=>S.opK X (X.mv fn rid i) o fun e=>opsK X fn rid ops l (S.put o.dst e) k
   |some (j,want)=>
    match (ops[j]?).bind (·.dst)with
    |none=>none
    |some g=>
     match S.t.getD g (.one .dead)with
     | .one (.v (.bool b))=>
      bif b then
       (if want then (setB S g true).opK X (X.mv fn rid i) o fun e=>opsK X fn rid ops l ((setB S g true).put o.dst e) k
       else opsK X fn rid ops l ((setB S g true).put o.dst noRec) k)
      else
       (if want then opsK X fn rid ops l ((setB S g false).put o.dst noRec) k
       else (setB S g false).opK X (X.mv fn rid i) o fun e=>opsK X fn rid ops l ((setB S g false).put o.dst e) k)
     | .one (.v _)=>opsK X fn rid ops l (S.put o.dst noRec) k
     |_=>none
structure Fp where
 dst:Option Tmp
 rt:List Tmp
 rn:List Nat
 wn:List Nat
 rd:Bool
 kn:Bool
 rp:List Nat:=[]
 w2:List Nat:=[]
def zfH:Op→Bool
 | .move _=>true
 | .assign _=>true
 | .nilCheck _=>true
 | .fieldAddr _ _ _=>true
 |_=>false
def A1.names1:A1→List Nat
 | .r n _ _=> [n]
 | .p _ n [] _=> []
 | .p _ n (_::_) _=> [n]
 | .bx cs _=>cs.flatMap A0.names
 |_=> []
def A1.ptrs:A1→List Nat
 | .p _ n [] _=> [n]
 |_=> []
def AV.names1:AV→List Nat
 | .one a=>a.names1
 | .g cs=>cs.flatMap A1.names1
 | .t vs=>vs.flatMap fun x=>x.2.flatMap A1.names1
 | .f _ caps=>caps.flatMap A1.names1
def AV.ptrs:AV→List Nat
 | .one a=>a.ptrs
 | .g cs=>cs.flatMap A1.ptrs
 | .t vs=>vs.flatMap fun x=>x.2.flatMap A1.ptrs
 | .f _ caps=>caps.flatMap A1.ptrs
def A0.isDead:A0→Bool
 | .dead=>true
 |_=>false
def A1.isDead:A1→Bool
 | .dead=>true
 | .bx cs _=>cs.any A0.isDead
 |_=>false
def AV.hasDead:AV→Bool
 | .one a=>a.isDead
 | .g cs=>cs.any A1.isDead
 | .t vs=>vs.any fun x=>x.2.any A1.isDead
 | .f _ caps=>caps.any A1.isDead
def St.reads(_:St)(o:Oper):List Operand:=o.op.operands.toList
def seenV:Op→AV→AV
 | .extract _ i, .t vs=> .t (vs[i]?).toList
 |_,a=>a
def Rec.fp(e:Rec)(o:Oper)(rt:List Tmp)(vs:List AV):Fp:=
 let vs:=vs.map (seenV o.op)
 {dst:=e.dst o.dst,rt,rn:=match zfH o.op with|true=>vs.flatMap AV.names1++e.val.names1|false=>vs.flatMap AV.names++e.val.names
  wn:=e.ups.map (·.1)++e.kl.map (·.1),rd:=vs.any AV.hasDead,kn:= !e.kl.isEmpty
  rp:=match zfH o.op with|true=>vs.flatMap AV.ptrs++e.val.ptrs|false=> []
  w2:=(e.kl.filter fun x=>decide (1<x.2)).map (·.1)}
def zdI(o:Oper):List Tmp:=o.op.operands.toList.filterMap fun x=>match x with| .tmp t=>some t|_=>none
def ziJ(a b:List Nat):Bool:=a.all fun x=> !b.contains x
def Fp.apart(a b:Fp):Bool:=
 (match a.dst,b.dst with|some x,some y=>x !=y|_,_=>true)&&
 (match a.dst with|some x=> !b.rt.contains x|none=>true)&&
 (match b.dst with|some x=> !a.rt.contains x|none=>true)&&
 ziJ a.wn b.rn&&ziJ a.wn b.wn&&ziJ b.wn a.rn&&(!a.kn|| !b.rd)&&(ziJ a.w2 b.rp&&ziJ b.w2 a.rp)
def zfI(bef:Array Nat)(fps:List (Nat×Fp)):Bool:=
 fps.all fun a=>fps.all fun b=> !decide (a.1<b.1)||(bef.getD b.1 0).testBit a.1||a.2.apart b.2
def opsD{R:Type}(X:Ctx)(fn rid:Nat)(ops:Array Oper):List Nat→List (Nat×Fp)→St→(St→List (Nat×Fp)→Option R)→Option R
 | [],fps,S,k=>k S fps
 |i::l,fps,S,k=>
  match ops[i]? with
  |none=>none
  |some o=>
   match o.guard with
   |none=>S.opK X (X.mv fn rid i) o fun e=>
    opsD X fn rid ops l (fps++[(i,e.fp o (zdI o) ((S.reads o).map S.ev))]) (S.put o.dst e) k
   |some (j,want)=>
    match (ops[j]?).bind (·.dst)with
    |none=>none
    |some g=>
     match S.t.getD g (.one .dead)with
     | .one (.v (.bool b))=>
      bif b then
       (if want then (setB S g true).opK X (X.mv fn rid i) o fun e=>
         opsD X fn rid ops l (fps++[(i,e.fp o (g::zdI o) (((setB S g true).reads o).map (setB S g true).ev))]) ((setB S g true).put o.dst e) k
       else opsD X fn rid ops l (fps++[(i,noRec.fp o [g] [])]) ((setB S g true).put o.dst noRec) k)
      else
       (if want then opsD X fn rid ops l (fps++[(i,noRec.fp o [g] [])]) ((setB S g false).put o.dst noRec) k
       else (setB S g false).opK X (X.mv fn rid i) o fun e=>
        opsD X fn rid ops l (fps++[(i,e.fp o (g::zdI o) (((setB S g false).reads o).map (setB S g false).ev))]) ((setB S g false).put o.dst e) k)
     | .one (.v _)=>opsD X fn rid ops l (fps++[(i,noRec.fp o [g] [])]) (S.put o.dst noRec) k
     |_=>none
def zlJ(ops:Array Oper):Bool:=
 ops.toList.zipIdx.all fun x=>x.1.after.toList.all fun e=> !(Region.binds .any e)||decide (e.on<x.2)
def zg2(o:Oper):Bool:=match o.op,o.dst with| .store _ _ _,some _=>false|_,_=>true
def zhh(ops:Array Oper)(n:Nat):Bool:=ops.toList.all fun o=>zg2 o&&(match o.dst with|some d=>decide (d<n)|none=>true)
def zdZ(P:Program)(ops:Array Oper):Bool:=zlJ ops&&(!(Region.departs ops)||P.follows .mixedOrders)
def zda{R:Type}(X:Ctx)(fn rid:Nat)(ops:Array Oper)(draw:Bool)(S:St)(k:St→Option R):Option R:=
 if zhh ops S.t.length=false then none else
 if draw then
  bif zdZ X.P ops then
   opsD X fn rid ops (List.range ops.size) [] S fun S' fps=>bif zfI (Region.before ops) fps then k S' else none
  else none
 else opsK X fn rid ops (List.range ops.size) S k
inductive Ex where
 |normal
 |exit (id:Nat)
 |ret
def zaS:Code→Nat
 | .region id _ _=>id
 | .seq a _=>zaS a
 | .cond _ a _=>zaS a
 | .block _ b=>zaS b
 | .loop b=>zaS b
 | .scope b=>zaS b
 |_=>0
def swp(a b n:Nat):Nat:=if n=a then b else if n=b then a else n
def A0.ren(f:Nat→Nat):A0→A0
 | .r n pa c=> .r (f n) pa c
 | .p b n pa c=> .p b (f n) pa c
 |a=>a
def A1.ren(f:Nat→Nat):A1→A1
 | .r n pa c=> .r (f n) pa c
 | .p b n pa c=> .p b (f n) pa c
 | .bx cs c=> .bx (cs.map (A0.ren f)) c
 |a=>a
def AV.ren(f:Nat→Nat):AV→AV
 | .one a=> .one (a.ren f)
 | .g cs=> .g (cs.map (A1.ren f))
 | .t vs=> .t (vs.map fun x=>(x.1,x.2.map (A1.ren f)))
 | .f fn caps=> .f fn (caps.map (A1.ren f))
def St.swap(S:St)(a b:Nat):St:=
 {na:=S.na,t:=S.t.map (AV.ren (swp a b)),o:=(S.o.set a (S.o.getD b none)).set b (S.o.getD a none),gl:=S.gl}
def St.keepL(S:St)(L:List Nat):St:=
 {na:=S.na
  t:=S.t.zipIdx.map fun x=>if L.contains x.2 then x.1 else .one .dead
  o:=S.o.zipIdx.map fun x=>if decide (x.2<S.na)||(L.flatMap fun v=>(S.t.getD v (.one .dead)).names).contains x.2 then x.1 else none
  gl:=S.gl}
def canon:List Nat→List Nat→St→St
 | [],_,S=>S
 |v::vs,done,S=>match (S.t.getD v (.one .dead)).names with
  |n::_=>if S.na≤n∧n≠S.na+v∧done.contains n=false∧n<S.o.length∧S.na+v<S.o.length then canon vs ((S.na+v)::done) (S.swap n (S.na+v))
   else canon vs (n::done) S
  | []=>canon vs done S
def St.clean(S:St)(L:List Nat):St:=canon L [] (S.keepL L)
def zgH(c:Code):Nat:=100000+zaS c
def St.atCut(S:St)(L:List Nat×List Nat):St:=
 match L.2 with
 | []=>S
 |_::_=>S.clean L.1
def zcR(f:St→Option (Ex×St))(L:List Nat×List Nat):Nat→St→Option (Ex×St)
 |0,_=>none
 |m+1,S=>match f S with
  |some (.normal,S')=>zcR f L m (S'.clean L.1)
  |some (.exit i,S')=>some (.exit i,S'.clean L.2)
  |some (.ret,S')=>some (.ret,S'.clean L.2)
  |none=>none
def ev0(X:Ctx)(fn m:Nat):Code→St→Option (Ex×St)
 | .skip,S=>some (.normal,S)
 | .label _,S=>some (.normal,S)
 | .region rid ops draw,S=>zda X fn rid ops draw S fun S'=>some (.normal,S')
 | .seq a b,S=>match ev0 X fn m a S with
  |some (.normal,S')=>ev0 X fn m b (S'.atCut (X.live fn (zgH b)))
  |r=>r
 | .cond c a b,S=>match S.ev c with
  | .one (.v (.bool t))=>bif t then ev0 X fn m a S else ev0 X fn m b S
  |_=>none
 | .block id b,S=>match ev0 X fn m b S with
  |some (.exit i,S')=>if i=id then some (.normal,S')else some (.exit i,S')
  |r=>r
 | .loop b,S=>zcR (ev0 X fn m b) (X.live fn (zaS b)) m (S.clean (X.live fn (zaS b)).1)
 | .exit id,S=>some (.exit id,S)
 | .ret,S=>some (.ret,S)
 |_,_=>none
def zdy(fn:Func)(args:List AV)(objs:List Obj)(gl:List (Nat×List D):=[]):St:=
 {na:=objs.length
  gl
  t:=args++List.replicate (fn.ntmps-args.length) (.one .dead)
  o:=objs.map some++List.replicate fn.ntmps none}
def A1.noPtr:A1→A1
 | .p _ _ _ _=> .v (.bool false)
 |a=>a
def A1.isPtr:A1→Bool
 | .p _ _ _ _=>true
 |_=>false
def tcOf(na:Nat)(tch:List Nat)(r:R1)(a:A1)(d:D)(w:Own):Option TC:=
 match r with
 | .ptr j=>(match a with
  | .p b n p c=>if n=j∧n<na∧tch.contains n=false then some (.p b j p c)else none
  | .v (.pointer none)=>some (.p false j [] 0)
  |_=>none)
 |r=>if a.isPtr=true then none else
  match r,d with
  | .own .deep, .s es=>if w= .deep then some (.o .deep es)else none
  | .own .top, .s es=>if w= .sh then none else some (.o .top es)
  | .sh, .s es=>some (.s es)
  | .int _, .v x=>some (.v x)
  | .bool, .v x=>some (.v x)
  | .str, .v x=>some (.v x)
  |_,_=>none
def tcsOf(na:Nat)(tch:List Nat):List R1→List A1→List D→List Own→Option (List TC)
 | [],[],[],[]=>some []
 |r::rs,a::as,d::ds,w::ws=>match tcOf na tch r a d w with
  |some c=>match tcsOf na tch rs as ds ws with
   |some cs=>some (c::cs)
   |none=>none
  |none=>none
 |_,_,_,_=>none
def zok(P:Program)(S:St):ResultVar→Option AV
 | .tmp t=>some (S.t.getD t (.one .dead))
 | .cell a t=>match S.t.getD a (.one .dead)with
  | .one a=>loadK P (S.foot [.one a]) t a some
  |_=>none
def zfp(P:Program)(S:St):List ResultVar→Option (List AV)
 | []=>some []
 |r::rs=>match zok P S r with
  |some a=>match zfp P S rs with
   |some as=>some (a::as)
   |none=>none
  |none=>none
def zdm:RS→List AV→Option (List A1)
 | .none,[]=>some []
 | .one _,[.one a]=>some [a]
 | .agg _,[.g cs]=>some cs
 | .tup [],[]=>some []
 | .tup ((b,rs)::cs),a::as=>match zdm (.tup cs) as with
  |some r=>(match b,a with
   |false, .one x=>if rs.length=1 then some (x::r)else none
   |true, .g xs=>if xs.length=rs.length then some (xs++r)else none
   |_,_=>none)
  |none=>none
 |_,_=>none
def RS.okTup:RS→Bool
 | .tup [_]=>false
 |_=>true
def tcF(r:R1)(d:D)(w:Own):Option TC:=tcOf 0 [] r (.v (.bool false)) d w
def tcsF:List R1→List D→List Own→Option (List TC)
 | [],[],_=>some []
 |r::rs,d::ds,ws=>match tcF r d (ws.headD .sh)with
  |some c=>match tcsF rs ds ws.tail with
   |some cs=>some (c::cs)
   |none=>none
  |none=>none
 |_,_,_=>none
def R1.zero:R1→TC
 | .int k=> .v (.int k 0)
 | .bool=> .v (.bool false)
 | .str=> .v (.string ⟨#[]⟩)
 | .sh=> .s []
 | .own w=> .o w []
 | .any=> .d
 | .ptr j=> .p false j [] 0
def outF(S:St)(fs:List R1):List AV→Option Res
 | [.one (.v (.pointer none))]=>some {cells:=fs.map R1.zero++[.v (.bool false)],objs:=(S.o.take S.na).map fun x=>x.getD ⟨.ro,[],[]⟩}
 | [.one (.p true n [] 0)]=>if n<S.na then none else match S.obj n with
  |some ob=>if ob.kind= .box∧fs.length<1000000 then match tcsF fs ob.row ob.fl with
   |some tcs=>some {cells:=tcs++[.v (.bool true)],objs:=(S.o.take S.na).map fun x=>x.getD ⟨.ro,[],[]⟩}
   |none=>none
   else none
  |none=>none
 |_=>none
def outK0(S:St)(rs:RS)(as:List AV):Option Res:=
 match (if rs.okTup then zdm rs as else none)with
 |none=>none
 |some cs=>
  match (if zcA true (cs.map A1.noPtr)then zcP {o:=S.foot [.g (cs.map A1.noPtr)]} true (cs.map A1.noPtr)else none)with
  |none=>none
  |some (ds,ws,A)=>
   match tcsOf S.na A.tch rs.cells cs ds ws with
   |none=>none
   |some tcs=>some {cells:=tcs,objs:=((A.ups.foldl (fun o x=>o.set x.1 x.2) S.o).take S.na).map fun x=>x.getD ⟨.ro,[],[]⟩}
def outK(X:Ctx)(f:FuncId)(fn:Func)(S:St):Option Res:=
 match zfp X.P S fn.results.toList with
 |none=>none
 |some as=>
  match (X.sig f).res with
  | .fresh fs=>outF S fs as
  |rs=>outK0 S rs as
structure Prm where
 P:Program
 sig:FuncId→Sig
 mv:FuncId→Nat→Nat→Bool
 live:FuncId→Nat→List Nat×List Nat
 ext:FuncId→Option (List AV→List Obj→Option Res)
 gl:List (Nat×List D):=[]
 bt:TypeId→Option TypeId:=fun _=>none
def Prm.ctx(Y:Prm)(call:FuncId→List AV→List Obj→Option Res):Ctx:=
 {P:=Y.P,sig:=Y.sig,call,mv:=Y.mv,live:=Y.live,gl:=Y.gl,bt:=Y.bt}
def runF(Y:Prm):Nat→FuncId→List AV→List Obj→Option Res
 |0,_,_,_=>none
 |m+1,f,args,objs=>
  match Y.ext f with
  |some F=>F args objs
  |none=>
   match Y.P.funcs[f]? with
   |none=>none
   |some fn=>
    match fn.body with
    |none=>none
    |some c=>
     if args.length≤fn.ntmps∧objs.length+fn.ntmps<1000000000∧(fn.name== "runtime.NumGoroutine")=false then
      match ev0 (Y.ctx (runF Y m)) f m c (zdy fn args objs Y.gl)with
      |some (.normal,S)=>outK (Y.ctx (runF Y m)) f fn S
      |some (.ret,S)=>outK (Y.ctx (runF Y m)) f fn S
      |_=>none
     else none
end Go.PV
namespace Go.PV
open Go.RowKit
abbrev QP:=List Nat→Nat→Prop
def ukOk:Bool→Value→Prop
 |false,x=>∃n,x= .int .i64 n
 |true,x=>x= .nilIface∨∃t p,x= .iface t p
inductive Rel (w:World):QP→Value→D→Prop
 |v (Q:QP) (x:Value):Rel w Q x (.v x)
 |h (Q:QP) (x:Value):Rel w Q x .h
 |u (Q:QP) (t:Bool) (x:Value) (hx:ukOk t x):Rel w Q x (.u t)
 |e (Q:QP) (a:Option Addr):Rel w Q (.slice a 0 0) (.s [])
 |s (Q:QP) (ad:Addr) (cap sz:Nat) (es:List (List D)) (u:Nat→Nat→Value)
  (hl:es.length≤cap) (h0:es=[]→cap=0∨Q [0] ad.block) (hs:ad.spot=none) (hb:ad.block<w.heap.size) (hq:Q [] ad.block)
  (hc:∀k,k<cap*sz→(w.cell? ⟨ad.block,ad.off+k,none⟩).isSome)
  (hz:∀i (h:i<es.length),(es[i]).length=sz)
  (hu:∀i j,i<es.length→j<sz→w.cell? ⟨ad.block,ad.off+(i*sz+j),none⟩=some (u i j))
  (hr:∀i j (hi:i<es.length) (hj:j<(es[i]).length),Rel w (fun π b=>Q (i::j::π) b) (u i j) ((es[i])[j])):
  Rel w Q (.slice (some ad) es.length cap) (.s es)
theorem cell_of_heap{w w':World}{b:Nat}(h:w'.heap[b]? =w.heap[b]?)(o:Nat):w'.cell? ⟨b,o,none⟩=w.cell? ⟨b,o,none⟩:=by
 simp only[World.cell?,h]
theorem zeh{w w':World}{b:Nat}(h:w'.heap[b]? =w.heap[b]?)(hb:b<w.heap.size):b<w'.heap.size:=by
 rw[Array.getElem?_eq_getElem hb]at h;exact (Array.getElem?_eq_some_iff.1 h).1
theorem Rel.frame{w w':World}{Q:QP}{v:Value}{d:D}(h:Rel w Q v d):
 ∀{Q':QP},(∀π b,b<w.heap.size→Q π b→w'.heap[b]? =w.heap[b]?)→(∀π b,b<w.heap.size→Q π b→Q' π b)→Rel w' Q' v d:=by
 induction h with
 |v Q x=>intros;exact .v _ _
 |h Q x=>intros;exact .h _ _
 |u Q t x hx=>intros;exact .u _ _ _ hx
 |e Q a=>intros;exact .e _ _
 |s Q ad cap sz es u hl h0 hs hb hq hc hz hu hr ih=>
  intro Q' hw hQ;have hcell:=fun o=>cell_of_heap (hw [] _ hb hq) o
  have hb':ad.block<w'.heap.size:=zeh (hw [] _ hb hq) hb
  exact .s Q' ad cap sz es u hl (fun he=>(h0 he).imp id (hQ _ _ hb)) hs hb' (hQ _ _ hb hq) (fun k hk=>by rw[hcell];exact hc k hk) hz
   (fun i j hi hj=>by rw[hcell];exact hu i j hi hj)
   (fun i j hi hj=>ih i j hi hj (fun π b hl hb=>hw _ _ hl hb) (fun π b hl hb=>hQ _ _ hl hb))
theorem Rel.mono{w:World}{Q Q':QP}{v:Value}{d:D}(h:Rel w Q v d)(hQ:∀π b,Q π b→Q' π b):Rel w Q' v d:=
 h.frame (fun _ _ _ _=>rfl) (fun _ _ _=>hQ _ _)
theorem Rel.slice{w:World}{Q:QP}{v:Value}{es:List (List D)}(h:Rel w Q v (.s es)):
 (es=[]∧∃a,v= .slice a 0 0)∨∃(ad:Addr) (cap sz:Nat) (u:Nat→Nat→Value),v= .slice (some ad) es.length cap∧(es.length≤cap∧(es=[]→cap=0∨Q [0] ad.block))∧ad.spot=none∧ad.block<w.heap.size∧Q [] ad.block∧
  (∀k,k<cap*sz→(w.cell? ⟨ad.block,ad.off+k,none⟩).isSome)∧
  (∀i (h:i<es.length),(es[i]).length=sz)∧
  (∀i j,i<es.length→j<sz→w.cell? ⟨ad.block,ad.off+(i*sz+j),none⟩=some (u i j))∧
  (∀i j (hi:i<es.length) (hj:j<(es[i]).length),Rel w (fun π b=>Q (i::j::π) b) (u i j) ((es[i])[j])):=by
 cases h with
 |e Q a=>exact .inl ⟨rfl,a,rfl⟩
 |s Q ad cap sz es u hl h0 hs hb hq hc hz hu hr=>exact .inr ⟨ad,cap,sz,u,rfl,⟨hl,h0⟩,hs,hb,hq,hc,hz,hu,hr⟩
theorem Rel.len{w:World}{Q:QP}{v:Value}{es:List (List D)}(h:Rel w Q v (.s es)):∃a cap,v= .slice a es.length cap∧es.length≤cap:=by
 rcases h.slice with ⟨rfl,a,rfl⟩|⟨ad,cap,sz,u,rfl,hl,_⟩
 ·exact ⟨a,0,rfl,Nat.le_refl _⟩
 ·exact ⟨_,cap,rfl,hl.1⟩
def zcC(w:World)(Q:QP)(hd:Nat→Value)(row:List D):Prop:=
 ∀c (h:c<row.length),Rel w (fun π b=>Q (c::π) b) (hd c) (row[c])
theorem zcC.frame{w w':World}{Q Q':QP}{hd:Nat→Value}{row:List D}(h:zcC w Q hd row)
 (hw:∀π b,b<w.heap.size→Q π b→w'.heap[b]? =w.heap[b]?) (hQ:∀π b,b<w.heap.size→Q π b→Q' π b):zcC w' Q' hd row:=
 fun c hc=>(h c hc).frame (fun _ _ hl hb=>hw _ _ hl hb) (fun _ _ hl hb=>hQ _ _ hl hb)
def flat(p:Path):List Nat:=p.flatMap fun x=> [x.1,x.2]
@[simp] theorem zg3:flat []=[]:=rfl
@[simp] theorem zbV(c e:Nat)(p:Path):flat ((c,e)::p)=c::e::flat p:=rfl
def zbR:List D→Path→Prop
 |_,[]=>True
 |row,(c,e)::p=>c<row.length∧e<(row.getD c .h).es.length∧zbR ((row.getD c .h).es.getD e []) p
def zaD(w:World):(Nat→Option Value)→List D→Path→Option Addr→Option Addr
 |_,_,[],base=>base
 |hd,row,(c,e)::p,_=>
  match hd c with
  |some (.slice (some ad) _ _)=>
   zaD w (fun j=>w.cell? ⟨ad.block,ad.off+e*((row.getD c .h).es.getD e []).length+j,none⟩) ((row.getD c .h).es.getD e []) p
    (some ⟨ad.block,ad.off+e*((row.getD c .h).es.getD e []).length,none⟩)
  |_=>none
theorem za2{α:Type}(l:List α)(i:Nat)(d:α)(h:i<l.length):l.getD i d=l[i]:=by
 simp[List.getD,h]
theorem zg4{d:D}{e:Nat}(h:e<d.es.length):∃es,d= .s es∧e<es.length:=by
 cases d with
 |s es=>exact ⟨es,rfl,h⟩
 |v x=>simp[D.es]at h
 |h=>simp[D.es]at h
 |u t=>simp[D.es]at h
theorem zcb(w:World)(p:Path):∀(hd hd':Nat→Option Value) (row:List D) (base:Option Addr),
 zbR row p→(∀c,c<row.length→hd c=hd' c)→zaD w hd row p base=zaD w hd' row p base:=by
 cases p with
 |nil=>intros;rfl
 |cons x p=>
  obtain ⟨c,e⟩:=x;intro hd hd' row base hp h;simp only[zaD,h c hp.1]
structure Desc (w:World) (Q:QP) (hd:Nat→Option Value) (row:List D) (p:Path) (base:Option Addr) (ad:Addr) (hd':Nat→Value):Prop where
 at_:zaD w hd row p base=some ad
 spot:ad.spot=none
 lt:ad.block<w.heap.size
 blk:Q (flat p).dropLast ad.block
 cell:∀j,j<(zaj row p).length→w.cell? ⟨ad.block,ad.off+j,none⟩=some (hd' j)
 rel:zcC w (fun π b=>Q (flat p++π) b) hd' (zaj row p)
theorem zdb{w:World}(p:Path):∀{Q:QP} {hd:Nat→Value} {row:List D} (base:Option Addr),zcC w Q hd row→zbR row p→p≠[]→
 ∃ad hd',Desc w Q (fun c=>some (hd c)) row p base ad hd':=by
 induction p with
 |nil=>intro Q hd row base _ _ h;exact absurd rfl h
 |cons x p ih=>
  obtain ⟨c,e⟩:=x;intro Q hd row base hrow hp _;obtain ⟨hc,he,hp⟩:=hp;obtain ⟨es,hes,he'⟩:=zg4 he;have hg:row.getD c .h=row[c]:=za2 row c _ hc;have hrc:=hrow c hc;rw[←hg,hes]at hrc;rcases hrc.slice with ⟨rfl,_⟩|⟨ad,cap,sz,u,hv,hl,hs,hb,hq,hcc,hz,hu,hr⟩
  ·simp at he'
  ·have hge:((row.getD c .h).es.getD e [])=es[e]:=by rw[hes];exact za2 es e _ he'
   have hsz:(es[e]).length=sz:=hz e he';have hrow':zcC w (fun π b=>Q (c::e::π) b) (fun j=>u e j) (es[e]):=fun j hj=>hr e j he' hj
   have hcell:∀j,j<(es[e]).length→w.cell? ⟨ad.block,ad.off+e*sz+j,none⟩=some (u e j):=fun j hj=>by
    rw[Nat.add_assoc];exact hu e j he' (by omega)
   have hstep:zaD w (fun c=>some (hd c)) row ((c,e)::p) base=
    zaD w (fun j=>some (u e j)) (es[e]) p (some ⟨ad.block,ad.off+e*sz,none⟩):=by
    simp only[zaD,hv,hge,hsz];rw[hge]at hp;exact zcb w p _ _ _ _ hp (fun j hj=>hcell j hj)
   rw[hge]at hp;by_cases hp0:p=[]
   ·subst hp0
    refine ⟨⟨ad.block,ad.off+e*sz,none⟩,fun j=>u e j, ?_⟩
    have hget:zaj row [(c,e)]=es[e]:=by simp only[zaj,hge]
    exact {
     at_:=by rw[hstep];rfl
     spot:=rfl
     lt:=hb
     blk:=by simpa using hq
     cell:=by rw[hget];exact hcell
     rel:=by rw[hget];simpa using hrow'}
   ·obtain ⟨ad',hd',D'⟩:=ih (some ⟨ad.block,ad.off+e*sz,none⟩) hrow' hp hp0
    have hget:zaj row ((c,e)::p)=zaj (es[e]) p:=by simp only[zaj,hge]
    refine ⟨ad',hd',{at_:=by rw[hstep];exact D'.at_,spot:=D'.spot,lt:=D'.lt,blk:= ?_,cell:=by rw[hget];exact D'.cell,rel:=by rw[hget];simpa using D'.rel}⟩
    have:=D'.blk
    have hne:flat p≠[]:=by
     cases p with
     |nil=>exact absurd rfl hp0
     |cons y q=>obtain ⟨a,b⟩:=y;simp
    rw[zbV,List.dropLast_cons_of_ne_nil (by simp),List.dropLast_cons_of_ne_nil hne]
    exact this
theorem zcp{w w':World}(p:Path):∀{Q:QP} {hd:Nat→Value} {row:List D} (base:Option Addr),zcC w Q hd row→zbR row p→
 (∀π b,b<w.heap.size→Q π b→w'.heap[b]? =w.heap[b]?)→
 zaD w' (fun c=>some (hd c)) row p base=zaD w (fun c=>some (hd c)) row p base:=by
 induction p with
 |nil=>intros;rfl
 |cons x p ih=>
  obtain ⟨c,e⟩:=x;intro Q hd row base hrow hp hw;obtain ⟨hc,he,hp⟩:=hp;obtain ⟨es,hes,he'⟩:=zg4 he;have hg:row.getD c .h=row[c]:=za2 row c _ hc;have hrc:=hrow c hc;rw[←hg,hes]at hrc;rcases hrc.slice with ⟨rfl,_⟩|⟨ad,cap,sz,u,hv,hl,hs,hb,hq,hcc,hz,hu,hr⟩
  ·simp at he'
  ·have hge:((row.getD c .h).es.getD e [])=es[e]:=by rw[hes];exact za2 es e _ he'
   have hsz:(es[e]).length=sz:=hz e he';have hrow':zcC w (fun π b=>Q (c::e::π) b) (fun j=>u e j) (es[e]):=fun j hj=>hr e j he' hj
   have hcell:∀j,j<(es[e]).length→w.cell? ⟨ad.block,ad.off+e*sz+j,none⟩=some (u e j):=fun j hj=>by
    rw[Nat.add_assoc];exact hu e j he' (by omega)
   have hblk:=hw _ _ hb hq
   have hstep:∀W:World,W.heap[ad.block]? =w.heap[ad.block]?→zaD W (fun c=>some (hd c)) row ((c,e)::p) base=
    zaD W (fun j=>some (u e j)) (es[e]) p (some ⟨ad.block,ad.off+e*sz,none⟩):=by
    intro W hW;simp only[zaD,hv,hge,hsz];rw[hge]at hp;refine zcb W p _ _ _ _ hp (fun j hj=> ?_)
    rw[cell_of_heap hW];exact hcell j hj
   rw[hge]at hp;rw[hstep w' hblk,hstep w rfl];exact ih _ hrow' hp (fun π b hl hq=>hw _ _ hl hq)
theorem getElem_set{α:Type}(l:List α)(i j:Nat)(a:α)(h:j<(l.set i a).length):
 (l.set i a)[j]=if i=j then a else l[j]'(by simpa using h):=List.getElem_set h
theorem zlK{p:Path}(h:p≠[]):flat p≠[]:=by
 cases p with
 |nil=>exact absurd rfl h
 |cons x p=>obtain ⟨c,e⟩:=x;simp
theorem za7(c e:Nat){p:Path}(h:p≠[]):(flat ((c,e)::p)).dropLast=c::e::(flat p).dropLast:=by
 rw[zbV,List.dropLast_cons_of_ne_nil (by simp),List.dropLast_cons_of_ne_nil (zlK h)]
theorem zgj{w w':World}(p:Path):∀{Q Q':QP} {hd:Nat→Value} {row:List D} {base:Option Addr} {ad:Addr} {hd0:Nat→Value},
 Desc w Q (fun c=>some (hd c)) row p base ad hd0→zcC w Q hd row→zbR row p→p≠[]→∀(row':List D) (hd':Nat→Value),
 row'.length=(zaj row p).length→
 (∀π b,b<w.heap.size→Q π b→¬(flat p<+:π)→π≠(flat p).dropLast→w'.heap[b]? =w.heap[b]?)→
 (ad.block<w'.heap.size)→
 (∀o,(o<ad.off∨ad.off+(zaj row p).length≤o)→w'.cell? ⟨ad.block,o,none⟩=w.cell? ⟨ad.block,o,none⟩)→
 (∀j,j<row'.length→w'.cell? ⟨ad.block,ad.off+j,none⟩=some (hd' j))→
 (∀π,Q π ad.block→π=(flat p).dropLast)→
 (∀π b,b<w.heap.size→Q π b→¬(flat p<+:π)→(π=(flat p).dropLast→b=ad.block)→Q' π b)→
 zcC w' (fun π b=>Q' (flat p++π) b) hd' row'→
 zcC w' Q' hd (zaC row p row'):=by
 induction p with
 |nil=>intro Q Q' hd row base ad hd0 _ _ _ h;exact absurd rfl h
 |cons x p ih=>
  obtain ⟨c,e⟩:=x;intro Q Q' hd row base ad hd0 Ds hrow hp _ row' hd' hlen hb hlt hout hin hinj hQ hnew;obtain ⟨hc,he,hp⟩:=hp;obtain ⟨es,hes,he'⟩:=zg4 he;have hg:row.getD c .h=row[c]:=za2 row c _ hc;have hrc:=hrow c hc;rw[←hg,hes]at hrc;rcases hrc.slice with ⟨rfl,_⟩|⟨ad0,cap,sz,u,hv,hl,hs,hb0,hq,hcc,hz,hu,hr⟩
  ·simp at he'
  have hge:((row.getD c .h).es.getD e [])=es[e]:=by rw[hes];exact za2 es e _ he'
  have hsz:(es[e]).length=sz:=hz e he';have hrow':zcC w (fun π b=>Q (c::e::π) b) (fun j=>u e j) (es[e]):=fun j hj=>hr e j he' hj
  have hcell:∀j,j<(es[e]).length→w.cell? ⟨ad0.block,ad0.off+e*sz+j,none⟩=some (u e j):=fun j hj=>by
   rw[Nat.add_assoc];exact hu e j he' (by omega)
  rw[hge]at hp;have hget:zaj row ((c,e)::p)=zaj (es[e]) p:=by simp only[zaj,hge]
  rw[hget]at hlen hout
  have hset:zaC row ((c,e)::p) row'=row.set c (.s (es.set e (zaC (es[e]) p row'))):=by
   simp only[zaC,hge];rw[hes];rfl
  have hstep:zaD w (fun c=>some (hd c)) row ((c,e)::p) base=
   zaD w (fun j=>some (u e j)) (es[e]) p (some ⟨ad0.block,ad0.off+e*sz,none⟩):=by
   simp only[zaD,hv,hge,hsz];exact zcb w p _ _ _ _ hp (fun j hj=>hcell j hj)
  rw[hset]
  -- other cells of this row
  intro c' hc';rw[getElem_set];by_cases hcc':c=c'
  ·subst hcc'
   rw[if_pos rfl,hv]
   have hlen2:(zaC (es[e]) p row').length=sz:=by
    cases p with
    |nil=>simp only[zaC];rw[hlen];simpa[zaj]using hsz
    |cons y q=>obtain ⟨a,b⟩:=y;simp only[zaC,List.length_set];exact hsz
   have hnp:¬(flat ((c,e)::p)<+: [c]):=by
    intro h;rw[zbV]at h;have:=h.length_le;simp at this
   have hl2:(es.set e (zaC (es[e]) p row')).length≤cap:=by simpa using hl.1
   have hpre:∀i j π,i≠e→¬(flat ((c,e)::p)<+:(c::i::j::π)):=by
    intro i j π hne h;rw[zbV]at h;have h1:=(List.cons_prefix_cons.1 h).2;exact hne (List.cons_prefix_cons.1 h1).1.symm
   have hdl:∀i j π,i≠e→c::i::j::π≠(flat ((c,e)::p)).dropLast:=by
    intro i j π hne h;by_cases hp0:p=[]
    ·subst hp0;simp at h
    ·rw[za7 _ _ hp0]at h
     simp only[List.cons.injEq,true_and]at h;exact hne h.1
   -- the elements but the one at e
   have helse:∀i j (hi:i<es.length) (hj:j<(es[i]).length),i≠e→Rel w' (fun π b=>Q' (c::i::j::π) b) (u i j) ((es[i])[j]):=by
    intro i j hi hj hne;exact (hr i j hi hj).frame (fun π b h1 h2=>hb _ _ h1 h2 (hpre i j π hne) (hdl i j π hne)) (fun π b h1 h2=>hQ _ _ h1 h2 (hpre i j π hne) (fun h=>absurd h (hdl i j π hne)))
   have hq':Q' (c:: []) ad0.block:=hQ _ _ hb0 hq (by
    intro h;rw[zbV]at h;have:=h.length_le;simp at this) (fun h=>by
     by_cases hp0:p=[]
     ·subst hp0
      have:=Ds.at_;rw[hstep]at this;simp only[zaD,Option.some.injEq]at this;rw[←this]
     ·rw[za7 _ _ hp0]at h
      simp at h)
   have hlens:∀i (h:i<(es.set e (zaC (es[e]) p row')).length),((es.set e (zaC (es[e]) p row'))[i]).length=sz:=by
    intro i h;rw[getElem_set];split
    ·exact hlen2
    ·exact hz i _
   by_cases hp0:p=[]
   ·subst hp0
    have had:ad=⟨ad0.block,ad0.off+e*sz,none⟩:=by
     have:=Ds.at_;rw[hstep]at this;simp only[zaD,Option.some.injEq]at this;exact this.symm
    simp only[zaj]at hlen hout;have hadb:ad.block=ad0.block:=by rw[had]
    have hado:ad.off=ad0.off+e*sz:=by rw[had]
    rw[hadb]at hlt hout hin;rw[hado,hsz]at hout;rw[hado]at hin
    have hkeep:∀i j,i<es.length→j<sz→i≠e→w'.cell? ⟨ad0.block,ad0.off+(i*sz+j),none⟩=some (u i j):=by
     intro i j hi hj hne
     rw[hout _ (by
      rcases Nat.lt_or_gt_of_ne hne with h|h
      ·left
       have:(i+1)*sz≤e*sz:=Nat.mul_le_mul_right _ h;rw[Nat.succ_mul]at this;omega
      ·right
       have:(e+1)*sz≤i*sz:=Nat.mul_le_mul_right _ h;rw[Nat.succ_mul]at this;omega)]
     exact hu i j hi hj
    have hsome:∀k,k<cap*sz→(w'.cell? ⟨ad0.block,ad0.off+k,none⟩).isSome:=by
     intro k hk;by_cases h:k<e*sz∨e*sz+sz≤k
     ·rw[hout _ (by omega)];exact hcc k hk
     ·have:=hin (k-e*sz) (by omega)
      rw[show ad0.off+e*sz+(k-e*sz)=ad0.off+k from by omega]at this
      rw[this];rfl
    have:=Rel.s (w:=w') (fun π b=>Q' (c::π) b) ad0 cap sz (es.set e row') (fun i j=>if i=e then hd' j else u i j)
     (by simpa using hl.1) (fun he=>by have h2:=congrArg List.length he;simp only[List.length_set,List.length_nil]at h2;omega) hs (hadb▸(hadb.symm▸hlt)) hq' hsome (by simpa[zaC]using hlens)
     (by
       intro i j hi hj;by_cases hie:i=e
       ·subst hie
        rw[if_pos rfl,←Nat.add_assoc];exact hin j (by omega)
       ·rw[if_neg hie]
        exact hkeep i j (by simpa using hi) hj hie)
     (by
       intro i j hi hj;by_cases hie:i=e
       ·subst hie
        have hj':j<row'.length:=by simpa using hj
        have:=hnew j hj';simp only[zbV,zg3,List.cons_append,List.nil_append]at this;simpa using this
       ·have hi':i<es.length:=by simpa using hi
        have hei:¬e=i:=fun h=>hie h.symm
        have hj':j<(es[i]).length:=by simpa[List.getElem_set,hei]using hj
        have:=helse i j hi' hj' hie;simpa[List.getElem_set,hei,hie]using this)
    simpa[zaC]using this
   · -- deeper
     have hne2:ad0.block≠ad.block:=by
      intro h;have:=hinj [c] (h▸hq);rw[za7 _ _ hp0]at this;simp at this
     have hdc: [c]≠(flat ((c,e)::p)).dropLast:=by
      rw[za7 _ _ hp0];simp
     have hsame:=cell_of_heap (hb _ _ hb0 hq hnp hdc)
     have Ds':Desc w (fun π b=>Q (c::e::π) b) (fun j=>some (u e j)) (es[e]) p (some ⟨ad0.block,ad0.off+e*sz,none⟩) ad hd0:=
      {at_:=by rw[←hstep];exact Ds.at_
       spot:=Ds.spot
       lt:=Ds.lt
       blk:=by have:=Ds.blk;rw[za7 _ _ hp0]at this;exact this
       cell:=by have:=Ds.cell;rw[hget]at this;exact this
       rel:=by have:=Ds.rel;rw[hget]at this;simpa using this}
     have hih:=ih (Q':=fun π b=>Q' (c::e::π) b) Ds' hrow' hp hp0 row' hd' hlen (fun π b h1 h2 h4 h3=>hb _ _ h1 h2 (fun h=>h4 (by
      rw[zbV]at h;exact (List.cons_prefix_cons.1 (List.cons_prefix_cons.1 h).2).2)) (fun h=>h3 (by
      rw[za7 _ _ hp0]at h;simpa using h))) hlt hout hin
      (fun π h=>by have:=hinj _ h;rw[za7 _ _ hp0]at this;simpa using this)
      (fun π b h1 h2 h3 h4=>hQ _ _ h1 h2 (fun h=>h3 (by
        rw[zbV]at h;exact (List.cons_prefix_cons.1 (List.cons_prefix_cons.1 h).2).2)) (fun h=>h4 (by
        rw[za7 _ _ hp0]at h;simpa using h)))
      (by simpa using hnew)
     have:=Rel.s (w:=w') (fun π b=>Q' (c::π) b) ad0 cap sz (es.set e (zaC (es[e]) p row')) u
      hl2 (fun he=>by have h2:=congrArg List.length he;simp only[List.length_set,List.length_nil]at h2;omega) hs (zeh (hb _ _ hb0 hq hnp hdc) hb0) hq' (fun k hk=>by rw[hsame];exact hcc k hk) hlens
      (fun i j hi hj=>by rw[hsame];exact hu i j (by simpa using hi) hj)
      (by
        intro i j hi hj;by_cases hie:i=e
        ·subst hie
         have hj':j<(zaC (es[i]) p row').length:=by simpa using hj
         have:=hih j hj';simpa using this
        ·have hi':i<es.length:=by simpa using hi
         have hei:¬e=i:=fun h=>hie h.symm
         have hj':j<(es[i]).length:=by simpa[List.getElem_set,hei]using hj
         have:=helse i j hi' hj' hie;simpa[List.getElem_set,hei]using this)
     simpa using this
  ·have hc2:c'<row.length:=by simpa using hc'
   rw[if_neg hcc']
   have hdl':∀π,c'::π≠(flat ((c,e)::p)).dropLast:=by
    intro π h3;by_cases hp0:p=[]
    ·subst hp0;simp at h3;exact hcc' h3.1.symm
    ·rw[za7 _ _ hp0]at h3;simp at h3;exact hcc' h3.1.symm
   refine (hrow c' hc2).frame (fun π b h1 h2=>hb _ _ h1 h2 (fun h=>by rw[zbV]at h;exact hcc' (List.cons_prefix_cons.1 h).1) (hdl' π)) (fun π b h1 h2=>hQ _ _ h1 h2 (fun h=> ?_) (fun h=>absurd h (hdl' π)))
   ·rw[zbV]at h
    exact hcc' (List.cons_prefix_cons.1 h).1
end Go.PV
namespace Go.PV
open Go.RowKit
abbrev Ghost:=Nat→Option (Nat×List Nat)
structure Place where
 base:Option Addr
 hd:Nat→Value
abbrev Obs:=Nat→Option Obj
abbrev zaP:=Nat→Place
def QCell(G:Ghost)(n c:Nat)(w:Own):QP:=fun π b=>
 match w with
 | .deep=>G b=some (n,c::π)
 | .top=>if π=[]then G b=some (n,[c])else G b=none
 | .sh=>G b=none
def QObj(G:Ghost)(n:Nat)(fl:List Own):QP:=fun π b=>
 match π with
 | []=>False
 |c::ρ=>QCell G n c (fl.getD c .sh) ρ b
def QSh(G:Ghost):QP:=fun _ b=>G b=none
theorem QCell.own{G:Ghost}{n c:Nat}{w:Own}{π:List Nat}{b:Nat}(h:QCell G n c w π b):G b=some (n,c::π)∨G b=none:=by
 cases w with
 |deep=>exact .inl h
 |top=>
  simp only[QCell]at h;split at h
  ·rename_i h0;subst h0;exact .inl h
  ·exact .inr h
 |sh=>exact .inr h
theorem QObj.own{G:Ghost}{n:Nat}{fl:List Own}{π:List Nat}{b:Nat}(h:QObj G n fl π b):G b=some (n,π)∨G b=none:=by
 cases π with
 |nil=>exact h.elim
 |cons c ρ=>exact QCell.own h
structure RoOk (w:World) (G:Ghost) (pl:Place) (row:List D) (ad:Addr):Prop where
 spot:ad.spot=none
 lt:ad.block<w.heap.size
 blk:G ad.block=none
 cell:∀c,c<row.length→w.cell? ⟨ad.block,ad.off+c,none⟩=some (pl.hd c)
 rel:zcC w (QSh G) pl.hd row
def Plain(π:List Nat):Prop:=π=[]∨π.length%2=1
def OwnAt(w:World)(b:Nat)(x:Nat×List Nat):Prop:=∃cs ty fz,w.heap[b]? =some (.cells cs ty fz)∧(Plain x.2→fz=(0,0))
theorem OwnAt.plain{w:World}{b:Nat}{x:Nat×List Nat}(h:OwnAt w b x)(hl:Plain x.2):∃cs ty,w.heap[b]? =some (.cells cs ty (0,0)):=by
 obtain ⟨cs,ty,fz,h1,h2⟩:=h;exact ⟨cs,ty,by rw[h1,h2 hl]⟩
theorem OwnAt.of{w:World}{b:Nat}{x:Nat×List Nat}(h:∃cs ty,w.heap[b]? =some (.cells cs ty (0,0))):OwnAt w b x:=by
 obtain ⟨cs,ty,h1⟩:=h;exact ⟨cs,ty,_,h1,fun _=>rfl⟩
theorem OwnAt.heap{w w':World}{b:Nat}{x:Nat×List Nat}(h:OwnAt w b x)(e:w'.heap[b]? =w.heap[b]?):OwnAt w' b x:=by
 obtain ⟨cs,ty,fz,h1,h2⟩:=h;exact ⟨cs,ty,fz,by rw[e];exact h1,h2⟩
theorem OwnAt.moved{w w':World}{b:Nat}{x y:Nat×List Nat}(h:OwnAt w b y)(hp:Plain x.2→Plain y.2)(e:w'.heap[b]? =w.heap[b]?):OwnAt w' b x:=by
 obtain ⟨cs,ty,fz,h1,h2⟩:=h;exact ⟨cs,ty,fz,by rw[e];exact h1,fun h=>h2 (hp h)⟩
theorem zcW(p:Path):(flat p).length=2*p.length:=by
 induction p with
 |nil=>rfl
 |cons x p ih=>obtain ⟨c,e⟩:=x;simp only[zbV,List.length_cons,ih];omega
theorem OwnAt.lt{w:World}{b:Nat}{x:Nat×List Nat}(h:OwnAt w b x):b<w.heap.size:=by
 obtain ⟨cs,ty,fz,h1,h2⟩:=h;exact (Array.getElem?_eq_some_iff.1 h1).1
structure BldAt (w:World) (G:Ghost) (n:Nat) (pl:Place) (t e b:Nat) (s:ByteArray) (p v:Value):Prop where
 base:pl.base=some ⟨b,0,none⟩
 box:G b=some (n,[])
 self:p= .pointer none∨p= .pointer (some ⟨b,0,none⟩)
 cells:w.heap[b]? =some (.cells #[p,v] t (0,0))
 owns:w.ownsRowF 0 e 1 v s.size (Lib.strCells s)
 ne:v.ownBlock≠some b
 bytes:∀g,v.ownBlock=some g→G g=some (n,[0,0])
def Bld(w:World)(G:Ghost)(n:Nat)(pl:Place)(ob:Obj):Prop:=∀t e,ob.kind= .bld t e→∃b s p v,ob.row=[.v (.string s), .h]∧BldAt w G n pl t e b s p v
theorem Bld.not{w:World}{G:Ghost}{n:Nat}{pl:Place}{ob:Obj}(h:ob.kind.isBld=false):Bld w G n pl ob:=fun t e h1=>by rw[h1]at h;exact absurd h (by simp[Kind.isBld])
theorem zqi{k:Kind}(h:k.isBld=true):∃t e,k= .bld t e:=by
 cases k with
 |bld t e=>exact ⟨t,e,rfl⟩
 |_=>exact absurd h (by simp[Kind.isBld])
theorem Bld.frame2{w w':World}{G G':Ghost}{n n':Nat}{pl:Place}{ob:Obj}(h:Bld w G n pl ob)(hw:∀b π,G b=some (n,π)→w'.heap[b]? =w.heap[b]?∧G' b=some (n',π)):Bld w' G' n' pl ob:=fun t e hk=>by
 obtain ⟨b,s,p,v,h1,h2⟩:=h t e hk;refine ⟨b,s,p,v,h1,{base:=h2.base,box:=(hw b _ h2.box).2,self:=h2.self,cells:=by rw[(hw b _ h2.box).1];exact h2.cells,owns:=⟨h2.owns.1, ?_⟩,ne:=h2.ne,bytes:=fun g hg=>(hw g _ (h2.bytes g hg)).2}⟩
 rcases h2.owns.2 with h3|⟨g,cap,cur,fz,rfl,hb,hg,rest⟩
 ·exact .inl h3
 ·exact .inr ⟨g,cap,cur,fz,rfl,hb,by rw[(hw g _ (h2.bytes g rfl)).1];exact hg,rest⟩
theorem Bld.frame{w w':World}{G G':Ghost}{n:Nat}{pl:Place}{ob:Obj}(h:Bld w G n pl ob)(hw:∀b π,G b=some (n,π)→w'.heap[b]? =w.heap[b]?∧G' b=G b):Bld w' G' n pl ob:=
 h.frame2 fun b π hb=>⟨(hw b π hb).1,(hw b π hb).2.trans hb⟩
structure ObjRel (w:World) (G:Ghost) (n:Nat) (pl:Place) (ob:Obj):Prop where
 bld:Bld w G n pl ob
 fl:ob.fl.length=ob.row.length
 rel:zcC w (QObj G n ob.fl) pl.hd ob.row
 box:ob.kind= .box→∃b off cs ty,pl.base=some ⟨b,off,none⟩∧G b=some (n,[])∧w.heap[b]? =some (.cells cs ty (0,0))∧
  off+ob.row.length≤cs.size∧∀c,c<ob.row.length→cs[off+c]? =some (pl.hd c)
def hdf(pl:Place):Nat→Option Value:=fun c=>some (pl.hd c)
def zb2(w:World)(pl:Place)(row:List D)(p:Path)(c:Nat):Option Value:=
 if p=[]then some (pl.hd c)else (zaD w (hdf pl) row p none).bind fun ad=>w.cell? ⟨ad.block,ad.off+c,none⟩
structure RefR (w:World) (G:Ghost) (obs:Obs) (pl:zaP) (n:Nat) (p:Path) (c:Nat) (u:Value) (ob:Obj):Prop where
 at0:obs n=some ob
 kind:ob.kind= .ro→(∀c,ob.fl.getD c .sh= .sh)∧∃ad0,(pl n).base=some ad0∧RoOk w G (pl n) ob.row ad0
 path:zbR ob.row p
 lt:c<(zaj ob.row p).length
 sl:∃es,(zaj ob.row p).getD c .h= .s es
 head:zb2 w (pl n) ob.row p c=some u
structure RefP (w:World) (G:Ghost) (obs:Obs) (pl:zaP) (n:Nat) (p:Path) (ad:Addr) (ob:Obj):Prop where
 at0:obs n=some ob
 path:zbR ob.row p
 at_:zaD w (hdf (pl n)) ob.row p (pl n).base=some ad
 spot:ad.spot=none
 ro:ob.kind= .ro→(∀c,ob.fl.getD c .sh= .sh)∧∃ad0,(pl n).base=some ad0∧RoOk w G (pl n) ob.row ad0
 virt:p=[]→ob.kind≠ .virt
def V0(w:World)(G:Ghost)(obs:Obs)(pl:zaP)(u:Value):A0→Prop
 | .dead=>True
 | .v x=>u=x
 | .s es=>Rel w (QSh G) u (.s es)
 | .r n p c=>∃ob,RefR w G obs pl n p c u ob
 | .p ok n p c=>if ok then∃ad ob,RefP w G obs pl n p ad ob∧u= .pointer (some ⟨ad.block,ad.off+c,none⟩)else u= .pointer none
def V1(w:World)(G:Ghost)(obs:Obs)(pl:zaP)(u:Value):A1→Prop
 | .dead=>True
 | .v x=>u=x
 | .s es=>Rel w (QSh G) u (.s es)
 | .q row c=>∃ad hd,u= .pointer (some ⟨ad.block,ad.off+c,none⟩)∧RoOk w G ⟨none,hd⟩ row ad
 | .r n p c=>∃ob,RefR w G obs pl n p c u ob
 | .p ok n p c=>if ok then∃ad ob,RefP w G obs pl n p ad ob∧u= .pointer (some ⟨ad.block,ad.off+c,none⟩)else u= .pointer none
 | .bx cs c=>∃b off,u= .pointer (some ⟨b,off+c,none⟩)∧b<w.heap.size∧G b=none∧∀i (h:i<cs.length),∃x,w.cell? ⟨b,off+i,none⟩=some x∧V0 w G obs pl x cs[i]
theorem V0.a1{w:World}{G:Ghost}{obs:Obs}{pl:zaP}{u:Value}{a:A0}:V0 w G obs pl u a↔V1 w G obs pl u a.a1:=by cases a<;>exact Iff.rfl
theorem A0.a1_bx(a:A0)(cs:List A0)(c:Nat):a.a1≠ .bx cs c:=by cases a<;>simp[A0.a1]
theorem A0.kill_a1(kl:List (Nat×Nat))(a:A0):(a.kill kl).a1=a.a1.kill kl:=by
 cases a with
 |r n pa c=>
  show (A0.kill kl (.r n pa c)).a1=A1.kill kl (.r n pa c);show (if (kl.any fun x=>x.1==n&&(decide (0<x.2)|| !pa.isEmpty))=true then A0.dead else .r n pa c).a1=if (kl.any fun x=>x.1==n&&(decide (0<x.2)|| !pa.isEmpty))=true then A1.dead else .r n pa c
  by_cases h:(kl.any fun x=>x.1==n&&(decide (0<x.2)|| !pa.isEmpty))=true
  ·rw[if_pos h,if_pos h];rfl
  ·rw[if_neg h,if_neg h];rfl
 |p b n pa c=>
  show (if (kl.any fun x=>x.1==n&&((decide (1<x.2)|| !pa.isEmpty)&&decide (x.2<5)))=true then A0.dead else .p b n pa c).a1=if (kl.any fun x=>x.1==n&&((decide (1<x.2)|| !pa.isEmpty)&&decide (x.2<5)))=true then A1.dead else .p b n pa c
  by_cases h:(kl.any fun x=>x.1==n&&((decide (1<x.2)|| !pa.isEmpty)&&decide (x.2<5)))=true
  ·rw[if_pos h,if_pos h];rfl
  ·rw[if_neg h,if_neg h];rfl
 |_=>rfl
def VAV(w:World)(G:Ghost)(obs:Obs)(pl:zaP)(u:Value):AV→Prop
 | .one a=>V1 w G obs pl u a
 | .g cs=>∃arr:Array Value,u= .agg arr∧arr.size=cs.length∧∀i (h:i<cs.length),V1 w G obs pl (arr.getD i undef) (cs[i])
 | .t vs=>∃arr:Array Value,u= .tuple arr∧arr.size=vs.length∧∀i (h:i<vs.length),
  if (vs[i]).1 then∃ar:Array Value,arr.getD i undef= .agg ar∧ar.size=(vs[i]).2.length∧∀j (h:j<(vs[i]).2.length),V1 w G obs pl (ar.getD j undef) ((vs[i]).2[j])
  else∃a,(vs[i]).2=[a]∧V1 w G obs pl (arr.getD i undef) a
 | .f fn caps=>∃arr:Array Value,u= .func (.func fn) #[] arr∧arr.size=caps.length∧∀i (h:i<caps.length),V1 w G obs pl (arr.getD i undef) (caps[i])
def GlOk(gl:List (Nat×List D))(w:World)(G:Ghost):Prop:=∀g row,glGet gl g=some row→∃hd,RoOk w G ⟨none,hd⟩ row ⟨g,0,none⟩∧∃cs ty e,w.heap[g]? =some (.cells cs ty e)∧cs.size=row.length
section keep
variable (w w':World)(G G':Ghost)(obs obs':Obs)(pl pl':zaP)
def zex(n:Nat):Prop:=∀ob,obs n=some ob→∃ob',obs' n=some ob'∧ob'.row=ob.row∧ob'.kind=ob.kind∧pl' n=pl n∧(ob.kind= .ro→ob'.fl=ob.fl)∧
 ∀b π,G b=some (n,π)→w'.heap[b]? =w.heap[b]?
def KeptR(n:Nat):Prop:=∀ob,obs n=some ob→ob.kind≠ .ro→∃ob',obs' n=some ob'∧ob'.kind≠ .ro∧
 ∀c es,c<ob.row.length→ob.row.getD c .h= .s es→c<ob'.row.length∧(∃es',ob'.row.getD c .h= .s es')∧(pl' n).hd c=(pl n).hd c
def KeptP(n:Nat):Prop:=∀ob,obs n=some ob→∃ob',obs' n=some ob'∧ob'.kind=ob.kind∧(pl' n).base=(pl n).base∧
 (ob.kind= .ro→ob'=ob∧pl' n=pl n)
def KeptQ(n:Nat):Prop:=∀p ad ob,RefP w G obs pl n p ad ob→∃ob',RefP w' G' obs' pl' n p ad ob'
def zcc:Prop:=∀b,b<w.heap.size→G b=none→w'.heap[b]? =w.heap[b]?∧G' b=none
end keep
theorem RoOk.frame{w w':World}{G G':Ghost}{pl:Place}{row:List D}{ad:Addr}(h:RoOk w G pl row ad)(hB:zcc w w' G G'):RoOk w' G' pl row ad:=
 {spot:=h.spot
  lt:=zeh (hB _ h.lt h.blk).1 h.lt
  blk:=(hB _ h.lt h.blk).2
  cell:=fun c hc=>by rw[cell_of_heap (hB _ h.lt h.blk).1];exact h.cell c hc
  rel:=h.rel.frame (fun _ b hl hq=>(hB b hl hq).1) (fun _ b hl hq=>(hB b hl hq).2)}
theorem RoOk.mono{w:World}{G G':Ghost}{pl:Place}{row:List D}{ad:Addr}(h:RoOk w G pl row ad)(hG:∀b,G b=none→G' b=none):RoOk w G' pl row ad:=
 {h with blk:=hG _ h.blk,rel:=fun c hc=>(h.rel c hc).mono fun _ b hb=>hG b hb}
theorem RefR.objRel{w:World}{G:Ghost}{obs:Obs}{pl:zaP}{n:Nat}{p:Path}{c:Nat}{u:Value}{ob:Obj}(hr:RefR w G obs pl n p c u ob)
 (hI:∀n ob,obs n=some ob→ob.kind≠ .ro→ObjRel w G n (pl n) ob):
 ∃o1:Obj,ObjRel w G n (pl n) o1∧o1.row=ob.row∧(∀c,o1.fl.getD c .sh=ob.fl.getD c .sh)∧(ob.kind≠ .ro→o1=ob):=by
 by_cases hro:ob.kind= .ro
 ·obtain ⟨h1,ad0,h2,h3⟩:=hr.kind hro
  have hg:∀c,(List.replicate ob.row.length Own.sh).getD c .sh= .sh:=fun c=>by
   simp only[List.getD_eq_getElem?_getD,List.getElem?_replicate];split<;>rfl
  refine ⟨⟨.virt,ob.row,List.replicate ob.row.length .sh⟩,⟨Bld.not rfl,by simp,fun c hc=>(h3.rel c hc).mono fun π b hb=> ?_,fun h=>by simp at h⟩,rfl,fun c=>by rw[h1 c];exact hg c,fun h=>absurd hro h⟩
  show QCell G n c ((List.replicate ob.row.length Own.sh).getD c .sh) π b;rw[hg c];exact hb
 ·exact ⟨ob,hI n ob hr.at0 hro,rfl,fun _=>rfl,fun _=>rfl⟩
theorem zhi{row:List D}{s:ByteArray}(h:row=[.v (.string s), .h]){c e:Nat}{p:Path}(hp:zbR row ((c,e)::p)):False:=by
 subst h;have h1:c<2:=hp.1;have h2:=hp.2.1;have:c=0∨c=1:=by omega
 rcases this with rfl|rfl<;>simp[D.es]at h2
theorem Bld.path{w:World}{G:Ghost}{n:Nat}{pl:Place}{ob:Obj}(h:Bld w G n pl ob){p:Path}(hp:zbR ob.row p)(h0:p≠[]):ob.kind.isBld=false:=by
 cases hk:ob.kind with
 |bld t e=>
  obtain ⟨b,s,p',v,h1,h2⟩:=h t e hk;cases p with
  |nil=>exact absurd rfl h0
  |cons x p=>obtain ⟨c,e⟩:=x;exact (zhi h1 hp).elim
 |_=>rfl
theorem Bld.cell{w:World}{G:Ghost}{n:Nat}{pl:Place}{ob:Obj}(h:Bld w G n pl ob){c:Nat}{es:List (List D)}(hc:ob.row.getD c .h= .s es):ob.kind.isBld=false:=by
 cases hk:ob.kind with
 |bld t e=>
  obtain ⟨b,s,p',v,h1,h2⟩:=h t e hk;rw[h1]at hc;cases c with
  |zero=>simp at hc
  |succ c=>cases c<;>simp at hc
 |_=>rfl
theorem RefR.notBld{w:World}{G:Ghost}{obs:Obs}{pl:zaP}{n:Nat}{p:Path}{c:Nat}{u:Value}{ob:Obj}(hr:RefR w G obs pl n p c u ob)
 (hI:∀n ob,obs n=some ob→ob.kind≠ .ro→ObjRel w G n (pl n) ob):ob.kind.isBld=false:=by
 cases hk:ob.kind with
 |bld t e=>
  obtain ⟨b,s,p',v,h1,h2⟩:=(hI n ob hr.at0 (by rw[hk];simp)).bld t e hk
  cases p with
  |nil=>
   obtain ⟨es,hes⟩:=hr.sl;have hl:=hr.lt;simp only[zaj]at hes hl;rw[h1]at hes hl;have:c=0∨c=1:=by simp at hl;omega
   rcases this with rfl|rfl<;>simp at hes
  |cons x p=>
   obtain ⟨c0,e0⟩:=x;exact (zhi h1 hr.path).elim
 |_=>rfl
theorem GlOk.frame{gl:List (Nat×List D)}{w w':World}{G G':Ghost}(h:GlOk gl w G)(hB:zcc w w' G G'):GlOk gl w' G':=fun g row hg=>by
 obtain ⟨hd,hr,cs,ty,e,h1,h2⟩:=h g row hg;exact ⟨hd,hr.frame hB,cs,ty,e,by rw[(hB g hr.lt hr.blk).1];exact h1,h2⟩
theorem ObjRel.heap{w w':World}{G G':Ghost}{n:Nat}{pl:Place}{ob:Obj}(_:ObjRel w G n pl ob)(hB:zcc w w' G G')
 (hO:∀b π,G b=some (n,π)→w'.heap[b]? =w.heap[b]?):∀π b,b<w.heap.size→QObj G n ob.fl π b→w'.heap[b]? =w.heap[b]? :=
 fun π b hl hq=>by
  rcases hq.own with h|h
  ·exact hO b π h
  ·exact (hB b hl h).1
theorem ObjRel.addr{w w':World}{G G':Ghost}{n:Nat}{pl:Place}{ob:Obj}(h:ObjRel w G n pl ob)(hB:zcc w w' G G')
 (hO:∀b π,G b=some (n,π)→w'.heap[b]? =w.heap[b]?) {p:Path} (hp:zbR ob.row p) (base:Option Addr):
 zaD w' (hdf pl) ob.row p base=zaD w (hdf pl) ob.row p base:=
 zcp p base h.rel hp (h.heap hB hO)
theorem ObjRel.head{w w':World}{G G':Ghost}{n:Nat}{pl:Place}{ob:Obj}(h:ObjRel w G n pl ob)(hB:zcc w w' G G')
 (hO:∀b π,G b=some (n,π)→w'.heap[b]? =w.heap[b]?) {p:Path} (hp:zbR ob.row p) (c:Nat):
 zb2 w' pl ob.row p c=zb2 w pl ob.row p c:=by
 simp only[zb2];split
 ·rfl
 ·rename_i hne
  rw[h.addr hB hO hp];obtain ⟨ad,hd',D⟩:=zdb p none h.rel hp hne;have hat:zaD w (hdf pl) ob.row p none=some ad:=D.at_;rw[hat];simp only[Option.bind_some];exact cell_of_heap (h.heap hB hO _ _ D.lt D.blk) _
theorem zhj{kl:List (Nat×Nat)}{n:Nat}(h:¬∀x∈kl,x.1≠n):∃x∈kl,x.1=n:=
 Classical.byContradiction fun h'=>h fun x hx hn=>h' ⟨x,hx,hn⟩
theorem V1.turn0{w w':World}{G G':Ghost}{obs obs':Obs}{pl pl':zaP}{u:Value}{a:A1}{kl:List (Nat×Nat)}
 (h:V1 w G obs pl u a) (hbx:∀cs c,a≠ .bx cs c) (hI:∀n ob,obs n=some ob→ob.kind≠ .ro→ObjRel w G n (pl n) ob) (hB:zcc w w' G G')
 (hF:∀n,(∀x∈kl,x.1≠n)→zex w w' G obs obs' pl pl' n)
 (hR:∀n,(∀x∈kl,x.1=n→x.2=0)→KeptR obs obs' pl pl' n)
 (hP:∀n,(∀x∈kl,x.1=n→x.2≤1)→KeptP obs obs' pl pl' n)
 (hQ:∀n,(∃x∈kl,x.1=n∧5≤x.2)→(∀x∈kl,x.1=n→5≤x.2)→KeptQ w w' G G' obs obs' pl pl' n) (hmix:∀n,(∃x∈kl,x.1=n∧5≤x.2)→∀x∈kl,x.1=n→5≤x.2):V1 w' G' obs' pl' u (a.kill kl):=by
 cases a with
 |bx cs c=>exact absurd rfl (hbx cs c)
 |dead=>exact trivial
 |v x=>exact h
 |s es=>exact Rel.frame h (fun _ b hl hq=>(hB b hl hq).1) (fun _ b hl hq=>(hB b hl hq).2)
 |q row c=>
  obtain ⟨ad,hd,hu,hro⟩:=h;exact ⟨ad,hd,hu,hro.frame hB⟩
 |r n p c=>
  obtain ⟨ob,hr⟩:=h;simp only[A1.kill];by_cases hk:(kl.any fun x=>x.1==n&&(decide (0<x.2)|| !p.isEmpty))=true
  ·rw[if_pos hk];exact trivial
  ·rw[if_neg hk]
   have hk':∀x∈kl,x.1=n→x.2=0∧p=[]:=by
    intro x hx hn;simp only[List.any_eq_true,not_exists,not_and]at hk;have:=hk x hx;simp[hn]at this;exact ⟨this.1,this.2⟩
   by_cases hro:ob.kind= .ro
   ·obtain ⟨hfl,ad0,hb0,hro'⟩:=hr.kind hro
    obtain ⟨o1,hrel,hrow,_,_⟩:=hr.objRel hI
    have keep:∃ob',obs' n=some ob'∧ob'.row=ob.row∧ob'.kind=ob.kind∧pl' n=pl n∧ob'.fl=ob.fl:=by
     by_cases hnone:∀x∈kl,x.1≠n
     ·obtain ⟨ob',h1,h2,h3,h4,h6,_⟩:=hF n hnone ob hr.at0
      exact ⟨ob',h1,h2,h3,h4,h6 hro⟩
     ·obtain ⟨ob',h1,_,_,h4⟩:=hP n (fun x hx hn=>by rw[(hk' x hx hn).1];decide) ob hr.at0
      obtain ⟨rfl,h6⟩:=h4 hro;exact ⟨ob',h1,rfl,rfl,h6,rfl⟩
    obtain ⟨ob',h1,h2,h3,h4,h6⟩:=keep;refine ⟨ob',h1,fun _=>⟨h6▸hfl,ad0,by rw[h4];exact hb0,by rw[h4,h2];exact hro'.frame hB⟩,h2▸hr.path,h2▸hr.lt,h2▸hr.sl, ?_⟩
    have hh:=zcC.frame (Q':=QSh G') hro'.rel (fun _ b hl hq=>(hB b hl hq).1) (fun _ b hl hq=>(hB b hl hq).2)
    rw[h2,h4];have hd:=hr.head;simp only[zb2]at hd⊢;split
    ·rename_i hp0;rw[if_pos hp0]at hd;exact hd
    ·rename_i hp0
     rw[if_neg hp0]at hd;obtain ⟨ad1,hd1,D1⟩:=zdb p none hro'.rel hr.path hp0;have hat:zaD w (hdf (pl n)) ob.row p none=some ad1:=D1.at_
     have hat':zaD w' (hdf (pl n)) ob.row p none=some ad1:=by
      rw[←hat];exact zcp p none hro'.rel hr.path (fun _ b hl hq=>(hB b hl hq).1)
     rw[hat,Option.bind_some]at hd;rw[hat',Option.bind_some,cell_of_heap (hB _ D1.lt D1.blk).1];exact hd
   by_cases hnone:∀x∈kl,x.1≠n
   ·obtain ⟨ob',h1,h2,h3,h4,h6,h5⟩:=hF n hnone ob hr.at0
    have hrel:=hI n ob hr.at0 hro;refine ⟨ob',h1,fun h=>absurd (h3▸h) hro,h2▸hr.path,h2▸hr.lt,h2▸hr.sl, ?_⟩
    rw[h2,h4,hrel.head hB h5 hr.path];exact hr.head
   ·have hp0:p=[]:=by
     obtain ⟨x,hx,hn⟩:=zhj hnone;exact (hk' x hx hn).2
    subst hp0;obtain ⟨ob',h1,h2,h3⟩:=hR n (fun x hx hn=>(hk' x hx hn).1) ob hr.at0 hro
    obtain ⟨es,hes⟩:=hr.sl;obtain ⟨h4,h5,h6⟩:=h3 c es hr.lt hes;exact ⟨ob',h1,fun h=>absurd h h2,trivial,h4,h5,by have:=hr.head;simp only[zb2,if_true]at this⊢;rw[h6];exact this⟩
 |p ok n p c=>
  simp only[A1.kill];by_cases hk:(kl.any fun x=>x.1==n&&((decide (1<x.2)|| !p.isEmpty)&&decide (x.2<5)))=true
  ·rw[if_pos hk];exact trivial
  ·rw[if_neg hk]
   cases ok with
   |false=>exact h
   |true=>
    obtain ⟨ad,ob,hr,hu⟩:=h
    have hk5:∀x∈kl,x.1=n→5≤x.2∨(x.2≤1∧p=[]):=by
     intro x hx hn;rcases Nat.lt_or_ge x.2 5 with h5|h5
     ·right
      simp only[List.any_eq_true,not_exists,not_and]at hk;have:=hk x hx;simp[hn,h5]at this;exact ⟨this.1,this.2⟩
     ·exact .inl h5
    by_cases hq:(∃x∈kl,x.1=n∧5≤x.2)∧(∀x∈kl,x.1=n→5≤x.2)
    ·obtain ⟨ob',hr'⟩:=hQ n hq.1 hq.2 p ad ob hr
     exact ⟨ad,ob',hr',hu⟩
    have hm:(∃x∈kl,x.1=n∧5≤x.2)→False:=fun hx=>by
     obtain ⟨x,h1,h2,h3⟩:=hx;exact hmix n ⟨x,h1,h2,h3⟩|>fun h=>hq ⟨⟨x,h1,h2,h3⟩,h⟩
    have hk':∀x∈kl,x.1=n→x.2≤1∧p=[]:=fun x hx hn=>by
     rcases hk5 x hx hn with h5|h5
     ·exact (hm ⟨x,hx,hn,h5⟩).elim
     ·exact h5
    by_cases hnone:∀x∈kl,x.1≠n
    ·obtain ⟨ob',h1,h2,h3,h4,h6,h5⟩:=hF n hnone ob hr.at0
     refine ⟨ad,ob',{at0:=h1,path:=h2▸hr.path,at_:= ?_,spot:=hr.spot,ro:=fun h=> ?_,virt:=fun h=>h3▸hr.virt h},hu⟩
     ·rw[h2,h4]
      by_cases hro:ob.kind= .ro
      ·obtain ⟨_,ad0,_,hro'⟩:=hr.ro hro
       rw[←hr.at_];exact zcp p _ hro'.rel hr.path (fun _ b hl hq=>(hB b hl hq).1)
      ·rw[←hr.at_]
       exact (hI n ob hr.at0 hro).addr hB h5 hr.path _
     ·obtain ⟨hfl,ad0,hb0,hro'⟩:=hr.ro (h3▸h)
      rw[h4,h2,h6 (h3▸h)];exact ⟨hfl,ad0,hb0,hro'.frame hB⟩
    ·have hp0:p=[]:=by
      obtain ⟨x,hx,hn⟩:=zhj hnone;exact (hk' x hx hn).2
     subst hp0;obtain ⟨ob',h1,h2,h3,h4⟩:=hP n (fun x hx hn=>(hk' x hx hn).1) ob hr.at0
     refine ⟨ad,ob',{at0:=h1,path:=trivial,at_:= ?_,spot:=hr.spot,ro:=fun h=> ?_,virt:=fun h=>h2▸hr.virt h},hu⟩
     ·have:=hr.at_;simp only[zaD]at this⊢;rw[h3];exact this
     ·obtain ⟨hfl,ad0,hb0,hro'⟩:=hr.ro (h2▸h)
      obtain ⟨h5,h6⟩:=h4 (h2▸h);rw[h6,h5];exact ⟨hfl,ad0,hb0,hro'.frame hB⟩
theorem V1.turn{w w':World}{G G':Ghost}{obs obs':Obs}{pl pl':zaP}{u:Value}{a:A1}{kl:List (Nat×Nat)}
 (h:V1 w G obs pl u a) (hI:∀n ob,obs n=some ob→ob.kind≠ .ro→ObjRel w G n (pl n) ob) (hB:zcc w w' G G')
 (hF:∀n,(∀x∈kl,x.1≠n)→zex w w' G obs obs' pl pl' n)
 (hR:∀n,(∀x∈kl,x.1=n→x.2=0)→KeptR obs obs' pl pl' n)
 (hP:∀n,(∀x∈kl,x.1=n→x.2≤1)→KeptP obs obs' pl pl' n)
 (hQ:∀n,(∃x∈kl,x.1=n∧5≤x.2)→(∀x∈kl,x.1=n→5≤x.2)→KeptQ w w' G G' obs obs' pl pl' n) (hmix:∀n,(∃x∈kl,x.1=n∧5≤x.2)→∀x∈kl,x.1=n→5≤x.2):V1 w' G' obs' pl' u (a.kill kl):=by
 cases a with
 |bx cs c=>
  obtain ⟨b,off,hu,hl,hG,hc⟩:=h;refine ⟨b,off,hu,zeh (hB b hl hG).1 hl,(hB b hl hG).2,fun i hi=> ?_⟩
  have hi':i<cs.length:=by simpa using hi
  obtain ⟨x,hx,hv⟩:=hc i hi';refine ⟨x,by rw[cell_of_heap (hB b hl hG).1];exact hx, ?_⟩
  simp only[List.getElem_map];rw[V0.a1,A0.kill_a1];exact V1.turn0 (V0.a1.1 hv) (fun cs c=>A0.a1_bx _ cs c) hI hB hF hR hP hQ hmix
 |_=>exact V1.turn0 h (fun cs c h=>by cases h) hI hB hF hR hP hQ hmix
end Go.PV
namespace Go.PV
open Go.RowKit
def zcx(w:World)(G:Ghost)(obs:Obs)(pl:zaP):Prop:=∀n ob,obs n=some ob→ob.kind≠ .ro→ObjRel w G n (pl n) ob
theorem rel_at{w:World}{G:Ghost}{n:Nat}{pl:Place}{ob:Obj}(h:ObjRel w G n pl ob){p:Path}(hp:zbR ob.row p){c:Nat}
 (hc:c<(zaj ob.row p).length) {u:Value} (hu:zb2 w pl ob.row p c=some u):
 Rel w (fun π b=>QObj G n ob.fl (flat p++c::π) b) u ((zaj ob.row p)[c]):=by
 by_cases hp0:p=[]
 ·subst hp0
  simp only[zb2,if_true,Option.some.injEq]at hu;subst hu;exact h.rel c hc
 ·obtain ⟨ad,hd',D⟩:=zdb p none h.rel hp hp0
  simp only[zb2,if_neg hp0]at hu;have hat:zaD w (hdf pl) ob.row p none=some ad:=D.at_;rw[hat,Option.bind_some,D.cell c hc,Option.some.injEq]at hu;subst hu;exact D.rel c hc
theorem znu{G:Ghost}{n:Nat}{fl fl':List Own}(h:∀c,fl.getD c .sh=fl'.getD c .sh)(π:List Nat)(b:Nat):QObj G n fl π b→QObj G n fl' π b:=by
 cases π with
 |nil=>exact fun h=>h
 |cons c ρ=>simp only[QObj,h c];exact fun h=>h
theorem RefR.relAt{w:World}{G:Ghost}{obs:Obs}{pl:zaP}{n:Nat}{p:Path}{c:Nat}{u:Value}{ob:Obj}(hr:RefR w G obs pl n p c u ob)
 (hI:∀n ob,obs n=some ob→ob.kind≠ .ro→ObjRel w G n (pl n) ob):
 Rel w (fun π b=>QObj G n ob.fl (flat p++c::π) b) u ((zaj ob.row p)[c]'hr.lt):=by
 obtain ⟨o1,hob,ho1,ho2,ho3⟩:=hr.objRel hI;have h1:zbR o1.row p:=ho1▸hr.path;have h2:c<(zaj o1.row p).length:=ho1▸hr.lt;have h3:=rel_at hob h1 h2 (u:=u) (by rw[ho1];exact hr.head)
 have h4:(zaj o1.row p)[c]=(zaj ob.row p)[c]'hr.lt:=by congr 1;rw[ho1]
 rw[h4]at h3;exact h3.mono fun π b hb=>znu ho2 _ _ hb
theorem RefR.notRo{w:World}{G:Ghost}{obs:Obs}{pl:zaP}{n:Nat}{p:Path}{c:Nat}{u:Value}{ob:Obj}(hr:RefR w G obs pl n p c u ob)
 (h:ownAt ob.fl p c≠ .sh):ob.kind≠ .ro:=fun hro=>h (by
 have hs:=(hr.kind hro).1;cases p with
 |nil=>exact hs c
 |cons x p=>obtain ⟨c0,e0⟩:=x;simp only[ownAt,hs c0];decide)
theorem zby(p:Path)(row r:List D)(h:p=[]→r.length=row.length):(zaC row p r).length=row.length:=by
 cases p with
 |nil=>exact h rfl
 |cons x p=>obtain ⟨c,e⟩:=x;simp[zaC]
theorem zfJ(es:List (List D)):(D.s es).es=es:=rfl
theorem zfK:∀(p:Path) (row r:List D),zbR row p→zaj (zaC row p r) p=r
 | [],row,r,_=>rfl
 |(c,e)::p,row,r,h=>by
  obtain ⟨hc,he,hp⟩:=h
  have h1:(row.set c (.s ((row.getD c .h).es.set e (zaC ((row.getD c .h).es.getD e []) p r)))).getD c .h= .s ((row.getD c .h).es.set e (zaC ((row.getD c .h).es.getD e []) p r)):=by
   simp[List.getD,hc]
  have h2:((row.getD c .h).es.set e (zaC ((row.getD c .h).es.getD e []) p r)).getD e []=zaC ((row.getD c .h).es.getD e []) p r:=by
   have h3:e<((row.getD c .h).es.set e (zaC ((row.getD c .h).es.getD e []) p r)).length:=by rw[List.length_set];exact he
   rw[za2 _ e _ h3,List.getElem_set_self]
  simp only[zaC,zaj,h1,zfJ];rw[h2];exact zfK p _ r hp
theorem zfL:∀(p:Path) (row r:List D),zbR row p→zbR (zaC row p r) p
 | [],row,r,_=>trivial
 |(c,e)::p,row,r,h=>by
  obtain ⟨hc,he,hp⟩:=h
  have h1:(row.set c (.s ((row.getD c .h).es.set e (zaC ((row.getD c .h).es.getD e []) p r)))).getD c .h= .s ((row.getD c .h).es.set e (zaC ((row.getD c .h).es.getD e []) p r)):=by
   simp[List.getD,hc]
  have h2:((row.getD c .h).es.set e (zaC ((row.getD c .h).es.getD e []) p r)).getD e []=zaC ((row.getD c .h).es.getD e []) p r:=by
   have h3:e<((row.getD c .h).es.set e (zaC ((row.getD c .h).es.getD e []) p r)).length:=by rw[List.length_set];exact he
   rw[za2 _ e _ h3,List.getElem_set_self]
  simp only[zaC,zbR,h1,zfJ];refine ⟨by rw[List.length_set];exact hc,by rw[List.length_set];exact he, ?_⟩
  rw[h2];exact zfL p _ r hp
theorem zfi(w:World):∀(p:Path) (hd:Nat→Option Value) (row r:List D) (base:Option Addr),zbR row p→r.length=(zaj row p).length→
 zaD w hd (zaC row p r) p base=zaD w hd row p base
 | [],hd,row,r,base,_,_=>rfl
 |(c,e)::p,hd,row,r,base,h,hl=>by
  obtain ⟨hc,he,hp⟩:=h
  have h1:(row.set c (.s ((row.getD c .h).es.set e (zaC ((row.getD c .h).es.getD e []) p r)))).getD c .h= .s ((row.getD c .h).es.set e (zaC ((row.getD c .h).es.getD e []) p r)):=by
   simp[List.getD,hc]
  have h2:((row.getD c .h).es.set e (zaC ((row.getD c .h).es.getD e []) p r)).getD e []=zaC ((row.getD c .h).es.getD e []) p r:=by
   have h3:e<((row.getD c .h).es.set e (zaC ((row.getD c .h).es.getD e []) p r)).length:=by rw[List.length_set];exact he
   rw[za2 _ e _ h3,List.getElem_set_self]
  have h4:(zaC ((row.getD c .h).es.getD e []) p r).length=((row.getD c .h).es.getD e []).length:=zby p _ _ (fun h0=>by subst h0;exact hl)
  simp only[zaC,zaD,h1,zfJ];rw[h2,h4];cases hd c with
  |none=>rfl
  |some v=>
   cases v<;>try rfl
   rename_i o _ _;cases o with
   |none=>rfl
   |some ad=>exact zfi w p _ _ r _ hp hl
theorem zfq{G:Ghost}{n:Nat}{fl:List Own}(p:Path)(c:Nat){π:List Nat}{b:Nat}(h:QObj G n fl (flat p++c::π) b):
 match ownAt fl p c with
 | .deep=>G b=some (n,flat p++c::π)
 | .top=>p=[]∧(if π=[]then G b=some (n,[c])else G b=none)
 | .sh=>G b=none:=by
 cases p with
 |nil=>
  simp only[ownAt];simp only[zg3,List.nil_append,QObj,QCell]at h;split
  ·rename_i h0;rw[h0]at h;exact h
  ·rename_i h0;rw[h0]at h;exact ⟨trivial,h⟩
  ·rename_i h0;rw[h0]at h;exact h
 |cons x p=>
  obtain ⟨c0,e0⟩:=x;simp only[ownAt];simp only[zbV,List.cons_append,QObj,QCell]at h;by_cases hd:fl.getD c0 .sh= .deep
  ·rw[if_pos hd]
   rw[hd]at h;exact h
  ·rw[if_neg hd]
   split at h
   ·rename_i h0;exact absurd h0 hd
   ·simpa using h
   ·exact h
def gmap(G:Ghost)(f:Nat×List Nat→Option (Nat×List Nat)):Ghost:=fun b=>(G b).bind f
theorem zhk{G:Ghost}{f:Nat×List Nat→Option (Nat×List Nat)}{b:Nat}(h:G b=none):gmap G f b=none:=by simp[gmap,h]
theorem zcd{G:Ghost}{f:Nat×List Nat→Option (Nat×List Nat)}{b:Nat}{x:Nat×List Nat}(h:G b=some x):gmap G f b=f x:=by simp[gmap,h]
def fMove(n:Nat)(ρ:List Nat)(m:Nat)(σ:List Nat):Nat×List Nat→Option (Nat×List Nat):=fun x=>
 if x.1=n∧ρ<+:x.2 then some (m,σ++x.2.drop ρ.length)else some x
theorem zqj{n m:Nat}{ρ σ π:List Nat}:fMove n ρ m σ (n,ρ++π)=some (m,σ++π):=by
 simp[fMove]
theorem zol{n m k:Nat}{ρ σ π:List Nat}(h:k=n→¬(ρ<+:π)):fMove n ρ m σ (k,π)=some (k,π):=by
 unfold fMove;rw[if_neg]
 rintro ⟨h1,h2⟩
 exact h h1 h2
def fDrop(n:Nat)(ρ:List Nat)(keep:Bool):Nat×List Nat→Option (Nat×List Nat):=fun x=>
 if x.1=n∧ρ<+:x.2∧¬(keep=true∧x.2=ρ)then none else some x
theorem zko{n k:Nat}{ρ π:List Nat}{keep:Bool}(h:k=n→¬(ρ<+:π)):fDrop n ρ keep (k,π)=some (k,π):=by
 unfold fDrop;rw[if_neg]
 rintro ⟨h1,h2,_⟩
 exact h h1 h2
def upd(obs:Obs)(n:Nat)(x:Option Obj):Obs:=fun m=>if m=n then x else obs m
@[simp] theorem zce(obs:Obs)(n:Nat)(x:Option Obj):upd obs n x n=x:=by simp[upd]
theorem zc3(obs:Obs){n m:Nat}(x:Option Obj)(h:m≠n):upd obs n x m=obs m:=by simp[upd,h]
theorem set_s(l:List D)(c:Nat)(X:List (List D))(h:c<l.length):∃es',(l.set c (.s X)).getD c .h= .s es':=
 ⟨X,by simp only[List.getD_eq_getElem?_getD,List.getElem?_set_self h,Option.getD_some]⟩
structure Mv (L:Nat) (G:Ghost) (obs:Obs) (A:Env) (G':Ghost) (obs':Obs) (A':Env):Prop where
 gnone:∀b,G b=none→G' b=none
 gkeep:∀b n π,G b=some (n,π)→n∉A'.tch→G' b=some (n,π)
 gbox:∀b n,G b=some (n,[])→G' b=some (n,[])
 gdom:∀b x,G' b=some x→∃y,G b=some y∧(Plain x.2→Plain y.2)
 gstay:∀b n π,G b=some (n,π)→(∀x∈A'.kl,x.1≠n)→G' b=some (n,π)∨G' b=none
 glim:∀b n π,G' b=some (n,π)→G b=some (n,π)∨n=L
 keep:∀n,n∉A'.tch→obs' n=obs n
 turn:∀n ob,obs n=some ob→∃ob',obs' n=some ob'∧ob'.kind=ob.kind∧ob'.row.length=ob.row.length∧(ob.kind= .ro→ob'=ob)∧
  ((∀x∈A'.kl,x.1≠n)→ob'.row=ob.row)∧((∀x∈A'.kl,x.1=n→x.2=0)→∀c es,ob.row.getD c .h= .s es→∃es',ob'.row.getD c .h= .s es')
 coh:∀n ob,fget A'.o n=some ob→obs' n=some ob
 ups:∀n∈A'.tch,fget A'.o n=obs' n
 kl:∀x∈A'.kl,x.2≤1∧x.1∈A'.tch
 tin:∀n∈A'.tch,n∈A.tch∨∃ob,obs n=some ob
 tmono:∀n∈A.tch,n∈A'.tch
 kmono:∀x∈A.kl,x∈A'.kl
theorem Mv.refl{L:Nat}{G:Ghost}{obs:Obs}{A:Env}(coh:∀n ob,fget A.o n=some ob→obs n=some ob)(ups:∀n∈A.tch,fget A.o n=obs n)
 (kl:∀x∈A.kl,x.2≤1∧x.1∈A.tch):Mv L G obs A G obs A:=
 {gnone:=fun _ h=>h,gkeep:=fun _ _ _ h _=>h,gbox:=fun _ _ h=>h,gdom:=fun _ x h=>⟨x,h,id⟩,gstay:=fun _ _ _ h _=> .inl h,glim:=fun _ _ _ h=> .inl h,keep:=fun _ _=>rfl
  turn:=fun _ ob h=>⟨ob,h,rfl,rfl,fun _=>rfl,fun _=>rfl,fun _ _ es h=>⟨es,h⟩⟩,coh,ups,kl,tin:=fun _ h=> .inl h,tmono:=fun _ h=>h,kmono:=fun _ h=>h}
theorem Mv.trans{L:Nat}{G G' G'':Ghost}{obs obs' obs'':Obs}{A A' A'':Env}(h:Mv L G obs A G' obs' A')(k:Mv L G' obs' A' G'' obs'' A''):Mv L G obs A G'' obs'' A'':=
 {gnone:=fun b hb=>k.gnone b (h.gnone b hb)
  gkeep:=fun b n π hb hn=>k.gkeep b n π (h.gkeep b n π hb (fun hn'=>hn (k.tmono n hn'))) hn
  gbox:=fun b n hb=>k.gbox b n (h.gbox b n hb)
  gdom:=fun b x hx=>let ⟨y,hy,h1⟩:=k.gdom b x hx;let ⟨z,hz,h2⟩:=h.gdom b y hy;⟨z,hz,fun h=>h2 (h1 h)⟩
  gstay:=fun b n π hb hk=>by
   rcases h.gstay b n π hb (fun x hx=>hk x (k.kmono x hx))with h1|h1
   ·exact k.gstay b n π h1 hk
   ·exact .inr (k.gnone b h1)
  glim:=fun b n π hb=>by
   rcases k.glim b n π hb with h1|h1
   ·exact h.glim b n π h1
   ·exact .inr h1
  keep:=fun n hn=>(k.keep n hn).trans (h.keep n (fun hn'=>hn (k.tmono n hn')))
  turn:=fun n ob hn=>by
   obtain ⟨ob',h1,h2,h3,h4,h5,h6⟩:=h.turn n ob hn;obtain ⟨ob'',k1,k2,k3,k4,k5,k6⟩:=k.turn n ob' h1
   refine ⟨ob'',k1,k2.trans h2,k3.trans h3,fun hr=> ?_,fun hk=>(k5 hk).trans (h5 fun x hx=>hk x (k.kmono x hx)),fun hk c es he=>
    let ⟨es1,he1⟩:=h6 (fun x hx=>hk x (k.kmono x hx)) c es he
    k6 hk c es1 he1⟩
   rw[k4 (h2▸hr),h4 hr]
  coh:=k.coh,ups:=k.ups,kl:=k.kl
  tin:=fun n hn=>by
   rcases k.tin n hn with h1|⟨ob,h1⟩
   ·exact h.tin n h1
   ·by_cases h2:n∈A'.tch
    ·exact h.tin n h2
    ·exact .inr ⟨ob,by rw[←h.keep n h2];exact h1⟩
  tmono:=fun n hn=>k.tmono n (h.tmono n hn)
  kmono:=fun x hx=>k.kmono x (h.kmono x hx)}
theorem zlL{c c':Nat}{ρ π:List Nat}(h:c≠c'):¬((c::ρ)<+:(c'::π)):=fun hp=>h (List.cons_prefix_cons.1 hp).1
structure MoveOut (w:World) (G:Ghost) (obs:Obs) (pl:zaP) (A:Env) (mv:Bool) (n:Nat) (p:Path) (c:Nat) (u:Value) (es:List (List D)) (ww:Own) (L i:Nat)
 (A':Env) (G':Ghost) (obs':Obs):Prop where
 objs:zcx w G' obs' pl
 rel:Rel w (QCell G' L i ww) u (.s es)
 mvd:Mv L G obs A G' obs' A'
 lim:∀b j π,j≠i→G b=some (L,j::π)→G' b=some (L,j::π)
 other:∀m,m≠n→obs' m=obs m
 refs:∀u' n' p' c',V1 w G obs pl u' (.r n' p' c')→zhc mv (.r n p c) (.r n' p' c')=true→V1 w G' obs' pl u' (.r n' p' c')
theorem zdK{w:World}{G:Ghost}{obs:Obs}{pl:zaP}{A A':Env}{mv:Bool}{n:Nat}{p:Path}{c:Nat}{u:Value}
 {es:List (List D)} {ww:Own} (hI:zcx w G obs pl) (coh:∀n ob,fget A.o n=some ob→obs n=some ob) (hups:∀n∈A.tch,fget A.o n=obs n)
 (hkl:∀x∈A.kl,x.2≤1∧x.1∈A.tch) (hr:V1 w G obs pl u (.r n p c)) (h:zeb A mv n p c=some (es,ww,A'))
 (L i:Nat) (hL:obs L=none):
 ∃G' obs',MoveOut w G obs pl A mv n p c u es ww L i A' G' obs':=by
 obtain ⟨ob,hr⟩:=hr;have hnL:n≠L:=by rintro rfl;rw[hr.at0]at hL;simp at hL
 obtain ⟨o1,hob,ho1,ho2,ho3⟩:=hr.objRel hI;have hat:=hr.relAt hI;obtain ⟨es0,hes0⟩:=hr.sl;have hge:(zaj ob.row p)[c]'hr.lt= .s es0:=by rw[←hes0];exact (za2 _ c _ hr.lt).symm
 rw[hge]at hat;unfold zeb at h;split at h
 ·simp at h
 rename_i ob1 hf;have hob1:ob1=ob:=by have:=coh n ob1 hf;rw[hr.at0]at this;exact (Option.some.inj this).symm
 subst hob1;simp only[hes0,D.es]at h;by_cases hsh:ownAt ob1.fl p c= .sh
 · -- shared already
   rw[if_pos hsh]at h;simp only[Option.some.injEq,Prod.mk.injEq]at h;obtain ⟨rfl,rfl,rfl⟩:=h;refine ⟨G,obs,hI,hat.mono fun π b hb=> ?_,Mv.refl coh hups hkl,fun _ _ _ _ h=>h,fun _ _=>rfl,fun _ _ _ _ h _=>h⟩
   have:=zfq p c hb;rw[hsh]at this;exact this
 rw[if_neg hsh]at h;have hro:ob1.kind≠ .ro:=hr.notRo hsh;have e1:=(ho3 hro).symm;subst e1;by_cases hmv:(mv||(decide (ob1.kind= .virt)&&p.isEmpty))=true
 · -- moved
   rw[if_pos hmv]at h;simp only[Option.some.injEq,Prod.mk.injEq]at h;obtain ⟨rfl,rfl,rfl⟩:=h
   let G':=gmap G (fMove n (flat p++[c]) L [i])
   let ob':Obj:={ob1 with row:=zaC ob1.row p ((zaj ob1.row p).set c .h)}
   have hlen:ob'.row.length=ob1.row.length:=zby p _ _ (fun h=>by subst h;simp[zaj])
   have hG'n:∀b,G b=none→G' b=none:=fun b hb=>zhk hb
   have hG'o:∀b k π,G b=some (k,π)→(k=n→¬((flat p++[c])<+:π))→G' b=some (k,π):=fun b k π hb hk=>by
    show gmap G _ b=_;rw[zcd hb];exact zol hk
   have hG'i:∀b π,G b=some (n,(flat p++[c])++π)→G' b=some (L,i::π):=fun b π hb=>by
    show gmap G _ b=_;rw[zcd hb,zqj];rfl
   -- the object itself
   have hkeepQ:∀c' ρ b,¬((flat p++[c])<+:(c'::ρ))→QObj G n ob1.fl (c'::ρ) b→QObj G' n ob1.fl (c'::ρ) b:=by
    intro c' ρ b hne hq;simp only[QObj]at hq⊢
    revert hq
    cases ob1.fl.getD c' .sh with
    |deep=>exact fun hq=>hG'o b n _ hq (fun _=>hne)
    |top=>
     simp only[QCell];by_cases hρ:ρ=[]
     ·rw[if_pos hρ,if_pos hρ];subst hρ;exact fun hq=>hG'o b n _ hq (fun _=>hne)
     ·rw[if_neg hρ,if_neg hρ];exact fun hq=>hG'n b hq
    |sh=>exact fun hq=>hG'n b hq
   have hobj':ObjRel w G' n (pl n) ob':=by
    refine {bld:=Bld.not (hr.notBld hI),fl:=by rw[hlen];exact hob.fl,rel:= ?_,box:=fun hk=> ?_}
    ·by_cases hp0:p=[]
     ·subst hp0
      intro c' hc';have hc2:c'<ob1.row.length:=by rw[←hlen];exact hc'
      have hc3:c'<(ob1.row.set c .h).length:=by simpa using hc2
      show Rel w _ _ ((ob1.row.set c .h)[c']'hc3);rw[getElem_set];by_cases hcc:c=c'
      ·rw[if_pos hcc];exact .h _ _
      ·rw[if_neg hcc]
       exact (hob.rel c' hc2).mono fun π b hb=>hkeepQ c' π b (zlL hcc) hb
     ·obtain ⟨ad,hd0,Ds⟩:=zdb p (none) hob.rel hr.path hp0
      have hblk:G ad.block=some (n,(flat p).dropLast)∨G ad.block=none:=Ds.blk.own
      have hpn:∀π,¬((flat p++[c])<+:π)→∀b,QObj G n ob1.fl π b→QObj G' n ob1.fl π b:=by
       intro π hne b hq;cases π with
       |nil=>exact hq.elim
       |cons c' ρ=>exact hkeepQ c' ρ b hne hq
      -- deep all along
      have hdeep:ownAt ob1.fl p c= .deep:=by
       cases p with
       |nil=>exact absurd rfl hp0
       |cons x p=>
        obtain ⟨c0,e0⟩:=x;simp only[ownAt]at hsh⊢;split<;>rename_i h0
        ·rfl
        ·rw[if_neg h0]at hsh;exact absurd rfl hsh
      have hblk':G ad.block=some (n,(flat p).dropLast):=by
       cases p with
       |nil=>exact absurd rfl hp0
       |cons x p=>
        obtain ⟨c0,e0⟩:=x;have h1:=Ds.blk
        have h2:ob1.fl.getD c0 .sh= .deep:=by
         simp only[ownAt]at hdeep;split at hdeep<;>rename_i h0
         ·exact h0
         ·simp at hdeep
        by_cases hq:p=[]
        ·subst hq
         simp only[zbV,zg3,List.dropLast,QObj,QCell,h2]at h1⊢;exact h1
        ·rw[za7 _ _ hq]at h1⊢
         simp only[QObj,QCell,h2]at h1;exact h1
      refine zgj (w':=w) p Ds hob.rel hr.path hp0 ((zaj ob1.row p).set c .h) hd0 (by simp) (fun _ _ _ _ _ _=>rfl) Ds.lt (fun _ _=>rfl)
       (fun j hj=>Ds.cell j (by simpa using hj)) (fun π hq=> ?_) (fun π b _ hq hne _=>hpn π (fun h=>hne ?_) b hq) ?_
      ·rcases hq.own with h1|h1
       ·rw[hblk']at h1
        simpa using h1.symm
       ·rw[hblk']at h1;simp at h1
      ·exact (List.prefix_append (flat p) [c]).trans h
      ·intro j hj
       have hj':j<(zaj ob1.row p).length:=by simpa using hj
       rw[getElem_set];by_cases hcj:c=j
       ·rw[if_pos hcj];exact .h _ _
       ·rw[if_neg hcj]
        refine (Ds.rel j hj').mono fun π b hb=>hpn _ (fun hpre=> ?_) b hb
        rw[List.prefix_append_right_inj]at hpre;exact hcj (List.cons_prefix_cons.1 hpre).1
    ·obtain ⟨b,off,cs,ty,h1,h2,h3,h4,h5⟩:=hob.box hk
     refine ⟨b,off,cs,ty,h1,hG'o b n [] h2 (fun _ h=> ?_),h3,hlen.symm▸h4,fun c' hc'=>h5 c' (hlen▸hc')⟩
     have:=h.length_le;simp at this
   refine ⟨G',upd obs n (some ob'), ?_, ?_, ?_, ?_,fun m hm=>zc3 obs _ hm, ?_⟩
   ·intro m om hm hk
    by_cases hmn:m=n
    ·subst hmn
     rw[zce]at hm;obtain rfl:=Option.some.inj hm;exact hobj'
    ·rw[zc3 _ _ hmn]at hm
     have ho:=hI m om hm hk;refine {bld:=ho.bld.frame fun b π hb=>⟨rfl,by rw[hb];exact hG'o b m π hb (fun h=>absurd h hmn)⟩,fl:=ho.fl,rel:=ho.rel.frame (fun _ _ _ _=>rfl) (fun π b _ hq=> ?_),box:=fun hk=> ?_}
     ·cases π with
      |nil=>exact hq.elim
      |cons c' ρ=>
       simp only[QObj]at hq⊢
       revert hq
       cases om.fl.getD c' .sh with
       |deep=>exact fun hq=>hG'o b m _ hq (fun h=>absurd h hmn)
       |top=>
        simp only[QCell];split
        ·exact fun hq=>hG'o b m _ hq (fun h=>absurd h hmn)
        ·exact fun hq=>hG'n b hq
       |sh=>exact fun hq=>hG'n b hq
     ·obtain ⟨b,off,cs,ty,h1,h2,h3,h4,h5⟩:=ho.box hk
      exact ⟨b,off,cs,ty,h1,hG'o b m [] h2 (fun h=>absurd h hmn),h3,h4,h5⟩
   ·refine hat.mono fun π b hb=> ?_
    have:=zfq p c hb
    revert this
    cases hw:ownAt ob1.fl p c with
    |deep=>
     intro h1;exact hG'i b π (by rw[List.append_assoc];exact h1)
    |top=>
     rintro ⟨rfl,h1⟩
     simp only[QCell];by_cases hπ:π=[]
     ·rw[if_pos hπ]at h1⊢;exact hG'i b [] h1
     ·rw[if_neg hπ]at h1⊢;exact hG'n b h1
    |sh=>exact absurd hw hsh
   ·refine {gnone:=hG'n,gkeep:=fun b k π hb hk=>hG'o b k π hb (fun h=>absurd (h▸List.mem_cons_self) hk),gbox:=fun b k hb=>hG'o b k [] hb (fun _ h=> ?_)
            gdom:=fun b x hx=> ?_,gstay:=fun b k π hb hk=> .inl (hG'o b k π hb (fun h=>absurd h.symm (hk (n,_) List.mem_cons_self))),glim:=fun b k π hb=> ?_
            keep:=fun m hm=>zc3 _ _ (fun h=>hm (h▸List.mem_cons_self)),turn:=fun m om hm=> ?_,coh:=fun m om hm=> ?_
            ups:=fun m hm=> ?_,kl:=fun x hx=> ?_,tin:=fun m hm=> ?_,tmono:=fun m hm=>List.mem_cons_of_mem _ hm,kmono:=fun x hx=>List.mem_cons_of_mem _ hx}
    ·have:=h.length_le;simp at this
    ·cases hG:G b with
     |none=>rw[hG'n b hG]at hx;simp at hx
     |some y=>
      refine ⟨y,rfl,fun hp=> ?_⟩
      have hb':gmap G (fMove n (flat p++[c]) L [i]) b=some x:=hx;rw[zcd hG]at hb';unfold fMove at hb';split at hb'
      ·rename_i hpre
       simp only[Option.some.injEq]at hb';subst hb';obtain ⟨t,ht⟩:=hpre.2;have hl:=congrArg List.length ht;simp only[List.length_append,List.length_singleton,zcW]at hl;unfold Plain at hp⊢;simp only[List.length_append,List.length_singleton,List.length_drop,zcW,List.append_eq_nil_iff,List.cons_ne_nil,false_and,false_or]at hp;right;omega
      ·obtain rfl:=Option.some.inj hb';exact hp
    ·cases hG:G b with
     |none=>rw[hG'n b hG]at hb;simp at hb
     |some y=>
      have hb':gmap G (fMove n (flat p++[c]) L [i]) b=some (k,π):=hb;rw[zcd hG]at hb';unfold fMove at hb';split at hb'
      ·simp only[Option.some.injEq,Prod.mk.injEq]at hb'
       exact .inr hb'.1.symm
      ·exact .inl hb'
    ·by_cases hmn:m=n
     ·subst hmn
      rw[hr.at0]at hm;obtain rfl:=Option.some.inj hm;refine ⟨ob',zce _ _ _,rfl,hlen,fun h=>absurd h hro,fun h=>absurd rfl (h (m,_) List.mem_cons_self),fun h c' es' he=> ?_⟩
      have h0:(if p.isEmpty=true then 1 else 0)=0:=h (m,_) List.mem_cons_self rfl
      cases p with
      |nil=>simp at h0
      |cons y q=>
       obtain ⟨c0,e0⟩:=y;show∃es',(zaC ob1.row ((c0,e0)::q) _).getD c' .h= .s es';simp only[zaC];by_cases hcc:c0=c'
       ·subst hcc
        have hlt:c0<ob1.row.length:=by
         rcases Nat.lt_or_ge c0 ob1.row.length with h1|h1
         ·exact h1
         ·simp[List.getD_eq_getElem?_getD,List.getElem?_eq_none h1]at he
        exact set_s _ _ _ hlt
       ·exact ⟨es',by simp only[List.getD_eq_getElem?_getD,List.getElem?_set_ne hcc]at he⊢;exact he⟩
     ·exact ⟨om,by rw[zc3 _ _ hmn];exact hm,rfl,rfl,fun _=>rfl,fun _=>rfl,fun _ _ es h=>⟨es,h⟩⟩
    ·simp only[fget]at hm
     by_cases hmn:n=m
     ·rw[if_pos hmn]at hm;subst hmn;rw[zce];exact hm
     ·rw[if_neg hmn]at hm;rw[zc3 _ _ (fun h=>hmn h.symm)];exact coh m om hm
    ·simp only[fget]
     by_cases hmn:n=m
     ·rw[if_pos hmn];subst hmn;rw[zce]
     ·rw[if_neg hmn,zc3 _ _ (fun h=>hmn h.symm)]
      rcases List.mem_cons.1 hm with h|h
      ·exact absurd h.symm hmn
      ·exact hups m h
    ·rcases List.mem_cons.1 hx with rfl|hx
     ·exact ⟨by show (if p.isEmpty=true then 1 else 0)≤1;split<;>decide,List.mem_cons_self⟩
     ·exact ⟨(hkl x hx).1,List.mem_cons_of_mem _ (hkl x hx).2⟩
    ·rcases List.mem_cons.1 hm with rfl|hm
     ·exact .inr ⟨_,hr.at0⟩
     ·exact .inl hm
   ·intro b j π hj hb
    exact hG'o b L _ hb (fun h=>absurd h.symm hnL)
   ·intro u' n' p' c' hv hap
    obtain ⟨om,hv⟩:=hv;by_cases hmn:n'=n
    ·subst hmn
     have hoo:ob1=om:=by have:=hv.at0;rw[hr.at0]at this;exact Option.some.inj this
     subst hoo;simp only[zhc,bne_self_eq_false,Bool.false_or,Bool.or_eq_true,Bool.and_eq_true,Bool.not_eq_true',bne_iff_ne,ne_eq,List.isEmpty_iff,decide_eq_true_eq]at hap
     have hpp:p=p'∧c≠c':=by
      rcases hap with (⟨⟨h1,h2⟩,h3⟩|⟨⟨h1,h2⟩,h3⟩)|⟨h1,h2⟩
      ·exact ⟨h1.trans h2.symm,h3⟩
      ·simp only[h1,Bool.false_or,Bool.and_eq_true,List.isEmpty_iff]at hmv
       rw[hmv.2]at h2;simp at h2
      ·exact ⟨h2,h1⟩
     obtain ⟨rfl,hcc⟩:=hpp;by_cases hp0:p=[]
     case neg=>
      have hg:=zfK p ob1.row ((zaj ob1.row p).set c .h) hr.path;refine ⟨ob',zce _ _ _,fun h=>absurd h hro,zfL p _ _ hr.path, ?_, ?_, ?_⟩
      ·show c'<(zaj (zaC ob1.row p _) p).length
       rw[hg,List.length_set];exact hv.lt
      ·obtain ⟨es',hes'⟩:=hv.sl
       refine ⟨es', ?_⟩;show (zaj (zaC ob1.row p _) p).getD c' .h=_;rw[hg,←hes'];simp[List.getD,hcc]
      ·have:=hv.head
       simp only[zb2,if_neg hp0]at this⊢;rw[←this];show (zaD w (hdf (pl n')) (zaC ob1.row p _) p none).bind _=_;rw[zfi w p (hdf (pl n')) ob1.row _ none hr.path (by simp)]
     subst hp0;refine ⟨ob',zce _ _ _,fun h=>absurd h hro,trivial, ?_, ?_, ?_⟩
     ·show c'<ob'.row.length
      rw[hlen];exact hv.lt
     ·obtain ⟨es',hes'⟩:=hv.sl
      refine ⟨es', ?_⟩;show (ob1.row.set c .h).getD c' .h=_;rw[←hes'];simp[List.getD,hcc,zaj]
     ·have:=hv.head;simp only[zb2,if_true]at this⊢;exact this
    ·exact ⟨om,by rw[zc3 _ _ hmn];exact hv.at0,fun h=>(hv.kind h).imp_right fun ⟨ad0,h1,h2⟩=>⟨ad0,h1,h2.mono hG'n⟩,hv.path,hv.lt,hv.sl,hv.head⟩
 · -- shared from now on
   rw[if_neg hmv]at h;simp only[Option.some.injEq,Prod.mk.injEq]at h;obtain ⟨rfl,rfl,rfl⟩:=h
   obtain ⟨r0,keep,hfl,hr0,hin⟩:∃r0 keep,(zb6 ob1.fl p c=ob1.fl.set r0 (if keep=true then .top else .sh)∧(keep=true→ob1.fl.getD r0 .sh= .deep))∧
    r0<ob1.row.length∧∀π,[r0]<+:(flat p++c::π)∧¬(keep=true∧flat p++c::π=[r0]):=by
    cases p with
    |nil=>exact ⟨c,false,⟨rfl,fun h=>absurd h (by simp)⟩,hr.lt,fun π=>⟨by simp,by simp⟩⟩
    |cons x p=>
     obtain ⟨c0,e0⟩:=x
     have hd:ob1.fl.getD c0 .sh= .deep:=by
      simp only[ownAt]at hsh;split at hsh<;>rename_i h0
      ·exact h0
      ·exact absurd rfl hsh
     exact ⟨c0,true,⟨by simp only[zb6,hd,if_true],fun _=>hd⟩,hr.path.1,fun π=>⟨by simp,by simp⟩⟩
   obtain ⟨hfl,hkd⟩:=hfl
   let G':=gmap G (fDrop n [r0] keep)
   let ob':Obj:={ob1 with fl:=zb6 ob1.fl p c}
   have hG'n:∀b,G b=none→G' b=none:=fun b hb=>zhk hb
   have hG'o:∀b k π,G b=some (k,π)→(k=n→¬([r0]<+:π))→G' b=some (k,π):=fun b k π hb hk=>by
    show gmap G _ b=_;rw[zcd hb];exact zko hk
   have hG'd:∀b π,G b=some (n,r0::π)→(keep=true→π≠[])→G' b=none:=fun b π hb hk=>by
    show gmap G _ b=_;rw[zcd hb];unfold fDrop;rw[if_pos ⟨rfl,by simp,fun h=>hk h.1 (by simpa using h.2)⟩]
   have hG'k:∀b,G b=some (n,[r0])→keep=true→G' b=some (n,[r0]):=fun b hb hk=>by
    show gmap G _ b=_;rw[zcd hb];unfold fDrop;rw[if_neg]
    rintro ⟨_,_,h⟩
    exact h ⟨hk,rfl⟩
   have hkeepQ:∀(m:Nat) (w0:Own) c' ρ b,(m=n→c'≠r0)→QCell G m c' w0 ρ b→QCell G' m c' w0 ρ b:=by
    intro m w0 c' ρ b hne;have hno:m=n→∀π,¬([r0]<+:(c'::π)):=fun hm π h=>hne hm (List.cons_prefix_cons.1 h).1.symm
    cases w0 with
    |deep=>exact fun hq=>hG'o b m _ hq (fun hm=>hno hm _)
    |top=>
     simp only[QCell];split
     ·exact fun hq=>hG'o b m _ hq (fun hm=>hno hm _)
     ·exact fun hq=>hG'n b hq
    |sh=>exact fun hq=>hG'n b hq
   have hobj':ObjRel w G' n (pl n) ob':=by
    refine {bld:=Bld.not (hr.notBld hI),fl:=by show (zb6 ob1.fl p c).length=_;rw[hfl];simpa using hob.fl,rel:=fun c' hc'=> ?_,box:=fun hk=> ?_}
    ·refine (hob.rel c' hc').mono fun π b hb=> ?_
     show QCell G' n c' ((zb6 ob1.fl p c).getD c' .sh) π b;have hb:QCell G n c' (ob1.fl.getD c' .sh) π b:=hb;rw[hfl];by_cases hcc:c'=r0
     ·subst hcc
      have hgd:(ob1.fl.set c' (if keep=true then Own.top else Own.sh)).getD c' .sh=if keep=true then Own.top else Own.sh:=by
       have:c'<ob1.fl.length:=by rw[hob.fl];exact hr0
       simp[List.getD,this]
      rw[hgd];cases keep with
      |true=>
       rw[hkd rfl]at hb;simp only[if_true,QCell];simp only[QCell]at hb;by_cases hπ:π=[]
       ·rw[if_pos hπ];subst hπ;exact hG'k b hb rfl
       ·rw[if_neg hπ];exact hG'd b π hb (fun _=>hπ)
      |false=>
       simp only[QCell];rcases hb.own with h|h
       ·exact hG'd b π h (fun h=>absurd h (by simp))
       ·exact hG'n b h
     ·have hgd:(ob1.fl.set r0 (if keep=true then Own.top else Own.sh)).getD c' .sh=ob1.fl.getD c' .sh:=by
       have hcc':¬r0=c':=fun h=>hcc h.symm
       simp[List.getD,hcc']
      rw[hgd];exact hkeepQ n _ c' π b (fun _=>hcc) hb
    ·obtain ⟨b,off,cs,ty,h1,h2,h3,h4,h5⟩:=hob.box hk
     exact ⟨b,off,cs,ty,h1,hG'o b n [] h2 (fun _ h=>by have:=h.length_le;simp at this),h3,h4,h5⟩
   refine ⟨G',upd obs n (some ob'), ?_, ?_, ?_, ?_,fun m hm=>zc3 obs _ hm, ?_⟩
   ·intro m om hm hk
    by_cases hmn:m=n
    ·subst hmn
     rw[zce]at hm;obtain rfl:=Option.some.inj hm;exact hobj'
    ·rw[zc3 _ _ hmn]at hm
     have ho:=hI m om hm hk;refine {bld:=ho.bld.frame fun b π hb=>⟨rfl,by rw[hb];exact hG'o b m π hb (fun h=>absurd h hmn)⟩,fl:=ho.fl,rel:=ho.rel.frame (fun _ _ _ _=>rfl) (fun π b _ hq=> ?_),box:=fun hk=> ?_}
     ·cases π with
      |nil=>exact hq.elim
      |cons c' ρ=>exact hkeepQ m _ c' ρ b (fun h=>absurd h hmn) hq
     ·obtain ⟨b,off,cs,ty,h1,h2,h3,h4,h5⟩:=ho.box hk
      exact ⟨b,off,cs,ty,h1,hG'o b m [] h2 (fun h=>absurd h hmn),h3,h4,h5⟩
   ·refine hat.mono fun π b hb=> ?_
    show G' b=none;rcases hb.own with h|h
    ·have:=hin π
     obtain ⟨t,ht⟩:=this.1;have ht':flat p++c::π=r0::t:=by rw[←ht];rfl
     rw[ht']at h this;exact hG'd b t h (fun hk h0=>this.2 ⟨hk,by rw[h0]⟩)
    ·exact hG'n b h
   ·refine {gnone:=hG'n,gkeep:=fun b k π hb hk=>hG'o b k π hb (fun h=>absurd (h▸List.mem_cons_self) hk),gbox:=fun b k hb=>hG'o b k [] hb (fun _ h=> ?_)
            gdom:=fun b x hx=> ?_,gstay:=fun b k π hb hk=> ?_,glim:=fun b k π hb=> ?_
            keep:=fun m hm=>zc3 _ _ (fun h=>hm (h▸List.mem_cons_self)),turn:=fun m om hm=> ?_,coh:=fun m om hm=> ?_
            ups:=fun m hm=> ?_,kl:=fun x hx=>⟨(hkl x hx).1,List.mem_cons_of_mem _ (hkl x hx).2⟩,tin:=fun m hm=> ?_,tmono:=fun m hm=>List.mem_cons_of_mem _ hm,kmono:=fun x hx=>hx}
    ·have:=h.length_le;simp at this
    ·cases hG:G b with
     |none=>rw[hG'n b hG]at hx;simp at hx
     |some y=>
      have hb':gmap G (fDrop n [r0] keep) b=some x:=hx;rw[zcd hG]at hb';unfold fDrop at hb';split at hb'
      ·simp at hb'
      ·obtain rfl:=Option.some.inj hb';exact ⟨_,rfl,id⟩
    ·cases hd:fDrop n [r0] keep (k,π)with
     |none=>exact .inr (by show gmap G _ b=_;rw[zcd hb];exact hd)
     |some y=>
      refine .inl ?_;show gmap G _ b=_;rw[zcd hb];unfold fDrop at hd⊢;split at hd
      ·simp at hd
      ·rename_i h;rw[if_neg h]
    ·cases hG:G b with
     |none=>rw[hG'n b hG]at hb;simp at hb
     |some y=>
      have hb':gmap G (fDrop n [r0] keep) b=some (k,π):=hb;rw[zcd hG]at hb';unfold fDrop at hb';split at hb'
      ·simp at hb'
      ·exact .inl hb'
    ·by_cases hmn:m=n
     ·subst hmn
      rw[hr.at0]at hm;obtain rfl:=Option.some.inj hm;exact ⟨ob',zce _ _ _,rfl,rfl,fun h=>absurd h hro,fun _=>rfl,fun _ _ es h=>⟨es,h⟩⟩
     ·exact ⟨om,by rw[zc3 _ _ hmn];exact hm,rfl,rfl,fun _=>rfl,fun _=>rfl,fun _ _ es h=>⟨es,h⟩⟩
    ·simp only[fget]at hm
     by_cases hmn:n=m
     ·rw[if_pos hmn]at hm;subst hmn;rw[zce];exact hm
     ·rw[if_neg hmn]at hm;rw[zc3 _ _ (fun h=>hmn h.symm)];exact coh m om hm
    ·simp only[fget]
     by_cases hmn:n=m
     ·rw[if_pos hmn];subst hmn;rw[zce]
     ·rw[if_neg hmn,zc3 _ _ (fun h=>hmn h.symm)]
      rcases List.mem_cons.1 hm with h|h
      ·exact absurd h.symm hmn
      ·exact hups m h
    ·rcases List.mem_cons.1 hm with rfl|hm
     ·exact .inr ⟨_,hr.at0⟩
     ·exact .inl hm
   ·intro b j π hj hb
    exact hG'o b L _ hb (fun h=>absurd h.symm hnL)
   ·intro u' n' p' c' hv _
    obtain ⟨om,hv⟩:=hv;by_cases hmn:n'=n
    ·subst hmn
     have hoo:ob1=om:=by have:=hv.at0;rw[hr.at0]at this;exact Option.some.inj this
     subst hoo;exact ⟨ob',zce _ _ _,fun h=>absurd h hro,hv.path,hv.lt,hv.sl,hv.head⟩
    ·exact ⟨om,by rw[zc3 _ _ hmn];exact hv.at0,fun h=>(hv.kind h).imp_right fun ⟨ad0,h1,h2⟩=>⟨ad0,h1,h2.mono hG'n⟩,hv.path,hv.lt,hv.sl,hv.head⟩
theorem Rel.dOf(w:World)(Q:QP)(x:Value):Rel w Q x (dOf x):=by
 unfold PV.dOf;split
 ·exact .e _ _
 ·exact .v _ _
theorem QCell.mono{G G':Ghost}(L i:Nat)(ww:Own)(hn:∀b,G b=none→G' b=none)(hs:∀b π,G b=some (L,i::π)→G' b=some (L,i::π)):
 ∀π b,QCell G L i ww π b→QCell G' L i ww π b:=by
 intro π b;cases ww with
 |deep=>exact hs b π
 |top=>
  simp only[QCell];split
  ·exact hs b []
  ·exact hn b
 |sh=>exact hn b
structure Absorbed (w:World) (G:Ghost) (obs:Obs) (pl:zaP) (A:Env) (L i:Nat) (us:Nat→Value) (ds:List D) (ws:List Own) (A':Env) (G':Ghost) (obs':Obs):Prop where
 objs:zcx w G' obs' pl
 len:ws.length=ds.length
 rel:∀j (h:j<ds.length),Rel w (QCell G' L (i+j) (ws.getD j .sh)) (us j) (ds[j])
 mvd:Mv L G obs A G' obs' A'
 lim:∀b j π,j<i→G b=some (L,j::π)→G' b=some (L,j::π)
 limb:obs' L=none
theorem znv{mv:Bool}(as:List A1):∀{A:Env} {r:List D×List Own×Env},zcP A mv as=some r→∀j (h:j<as.length),∀ok n p c,as[j]≠ .p ok n p c:=by
 induction as with
 |nil=>intro A r _ j h;simp at h
 |cons b bs ih=>
  intro A r h2 j h ok n p c he;simp only[zcP]at h2;split at h2
  case h_2=>simp at h2
  rename_i d' w' A5 h5;split at h2
  case h_2=>simp at h2
  rename_i ds6 ws6 A6 h6;cases j with
  |zero=>
   simp only[List.getElem_cons_zero]at he;subst he;simp[zbE]at h5
  |succ j=>exact ih h6 j (by simpa using h) ok n p c (by simpa using he)
theorem zlM{mv:Bool}(as:List A1):∀{A:Env} {r:List D×List Own×Env},zcP A mv as=some r→∀j (h:j<as.length),∀cs c,as[j]≠ .bx cs c:=by
 induction as with
 |nil=>intro A r _ j h;simp at h
 |cons b bs ih=>
  intro A r h2 j h cs c he;simp only[zcP]at h2;split at h2
  case h_2=>simp at h2
  rename_i d' w' A5 h5;split at h2
  case h_2=>simp at h2
  rename_i ds6 ws6 A6 h6;cases j with
  |zero=>
   simp only[List.getElem_cons_zero]at he;subst he;simp[zbE]at h5
  |succ j=>exact ih h6 j (by simpa using h) cs c (by simpa using he)
theorem zd0{w:World}{pl:zaP}{mv:Bool}(L:Nat):∀(as:List A1) {G:Ghost} {obs:Obs} {A A':Env} {us:Nat→Value} {ds:List D} {ws:List Own} (i:Nat),
 zcx w G obs pl→(∀n ob,fget A.o n=some ob→obs n=some ob)→(∀n∈A.tch,fget A.o n=obs n)→(∀x∈A.kl,x.2≤1∧x.1∈A.tch)→
 (∀j (h:j<as.length),V1 w G obs pl (us j) (as[j]))→zcA mv as=true→zcP A mv as=some (ds,ws,A')→obs L=none→
 ds.length=as.length∧∃G' obs',Absorbed w G obs pl A L i us ds ws A' G' obs':=by
 intro as
 induction as with
 |nil=>
  intro G obs A A' us ds ws i hI coh hups hkl _ _ h hL;simp only[zcP,Option.some.injEq,Prod.mk.injEq]at h;obtain ⟨rfl,rfl,rfl⟩:=h;exact ⟨rfl,G,obs,hI,rfl,fun j h=>absurd h (by simp),Mv.refl coh hups hkl,fun _ _ _ _ h=>h,hL⟩
 |cons a as ih=>
  intro G obs A A' us ds ws i hI coh hups hkl hv hap h hL;simp only[zcP]at h;split at h
  case h_2=>simp at h
  rename_i d w0 A1 h1;split at h
  case h_2=>simp at h
  rename_i ds1 ws1 A2 h2;simp only[Option.some.injEq,Prod.mk.injEq]at h;obtain ⟨rfl,rfl,rfl⟩:=h;simp only[zcA,Bool.and_eq_true,List.all_eq_true]at hap;have hv0:V1 w G obs pl (us 0) a:=hv 0 (by simp)
  have hvr:∀j (h:j<as.length),V1 w G obs pl (us (j+1)) (as[j]):=fun j h=>hv (j+1) (by simpa using h)
  -- one cell
  have one:∃G1 obs1,zcx w G1 obs1 pl∧Rel w (QCell G1 L i w0) (us 0) d∧Mv L G obs A G1 obs1 A1∧
   (∀b j π,j≠i→G b=some (L,j::π)→G1 b=some (L,j::π))∧obs1 L=none∧
   (∀j (h:j<as.length),(∀ok n p c,as[j]≠ .p ok n p c)→(∀cs c,as[j]≠ .bx cs c)→V1 w G1 obs1 pl (us (j+1)) (as[j])):=by
   cases a with
   |v x=>
    simp only[zbE]at h1;split at h1
    case isFalse=>simp at h1
    simp only[Option.some.injEq,Prod.mk.injEq]at h1;obtain ⟨rfl,rfl,rfl⟩:=h1;refine ⟨G,obs,hI, ?_,Mv.refl coh hups hkl,fun _ _ _ _ h=>h,hL,fun j h _ _=>hvr j h⟩
    have:us 0=x:=hv0;rw[this];exact Rel.dOf w _ x
   |s es=>
    simp only[zbE,Option.some.injEq,Prod.mk.injEq]at h1;obtain ⟨rfl,rfl,rfl⟩:=h1;exact ⟨G,obs,hI,Rel.mono hv0 (fun _ _ h=>h),Mv.refl coh hups hkl,fun _ _ _ _ h=>h,hL,fun j h _ _=>hvr j h⟩
   |r n p c=>
    simp only[zbE]at h1;split at h1
    case h_2=>simp at h1
    rename_i es w1 A3 h3;simp only[Option.some.injEq,Prod.mk.injEq]at h1;obtain ⟨rfl,rfl,rfl⟩:=h1;obtain ⟨G1,obs1,m⟩:=zdK hI coh hups hkl hv0 h3 L i hL
    have hnL:L≠n:=by
     rintro rfl
     obtain ⟨ob,hr⟩:=hv0;have:=hr.at0;rw[hL]at this;simp at this
    refine ⟨G1,obs1,m.objs,m.rel,m.mvd,m.lim,by rw[m.other L hnL];exact hL,fun j h hne hne2=> ?_⟩
    have hj:=hvr j h;have haj:=hap.1 (as[j]) (List.getElem_mem h);cases haj':as[j]with
    |dead=>exact trivial
    |v x=>rw[haj']at hj;exact hj
    |s es'=>rw[haj']at hj;exact Rel.mono hj (fun _ b hb=>m.mvd.gnone b hb)
    |q row c'=>
     rw[haj']at hj;obtain ⟨ad,hd,hu,hro⟩:=hj;exact ⟨ad,hd,hu,hro.frame (fun b _ hb=>⟨rfl,m.mvd.gnone b hb⟩)⟩
    |r n' p' c'=>rw[haj']at hj haj;exact m.refs _ _ _ _ hj haj
    |p ok n' p' c'=>exact absurd haj' (hne ok n' p' c')
    |bx cs' c'=>exact absurd haj' (hne2 cs' c')
   |dead=>simp[zbE]at h1
   |q row c=>simp[zbE]at h1
   |p ok n p c=>simp[zbE]at h1
   |bx cs c=>simp[zbE]at h1
  obtain ⟨G1,obs1,hI1,hrel1,hm1,hlim1,hL1,hv1⟩:=one;have hnop:=znv as h2;have hnobx:=zlM as h2;obtain ⟨hl2,G2,obs2,m2⟩:=ih (us:=fun j=>us (j+1)) (i+1) hI1 hm1.coh hm1.ups hm1.kl (fun j h=>hv1 j h (hnop j h) (hnobx j h)) hap.2 h2 hL1
  refine ⟨by simp[hl2],G2,obs2,m2.objs,by simp[m2.len],fun j h=> ?_,hm1.trans m2.mvd,fun b j π hj hb=> ?_,m2.limb⟩
  ·cases j with
   |zero=>
    exact Rel.mono hrel1 (QCell.mono L i w0 m2.mvd.gnone (fun b π hb=>m2.lim b i π (by omega) hb))
   |succ j=>
    have:=m2.rel j (by simpa using h)
    have he:i+1+j=i+(j+1):=by omega
    rw[he]at this;exact this
  ·exact m2.lim b j π (by omega) (hlim1 b j π (by omega) hb)
end Go.PV
namespace Go.PV
open Go.RowKit
def FR:Nat:=1000000000
structure Orig where
 g:Ghost
 obs:Obs
 pl:zaP
 gl:List (Nat×List D)
structure Inv (W0:World) (G0:Orig) (S:St) (w:World) (tm:Array Value) (G:Ghost) (pl:zaP):Prop where
 size:tm.size=S.t.length
 tmps:∀t,VAV w G S.obj pl (tm.getD t undef) (S.t.getD t (.one .dead))
 objs:zcx w G S.obj pl
 own:∀b x,G b=some x→OwnAt w b x
 base:∀b,b<W0.heap.size→G0.g b=none→w.heap[b]? =W0.heap[b]?∧G b=none
 os:w.os=W0.os
 output:w.output=W0.output
 tape:w.tape=W0.tape
 hsize:W0.heap.size≤w.heap.size
 nolim:∀b x,G b=some x→x.1<S.o.length∨x.1=FR
 out:∀n b off ob,n<S.na→G b=some (n,[])→(pl n).base=some ⟨b,off,none⟩→S.obj n=some ob→∀k,k<off∨off+ob.row.length≤k→w.cell? ⟨b,k,none⟩=W0.cell? ⟨b,k,none⟩
 small:S.o.length<FR
 start:∀n ob,n<S.na→S.obj n=some ob→∃ob0,G0.obs n=some ob0∧ob0.kind=ob.kind∧ob0.row.length=ob.row.length∧(pl n).base=(G0.pl n).base∧(ob.kind= .ro→ob0=ob)∧(ob.kind≠ .box→ob.kind.isBld=false→pl n=G0.pl n)
 fr:∀b π,b<W0.heap.size→G0.g b=some (FR,π)→w.heap[b]? =W0.heap[b]?∧G b=G0.g b
 olen:S.o.length=S.na+S.t.length
 glob:GlOk S.gl w G
 gl:S.gl=G0.gl
theorem Inv.ev{W0:World}{G0:Orig}{S:St}{w:World}{a:Act}{G:Ghost}{pl:zaP}(I:Inv W0 G0 S w a.tmps G pl)(x:Operand):
 VAV w G S.obj pl (a.eval x) (S.ev x):=by
 cases x with
 |tmp t=>exact I.tmps t
 |const v=>
  simp only[Act.eval,St.ev,avOf];split
  ·rename_i cs
   refine ⟨cs,rfl,by simp,fun i h=> ?_⟩
   have hi:i<cs.size:=by simpa using h
   have he:(List.map A1.v cs.toList)[i]'h= .v cs[i]:=by simp
   rw[he];show cs.getD i undef=_;simp[Array.getD,hi]
  ·rfl
 |global g=>
  simp only[St.ev];split
  ·rename_i row hr
   obtain ⟨hd,hro,_⟩:=I.glob g row hr;exact ⟨_,hd,rfl,hro⟩
  ·exact trivial
 |func f=>exact ⟨#[],rfl,rfl,fun i h=>absurd h (by simp)⟩
theorem zhl(tm:Array Value)(d t:Nat)(v:Value):(tm.setIfInBounds d v).getD t undef=if d=t∧d<tm.size then v else tm.getD t undef:=by
 simp only[Array.getD_eq_getD_getElem?,Array.getElem?_setIfInBounds];by_cases h:d=t
 ·subst h
  by_cases h2:d<tm.size
  ·simp[h2]
  ·simp[h2]
 ·simp[h]
theorem zjr(l:List AV)(d t:Nat)(v:AV):(l.set d v).getD t (.one .dead)=if d=t∧d<l.length then v else l.getD t (.one .dead):=by
 simp only[List.getD_eq_getElem?_getD,List.getElem?_set];by_cases h:d=t
 ·subst h
  by_cases h2:d<l.length
  ·simp[h2]
  ·simp[h2]
 ·simp[h]
theorem Inv.setDst{W0:World}{G0:Orig}{S:St}{w:World}{a:Act}{G:Ghost}{pl:zaP}(I:Inv W0 G0 S w a.tmps G pl)(dst:Option Tmp){v:Value}{av:AV}
 (hv:VAV w G S.obj pl v av):Inv W0 G0 (S.put dst {val:=av}) w (a.put dst v).tmps G pl:=by
 have hobj:(S.put dst {val:=av}).obj=S.obj:=rfl;refine {size:= ?_,tmps:=fun t=> ?_,objs:=hobj▸I.objs,own:=I.own,base:=I.base,os:=I.os,output:=I.output,tape:=I.tape,hsize:=I.hsize,nolim:=I.nolim,out:=I.out,fr:=I.fr,small:=I.small,start:=I.start,olen:= ?_,glob:=I.glob,gl:=I.gl}
 ·cases dst with
  |none=>exact I.size
  |some d=>simp[Act.put,St.put,Rec.dst,St.put0,I.size]
 ·rw[hobj]
  cases dst with
  |none=>exact I.tmps t
  |some d=>
   simp only[Act.put,St.put,Rec.dst,St.put0,List.isEmpty_nil,if_true];rw[zhl,zjr,I.size];split
   ·exact hv
   ·exact I.tmps t
 ·cases dst with
  |none=>exact I.olen
  |some d=>have:=I.olen;simpa[St.put,Rec.dst,St.put0]using this
def OpOk(P:Program)(W0:World)(G0:Orig)(S:St)(w:World)(a:Act)(o:Oper)(e:Rec):Prop:=
 ∀(next:Act→World→Prop) (Q:Exit→Act→World→Prop),
  (∀w' v G' pl',Inv W0 G0 (S.put o.dst e) w' (a.put o.dst v).tmps G' pl'→next (a.put o.dst v) w')→o.wp P a w next Q
theorem OpOk.of_value{P:Program}{W0:World}{G0:Orig}{S:St}{w w':World}{a:Act}{o:Oper}{e:Rec}{v:Value}{G':Ghost}{pl':zaP}
 (hrun:(execOp a.eval o).run P w= .ok (.value v) w') (hI:Inv W0 G0 (S.put o.dst e) w' (a.put o.dst v).tmps G' pl'):OpOk P W0 G0 S w a o e:=by
 intro next Q hn;unfold Oper.wp;rw[hrun];exact hn w' v G' pl' hI
theorem OpOk.of_skip{P:Program}{W0:World}{G0:Orig}{S:St}{w w':World}{a:Act}{o:Oper}{e:Rec}{G':Ghost}{pl':zaP}
 (hrun:(execOp a.eval o).run P w= .ok .skip w') (hI:Inv W0 G0 (S.put o.dst e) w' (a.put o.dst undef).tmps G' pl'):OpOk P W0 G0 S w a o e:=by
 intro next Q hn;unfold Oper.wp;rw[hrun];exact hn w' undef G' pl' hI
theorem OpOk.of_pure{P:Program}{W0:World}{G0:Orig}{S:St}{w:World}{a:Act}{o:Oper}{v:Value}{av:AV}{G:Ghost}{pl:zaP}
 (I:Inv W0 G0 S w a.tmps G pl) (hrun:(execOp a.eval o).run P w= .ok (.value v) w) (hv:VAV w G S.obj pl v av):OpOk P W0 G0 S w a o {val:=av}:=
 .of_value hrun (I.setDst o.dst hv)
section vals
variable {w:World}{G:Ghost}{obs:Obs}{pl:zaP}
end vals
section pure
variable {X:Ctx}{W0:World}{G0:Orig}{S:St}{w:World}{a:Act}{G:Ghost}{pl:zaP}{mv:Bool}{e:Rec}
 {dst:Option Tmp} {ty:TypeId} {pos:String} {af:Array Edge} {gd:Option (Nat×Bool)}
theorem zrH(I:Inv W0 G0 S w a.tmps G pl)(x:Operand)(h:S.opK X mv ⟨dst, .move x,ty,pos,af,gd⟩ some=some e):
 OpOk X.P W0 G0 S w a ⟨dst, .move x,ty,pos,af,gd⟩ e:=by
 simp only[St.opK,St.vals,Op.operands,List.map_cons,List.map_nil,effK,Option.some.injEq]at h;subst h;exact .of_pure I (v:=a.eval x) (by simp only[execOp];rfl) (I.ev x)
theorem zom(I:Inv W0 G0 S w a.tmps G pl)(x:Operand)(h:S.opK X mv ⟨dst, .assign x,ty,pos,af,gd⟩ some=some e):
 OpOk X.P W0 G0 S w a ⟨dst, .assign x,ty,pos,af,gd⟩ e:=by
 simp only[St.opK,St.vals,Op.operands,List.map_cons,List.map_nil,effK,Option.some.injEq]at h;subst h;exact .of_pure I (v:=a.eval x) (by simp only[execOp];rfl) (I.ev x)
theorem zrI(I:Inv W0 G0 S w a.tmps G pl)(c x y:Operand)(h:S.opK X mv ⟨dst, .pick c x y,ty,pos,af,gd⟩ some=some e):
 OpOk X.P W0 G0 S w a ⟨dst, .pick c x y,ty,pos,af,gd⟩ e:=by
 simp only[St.opK,St.vals,Op.operands,List.map_cons,List.map_nil,effK]at h;have hc:=I.ev c;split at h
 case h_2=>simp at h
 rename_i t ht;rw[ht]at hc;have hc:a.eval c= .bool t:=hc;cases t with
 |true=>
  simp only[cond_true,Option.some.injEq]at h;subst h;exact .of_pure I (v:=a.eval x) (by generalize a.eval=ρ at hc⊢;simp[execOp,go_sem,asBool,hc]) (I.ev x)
 |false=>
  simp only[cond_false,Option.some.injEq]at h;subst h;exact .of_pure I (v:=a.eval y) (by generalize a.eval=ρ at hc⊢;simp[execOp,go_sem,asBool,hc]) (I.ev y)
theorem zlN(I:Inv W0 G0 S w a.tmps G pl)(x:Operand)(h:S.opK X mv ⟨dst, .nilCheck x,ty,pos,af,gd⟩ some=some e):
 OpOk X.P W0 G0 S w a ⟨dst, .nilCheck x,ty,pos,af,gd⟩ e:=by
 simp only[St.opK,St.vals,Op.operands,List.map_cons,List.map_nil,effK]at h;have hx:=I.ev x;split at h
 ·rename_i b n p c hs
  cases b with
  |false=>simp at h
  |true=>
   simp only[cond_true,Option.some.injEq]at h;subst h;rw[hs]at hx;obtain ⟨ad,ob,hr,hu⟩:=hx;refine .of_pure I (v:=a.eval x) ?_ ⟨ad,ob,hr,hu⟩;generalize a.eval=ρ at hu⊢;simp[execOp,go_sem,hu]
 ·rename_i row c hs
  simp only[Option.some.injEq]at h;subst h;rw[hs]at hx;obtain ⟨ad,hd,hu,hro⟩:=hx;refine .of_pure I (v:=a.eval x) ?_ ⟨ad,hd,hu,hro⟩;generalize a.eval=ρ at hu⊢;simp[execOp,go_sem,hu]
 ·rename_i cs c hs
  simp only[Option.some.injEq]at h;subst h;rw[hs]at hx;obtain ⟨b,off,hu,hb⟩:=hx;refine .of_pure I (v:=a.eval x) ?_ ⟨b,off,hu,hb⟩;generalize a.eval=ρ at hu⊢;simp[execOp,go_sem,hu]
 ·rename_i fn caps hs
  simp only[Option.some.injEq]at h;subst h;rw[hs]at hx;obtain ⟨arr,hu,h1,h2⟩:=hx;refine .of_pure I (v:=a.eval x) ?_ ⟨arr,hu,h1,h2⟩;generalize a.eval=ρ at hu⊢;simp[execOp,go_sem,hu]
 ·simp at h
theorem znw(I:Inv W0 G0 S w a.tmps G pl)(x:Operand)(i:Nat)(h:S.opK X mv ⟨dst, .extract x i,ty,pos,af,gd⟩ some=some e):
 OpOk X.P W0 G0 S w a ⟨dst, .extract x i,ty,pos,af,gd⟩ e:=by
 simp only[St.opK,St.vals,Op.operands,List.map_cons,List.map_nil,effK]at h;have hx:=I.ev x;split at h
 case h_2=>simp at h
 rename_i vs hs;rw[hs]at hx;obtain ⟨arr,hu,h1,h2⟩:=hx
 have hrun:∀v,i<arr.size→arr.getD i undef=v→(execOp a.eval ⟨dst, .extract x i,ty,pos,af,gd⟩).run X.P w= .ok (.value v) w:=by
  intro v hi hv
  have:arr[i]? =some v:=by
   rw[←hv];simp[hi]
  generalize a.eval=ρ at hu⊢;simp[execOp,go_sem,Instr.extract,hu,this]
 split at h
 ·rename_i cs hv
  simp only[Option.some.injEq]at h;subst h;have hi:=(List.getElem?_eq_some_iff.1 hv).1;have hvi:=(List.getElem?_eq_some_iff.1 hv).2;have h3:=h2 i hi;rw[hvi,if_pos rfl]at h3;obtain ⟨ar,h4,h5,h6⟩:=h3;exact .of_pure I (hrun _ (by omega) h4) ⟨ar,rfl,h5,h6⟩
 ·rename_i c hv
  simp only[Option.some.injEq]at h;subst h;have hi:=(List.getElem?_eq_some_iff.1 hv).1;have hvi:=(List.getElem?_eq_some_iff.1 hv).2;have h3:=h2 i hi;rw[hvi]at h3;simp only[Bool.false_eq_true,if_false]at h3;obtain ⟨c',h4,h5⟩:=h3;obtain rfl:c=c':=by simpa using h4
  exact .of_pure I (hrun _ (by omega) rfl) h5
 ·simp at h
end pure
theorem zfM:∃d,Op.maxDepth=d+1:=⟨9999,rfl⟩
theorem ziK(P:Program)(t:TypeId)(a b:Bool)(w:World)(h:P.underlying t=some .bool):
 (Op.equal t (.bool a) (.bool b)).run P w= .ok (a==b) w:=by
 obtain ⟨d,hd⟩:=zfM;unfold Op.equal;rw[hd];simp[Op.equalIn,underlying,h,go_sem]
theorem ze4(P:Program)(t el:TypeId)(a:Option Addr)(w:World)(h:P.underlying t=some (.pointer el)):
 (Op.equal t (.pointer a) (.pointer none)).run P w= .ok a.isNone w:=by
 obtain ⟨d,hd⟩:=zfM;unfold Op.equal;rw[hd];cases a<;>simp[Op.equalIn,underlying,h,go_sem]
theorem zqk(P:Program)(op:BinOp)(t:TypeId)(u v:Value){w:World}{G:Ghost}{obs:Obs}{pl:zaP}{x y r:A1}
 (hu:V1 w G obs pl u x) (hv:V1 w G obs pl v y) (h:binK P t op x y some=some r):
 ∃z,(binOp op t u v).run P w= .ok z w∧V1 w G obs pl z r:=by
 unfold binK at h;simp only[cond_eq_ite,decide_eq_true_eq]at h;split at h
 ·rename_i i a j b
  have hu:u= .int i a:=hu;have hv:v= .int j b:=hv;subst hu hv;by_cases h1:op= .shl
  ·subst h1
   by_cases hb:0≤b
   ·simp only[if_true,if_pos hb,Option.some.injEq]at h
    subst h;refine ⟨_, ?_,rfl⟩;simp[binOp,Op.shift,go_sem,show ¬b<0 by omega]
   ·simp[hb]at h
  ·rw[if_neg h1]at h
   by_cases h2:op= .shr
   ·subst h2
    by_cases hb:0≤b
    ·simp only[if_true,if_pos hb,Option.some.injEq]at h
     subst h;refine ⟨_, ?_,rfl⟩;simp[binOp,Op.shift,go_sem,show ¬b<0 by omega]
    ·simp[hb]at h
   ·rw[if_neg h2]at h
    by_cases hij:i=j
    ·subst hij
     rw[if_pos rfl]at h
     cases op<;>simp only[zrl,zof,Option.some.injEq,reduceCtorEq]at h h1 h2<;>
      first
      |contradiction
      |(subst h;exact ⟨_,by simp[binOp,Op.intArith,Op.intCmp,Op.intBits,go_sem],rfl⟩)
      |(by_cases hb:b=0
        ·simp[hb]at h
        ·rw[if_neg hb]at h
         simp only[Option.some.injEq]at h;subst h;exact ⟨_,by simp[binOp,Op.intDiv,go_sem,hb],rfl⟩)
    ·rw[if_neg hij]at h;simp at h
 ·rename_i a b
  have hu:u= .string a:=hu;have hv:v= .string b:=hv;subst hu hv
  cases op<;>simp only[Option.some.injEq,reduceCtorEq]at h<;>
   first
   |contradiction
   |(subst h;exact ⟨_,by simp[binOp,Op.stringOp,go_sem],rfl⟩)
   |(by_cases hb:a.size+b.size≤2^46
     ·rw[if_pos hb]at h
      simp only[Option.some.injEq]at h;subst h;refine ⟨_, ?_,rfl⟩
      have hmax:¬(((a.size+b.size:Nat):Int)>IntKind.i64.max):=by
       have:IntKind.i64.max=9223372036854775807:=by decide
       rw[this];omega
      simp only[binOp,Op.stringOp];rw[if_neg hmax];rfl
     ·rw[if_neg hb]at h;exact absurd h (by simp))
 ·rename_i a b
  have hu:u= .bool a:=hu;have hv:v= .bool b:=hv;subst hu hv;split at h<;>simp only[Option.some.injEq,reduceCtorEq]at h
  ·rename_i ht
   subst h;refine ⟨_, ?_,rfl⟩;have:=ziK P t a b w ht;simp only[binOp];generalize Op.equal t (.bool a) (.bool b)=z at this⊢;simp[go_sem,this]
  ·rename_i ht
   subst h;refine ⟨_, ?_,rfl⟩;have:=ziK P t a b w ht;simp only[binOp];generalize Op.equal t (.bool a) (.bool b)=z at this⊢;simp[go_sem,this]
 ·rename_i ok n p c
  have hv:v= .pointer none:=hv;subst hv
  obtain ⟨ad,rfl,had⟩:∃ad:Option Addr,u= .pointer ad∧ad.isNone= !ok:=by
   cases ok with
   |true=>
    obtain ⟨ad,ob,_,rfl⟩:=hu;exact ⟨_,rfl,rfl⟩
   |false=>exact ⟨none,hu,rfl⟩
  split at h<;>simp only[Option.some.injEq,reduceCtorEq]at h
  ·rename_i el ht
   subst h;refine ⟨_, ?_,rfl⟩;have:=ze4 P t el ad w ht;simp only[binOp];generalize Op.equal t (.pointer ad) (.pointer none)=z at this⊢;simp[go_sem,this,had]
  ·rename_i el ht
   subst h;refine ⟨_, ?_,rfl⟩;have:=ze4 P t el ad w ht;simp only[binOp];generalize Op.equal t (.pointer ad) (.pointer none)=z at this⊢;simp[go_sem,this,had]
 ·have hu:u= .pointer none:=hu
  have hv:v= .pointer none:=hv;subst hu hv;split at h<;>simp only[Option.some.injEq,reduceCtorEq]at h
  ·rename_i el ht
   subst h;refine ⟨_, ?_,rfl⟩;have:=ze4 P t el none w ht;simp only[binOp];generalize Op.equal t (.pointer none) (.pointer none)=z at this⊢;simp[go_sem,this]
  ·rename_i el ht
   subst h;refine ⟨_, ?_,rfl⟩;have:=ze4 P t el none w ht;simp only[binOp];generalize Op.equal t (.pointer none) (.pointer none)=z at this⊢;simp[go_sem,this]
 ·simp at h
end Go.PV
namespace Go.PV
open Go.RowKit
theorem ze5(ad:Addr)(h:ad.spot=none)(n:Nat):ad.add n=⟨ad.block,ad.off+n,none⟩:=by
 obtain ⟨b,o,s⟩:=ad;simp only at h;subst h;unfold Addr.add;split
 ·rename_i h;subst h;rfl
 ·rfl
theorem zon(b o n:Nat):(⟨b,o,none⟩:Addr).add n=⟨b,o+n,none⟩:=ze5 _ rfl n
theorem zlO(p:Path)(c e:Nat):∀(row:List D),zbR row p→c<(zaj row p).length→e<((zaj row p).getD c .h).es.length→zbR row (p++[(c,e)]):=by
 induction p with
 |nil=>intro row _ h1 h2;exact ⟨h1,h2,trivial⟩
 |cons x p ih=>obtain ⟨c0,e0⟩:=x;intro row h h1 h2;exact ⟨h.1,h.2.1,ih _ h.2.2 h1 h2⟩
theorem zkp(w:World)(p:Path)(c e:Nat):∀(hd:Nat→Option Value) (row:List D) (base:Option Addr) (ad:Addr) (n m:Nat),
 (if p=[]then hd c else (zaD w hd row p base).bind fun a=>w.cell? ⟨a.block,a.off+c,none⟩)=some (.slice (some ad) n m)→
 zaD w hd row (p++[(c,e)]) base=some ⟨ad.block,ad.off+e*(((zaj row p).getD c .h).es.getD e []).length,none⟩:=by
 induction p with
 |nil=>
  intro hd row base ad n m h;simp only[if_true]at h;simp only[List.nil_append,zaD,h,zaj]
 |cons x p ih=>
  obtain ⟨c0,e0⟩:=x;intro hd row base ad n m h;rw[if_neg (by simp)]at h
  simp only[List.cons_append,zaD]at h⊢;split at h
  ·rename_i ad0 _ _ h0
   refine ih _ _ _ ad n m ?_;by_cases hp:p=[]
   ·subst hp
    rw[if_pos rfl];exact h
   ·rw[if_neg hp];exact h
  ·simp at h
theorem toNat_lt{i:Int}{n:Nat}(h0:0≤i)(h:i<n):i.toNat<n:=by omega
section ops
variable {X:Ctx}{W0:World}{G0:Orig}{S:St}{w:World}{a:Act}{G:Ghost}{pl:zaP}{mv:Bool}{e:Rec}
 {dst:Option Tmp} {ty:TypeId} {pos:String} {af:Array Edge} {gd:Option (Nat×Bool)}
theorem zcs(S:St)(vs:List AV)(n:Nat)(ob:Obj)(h:fget (S.foot vs) n=some ob):S.obj n=some ob:=by
 unfold St.foot at h
 revert h
 induction (vs.flatMap AV.names)with
 |nil=>intro h;simp[fget]at h
 |cons m ms ih=>
  intro h;simp only[List.map_cons,fget]at h;split at h
  ·rename_i hm;subst hm;exact h
  ·exact ih h
theorem zlP(P:Program)(op:BinOp)(t:TypeId)(x y:Operand)(u v:Value)(w:World)(h:∀c,u≠ .agg c)(h':u≠ .nilIface):
 (eqGuard op t x y u v).run P w= .ok () w:=by
 unfold eqGuard;cases op<;>(simp only[go_sem];try rfl)
 all_goals
  cases u<;>first
   |rfl
   |exact absurd rfl (h _)
   |exact absurd rfl h'
theorem zoo{P:Program}{t:TypeId}{op:BinOp}{x y r:A1}{u:Value}(hu:V1 w G S.obj pl u x)(h:binK P t op x y some=some r):
 (∀c,u≠ .agg c)∧u≠ .nilIface:=by
 unfold binK at h;split at h
 ·have hu:u=_:=hu;subst hu;simp
 ·have hu:u=_:=hu;subst hu;simp
 ·have hu:u=_:=hu;subst hu;simp
 ·rename_i ok n p c
  cases ok with
  |true=>obtain ⟨ad,ob,_,rfl⟩:=hu;simp
  |false=>have hu:u=_:=hu;subst hu;simp
 ·have hu:u=_:=hu;subst hu;simp
 ·simp at h
theorem zfN{R:Type}(P:Program)(t:TypeId)(op:BinOp)(x y:A1)(k:A1→Option R):binK P t op x y k=(binK P t op x y some).bind k:=by
 unfold binK;simp only[cond_eq_ite]
 repeat' (split<;>try rfl)
theorem zql(I:Inv W0 G0 S w a.tmps G pl)(op:BinOp)(t t':TypeId)(x y:Operand)(h:S.opK X mv ⟨dst, .binOp op t x y t',ty,pos,af,gd⟩ some=some e):
 OpOk X.P W0 G0 S w a ⟨dst, .binOp op t x y t',ty,pos,af,gd⟩ e:=by
 simp only[St.opK,St.vals,Op.operands,List.map_cons,List.map_nil,effK]at h;have hx:=I.ev x;have hy:=I.ev y;split at h
 case h_2=>simp at h
 rename_i u1 v1 h1 h2;rw[h1]at hx;rw[h2]at hy;rw[zfN]at h;cases hb:binK X.P t op u1 v1 some with
 |none=>rw[hb]at h;simp at h
 |some r=>
  rw[hb]at h;simp only[Option.bind_some,Option.some.injEq]at h;subst h;obtain ⟨z,hz,hv⟩:=zqk X.P op t (a.eval x) (a.eval y) hx hy hb;obtain ⟨hn1,hn2⟩:=zoo hx hb;have hg:=zlP X.P op t x y (a.eval x) (a.eval y) w hn1 hn2;refine .of_pure I (v:=z) ?_ hv;show Sem.run X.P (bind (bind (eqGuard op t x y (a.eval x) (a.eval y)) fun _=>binOp op t (a.eval x) (a.eval y)) fun z=>pure (Next.value z)) w=_
  generalize eqGuard op t x y (a.eval x) (a.eval y)=g at hg⊢;generalize binOp op t (a.eval x) (a.eval y)=b at hz⊢;simp[go_sem,hg,hz]
theorem zrJ(I:Inv W0 G0 S w a.tmps G pl)(op:UnOp)(t:TypeId)(x:Operand)(h:S.opK X mv ⟨dst, .unOp op t x,ty,pos,af,gd⟩ some=some e):
 OpOk X.P W0 G0 S w a ⟨dst, .unOp op t x,ty,pos,af,gd⟩ e:=by
 simp only[St.opK,St.vals,Op.operands,List.map_cons,List.map_nil,effK]at h;have hx:=I.ev x;split at h
 ·rename_i b hs
  rw[hs]at hx;have hx:a.eval x= .bool b:=hx;simp only[Option.some.injEq]at h;subst h;refine .of_pure I (v:= .bool (!b)) ?_ rfl;show Sem.run X.P (bind (Op.unary .not (a.eval x)) fun z=>pure (Next.value z)) w=_
  rw[hx];simp[go_sem,Op.unary]
 ·rename_i i n hs
  rw[hs]at hx;have hx:a.eval x= .int i n:=hx;simp only[Option.some.injEq]at h;subst h;refine .of_pure I (v:= .int i (i.wrap (0-n))) ?_ rfl;show Sem.run X.P (bind (Op.unary .neg (a.eval x)) fun z=>pure (Next.value z)) w=_
  rw[hx];simp[go_sem,Op.unary,Op.intArith]
 ·simp at h
theorem zlQ(I:Inv W0 G0 S w a.tmps G pl)(f:Fn)(first capt:Array Operand)(h:S.opK X mv ⟨dst, .makeFunc f first capt,ty,pos,af,gd⟩ some=some e):
 OpOk X.P W0 G0 S w a ⟨dst, .makeFunc f first capt,ty,pos,af,gd⟩ e:=by
 cases f with
 |func fn=>
  simp only[St.opK,St.vals,Op.operands,effK]at h;by_cases hf:first.size=0
  ·have hf0:first= #[]:=by simpa using hf
   subst hf0;simp only[List.size_toArray,List.length_nil,if_true,Array.empty_append]at h;split at h
   case h_2=>simp at h
   rename_i h1 h2;simp only[Option.some.injEq]at h;subst h;refine .of_pure I (v:= .func (.func fn) #[] (capt.map a.eval)) ?_ ⟨capt.map a.eval,rfl,by simp,fun i hi=> ?_⟩
   ·show Sem.run X.P (bind (Instr.makeFunc (.func fn) (#[].map a.eval) (capt.map a.eval)) fun z=>pure (Next.value z)) w=_
    simp[go_sem,Instr.makeFunc]
   ·simp only[List.length_map,Array.length_toList]at hi
    have hsz:i<capt.size:=by simpa using hi
    have h3:=I.ev capt[i];simp only[List.all_eq_true,List.mem_map,forall_exists_index,and_imp,Array.mem_toList_iff]at h2;have h4:=h2 (one (S.ev capt[i])) (S.ev capt[i]) capt[i] (Array.getElem_mem hsz) rfl rfl;have h5:(capt.map a.eval).getD i undef=a.eval capt[i]:=by simp[hsz]
    rw[h5];simp only[List.getElem_map,Array.getElem_toList];cases hv:S.ev capt[i]with
    |one x=>rw[hv]at h3;simp only[one,Option.getD_some];exact h3
    |g cs=>rw[hv]at h4;simp[one]at h4
    |t vs=>rw[hv]at h4;simp[one]at h4
    |f fn caps=>rw[hv]at h4;simp[one]at h4
  ·simp[hf]at h
 |_=>simp only[St.opK,effK]at h;simp at h
theorem zhm{P:Program}{t:TypeId}{i off:Nat}{ft:TypeId}(h:zhg P t i=some (off,ft)):
 ∃fs f,P.underlying t=some (.struct fs)∧fs[i]? =some f∧f.offset=off∧f.type=ft:=by
 unfold zhg at h;split at h
 ·rename_i fs hfs
  rw[Option.map_eq_some_iff]at h;obtain ⟨f,h1,h2⟩:=h;simp only[Prod.mk.injEq]at h2;exact ⟨fs,f,hfs,h1,h2.1,h2.2⟩
 ·simp at h
theorem ziL{P:Program}{t:TypeId}{n:Nat}(h:sizeB P t=some n):∃i,P.info? t=some i∧i.size=n:=by
 unfold sizeB at h;rw[Option.map_eq_some_iff]at h;exact h
theorem zfr(P:Program)(t ft:TypeId)(i off n:Nat)(b o:Nat)(w:World)(h1:zhg P t i=some (off,ft))(h2:sizeB P ft=some (n+1)):
 (Instr.fieldAt t (.pointer (some ⟨b,o,none⟩)) i).run P w= .ok (.pointer (some ⟨b,o+off,none⟩)) w:=by
 obtain ⟨fs,f,h3,h4,rfl,rfl⟩:=zhm h1;obtain ⟨inf,h5,h6⟩:=ziL h2;simp[Instr.fieldAt,underlying,h3,h4,go_sem,Instr.sureAddr,fieldPlace,sizeOf,typeInfo,h5,h6,zon]
theorem zkq(I:Inv W0 G0 S w a.tmps G pl)(t:TypeId)(x:Operand)(f:Nat)(h:S.opK X mv ⟨dst, .fieldAddr t x f,ty,pos,af,gd⟩ some=some e):
 OpOk X.P W0 G0 S w a ⟨dst, .fieldAddr t x f,ty,pos,af,gd⟩ e:=by
 simp only[St.opK,St.vals,Op.operands,List.map_cons,List.map_nil,effK]at h;have hx:=I.ev x;split at h
 ·rename_i off ft b n p c h1 hs
  split at h
  case h_2=>simp at h
  rename_i m h2;rw[hs]at hx;cases b with
  |false=>simp at h
  |true=>
   simp only[cond_true,Option.some.injEq]at h;subst h;obtain ⟨ad,ob,hr,hu⟩:=hx;refine .of_pure I (v:= .pointer (some ⟨ad.block,ad.off+(c+off),none⟩)) ?_ ⟨ad,ob,hr,rfl⟩;show Sem.run X.P (bind (Instr.fieldAt t (a.eval x) f) fun z=>pure (Next.value z)) w=_
   have:=zfr X.P t ft f off m ad.block (ad.off+c) w h1 h2;rw[hu];generalize Instr.fieldAt t _ f=z at this⊢;simp[go_sem,this,Nat.add_assoc]
 ·rename_i off ft row c h1 hs
  split at h
  case h_2=>simp at h
  rename_i m h2;simp only[Option.some.injEq]at h;subst h;rw[hs]at hx;obtain ⟨ad,hd,hu,hro⟩:=hx;refine .of_pure I (v:= .pointer (some ⟨ad.block,ad.off+(c+off),none⟩)) ?_ ⟨ad,hd,rfl,hro⟩;show Sem.run X.P (bind (Instr.fieldAt t (a.eval x) f) fun z=>pure (Next.value z)) w=_
  have:=zfr X.P t ft f off m ad.block (ad.off+c) w h1 h2;rw[hu];generalize Instr.fieldAt t _ f=z at this⊢;simp[go_sem,this,Nat.add_assoc]
 ·rename_i off ft cs c h1 hs
  split at h
  case h_2=>simp at h
  rename_i m h2;simp only[Option.some.injEq]at h;subst h;rw[hs]at hx;obtain ⟨b,o,hu,hb⟩:=hx;refine .of_pure I (v:= .pointer (some ⟨b,o+(c+off),none⟩)) ?_ ⟨b,o,rfl,hb⟩;show Sem.run X.P (bind (Instr.fieldAt t (a.eval x) f) fun z=>pure (Next.value z)) w=_
  have:=zfr X.P t ft f off m b (o+c) w h1 h2;rw[hu];generalize Instr.fieldAt t _ f=z at this⊢;simp[go_sem,this,Nat.add_assoc]
 ·simp at h
theorem zkr{P:Program}{t:TypeId}(h:aggB P t=true)(w:World):(isAgg t).run P w= .ok true w:=by
 unfold aggB at h;split at h
 ·rename_i h1;simp[isAgg,underlying,h1,go_sem]
 ·rename_i h1;simp[isAgg,underlying,h1,go_sem]
 ·simp at h
theorem ziM{P:Program}{t:TypeId}{i:TypeDesc}(h:aggB P t=false)(hi:P.underlying t=some i)(w:World):(isAgg t).run P w= .ok false w:=by
 unfold aggB at h;simp only[isAgg,underlying];rw[hi]at h;cases i<;>simp_all [go_sem]
end ops
end Go.PV
namespace Go.PV
open Go.RowKit
section ops
variable {X:Ctx}{W0:World}{G0:Orig}{S:St}{w:World}{a:Act}{G:Ghost}{pl:zaP}{mv:Bool}{e:Rec}
 {dst:Option Tmp} {ty:TypeId} {pos:String} {af:Array Edge} {gd:Option (Nat×Bool)}
theorem run_bind{α β:Type}{P:Program}{s:Sem α}{f:α→Sem β}{w w':World}{x:α}(h:s.run P w= .ok x w'):(s>>=f).run P w=(f x).run P w':=by
 have:(s>>=f).run P w=(s.run P w).andThen fun a w'=>(f a).run P w':=by simp[go_sem]
 rw[this,h];rfl
theorem zlR{α β:Type}{P:Program}{s:Sem α}{f:α→β}{w w':World}{x:α}(h:s.run P w= .ok x w'):(f<$>s).run P w= .ok (f x) w':=by
 have:(f<$>s)=(s>>=fun a=>pure (f a)):=by rfl
 rw[this,run_bind h];rfl
theorem zmP(P:Program)(w:World)(ad:Addr)(v:Value)(h:w.cell? ad=some v):(load ad).run P w= .ok v w:=by
 simp[load,Sem.run,h]
theorem zgk(P:Program)(w:World)(b o:Nat)(hd:Nat→Value):∀(n i:Nat) (acc:Array Value),(∀j,j<n→w.cell? ⟨b,o+(i+j),none⟩=some (hd (i+j)))→
 (loadCellsFrom ⟨b,o,none⟩ i n acc).run P w= .ok (acc++((List.range n).map fun j=>hd (i+j)).toArray) w:=by
 intro n
 induction n with
 |zero=>intro i acc _;simp[loadCellsFrom,go_sem]
 |succ n ih=>
  intro i acc h;have h0:=zmP P w ((⟨b,o,none⟩:Addr).add i) (hd i) (by rw[zon];exact h 0 (by omega))
  have:=ih (i+1) (acc.push (hd i)) (fun j hj=>by
   have:=h (j+1) (by omega)
   rw[show i+1+j=i+(j+1) by omega];exact this)
  rw[loadCellsFrom,run_bind h0,this];simp only[Result.ok.injEq,and_true];rw[List.range_succ_eq_map];simp[Function.comp_def,Nat.add_assoc,Nat.add_comm 1]
theorem zfO(P:Program)(w:World)(b o n:Nat)(hd:Nat→Value)(h:∀j,j<n→w.cell? ⟨b,o+j,none⟩=some (hd j)):
 (loadCells ⟨b,o,none⟩ n).run P w= .ok ((List.range n).map hd).toArray w:=by
 have:=zgk P w b o hd n 0 #[] (by simpa using h)
 simpa[loadCells]using this
theorem zca{P:Program}{t:TypeId}{n:Nat}(h:sizeB P t=some n)(w:World):(sizeOf t).run P w= .ok n w:=by
 obtain ⟨inf,h5,h6⟩:=ziL h;simp[sizeOf,typeInfo,go_sem,h5,h6]
theorem zlS(P:Program)(w:World)(t:TypeId)(b o sz:Nat)(hd:Nat→Value)(hs:sizeB P t=some sz)(h1:aggB P t=true∨sz=1)
 (hu:∃d,P.underlying t=some d) (h:∀j,j<sz→w.cell? ⟨b,o+j,none⟩=some (hd j)):
 (loadVar t ⟨b,o,none⟩).run P w= .ok (if aggB P t then .agg ((List.range sz).map hd).toArray else hd 0) w:=by
 cases ha:aggB P t with
 |true=>
  have h2:=zkr ha w;have h3:=zfO P w b o sz hd h;rw[loadVar,run_bind h2];simp only[if_true];rw[run_bind (zca hs w),run_bind h3];rfl
 |false=>
  obtain ⟨d,hd'⟩:=hu;have h2:=ziM ha hd' w
  have h1:sz=1:=by rcases h1 with h|h;·rw[ha]at h;simp at h
                   ·exact h
  have h3:=zmP P w ⟨b,o,none⟩ (hd 0) (by simpa using h 0 (by omega))
  rw[loadVar,run_bind h2];simp only[Bool.false_eq_true,if_false];exact h3
theorem zit(sz:Nat)(hd:Nat→Value)(i:Nat)(h:i<sz):((List.range sz).map hd).toArray.getD i undef=hd i:=by
 simp[h]
theorem zmQ{k:IntKind}{d:D}(h:CK.fits (.int k) d=true):d= .v (.int k d.int):=by
 unfold CK.fits at h;split at h<;>simp_all [D.int]
theorem zks{d:D}(h:CK.fits .bool d=true):d= .v (.bool d.bool):=by
 unfold CK.fits at h;split at h<;>simp_all [D.bool]
theorem zmR{d:D}(h:CK.fits .str d=true):d= .v (.string d.str):=by
 unfold CK.fits at h;split at h<;>simp_all [D.str]
theorem zrK{d:D}(h:CK.fits .sl d=true):d= .s d.es:=by
 unfold CK.fits at h;split at h<;>simp_all [D.es]
theorem Rel.val{w:World}{Q:QP}{u x:Value}(h:Rel w Q u (.v x)):u=x:=by cases h;rfl
theorem zgI{w:World}{G:Ghost}{obs:Obs}{pl:zaP}{k:CK}{d:D}{wn:Own}{n:Nat}{p:Path}{c:Nat}{u:Value}{Q:QP}
 (hf:CK.fits k d=true) (hr:Rel w Q u d) (hsh:wn= .sh→∀π b,Q π b→G b=none)
 (hown:wn≠ .sh→(∃es,d= .s es)→V1 w G obs pl u (.r n p c)):V1 w G obs pl u (zkj k d wn n p c):=by
 cases k with
 |int i=>have:=zmQ hf;rw[this]at hr;exact hr.val
 |bool=>have:=zks hf;rw[this]at hr;exact hr.val
 |str=>have:=zmR hf;rw[this]at hr;exact hr.val
 |sl=>
  have:=zrK hf;simp only[zkj];by_cases hw:wn= .sh
  ·rw[if_pos hw]
   rw[this]at hr;exact hr.mono (hsh hw)
  ·rw[if_neg hw]
   exact hown hw ⟨_,this⟩
 |any=>exact trivial
theorem zkt{w:World}{G:Ghost}{obs:Obs}{pl:zaP}{k:CK}{d:D}{wn:Own}{n:Nat}{p:Path}{c:Nat}{u:Value}{Q:QP}
 (hf:CK.fits k d=true) (hr:Rel w Q u d) (hk:k≠ .sl):V1 w G obs pl u (zkj k d wn n p c):=by
 cases k with
 |int i=>have:=zmQ hf;rw[this]at hr;exact hr.val
 |bool=>have:=zks hf;rw[this]at hr;exact hr.val
 |str=>have:=zmR hf;rw[this]at hr;exact hr.val
 |sl=>exact absurd rfl hk
 |any=>exact trivial
theorem ziu{w:World}{G:Ghost}{obs:Obs}{pl:zaP}{d:D}{wn:Own}{n:Nat}{c:Nat}{u:Value}{Q:QP}
 (hr:Rel w Q u d) (hsh:wn= .sh→∀π b,Q π b→G b=none)
 (hown:wn≠ .sh→(∃es,d= .s es)→V1 w G obs pl u (.r n [] c)):V1 w G obs pl u (zjp d wn n c):=by
 cases d with
 |v x=>exact hr.val
 |s es=>
  simp only[zjp];by_cases hw:wn= .sh
  ·rw[if_pos hw]
   exact hr.mono (hsh hw)
  ·rw[if_neg hw]
   exact hown hw ⟨_,rfl⟩
 |h=>exact trivial
 |u t=>exact trivial
theorem zgl{R:Type}(P:Program)(F:Foot)(t:TypeId)(a:A1)(k:AV→Option R):loadK P F t a k=(loadK P F t a some).bind k:=by
 unfold loadK
 repeat' (first|rfl|split)
 all_goals
  first
  |rfl
  |(simp only[cond_eq_ite];split<;>rfl)
theorem zhn(I:Inv W0 G0 S w a.tmps G pl){F:Foot}(hF:∀n ob,fget F n=some ob→S.obj n=some ob){t:TypeId}{x:A1}{u:Value}{av:AV}
 (hu:V1 w G S.obj pl u x) (h:loadK X.P F t x some=some av):
 ∃z,(Instr.loadAt t u).run X.P w= .ok z w∧VAV w G S.obj pl z av:=by
 unfold loadK at h;split at h
 ·simp at h
 rename_i sz hs;simp only at h;by_cases hc:(kinds X.P t).length=sz∧(aggB X.P t=true∨sz=1)∧(X.P.underlying t).isSome=true
 case neg=>rw[if_neg hc]at h;simp at h
 rw[if_pos hc]at h;obtain ⟨hk,h1,hd⟩:=hc;have hd:∃d,X.P.underlying t=some d:=Option.isSome_iff_exists.1 hd
 -- what the machine does
 have key:∀(b o:Nat) (hdv:Nat→Value) (cs:List A1),u= .pointer (some ⟨b,o,none⟩)→(∀j,j<sz→w.cell? ⟨b,o+j,none⟩=some (hdv j))→cs.length=sz→
  (∀j (hj:j<cs.length),V1 w G S.obj pl (hdv j) (cs[j]))→
  ∃z,(Instr.loadAt t u).run X.P w= .ok z w∧VAV w G S.obj pl z (if aggB X.P t then .g cs else .one (cs.getD 0 .dead)):=by
  intro b o hdv cs hub hcell hlen hv;have hl:=zlS X.P w t b o sz hdv hs h1 hd hcell;refine ⟨(if aggB X.P t then .agg ((List.range sz).map hdv).toArray else hdv 0), ?_, ?_⟩
  ·rw[hub,Instr.loadAt]
   have:(Instr.sureAddr (.pointer (some ⟨b,o,none⟩))).run X.P w= .ok ⟨b,o,none⟩ w:=by simp[Instr.sureAddr,go_sem]
   rw[run_bind this,hl]
  ·cases ha:aggB X.P t with
   |true=>
    simp only[if_true];refine ⟨_,rfl,by simp[hlen],fun i hi=> ?_⟩
    rw[zit sz hdv i (by omega)]
    exact hv i hi
   |false=>
    have h0:sz=1:=by rcases h1 with h|h;·rw[ha]at h;simp at h
                     ·exact h
    simp only[Bool.false_eq_true,if_false];have:cs.getD 0 .dead=cs[0]'(by omega):=za2 cs 0 _ (by omega)
    rw[this];exact hv 0 (by omega)
 split at h
 · -- shared
   rename_i row c;obtain ⟨ad,hdv,hua,hro⟩:=hu;rw[cond_eq_ite]at h;split at h
   case isFalse=>simp at h
   rename_i hcond;simp only[Bool.and_eq_true,decide_eq_true_eq]at hcond;simp only[Option.some.injEq]at h;subst h;have hfit:=hcond.1;unfold zao at hfit;rw[List.all_eq_true]at hfit;refine key ad.block (ad.off+c) (fun j=>hdv (c+j)) _ hua (fun j hj=> ?_) (by simp[hk]) (fun j hj=> ?_)
   ·rw[Nat.add_assoc];exact hro.cell (c+j) (by omega)
   ·simp only[List.length_map,List.length_zipIdx]at hj
    simp only[List.getElem_map,List.getElem_zipIdx,Nat.zero_add];have hrow:c+j<row.length:=by omega
    have hf:=hfit ((kinds X.P t)[j],j) (by rw[List.mem_zipIdx_iff_getElem?];simp[hj])
    simp only at hf;rw[za2 _ _ _ hrow]at hf⊢;exact zgI hf (hro.rel (c+j) hrow) (fun _ π b h=>h) (fun h=>absurd rfl h)
 ·rename_i ok n p c
  split at h
  ·simp at h
  rename_i ob hfo;have hob:=hF n ob hfo;by_cases hnb:ob.kind.isBld=true
  ·rw[if_pos hnb]at h;simp at h
  rw[if_neg hnb]at h
  have hrow:∀(hok:ok=true),∃ad ob',RefP w G S.obj pl n p ad ob'∧u= .pointer (some ⟨ad.block,ad.off+c,none⟩):=by
   intro hok;subst hok;exact hu
  have hfl:ok=true→ob.kind= .ro→∀c,ob.fl.getD c .sh= .sh:=by
   intro hok hro;obtain ⟨ad,ob',hr,_⟩:=hrow hok;have:ob'=ob:=by have:=hr.at0;rw[hob]at this;exact (Option.some.inj this).symm
   subst this;exact (hr.ro hro).1
  -- the row at the path
  have desc:ok=true→∃(ad:Addr) (hdv:Nat→Value) (Q:QP),u= .pointer (some ⟨ad.block,ad.off+c,none⟩)∧zbR ob.row p∧
   (∀j,j<(zaj ob.row p).length→w.cell? ⟨ad.block,ad.off+j,none⟩=some (hdv j))∧zcC w Q hdv (zaj ob.row p)∧
   (∀c',ownAt ob.fl p c'= .sh∨ob.kind= .ro→∀π b,Q (c'::π) b→G b=none)∧
   (∀c',c'<(zaj ob.row p).length→zb2 w (pl n) ob.row p c'=some (hdv c')):=by
   intro hok;obtain ⟨ad,ob',hr,hu'⟩:=hrow hok;have:ob'=ob:=by have:=hr.at0;rw[hob]at this;exact (Option.some.inj this).symm
   subst this;by_cases hro:ob'.kind= .ro
   ·obtain ⟨_,ad0,hb0,hro'⟩:=hr.ro hro
    by_cases hp:p=[]
    ·subst hp
     have:=hr.at_;simp only[zaD]at this;rw[hb0]at this;obtain rfl:=Option.some.inj this;exact ⟨ad0,(pl n).hd,QSh G,hu',trivial,hro'.cell,hro'.rel,fun _ _ _ _ h=>h,fun c' _=>by simp[zb2]⟩
    ·obtain ⟨ad1,hd1,D1⟩:=zdb p (pl n).base hro'.rel hr.path hp
     have:ad1=ad:=by have h1:=D1.at_;have h2:=hr.at_;unfold hdf at h2;rw[h2]at h1;exact (Option.some.inj h1).symm
     subst this;refine ⟨ad1,hd1,_,hu',hr.path,D1.cell,D1.rel,fun _ _ _ _ h=>h,fun c' hc'=> ?_⟩
     simp only[zb2,if_neg hp]
     have h2:zaD w (hdf (pl n)) ob'.row p none=zaD w (hdf (pl n)) ob'.row p (pl n).base:=by
      cases p with
      |nil=>exact absurd rfl hp
      |cons x p=>obtain ⟨c0,e0⟩:=x;rfl
     rw[h2];have h3:zaD w (hdf (pl n)) ob'.row p (pl n).base=some ad1:=D1.at_;rw[h3,Option.bind_some];exact D1.cell c' hc'
   ·have hrel:=I.objs n ob' hob hro
    by_cases hp:p=[]
    ·subst hp
     have hbox:ob'.kind= .box:=by
      have:=hr.virt rfl;cases hk:ob'.kind with
      |box=>rfl
      |virt=>exact absurd hk this
      |ro=>exact absurd hk hro
      |bld t e=>rw[hk]at hnb;exact absurd rfl hnb
     obtain ⟨b,off,cs,ty',hb1,hb2,hb3,hb4,hb5⟩:=hrel.box hbox;have:=hr.at_;simp only[zaD]at this;rw[hb1]at this;obtain rfl:=Option.some.inj this;refine ⟨_,(pl n).hd,_,hu',trivial,fun j hj=> ?_,hrel.rel,fun c' hc' π b hq=> ?_,fun c' _=>by simp[zb2]⟩
     ·show w.cell? ⟨b,off+j,none⟩=_
      simp only[World.cell?,hb3];simpa using hb5 j hj
     ·have:=zfq (p:=[]) c' hq
      rcases hc' with h|h
      ·rw[h]at this;exact this
      ·exact absurd h hro
    ·obtain ⟨ad1,hd1,D1⟩:=zdb p (pl n).base hrel.rel hr.path hp
     have hat:ad1=ad:=by have h1:=D1.at_;have h2:=hr.at_;unfold hdf at h2;rw[h2]at h1;exact (Option.some.inj h1).symm
     subst hat;refine ⟨ad1,hd1,_,hu',hr.path,D1.cell,D1.rel,fun c' hc' π b hq=> ?_,fun c' hc'=> ?_⟩
     ·have:=zfq (p:=p) c' hq
      rcases hc' with h|h
      ·rw[h]at this;exact this
      ·exact absurd h hro
     ·simp only[zb2,if_neg hp]
      obtain ⟨ad2,hd2,D2⟩:=zdb p none hrel.rel hr.path hp
      have h2:zaD w (hdf (pl n)) ob'.row p none=zaD w (hdf (pl n)) ob'.row p (pl n).base:=by
       cases p with
       |nil=>exact absurd rfl hp
       |cons x p=>obtain ⟨c0,e0⟩:=x;rfl
      rw[h2];have h3:zaD w (hdf (pl n)) ob'.row p (pl n).base=some ad1:=D1.at_;rw[h3,Option.bind_some];exact D1.cell c' hc'
  have hkro:ok=true→ob.kind= .ro→(∀c,ob.fl.getD c .sh= .sh)∧∃ad0,(pl n).base=some ad0∧RoOk w G (pl n) ob.row ad0:=fun hok hro=>by
   obtain ⟨ad,ob',hr,_⟩:=hrow hok;have:ob'=ob:=by have:=hr.at0;rw[hob]at this;exact (Option.some.inj this).symm
   subst this;exact hr.ro hro
  by_cases hp:(p.isEmpty&& !zlI (kinds X.P t))=true
  ·rw[if_pos hp,cond_eq_ite]at h
   split at h
   case isFalse=>simp at h
   rename_i hcond;simp only[Bool.and_eq_true,decide_eq_true_eq]at hcond;simp only[Option.some.injEq]at h;subst h;obtain ⟨ad,hdv,Q,hua,hpo,hcell,hrel,hsh,hhead⟩:=desc hcond.1;have hp0:p=[]:=by rw[Bool.and_eq_true]at hp;simpa using hp.1
   subst hp0;simp only[zaj]at hcell hrel hhead;refine key ad.block (ad.off+c) (fun j=>hdv (c+j)) _ hua (fun j hj=> ?_) (by simp) (fun j hj=> ?_)
   ·rw[Nat.add_assoc];exact hcell (c+j) (by omega)
   ·simp only[List.length_map,List.length_range]at hj
    simp only[List.getElem_map,List.getElem_range];have hr':c+j<ob.row.length:=by omega
    rw[za2 ob.row _ _ hr'];refine ziu (hrel (c+j) hr') (fun hw=>hsh (c+j) (.inl ?_)) (fun hw hes=> ?_)
    ·unfold asRef at hw
     split at hw
     ·exact absurd hw (by decide)
     ·exact hw
    ·exact ⟨ob,hob,hkro hcond.1,trivial,hr',by show∃es,ob.row.getD (c+j) .h=_;rw[za2 ob.row _ _ hr'];exact hes,hhead (c+j) hr'⟩
  ·rw[if_neg hp,cond_eq_ite]at h
   split at h
   case isFalse=>simp at h
   rename_i hcond;simp only[Bool.and_eq_true,decide_eq_true_eq]at hcond;simp only[Option.some.injEq]at h;subst h;obtain ⟨ad,hdv,Q,hua,hpo,hcell,hrel,hsh,hhead⟩:=desc hcond.1.1;have hfit:=hcond.1.2;unfold zao at hfit;rw[List.all_eq_true]at hfit;refine key ad.block (ad.off+c) (fun j=>hdv (c+j)) _ hua (fun j hj=> ?_) (by simp[hk]) (fun j hj=> ?_)
   ·rw[Nat.add_assoc];exact hcell (c+j) (by omega)
   ·simp only[List.length_map,List.length_zipIdx]at hj
    simp only[List.getElem_map,List.getElem_zipIdx,Nat.zero_add];have hr':c+j<(zaj ob.row p).length:=by omega
    have hf:=hfit ((kinds X.P t)[j],j) (by rw[List.mem_zipIdx_iff_getElem?];simp[hj])
    simp only at hf;rw[za2 _ _ _ hr']at hf⊢;by_cases hp0:p=[]
    ·subst hp0
     have hpl:zlI (kinds X.P t)=true:=by simpa using hp
     refine zkt hf (hrel (c+j) hr') fun hk2=> ?_
     have:=List.all_eq_true.1 hpl ((kinds X.P t)[j]'(by simpa using hj)) (List.getElem_mem _)
     rw[hk2]at this;simp at this
    have hown:ownAt ob.fl p c=ownAt ob.fl p (c+j):=by
     cases p with
     |nil=>exact absurd rfl hp0
     |cons x p=>obtain ⟨c0,e0⟩:=x;rfl
    refine zgI hf (hrel (c+j) hr') (fun hw=>hsh (c+j) (.inl ?_)) (fun hw hes=> ?_)
    ·unfold asRef at hw
     split at hw
     ·exact absurd hw (by decide)
     ·exact hown▸hw
    ·exact ⟨ob,hob,hkro hcond.1.1,hpo,hr',by rw[za2 _ _ _ hr'];exact hes,hhead (c+j) hr'⟩
 ·rename_i as c
  obtain ⟨b,off,hub,hb,hG,hcs⟩:=hu;rw[cond_eq_ite]at h;split at h
  case isFalse=>simp at h
  rename_i hcond;simp only[decide_eq_true_eq]at hcond;simp only[Option.some.injEq]at h;subst h;refine key b (off+c) (fun j=>(w.cell? ⟨b,off+(c+j),none⟩).getD undef) _ hub (fun j hj=> ?_) (by simp;omega) (fun j hj=> ?_)
  ·obtain ⟨x,hx,_⟩:=hcs (c+j) (by omega)
   rw[Nat.add_assoc,hx];rfl
  ·simp only[List.length_map,List.length_take,List.length_drop]at hj
   obtain ⟨x,hx,hv⟩:=hcs (c+j) (by omega)
   rw[hx];simp only[Option.getD_some,List.getElem_map,List.getElem_take,List.getElem_drop];exact V0.a1.1 hv
 ·simp at h
theorem zrL(I:Inv W0 G0 S w a.tmps G pl)(t:TypeId)(x:Operand)(h:S.opK X mv ⟨dst, .load t x,ty,pos,af,gd⟩ some=some e):
 OpOk X.P W0 G0 S w a ⟨dst, .load t x,ty,pos,af,gd⟩ e:=by
 simp only[St.opK,St.vals,Op.operands,List.map_cons,List.map_nil,effK]at h;have hx:=I.ev x;split at h
 case h_2=>simp at h
 rename_i x1 hs;rw[hs]at hx;rw[zgl]at h;cases hl:loadK X.P (S.foot [S.ev x]) t x1 some with
 |none=>rw[hl]at h;simp at h
 |some av=>
  rw[hl]at h;simp only[Option.bind_some,Option.some.injEq]at h;subst h;obtain ⟨z,hz,hv⟩:=zhn (X:=X) I (fun n ob=>zcs S _ n ob) (u:=a.eval x) hx hl
  refine .of_pure I (v:=z) ?_ hv;show Sem.run X.P (bind (Instr.loadAt t (a.eval x)) fun z=>pure (Next.value z)) w=_
  rw[run_bind hz];rfl
theorem zqm(I:Inv W0 G0 S w a.tmps G pl)(t:TypeId)(x:Operand)(f:Nat)(h:S.opK X mv ⟨dst, .field t x f,ty,pos,af,gd⟩ some=some e):
 OpOk X.P W0 G0 S w a ⟨dst, .field t x f,ty,pos,af,gd⟩ e:=by
 simp only[St.opK,St.vals,Op.operands,List.map_cons,List.map_nil,effK]at h;have hx:=I.ev x;split at h
 case h_2=>simp at h
 rename_i off ft cs h1 hs;split at h
 case h_2=>simp at h
 rename_i sz h2;rw[hs]at hx;obtain ⟨arr,hu,hlen,hv⟩:=hx;by_cases hle:off+sz≤cs.length
 case neg=>rw[if_neg hle]at h;simp at h
 rw[if_pos hle]at h;obtain ⟨fs,fl,h3,h4,rfl,rfl⟩:=zhm h1
 have hfield:∀z,(part fl.type arr fl.offset).run X.P w= .ok z w→(execOp a.eval ⟨dst, .field t x f,ty,pos,af,gd⟩).run X.P w= .ok (.value z) w:=by
  intro z hz;show Sem.run X.P (bind (Instr.field t (a.eval x) f) fun z=>pure (Next.value z)) w=_
  have hf:(Instr.field t (a.eval x) f).run X.P w= .ok z w:=by
   rw[hu,Instr.field];have hun:(underlying t).run X.P w= .ok (.struct fs) w:=by simp[underlying,go_sem,h3]
   rw[run_bind hun];simp only[h4];have:(asAgg (.agg arr)).run X.P w= .ok arr w:=by simp[asAgg,go_sem]
   rw[run_bind this];exact hz
  rw[run_bind hf];rfl
 by_cases ha:aggB X.P fl.type=true
 ·rw[if_pos ha]at h
  simp only[Option.some.injEq]at h;subst h;have h5:=zkr ha w;refine .of_pure I (hfield (.agg (arr.extract fl.offset (fl.offset+sz))) ?_) ⟨_,rfl,by simp;omega,fun i hi=> ?_⟩
  ·rw[part,run_bind h5]
   simp only[if_true];rw[run_bind (zca h2 w)];rfl
  ·simp only[List.length_take,List.length_drop]at hi
   have h6:=hv (fl.offset+i) (by omega)
   simp only[List.getElem_take,List.getElem_drop]
   have:(arr.extract fl.offset (fl.offset+sz)).getD i undef=arr.getD (fl.offset+i) undef:=by
    have h7:fl.offset+i<arr.size:=by omega
    have h8:i<(arr.extract fl.offset (fl.offset+sz)).size:=by simp;omega
    simp[Array.getD_eq_getD_getElem?,h7,Array.getElem?_eq_getElem h8]
   rw[this];exact h6
 ·rw[if_neg ha]at h
  by_cases hs1:sz=1∧(X.P.underlying fl.type).isSome=true
  case neg=>rw[if_neg hs1]at h;simp at h
  rw[if_pos hs1]at h;obtain ⟨hs1,hun⟩:=hs1;obtain ⟨d,hd⟩:=Option.isSome_iff_exists.1 hun;simp only[Option.some.injEq]at h;subst h;have hlt:fl.offset<arr.size:=by omega
  have hlt2:fl.offset<cs.length:=by omega
  have h6:=hv fl.offset hlt2;have hgo:arr.getD fl.offset undef=arr[fl.offset]:=by simp[hlt]
  refine .of_pure I (hfield arr[fl.offset] ?_) ?_
  ·rw[part,run_bind (ziM (by simpa using ha) hd w)]
   simp[go_sem,Array.getElem?_eq_getElem hlt]
  ·show V1 _ _ _ _ _ _
   rw[za2 cs _ _ hlt2,←hgo];exact h6
theorem zqn(I:Inv W0 G0 S w a.tmps G pl)(t:TypeId)(x y:Operand)(h:S.opK X mv ⟨dst, .index t x y,ty,pos,af,gd⟩ some=some e):
 OpOk X.P W0 G0 S w a ⟨dst, .index t x y,ty,pos,af,gd⟩ e:=by
 simp only[St.opK,St.vals,Op.operands,List.map_cons,List.map_nil,effK]at h;have hx:=I.ev x;have hy:=I.ev y;split at h
 case h_2=>simp at h
 rename_i s i h1 hs hi;rw[hs]at hx;have hx:a.eval x= .string s:=hx
 obtain ⟨k,hk⟩:∃k,a.eval y= .int k i:=by
  unfold intOf at hi;split at hi
  ·rename_i k n hy'
   rw[hy']at hy;simp only[Option.some.injEq]at hi;subst hi;exact ⟨k,hy⟩
  ·simp at hi
 rw[cond_eq_ite]at h;split at h
 case isFalse=>simp at h
 rename_i hc;simp only[Bool.and_eq_true,decide_eq_true_eq]at hc;simp only[Option.some.injEq]at h;subst h;refine .of_pure I (v:= .int .u8 (zbw s i.toNat)) ?_ rfl;show Sem.run X.P (bind (Instr.index t (a.eval x) (a.eval y)) fun z=>pure (Next.value z)) w=_
 have hlt:i.toNat<s.size:=by omega
 have hg:s[i.toNat]? =some s[i.toNat]:=by
  exact getElem?_pos s i.toNat hlt
 have hb:zbw s i.toNat=((s[i.toNat]).toNat:Int):=by
  unfold zbw
  have:s.data.getD i.toNat 0=s[i.toNat]:=by
   have h2:i.toNat<s.data.size:=hlt;simp only[Array.getD_eq_getD_getElem?,Array.getElem?_eq_getElem h2,Option.getD_some];rfl
  rw[this]
 have hun:(underlying t).run X.P w= .ok .string w:=by simp[underlying,go_sem,h1]
 have ha:(asIntOf (.int k i)).run X.P w= .ok (k,i) w:=by simp[asIntOf,go_sem]
 have:(Instr.index t (.string s) (.int k i)).run X.P w= .ok (.int .u8 (zbw s i.toNat)) w:=by
  rw[Instr.index,run_bind ha,run_bind hun];simp only[hc.1,if_true,hg];rw[hb];rfl
 rw[hx,hk,run_bind this];rfl
end ops
end Go.PV
namespace Go.PV
open Go.RowKit
section ops
variable {X:Ctx}{W0:World}{G0:Orig}{S:St}{w:World}{a:Act}{G:Ghost}{pl:zaP}{mv:Bool}{e:Rec}
 {dst:Option Tmp} {ty:TypeId} {pos:String} {af:Array Edge} {gd:Option (Nat×Bool)}
theorem ziN(I:Inv W0 G0 S w a.tmps G pl)(y:Operand){i:Int}(hi:intOf (S.ev y)=some i):∃k,a.eval y= .int k i:=by
 have hy:=I.ev y;unfold intOf at hi;split at hi
 ·rename_i k n hy'
  rw[hy']at hy;simp only[Option.some.injEq]at hi;subst hi;exact ⟨k,hy⟩
 ·simp at hi
theorem zmS{x:AV}{a:A1}(h:one x=some a):x= .one a:=by
 unfold one at h;split at h
 ·simp only[Option.some.injEq]at h;rw[h]
 ·simp at h
theorem zey(P:Program)(k:IntKind)(i:Int)(w:World):(asIntOf (.int k i)).run P w= .ok (k,i) w:=by simp[asIntOf,go_sem]
theorem zct{P:Program}{t:TypeId}{d:TypeDesc}(h:P.underlying t=some d)(w:World):(underlying t).run P w= .ok d w:=by simp[underlying,go_sem,h]
theorem zfP{P:Program}{t el:TypeId}{sz:Nat}(h1:P.underlying t=some (.slice el))(h2:sizeB P el=some sz)(ad:Addr)(hsp:ad.spot=none)(len cap:Nat)
 (k:IntKind) (i:Int) (h0:0≤i) (hi:i<len) (w:World):
 (Instr.indexAt t (.slice (some ad) len cap) (.int k i)).run P w= .ok (.pointer (some ⟨ad.block,ad.off+i.toNat*sz,none⟩)) w:=by
 have hu:=zct h1 w;have hs:=zca h2 w;have ha:=zey P k i w;have hc:0≤i∧i<(len:Int):=⟨h0,hi⟩;rw[Instr.indexAt,run_bind ha];simp only[go_sem,underlying,hc];simp[go_sem,h1,zca h2,ze5 ad hsp,hc]
theorem zho{Q:QP}{u:Value}{es:List (List D)}(h:Rel w Q u (.s es))(hne:0<es.length):
 ∃(ad:Addr) (cap sz:Nat) (f:Nat→Nat→Value),u= .slice (some ad) es.length cap∧es.length≤cap∧ad.spot=none∧ad.block<w.heap.size∧Q [] ad.block∧
  (∀k,k<cap*sz→(w.cell? ⟨ad.block,ad.off+k,none⟩).isSome)∧
  (∀i (h:i<es.length),(es[i]).length=sz)∧
  (∀i j,i<es.length→j<sz→w.cell? ⟨ad.block,ad.off+(i*sz+j),none⟩=some (f i j))∧
  (∀i j (hi:i<es.length) (hj:j<(es[i]).length),Rel w (fun π b=>Q (i::j::π) b) (f i j) ((es[i])[j])):=by
 rcases h.slice with ⟨rfl,_⟩|⟨ad,cap,sz,f,h1,h2,h3⟩
 ·simp at hne
 ·exact ⟨ad,cap,sz,f,h1,h2.1,h3⟩
theorem zdQ{R:Type}(P:Program)(F:Foot)(t:TypeId)(x:A1)(i:Int)(k:A1→Option R):zcI P F t x i k=(zcI P F t x i some).bind k:=by
 unfold zcI
 repeat' (first|rfl|split)
 all_goals (simp only[cond_eq_ite];split<;>rfl)
theorem zku(I:Inv W0 G0 S w a.tmps G pl)(t:TypeId)(x y:Operand)(h:S.opK X mv ⟨dst, .indexAddr t x y,ty,pos,af,gd⟩ some=some e):
 OpOk X.P W0 G0 S w a ⟨dst, .indexAddr t x y,ty,pos,af,gd⟩ e:=by
 simp only[St.opK,St.vals,Op.operands,List.map_cons,List.map_nil,effK]at h;have hx:=I.ev x;split at h
 case h_2=>simp at h
 rename_i x1 i h1' hi;have h1:=zmS h1';clear h1';obtain ⟨k,hk⟩:=ziN I y hi;rw[h1]at hx;rw[zdQ]at h;cases hl:zcI X.P (S.foot [S.ev x,S.ev y]) t x1 i some with
 |none=>rw[hl]at h;simp at h
 |some r=>
  rw[hl]at h;simp only[Option.bind_some,Option.some.injEq]at h;subst h
  have goal:∀z,(Instr.indexAt t (a.eval x) (a.eval y)).run X.P w= .ok z w→V1 w G S.obj pl z r→OpOk X.P W0 G0 S w a ⟨dst, .indexAddr t x y,ty,pos,af,gd⟩ {val:= .one r}:=by
   intro z hz hv;refine .of_pure I (v:=z) ?_ hv;show Sem.run X.P (bind (Instr.indexAt t (a.eval x) (a.eval y)) fun z=>pure (Next.value z)) w=_
   rw[run_bind hz];rfl
  rw[hk]at goal;unfold zcI at hl;split at hl
  · -- a slice
    rename_i el hel;split at hl
    ·simp at hl
    rename_i sz hsz;split at hl
    · -- shared
      rename_i es;rw[cond_eq_ite]at hl;split at hl
      case isFalse=>simp at hl
      rename_i hc;simp only[Bool.and_eq_true,decide_eq_true_eq]at hc;simp only[Option.some.injEq]at hl;subst hl;have hx:Rel w (QSh G) (a.eval x) (.s es):=hx;obtain ⟨ad,cap,sz',f,hu,hle,hsp,hb,hq,hcc,hz,hcell,hr⟩:=zho hx (by omega)
      have hlt:i.toNat<es.length:=by omega
      have hge:es.getD i.toNat []=es[i.toNat]:=za2 es _ _ hlt;have hszz:sz'=sz:=by rw[←hz i.toNat hlt,←hge];exact hc.2
      subst hszz;rw[hu]at goal;refine goal _ (zfP hel hsz ad hsp es.length cap k i hc.1.1 hc.1.2 w) ⟨⟨ad.block,ad.off+i.toNat*sz',none⟩,fun j=>f i.toNat j, ?_, ?_⟩
      ·rfl
      ·rw[hge]
       exact {spot:=rfl,lt:=hb,blk:=hq
              cell:=fun c hc'=>by
               rw[Nat.add_assoc];exact hcell i.toNat c hlt (by rw[←hz i.toNat hlt];exact hc')
              rel:=fun c hc'=>(hr i.toNat c hlt hc').mono (fun _ _ h=>h)}
    · -- one's own
      rename_i n p c;split at hl
      case h_2=>simp at hl
      rename_i ob hfo;rw[cond_eq_ite]at hl;split at hl
      case isFalse=>simp at hl
      rename_i hc;simp only[Bool.and_eq_true,decide_eq_true_eq]at hc;simp only[Option.some.injEq]at hl;subst hl;have hob:=zcs S _ n ob hfo;obtain ⟨ob',hr⟩:=hx;have:ob'=ob:=by have:=hr.at0;rw[hob]at this;exact (Option.some.inj this).symm
      subst this;obtain ⟨es,hes⟩:=hr.sl;have hat:=hr.relAt I.objs;have hge:(zaj ob'.row p)[c]'hr.lt= .s es:=by rw[←hes];exact (za2 _ c _ hr.lt).symm
      rw[hge]at hat;rw[hes]at hc;simp only[D.es]at hc;obtain ⟨ad,cap,sz',f,hu,hle,hsp,hb,hq,hcc,hz,hcell,hrr⟩:=zho hat (by omega)
      have hlt:i.toNat<es.length:=by omega
      have hge2:es.getD i.toNat []=es[i.toNat]:=za2 es _ _ hlt;have hszz:sz'=sz:=by rw[←hz i.toNat hlt,←hge2];exact hc.2
      subst hszz;rw[hu]at goal;refine goal _ (zfP hel hsz ad hsp es.length cap k i hc.1.1 hc.1.2 w) ⟨⟨ad.block,ad.off+i.toNat*sz',none⟩,ob', ?_,rfl⟩;refine {at0:=hob,path:=zlO p c i.toNat _ hr.path hr.lt (by rw[hes];exact hlt),at_:= ?_,spot:=rfl,ro:=hr.kind,virt:=fun h=>by simp at h}
      have hhead:=hr.head;rw[hu]at hhead
      have:=zkp w p c i.toNat (hdf (pl n)) ob'.row (pl n).base ad es.length cap (by
       simp only[zb2]at hhead;split at hhead
       ·rename_i hp;rw[if_pos hp];exact hhead
       ·rename_i hp
        rw[if_neg hp]
        have h2:zaD w (hdf (pl n)) ob'.row p none=zaD w (hdf (pl n)) ob'.row p (pl n).base:=by
         cases p with
         |nil=>exact absurd rfl hp
         |cons x p=>obtain ⟨c0,e0⟩:=x;rfl
        rw[←h2];exact hhead)
      rw[this,hes];simp only[D.es,hge2,hz i.toNat hlt]
    ·simp at hl
  · -- an array
    rename_i m el hel;split at hl
    ·simp at hl
    rename_i sz hsz
    have run:∀(b o:Nat),0≤i→i<m→1<m→(Instr.indexAt t (.pointer (some ⟨b,o,none⟩)) (.int k i)).run X.P w= .ok (.pointer (some ⟨b,o+i.toNat*sz,none⟩)) w:=by
     intro b o h0 hi hm;have hu:=zct hel w;have hs:=zca hsz w;have ha:=zey X.P k i w;have hc:0≤i∧i<(m:Int):=⟨h0,hi⟩;rw[Instr.indexAt,run_bind ha];simp[go_sem,hel,underlying,hs,Instr.sureAddr,zon,hc]
    split at hl
    ·rename_i b n p c
     rw[cond_eq_ite]at hl;split at hl
     case isFalse=>simp at hl
     rename_i hc;simp only[Bool.and_eq_true,decide_eq_true_eq]at hc;simp only[Option.some.injEq]at hl;subst hl;obtain ⟨⟨⟨hb,h0⟩,h2⟩,h3⟩:=hc;subst hb;obtain ⟨ad,ob,hr,hu⟩:=hx;rw[hu]at goal;refine goal _ (run ad.block (ad.off+c) h0 h2 h3) ⟨ad,ob,hr, ?_⟩;rw[Nat.add_assoc]
    ·rename_i row c
     rw[cond_eq_ite]at hl;split at hl
     case isFalse=>simp at hl
     rename_i hc;simp only[Bool.and_eq_true,decide_eq_true_eq]at hc;simp only[Option.some.injEq]at hl;subst hl;obtain ⟨ad,hd,hu,hro⟩:=hx;rw[hu]at goal;refine goal _ (run ad.block (ad.off+c) hc.1.1 hc.1.2 hc.2) ⟨ad,hd, ?_,hro⟩;rw[Nat.add_assoc]
    ·simp at hl
  ·simp at hl
theorem zez(P:Program)(ρ:Operand→Value)(b:Builtin)(args:Array Operand)(ts:Array TypeId)(w:World):
 (execOp ρ ⟨dst, .call ⟨.builtin b,args,ts⟩,ty,pos,af,gd⟩).run P w=
  (builtin b ts ty (args.map fun x=>match x with| .const _=>true|_=>false) (args.map ρ)).run P w:=rfl
theorem znx{F:Foot}(hF:∀n ob,fget F n=some ob→S.obj n=some ob)(I:Inv W0 G0 S w a.tmps G pl){x:A1}{u:Value}(hx:V1 w G S.obj pl u x){n:Int}
 (h:slen F x=some n):∃(b:Option Addr) (l cap:Nat),u= .slice b l cap∧(l:Int)=n:=by
 unfold slen at h;split at h
 ·simp only[Option.some.injEq]at h
  subst h;exact ⟨none,0,0,hx,rfl⟩
 ·rename_i es
  simp only[Option.some.injEq]at h;subst h;obtain ⟨b,cap,hu,_⟩:=Rel.len hx;exact ⟨b,_,cap,hu,rfl⟩
 ·rename_i m p c
  split at h
  case h_2=>simp at h
  rename_i ob hfo;simp only[Option.some.injEq]at h;subst h;have hob:=hF m ob hfo;obtain ⟨ob',hr⟩:=hx;have:ob'=ob:=by have:=hr.at0;rw[hob]at this;exact (Option.some.inj this).symm
  subst this;obtain ⟨es,hes⟩:=hr.sl;have hat:=hr.relAt I.objs;have hge:(zaj ob'.row p)[c]'hr.lt= .s es:=by rw[←hes];exact (za2 _ c _ hr.lt).symm
  rw[hge]at hat;obtain ⟨b,cap,hu,_⟩:=hat.len;rw[hes];exact ⟨b,_,cap,hu,rfl⟩
 ·simp at h
theorem zlT{F:Foot}(hF:∀n ob,fget F n=some ob→S.obj n=some ob)(I:Inv W0 G0 S w a.tmps G pl){x:A1}{u:Value}(hx:V1 w G S.obj pl u x){n:Int}
 {ts:Array TypeId} (hts:0<ts.size) (h:lenOf X.P F (ts.getD 0 0) x=some n):(Builtin.len_ ts ty #[u]).run X.P w= .ok (.int .i64 n) w:=by
 have ht:ts[0]? =some (ts.getD 0 0):=by simp[hts]
 unfold lenOf at h;split at h
 ·rename_i hst
  split at h
  case h_2=>simp at h
  rename_i s;simp only[Option.some.injEq]at h;subst h;have hx:u= .string s:=hx;subst hx;have hu:=zct hst w;have hx0:(#[Value.string s]:Array Value)[0]? =some (.string s):=rfl;simp only[Builtin.len_,ht,hx0];rw[run_bind hu];rfl
 ·rename_i el hst
  obtain ⟨b,l,cap,rfl,hl⟩:=znx hF I hx h;have hu:=zct hst w;have hx0:(#[Value.slice b l cap]:Array Value)[0]? =some (.slice b l cap):=rfl;simp only[Builtin.len_,ht,hx0];rw[run_bind hu];simp only[goInt,hl];rfl
 ·simp at h
theorem Rel.sub{Q:QP}(hQ:∀π π' b,Q π b→Q π' b){u:Value}{es:List (List D)}(h:Rel w Q u (.s es)){l hh sz:Nat}(h1:l≤hh)(h2:hh≤es.length)
 (h3:l=0∨((es.getD 0 []).length=sz)):
 ∃(ad:Option Addr) (cap:Nat),u= .slice ad es.length cap∧es.length≤cap∧Rel w Q (.slice (if cap=l then ad else ad.map (·.add (l*sz))) (hh-l) (cap-l)) (.s ((es.take hh).drop l)):=by
 have hlen:((es.take hh).drop l).length=hh-l:=by simp;omega
 rcases h.slice with ⟨rfl,a,rfl⟩|⟨ad,cap,sz',f,hu,hle,hsp,hb,hq,hcc,hz,hcell,hr⟩
 ·refine ⟨a,0,rfl,Nat.le_refl _, ?_⟩
  simp only[List.length_nil]at h2;have:hh=0:=by omega
  have:l=0:=by omega
  subst hh l;simp only[if_true,Nat.sub_self,List.take_nil,List.drop_nil];exact .e _ _
 ·obtain ⟨hle,he0⟩:=hle
  refine ⟨some ad,cap,hu,hle, ?_⟩;by_cases hl0:l=0
  ·subst hl0
   have had:(if cap=0 then some ad else (some ad).map (·.add (0*sz)))=some ad:=by
    split
    ·rfl
    ·simp[Addr.add]
   rw[had]
   have:=Rel.s (w:=w) Q ad cap sz' (es.take hh) f (by simp;omega) (fun _=> .inr (hQ _ _ _ hq)) hsp hb hq hcc
    (fun i hi=>by simp only[List.getElem_take];exact hz i _)
    (fun i j hi hj=>hcell i j (by simp at hi;omega) hj)
    (fun i j hi hj=>by
      simp only[List.getElem_take]at hj⊢;exact hr i j _ hj)
   have hl2:(es.take hh).length=hh:=by simp;omega
   rw[hl2]at this;simpa using this
  ·have hsz:sz'=sz:=by
    rcases h3 with h|h
    ·exact absurd h hl0
    ·rw[←hz 0 (by omega),←h]
     rw[za2 es 0 _ (by omega)]
   subst hsz;by_cases hcl:cap=l
   ·have:hh=l:=by omega
    subst hh;rw[if_pos hcl]
    have he:(es.take l).drop l=[]:=by
     apply List.eq_nil_of_length_eq_zero;rw[hlen];omega
    rw[he,hcl,Nat.sub_self];exact .e _ _
   ·rw[if_neg hcl]
    simp only[Option.map_some,ze5 ad hsp]
    have:=Rel.s (w:=w) Q ⟨ad.block,ad.off+l*sz',none⟩ (cap-l) sz' ((es.take hh).drop l) (fun i j=>f (l+i) j) (by rw[hlen];omega) (fun _=> .inr (hQ _ _ _ hq)) rfl hb hq
     (fun k hk=>by
       have hkk:l*sz'+k<cap*sz':=by
        have:(cap-l)*sz'=cap*sz'-l*sz':=Nat.sub_mul _ _ _;have h4:l*sz'≤cap*sz':=Nat.mul_le_mul_right _ (by omega)
        omega
       have:=hcc _ hkk;simpa[Nat.add_assoc]using this)
     (fun i hi=>by
       simp only[List.getElem_drop,List.getElem_take];exact hz _ _)
     (fun i j hi hj=>by
       rw[hlen]at hi;have:=hcell (l+i) j (by omega) hj
       rw[Nat.add_mul]at this;simpa[Nat.add_assoc]using this)
     (fun i j hi hj=>by
       simp only[List.getElem_drop,List.getElem_take]at hj⊢;exact (hr (l+i) j _ hj).mono (fun π b hb=>hQ _ _ _ hb))
    rw[hlen]at this;exact this
theorem zlU{pr:Bool}{vs r:List AV}{z:Option Int}(h:zkn pr vs=some (z,r)):
 (pr=false∧z=none∧r=vs)∨(pr=true∧∃v n,vs=v::r∧intOf v=some n∧z=some n):=by
 unfold zkn at h;split at h
 ·rename_i hp
  simp only at h;split at h
  ·rename_i v r'
   split at h
   ·rename_i n hn
    simp only[Option.some.injEq,Prod.mk.injEq]at h;obtain ⟨rfl,rfl⟩:=h;exact .inr ⟨hp,v,n,rfl,hn,rfl⟩
   ·simp at h
  ·simp at h
 ·rename_i hp
  simp only[Option.some.injEq,Prod.mk.injEq]at h;obtain ⟨rfl,rfl⟩:=h;exact .inl ⟨by simpa using hp,rfl,rfl⟩
theorem zfj(P:Program)(k:IntKind)(i:Int)(y:Nat)(c:BoundsCode)(h0:0≤i)(h:i≤y)(w:World):
 (Instr.sliceBound (.int k i) y c).run P w= .ok i.toNat w:=by
 rw[Instr.sliceBound,run_bind (zey P k i w)];simp[go_sem,h0,h]
theorem zhp(P:Program)(isS:Bool)(len cap:Nat)(lo hi:Option Value)(l h:Int)(hlo:lo=none∧l=0∨∃k,lo=some (.int k l))
 (hhi:hi=none∧h=len∨∃k,hi=some (.int k h)) (h0:0≤l) (h1:l≤h) (h2:h≤len) (h3:len≤cap) (w:World):
 (Instr.sliceBounds isS len cap lo hi none).run P w= .ok (l.toNat,h.toNat,cap) w:=by
 unfold Instr.sliceBounds;have hm:(pure cap:Sem Nat).run P w= .ok cap w:=rfl;simp only;rw[run_bind hm]
 have hlast:∀H:Nat,H=h.toNat→(match (generalizing:=false) lo with
  |some v=>(do let l←Instr.sliceBound v H (if (none:Option Value).isSome=true then .slice3C else .sliceB);pure (l,H,cap))
  |none=>(do let l←pure 0;pure (l,H,cap)):Sem (Nat×Nat×Nat)).run P w= .ok (l.toNat,h.toNat,cap) w:=by
  rintro H rfl
  rcases hlo with ⟨rfl,rfl⟩|⟨k,rfl⟩
  ·rfl
  ·simp only[Option.isSome_none,Bool.false_eq_true,if_false]
   rw[run_bind (zfj P k l h.toNat _ h0 (by omega) w)]
   rfl
 rcases hhi with ⟨rfl,rfl⟩|⟨k,rfl⟩
 ·simp only
  have hl:(pure len:Sem Nat).run P w= .ok len w:=rfl;rw[run_bind hl];exact hlast len (by simp)
 ·simp only
  rw[run_bind (zfj P k h cap _ (by omega) (by omega) w)]
  exact hlast _ rfl
end ops
end Go.PV
namespace Go.PV
open Go.RowKit
theorem VAV.turn{w w':World}{G G':Ghost}{obs obs':Obs}{pl pl':zaP}{u:Value}{x:AV}{kl:List (Nat×Nat)}
 (h:VAV w G obs pl u x) (hI:zcx w G obs pl) (hB:zcc w w' G G')
 (hF:∀n,(∀x∈kl,x.1≠n)→zex w w' G obs obs' pl pl' n)
 (hR:∀n,(∀x∈kl,x.1=n→x.2=0)→KeptR obs obs' pl pl' n)
 (hP:∀n,(∀x∈kl,x.1=n→x.2≤1)→KeptP obs obs' pl pl' n)
 (hQ:∀n,(∃x∈kl,x.1=n∧5≤x.2)→(∀x∈kl,x.1=n→5≤x.2)→KeptQ w w' G G' obs obs' pl pl' n) (hmix:∀n,(∃x∈kl,x.1=n∧5≤x.2)→∀x∈kl,x.1=n→5≤x.2):VAV w' G' obs' pl' u (x.kill kl):=by
 have h1:∀u a,V1 w G obs pl u a→V1 w' G' obs' pl' u (a.kill kl):=fun u a h=>V1.turn h hI hB hF hR hP hQ hmix
 cases x with
 |one a=>exact h1 _ _ h
 |g cs=>
  obtain ⟨arr,rfl,h2,h3⟩:=h;refine ⟨arr,rfl,by simp[h2],fun i hi=> ?_⟩
  simp only[List.length_map]at hi;simp only[List.getElem_map];exact h1 _ _ (h3 i hi)
 |t vs=>
  obtain ⟨arr,rfl,h2,h3⟩:=h;refine ⟨arr,rfl,by simp[h2],fun i hi=> ?_⟩
  simp only[List.length_map]at hi;simp only[List.getElem_map];have h4:=h3 i hi;split at h4
  ·rename_i hb
   rw[if_pos hb];obtain ⟨ar,h5,h6,h7⟩:=h4;refine ⟨ar,h5,by simp[h6],fun j hj=> ?_⟩
   have hj':j<(vs[i]).2.length:=by simpa using hj
   have:=h1 _ _ (h7 j hj');simpa using this
  ·rename_i hb
   rw[if_neg hb];obtain ⟨c,h5,h6⟩:=h4;refine ⟨c.kill kl,by simp[h5],h1 _ _ h6⟩
 |f fn caps=>
  obtain ⟨arr,rfl,h2,h3⟩:=h;refine ⟨arr,rfl,by simp[h2],fun i hi=> ?_⟩
  simp only[List.length_map]at hi;simp only[List.getElem_map];exact h1 _ _ (h3 i hi)
theorem zfQ(x:AV):x.kill []=x:=by
 have h0:A0.kill []=id:=funext fun a=>by cases a<;>simp[A0.kill]
 have h1:∀a:A1,a.kill []=a:=fun a=>by cases a<;>simp[A1.kill,h0]
 have h2:A1.kill []=id:=funext h1;cases x<;>simp[AV.kill,h2]
def after(ups:List (Nat×Option Obj))(o:List (Option Obj)):List (Option Obj):=ups.foldl (fun o x=>o.set x.1 x.2) o
theorem zeK(ups:List (Nat×Option Obj)):∀o,(after ups o).length=o.length:=by
 induction ups with
 |nil=>intro o;rfl
 |cons x xs ih=>intro o;simp only[after,List.foldl_cons];exact (ih _).trans (by simp)
theorem zd1(u v:List (Nat×Option Obj))(o:List (Option Obj)):after (u++v) o=after v (after u o):=by simp[after]
theorem zei(ups:List (Nat×Option Obj))(n:Nat):∀o,(∀x∈ups,x.1≠n)→(after ups o).getD n none=o.getD n none:=by
 induction ups with
 |nil=>intro o _;rfl
 |cons x xs ih=>
  intro o h;have h0:=h x (by simp)
  simp only[after,List.foldl_cons];rw[show (xs.foldl (fun o x=>o.set x.1 x.2) (o.set x.1 x.2))=after xs (o.set x.1 x.2) from rfl,ih _ (fun y hy=>h y (by simp[hy]))]
  simp[List.getD_eq_getElem?_getD,h0]
theorem zfR(n:Nat)(x:Option Obj)(o:List (Option Obj))(m:Nat)(h:n<o.length):(after [(n,x)] o).getD m none=if m=n then x else o.getD m none:=by
 simp only[after,List.foldl_cons,List.foldl_nil,List.getD_eq_getElem?_getD,List.getElem?_set];by_cases hm:n=m
 ·subst hm;simp[h]
 ·have:¬m=n:=fun h=>hm h.symm
  simp[hm,this]
theorem zop(f:Nat→Option Obj)(n:Nat):∀(ns:List Nat) (o:List (Option Obj)),n∈ns→n<o.length→(after (ns.map fun m=>(m,f m)) o).getD n none=f n:=by
 intro ns
 induction ns with
 |nil=>intro o h;simp at h
 |cons m ms ih=>
  intro o h hlt;simp only[List.map_cons,after,List.foldl_cons];rw[show ((ms.map fun m=>(m,f m)).foldl (fun o x=>o.set x.1 x.2) (o.set m (f m)))=after (ms.map fun m=>(m,f m)) (o.set m (f m)) from rfl]
  by_cases hm:n∈ms
  ·exact ih _ hm (by simpa using hlt)
  ·have:n=m:=by rcases List.mem_cons.1 h with h|h;·exact h
                ·exact absurd h hm
   subst this
   rw[zei _ _ _ (by
    intro x hx hxn;obtain ⟨m',hm',rfl⟩:=List.mem_map.1 hx;exact hm (hxn▸hm'))]
   simp[List.getD_eq_getElem?_getD,hlt]
theorem zg5(S:St)(dst:Option Tmp)(e:Rec)(n:Nat):(S.put0 dst e).obj n=(after e.ups S.o).getD n none:=rfl
theorem zdc{S:St}{n:Nat}{ob:Obj}(h:S.obj n=some ob):n<S.o.length:=by
 unfold St.obj at h;rcases Nat.lt_or_ge n S.o.length with h1|h1
 ·exact h1
 ·simp[List.getD_eq_getElem?_getD,List.getElem?_eq_none h1]at h
theorem zkv(l:List AV)(kl:List (Nat×Nat))(t:Nat):(l.map (AV.kill kl)).getD t (.one .dead)=(l.getD t (.one .dead)).kill kl:=by
 simp only[List.getD_eq_getElem?_getD,List.getElem?_map];cases l[t]? with
 |none=>rfl
 |some x=>rfl
section step
variable {W0:World}{G0:Orig}{S:St}{w w':World}{a:Act}{G G':Ghost}{pl pl':zaP}
theorem Inv.stepQ(I:Inv W0 G0 S w a.tmps G pl)(dst:Option Tmp)(e:Rec)(v:Value)(hB:zcc w w' G G')
 (hF:∀n,(∀x∈e.kl,x.1≠n)→zex w w' G S.obj (S.put0 dst e).obj pl pl' n)
 (hR:∀n,(∀x∈e.kl,x.1=n→x.2=0)→KeptR S.obj (S.put0 dst e).obj pl pl' n)
 (hP:∀n,(∀x∈e.kl,x.1=n→x.2≤1)→KeptP S.obj (S.put0 dst e).obj pl pl' n)
 (hQ:∀n,(∃x∈e.kl,x.1=n∧5≤x.2)→(∀x∈e.kl,x.1=n→5≤x.2)→KeptQ w w' G G' S.obj (S.put0 dst e).obj pl pl' n) (hmix:∀n,(∃x∈e.kl,x.1=n∧5≤x.2)→∀x∈e.kl,x.1=n→5≤x.2)
 (hobjs:zcx w' G' (S.put0 dst e).obj pl') (hown:∀b x,G' b=some x→OwnAt w' b x)
 (hdom:∀b x,G' b=some x→x.1<S.o.length∨x.1=FR)
 (hK:∀b π,G b=some (FR,π)→w'.heap[b]? =w.heap[b]?∧G' b=some (FR,π))
 (hX:∀n ob,n<S.na→(S.put0 dst e).obj n=some ob→∃ob0,S.obj n=some ob0∧ob0.kind=ob.kind∧ob0.row.length=ob.row.length∧(pl' n).base=(pl n).base∧(ob.kind= .ro→ob0=ob)∧(ob.kind≠ .box→ob.kind.isBld=false→pl' n=pl n)∧
   ∀b off,(pl n).base=some ⟨b,off,none⟩→G' b=some (n,[])→G b=some (n,[])∧∀k,k<off∨off+ob.row.length≤k→w'.cell? ⟨b,k,none⟩=w.cell? ⟨b,k,none⟩) (hos:w'.os=w.os) (hout:w'.output=w.output) (htape:w'.tape=w.tape) (hsz:w.heap.size≤w'.heap.size)
 (hv:dst≠none→VAV w' G' (S.put0 dst e).obj pl' v e.val):Inv W0 G0 (S.put0 dst e) w' (a.put dst v).tmps G' pl':=by
 have hlen:(S.put0 dst e).t.length=S.t.length:=by
  unfold St.put0;cases dst with
  |none=>simp only;split<;>simp
  |some d=>simp only[List.length_set];split<;>simp
 have holen:(S.put0 dst e).o.length=S.o.length:=zeK e.ups S.o
 refine {size:= ?_,tmps:=fun t=> ?_,objs:=hobjs,own:=hown,base:=fun b hb h0=> ?_,os:=hos.trans I.os,output:=hout.trans I.output,tape:=htape.trans I.tape
         hsize:=Nat.le_trans I.hsize hsz,nolim:=fun b x hx=>by rw[holen];exact hdom b x hx,out:=fun n b off ob hn hG hb ho k hk=> ?_,small:=by rw[holen];exact I.small,start:=fun n ob hn ho=> ?_,fr:=fun b π hb h0=> ?_,olen:=by rw[holen,hlen];exact I.olen,glob:=I.glob.frame hB,gl:=I.gl}
 ·rw[hlen,←I.size]
  cases dst with
  |none=>rfl
  |some d=>simp[Act.put]
 ·have hkt:VAV w' G' (S.put0 dst e).obj pl' (a.tmps.getD t undef) ((if e.kl.isEmpty then S.t else S.t.map (AV.kill e.kl)).getD t (.one .dead)):=by
   have:=VAV.turn (I.tmps t) I.objs hB hF hR hP hQ hmix;split
   ·rename_i hk
    have hk:e.kl=[]:=by simpa using hk
    rw[hk,zfQ]at this;exact this
   ·rw[zkv];exact this
  cases dst with
  |none=>exact hkt
  |some d=>
   have ht:(S.put0 (some d) e).t=(if e.kl.isEmpty then S.t else S.t.map (AV.kill e.kl)).set d e.val:=rfl
   simp only[Act.put];rw[ht,zhl,zjr];have hl2:(if e.kl.isEmpty=true then S.t else S.t.map (AV.kill e.kl)).length=S.t.length:=by split<;>simp
   rw[hl2,I.size];split
   ·exact hv (by simp)
   ·exact hkt
 ·obtain ⟨h1,h2⟩:=I.base b hb h0
  obtain ⟨h3,h4⟩:=hB b (Nat.lt_of_lt_of_le hb I.hsize) h2;exact ⟨h3.trans h1,h4⟩
 ·obtain ⟨ob0,h1,h2,h3,h4,h5,h9,h6⟩:=hX n ob hn ho
  rw[h4]at hb;obtain ⟨h7,h8⟩:=h6 b off hb hG;rw[h8 k hk];exact I.out n b off ob0 hn h7 hb h1 k (h3▸hk)
 ·obtain ⟨ob0,h1,h2,h3,h4,h5,h9,h6⟩:=hX n ob hn ho
  obtain ⟨ob1,k1,k2,k3,k4,k5,k6⟩:=I.start n ob0 hn h1;exact ⟨ob1,k1,k2.trans h2,k3.trans h3,h4.trans k4,fun hr=>(k5 (h2.trans hr)).trans (h5 hr),fun hr hb=>(h9 hr hb).trans (k6 (h2▸hr) (h2▸hb))⟩
 ·obtain ⟨h1,h2⟩:=I.fr b π hb h0
  rw[h0]at h2;obtain ⟨h3,h4⟩:=hK b π h2;exact ⟨h3.trans h1,h4.trans h0.symm⟩
theorem Inv.step(I:Inv W0 G0 S w a.tmps G pl)(dst:Option Tmp)(e:Rec)(v:Value)(hB:zcc w w' G G')
 (h5:∀x∈e.kl,x.2<5)
 (hF:∀n,(∀x∈e.kl,x.1≠n)→zex w w' G S.obj (S.put0 dst e).obj pl pl' n)
 (hR:∀n,(∀x∈e.kl,x.1=n→x.2=0)→KeptR S.obj (S.put0 dst e).obj pl pl' n)
 (hP:∀n,(∀x∈e.kl,x.1=n→x.2≤1)→KeptP S.obj (S.put0 dst e).obj pl pl' n)
 (hobjs:zcx w' G' (S.put0 dst e).obj pl') (hown:∀b x,G' b=some x→OwnAt w' b x)
 (hdom:∀b x,G' b=some x→x.1<S.o.length∨x.1=FR)
 (hK:∀b π,G b=some (FR,π)→w'.heap[b]? =w.heap[b]?∧G' b=some (FR,π))
 (hX:∀n ob,n<S.na→(S.put0 dst e).obj n=some ob→∃ob0,S.obj n=some ob0∧ob0.kind=ob.kind∧ob0.row.length=ob.row.length∧(pl' n).base=(pl n).base∧(ob.kind= .ro→ob0=ob)∧(ob.kind≠ .box→ob.kind.isBld=false→pl' n=pl n)∧
   ∀b off,(pl n).base=some ⟨b,off,none⟩→G' b=some (n,[])→G b=some (n,[])∧∀k,k<off∨off+ob.row.length≤k→w'.cell? ⟨b,k,none⟩=w.cell? ⟨b,k,none⟩) (hos:w'.os=w.os) (hout:w'.output=w.output) (htape:w'.tape=w.tape) (hsz:w.heap.size≤w'.heap.size)
 (hv:dst≠none→VAV w' G' (S.put0 dst e).obj pl' v e.val):Inv W0 G0 (S.put0 dst e) w' (a.put dst v).tmps G' pl':=
 Inv.stepQ I dst e v hB hF hR hP (fun n ⟨x,hx,_,h⟩=>absurd (h5 x hx) (by omega)) (fun n ⟨x,hx,_,h⟩=>absurd (h5 x hx) (by omega)) hobjs hown hdom hK hX hos hout htape hsz hv
def lim(S:St):Nat:=S.o.length
theorem zdR(S:St):S.obj (lim S)=none:=by simp[St.obj,lim,List.getD_eq_getElem?_getD]
theorem zd2(S:St)(vs:List AV):∀n ob,fget (S.foot vs) n=some ob→S.obj n=some ob:=fun n ob=>zcs S vs n ob
theorem zjs{G1:Ghost}{obs1:Obs}{F:Foot}{A:Env}(m:Mv (lim S) G S.obj {o:=F} G1 obs1 A)(n:Nat):(after A.ups S.o).getD n none=obs1 n:=by
 by_cases hn:n∈A.tch
 ·have hlt:n<S.o.length:=by
   rcases m.tin n hn with h|⟨ob,h⟩
   ·simp at h
   ·exact zdc h
  rw[Env.ups,zop (fun n=>fget A.o n) n _ _ hn hlt,m.ups n hn]
 ·rw[Env.ups,zei _ _ _ (by
   intro x hx hxn;obtain ⟨m',hm',rfl⟩:=List.mem_map.1 hx;exact hn (hxn▸hm')),m.keep n hn];rfl
theorem Inv.install(I:Inv W0 G0 S w a.tmps G pl){d:Tmp}(hd:d<S.t.length){G1:Ghost}{obs1:Obs}{F:Foot}{A:Env}(m:Mv (lim S) G S.obj {o:=F} G1 obs1 A)
 (hO:zcx w G1 obs1 pl) (obN:Obj) (plN:Place) (v:Value) (val:AV)
 (hw:∀b,b<w.heap.size→(∀π,G1 b≠some (lim S,π))→w'.heap[b]? =w.heap[b]?)
 (hGn:∀b,b<w.heap.size→G1 b=none→G' b=none)
 (hGk:∀b n π,G1 b=some (n,π)→n≠S.na+d→n≠lim S→G' b=some (n,π))
 (hGd:∀b x,G' b=some x→x.1=S.na+d∨G1 b=some x∧x.1≠lim S)
 (hown:∀b x,G' b=some x→x.1=S.na+d→OwnAt w' b x)
 (hN:obN.kind≠ .ro→ObjRel w' G' (S.na+d) plN obN)
 (hos:w'.os=w.os) (hout:w'.output=w.output) (htape:w'.tape=w.tape) (hsz:w.heap.size≤w'.heap.size)
 (hv:∀obs' pl',obs' (S.na+d)=some obN→pl' (S.na+d)=plN→VAV w' G' obs' pl' v val):
 Inv W0 G0 (S.put (some d) {val,ups:=A.ups++[(S.na+d,some obN)],kl:=A.kl++[(S.na+d,2)]}) w' (a.put (some d) v).tmps G'
  (fun n=>if n=S.na+d then plN else pl n):=by
 have hNlt:S.na+d<S.o.length:=by rw[I.olen];exact Nat.add_lt_add_left hd _
 have hobj:∀n,(S.put0 (some d) {val,ups:=A.ups++[(S.na+d,some obN)],kl:=A.kl++[(S.na+d,2)]}).obj n=if n=S.na+d then some obN else obs1 n:=by
  intro n;rw[zg5,zd1,zfR _ _ _ _ (by rw[zeK];exact hNlt)]
  rw[zjs m]
 have hB:zcc w w' G G':=fun b hb h0=>by
  have h1:=m.gnone b h0;exact ⟨hw b hb (fun π h=>by rw[h1]at h;exact absurd h (by simp)),hGn b hb h1⟩
 refine Inv.step I (some d) _ v hB (fun x hx=>by
  rcases List.mem_append.1 hx with h|h
  ·exact Nat.lt_of_le_of_lt (m.kl x h).1 (by omega)
  ·have:x=(S.na+d,2):=by simpa using h
   rw[this];show 2<5;decide) (fun n hn ob hob=> ?_) (fun n hn ob hob hk=> ?_) (fun n hn ob hob=> ?_) (fun n ob hob hk=> ?_) (fun b x hx=> ?_) (fun b x hx=> ?_) (fun b π h=> ?_) (fun k ob hk ho=> ?_) hos hout htape hsz (fun _=> ?_)
 ·have hnN:n≠S.na+d:=fun h=>hn (S.na+d,2) (by simp) h.symm
  obtain ⟨ob',h1,h2,h3,h4,h5⟩:=m.turn n ob hob;refine ⟨ob',by rw[hobj,if_neg hnN];exact h1,h5.1 (fun x hx=>hn x (by simp[hx])),h2,if_neg hnN,fun hr=>by rw[h4 hr],fun b π hb=> ?_⟩
  -- a block of n
  have hb':b<w.heap.size:=by
   exact (I.own b _ hb).lt
  refine hw b hb' (fun π' h=> ?_)
  rcases m.gstay b n π hb (fun x hx=>hn x (by simp[hx]))with h1|h1
  ·rw[h1]at h
   have:n=lim S:=by simpa using congrArg (fun x=>x.map (·.1)) h
   exact absurd (zdc hob) (by rw[this];exact Nat.lt_irrefl _)
  ·rw[h1]at h;simp at h
 ·have hnk:∀x∈A.kl,x.1=n→x.2=0:=fun x hx h=>hn x (by simp[hx]) h
  have hnN:n≠S.na+d:=fun h=>by
   have:=hn (S.na+d,2) (by simp) h.symm
   omega
  obtain ⟨ob',h1,h2,h3,h4,h5,h6⟩:=m.turn n ob hob;refine ⟨ob',by rw[hobj,if_neg hnN];exact h1,h2▸hk,fun c es hc hes=>⟨h3▸hc,h6 hnk c es hes,by simp only[if_neg hnN]⟩⟩
 ·have hnN:n≠S.na+d:=fun h=>by
   have:=hn (S.na+d,2) (by simp) h.symm
   omega
  obtain ⟨ob',h1,h2,h3,h4,h5⟩:=m.turn n ob hob;exact ⟨ob',by rw[hobj,if_neg hnN];exact h1,h2,by simp only[if_neg hnN],fun hr=>⟨h4 hr,if_neg hnN⟩⟩
 ·rw[hobj]at hob
  by_cases hnN:n=S.na+d
  ·rw[if_pos hnN]at hob
   obtain rfl:=Option.some.inj hob;subst hnN;simp only[if_true];exact hN hk
  ·rw[if_neg hnN]at hob
   simp only[if_neg hnN];have ho:=hO n ob hob hk
   have hnl:n≠lim S:=by
    rintro rfl
    have:S.obj (lim S)=some ob∨∃ob',S.obj (lim S)=some ob':=by
     by_cases ht:lim S∈A.tch
     ·rcases m.tin _ ht with h|h
      ·simp at h
      ·exact .inr h
     ·rw[m.keep _ ht]at hob;exact .inl hob
    rcases this with h|⟨_,h⟩<;>(rw[zdR]at h;exact absurd h (by simp))
   have hq:∀π b,b<w.heap.size→QObj G1 n ob.fl π b→w'.heap[b]? =w.heap[b]? :=fun π b hl hq=>by
    refine hw b hl (fun π' h=> ?_)
    rcases hq.own with h1|h1<;>rw[h1]at h
    ·exact hnl (by simpa using congrArg (fun x=>x.map (·.1)) h)
    ·simp at h
   refine {bld:=ho.bld.frame fun b π hb=> ?_,fl:=ho.fl,rel:=ho.rel.frame hq (fun π b hl hb=> ?_),box:=fun hk=> ?_}
   ·have h0:G b=some (n,π):=by
     rcases m.glim b n π hb with h|h
     ·exact h
     ·exact absurd h hnl
    exact ⟨hw b (I.own b _ h0).lt (fun π' h=>by rw[hb]at h;exact hnl (by simpa using congrArg (fun x=>x.map (·.1)) h)),by rw[hb];exact hGk b n π hb hnN hnl⟩
   ·cases π with
    |nil=>exact hb.elim
    |cons c ρ=>
     simp only[QObj]at hb⊢
     revert hb
     cases ob.fl.getD c .sh with
     |deep=>exact fun h=>hGk b n _ h hnN hnl
     |top=>
      simp only[QCell];split
      ·exact fun h=>hGk b n _ h hnN hnl
      ·exact fun h=>hGn b hl h
     |sh=>exact fun h=>hGn b hl h
   ·obtain ⟨b,off,cs,ty,h1,h2,h3,h4,h5⟩:=ho.box hk
    have hb':b<w.heap.size:=(Array.getElem?_eq_some_iff.1 h3).1;refine ⟨b,off,cs,ty,h1,hGk b n [] h2 hnN hnl, ?_,h4,h5⟩;rw[hw b hb' (fun π' h=>by rw[h2]at h;exact hnl (by simpa using congrArg (fun x=>x.map (·.1)) h))]
    exact h3
 ·rcases hGd b x hx with h|⟨h,hne⟩
  ·exact hown b x hx h
  ·have hx':G b=some x:=by
    rcases m.glim b x.1 x.2 h with h1|h1
    ·exact h1
    ·exact absurd h1 hne
   have ho:=I.own b x hx';exact ho.heap (hw b ho.lt (fun π' h'=>by rw[h]at h';exact hne (by simpa using congrArg (fun x=>x.map (·.1)) h')))
 ·rcases hGd b x hx with h|⟨h,hne⟩
  ·rw[h];exact .inl hNlt
  ·obtain ⟨x1,x2⟩:=x
   rcases m.glim b x1 x2 h with h1|h1
   ·exact I.nolim b _ h1
   ·exact absurd h1 hne
 ·have hsm:=I.small
  have hft:FR∉A.tch:=fun h=>by
   rcases m.tin _ h with h|⟨ob,h⟩
   ·simp at h
   ·have:=zdc h;omega
  have h1:=m.gkeep b _ π h hft
  have hb':b<w.heap.size:=by
   exact (I.own b _ h).lt
  exact ⟨hw b hb' (fun π' h'=>by rw[h1]at h';simp only[Option.some.injEq,Prod.mk.injEq,lim]at h';omega),hGk b _ π h1 (by omega) (by unfold lim;omega)⟩
 ·have hkN:k≠S.na+d:=by omega
  rw[hobj,if_neg hkN]at ho
  have hex:∃ob0,S.obj k=some ob0:=by
   by_cases ht:k∈A.tch
   ·rcases m.tin _ ht with h|h
    ·simp at h
    ·exact h
   ·rw[m.keep _ ht]at ho;exact ⟨_,ho⟩
  obtain ⟨ob0,hob0⟩:=hex;obtain ⟨ob1,h1,h2,h3,h4,_⟩:=m.turn k ob0 hob0;rw[h1]at ho;obtain rfl:=Option.some.inj ho;refine ⟨ob0,hob0,h2.symm,h3.symm,by simp only[if_neg hkN],fun hr=>(h4 (h2▸hr)).symm,fun _ _=>by simp only[if_neg hkN],fun b off hb hG=> ?_⟩
  rcases hGd b _ hG with h|⟨h,hne⟩
  ·exact absurd h hkN
  have h0:G b=some (k,[]):=by
   rcases m.glim b k [] h with h|h
   ·exact h
   ·exact absurd h hne
  have hb':b<w.heap.size:=by
   exact (I.own b _ h0).lt
  exact ⟨h0,fun j _=>cell_of_heap (hw b hb' (fun π' h'=>by rw[h]at h';simp only[Option.some.injEq,Prod.mk.injEq]at h';exact hne h'.1)) j⟩
 ·exact hv _ _ (by rw[hobj,if_pos rfl]) (by simp)
end step
end Go.PV
