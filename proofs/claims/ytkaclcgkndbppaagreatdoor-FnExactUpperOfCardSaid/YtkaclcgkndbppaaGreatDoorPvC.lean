/- A part of the proof: PvOp, PvReg, PvReg2, PvReg3, PvCode, PvCode2, PvOut, PvOut2, PvFun, PvLim, PvK, PvA, PvCut, PvE, PvJ, PvRow. -/
import Derived.Test.YtkaclcgkndbppaaGreatDoorPvD
import Derived.Test.YtkaclcgkndbppaaGreatDoorPvB
import Derived.Orders
import Derived.LoopN
import Derived.KernelRfl
import Derived.DataReads
import Derived.Below
import GoSem.ClaimChange
set_option linter.unusedSimpArgs false
set_option linter.unusedVariables false
namespace Go.PV
open Go.RowKit
theorem zkT{R:Type}(P:Program)(na:Nat)(F:Foot)(mv:Bool)(ts:Array TypeId)(a b:A1)(d:Tmp)(k:Rec→Option R):zgh P na F mv ts a b d k=(zgh P na F mv ts a b d some).bind k:=by
 unfold zgh
 repeat' (first|rfl|split)
 all_goals
  first
  |rfl
  |(simp only[cond_eq_ite];split<;>rfl)
theorem zoO{R:Type}(fz:Bool)(cos:List CO)(nd:Nat)(rs:RS)(cells:List TC)(ups:List (Nat×Option Obj))(kl:List (Nat×Nat))(k:Rec→Option R):
 newK fz cos nd rs cells ups kl k=(newK fz cos nd rs cells ups kl some).bind k:=by
 unfold newK;split
 ·rename_i fs
  cases (cells.getD fs.length .d).bool<;>rfl
 ·simp only[retK,pathK]
  split
  ·rfl
  ·rename_i i _
   cases (cells.getD i .d).path.isEmpty<;>rfl
theorem znI{R:Type}(X:Ctx)(f:FuncId)(args:List AV)(na:Nat)(F:Foot)(dst:Option Tmp)(k:Rec→Option R):callK X f args na F dst k=(callK X f args na F dst some).bind k:=by
 rw[zfU,zfU];unfold zkk;split
 case h_2=>rfl
 split
 case isFalse=>rfl
 rename_i as E _ _;cases X.call f as (E.cos.map (·.ob))with
 |none=>rfl
 |some rv=>
  simp only[Option.bind_some];cases (zac (X.sig f).res.cells rv.cells&&za3 E.cos rv.objs)with
  |false=>rfl
  |true=>
   cases dst with
   |none=>rfl
   |some d=>
    simp only[cond_true];exact zoO _ _ _ _ _ _ _ _
theorem strK_g{R:Type}(P:Program)(F:Foot)(e:TypeId)(a:A1)(g:A1→Rec)(k:Rec→Option R):strK P F e a (fun a=>k (g a))=(strK P F e a (fun a=>some (g a))).bind k:=by
 unfold strK;split
 ·split
  ·rename_i es _;cases zhe es<;>rfl
  ·rfl
 ·rfl
theorem zrW{R:Type}(P:Program)(F:Foot)(t:TypeId)(a:A1)(g:AV→Rec)(k:Rec→Option R):loadK P F t a (fun a=>k (g a))=(loadK P F t a (fun a=>some (g a))).bind k:=by
 rw[zgl P F t a (fun a=>k (g a)),zgl P F t a (fun a=>some (g a))];cases loadK P F t a some<;>rfl
theorem binK_g{R:Type}(P:Program)(t:TypeId)(op:BinOp)(x y:A1)(g:A1→Rec)(k:Rec→Option R):binK P t op x y (fun a=>k (g a))=(binK P t op x y (fun a=>some (g a))).bind k:=by
 rw[zfN P t op x y (fun a=>k (g a)),zfN P t op x y (fun a=>some (g a))];cases binK P t op x y some<;>rfl
theorem zkU{R:Type}(P:Program)(F:Foot)(t:TypeId)(x:A1)(i:Int)(g:A1→Rec)(k:Rec→Option R):zcI P F t x i (fun a=>k (g a))=(zcI P F t x i (fun a=>some (g a))).bind k:=by
 rw[zdQ P F t x i (fun a=>k (g a)),zdQ P F t x i (fun a=>some (g a))];cases zcI P F t x i some<;>rfl
theorem zqG{R:Type}(P:Program)(F:Foot)(t:TypeId)(b:A1)(l h:Option Int)(g:A1→List (Nat×Option Obj)→Rec)(k:Rec→Option R):
 zfG P F t b l h (fun a u=>k (g a u))=(zfG P F t b l h (fun a u=>some (g a u))).bind k:=by
 rw[zfs P F t b l h (fun a u=>k (g a u)),zfs P F t b l h (fun a u=>some (g a u))];cases zfG P F t b l h (fun a u=>some (a,u))<;>rfl
theorem zoP{R:Type}(X:Ctx)(mv:Bool)(o:Oper)(na:Nat)(vs:List AV)(F:Foot)(k:Rec→Option R):effK X mv o na vs F k=(effK X mv o na vs F some).bind k:=by
 unfold effK;simp only[];split
 all_goals
  repeat' (first
   |rfl
   |exact zfN _ _ _ _ _ _
   |exact zlX _ _ _ _ _ _ _
   |exact zkT _ _ _ _ _ _ _ _ _
   |exact znI _ _ _ _ _ _ _
   |exact zrW _ _ _ _ _ _
   |exact strK_g _ _ _ _ _ _
   |exact binK_g _ _ _ _ _ _ _
   |exact zkU _ _ _ _ _ _ _
   |exact zqG _ _ _ _ _ _ _ _
   |split)
 all_goals (simp only[cond_eq_ite];split<;>rfl)
theorem zcX{R:Type}(X:Ctx)(mv:Bool)(o:Oper)(S:St)(k:Rec→Option R):S.opK X mv o k=(S.opK X mv o some).bind k:=zoP X mv o _ _ _ k
section ops
variable {X:Ctx}{W0:World}{G0:Orig}{S:St}{w:World}{a:Act}{G:Ghost}{pl:zaP}{mv:Bool}{e:Rec}
theorem ok_op(hX:zfl X G0.gl)(I:Inv W0 G0 S w a.tmps G pl){o:Oper}(hd:∀d,o.dst=some d→d<S.t.length)(hs:zg2 o=true)(h:S.opK X mv o some=some e):OpOk X.P W0 G0 S w a o e:=by
 obtain ⟨dst,op,ty,pos,af,gd⟩:=o;cases op with
 |move x=>exact zrH I x h
 |assign x=>exact zom I x h
 |pick c x y=>exact zrI I c x y h
 |nilCheck x=>exact zlN I x h
 |extract x i=>exact znw I x i h
 |binOp op t x y t'=>exact zql I op t t' x y h
 |unOp op t x=>exact zrJ I op t x h
 |convert s t x=>exact znB I s t x h
 |makeFunc f first capt=>exact zlQ I f first capt h
 |fieldAddr t x f=>exact zkq I t x f h
 |load t x=>exact zrL I t x h
 |field t x f=>exact zqm I t x f h
 |index t x y=>exact zqn I t x y h
 |indexAddr t x y=>exact zku I t x y h
 |alloc t=>exact zqo I hd t h
 |box t x=>exact ok_box I hd t x h
 |build t parts=>exact zqs I t parts h
 |buildSlice t len parts=>exact zjt I hd t len parts h
 |makeSlice t x y=>exact zky I hd t x y h
 |store t y x=>
  cases dst with
  |none=>exact zqv I t y x h rfl
  |some d=>simp[zg2]at hs
 |slice t x lo hi mx=>
  cases mx with
  |none=>exact zqw I t x lo hi h
  |some m=>
   simp only[St.opK]at h;generalize S.vals _=vs at h;unfold effK at h;split at h<;>simp_all
 |call c=>
  obtain ⟨callee,args,ts⟩:=c;cases callee with
  |value fx=>exact zrV hX I hd fx args ts h
  |invoke r m=>
   simp only[St.opK]at h;generalize S.vals _=vs at h;simp only[effK]at h;simp at h
  |builtin b=>
   cases b with
   |len=>exact ok_len I args ts h
   |append=>exact zoy I hd args ts h
   |min=>exact ok_min I args ts h
   |max=>exact ok_max I args ts h
   |_=>
    simp only[St.opK]at h;generalize S.vals _=vs at h;simp only[effK]at h;simp at h
 |_=>
  simp only[St.opK]at h;generalize S.vals _=vs at h;unfold effK at h;split at h<;>simp_all
end ops
end Go.PV
namespace Go.PV
def effR(X:Ctx)(fn rid:Nat)(ops:Array Oper)(i:Nat)(o:Oper)(S:St):Option (Rec×Fp):=
 match o.guard with
 |none=>(S.opK X (X.mv fn rid i) o some).map fun e=>(e,e.fp o (zdI o) ((S.reads o).map S.ev))
 |some (j,want)=>
  match (ops[j]?).bind (·.dst)with
  |none=>none
  |some g=>
   match S.t.getD g (.one .dead)with
   | .one (.v (.bool b))=>
    if b=want then (S.opK X (X.mv fn rid i) o some).map fun e=>(e,e.fp o (g::zdI o) ((S.reads o).map S.ev))
    else some (noRec,noRec.fp o [g] [])
   | .one (.v _)=>some (noRec,noRec.fp o [g] [])
   |_=>none
def stepR(X:Ctx)(fn rid:Nat)(ops:Array Oper)(i:Nat)(S:St):Option (Fp×St):=
 match ops[i]? with
 |none=>none
 |some o=>(effR X fn rid ops i o S).map fun e=>(e.2,S.put o.dst e.1)
inductive Runs (X:Ctx) (fn rid:Nat) (ops:Array Oper):List (Nat×Fp)→St→St→Prop
 |nil (S:St):Runs X fn rid ops [] S S
 |cons {i:Nat} {f:Fp} {l:List (Nat×Fp)} {S S1 S2:St} (h:stepR X fn rid ops i S=some (f,S1)) (t:Runs X fn rid ops l S1 S2):Runs X fn rid ops ((i,f)::l) S S2
theorem zjE{α:Type}{l:List α}{g:Nat}{d x:α}(h:l.getD g d=x)(hx:x≠d):l.set g x=l:=by
 apply List.ext_getElem?;intro n;rw[List.getElem?_set];by_cases hgn:g=n
 ·subst hgn
  rw[List.getD_eq_getElem?_getD]at h;cases hl:l[g]? with
  |none=>rw[hl]at h;exact absurd h.symm hx
  |some y=>
   rw[hl]at h;have hlt:=(List.getElem?_eq_some_iff.1 hl).1;simp only[Option.getD_some]at h;simp[hlt,h]
 ·simp[hgn]
theorem zdE{S:St}{g:Tmp}{b:Bool}(h:S.t.getD g (.one .dead)= .one (.v (.bool b))):setB S g b=S:=by
 unfold setB;rw[zjE h (by simp)]
theorem zjF{R:Type}{X:Ctx}{fn rid:Nat}{ops:Array Oper}{i:Nat}{l:List Nat}{S:St}{k:St→Option R}{r:R}(h:opsK X fn rid ops (i::l) S k=some r):
 ∃f S',stepR X fn rid ops i S=some (f,S')∧opsK X fn rid ops l S' k=some r:=by
 simp only[opsK]at h;unfold stepR;split at h
 ·simp at h
 rename_i o ho;rw[ho];simp only[effR];split at h
 ·rename_i hg
  rw[zcX,Option.bind_eq_some_iff]at h;obtain ⟨e,h1,h2⟩:=h;exact ⟨e.fp o (zdI o) ((S.reads o).map S.ev),_,by rw[hg];simp only[h1,Option.map_some],h2⟩
 ·rename_i j want hg
  rw[hg];simp only;split at h
  ·simp at h
  rename_i g hd;rw[hd];simp only;split at h
  ·rename_i b hb
   rw[hb];cases b with
   |true=>
    rw[zdE hb]at h;cases want with
    |true=>
     simp only[cond_true,if_true]at h;rw[zcX,Option.bind_eq_some_iff]at h;obtain ⟨e,h1,h2⟩:=h;exact ⟨e.fp o (g::zdI o) ((S.reads o).map S.ev),_,by simp only[if_true,h1,Option.map_some],h2⟩
    |false=>
     simp only[cond_true,Bool.false_eq_true,if_false]at h;exact ⟨noRec.fp o [g] [],_,by simp only[Bool.true_eq_false,if_false,Option.map_some],h⟩
   |false=>
    rw[zdE hb]at h;cases want with
    |true=>
     simp only[cond_false,if_true]at h;exact ⟨noRec.fp o [g] [],_,by simp only[Bool.false_eq_true,if_false,Option.map_some],h⟩
    |false=>
     simp only[cond_false,Bool.false_eq_true,if_false]at h;rw[zcX,Option.bind_eq_some_iff]at h;obtain ⟨e,h1,h2⟩:=h;exact ⟨e.fp o (g::zdI o) ((S.reads o).map S.ev),_,by simp only[if_true,h1,Option.map_some],h2⟩
  ·rename_i x hx hb
   refine ⟨noRec.fp o [g] [],_, ?_,h⟩;rw[hb];cases x<;>first|rfl|exact (hx _ rfl).elim
  ·simp at h
theorem zjG{R:Type}{X:Ctx}{fn rid:Nat}{ops:Array Oper}{i:Nat}{l:List Nat}{fps:List (Nat×Fp)}{S:St}{k:St→List (Nat×Fp)→Option R}{r:R}(h:opsD X fn rid ops (i::l) fps S k=some r):
 ∃f S',stepR X fn rid ops i S=some (f,S')∧opsD X fn rid ops l (fps++[(i,f)]) S' k=some r:=by
 simp only[opsD]at h;unfold stepR;split at h
 ·simp at h
 rename_i o ho;rw[ho];simp only[effR];split at h
 ·rename_i hg
  rw[zcX,Option.bind_eq_some_iff]at h;obtain ⟨e,h1,h2⟩:=h;exact ⟨_,_,by rw[hg];simp only[h1,Option.map_some],h2⟩
 ·rename_i j want hg
  rw[hg];simp only;split at h
  ·simp at h
  rename_i g hd;rw[hd];simp only;split at h
  ·rename_i b hb
   rw[hb];cases b with
   |true=>
    rw[zdE hb]at h;cases want with
    |true=>
     simp only[cond_true,if_true]at h;rw[zcX,Option.bind_eq_some_iff]at h;obtain ⟨e,h1,h2⟩:=h;exact ⟨_,_,by simp only[if_true,h1,Option.map_some],h2⟩
    |false=>
     simp only[cond_true,Bool.false_eq_true,if_false]at h;exact ⟨_,_,by simp only[Bool.true_eq_false,if_false,Option.map_some],h⟩
   |false=>
    rw[zdE hb]at h;cases want with
    |true=>
     simp only[cond_false,if_true]at h;exact ⟨_,_,by simp only[Bool.false_eq_true,if_false,Option.map_some],h⟩
    |false=>
     simp only[cond_false,Bool.false_eq_true,if_false]at h;rw[zcX,Option.bind_eq_some_iff]at h;obtain ⟨e,h1,h2⟩:=h;exact ⟨_,_,by simp only[if_true,h1,Option.map_some],h2⟩
  ·rename_i x hx hb
   refine ⟨noRec.fp o [g] [],_, ?_,h⟩;rw[hb];cases x<;>first|rfl|exact (hx _ rfl).elim
  ·simp at h
theorem zoQ{R:Type}{X:Ctx}{fn rid:Nat}{ops:Array Oper}:∀(l:List Nat) {S:St} {k:St→Option R} {r:R},opsK X fn rid ops l S k=some r→
 ∃fs S',Runs X fn rid ops fs S S'∧fs.map (·.1)=l∧k S'=some r:=by
 intro l
 induction l with
 |nil=>intro S k r h;exact ⟨[],S, .nil S,rfl,h⟩
 |cons i l ih=>
  intro S k r h;obtain ⟨f,S1,h1,h2⟩:=zjF h;obtain ⟨fs,S',h3,h4,h5⟩:=ih h2;exact ⟨(i,f)::fs,S', .cons h1 h3,by simp[h4],h5⟩
theorem zoR{R:Type}{X:Ctx}{fn rid:Nat}{ops:Array Oper}:∀(l:List Nat) {fps:List (Nat×Fp)} {S:St} {k:St→List (Nat×Fp)→Option R} {r:R},opsD X fn rid ops l fps S k=some r→
 ∃fs S',Runs X fn rid ops fs S S'∧fs.map (·.1)=l∧k S' (fps++fs)=some r:=by
 intro l
 induction l with
 |nil=>intro fps S k r h;exact ⟨[],S, .nil S,rfl,by rw[List.append_nil];exact h⟩
 |cons i l ih=>
  intro fps S k r h;obtain ⟨f,S1,h1,h2⟩:=zjG h;obtain ⟨fs,S',h3,h4,h5⟩:=ih h2;exact ⟨(i,f)::fs,S', .cons h1 h3,by simp[h4],by simpa using h5⟩
theorem zgu(o:Op)(kl:List (Nat×Nat))(a:AV):seenV o (a.kill kl)=(seenV o a).kill kl:=by
 cases o with
 |extract x i=>
  cases a with
  |t vs=>
   simp only[AV.kill,seenV,List.getElem?_map];cases vs[i]? <;>rfl
  |_=>rfl
 |_=>rfl
theorem zkV{X:Ctx}{mv:Bool}{dst:Option Tmp}{x:Operand}{i:Nat}{ty:TypeId}{pos:_}{af:_}{gd:_}{na:Nat}{a a':AV}{F F':Foot}(h:seenV (.extract x i) a'=seenV (.extract x i) a):
 effK X mv ⟨dst, .extract x i,ty,pos,af,gd⟩ na [a'] F' some=effK X mv ⟨dst, .extract x i,ty,pos,af,gd⟩ na [a] F some:=by
 cases a' with
 |t vs'=>
  cases a with
  |t vs=>
   have:vs'[i]? =vs[i]? :=by
    simp only[seenV,AV.t.injEq]at h
    revert h
    cases vs'[i]? <;>cases vs[i]? <;>simp
   simp only[effK,this]
  |one a=>simp[seenV]at h
  |g cs=>simp[seenV]at h
  |f fn caps=>simp[seenV]at h
 |one a'=>
  cases a with
  |t vs=>simp[seenV]at h
  |_=>rfl
 |g cs=>
  cases a with
  |t vs=>simp[seenV]at h
  |_=>rfl
 |f fn caps=>
  cases a with
  |t vs=>simp[seenV]at h
  |_=>rfl
theorem zoS{X:Ctx}{mv:Bool}{o:Oper}{S S':St}(hna:S'.na=S.na)(hv:∀x∈S.reads o,seenV o.op (S'.ev x)=seenV o.op (S.ev x))
 (ho:∀n∈(((S.reads o).map S.ev).map (seenV o.op)).flatMap AV.names,S'.obj n=S.obj n):S'.opK X mv o some=S.opK X mv o some∧S'.reads o=S.reads o:=by
 refine ⟨?_,rfl⟩;obtain ⟨dst,op,ty,pos,af,gd⟩:=o;cases op with
 |extract x i=>
  simp only[St.opK,hna];exact zkV (hv x (by simp[St.reads,Op.operands]))
 |_=>
  replace hv:∀x∈S.reads _,S'.ev x=S.ev x:=hv
  replace ho:∀n∈(((S.reads _).map S.ev).map (fun a=>a)).flatMap AV.names,S'.obj n=S.obj n:=ho
  rw[List.map_id']at ho;have hvals:S'.vals _=S.vals _:=List.map_congr_left hv;have hfoot:S'.foot (S.vals _)=S.foot (S.vals _):=List.map_congr_left fun n hn=>by rw[ho n hn]
  simp only[St.opK,hvals,hfoot,hna]
theorem ziv{X:Ctx}{mv:Bool}{o:Oper}{S S':St}(hna:S'.na=S.na)(hv:∀x∈S.reads o,S'.ev x=S.ev x)
 (hc:∀F F':Foot,effK X mv o S.na (S.vals o) F some=effK X mv o S.na (S.vals o) F' some):S'.opK X mv o some=S.opK X mv o some:=by
 have hvals:S'.vals o=S.vals o:=List.map_congr_left hv;simp only[St.opK,hvals,hna];exact hc _ _
theorem zdB{α:Type}{f:α→α}{l:List α}(h:∀x∈l,f x=x):l.map f=l:=by
 induction l with
 |nil=>rfl
 |cons a l ih=>rw[List.map_cons,h a (by simp),ih (fun x hx=>h x (List.mem_cons_of_mem _ hx))]
theorem A1.kill_id{kl:List (Nat×Nat)}{a:A1}(h:∀n∈a.names,∀x∈kl,x.1≠n):a.kill kl=a:=by
 cases a with
 |r n p c=>
  simp only[A1.kill];rw[if_neg];intro hk;obtain ⟨x,hx,hx2⟩:=List.any_eq_true.1 hk;simp only[Bool.and_eq_true,beq_iff_eq]at hx2;exact h n (by simp[A1.names]) x hx hx2.1
 |p b n p c=>
  simp only[A1.kill];rw[if_neg];intro hk;obtain ⟨x,hx,hx2⟩:=List.any_eq_true.1 hk;simp only[Bool.and_eq_true,beq_iff_eq]at hx2;exact h n (by simp[A1.names]) x hx hx2.1
 |bx cs c=>
  simp only[A1.kill];rw[zdB fun a ha=> ?_]
  have h':∀n∈a.names,∀x∈kl,x.1≠n:=fun n hn=>h n (List.mem_flatMap.2 ⟨a,ha,hn⟩)
  cases a with
  |r n p c=>
   simp only[A0.kill];rw[if_neg];intro hk;obtain ⟨x,hx,hx2⟩:=List.any_eq_true.1 hk;simp only[Bool.and_eq_true,beq_iff_eq]at hx2;exact h' n (by simp[A0.names]) x hx hx2.1
  |p b n p c=>
   simp only[A0.kill];rw[if_neg];intro hk;obtain ⟨x,hx,hx2⟩:=List.any_eq_true.1 hk;simp only[Bool.and_eq_true,beq_iff_eq]at hx2;exact h' n (by simp[A0.names]) x hx hx2.1
  |_=>rfl
 |_=>rfl
theorem A1.names_split{a:A1}{n:Nat}:n∈a.names↔n∈a.names1∨n∈a.ptrs:=by
 cases a with
 |p b m p c=>cases p<;>simp[A1.names,A1.names1,A1.ptrs]
 |_=>simp[A1.names,A1.names1,A1.ptrs]
theorem AV.names_split{a:AV}{n:Nat}:n∈a.names↔n∈a.names1∨n∈a.ptrs:=by
 have hl:∀cs:List A1,n∈cs.flatMap A1.names↔n∈cs.flatMap A1.names1∨n∈cs.flatMap A1.ptrs:=fun cs=>by
  simp only[List.mem_flatMap];constructor
  ·rintro ⟨c,h1,h2⟩
   rcases A1.names_split.1 h2 with h|h
   ·exact .inl ⟨c,h1,h⟩
   ·exact .inr ⟨c,h1,h⟩
  ·rintro (⟨c,h1,h2⟩|⟨c,h1,h2⟩)
   ·exact ⟨c,h1,A1.names_split.2 (.inl h2)⟩
   ·exact ⟨c,h1,A1.names_split.2 (.inr h2)⟩
 cases a with
 |one a=>exact A1.names_split
 |g cs=>exact hl cs
 |f fn caps=>exact hl caps
 |t vs=>
  simp only[AV.names,AV.names1,AV.ptrs,List.mem_flatMap (l:=vs)];constructor
  ·rintro ⟨c,h1,h2⟩
   rcases (hl c.2).1 h2 with h|h
   ·exact .inl ⟨c,h1,h⟩
   ·exact .inr ⟨c,h1,h⟩
  ·rintro (⟨c,h1,h2⟩|⟨c,h1,h2⟩)
   ·exact ⟨c,h1,(hl c.2).2 (.inl h2)⟩
   ·exact ⟨c,h1,(hl c.2).2 (.inr h2)⟩
theorem A1.kill_id2{kl:List (Nat×Nat)}{a:A1}(h:∀n∈a.names1,∀x∈kl,x.1≠n)(h2:∀n∈a.ptrs,∀x∈kl,x.1=n→¬1<x.2):a.kill kl=a:=by
 cases a with
 |p b n p c=>
  simp only[A1.kill];rw[if_neg];intro hk;obtain ⟨x,hx,hx2⟩:=List.any_eq_true.1 hk;simp only[Bool.and_eq_true,beq_iff_eq,Bool.or_eq_true,decide_eq_true_eq]at hx2;cases p with
  |nil=>
   rcases hx2.2.1 with h3|h3
   ·exact h2 n (by simp[A1.ptrs]) x hx hx2.1 h3
   ·simp at h3
  |cons y p=>exact h n (by simp[A1.names1]) x hx hx2.1
 |r n p c=>exact A1.kill_id h
 |bx cs c=>exact A1.kill_id h
 |_=>rfl
theorem AV.kill_id2{kl:List (Nat×Nat)}{a:AV}(h:∀n∈a.names1,∀x∈kl,x.1≠n)(h2:∀n∈a.ptrs,∀x∈kl,x.1=n→¬1<x.2):a.kill kl=a:=by
 cases a with
 |one a=>simp only[AV.kill];rw[A1.kill_id2 h h2]
 |g cs=>simp only[AV.kill];rw[zdB fun c hc=>A1.kill_id2 (fun n hn=>h n (List.mem_flatMap.2 ⟨c,hc,hn⟩)) (fun n hn=>h2 n (List.mem_flatMap.2 ⟨c,hc,hn⟩))]
 |t vs=>
  simp only[AV.kill];rw[zdB fun x hx=> ?_]
  rw[zdB fun c hc=>A1.kill_id2 (fun n hn=>h n (List.mem_flatMap.2 ⟨x,hx,List.mem_flatMap.2 ⟨c,hc,hn⟩⟩)) (fun n hn=>h2 n (List.mem_flatMap.2 ⟨x,hx,List.mem_flatMap.2 ⟨c,hc,hn⟩⟩))]
 |f fn caps=>simp only[AV.kill];rw[zdB fun c hc=>A1.kill_id2 (fun n hn=>h n (List.mem_flatMap.2 ⟨c,hc,hn⟩)) (fun n hn=>h2 n (List.mem_flatMap.2 ⟨c,hc,hn⟩))]
theorem zoT{X:Ctx}{mv:Bool}{o:Oper}{na:Nat}{vs:List AV}{F F':Foot}(h:zfH o.op=true):effK X mv o na vs F some=effK X mv o na vs F' some:=by
 obtain ⟨dst,op,ty,pos,af,gd⟩:=o;cases op with
 |move x=>rcases vs with _|⟨a,_|⟨b,r⟩⟩<;>rfl
 |assign x=>rcases vs with _|⟨a,_|⟨b,r⟩⟩<;>rfl
 |nilCheck x=>rcases vs with _|⟨a,_|⟨b,r⟩⟩<;>rfl
 |fieldAddr t x f=>rcases vs with _|⟨a,_|⟨b,r⟩⟩<;>rfl
 |_=>simp[zfH]at h
theorem A1.kill_live{kl:List (Nat×Nat)}{a:A1}(h:(a.kill kl).isDead=false):a.kill kl=a:=by
 cases a with
 |r n p c=>
  simp only[A1.kill]at h⊢;split
  ·rename_i hk;rw[if_pos hk]at h;simp[A1.isDead]at h
  ·rfl
 |p b n p c=>
  simp only[A1.kill]at h⊢;split
  ·rename_i hk;rw[if_pos hk]at h;simp[A1.isDead]at h
  ·rfl
 |bx cs c=>
  simp only[A1.kill]at h⊢;rw[zdB fun a ha=> ?_]
  have h':(a.kill kl).isDead=false:=by
   have:=List.any_eq_false.1 h (a.kill kl) (List.mem_map.2 ⟨a,ha,rfl⟩);simpa using this
  cases a with
  |r n p c=>
   simp only[A0.kill]at h'⊢;split
   ·rename_i hk;rw[if_pos hk]at h';simp[A0.isDead]at h'
   ·rfl
  |p b n p c=>
   simp only[A0.kill]at h'⊢;split
   ·rename_i hk;rw[if_pos hk]at h';simp[A0.isDead]at h'
   ·rfl
  |_=>rfl
 |_=>rfl
theorem A1.list_live{kl:List (Nat×Nat)}{cs:List A1}(h:(cs.map (A1.kill kl)).any A1.isDead=false):cs.map (A1.kill kl)=cs:=
 zdB fun c hc=>A1.kill_live (by
  have:=List.any_eq_false.1 h (c.kill kl) (List.mem_map.2 ⟨c,hc,rfl⟩);simpa using this)
theorem AV.kill_live{kl:List (Nat×Nat)}{a:AV}(h:(a.kill kl).hasDead=false):a.kill kl=a:=by
 cases a with
 |one a=>simp only[AV.kill,AV.hasDead]at h⊢;rw[A1.kill_live h]
 |g cs=>simp only[AV.kill,AV.hasDead]at h⊢;rw[A1.list_live h]
 |t vs=>
  simp only[AV.kill,AV.hasDead]at h⊢;rw[zdB fun x hx=> ?_]
  have:=List.any_eq_false.1 h (x.1,x.2.map (A1.kill kl)) (List.mem_map.2 ⟨x,hx,rfl⟩);rw[A1.list_live (by simpa using this)]
 |f fn caps=>simp only[AV.kill,AV.hasDead]at h⊢;rw[A1.list_live h]
theorem A1.kill_comm(k l:List (Nat×Nat))(a:A1):(a.kill k).kill l=(a.kill l).kill k:=by
 cases a with
 |r n p c=>
  by_cases h1:(k.any fun x=>x.1==n&&(decide (0<x.2)|| !p.isEmpty))=true
  ·by_cases h2:(l.any fun x=>x.1==n&&(decide (0<x.2)|| !p.isEmpty))=true
   ·simp only[A1.kill,if_pos h1,if_pos h2]
   ·simp only[A1.kill,if_pos h1,if_neg h2]
  ·by_cases h2:(l.any fun x=>x.1==n&&(decide (0<x.2)|| !p.isEmpty))=true
   ·simp only[A1.kill,if_neg h1,if_pos h2]
   ·simp only[A1.kill,if_neg h1,if_neg h2]
 |p b n p c=>
  by_cases h1:(k.any fun x=>x.1==n&&((decide (1<x.2)|| !p.isEmpty)&&decide (x.2<5)))=true
  ·by_cases h2:(l.any fun x=>x.1==n&&((decide (1<x.2)|| !p.isEmpty)&&decide (x.2<5)))=true
   ·simp only[A1.kill,if_pos h1,if_pos h2]
   ·simp only[A1.kill,if_pos h1,if_neg h2]
  ·by_cases h2:(l.any fun x=>x.1==n&&((decide (1<x.2)|| !p.isEmpty)&&decide (x.2<5)))=true
   ·simp only[A1.kill,if_neg h1,if_pos h2]
   ·simp only[A1.kill,if_neg h1,if_neg h2]
 |bx cs c=>
  simp only[A1.kill,List.map_map];congr 1
  apply List.map_congr_left;intro a _;simp only[Function.comp];cases a with
  |r n p c=>
   by_cases h1:(k.any fun x=>x.1==n&&(decide (0<x.2)|| !p.isEmpty))=true
   ·by_cases h2:(l.any fun x=>x.1==n&&(decide (0<x.2)|| !p.isEmpty))=true
    ·simp only[A0.kill,if_pos h1,if_pos h2]
    ·simp only[A0.kill,if_pos h1,if_neg h2]
   ·by_cases h2:(l.any fun x=>x.1==n&&(decide (0<x.2)|| !p.isEmpty))=true
    ·simp only[A0.kill,if_neg h1,if_pos h2]
    ·simp only[A0.kill,if_neg h1,if_neg h2]
  |p b n p c=>
   by_cases h1:(k.any fun x=>x.1==n&&((decide (1<x.2)|| !p.isEmpty)&&decide (x.2<5)))=true
   ·by_cases h2:(l.any fun x=>x.1==n&&((decide (1<x.2)|| !p.isEmpty)&&decide (x.2<5)))=true
    ·simp only[A0.kill,if_pos h1,if_pos h2]
    ·simp only[A0.kill,if_pos h1,if_neg h2]
   ·by_cases h2:(l.any fun x=>x.1==n&&((decide (1<x.2)|| !p.isEmpty)&&decide (x.2<5)))=true
    ·simp only[A0.kill,if_neg h1,if_pos h2]
    ·simp only[A0.kill,if_neg h1,if_neg h2]
  |_=>rfl
 |_=>rfl
theorem AV.kill_comm(k l:List (Nat×Nat))(a:AV):(a.kill k).kill l=(a.kill l).kill k:=by
 have h:A1.kill l∘A1.kill k=A1.kill k∘A1.kill l:=funext fun a=>A1.kill_comm k l a
 cases a with
 |one a=>simp only[AV.kill,A1.kill_comm k l]
 |g cs=>simp only[AV.kill,List.map_map,h]
 |t vs=>simp only[AV.kill,List.map_map];congr 1;apply List.map_congr_left;intro x _;simp[Function.comp,A1.kill_comm k l]
 |f fn caps=>simp only[AV.kill,List.map_map,h]
end Go.PV
namespace Go.PV
section reg
variable {X:Ctx}{fn rid:Nat}{ops:Array Oper}
inductive EffR (X:Ctx) (fn rid:Nat) (ops:Array Oper) (i:Nat) (o:Oper) (S:St):Rec→Fp→Prop
 |plain {e:Rec} (hg:o.guard=none) (h:S.opK X (X.mv fn rid i) o some=some e):EffR X fn rid ops i o S e (e.fp o (zdI o) ((S.reads o).map S.ev))
 |wanted {e:Rec} {j:Nat} {want:Bool} {g:Tmp} (hg:o.guard=some (j,want)) (hd:(ops[j]?).bind (·.dst)=some g) (hb:S.t.getD g (.one .dead)= .one (.v (.bool want))) (h:S.opK X (X.mv fn rid i) o some=some e):
  EffR X fn rid ops i o S e (e.fp o (g::zdI o) ((S.reads o).map S.ev))
 |not {j:Nat} {want b:Bool} {g:Tmp} (hg:o.guard=some (j,want)) (hd:(ops[j]?).bind (·.dst)=some g) (hb:S.t.getD g (.one .dead)= .one (.v (.bool b))) (hn:b≠want):
  EffR X fn rid ops i o S noRec (noRec.fp o [g] [])
 |odd {j:Nat} {want:Bool} {x:Value} {g:Tmp} (hg:o.guard=some (j,want)) (hd:(ops[j]?).bind (·.dst)=some g) (hb:S.t.getD g (.one .dead)= .one (.v x)) (hn:∀b,x≠ .bool b):
  EffR X fn rid ops i o S noRec (noRec.fp o [g] [])
theorem zgv{i:Nat}{o:Oper}{S:St}{e:Rec}{f:Fp}(h:effR X fn rid ops i o S=some (e,f)):EffR X fn rid ops i o S e f:=by
 unfold effR at h;split at h
 ·rename_i hg
  rw[Option.map_eq_some_iff]at h;obtain ⟨e',h1,h2⟩:=h;simp only[Prod.mk.injEq]at h2;obtain ⟨rfl,rfl⟩:=h2;exact .plain hg h1
 ·rename_i j want hg
  split at h
  ·simp at h
  rename_i g hd;split at h
  ·rename_i b hb
   split at h
   ·rename_i hbw
    subst hbw;rw[Option.map_eq_some_iff]at h;obtain ⟨e',h1,h2⟩:=h;simp only[Prod.mk.injEq]at h2;obtain ⟨rfl,rfl⟩:=h2;exact .wanted hg hd hb h1
   ·rename_i hn
    simp only[Option.some.injEq,Prod.mk.injEq]at h;obtain ⟨rfl,rfl⟩:=h;exact .not hg hd hb hn
  ·rename_i x hx hb
   simp only[Option.some.injEq,Prod.mk.injEq]at h;obtain ⟨rfl,rfl⟩:=h;exact .odd hg hd hb (fun b hxb=>hx b (by rw[hxb]))
  ·simp at h
theorem zl8{i:Nat}{o:Oper}{S:St}{e:Rec}{f:Fp}(h:EffR X fn rid ops i o S e f):effR X fn rid ops i o S=some (e,f):=by
 unfold effR;cases h with
 |plain hg h=>simp only[hg,h,Option.map_some]
 |wanted hg hd hb h=>simp only[hg,hd,hb,if_true,h,Option.map_some]
 |not hg hd hb hn=>simp only[hg,hd,hb,if_neg hn]
 |odd hg hd hb hn=>
  rename_i j want x g;simp only[hg,hd,hb]
theorem Rec.fp_congr{e:Rec}{o:Oper}{rt:List Tmp}{vs vs':List AV}(h:vs'.map (seenV o.op)=vs.map (seenV o.op)):e.fp o rt vs'=e.fp o rt vs:=by simp only[Rec.fp,h]
theorem ziV{o:Op}(h:zfH o=true)(a:AV):seenV o a=a:=by
 cases o with
 |extract x i=>simp[zfH]at h
 |_=>rfl
theorem EffR.congr{i:Nat}{o:Oper}{S S':St}{e:Rec}{f:Fp}(h:EffR X fn rid ops i o S e f)(hna:S'.na=S.na)(hg:∀t∈f.rt,∀b,S.t.getD t (.one .dead)= .one (.v b)→S'.t.getD t (.one .dead)= .one (.v b))
 (hv:(∀t∈zdI o,t∈f.rt)→(∀x∈S.reads o,(∀n∈(seenV o.op (S.ev x)).names1,n∈f.rn)∧∀n∈(seenV o.op (S.ev x)).ptrs,n∈f.rn∨n∈f.rp)→(f.rd=false→∀x∈S.reads o,(seenV o.op (S.ev x)).hasDead=false)→∀x∈S.reads o,seenV o.op (S'.ev x)=seenV o.op (S.ev x)) (ho:∀n∈f.rn,S'.obj n=S.obj n):EffR X fn rid ops i o S' e f:=by
 have hn:∀(e:Rec) (rt:List Tmp),(∀x∈S.reads o,(∀n∈(seenV o.op (S.ev x)).names1,n∈(e.fp o rt ((S.reads o).map S.ev)).rn)∧∀n∈(seenV o.op (S.ev x)).ptrs,n∈(e.fp o rt ((S.reads o).map S.ev)).rn∨n∈(e.fp o rt ((S.reads o).map S.ev)).rp)∧((e.fp o rt ((S.reads o).map S.ev)).rd=false→∀x∈S.reads o,(seenV o.op (S.ev x)).hasDead=false):=fun e rt=>by
  have hm:∀x∈S.reads o,seenV o.op (S.ev x)∈((S.reads o).map S.ev).map (seenV o.op):=fun x hx=>List.mem_map.2 ⟨_,List.mem_map.2 ⟨x,hx,rfl⟩,rfl⟩
  refine ⟨fun x hx=> ?_,fun h x hx=> ?_⟩
  ·simp only[Rec.fp]
   cases zfH o.op with
   |true=>exact ⟨fun n hn=>List.mem_append_left _ (List.mem_flatMap.2 ⟨_,hm x hx,hn⟩),fun n hn=> .inr (List.mem_append_left _ (List.mem_flatMap.2 ⟨_,hm x hx,hn⟩))⟩
   |false=>exact ⟨fun n hn=>List.mem_append_left _ (List.mem_flatMap.2 ⟨_,hm x hx,AV.names_split.2 (.inl hn)⟩),fun n hn=> .inl (List.mem_append_left _ (List.mem_flatMap.2 ⟨_,hm x hx,AV.names_split.2 (.inr hn)⟩))⟩
  have:=List.any_eq_false.1 h _ (hm x hx);simpa using this
 have hk:∀(e:Rec) (rt:List Tmp),(∀n∈(e.fp o rt ((S.reads o).map S.ev)).rn,S'.obj n=S.obj n)→(∀x∈S.reads o,seenV o.op (S'.ev x)=seenV o.op (S.ev x))→S'.opK X (X.mv fn rid i) o some=S.opK X (X.mv fn rid i) o some∧S'.reads o=S.reads o:=fun e rt ho hv=>by
  cases hc:zfH o.op with
  |true=>exact ⟨ziv hna (fun x hx=>by have:=hv x hx;rwa [ziV hc,ziV hc]at this) (fun F F'=>zoT hc),rfl⟩
  |false=>
   refine zoS hna hv (fun n hn=>ho n ?_)
   simp only[Rec.fp,hc];exact List.mem_append_left _ hn
 have hf:(∀x∈S.reads o,seenV o.op (S'.ev x)=seenV o.op (S.ev x))→∀(e:Rec) (rt:List Tmp),e.fp o rt ((S'.reads o).map S'.ev)=e.fp o rt ((S.reads o).map S.ev):=fun hv e rt=>by
  refine Rec.fp_congr ?_;rw[List.map_map,List.map_map];exact List.map_congr_left hv
 cases h with
 |plain hg0 h=>
  obtain ⟨n1,n2⟩:=hn e (zdI o);have hv:=hv (fun t ht=>ht) n1 n2
  obtain ⟨k1,k2⟩:=hk e (zdI o) ho hv;rw[←hf hv];exact .plain hg0 (k1.trans h)
 |wanted hg0 hd hb h=>
  rename_i j want g;obtain ⟨n1,n2⟩:=hn e (g::zdI o);have hv:=hv (fun t ht=>List.mem_cons_of_mem _ ht) n1 n2
  obtain ⟨k1,k2⟩:=hk e (g::zdI o) ho hv;rw[←hf hv];exact .wanted hg0 hd (hg g (by simp[Rec.fp]) _ hb) (k1.trans h)
 |not hg0 hd hb hn=>exact .not hg0 hd (hg _ (by simp[Rec.fp]) _ hb) hn
 |odd hg0 hd hb hn=>exact .odd hg0 hd (hg _ (by simp[Rec.fp]) _ hb) hn
theorem zkW{S:St}{o:Oper}{x:Operand}(h:x∈S.reads o):x∈o.op.operands.toList:=h
theorem ziW{o:Oper}{t:Tmp}(h: .tmp t∈o.op.operands.toList):t∈zdI o:=List.mem_filterMap.2 ⟨.tmp t,h,rfl⟩
theorem put_t{S:St}{dst:Option Tmp}{e:Rec}{t:Tmp}(h:∀d,dst=some d→d≠t):(S.put0 dst e).t.getD t (.one .dead)=(S.t.getD t (.one .dead)).kill e.kl:=by
 have h0:(if e.kl.isEmpty then S.t else S.t.map (AV.kill e.kl)).getD t (.one .dead)=(S.t.getD t (.one .dead)).kill e.kl:=by
  split
  ·rename_i hk
   rw[List.isEmpty_iff.1 hk,zfQ]
  ·exact zkv _ _ _
 cases dst with
 |none=>exact h0
 |some d=>
  show ((if e.kl.isEmpty then S.t else S.t.map (AV.kill e.kl)).set d e.val).getD t (.one .dead)=_
  rw[zjr,if_neg (fun hh=>h d rfl hh.1)]
  exact h0
theorem zoU{S:St}{dst:Option Tmp}{e:Rec}{n:Nat}(h:∀x∈e.ups,x.1≠n):(S.put0 dst e).obj n=S.obj n:=zei _ _ _ h
theorem zdT{a b:List Nat}(h:ziJ a b=true):∀x∈a,x∉b:=fun x hx hb=>by
 have:=List.all_eq_true.1 h x hx;simp[hb]at this
theorem EffR.frame{i:Nat}{o:Oper}{S:St}{e:Rec}{f:Fp}(h:EffR X fn rid ops i o S e f){dst:Option Tmp}{r:Rec}(hd:∀d,dst=some d→d∉f.rt)(hw:∀x∈r.ups.map (·.1)++r.kl.map (·.1),x∉f.rn)
 (hw2:∀x∈r.kl,1<x.2→x.1∉f.rp):EffR X fn rid ops i o (S.put0 dst r) e f:=by
 refine h.congr rfl (fun t ht b hb=> ?_) (fun h1 h2 _ x hx=> ?_) (fun n hn=>zoU fun x hx hxn=> ?_)
 ·rw[put_t (fun d hdd hdt=>hd d hdd (hdt▸ht)),hb];rfl
 ·cases x with
  |tmp t=>
   have ht:=h1 t (ziW (zkW hx));show seenV o.op ((S.put0 dst r).t.getD t (.one .dead))=seenV o.op (S.t.getD t (.one .dead));rw[put_t (fun d hdd hdt=>hd d hdd (hdt▸ht)),zgu]
   refine AV.kill_id2 (fun n hn y hy hyn=>hw n (List.mem_append_right _ (List.mem_map.2 ⟨y,hy,hyn⟩)) ((h2 _ hx).1 n hn)) (fun n hn y hy hyn hlt=> ?_)
   rcases (h2 _ hx).2 n hn with h3|h3
   ·exact hw n (List.mem_append_right _ (List.mem_map.2 ⟨y,hy,hyn⟩)) h3
   ·exact hw2 y hy hlt (hyn▸h3)
  |const v=>rfl
  |global g=>rfl
  |func g=>rfl
 ·exact hw n (List.mem_append_left _ (List.mem_map.2 ⟨x,hx,hxn⟩)) hn
theorem EffR.unframe{i:Nat}{o:Oper}{S:St}{e:Rec}{f:Fp}{dst:Option Tmp}{r:Rec}(h:EffR X fn rid ops i o (S.put0 dst r) e f)(hd:∀d,dst=some d→d∉f.rt)(hw:∀x∈r.ups.map (·.1)++r.kl.map (·.1),x∉f.rn)
 (hk:r.kl=[]∨f.rd=false):EffR X fn rid ops i o S e f:=by
 refine h.congr rfl (fun t ht b hb=> ?_) (fun h1 h2 h3 x hx=> ?_) (fun n hn=>(zoU fun x hx hxn=> ?_).symm)
 ·rw[put_t (fun d hdd hdt=>hd d hdd (hdt▸ht))]at hb
  revert hb
  generalize S.t.getD t (.one .dead)=y;intro hb;cases y with
  |one a=>
   simp only[AV.kill,AV.one.injEq]at hb;cases a with
   |v x=>exact congrArg AV.one hb
   |r n p c=>simp only[A1.kill]at hb;split at hb<;>simp at hb
   |p b n p c=>simp only[A1.kill]at hb;split at hb<;>simp at hb
   |_=>simp[A1.kill]at hb
  |_=>simp[AV.kill]at hb
 ·cases x with
  |tmp t=>
   have ht:=h1 t (ziW (zkW hx));have hp:=put_t (S:=S) (e:=r) (fun d hdd hdt=>hd d hdd (hdt▸ht))
   show seenV o.op (S.t.getD t (.one .dead))=seenV o.op ((S.put0 dst r).t.getD t (.one .dead));rcases hk with hk|hk
   ·rw[hp,hk,zfQ]
   ·have hdead:(seenV o.op ((S.put0 dst r).t.getD t (.one .dead))).hasDead=false:=h3 hk _ hx
    rw[hp,zgu]at hdead;rw[hp,zgu,AV.kill_live hdead]
  |const v=>rfl
  |global g=>rfl
  |func g=>rfl
 ·exact hw n (List.mem_append_left _ (List.mem_map.2 ⟨x,hx,hxn⟩)) hn
theorem znJ{a b:List (Nat×Option Obj)}(h:∀x∈a,∀y∈b,x.1≠y.1)(o:List (Option Obj)):after a (after b o)=after b (after a o):=by
 have one:∀(b:List (Nat×Option Obj)) (x:Nat×Option Obj) (o:List (Option Obj)),(∀y∈b,x.1≠y.1)→(after b o).set x.1 x.2=after b (o.set x.1 x.2):=by
  intro b x
  induction b with
  |nil=>intro o _;rfl
  |cons y b ih=>
   intro o h;show (after b (o.set y.1 y.2)).set x.1 x.2=after b ((o.set x.1 x.2).set y.1 y.2);rw[ih _ (fun z hz=>h z (List.mem_cons_of_mem _ hz)),List.set_comm _ _ (h y (by simp))]
 induction a generalizing o with
 |nil=>rfl
 |cons x a ih=>
  show after a ((after b o).set x.1 x.2)=after b (after a (o.set x.1 x.2));rw[one b x o (fun y hy=>h x (by simp) y hy),ih (fun z hz=>h z (List.mem_cons_of_mem _ hz))]
def kills(kl:List (Nat×Nat))(t:List AV):List AV:=if kl.isEmpty then t else t.map (AV.kill kl)
theorem zm4(kl:List (Nat×Nat))(t:List AV):kills kl t=t.map (AV.kill kl):=by
 unfold kills;split
 ·rename_i h
  rw[List.isEmpty_iff.1 h,show AV.kill []=id from funext zfQ,List.map_id]
 ·rfl
theorem zqH{S:St}{c d:Option Tmp}{e r:Rec}(hcd:∀x,c=some x→d≠some x)(hu:∀x∈e.ups,∀y∈r.ups,x.1≠y.1)(he:e.val.kill r.kl=e.val)(hr:r.val.kill e.kl=r.val):
 (S.put0 c e).put0 d r=(S.put0 d r).put0 c e:=by
 have ho:after r.ups (after e.ups S.o)=after e.ups (after r.ups S.o):=(znJ hu S.o).symm
 have hk:∀t:List AV,kills r.kl (kills e.kl t)=kills e.kl (kills r.kl t):=fun t=>by
  simp only[zm4,List.map_map];apply List.map_congr_left;intro x _;exact AV.kill_comm _ _ x
 have hs:∀(k:List (Nat×Nat)) (t:List AV) (x:Tmp) (v:AV),kills k (t.set x v)=(kills k t).set x (v.kill k):=fun k t x v=>by
  simp only[zm4,List.map_set]
 have ht:((S.put0 c e).put0 d r).t=((S.put0 d r).put0 c e).t:=by
  cases c with
  |none=>
   cases d with
   |none=>exact hk S.t
   |some y=>
    show (kills r.kl (kills e.kl S.t)).set y r.val=kills e.kl ((kills r.kl S.t).set y r.val);rw[hs,hr,hk]
  |some x=>
   cases d with
   |none=>
    show kills r.kl ((kills e.kl S.t).set x e.val)=(kills e.kl (kills r.kl S.t)).set x e.val;rw[hs,he,hk]
   |some y=>
    show (kills r.kl ((kills e.kl S.t).set x e.val)).set y r.val=(kills e.kl ((kills r.kl S.t).set y r.val)).set x e.val;have hxy:x≠y:=fun h=>hcd x rfl (by rw[h])
    rw[hs,hs,he,hr,hk,List.set_comm _ _ hxy]
 show (⟨_,((S.put0 c e).put0 d r).t,after r.ups (after e.ups S.o),_⟩:St)=⟨_,((S.put0 d r).put0 c e).t,after e.ups (after r.ups S.o),_⟩;rw[ht,ho];rfl
theorem EffR.fp{i:Nat}{o:Oper}{S:St}{e:Rec}{f:Fp}(h:EffR X fn rid ops i o S e f):f.dst=e.dst o.dst∧f.wn=e.ups.map (·.1)++e.kl.map (·.1)∧((∀n∈e.val.names1,n∈f.rn)∧∀n∈e.val.ptrs,n∈f.rn∨n∈f.rp)∧(f.kn=false→e.kl=[])∧f.w2=(e.kl.filter fun x=>decide (1<x.2)).map (·.1):=by
 have key:∀(e:Rec) (rt:List Tmp) (vs:List AV),(e.fp o rt vs).dst=e.dst o.dst∧(e.fp o rt vs).wn=e.ups.map (·.1)++e.kl.map (·.1)∧((∀n∈e.val.names1,n∈(e.fp o rt vs).rn)∧∀n∈e.val.ptrs,n∈(e.fp o rt vs).rn∨n∈(e.fp o rt vs).rp)∧((e.fp o rt vs).kn=false→e.kl=[])∧
  (e.fp o rt vs).w2=(e.kl.filter fun x=>decide (1<x.2)).map (·.1):=fun e rt vs=>by
  refine ⟨rfl,rfl, ?_,fun h=>by simpa[Rec.fp]using h,rfl⟩
  simp only[Rec.fp];cases zfH o.op with
  |true=>exact ⟨fun n hn=>List.mem_append_right _ hn,fun n hn=> .inr (List.mem_append_right _ hn)⟩
  |false=>exact ⟨fun n hn=>List.mem_append_right _ (AV.names_split.2 (.inl hn)),fun n hn=> .inl (List.mem_append_right _ (AV.names_split.2 (.inr hn)))⟩
 cases h with
 |plain=>exact key _ _ _
 |wanted=>exact key _ _ _
 |not=>exact key _ _ _
 |odd=>exact key _ _ _
theorem znK{i j:Nat}{S S1 S2:St}{fi fj:Fp}(h1:stepR X fn rid ops i S=some (fi,S1))(h2:stepR X fn rid ops j S1=some (fj,S2))(ha:fi.apart fj=true):
 ∃S1',stepR X fn rid ops j S=some (fj,S1')∧stepR X fn rid ops i S1'=some (fi,S2):=by
 unfold stepR at h1 h2;split at h1
 ·simp at h1
 rename_i oi hoi;split at h2
 ·simp at h2
 rename_i oj hoj;rw[Option.map_eq_some_iff]at h1 h2;obtain ⟨⟨ei,fi'⟩,h1,h1'⟩:=h1;obtain ⟨⟨ej,fj'⟩,h2,h2'⟩:=h2;simp only[Prod.mk.injEq]at h1' h2';obtain ⟨rfl,rfl⟩:=h1';obtain ⟨rfl,rfl⟩:=h2';have hi:=zgv h1;have hj:=zgv h2;obtain ⟨i1,i2,i3,i4,i5⟩:=hi.fp;obtain ⟨j1,j2,j3,j4,j5⟩:=hj.fp;simp only[Fp.apart,Bool.and_eq_true,Bool.or_eq_true,Bool.not_eq_true']at ha;obtain ⟨⟨⟨⟨⟨⟨⟨a1,a2⟩,a3⟩,a4⟩,a5⟩,a6⟩,a7⟩,a8,a9⟩:=ha;have b8:∀x∈ei.kl,1<x.2→x.1∉fj'.rp:=fun x hx hlt=>zdT a8 x.1 (by rw[i5];exact List.mem_map.2 ⟨x,List.mem_filter.2 ⟨hx,decide_eq_true hlt⟩,rfl⟩)
 have b9:∀x∈ej.kl,1<x.2→x.1∉fi'.rp:=fun x hx hlt=>zdT a9 x.1 (by rw[j5];exact List.mem_map.2 ⟨x,List.mem_filter.2 ⟨hx,decide_eq_true hlt⟩,rfl⟩)
 have b4:=zdT a4;have b5:=zdT a5;have b6:=zdT a6;rw[i2]at b4 b5;rw[j2]at b5 b6;rw[i1]at a1 a2;rw[j1]at a1 a3;have hdi:∀d,ei.dst oi.dst=some d→d∉fj'.rt:=fun d hd=>by rw[hd]at a2;simpa using a2
 have hdj:∀d,ej.dst oj.dst=some d→d∉fi'.rt:=fun d hd=>by rw[hd]at a3;simpa using a3
 have hj0:=hj.unframe hdi b4 (a7.imp i4 id);have hi0:=hi.frame hdj b6 b9;refine ⟨S.put0 (ej.dst oj.dst) ej, ?_, ?_⟩
 ·unfold stepR
  rw[hoj];simp only[zl8 hj0,Option.map_some];rfl
 ·unfold stepR
  rw[hoi];simp only[zl8 hi0,Option.map_some];show some (fi',(S.put0 (ej.dst oj.dst) ej).put0 (ei.dst oi.dst) ei)=some (fi',(S.put0 (ei.dst oi.dst) ei).put0 (ej.dst oj.dst) ej);rw[zqH]
  ·intro x hx hx2
   rw[hx,hx2]at a1;simp at a1
  ·intro x hx y hy hxy
   refine b5 y.1 (List.mem_append_left _ (List.mem_map.2 ⟨y,hy,rfl⟩)) ?_;rw[←hxy];exact List.mem_append_left _ (List.mem_map.2 ⟨x,hx,rfl⟩)
  ·refine AV.kill_id2 (fun n hn x hx hxn=>b4 n (List.mem_append_right _ (List.mem_map.2 ⟨x,hx,hxn⟩)) (j3.1 n hn)) (fun n hn x hx hxn hlt=> ?_)
   rcases j3.2 n hn with h3|h3
   ·exact b4 n (List.mem_append_right _ (List.mem_map.2 ⟨x,hx,hxn⟩)) h3
   ·exact b8 x hx hlt (hxn▸h3)
  ·refine AV.kill_id2 (fun n hn x hx hxn=>b6 n (List.mem_append_right _ (List.mem_map.2 ⟨x,hx,hxn⟩)) (i3.1 n hn)) (fun n hn x hx hxn hlt=> ?_)
   rcases i3.2 n hn with h3|h3
   ·exact b6 n (List.mem_append_right _ (List.mem_map.2 ⟨x,hx,hxn⟩)) h3
   ·exact b9 x hx hlt (hxn▸h3)
theorem znL{i:Nat}{fi:Fp}{l2:List (Nat×Fp)}:∀(l1:List (Nat×Fp)) {S S':St},Runs X fn rid ops (l1++(i,fi)::l2) S S'→(∀y∈l1,y.2.apart fi=true)→
 ∃S1,stepR X fn rid ops i S=some (fi,S1)∧Runs X fn rid ops (l1++l2) S1 S':=by
 intro l1
 induction l1 with
 |nil=>
  intro S S' h _;cases h with
  |cons h t=>exact ⟨_,h,t⟩
 |cons y l1 ih=>
  intro S S' h ha;obtain ⟨k,fk⟩:=y;cases h with
  |cons h t=>
   obtain ⟨S1,h1,h2⟩:=ih t (fun y hy=>ha y (List.mem_cons_of_mem _ hy))
   obtain ⟨S1',h3,h4⟩:=znK h h1 (ha (k,fk) (by simp))
   exact ⟨S1',h3, .cons h4 h2⟩
end reg
end Go.PV
namespace Go.PV
section reg
variable {X:Ctx}{fn rid:Nat}{ops:Array Oper}{W0:World}{G0:Orig}
def Sound(W0:World)(G0:Orig)(S:St)(a:Act)(w:World):Prop:=a.defers=[]∧∃G pl,Inv W0 G0 S w a.tmps G pl
theorem zgw(a:Act)(d:Option Tmp)(v:Value):(a.put d v).defers=a.defers:=by cases d<;>rfl
theorem zoV{n:Nat}(h:zhh ops n=true){i:Nat}{o:Oper}(hi:ops[i]? =some o):zg2 o=true∧∀d,o.dst=some d→d<n:=by
 have:=List.all_eq_true.1 h o (by
  have:=Array.mem_of_getElem? hi;simpa using this)
 rw[Bool.and_eq_true]at this;refine ⟨this.1,fun d hd=> ?_⟩
 have h2:=this.2;rw[hd]at h2;simpa using h2
theorem zrX(S:St)(dst:Option Tmp)(e:Rec):(S.put dst e).t.length=S.t.length:=by
 unfold St.put St.put0;generalize e.dst dst=d;cases d with
 |none=>simp only;split<;>simp
 |some d=>simp only[List.length_set];split<;>simp
theorem zhG{i:Nat}{f:Fp}{S S1:St}(h:stepR X fn rid ops i S=some (f,S1)):S1.t.length=S.t.length:=by
 unfold stepR at h;split at h
 ·simp at h
 rw[Option.map_eq_some_iff]at h;obtain ⟨⟨e,f'⟩,_,h2⟩:=h;simp only[Prod.mk.injEq]at h2;rw[←h2.2];exact zrX _ _ _
theorem zqI{i:Nat}{f:Fp}{S S1:St}(h:stepR X fn rid ops i S=some (f,S1)):S1.na=S.na:=by
 unfold stepR at h;split at h
 ·simp at h
 rw[Option.map_eq_some_iff]at h;obtain ⟨⟨e,f'⟩,_,h2⟩:=h;simp only[Prod.mk.injEq]at h2;rw[←h2.2];rfl
theorem zm5(hX:zfl X G0.gl){i:Nat}{f:Fp}{S S1:St}{a:Act}{w:World}(hS:Sound W0 G0 S a w)(hd:zhh ops S.t.length=true)(h:stepR X fn rid ops i S=some (f,S1))
 {Q:Exit→Act→World→Prop} {K:Act→World→Prop} (hK:∀a' w',Sound W0 G0 S1 a' w'→K a' w'):wpOp X.P ops Q i K a w:=by
 obtain ⟨hdf,G,pl,I⟩:=hS;unfold stepR at h;split at h
 ·simp at h
 rename_i o ho;rw[Option.map_eq_some_iff]at h;obtain ⟨⟨e,f'⟩,h1,h2⟩:=h;simp only[Prod.mk.injEq]at h2;obtain ⟨rfl,rfl⟩:=h2;obtain ⟨hs,hlt⟩:=zoV hd ho
 have hy:∀(j:Nat) (g:Tmp) (b:Bool),(ops[j]?).bind (·.dst)=some g→S.t.getD g (.one .dead)= .one (.v (.bool b))→yielded ops a.tmps j=some b:=fun j g b hg hb=>by
  have:=I.tmps g;rw[hb]at this;have this:a.tmps.getD g undef= .bool b:=this;unfold yielded;rw[hg];rw[Array.getD_eq_getD_getElem?]at this;cases ht:a.tmps[g]? with
  |none=>rw[ht]at this;exact absurd this (by simp[undef])
  |some y=>rw[ht]at this;simp only[Option.getD_some]at this;rw[Option.bind_some,ht,this]
 unfold wpOp;simp only[ho]
 have hrun:∀(hop:S.opK X (X.mv fn rid i) o some=some e),o.wp X.P a w K Q∨(o.asks X.P a w∧LetsOut Q):=fun hop=>
  .inl (ok_op hX I hlt hs hop K Q fun w' v G' pl' hI=>hK _ _ ⟨(zgw _ _ _).trans hdf,G',pl',hI⟩)
 cases zgv h1 with
 |plain hg hop=>
  have:Region.wanted o (yielded ops a.tmps)=true:=by simp[Region.wanted,hg]
  rw[if_pos this];exact hrun hop
 |wanted hg hdd hb hop=>
  have:Region.wanted o (yielded ops a.tmps)=true:=by simp[Region.wanted,hg,hy _ _ _ hdd hb]
  rw[if_pos this];exact hrun hop
 |not hg hdd hb hn=>
  have:Region.wanted o (yielded ops a.tmps)=false:=by
   simp only[Region.wanted,hg,hy _ _ _ hdd hb];simpa using hn
  rw[if_neg (by rw[this];simp)]
  exact hK _ _ ⟨(zgw _ _ _).trans hdf,G,pl,I.setDst o.dst (v:=undef) (av:= .one (.v undef)) rfl⟩
 |odd hg hdd hb hn=>
  rename_i j want x g
  have hyn:yielded ops a.tmps j=none:=by
   have h1:=I.tmps g;rw[hb]at h1;have h1:a.tmps.getD g undef=x:=h1;unfold yielded;rw[hdd,Option.bind_some];rw[Array.getD_eq_getD_getElem?]at h1;cases ht:a.tmps[g]? with
   |none=>rfl
   |some y=>
    rw[ht]at h1;simp only[Option.getD_some]at h1;subst h1;cases y<;>first|rfl|exact absurd rfl (hn _)
  have:Region.wanted o (yielded ops a.tmps)=false:=by simp[Region.wanted,hg,hyn]
  rw[if_neg (by rw[this];simp)]
  exact hK _ _ ⟨(zgw _ _ _).trans hdf,G,pl,I.setDst o.dst (v:=undef) (av:= .one (.v undef)) rfl⟩
theorem zrY(hX:zfl X G0.gl){Q:Exit→Act→World→Prop}{fs:List (Nat×Fp)}{S S':St}(h:Runs X fn rid ops fs S S'):∀{a:Act} {w:World},Sound W0 G0 S a w→zhh ops S.t.length=true→
 (∀a' w',Sound W0 G0 S' a' w'→Q .normal a' w')→wpOps X.P ops Q (fs.map (·.1)) a w:=by
 induction h with
 |nil S=>intro a w hS _ hQ;exact hQ a w hS
 |cons h t ih=>
  intro a w hS hd hQ;rw[List.map_cons,wpOps_cons];exact zm5 hX hS hd h fun a' w' hS'=>ih hS' (by rw[zhG h];exact hd) hQ
def zro(ops:Array Oper)(L:Nat→Prop):Prop:=∀(j:Nat) o,ops[j]? =some o→L j→∀e∈o.after,Region.binds .any e=true→L e.on
def AncOk(ops:Array Oper)(m i:Nat):Prop:=∀y,m.testBit y=true→∀L,zro ops L→(∀o,ops[i]? =some o→∀e∈o.after,Region.binds .any e=true→L e.on)→L y
theorem zkX{acc:Array Nat}{y:Nat}:∀(es:List Edge) (s:Nat),(es.foldl (fun s e=>if Region.binds .any e then s|||2^e.on|||acc.getD e.on 0 else s) s).testBit y=true→
 s.testBit y=true∨∃e∈es,Region.binds .any e=true∧(y=e.on∨(acc.getD e.on 0).testBit y=true):=by
 intro es
 induction es with
 |nil=>intro s h;exact .inl h
 |cons e es ih=>
  intro s h;rw[List.foldl_cons]at h;rcases ih _ h with h1|⟨e',h1,h2⟩
  ·split at h1
   ·rename_i hbn
    rw[Nat.testBit_or,Nat.testBit_or,Bool.or_eq_true,Bool.or_eq_true,Nat.testBit_two_pow]at h1;rcases h1 with (h1|h1)|h1
    ·exact .inl h1
    ·exact .inr ⟨e,by simp,hbn, .inl (of_decide_eq_true h1).symm⟩
    ·exact .inr ⟨e,by simp,hbn, .inr h1⟩
   ·exact .inl h1
  ·exact .inr ⟨e',List.mem_cons_of_mem _ h1,h2⟩
theorem zoW:∀i,AncOk ops ((Region.before ops).getD i 0) i:=by
 have key:(Region.before ops).size=ops.size∧∀i,i<(Region.before ops).size→AncOk ops ((Region.before ops).getD i 0) i:=by
  unfold Region.before;refine Array.foldl_induction (as:=ops) (motive:=fun k (acc:Array Nat)=>acc.size=k∧∀i,i<acc.size→AncOk ops (acc.getD i 0) i) ⟨rfl,fun i h=>by simp at h⟩ ?_
  intro k acc ⟨h1,h2⟩;refine ⟨by simp[h1],fun i hi=> ?_⟩
  simp only[Array.size_push]at hi;by_cases hik:i<acc.size
  ·rw[Array.getD_eq_getD_getElem?,Array.getElem?_push_lt hik,Option.getD_some]
   have:=h2 i hik;rw[Array.getD_eq_getD_getElem?,Array.getElem?_eq_getElem hik,Option.getD_some]at this;exact this
  ·have hik:i=acc.size:=by omega
   subst hik;intro y hy L hL hA;rw[Array.getD_eq_getD_getElem?,Array.getElem?_push_size,Option.getD_some]at hy;have hk:ops[acc.size]? =some ops[k]:=by rw[h1];simp
   have hA:=hA _ hk;rw[←Array.foldl_toList]at hy;rcases zkX _ _ hy with h3|⟨e,h3,hbn,h4⟩
   ·simp at h3
   ·have he:e∈(ops[k]).after:=by simpa using h3
    have hLe:=hA e he hbn;rcases h4 with rfl|h4
    ·exact hLe
    ·rcases Nat.lt_or_ge e.on acc.size with h5|h5
     ·exact h2 e.on h5 y h4 L hL fun o ho e' he' hb'=>hL _ o ho hLe e' he' hb'
     ·rw[Array.getD_eq_getD_getElem?,Array.getElem?_eq_none h5]at h4
      simp at h4
 intro i;rcases Nat.lt_or_ge i (Region.before ops).size with h|h
 ·exact key.2 i h
 ·intro y hy
  rw[Array.getD_eq_getD_getElem?,Array.getElem?_eq_none h]at hy;simp at hy
def Apart(ops:Array Oper)(a b:Nat×Fp):Prop:=a.1<b.1∧(((Region.before ops).getD b.1 0).testBit a.1=true∨a.2.apart b.2=true)
theorem zqJ(h:zlJ ops=true){i:Nat}{o:Oper}(hi:ops[i]? =some o):∀e∈o.after,Region.binds .any e=true→e.on<i:=by
 intro e he hb;have:=List.all_eq_true.1 h (o,i) (by rw[List.mem_zipIdx_iff_getElem?];simpa using hi)
 have:=List.all_eq_true.1 this e (by simpa using he)
 simpa[hb]using this
theorem zqK(hX:zfl X G0.gl){Q:Exit→Act→World→Prop}(he:zlJ ops=true):∀(fuel:Nat) (listed:Array Bool) (fs:List (Nat×Fp)) (S S':St) (a:Act) (w:World),Runs X fn rid ops fs S S'→Sound W0 G0 S a w→zhh ops S.t.length=true→
 fs.Pairwise (Apart ops)→(∀i,(∃f,(i,f)∈fs)↔listed.getD i true=false)→listed.size=ops.size→zro ops (fun i=>listed.getD i false=true)→fs.length≤fuel→
 (∀a' w',Sound W0 G0 S' a' w'→Q .normal a' w')→wpAny X.P .any ops Q fuel listed a w:=by
 intro fuel
 induction fuel with
 |zero=>
  intro listed fs S S' a w hr hS hd hp hl hsz hc hle hQ;have hnil:fs=[]:=List.length_eq_zero_iff.1 (by omega)
  subst hnil;cases hr;refine ⟨?_,hQ a w hS⟩;unfold Region.ready;rw[List.filter_eq_nil_iff];intro i _ h;simp only[Bool.and_eq_true,Bool.not_eq_true']at h;obtain ⟨f,hf⟩:=(hl i).2 h.1;simp at hf
 |succ fuel ih=>
  intro listed fs S S' a w hr hS hd hp hl hsz hc hle hQ;refine ⟨fun hready=> ?_,fun i hi=> ?_⟩
  ·cases fs with
   |nil=>cases hr;exact hQ a w hS
   |cons x fs=>
    exfalso
    obtain ⟨i,f⟩:=x;have hu:=(hl i).1 ⟨f,by simp⟩
    have hlt:i<ops.size:=by
     rw[←hsz];rcases Nat.lt_or_ge i listed.size with h|h
     ·exact h
     ·rw[Array.getD_eq_getD_getElem?,Array.getElem?_eq_none h]at hu;simp at hu
    have:i∈Region.ready .any ops listed:=by
     rw[mem_ready];refine ⟨hu,ops[i],by simp[hlt],fun e hee hbn=> ?_⟩
     have hlt2:=zqJ he (by simp[hlt]:ops[i]? =some ops[i]) e hee hbn
     cases hx:listed.getD e.on true with
     |false=>
      exfalso
      obtain ⟨f',hf'⟩:=(hl e.on).2 hx;rcases List.mem_cons.1 hf' with h|h
      ·simp only[Prod.mk.injEq]at h;omega
      ·have:=(List.pairwise_cons.1 hp).1 _ h
       have:=this.1;simp only at this;omega
     |true=>
      have h3:e.on<listed.size:=by rw[hsz];omega
      simpa[Array.getD_eq_getD_getElem?,h3]using hx
    rw[hready]at this;simp at this
  ·obtain ⟨hu,o,ho,hall⟩:=mem_ready.1 hi
   obtain ⟨f,hf⟩:=(hl i).2 hu;obtain ⟨l1,l2,rfl⟩:=List.append_of_mem hf;have hpw:=List.pairwise_append.1 hp
   have hap:∀y∈l1,y.2.apart f=true:=fun y hy=>by
    have:=hpw.2.2 y hy (i,f) (by simp)
    rcases this.2 with h|h
    ·exfalso
     have hL:=zoW i y.1 h _ hc (fun o' ho' e hee hbn=>by
      rw[ho]at ho';obtain rfl:=Option.some.inj ho';exact hall e hee hbn)
     have hy2:=(hl y.1).1 ⟨y.2,by simp[hy]⟩
     rcases Nat.lt_or_ge y.1 listed.size with h3|h3
     ·rw[Array.getD_eq_getD_getElem?,Array.getElem?_eq_getElem h3]at hL hy2
      simp only[Option.getD_some]at hL hy2;rw[hL]at hy2;simp at hy2
     ·rw[Array.getD_eq_getD_getElem?,Array.getElem?_eq_none h3]at hL
      simp at hL
    ·exact h
   obtain ⟨S1,h1,h2⟩:=znL l1 hr hap;have hsub:(l1++l2).Sublist (l1++(i,f)::l2):=List.Sublist.append_left (List.sublist_cons_self _ _) _
   have hilt:i<listed.size:=by
    rcases Nat.lt_or_ge i listed.size with h|h
    ·exact h
    ·rw[Array.getD_eq_getD_getElem?,Array.getElem?_eq_none h]at hu;simp at hu
   refine zm5 hX hS hd h1 fun a' w' hS'=>ih _ (l1++l2) S1 S' a' w' h2 hS' (by rw[zhG h1];exact hd) (hp.sublist hsub) (fun j=> ?_) (by simp[hsz]) (fun j o' ho' hj e hee hbn=> ?_) ?_ hQ
   ·by_cases hij:i=j
    ·subst hij
     have h3:(listed.setIfInBounds i true).getD i true=true:=by simp[hilt]
     rw[h3];refine ⟨fun ⟨f',hf'⟩=> ?_,fun h=>absurd h (by simp)⟩
     exfalso
     rcases List.mem_append.1 hf' with h|h
     ·have:=(hpw.2.2 _ h (i,f) (by simp)).1
      simp at this
     ·have:=((List.pairwise_cons.1 hpw.2.1).1 _ h).1
      simp at this
    ·rw[getD_set_ne true hij,←hl j]
     constructor
     ·rintro ⟨f',hf'⟩
      exact ⟨f',hsub.subset hf'⟩
     ·rintro ⟨f',hf'⟩
      refine ⟨f', ?_⟩;simp only[List.mem_append,List.mem_cons,Prod.mk.injEq]at hf'⊢;rcases hf' with h|h|h
      ·exact .inl h
      ·exact absurd h.1.symm hij
      ·exact .inr h
   ·by_cases hij:i=j
    ·subst hij
     rw[ho]at ho';obtain rfl:=Option.some.inj ho';exact getD_set_true (hall e hee hbn)
    ·simp only[getD_set_ne false hij]at hj
     exact getD_set_true (hc j o' ho' hj e hee hbn)
   ·simp only[List.length_append,List.length_cons]at hle⊢
    omega
end reg
end Go.PV
namespace Go.PV
open Go.RowKit
def Like(S S':St):Prop:=S'.na=S.na∧S'.t.length=S.t.length
theorem Like.refl(S:St):Like S S:=⟨rfl,rfl⟩
theorem Like.trans{S S' S'':St}(h:Like S S')(k:Like S' S''):Like S S'':=⟨k.1.trans h.1,k.2.trans h.2⟩
section code
variable {X:Ctx}{fn rid:Nat}{ops:Array Oper}{W0:World}{G0:Orig}
theorem Sound.draw{S:St}{a:Act}{w:World}(h:Sound W0 G0 S a w)(k:Nat):Sound W0 G0 S a {w with drawn:=k}:=by
 obtain ⟨hdf,G,pl,I⟩:=h;refine ⟨hdf,G,pl, ?_⟩
 have:=Inv.step (w':={w with drawn:=k}) (G':=G) (pl':=pl) I none noRec undef (fun b _ h=>⟨rfl,h⟩) (fun x hx=>by simp[noRec]at hx) (fun n _ ob hob=>⟨ob,hob,rfl,rfl,rfl,fun _=>rfl,fun _ _ _=>rfl⟩)
  (fun n _ ob hob hk=>⟨ob,hob,hk,fun c es hc hes=>⟨hc,⟨es,hes⟩,rfl⟩⟩) (fun n _ ob hob=>⟨ob,hob,rfl,rfl,fun _=>⟨rfl,rfl⟩⟩)
  (fun n ob hob hk=> ?_) I.own I.nolim (fun b π h=>⟨rfl,h⟩)
  (fun n ob _ ho=>⟨ob,ho,rfl,rfl,rfl,fun _=>rfl,fun _ _=>rfl,fun b off _ h=>⟨h,fun _ _=>rfl⟩⟩) rfl rfl rfl (Nat.le_refl _) (fun h=>absurd rfl h)
 ·exact this
 ·have ho:=I.objs n ob hob hk
  exact {bld:=ho.bld.frame fun _ _ _=>⟨rfl,rfl⟩,fl:=ho.fl,rel:=ho.rel.frame (fun _ _ _ _=>rfl) (fun _ _ _ h=>h),box:=fun hb=>ho.box hb}
theorem zoX(hX:zfl X G0.gl){draw:Bool}{S:St}{a:Act}{w:World}(hS:Sound W0 G0 S a w){R:Type}{k:St→Option R}{r:R}(h:zda X fn rid ops draw S k=some r)
 {Q:Exit→Act→World→Prop} (hQ:∀S' a' w',Like S S'→k S'=some r→Sound W0 G0 S' a' w'→Q .normal a' w'):(Code.region rid ops draw).wp X.P Q a w:=by
 unfold zda at h;split at h
 ·simp at h
 rename_i hd;have hd:zhh ops S.t.length=true:=by simpa using hd
 have hlen:∀{fs:List (Nat×Fp)} {S1 S':St},Runs X fn rid ops fs S1 S'→Like S1 S':=fun hr=>by
  induction hr with
  |nil=>exact Like.refl _
  |cons h t ih=>exact Like.trans ⟨zqI h,zhG h⟩ ih
 cases draw with
 |false=>
  simp only[Bool.false_eq_true,if_false]at h;obtain ⟨fs,S',h1,h2,h3⟩:=zoQ _ h;refine wp_region ?_;rw[←h2];exact zrY hX h1 hS hd fun a' w' hS'=>hQ S' a' w' (hlen h1) h3 hS'
 |true=>
  simp only[if_true]at h;cases hoe:zdZ X.P ops with
  |false=>rw[hoe]at h;simp at h
  |true=>
   rw[hoe]at h;unfold zdZ at hoe;rw[Bool.and_eq_true]at hoe;obtain ⟨he,hmix⟩:=hoe;simp only[cond_true]at h;obtain ⟨fs,S',h1,h2,h3⟩:=zoR _ h;simp only[List.nil_append]at h3;cases hap:zfI (Region.before ops) fs with
   |false=>rw[hap]at h3;simp at h3
   |true=>
    rw[hap]at h3;simp only[cond_true]at h3
    have hrange:∀i,(∃f,(i,f)∈fs)↔i<ops.size:=fun i=>by
     rw[←List.mem_range,←h2,List.mem_map];constructor
     ·rintro ⟨f,hf⟩;exact ⟨(i,f),hf,rfl⟩
     ·rintro ⟨⟨i',f⟩,hf,rfl⟩;exact ⟨f,hf⟩
    have hpw:fs.Pairwise (Apart ops):=by
     have hlt:(fs.map (·.1)).Pairwise (· <·):=by rw[h2];exact List.pairwise_lt_range
     rw[List.pairwise_map]at hlt;refine List.Pairwise.imp_of_mem ?_ hlt;intro x y hx hy hxy;refine ⟨hxy, ?_⟩;have:=List.all_eq_true.1 (List.all_eq_true.1 hap x hx) y hy;simp only[Bool.or_eq_true,Bool.not_eq_true',decide_eq_false_iff_not]at this;rcases this with (h|h)|h
     ·exact absurd hxy h
     ·exact .inl h
     ·exact .inr h
    refine wp_region_draw fun t=> ?_
    have hsch:Region.schedule (X.P.follows .mixedOrders) ops t=Region.linearise .any ops t:=by
     unfold Region.schedule;have:(X.P.follows .mixedOrders|| !Region.departs ops)=true:=by rw[Bool.or_comm];exact hmix
     rw[if_pos this]
    rw[hsch];refine wpAny_sound ops.size t _ a _ (zqK hX he ops.size _ fs S S' a _ h1 (hS.draw _) hd hpw (fun i=> ?_) (by simp) (fun j o ho hj=> ?_) ?_ (fun a' w' hS'=>hQ S' a' w' (hlen h1) h3 hS'))
    ·rw[hrange]
     rcases Nat.lt_or_ge i ops.size with h|h
     ·simp[h]
     ·rw[Array.getD_eq_getD_getElem?,Array.getElem?_eq_none (by simpa using h)]
      simp[h]
    ·exfalso
     have hlt:=(Array.getElem?_eq_some_iff.1 ho).1;simp[hlt]at hj
    ·have:=congrArg List.length h2
     simp only[List.length_map,List.length_range]at this;omega
end code
end Go.PV
namespace Go.PV
open Go.RowKit
section code
variable {X:Ctx}{fn m:Nat}{W0:World}{G0:Orig}
theorem V1.obsEq0{w:World}{G:Ghost}{obs obs':Obs}{pl:zaP}{u:Value}{a:A1}(h:V1 w G obs pl u a)(hb:∀cs c,a≠ .bx cs c)(ho:∀n∈a.names,obs' n=obs n):V1 w G obs' pl u a:=by
 cases a with
 |bx cs c=>exact absurd rfl (hb cs c)
 |r n p c=>
  obtain ⟨ob,hr⟩:=h;exact ⟨ob,by rw[ho n (by simp[A1.names])];exact hr.at0,hr.kind,hr.path,hr.lt,hr.sl,hr.head⟩
 |p b n p c=>
  cases b with
  |false=>exact h
  |true=>
   obtain ⟨ad,ob,hr,hu⟩:=h;exact ⟨ad,ob,{at0:=by rw[ho n (by simp[A1.names])];exact hr.at0,path:=hr.path,at_:=hr.at_,spot:=hr.spot,ro:=hr.ro,virt:=hr.virt},hu⟩
 |dead=>exact h
 |v x=>exact h
 |s es=>exact h
 |q row c=>exact h
theorem A0.a1_names(a:A0):a.a1.names=a.names:=by cases a<;>rfl
theorem V1.obsEq{w:World}{G:Ghost}{obs obs':Obs}{pl:zaP}{u:Value}{a:A1}(h:V1 w G obs pl u a)(ho:∀n∈a.names,obs' n=obs n):V1 w G obs' pl u a:=by
 cases a with
 |bx cs c=>
  obtain ⟨b,off,hu,hl,hG,hc⟩:=h;refine ⟨b,off,hu,hl,hG,fun i hi=> ?_⟩
  obtain ⟨x,hx,hv⟩:=hc i hi;refine ⟨x,hx,V0.a1.2 (V1.obsEq0 (V0.a1.1 hv) (fun cs c=>A0.a1_bx _ cs c) fun n hn=>ho n ?_)⟩
  rw[A0.a1_names]at hn;exact List.mem_flatMap.2 ⟨_,List.getElem_mem hi,hn⟩
 |_=>exact V1.obsEq0 h (fun cs c h=>by cases h) ho
theorem A0.ren_a1(f:Nat→Nat)(a:A0):(a.ren f).a1=a.a1.ren f:=by cases a<;>rfl
theorem VAV.map{w:World}{G G':Ghost}{obs obs':Obs}{pl pl':zaP}{u:Value}{x:AV}{f:A1→A1}(h:VAV w G obs pl u x)(hf:∀u a,(∀n∈a.names,n∈x.names)→V1 w G obs pl u a→V1 w G' obs' pl' u (f a)):
 VAV w G' obs' pl' u (match x with| .one a=> .one (f a)| .g cs=> .g (cs.map f)| .t vs=> .t (vs.map fun x=>(x.1,x.2.map f))| .f fn caps=> .f fn (caps.map f)):=by
 cases x with
 |one a=>exact hf _ _ (fun n h=>h) h
 |g cs=>
  obtain ⟨arr,rfl,h2,h3⟩:=h;refine ⟨arr,rfl,by simp[h2],fun i hi=> ?_⟩
  simp only[List.length_map]at hi;simp only[List.getElem_map];exact hf _ _ (fun n hn=>List.mem_flatMap.2 ⟨_,List.getElem_mem hi,hn⟩) (h3 i hi)
 |t vs=>
  obtain ⟨arr,rfl,h2,h3⟩:=h;refine ⟨arr,rfl,by simp[h2],fun i hi=> ?_⟩
  simp only[List.length_map]at hi;simp only[List.getElem_map];have h4:=h3 i hi;split at h4
  ·rename_i hb
   rw[if_pos hb];obtain ⟨ar,h5,h6,h7⟩:=h4;refine ⟨ar,h5,by simp[h6],fun j hj=> ?_⟩
   have hj':j<(vs[i]).2.length:=by simpa using hj
   have:=hf _ _ (fun n hn=>List.mem_flatMap.2 ⟨vs[i],List.getElem_mem hi,List.mem_flatMap.2 ⟨_,List.getElem_mem hj',hn⟩⟩) (h7 j hj')
   simpa using this
  ·rename_i hb
   rw[if_neg hb];obtain ⟨c,h5,h6⟩:=h4;exact ⟨f c,by simp[h5],hf _ _ (fun n hn=>List.mem_flatMap.2 ⟨vs[i],List.getElem_mem hi,by rw[h5];simpa using hn⟩) h6⟩
 |f fn caps=>
  obtain ⟨arr,rfl,h2,h3⟩:=h;refine ⟨arr,rfl,by simp[h2],fun i hi=> ?_⟩
  simp only[List.length_map]at hi;simp only[List.getElem_map];exact hf _ _ (fun n hn=>List.mem_flatMap.2 ⟨_,List.getElem_mem hi,hn⟩) (h3 i hi)
theorem VAV.obsEq{w:World}{G:Ghost}{obs obs':Obs}{pl:zaP}{u:Value}{x:AV}(h:VAV w G obs pl u x)(ho:∀n∈x.names,obs' n=obs n):VAV w G obs' pl u x:=by
 have:=VAV.map (f:=id) h (fun u a hn ha=>V1.obsEq ha fun n h=>ho n (hn n h))
 cases x<;>simpa using this
theorem zhH{α β:Type}(l:List α)(f:α×Nat→β)(d:β)(d0:α)(n:Nat)(hd:∀n,l.length≤n→f (d0,n)=d):(l.zipIdx.map f).getD n d=f (l.getD n d0,n):=by
 rw[List.getD_eq_getElem?_getD,List.getElem?_map,List.getElem?_zipIdx,List.getD_eq_getElem?_getD];rcases Nat.lt_or_ge n l.length with h|h
 ·simp[h]
 ·simp[h,hd n h]
theorem zkY(S:St)(L:List Nat)(n:Nat):(S.keepL L).obj n=if decide (n<S.na)||(L.flatMap fun v=>(S.t.getD v (.one .dead)).names).contains n then S.obj n else none:=by
 show (S.o.zipIdx.map fun x=>if decide (x.2<S.na)||(L.flatMap fun v=>(S.t.getD v (.one .dead)).names).contains x.2 then x.1 else none).getD n none=_
 rw[zhH S.o _ none none n (fun n _=>by simp)]
 rfl
theorem zrZ(S:St)(L:List Nat)(t:Nat):(S.keepL L).t.getD t (.one .dead)=if L.contains t then S.t.getD t (.one .dead)else .one .dead:=by
 show (S.t.zipIdx.map fun x=>if L.contains x.2 then x.1 else .one .dead).getD t (.one .dead)=_
 rw[zhH S.t _ (AV.one .dead) (AV.one .dead) t (fun n _=>by simp)]
theorem Sound.keepL{S:St}{a:Act}{w:World}(h:Sound W0 G0 S a w)(L:List Nat):Sound W0 G0 (S.keepL L) a w:=by
 obtain ⟨hdf,G,pl,I⟩:=h
 have hsub:∀n ob,(S.keepL L).obj n=some ob→S.obj n=some ob:=fun n ob h=>by
  rw[zkY]at h;split at h
  ·exact h
  ·simp at h
 have hl1:(S.keepL L).t.length=S.t.length:=by simp[St.keepL]
 have hl2:(S.keepL L).o.length=S.o.length:=by simp[St.keepL]
 refine ⟨hdf,G,pl,{glob:=I.glob,gl:=I.gl,size:=by rw[hl1];exact I.size,
                   tmps:=fun t=> ?_,objs:=fun n ob h hk=>I.objs n ob (hsub n ob h) hk,own:=I.own,base:=I.base,os:=I.os,output:=I.output,tape:=I.tape,hsize:=I.hsize,
                   nolim:=fun b x h=>by rw[hl2];exact I.nolim b x h,out:=fun n b off ob hn hG hb ho=>I.out n b off ob hn hG hb (hsub n ob ho),small:=by rw[hl2];exact I.small,
                   start:=fun n ob hn ho=>I.start n ob hn (hsub n ob ho),fr:=I.fr,olen:=by rw[hl1,hl2];exact I.olen}⟩
 rw[zrZ];split
 ·rename_i ht
  refine VAV.obsEq (I.tmps t) fun n hn=> ?_
  rw[zkY,if_pos];rw[Bool.or_eq_true];exact .inr (by simpa using ⟨t,by simpa using ht,hn⟩)
 ·trivial
theorem zr0(a b n:Nat):swp a b (swp a b n)=n:=by
 unfold swp
 repeat' split
 all_goals first|rfl|(subst_vars;rfl)|omega
theorem zoY{a b n:Nat}(h1:n≠a)(h2:n≠b):swp a b n=n:=by simp[swp,h1,h2]
theorem zqL{S:St}{a b:Nat}(ha:a<S.o.length)(hb:b<S.o.length)(n:Nat):(S.swap a b).obj n=S.obj (swp a b n):=by
 show ((S.o.set a (S.o.getD b none)).set b (S.o.getD a none)).getD n none=S.o.getD (swp a b n) none;simp only[List.getD_eq_getElem?_getD,List.getElem?_set,List.length_set];unfold swp;by_cases h1:b=n
 ·subst h1
  by_cases h2:b=a
  ·subst h2;simp[ha]
  ·simp[hb,h2]
 ·by_cases h2:a=n
  ·subst h2;simp[h1,ha]
  ·have h3:¬n=a:=fun h=>h2 h.symm
   have h4:¬n=b:=fun h=>h1 h.symm
   simp[h1,h2,h3,h4]
theorem Sound.swap{S:St}{a:Act}{w:World}(h:Sound W0 G0 S a w){x y:Nat}(hx:S.na≤x)(hy:S.na≤y)(hx2:x<S.o.length)(hy2:y<S.o.length):Sound W0 G0 (S.swap x y) a w:=by
 obtain ⟨hdf,G,pl,I⟩:=h;have hs:=I.small
 let σ:=swp x y
 have hσσ:∀n,σ (σ n)=n:=zr0 x y;have hσna:∀n,n<S.na→σ n=n:=fun n h=>zoY (by omega) (by omega)
 have hσFR:σ FR=FR:=zoY (by omega) (by omega)
 have hσlt:∀n,n<S.o.length→σ n<S.o.length:=fun n h=>by
  show swp x y n<_;unfold swp
  repeat' split
  all_goals omega
 let G':Ghost:=fun b=>(G b).map fun z=>(σ z.1,z.2)
 have hG:∀b n π,G' b=some (n,π)↔G b=some (σ n,π):=fun b n π=>by
  simp only[G',Option.map_eq_some_iff,Prod.mk.injEq];constructor
  ·rintro ⟨⟨m,ρ⟩,h1,rfl,rfl⟩;rw[h1,hσσ]
  ·intro h1;exact ⟨(σ n,π),h1,hσσ n,rfl⟩
 have hG0:∀b,G' b=none↔G b=none:=fun b=>by simp[G']
 let pl':zaP:=fun n=>pl (σ n)
 have hob:∀n,(S.swap x y).obj n=S.obj (σ n):=zqL hx2 hy2;have hl1:(S.swap x y).t.length=S.t.length:=by simp[St.swap]
 have hl2:(S.swap x y).o.length=S.o.length:=by simp[St.swap]
 have hB:zcc w w G G':=fun b _ h=>⟨rfl,(hG0 b).2 h⟩
 have hV0:∀u a,(∀cs c,a≠ .bx cs c)→V1 w G S.obj pl u a→V1 w G' (S.swap x y).obj pl' u (a.ren σ):=fun u a hb h=>by
  cases a with
  |bx cs c=>exact absurd rfl (hb cs c)
  |dead=>exact trivial
  |v x=>exact h
  |s es=>exact Rel.mono h fun _ b h=>(hG0 b).2 h
  |q row c=>
   obtain ⟨ad,hd,hu,hro⟩:=h;exact ⟨ad,hd,hu,hro.frame hB⟩
  |r n p c=>
   obtain ⟨ob,hr⟩:=h;refine ⟨ob,by rw[hob,hσσ];exact hr.at0,fun hk=> ?_,hr.path,hr.lt,hr.sl, ?_⟩
   ·obtain ⟨k1,ad0,k2,k3⟩:=hr.kind hk
    have hp:pl' (σ n)=pl n:=by show pl (σ (σ n))=pl n;rw[hσσ]
    rw[hp];exact ⟨k1,ad0,k2,k3.frame hB⟩
   ·show zb2 w (pl (σ (σ n))) ob.row p c=some u
    rw[hσσ];exact hr.head
  |p b n p c=>
   cases b with
   |false=>exact h
   |true=>
    obtain ⟨ad,ob,hr,hu⟩:=h;have hp:pl' (σ n)=pl n:=by show pl (σ (σ n))=pl n;rw[hσσ]
    refine ⟨ad,ob,{at0:=by rw[hob,hσσ];exact hr.at0,path:=hr.path,at_:=by rw[hp];exact hr.at_,spot:=hr.spot,ro:=fun hk=> ?_,virt:=hr.virt},hu⟩
    obtain ⟨k1,ad0,k2,k3⟩:=hr.ro hk;rw[hp];exact ⟨k1,ad0,k2,k3.frame hB⟩
 have hV:∀u a,V1 w G S.obj pl u a→V1 w G' (S.swap x y).obj pl' u (a.ren σ):=fun u a h=>by
  cases a with
  |bx cs c=>
   obtain ⟨b,off,hu,hl,hGb,hc⟩:=h;refine ⟨b,off,hu,hl,(hG0 b).2 hGb,fun i hi=> ?_⟩
   have hi':i<cs.length:=by simpa using hi
   obtain ⟨x,hx,hv⟩:=hc i hi';refine ⟨x,hx,V0.a1.2 ?_⟩;simp only[List.getElem_map];rw[A0.ren_a1];exact hV0 _ _ (fun cs c=>A0.a1_bx _ cs c) (V0.a1.1 hv)
  |_=>exact hV0 _ _ (fun cs c h=>by cases h) h
 refine ⟨hdf,G',pl', ?_⟩;refine {size:=by rw[hl1];exact I.size,tmps:=fun t=> ?_,objs:=fun n ob h hk=> ?_,own:=fun b z h=> ?_,base:=fun b hb h0=> ?_,os:=I.os,output:=I.output,tape:=I.tape,hsize:=I.hsize,nolim:=fun b z h=> ?_,out:=fun n b off ob hn hg hb ho=> ?_,small:=by rw[hl2];exact I.small,start:=fun n ob hn ho=> ?_,fr:=fun b π hb h0=> ?_,glob:=I.glob.frame hB,gl:=I.gl,olen:=by rw[hl1,hl2];exact I.olen}
 ·have ht:(S.swap x y).t.getD t (.one .dead)=(S.t.getD t (.one .dead)).ren σ:=by
   show (S.t.map (AV.ren σ)).getD t (.one .dead)=_;simp only[List.getD_eq_getElem?_getD,List.getElem?_map];cases S.t[t]? <;>rfl
  rw[ht];have:=VAV.map (f:=A1.ren σ) (I.tmps t) (fun u a _ ha=>hV u a ha)
  revert this
  cases S.t.getD t (.one .dead)<;>exact fun h=>h
 ·rw[hob]at h
  have ho:=I.objs (σ n) ob h hk;refine {bld:=ho.bld.frame2 fun b π hb=>⟨rfl,(hG b n π).2 hb⟩,fl:=ho.fl,rel:=ho.rel.frame (fun _ _ _ _=>rfl) (fun π b _ hq=> ?_),box:=fun hb=> ?_}
  ·cases π with
   |nil=>exact hq.elim
   |cons c ρ=>
    simp only[QObj]at hq⊢
    revert hq
    cases ob.fl.getD c .sh with
    |deep=>exact fun hq=>(hG b n _).2 hq
    |top=>
     simp only[QCell];by_cases hρ:ρ=[]
     ·rw[if_pos hρ,if_pos hρ];exact fun hq=>(hG b n _).2 hq
     ·rw[if_neg hρ,if_neg hρ];exact fun hq=>(hG0 b).2 hq
    |sh=>exact fun hq=>(hG0 b).2 hq
  ·obtain ⟨b,off,cs,ty,h1,h2,h3,h4,h5⟩:=ho.box hb
   exact ⟨b,off,cs,ty,h1,(hG b n []).2 h2,h3,h4,h5⟩
 ·exact (I.own b _ ((hG b z.1 z.2).1 h)).moved id rfl
 ·obtain ⟨h1,h2⟩:=I.base b hb h0
  exact ⟨h1,(hG0 b).2 h2⟩
 ·rw[hl2]
  have h1:=(hG b z.1 z.2).1 h;rcases I.nolim b _ h1 with h2|h2
  ·left;have:=hσlt _ h2;rw[hσσ]at this;exact this
  ·right;simp only at h2;rw[←hσσ z.1,h2,hσFR]
 ·have h1:=(hG b n []).1 hg
  have hn':n<S.na:=hn;rw[hσna n hn']at h1;rw[hob,hσna n hn']at ho;refine I.out n b off ob hn' h1 ?_ ho;have:pl (σ n)=pl n:=by rw[hσna n hn']
  rw[←this];exact hb
 ·have hn':n<S.na:=hn
  rw[hob,hσna n hn']at ho;obtain ⟨ob0,k1,k2,k3,k4,k5,k6⟩:=I.start n ob hn' ho;have:pl' n=pl n:=by show pl (σ n)=pl n;rw[hσna n hn']
  rw[this];exact ⟨ob0,k1,k2,k3,k4,k5,k6⟩
 ·obtain ⟨h1,h2⟩:=I.fr b π hb h0
  refine ⟨h1, ?_⟩;rw[h0]at h2⊢;exact (hG b FR π).2 (by rw[hσFR];exact h2)
theorem Sound.canon{a:Act}{w:World}:∀(vs done:List Nat) {S:St},Sound W0 G0 S a w→Sound W0 G0 (canon vs done S) a w:=by
 intro vs
 induction vs with
 |nil=>intro done S h;exact h
 |cons v vs ih=>
  intro done S h;unfold Go.PV.canon;split
  ·split
   ·rename_i hc
    exact ih _ (h.swap hc.1 (by omega) hc.2.2.2.1 hc.2.2.2.2)
   ·exact ih _ h
  ·exact ih _ h
theorem znM:∀(vs done:List Nat) (S:St),Like S (canon vs done S):=by
 intro vs
 induction vs with
 |nil=>intro done S;exact Like.refl S
 |cons v vs ih=>
  intro done S;unfold Go.PV.canon;split
  ·split
   ·exact Like.trans (S':=S.swap _ _) ⟨rfl,by simp[St.swap]⟩ (ih _ _)
   ·exact ih _ _
  ·exact ih _ _
theorem Sound.clean{S:St}{a:Act}{w:World}(h:Sound W0 G0 S a w)(L:List Nat):Sound W0 G0 (S.clean L) a w:=(h.keepL L).canon L []
theorem zen(S:St)(L:List Nat):Like S (S.clean L):=Like.trans (S':=S.keepL L) ⟨rfl,by simp[St.keepL]⟩ (znM L [] _)
theorem Sound.atCut{S:St}{a:Act}{w:World}(h:Sound W0 G0 S a w)(L:List Nat×List Nat):Sound W0 G0 (S.atCut L) a w:=by
 unfold St.atCut;split
 ·exact h
 ·exact h.clean _
theorem znN(S:St)(L:List Nat×List Nat):Like S (S.atCut L):=by
 unfold St.atCut;split
 ·exact Like.refl _
 ·exact zen _ _
def zoZ:Ex→Exit
 | .normal=> .normal
 | .exit id=> .exit id
 | .ret=> .ret
theorem ev0_wp(hX:zfl X G0.gl):∀(c:Code) {S S':St} {x:Ex} {a:Act} {w:World},Sound W0 G0 S a w→ev0 X fn m c S=some (x,S')→
 ∀{Q:Exit→Act→World→Prop},(∀a' w',Like S S'→Sound W0 G0 S' a' w'→Q (zoZ x) a' w')→c.wp X.P Q a w:=by
 intro c
 induction c with
 |skip=>intro S S' x a w hS h Q hQ;simp only[ev0,Option.some.injEq,Prod.mk.injEq]at h;obtain ⟨rfl,rfl⟩:=h;exact wp_skip (hQ a w (Like.refl _) hS)
 |label l=>intro S S' x a w hS h Q hQ;simp only[ev0,Option.some.injEq,Prod.mk.injEq]at h;obtain ⟨rfl,rfl⟩:=h;exact wp_label (hQ a w (Like.refl _) hS)
 |exit id=>intro S S' x a w hS h Q hQ;simp only[ev0,Option.some.injEq,Prod.mk.injEq]at h;obtain ⟨rfl,rfl⟩:=h;exact wp_exit (hQ a w (Like.refl _) hS)
 |ret=>intro S S' x a w hS h Q hQ;simp only[ev0,Option.some.injEq,Prod.mk.injEq]at h;obtain ⟨rfl,rfl⟩:=h;exact wp_ret (hQ a w (Like.refl _) hS)
 |region rid ops draw=>
  intro S S' x a w hS h Q hQ;simp only[ev0]at h;refine zoX hX hS h fun S1 a' w' hl hk hS'=> ?_
  simp only[Option.some.injEq,Prod.mk.injEq]at hk;obtain ⟨rfl,rfl⟩:=hk;exact hQ a' w' hl hS'
 |seq c1 c2 ih1 ih2=>
  intro S S' x a w hS h Q hQ;simp only[ev0]at h;refine wp_seq ?_;cases h1:ev0 X fn m c1 S with
  |none=>rw[h1]at h;simp at h
  |some y=>
   obtain ⟨x1,S1⟩:=y;rw[h1]at h;refine ih1 hS h1 fun a' w' hl hS'=> ?_
   cases x1 with
   |normal=>exact ih2 (hS'.atCut _) h fun a2 w2 hl2 hS2=>hQ a2 w2 ((hl.trans (znN _ _)).trans hl2) hS2
   |exit id=>
    simp only[Option.some.injEq,Prod.mk.injEq]at h;obtain ⟨rfl,rfl⟩:=h;exact hQ a' w' hl hS'
   |ret=>
    simp only[Option.some.injEq,Prod.mk.injEq]at h;obtain ⟨rfl,rfl⟩:=h;exact hQ a' w' hl hS'
 |cond c c1 c2 ih1 ih2=>
  intro S S' x a w hS h Q hQ;simp only[ev0]at h;split at h
  ·rename_i t ht
   obtain ⟨_,G,pl,I⟩:=id hS;have hc:=I.ev c;rw[ht]at hc;have hc:a.eval c= .bool t:=hc;cases t with
   |true=>exact wp_cond_true hc (ih1 hS h hQ)
   |false=>exact wp_cond_false hc (ih2 hS h hQ)
  ·simp at h
 |block id b ih=>
  intro S S' x a w hS h Q hQ;simp only[ev0]at h;refine wp_block ?_;cases h1:ev0 X fn m b S with
  |none=>rw[h1]at h;simp at h
  |some y=>
   obtain ⟨x1,S1⟩:=y;rw[h1]at h;refine ih hS h1 fun a' w' hl hS'=> ?_
   cases x1 with
   |normal=>
    simp only[Option.some.injEq,Prod.mk.injEq]at h;obtain ⟨rfl,rfl⟩:=h;exact hQ a' w' hl hS'
   |ret=>
    simp only[Option.some.injEq,Prod.mk.injEq]at h;obtain ⟨rfl,rfl⟩:=h;exact hQ a' w' hl hS'
   |exit i=>
    simp only at h;by_cases hi:i=id
    ·rw[if_pos hi]at h
     simp only[Option.some.injEq,Prod.mk.injEq]at h;obtain ⟨rfl,rfl⟩:=h;simp only[zoZ,Exit.inBlock,if_pos hi];exact hQ a' w' hl hS'
    ·rw[if_neg hi]at h
     simp only[Option.some.injEq,Prod.mk.injEq]at h;obtain ⟨rfl,rfl⟩:=h;simp only[zoZ,Exit.inBlock,if_neg hi];exact hQ a' w' hl hS'
 |loop b ih=>
  intro S S' x a w hS h Q hQ;simp only[ev0]at h;generalize X.live fn (zaS b)=L at h
  have key:∀(n:Nat) (S1:St) (a:Act) (w:World),Sound W0 G0 S1 a w→Like S S1→zcR (ev0 X fn m b) L n S1=some (x,S')→Code.rounds X.P b Q n a w:=by
   intro n
   induction n with
   |zero=>intro S1 a w _ _ h;simp[zcR]at h
   |succ n ihn=>
    intro S1 a w hS1 hl h;simp only[zcR]at h;rw[rounds_succ];cases h1:ev0 X fn m b S1 with
    |none=>rw[h1]at h;simp at h
    |some y=>
     obtain ⟨x1,S2⟩:=y;rw[h1]at h;refine ih hS1 h1 fun a' w' hl2 hS2=> ?_
     cases x1 with
     |normal=>exact ihn _ a' w' (hS2.clean _) ((hl.trans hl2).trans (zen _ _)) h
     |exit id=>
      simp only[Option.some.injEq,Prod.mk.injEq]at h;obtain ⟨rfl,rfl⟩:=h;exact hQ a' w' ((hl.trans hl2).trans (zen _ _)) (hS2.clean _)
     |ret=>
      simp only[Option.some.injEq,Prod.mk.injEq]at h;obtain ⟨rfl,rfl⟩:=h;exact hQ a' w' ((hl.trans hl2).trans (zen _ _)) (hS2.clean _)
  exact wp_loop_rounds m (key m _ a w (hS.clean _) (zen _ _) h)
 |rangeFunc f ps a1 b ih1 ih2=>intro S S' x a w hS h;simp[ev0]at h
 |scope b ih=>intro S S' x a w hS h;simp[ev0]at h
 |goto l=>intro S S' x a w hS h;simp[ev0]at h
 |refuse y=>intro S S' x a w hS h;simp[ev0]at h
end code
end Go.PV
namespace Go.PV
open Go.RowKit
section out
variable {X:Ctx}{W0:World}{G0:Orig}{S:St}{w:World}{a:Act}{G:Ghost}{pl:zaP}
def ziX(tmps:Array Value):ResultVar→Sem Value
 | .tmp t=>pure (tmps.getD t undef)
 | .cell x t=>do loadVar t (←asAddr (tmps.getD x undef))
theorem ziY(fn:Func)(tmps:Array Value):results fn tmps=(do let vs←fn.results.mapM (ziX tmps);pure (if h:vs.size=1 then vs[0]else .tuple vs)):=by
 unfold results;congr 1
theorem znO{P:Program}{t:TypeId}{u z:Value}{w:World}(h:(Instr.loadAt t u).run P w= .ok z w):(asAddr u>>=fun ad=>loadVar t ad).run P w= .ok z w:=by
 cases u with
 |pointer p=>
  cases p with
  |some ad=>exact h
  |none=>simp[Instr.loadAt,Instr.sureAddr,go_sem]at h
 |_=>simp[Instr.loadAt,Instr.sureAddr,go_sem]at h
theorem ziZ(I:Inv W0 G0 S w a.tmps G pl):∀(rs:List ResultVar) {as:List AV},zfp X.P S rs=some as→
 ∃zs:List Value,(rs.mapM (ziX a.tmps)).run X.P w= .ok zs w∧zs.length=as.length∧∀i (h:i<as.length),VAV w G S.obj pl (zs.getD i undef) (as[i]):=by
 intro rs
 induction rs with
 |nil=>
  intro as h;simp only[zfp,Option.some.injEq]at h;subst h;exact ⟨[],by simp[go_sem],rfl,fun i h=>absurd h (by simp)⟩
 |cons r rs ih=>
  intro as h;simp only[zfp]at h;split at h
  case h_2=>simp at h
  rename_i x hx;split at h
  case h_2=>simp at h
  rename_i xs hxs;simp only[Option.some.injEq]at h;subst h;obtain ⟨zs,h1,h2,h3⟩:=ih hxs
  have one:∃z,(ziX a.tmps r).run X.P w= .ok z w∧VAV w G S.obj pl z x:=by
   cases r with
   |tmp t=>
    simp only[zok,Option.some.injEq]at hx;subst hx;exact ⟨_,by simp[ziX,go_sem],I.tmps t⟩
   |cell y t=>
    simp only[zok]at hx;split at hx
    ·rename_i b hb
     have hu:=I.tmps y;rw[hb]at hu;obtain ⟨z,k1,k2⟩:=zhn I (zd2 S _) (u:=a.tmps.getD y undef) hu hx;exact ⟨z,znO k1,k2⟩
    ·simp at hx
  obtain ⟨z,k1,k2⟩:=one;refine ⟨z::zs, ?_,by simp[h2],fun i hi=> ?_⟩
  ·rw[List.mapM_cons,run_bind k1,run_bind h1]
   simp[go_sem]
  ·cases i with
   |zero=>exact k2
   |succ i=>exact h3 i (by simpa using hi)
def flatT:List (Bool×List R1)→List Value→Nat→Value
 | [],_=>fun _=>undef
 |(b,rs)::cs,vs=>fun j=>if j<rs.length then (if b then (match vs.getD 0 undef with| .agg ar=>ar.getD j undef|_=>undef)else vs.getD 0 undef)else flatT cs vs.tail (j-rs.length)
def flatU:RS→List Value→Nat→Value
 | .none,_=>fun _=>undef
 | .one _,vs=>fun _=>vs.getD 0 undef
 | .agg _,vs=>fun j=>(match vs.getD 0 undef with| .agg ar=>ar.getD j undef|_=>undef)
 | .tup cs,vs=>flatT cs vs
 | .fresh _,_=>fun _=>undef
theorem zqM{obs:Obs}:∀(cs:List (Bool×List R1)) {as:List AV} {xs:List A1} {zs:List Value},zdm (.tup cs) as=some xs→zs.length=as.length→
 (∀i (h:i<as.length),VAV w G obs pl (zs.getD i undef) (as[i]))→
 xs.length=(cs.flatMap (·.2)).length∧tupAt cs zs (flatT cs zs)∧cs.length=zs.length∧∀j (h:j<xs.length),V1 w G obs pl (flatT cs zs j) (xs[j]):=by
 intro cs
 induction cs with
 |nil=>
  intro as xs zs h hl hv;cases as with
  |nil=>
   simp only[zdm,Option.some.injEq]at h;subst h;have:zs=[]:=List.length_eq_zero_iff.1 hl;subst this;exact ⟨rfl,trivial,rfl,fun j h=>absurd h (by simp)⟩
  |cons x as=>simp[zdm]at h
 |cons c cs ih=>
  obtain ⟨b,rs⟩:=c;intro as xs zs h hl hv;cases as with
  |nil=>simp[zdm]at h
  |cons x as=>
   cases zs with
   |nil=>simp at hl
   |cons z zs=>
    simp only[zdm]at h;split at h
    case h_2=>simp at h
    rename_i r hr;obtain ⟨k1,k2,k3,k4⟩:=ih (zs:=zs) hr (by simpa using hl) (fun i hi=>hv (i+1) (by simpa using hi))
    have hv0:VAV w G obs pl z x:=hv 0 (by simp)
    have htail:∀j,flatT ((b,rs)::cs) (z::zs) (rs.length+j)=flatT cs zs j:=fun j=>by
     simp only[flatT];rw[if_neg (by omega)]
     simp
    have hfun:(fun j=>flatT ((b,rs)::cs) (z::zs) (rs.length+j))=flatT cs zs:=funext htail
    split at h
    ·rename_i y
     split at h
     case isFalse=>simp at h
     rename_i h1;simp only[Option.some.injEq]at h;subst h;refine ⟨by simp[k1,h1];omega,⟨?_,by rw[hfun];exact k2⟩,by simp[k3],fun j hj=> ?_⟩
     ·rw[if_neg (by simp)]
      refine ⟨h1, ?_⟩;simp[flatT,h1]
     ·cases j with
      |zero=>
       have:flatT ((false,rs)::cs) (z::zs) 0=z:=by simp[flatT,h1]
       rw[this];exact hv0
      |succ j=>
       have:=htail j;rw[h1,Nat.add_comm]at this;rw[this];exact k4 j (by simpa using hj)
    ·rename_i ys
     split at h
     case isFalse=>simp at h
     rename_i h1;simp only[Option.some.injEq]at h;subst h;obtain ⟨ar,rfl,g1,g2⟩:=hv0;have hin:∀j,j<rs.length→flatT ((true,rs)::cs) (.agg ar::zs) j=ar.getD j undef:=fun j hj=>by simp[flatT,hj]
     refine ⟨by simp[k1,h1],⟨?_,by rw[hfun];exact k2⟩,by simp[k3],fun j hj=> ?_⟩
     ·rw[if_pos rfl]
      exact ⟨ar,rfl,by rw[g1,h1],fun j hj=>(hin j hj).symm⟩
     ·by_cases hjl:j<rs.length
      ·have hjy:j<ys.length:=by omega
       rw[hin j hjl,List.getElem_append_left hjy];exact g2 j hjy
      ·have hjy:ys.length≤j:=by omega
       have hj2:j-ys.length<r.length:=by simp at hj;omega
       rw[List.getElem_append_right hjy];have:=htail (j-rs.length);rw[show rs.length+(j-rs.length)=j from by omega]at this
       rw[this,←h1];exact k4 (j-ys.length) hj2
    ·simp at h
theorem zr1{obs:Obs}{rs:RS}{as:List AV}{xs:List A1}{zs:List Value}(h:(if rs.okTup then zdm rs as else none)=some xs)(hl:zs.length=as.length)
 (hv:∀i (h:i<as.length),VAV w G obs pl (zs.getD i undef) (as[i])) (hx:xs.length=rs.cells.length):
 ResAt rs (if h:zs.toArray.size=1 then zs.toArray[0]else .tuple zs.toArray) (flatU rs zs)∧∀j (h:j<xs.length),V1 w G obs pl (flatU rs zs j) (xs[j]):=by
 split at h
 case isFalse=>simp at h
 rename_i hok;cases rs with
 |none=>
  cases as with
  |nil=>
   have:zs=[]:=List.length_eq_zero_iff.1 hl;subst this;simp only[zdm,Option.some.injEq]at h;subst h;exact ⟨rfl,fun j h=>absurd h (by simp)⟩
  |cons x as=>simp[zdm]at h
 |one r=>
  match as,h with
  | [.one y],h=>
   simp only[zdm,Option.some.injEq]at h;obtain ⟨z,hz⟩:=List.length_eq_one_iff.1 hl;subst hz h;refine ⟨rfl,fun j hj=> ?_⟩
   have:j=0:=by simpa using hj
   subst this;exact hv 0 (by simp)
 |agg rs=>
  match as,h with
  | [.g ys],h=>
   simp only[zdm,Option.some.injEq]at h;obtain ⟨z,hz⟩:=List.length_eq_one_iff.1 hl;subst hz h;obtain ⟨ar,hz,g1,g2⟩:=hv 0 (by simp)
   have hz:z= .agg ar:=hz;subst hz;have hx:ys.length=rs.length:=hx;exact ⟨⟨ar,rfl,by rw[g1,hx],fun j hj=>rfl⟩,fun j hj=>g2 j hj⟩
 |tup cs=>
  obtain ⟨k1,k2,k3,k4⟩:=zqM cs h hl hv;refine ⟨?_,k4⟩
  have hne:zs.toArray.size≠1:=by
   simp only[List.size_toArray,←k3];intro h1
   match cs,h1 with
   | [c],_=>simp[RS.okTup]at hok
  rw[dif_neg hne];exact ⟨_,rfl,k2⟩
 |fresh fs=>simp[zdm]at h
end out
end Go.PV
namespace Go.PV
open Go.RowKit
def zcg(na:Nat)(rs:List R1):List Nat→Option (Nat×List Nat)
 | []=>none
 |i::ρ=>match rs[i]? with
  |some (.own .deep)=>some (na,i::ρ)
  |some (.own .top)=>if ρ=[]then some (na,[i])else none
  |_=>none
def liveB(obs:Obs)(n:Nat):Bool:=match obs n with|some ob=>decide (ob.kind≠ .ro)|none=>false
def gFin(na L:Nat)(rs:List R1)(obs:Obs)(G1:Ghost):Ghost:=fun b=>
 match G1 b with
 |none=>none
 |some (n,π)=>if n=FR then some (FR,π)else if n=L then zcg na rs π else if n<na∧liveB obs n=true then some (n,π)else none
section gfin
variable {na L:Nat}{rs:List R1}{obs:Obs}{G1:Ghost}{b:Nat}
theorem zeo(h:G1 b=none):gFin na L rs obs G1 b=none:=by simp[gFin,h]
theorem zr2{π:List Nat}(h:G1 b=some (FR,π)):gFin na L rs obs G1 b=some (FR,π):=by simp[gFin,h]
theorem zqN{π:List Nat}(hL:L≠FR)(h:G1 b=some (L,π)):gFin na L rs obs G1 b=zcg na rs π:=by simp[gFin,h,hL]
theorem zhI{n:Nat}{π:List Nat}(h:G1 b=some (n,π))(hL:n≠L)(hn:n<na)(hl:liveB obs n=true):gFin na L rs obs G1 b=some (n,π):=by
 simp only[gFin,h];split
 ·rename_i h0;rw[h0]
 ·rw[if_pos ⟨hn,hl⟩]
theorem zi0{π:List Nat}{x:Nat×List Nat}(h:zcg na rs π=some x):x.1=na∧x.2≠[]:=by
 unfold zcg at h;split at h
 ·simp at h
 ·split at h
  ·simp only[Option.some.injEq]at h;subst h;exact ⟨rfl,by simp⟩
  ·split at h
   ·simp only[Option.some.injEq]at h;subst h;exact ⟨rfl,by simp⟩
   ·simp at h
  ·simp at h
theorem zm6{x:Nat×List Nat}(h:gFin na L rs obs G1 b=some x):(∃y,G1 b=some y)∧(x.1=FR∨(x.1=na∧x.2≠[])∨(x.1<na∧G1 b=some x)):=by
 unfold gFin at h;split at h
 ·simp at h
 rename_i n π hg;refine ⟨⟨_,hg⟩, ?_⟩;split at h
 ·simp only[Option.some.injEq]at h;subst h;exact .inl rfl
 ·split at h
  ·exact .inr (.inl (zi0 h))
  ·split at h
   ·rename_i hc
    simp only[Option.some.injEq]at h;subst h;exact .inr (.inr ⟨hc.1,hg⟩)
   ·simp at h
theorem zi1{na:Nat}{rs:List R1}{π:List Nat}{x:Nat×List Nat}(h:zcg na rs π=some x):x.2=π:=by
 cases π with
 |nil=>simp[zcg]at h
 |cons i ρ=>
  simp only[zcg]at h;split at h
  ·obtain rfl:=Option.some.inj h;rfl
  ·split at h
   ·rename_i h0;obtain rfl:=Option.some.inj h;rw[h0]
   ·simp at h
  ·simp at h
theorem zo0{x:Nat×List Nat}(h:gFin na L rs obs G1 b=some x):∃y,G1 b=some y∧x.2=y.2:=by
 unfold gFin at h;split at h
 ·simp at h
 rename_i n π hg;refine ⟨_,hg, ?_⟩;split at h
 ·obtain rfl:=Option.some.inj h;rfl
 ·split at h
  ·exact zi1 h
  ·split at h
   ·obtain rfl:=Option.some.inj h;rfl
   ·simp at h
end gfin
section out
variable {X:Ctx}{W0:World}{G0:Orig}{S:St}{w:World}{a:Act}{G:Ghost}{pl:zaP}
theorem zo1{na:Nat}{tch:List Nat}:∀(rs:List R1) {as:List A1} {ds:List D} {ws:List Own} {tcs:List TC},tcsOf na tch rs as ds ws=some tcs→
 as.length=rs.length∧tcs.length=rs.length∧ds.length=rs.length∧∀i (h:i<tcs.length),∃r x d o,rs[i]? =some r∧as[i]? =some x∧ds[i]? =some d∧ws[i]? =some o∧tcOf na tch r x d o=some (tcs[i]):=by
 intro rs
 induction rs with
 |nil=>
  intro as ds ws tcs h;cases as<;>cases ds<;>cases ws<;>simp[tcsOf]at h
  subst h;exact ⟨rfl,rfl,rfl,fun i h=>absurd h (by simp)⟩
 |cons r rs ih=>
  intro as ds ws tcs h;cases as with
  |nil=>simp[tcsOf]at h
  |cons x as=>
   cases ds with
   |nil=>simp[tcsOf]at h
   |cons d ds=>
    cases ws with
    |nil=>simp[tcsOf]at h
    |cons o ws=>
     simp only[tcsOf]at h;split at h
     case h_2=>simp at h
     rename_i c hc;split at h
     case h_2=>simp at h
     rename_i cs hcs;simp only[Option.some.injEq]at h;subst h;obtain ⟨h1,h2,h3,h4⟩:=ih hcs;refine ⟨by simp[h1],by simp[h2],by simp[h3],fun i hi=> ?_⟩
     cases i with
     |zero=>exact ⟨r,x,d,o,rfl,rfl,rfl,rfl,hc⟩
     |succ i=>
      obtain ⟨r',x',d',o',k1,k2,k3,k4,k5⟩:=h4 i (by simpa using hi)
      exact ⟨r',x',d',o',by simpa using k1,by simpa using k2,by simpa using k3,by simpa using k4,by simpa using k5⟩
theorem znP{objs:List Obj}(hna:objs.length=S.na)(hobs:G0.obs=obOf objs)(I:Inv W0 G0 S w a.tmps G pl){fn:Func}{rv:Res}{rs:RS}{as:List AV}(has:zfp X.P S fn.results.toList=some as)(h:outK0 S rs as=some rv):
 ∃v G' pl',(results fn a.tmps).run X.P w= .ok v w∧PV.Left W0 G0 objs rs w v rv G' pl':=by
 unfold outK0 at h;split at h
 ·simp at h
 rename_i cs hcs;split at h
 ·simp at h
 rename_i ds ws A hab;split at h
 ·simp at h
 rename_i tcs htc;simp only[Option.some.injEq]at h;obtain ⟨zs,hz1,hz2,hz3⟩:=ziZ I _ has;obtain ⟨t1,t2,t3,t4⟩:=zo1 _ htc;obtain ⟨hres,hcell⟩:=zr1 hcs hz2 hz3 t1
 -- the values without pointers
 let us':Nat→Value:=fun j=>match cs[j]? with|some (.p _ _ _ _)=> .bool false|_=>flatU rs zs j
 have hV:∀j (h:j<(cs.map A1.noPtr).length),V1 w G S.obj pl (us' j) ((cs.map A1.noPtr)[j]):=fun j hj=>by
  have hj':j<cs.length:=by simpa using hj
  have:=hcell j hj';simp only[List.getElem_map,us',List.getElem?_eq_getElem hj'];cases hc:cs[j]with
  |p ok n p c=>rfl
  |dead=>rw[hc]at this;exact this
  |v x=>rw[hc]at this;exact this
  |s es=>rw[hc]at this;exact this
  |q r c=>rw[hc]at this;exact this
  |bx cs c=>rw[hc]at this;exact this
  |r n p c=>rw[hc]at this;exact this
 split at hab
 case isFalse=>simp at hab
 rename_i hap;obtain ⟨hdl,G1,obs1,B⟩:=zd0 (pl:=pl) (lim S) _ (A:={o:=S.foot [.g (cs.map A1.noPtr)]}) 0 I.objs (zd2 S _) (by simp) (by simp) hV hap hab (zdR S)
 have hLF:lim S≠FR:=Nat.ne_of_lt I.small;have hnaL:S.na≤lim S:=by have:=I.olen;unfold lim;omega
 have hol:(after A.ups S.o).length=S.o.length:=zeK _ _;have hobj1:∀n,(after A.ups S.o).getD n none=obs1 n:=zjs B.mvd
 -- no cell of this name before
 have hnoL:∀b π,G b≠some (lim S,π):=fun b π h=>by
  rcases I.nolim b _ h with h1|h1
  ·exact absurd h1 (by simp[lim])
  ·exact hLF h1
 have hFRt:FR∉A.tch:=fun hm=>by
  rcases B.mvd.tin _ hm with h1|⟨ob,h1⟩
  ·simp at h1
  ·have:=zdc h1;have:=I.small;omega
 let Gf:=gFin S.na (lim S) rs.cells obs1 G1
 have hrv:∀n ob,rv.objs[n]? =some ob→n<S.na∧((obs1 n=some ob)∨(obs1 n=none∧ob.kind= .ro∧ob.row=[])):=fun n ob hn=>by
  rw[←h]at hn;simp only[List.getElem?_map,Option.map_eq_some_iff]at hn;obtain ⟨x,h1,h2⟩:=hn;rw[List.getElem?_take]at h1;split at h1
  ·rename_i hlt
   refine ⟨hlt, ?_⟩
   have h3:(after A.ups S.o).getD n none=x:=by
    have h1:(after A.ups S.o)[n]? =some x:=h1;rw[List.getD_eq_getElem?_getD,h1];rfl
   rw[hobj1]at h3;cases x with
   |some y=>left;rw[h3];simpa using h2
   |none=>right;refine ⟨h3, ?_⟩;simp only[Option.getD_none]at h2;subst h2;exact ⟨rfl,rfl⟩
  ·simp at h1
 have hlive:∀n ob,rv.objs[n]? =some ob→ob.kind≠ .ro→n<S.na∧obs1 n=some ob∧liveB obs1 n=true∧∃ob0,S.obj n=some ob0∧ob.kind=ob0.kind∧ob.row.length=ob0.row.length:=fun n ob hn hk=>by
  obtain ⟨h1,h2⟩:=hrv n ob hn;rcases h2 with h2|h2
  ·refine ⟨h1,h2,by simp[liveB,h2,hk], ?_⟩
   cases ho:S.obj n with
   |some ob0=>
    obtain ⟨ob',g1,g2,g3,_⟩:=B.mvd.turn n ob0 ho;rw[h2]at g1;obtain rfl:=Option.some.inj g1;exact ⟨ob0,rfl,g2,g3⟩
   |none=>
    exfalso
    by_cases hm:n∈A.tch
    ·rcases B.mvd.tin n hm with h3|⟨ob',h3⟩
     ·simp at h3
     ·rw[ho]at h3;simp at h3
    ·rw[B.mvd.keep n hm,ho]at h2;simp at h2
  ·exact absurd h2.2.1 hk
 refine ⟨_,Gf,pl, ?_,{os:=I.os,output:=I.output,tape:=I.tape,hsize:=I.hsize,base:=fun b hb h0=> ?_,fr:=fun b π hb h0=> ?_,out:=fun n b off ob hn ho hG hbase k hk=> ?_,own:=fun b x hx=> ?_,dom:=fun b x hx=> ?_,
                      okObjs:=fun n ob ho hk=> ?_,olen:= ?_,start:=fun n ob hn ho hk=> ?_,res:=⟨flatU rs zs, .inl hres,fun i hi=> ?_⟩}⟩
 ·rw[ziY]
  have:(fn.results.mapM (ziX a.tmps)).run X.P w= .ok zs.toArray w:=by
   rw[←Array.toArray_toList (xs:=fn.results),List.mapM_toArray];exact zlR hz1
  rw[run_bind this];rfl
 ·obtain ⟨h1,h2⟩:=I.base b hb h0
  exact ⟨h1,zeo (B.mvd.gnone b h2)⟩
 ·obtain ⟨h1,h2⟩:=I.fr b π hb h0
  rw[h0]at h2;exact ⟨h1,by rw[h0];exact zr2 (B.mvd.gkeep b FR π h2 hFRt)⟩
 ·obtain ⟨_,h3⟩:=zm6 hG
  have hn':n<S.na:=by omega
  have hs:=I.small;have ho2:=I.olen;simp only at h3;rcases h3 with h3|h3|h3
  ·omega
  ·exact absurd rfl h3.2
  ·have hlv:liveB obs1 n=true:=by
    have hG2:gFin S.na (lim S) rs.cells obs1 G1 b=some (n,[]):=hG;simp only[gFin,h3.2]at hG2;rw[if_neg (by omega),if_neg (by unfold lim;omega)]at hG2
    split at hG2
    ·rename_i hc;exact hc.2
    ·simp at hG2
   have hkr:ob.kind≠ .ro:=by
    rcases (hrv n ob ho).2 with h4|h4
    ·unfold liveB at hlv;rw[h4]at hlv;simpa using hlv
    ·unfold liveB at hlv;rw[h4.1]at hlv;simp at hlv
   obtain ⟨_,_,_,ob0,g1,_,g3⟩:=hlive n ob ho hkr
   have hGb:G b=some (n,[]):=by
    rcases B.mvd.glim b n [] h3.2 with h5|h5
    ·exact h5
    ·unfold lim at h5;omega
   exact I.out n b off ob0 hn' hGb hbase g1 k (by rw[←g3];exact hk)
 ·obtain ⟨y,hy,he⟩:=zo0 hx
  obtain ⟨z,hz,hp⟩:=B.mvd.gdom b y hy;exact (I.own b z hz).moved (fun h=>hp (he▸h)) rfl
 ·obtain ⟨_,h3⟩:=zm6 hx
  rcases h3 with h3|h3|h3
  ·exact .inr h3
  ·exact .inl (by omega)
  ·exact .inl (by omega)
 ·obtain ⟨g1,g2,g3,_⟩:=hlive n ob ho hk
  have hr:=B.objs n ob g2 hk;have hnL:n≠lim S:=by omega
  refine {bld:=hr.bld.frame2 fun b π hb=>⟨rfl,zhI hb hnL g1 g3⟩,fl:=hr.fl,rel:=hr.rel.frame (fun _ _ _ _=>rfl) (fun π b _ hq=> ?_),box:=fun hb=> ?_}
  ·exact QObj.turn (fun b hb=>zeo hb) (fun b π hb=>zhI hb hnL g1 g3) π b hq
  ·obtain ⟨b,off,cs',ty,k1,k2,k3,k4,k5⟩:=hr.box hb
   exact ⟨b,off,cs',ty,k1,zhI k2 hnL g1 g3,k3,k4,k5⟩
 ·rw[←h]
  have:=I.olen;simp only[List.length_map,List.length_take];show min S.na (after A.ups S.o).length=_;rw[hol];omega
 ·obtain ⟨g1,g2,g3,ob0,g4,g5,g6⟩:=hlive n ob ho hk
  obtain ⟨ob1,k1,k2,k3,k4,k5,k6⟩:=I.start n ob0 g1 g4;rw[hobs]at k1;exact ⟨ob1,k1,k2.trans g5.symm,k3.trans g6.symm,k4,fun hb hb2=>k6 (g5▸hb) (g5▸hb2)⟩
 ·have hcells:rv.cells=tcs:=by rw[←h]
  subst hcells;obtain ⟨r,x,d,o,hr,hx,hd,hw,htc'⟩:=t4 i hi;have hi1:i<cs.length:=by omega
  have hi2:i<ds.length:=by omega
  have hxc:cs[i]=x:=by rw[List.getElem?_eq_getElem hi1]at hx;exact Option.some.inj hx
  have hdc:ds[i]=d:=by rw[List.getElem?_eq_getElem hi2]at hd;exact Option.some.inj hd
  have hv:=hcell i hi1;rw[hxc]at hv;have hrel:=B.rel i hi2;rw[hdc,Nat.zero_add,show ws.getD i .sh=o from by rw[List.getD_eq_getElem?_getD,hw];rfl]at hrel
  rw[hna]
  -- from what is on its way to what is new
  have hfin:∀b ρ,G1 b=some (lim S,i::ρ)→Gf b=zcg S.na rs.cells (i::ρ):=fun b ρ h=>zqN hLF h
  have hnp:x.isPtr=false→us' i=flatU rs zs i:=fun hp=>by
   simp only[us',hx];cases x<;>first|rfl|simp[A1.isPtr]at hp
  unfold tcOf at htc';split at htc'
  ·rename_i j
   split at htc'
   ·rename_i b n p c
    split at htc'
    case isFalse=>simp at htc'
    rename_i hc;obtain ⟨rfl,hn,hnt⟩:=hc;simp only[Option.some.injEq]at htc';rw[←htc'];cases b with
    |false=>exact hv
    |true=>
     obtain ⟨ad,ob,hp,hu⟩:=hv;have hnt:n∉A.tch:=by simpa using hnt
     have hob1:obs1 n=some ob:=by rw[B.mvd.keep n hnt];exact hp.at0
     have hon:rv.objs[n]? =some ob:=by
      rw[←h];have h3:=hobj1 n;rw[hob1,List.getD_eq_getElem?_getD]at h3;have hlt:n<(after A.ups S.o).length:=by rw[hol];have:=I.olen;omega
      rw[List.getElem?_eq_getElem hlt,Option.getD_some]at h3;show (((after A.ups S.o).take S.na).map fun x=>x.getD ⟨.ro,[],[]⟩)[n]? =some ob
      rw[List.getElem?_map,List.getElem?_take_of_lt hn,List.getElem?_eq_getElem hlt,h3];rfl
     obtain ⟨ob0,s1,s2,s3,s4,s5,s6⟩:=I.start n ob hn hp.at0;refine ⟨ad,ob,{at0:=hon,path:=hp.path,at_:=hp.at_,spot:=hp.spot,ro:=fun hk=> ?_,virt:=hp.virt},fun hk=> ?_,hu⟩
     ·obtain ⟨k1,ad0,k2,k3⟩:=hp.ro hk
      exact ⟨k1,ad0,k2,k3.frame fun b _ hb=>⟨rfl,zeo (B.mvd.gnone b hb)⟩⟩
     ·rw[←s5 hk]
      exact ⟨s1,s6 (by rw[hk];simp) (by rw[hk];rfl)⟩
   ·simp only[Option.some.injEq]at htc'
    rw[←htc'];exact hv
   ·simp at htc'
  ·rename_i r' hnptr
   cases hp:x.isPtr with
   |true=>rw[hp]at htc';simp at htc'
   |false=>
    rw[hp]at htc';rw[hnp hp]at hrel;simp only[Bool.false_eq_true,if_false]at htc';split at htc'
    ·split at htc'
     case isFalse=>simp at htc'
     rename_i ho;subst ho;simp only[Option.some.injEq]at htc';rw[←htc'];refine Rel.mono hrel fun π b hq=> ?_
     have hq:G1 b=some (lim S,i::π):=hq;show Gf b=_;rw[hfin b π hq];simp only[zcg,hr]
    ·split at htc'
     case isTrue=>simp at htc'
     rename_i ho;simp only[Option.some.injEq]at htc';rw[←htc'];refine Rel.mono hrel fun π b hq=> ?_
     show if π=[]then Gf b=some (S.na,[i])else Gf b=none
     cases o with
     |sh=>exact absurd rfl ho
     |deep=>
      have hq:G1 b=some (lim S,i::π):=hq;rw[hfin b π hq];simp only[zcg,hr];split<;>simp_all
     |top=>
      simp only[QCell]at hq;by_cases hπ:π=[]
      ·subst hπ
       rw[if_pos rfl]at hq⊢;rw[hfin b [] hq];simp only[zcg,hr];simp
      ·rw[if_neg hπ]at hq⊢
       exact zeo hq
    ·simp only[Option.some.injEq]at htc'
     rw[←htc'];refine Rel.mono hrel fun π b hq=> ?_
     show Gf b=none;have hsh:∀ρ,zcg S.na rs.cells (i::ρ)=none:=fun ρ=>by simp only[zcg,hr]
     cases o with
     |sh=>exact zeo hq
     |deep=>
      have hq:G1 b=some (lim S,i::π):=hq;rw[hfin b π hq,hsh]
     |top=>
      simp only[QCell]at hq;by_cases hπ:π=[]
      ·subst hπ
       rw[if_pos rfl]at hq;rw[hfin b [] hq,hsh]
      ·rw[if_neg hπ]at hq
       exact zeo hq
    ·simp only[Option.some.injEq]at htc'
     rw[←htc'];exact hrel.val
    ·simp only[Option.some.injEq]at htc'
     rw[←htc'];exact hrel.val
    ·simp only[Option.some.injEq]at htc'
     rw[←htc'];exact hrel.val
    ·simp at htc'
def finB(na:Nat)(fs:List R1):List Nat→Option (Nat×List Nat)
 | []=>some (na,[])
 |i::ρ=>zcg na fs (i::ρ)
def gBox(na L:Nat)(fs:List R1)(obs:Obs)(G1:Ghost):Ghost:=fun b=>
 match G1 b with
 |none=>none
 |some (n,π)=>if n=FR then some (FR,π)else if n=L then finB na fs π else if n<na∧liveB obs n=true then some (n,π)else none
theorem zr3{na:Nat}{fs:List R1}{π:List Nat}{x:Nat×List Nat}(h:finB na fs π=some x):x.1=na∧x.2=π:=by
 cases π with
 |nil=>obtain rfl:=Option.some.inj h;exact ⟨rfl,rfl⟩
 |cons i ρ=>
  have h:zcg na fs (i::ρ)=some x:=h;exact ⟨(zi0 h).1,zi1 h⟩
theorem zeN{na L:Nat}{fs:List R1}{obs:Obs}{b:Nat}(h:G b=none):gBox na L fs obs G b=none:=by simp[gBox,h]
theorem zr4{na L:Nat}{fs:List R1}{obs:Obs}{b:Nat}{π:List Nat}(h:G b=some (FR,π)):gBox na L fs obs G b=some (FR,π):=by simp[gBox,h]
theorem zqO{na L:Nat}{fs:List R1}{obs:Obs}{b:Nat}{π:List Nat}(hL:L≠FR)(h:G b=some (L,π)):gBox na L fs obs G b=finB na fs π:=by simp[gBox,h,hL]
theorem zhJ{na L:Nat}{fs:List R1}{obs:Obs}{b n:Nat}{π:List Nat}(h:G b=some (n,π))(hL:n≠L)(hn:n<na)(hl:liveB obs n=true):gBox na L fs obs G b=some (n,π):=by
 simp only[gBox,h];split
 ·rename_i h0;rw[h0]
 ·rw[if_pos ⟨hn,hl⟩]
theorem zjH{na L:Nat}{fs:List R1}{obs:Obs}{b:Nat}{x:Nat×List Nat}(h:gBox na L fs obs G b=some x):
 ∃y,G b=some y∧x.2=y.2∧(x.1=FR∨x.1=na∨(x.1<na∧G b=some x∧liveB obs x.1=true)):=by
 unfold gBox at h;split at h
 ·simp at h
 rename_i n π hg;refine ⟨_,hg, ?_⟩;split at h
 ·obtain rfl:=Option.some.inj h;exact ⟨rfl, .inl rfl⟩
 ·split at h
  ·obtain ⟨h1,h2⟩:=zr3 h;exact ⟨h2, .inr (.inl h1)⟩
  ·split at h
   ·rename_i hc;obtain rfl:=Option.some.inj h;exact ⟨rfl, .inr (.inr ⟨hc.1,hg,hc.2⟩)⟩
   ·simp at h
theorem zm7{objs:List Obj}(hna:objs.length=S.na)(hobs:G0.obs=obOf objs)(I:Inv W0 G0 S w a.tmps G pl){fs:List R1}{v:Value}{rv:Res}{L:Nat}(hL:S.na≤L)(hLF:L≠FR)
 (ho:rv.objs=(S.o.take S.na).map fun x=>x.getD ⟨.ro,[],[]⟩)
 (hr:∃us,(ResAt (.fresh fs) v us∨Fresh w (gBox S.na L fs S.obj G) objs.length (.fresh fs) v us rv.cells)∧
   ∀i (h:i<rv.cells.length),TCOk G0 w (gBox S.na L fs S.obj G) (obOf rv.objs) pl objs.length i (us i) (rv.cells[i])):
 PV.Left W0 G0 objs (.fresh fs) w v rv (gBox S.na L fs S.obj G) pl:=by
 have hrv:∀n ob,rv.objs[n]? =some ob→n<S.na∧((S.obj n=some ob)∨(S.obj n=none∧ob.kind= .ro∧ob.row=[])):=fun n ob hn=>by
  rw[ho]at hn;simp only[List.getElem?_map,Option.map_eq_some_iff]at hn;obtain ⟨x,h1,h2⟩:=hn;rw[List.getElem?_take]at h1;split at h1
  ·rename_i hlt
   refine ⟨hlt, ?_⟩
   have h3:S.obj n=x:=by
    show S.o.getD n none=x;rw[List.getD_eq_getElem?_getD,h1];rfl
   cases x with
   |some y=>left;rw[h3];simpa using h2
   |none=>right;refine ⟨h3, ?_⟩;simp only[Option.getD_none]at h2;subst h2;exact ⟨rfl,rfl⟩
  ·simp at h1
 have hlive:∀n ob,rv.objs[n]? =some ob→ob.kind≠ .ro→n<S.na∧S.obj n=some ob∧liveB S.obj n=true:=fun n ob hn hk=>by
  obtain ⟨h1,h2⟩:=hrv n ob hn;rcases h2 with h2|h2
  ·exact ⟨h1,h2,by simp[liveB,h2,hk]⟩
  ·exact absurd h2.2.1 hk
 refine {os:=I.os,output:=I.output,tape:=I.tape,hsize:=I.hsize,base:=fun b hb h0=> ?_,fr:=fun b π hb h0=> ?_,out:=fun n b off ob hn ho hG hbase k hk=> ?_,own:=fun b x hx=> ?_,dom:=fun b x hx=> ?_,
         okObjs:=fun n ob ho hk=> ?_,olen:= ?_,start:=fun n ob hn ho hk=> ?_,res:=hr}
 ·obtain ⟨h1,h2⟩:=I.base b hb h0
  exact ⟨h1,zeN h2⟩
 ·obtain ⟨h1,h2⟩:=I.fr b π hb h0
  rw[h0]at h2;exact ⟨h1,by rw[h0];exact zr4 h2⟩
 ·obtain ⟨y,_,_,h3⟩:=zjH hG
  have hn':n<S.na:=by omega
  have hs:=I.small;have ho2:=I.olen;simp only at h3;rcases h3 with h3|h3|⟨_,h3,h4⟩
  ·omega
  ·omega
  ·have hkr:ob.kind≠ .ro:=by
    rcases (hrv n ob ho).2 with h5|h5
    ·unfold liveB at h4;rw[h5]at h4;simpa using h4
    ·unfold liveB at h4;rw[h5.1]at h4;simp at h4
   obtain ⟨_,g1,_⟩:=hlive n ob ho hkr;exact I.out n b off ob hn' h3 hbase g1 k hk
 ·obtain ⟨y,hy,he,_⟩:=zjH hx
  exact (I.own b y hy).moved (fun h=>he▸h) rfl
 ·obtain ⟨y,_,_,h3⟩:=zjH hx
  rcases h3 with h3|h3|h3
  ·exact .inr h3
  ·exact .inl (by omega)
  ·exact .inl (by omega)
 ·obtain ⟨g1,g2,g3⟩:=hlive n ob ho hk
  have hr:=I.objs n ob g2 hk;have hnL:n≠L:=by omega
  refine {bld:=hr.bld.frame2 fun b π hb=>⟨rfl,zhJ hb hnL g1 g3⟩,fl:=hr.fl,rel:=hr.rel.frame (fun _ _ _ _=>rfl) (fun π b _ hq=> ?_),box:=fun hb=> ?_}
  ·exact QObj.turn (fun b hb=>zeN hb) (fun b π hb=>zhJ hb hnL g1 g3) π b hq
  ·obtain ⟨b,off,cs',ty,k1,k2,k3,k4,k5⟩:=hr.box hb
   exact ⟨b,off,cs',ty,k1,zhJ k2 hnL g1 g3,k3,k4,k5⟩
 ·rw[ho]
  have:=I.olen;simp only[List.length_map,List.length_take];omega
 ·obtain ⟨g1,g2,g3⟩:=hlive n ob ho hk
  obtain ⟨ob1,k1,k2,k3,k4,k5,k6⟩:=I.start n ob g1 g2;rw[hobs]at k1;exact ⟨ob1,k1,k2,k3,k4,fun hb hb2=>k6 hb hb2⟩
def zv:R1→Value
 | .int k=> .int k 0
 | .bool=> .bool false
 | .str=> .string ⟨#[]⟩
 | .sh=> .slice none 0 0
 | .own _=> .slice none 0 0
 | .any=>undef
 | .ptr _=> .pointer none
theorem zv_ok{w:World}{obs:Obs}{N i:Nat}(r:R1):TCOk G0 w G obs pl N i (zv r) r.zero:=by
 cases r with
 |int k=>rfl
 |bool=>rfl
 |str=>rfl
 |sh=>exact .e _ _
 |own wn=>exact .e _ _
 |any=>trivial
 |ptr j=>rfl
theorem zkZ:∀(fs:List R1) {ds:List D} {ws:List Own} {tcs:List TC},tcsF fs ds ws=some tcs→ds.length=fs.length∧tcs.length=fs.length∧
 ∀i (h:i<tcs.length),∃r d,fs[i]? =some r∧ds[i]? =some d∧tcF r d (ws.getD i .sh)=some (tcs[i])
 | [],ds,ws,tcs,h=>by
  cases ds with
  |nil=>
   simp only[tcsF,Option.some.injEq]at h;subst h;exact ⟨rfl,rfl,fun i h=>absurd h (by simp)⟩
  |cons d ds=>simp[tcsF]at h
 |r::fs,ds,ws,tcs,h=>by
  cases ds with
  |nil=>simp[tcsF]at h
  |cons d ds=>
   simp only[tcsF]at h;split at h
   case h_2=>simp at h
   rename_i c hc;split at h
   case h_2=>simp at h
   rename_i cs hcs;simp only[Option.some.injEq]at h;subst h;obtain ⟨h1,h2,h3⟩:=zkZ fs hcs;refine ⟨by simp[h1],by simp[h2],fun i hi=> ?_⟩
   cases i with
   |zero=>exact ⟨r,d,rfl,rfl,by cases ws<;>exact hc⟩
   |succ i=>
    obtain ⟨r',d',k1,k2,k3⟩:=h3 i (by simpa using hi)
    refine ⟨r',d',by simpa using k1,by simpa using k2, ?_⟩
    have:ws.getD (i+1) .sh=ws.tail.getD i .sh:=by cases ws<;>simp
    rw[this];exact k3
theorem zo2{objs:List Obj}(hna:objs.length=S.na)(hobs:G0.obs=obOf objs)(I:Inv W0 G0 S w a.tmps G pl){fn:Func}{rv:Res}{fs:List R1}{as:List AV}(has:zfp X.P S fn.results.toList=some as)(h:outF S fs as=some rv):
 ∃v G' pl',(results fn a.tmps).run X.P w= .ok v w∧PV.Left W0 G0 objs (.fresh fs) w v rv G' pl':=by
 obtain ⟨zs,hz1,hz2,hz3⟩:=ziZ I _ has
 have hrun:(results fn a.tmps).run X.P w= .ok (if h:zs.toArray.size=1 then zs.toArray[0]else .tuple zs.toArray) w:=by
  rw[ziY]
  have:(fn.results.mapM (ziX a.tmps)).run X.P w= .ok zs.toArray w:=by
   rw[←Array.toArray_toList (xs:=fn.results),List.mapM_toArray];exact zlR hz1
  rw[run_bind this];rfl
 have hLF:lim S≠FR:=Nat.ne_of_lt I.small;have hnaL:S.na≤lim S:=by have:=I.olen;unfold lim;omega
 unfold outF at h;split at h
 ·obtain rfl:=Option.some.inj h
  obtain ⟨z,hz⟩:=List.length_eq_one_iff.1 hz2;subst hz;have hv:z= .pointer none:=hz3 0 (by simp)
  refine ⟨z,gBox S.na (lim S) fs S.obj G,pl,hrun,zm7 hna hobs I hnaL hLF rfl ⟨fun i=>if h:i<fs.length then zv fs[i]else .bool false, .inr ?_,fun i hi=> ?_⟩⟩
  ·have:((fs.map R1.zero++[TC.v (.bool false)]).getD fs.length .d).bool=false:=by
    rw[List.getD_eq_getElem?_getD,List.getElem?_append_right (by simp)]
    simp;rfl
   simp only[Fresh,this];exact hv
  ·by_cases hlt:i<fs.length
   ·simp only[hlt,dif_pos]
    rw[List.getElem_append_left (by simpa using hlt),List.getElem_map]
    exact zv_ok _
   ·simp only[hlt,dif_neg,not_false_eq_true]
    rw[List.getElem_append_right (by simpa using hlt)]
    simp only[List.getElem_singleton];rfl
 ·rename_i n
  split at h
  ·simp at h
  rename_i hn;split at h
  case h_2=>simp at h
  rename_i ob hob;split at h
  case isFalse=>simp at h
  rename_i hk;obtain ⟨hk,hsmall⟩:=hk;split at h
  case h_2=>simp at h
  rename_i tcs htc;obtain rfl:=Option.some.inj h;obtain ⟨z,hz⟩:=List.length_eq_one_iff.1 hz2;subst hz;have hv:V1 w G S.obj pl z (.p true n [] 0):=hz3 0 (by simp)
  obtain ⟨ad,ob',hp,hu⟩:=hv;rw[hp.at0]at hob;obtain rfl:=Option.some.inj hob
  have hnF:n≠FR:=by
   have:=zdc hp.at0;have:=I.small;unfold lim at this;omega
  have hor:=I.objs n ob' hp.at0 (by rw[hk];simp)
  obtain ⟨b,off,cs,ty,k1,k2,k3,k4,k5⟩:=hor.box hk;have hat:=hp.at_;simp only[zaD,k1,Option.some.injEq]at hat;obtain ⟨t1,t2,t3⟩:=zkZ fs htc;have hfin:∀b ρ,G b=some (n,ρ)→gBox S.na n fs S.obj G b=finB S.na fs ρ:=fun b ρ h=>zqO hnF h
  refine ⟨z,gBox S.na n fs S.obj G,pl,hrun,zm7 hna hobs I (by omega) hnF rfl ⟨fun i=>if i<fs.length then (pl n).hd i else if i=FI then z else .bool true, .inr ?_,fun i hi=> ?_⟩⟩
  ·have hfl:((tcs++[TC.v (.bool true)]).getD fs.length .d).bool=true:=by
    rw[List.getD_eq_getElem?_getD,List.getElem?_append_right (by omega),t2,Nat.sub_self]
    rfl
   simp only[Fresh,hfl,if_true];refine ⟨b,off,cs,ty, ?_, ?_, ?_,k3,by omega,fun c hc=> ?_⟩
   ·show z=_
    rw[hu,←hat];rfl
   ·simp only[if_neg (show ¬FI<fs.length by unfold FI;omega),if_true]
   ·rw[hfin b [] k2,hna];rfl
   ·rw[if_pos hc];exact k5 c (by omega)
  ·by_cases hlt:i<fs.length
   ·have hi2:i<tcs.length:=by omega
    simp only[if_pos hlt];rw[List.getElem_append_left hi2,hna];obtain ⟨r,d,hr,hd,htc'⟩:=t3 i hi2;have hi3:i<ob'.row.length:=by omega
    have hdc:ob'.row[i]=d:=by rw[List.getElem?_eq_getElem hi3]at hd;exact Option.some.inj hd
    have hrel:=hor.rel i hi3;rw[hdc]at hrel;have hrel:Rel w (QCell G n i (ob'.fl.getD i .sh)) ((pl n).hd i) d:=hrel;generalize ob'.fl.getD i .sh=o at hrel htc';have hfin':∀b ρ,G b=some (n,i::ρ)→gBox S.na n fs S.obj G b=zcg S.na fs (i::ρ):=fun b ρ h=>hfin b (i::ρ) h
    generalize hT:tcs[i]=T at htc';unfold tcF tcOf at htc';split at htc'
    ·simp at htc'
    ·rename_i r' hnptr
     simp only[A1.isPtr,Bool.false_eq_true,if_false]at htc';split at htc'
     ·split at htc'
      case isFalse=>simp at htc'
      rename_i ho;subst ho;simp only[Option.some.injEq]at htc';rw[←htc'];refine Rel.mono hrel fun π b hq=> ?_
      have hq:G b=some (n,i::π):=hq;show gBox S.na n fs S.obj G b=_;rw[hfin' b π hq];simp only[zcg,hr]
     ·split at htc'
      case isTrue=>simp at htc'
      rename_i ho;simp only[Option.some.injEq]at htc';rw[←htc'];refine Rel.mono hrel fun π b hq=> ?_
      show if π=[]then gBox S.na n fs S.obj G b=some (S.na,[i])else gBox S.na n fs S.obj G b=none
      cases o with
      |sh=>exact absurd rfl ho
      |deep=>
       have hq:G b=some (n,i::π):=hq;rw[hfin' b π hq];simp only[zcg,hr];split<;>simp_all
      |top=>
       simp only[QCell]at hq;by_cases hπ:π=[]
       ·subst hπ
        rw[if_pos rfl]at hq⊢;rw[hfin' b [] hq];simp only[zcg,hr];simp
       ·rw[if_neg hπ]at hq⊢
        exact zeN hq
     ·simp only[Option.some.injEq]at htc'
      rw[←htc'];refine Rel.mono hrel fun π b hq=> ?_
      show gBox S.na n fs S.obj G b=none;have hsh:∀ρ,zcg S.na fs (i::ρ)=none:=fun ρ=>by simp only[zcg,hr]
      cases o with
      |sh=>exact zeN hq
      |deep=>
       have hq:G b=some (n,i::π):=hq;rw[hfin' b π hq,hsh]
      |top=>
       simp only[QCell]at hq;by_cases hπ:π=[]
       ·subst hπ
        rw[if_pos rfl]at hq;rw[hfin' b [] hq,hsh]
       ·rw[if_neg hπ]at hq
        exact zeN hq
     ·simp only[Option.some.injEq]at htc'
      rw[←htc'];exact hrel.val
     ·simp only[Option.some.injEq]at htc'
      rw[←htc'];exact hrel.val
     ·simp only[Option.some.injEq]at htc'
      rw[←htc'];exact hrel.val
     ·simp at htc'
   ·simp only[if_neg hlt]
    have:i=tcs.length:=by simp at hi;omega
    subst this;rw[List.getElem_append_right (Nat.le_refl _),if_neg (by unfold FI;omega)]
    simp only[Nat.sub_self,List.getElem_cons_zero];rfl
 ·simp at h
theorem zo3{objs:List Obj}(hna:objs.length=S.na)(hobs:G0.obs=obOf objs)(I:Inv W0 G0 S w a.tmps G pl){f:FuncId}{fn:Func}{rv:Res}(h:outK X f fn S=some rv):
 ∃v G' pl',(results fn a.tmps).run X.P w= .ok v w∧PV.Left W0 G0 objs (X.sig f).res w v rv G' pl':=by
 unfold outK at h;split at h
 ·simp at h
 rename_i as has;split at h
 ·rename_i fs hfs
  rw[hfs];exact zo2 hna hobs I has h
 ·exact znP hna hobs I has h
end out
end Go.PV
namespace Go.PV
open Go.RowKit
section fn
variable {w:World}{G:Ghost}{objs:List Obj}{pl:zaP}{args:Array Value}{as:List AV}{gl:List (Nat×List D)}
theorem zqP(gl:List (Nat×List D))(fn:Func)(as:List AV)(objs:List Obj)(n:Nat):(zdy fn as objs gl).obj n=obOf objs n:=by
 show (objs.map some++List.replicate fn.ntmps none).getD n none=objs[n]?;rw[List.getD_eq_getElem?_getD];rcases Nat.lt_or_ge n objs.length with h|h
 ·rw[List.getElem?_append_left (by simpa using h)]
  simp[h]
 ·rw[List.getElem?_append_right (by simpa using h),List.getElem?_eq_none h,List.getElem?_replicate]
  split<;>rfl
theorem znQ(E:Entry gl w G objs pl args as)(fn:Func)(hl:as.length≤fn.ntmps)(hs:objs.length+fn.ntmps<FR):
 Sound w ⟨G,obOf objs,pl,gl⟩ (zdy fn as objs gl) {tmps:=args++Array.replicate (fn.ntmps-args.size) undef,defers:=[]} w:=by
 have hsz:=E.size;have hobs:(zdy fn as objs gl).obj=obOf objs:=funext (zqP gl fn as objs)
 refine ⟨rfl,G,pl,{size:= ?_,tmps:=fun t=> ?_,objs:=by rw[hobs];exact E.okObjs,own:=E.own,base:=fun b _ h=>⟨rfl,h⟩,os:=rfl,output:=rfl,tape:=rfl,hsize:=Nat.le_refl _,
                   nolim:=fun b x h=> ?_,out:=fun _ _ _ _ _ _ _ _ _ _=>rfl,small:= ?_,start:=fun n ob hn ho=> ?_,fr:=fun b π _ h=>⟨rfl,rfl⟩,olen:= ?_,glob:=E.glob,gl:=rfl}⟩
 ·simp[zdy,hsz]
 ·rw[hobs]
  simp only[zdy];rcases Nat.lt_or_ge t as.length with h|h
  ·have h2:t<args.size:=by omega
   have e1:(as++List.replicate (fn.ntmps-as.length) (AV.one .dead)).getD t (.one .dead)=as[t]:=by
    rw[List.getD_eq_getElem?_getD,List.getElem?_append_left h];simp[h]
   have e2:(args++Array.replicate (fn.ntmps-args.size) undef).getD t undef=args.getD t undef:=by
    rw[Array.getD_eq_getD_getElem?,Array.getElem?_append_left h2,Array.getD_eq_getD_getElem?]
   rw[e1,e2];exact E.vals t h
  ·have e1:(as++List.replicate (fn.ntmps-as.length) (AV.one .dead)).getD t (.one .dead)= .one .dead:=by
    rw[List.getD_eq_getElem?_getD,List.getElem?_append_right h,List.getElem?_replicate];split<;>rfl
   rw[e1];trivial
 ·rcases E.nolim b x h with h|h
  ·left;simp[zdy];omega
  ·exact .inr h
 ·simpa[zdy]using hs
 ·rw[hobs]at ho
  exact ⟨ob,ho,rfl,rfl,rfl,fun _=>rfl,fun _ _=>rfl⟩
 ·simp[zdy];omega
def ExtOk(Y:Prm)(f:FuncId)(F:List AV→List Obj→Option Res):Prop:=∀as objs rv,F as objs=some rv→
 (∃fn,Y.P.funcs[f]? =some fn∧fn.body.isSome=true∧(fn.name== "runtime.NumGoroutine")=false)∧
 ∀w G pl args,Entry Y.gl w G objs pl args as→Calls Y.P f args w fun e w'=>∃v G' pl',e= .returned v∧PV.Left w ⟨G,obOf objs,pl,Y.gl⟩ objs (Y.sig f).res w' v rv G' pl'
theorem zo4{Y:Prm}{call:FuncId→List AV→List Obj→Option Res}(hX:zfl (Y.ctx call) Y.gl){f:FuncId}{fn:Func}{c:Code}{m:Nat}(hf:Y.P.funcs[f]? =some fn)(hb:fn.body=some c){objs:List Obj}{as:List AV}{rv:Res}
 (hl:as.length≤fn.ntmps) (hs:objs.length+fn.ntmps<FR) {x:Ex} {S:St} (hx:∀id,x≠ .exit id) (h:ev0 (Y.ctx call) f m c (zdy fn as objs Y.gl)=some (x,S)) (ho:outK (Y.ctx call) f fn S=some rv)
 {w:World} {G:Ghost} {pl:zaP} {args:Array Value} (E:Entry Y.gl w G objs pl args as):Calls Y.P f args w fun e w'=>∃v G' pl',e= .returned v∧PV.Left w ⟨G,obOf objs,pl,Y.gl⟩ objs (Y.sig f).res w' v rv G' pl':=by
 refine calls_of_wp hf hb ?_;refine ev0_wp hX c (znQ E fn hl hs) h fun a' w' hlk hS=> ?_
 obtain ⟨hd,G1,pl1,I⟩:=hS;obtain ⟨v,G',pl',h1,h2⟩:=zo3 (X:=Y.ctx call) (objs:=objs) hlk.1.symm rfl I ho;cases x with
 |normal=>exact ⟨hd,v,h1,v,G',pl',rfl,h2⟩
 |ret=>exact ⟨hd,v,h1,v,G',pl',rfl,h2⟩
 |exit id=>exact absurd rfl (hx id)
theorem zr5(Y:Prm)(hext:∀f F,Y.ext f=some F→ExtOk Y f F):∀m,zfl (Y.ctx (runF Y m)) Y.gl:=by
 intro m
 induction m with
 |zero=>intro f as objs rv h;exact absurd h (by simp[Prm.ctx,runF])
 |succ m ih=>
  intro f as objs rv h;have h:runF Y (m+1) f as objs=some rv:=h;simp only[runF]at h;split at h
  ·rename_i F hF
   exact hext f F hF as objs rv h
  ·split at h
   ·simp at h
   rename_i fn hf;split at h
   ·simp at h
   rename_i c hb;split at h
   case isFalse=>simp at h
   rename_i hc;refine ⟨⟨fn,hf,by rw[hb];rfl,hc.2.2⟩,fun w G pl args E=> ?_⟩
   split at h
   ·rename_i S hev
    exact zo4 ih hf hb hc.1 hc.2.1 (by simp) hev h E
   ·rename_i S hev
    exact zo4 ih hf hb hc.1 hc.2.1 (by simp) hev h E
   ·simp at h
open Classical in
noncomputable def lim'(Y:Prm)(f:FuncId)(as:List AV)(objs:List Obj):Option Res:=
 if h:∃rv m,runF Y m f as objs=some rv then some h.choose else none
theorem lim_ok(Y:Prm)(hext:∀f F,Y.ext f=some F→ExtOk Y f F):zfl (Y.ctx (lim' Y)) Y.gl:=by
 intro f as objs rv h;have h:lim' Y f as objs=some rv:=h;unfold lim' at h;split at h
 ·rename_i hh
  have hs:=hh.choose_spec;rw[Option.some.inj h]at hs;obtain ⟨m,hm⟩:=hs;exact zr5 Y hext m f as objs rv hm
 ·simp at h
end fn
end Go.PV
namespace Go.PV
abbrev CallT:=FuncId→List AV→List Obj→Option Res
abbrev Qry:=FuncId×List AV×List Obj×Res
def Supp(c:CallT)(qs:List Qry):Prop:=∀q∈qs,c q.1 q.2.1 q.2.2.1=some q.2.2.2
theorem Supp.nil(c:CallT):Supp c []:=fun q h=>absurd h (by simp)
theorem Supp.append{c:CallT}{a b:List Qry}(h:Supp c a)(k:Supp c b):Supp c (a++b):=fun q hq=>(List.mem_append.1 hq).elim (h q) (k q)
theorem Supp.left{c:CallT}{a b:List Qry}(h:Supp c (a++b)):Supp c a:=fun q hq=>h q (List.mem_append_left _ hq)
theorem Supp.right{c:CallT}{a b:List Qry}(h:Supp c (a++b)):Supp c b:=fun q hq=>h q (List.mem_append_right _ hq)
section supp
variable {Y:Prm}{c:CallT}
theorem znR{f:FuncId}{args:List AV}{na:Nat}{F:Foot}{dst:Option Tmp}{e:Rec}(h:callK (Y.ctx c) f args na F dst some=some e):
 ∃qs,Supp c qs∧∀c2,Supp c2 qs→callK (Y.ctx c2) f args na F dst some=some e:=by
 obtain ⟨as,E,rv,h1,h2,h3,h4,h5,h6⟩:=ziU h;refine ⟨[(f,as,E.cos.map (·.ob),rv)],fun q hq=>by simp only[List.mem_singleton]at hq;subst hq;exact h3,fun c2 h7=> ?_⟩
 have h8:c2 f as (E.cos.map (·.ob))=some rv:=h7 (f,as,_,rv) (List.mem_singleton.2 rfl)
 have h1:zcS F (Y.sig f) 0 {} args=some (as,E):=h1;have h4:zac (Y.sig f).res.cells rv.cells=true:=h4;rw[zfU];unfold zkk;show (match zcS F (Y.sig f) 0 {} args with|some (as,E)=>_|none=>_)=_
 rw[h1];simp only[h2,if_true];show (c2 f as (E.cos.map (·.ob))).bind _=_
 rw[h8,Option.bind_some];show (bif zac (Y.sig f).res.cells rv.cells&&za3 E.cos rv.objs then _ else none)=_;rw[h4,h5,h6];cases dst with
 |none=>rfl
 |some d=>simp only[Bool.and_self,cond_true];exact zoL (rs:=((Y.ctx c2).sig f).res) h4 _
theorem zo5{mv:Bool}{o:Oper}{na:Nat}{vs:List AV}{F:Foot}{e:Rec}(h:effK (Y.ctx c) mv o na vs F some=some e):
 ∃qs,Supp c qs∧∀c2,Supp c2 qs→effK (Y.ctx c2) mv o na vs F some=some e:=by
 by_cases hc:∃fx args ts fn caps as,o.op= .call ⟨.value fx,args,ts⟩∧vs= .f fn caps::as
 ·obtain ⟨fx,args,ts,fn,caps,as,h1,rfl⟩:=hc
  have he:∀c,effK (Y.ctx c) mv o na (.f fn caps::as) F some=callK (Y.ctx c) fn (as++caps.map .one) na F o.dst some:=fun c=>by
   unfold effK;rw[h1]
  rw[he]at h;obtain ⟨qs,h2,h3⟩:=znR h;exact ⟨qs,h2,fun c2 h4=>by rw[he];exact h3 c2 h4⟩
 ·refine ⟨[],Supp.nil c,fun c2 _=> ?_⟩
  rw[←h];unfold effK;split<;>try rfl
  rename_i cl hop;split<;>try rfl
  rename_i fy fn caps as hcal;exfalso
  obtain ⟨cal,args,ts⟩:=cl;have hcal:cal= .value fy:=hcal;subst hcal;exact hc ⟨_,_,_,_,_,_,hop,rfl⟩
theorem zm8{mv:Bool}{o:Oper}{S:St}{e:Rec}(h:S.opK (Y.ctx c) mv o some=some e):
 ∃qs,Supp c qs∧∀c2,Supp c2 qs→S.opK (Y.ctx c2) mv o some=some e:=zo5 h
theorem zi2{fn rid:Nat}{ops:Array Oper}{i:Nat}{S S1:St}{f:Fp}(h:stepR (Y.ctx c) fn rid ops i S=some (f,S1)):
 ∃qs,Supp c qs∧∀c2,Supp c2 qs→stepR (Y.ctx c2) fn rid ops i S=some (f,S1):=by
 unfold stepR at h;split at h
 ·simp at h
 rename_i o ho;rw[Option.map_eq_some_iff]at h;obtain ⟨⟨e,f'⟩,h1,h2⟩:=h;simp only[Prod.mk.injEq]at h2;obtain ⟨rfl,rfl⟩:=h2
 have key:∃qs,Supp c qs∧∀c2,Supp c2 qs→EffR (Y.ctx c2) fn rid ops i o S e f':=by
  cases zgv h1 with
  |plain hg hop=>
   obtain ⟨qs,k1,k2⟩:=zm8 hop;exact ⟨qs,k1,fun c2 h3=> .plain hg (k2 c2 h3)⟩
  |wanted hg hd hb hop=>
   obtain ⟨qs,k1,k2⟩:=zm8 hop;exact ⟨qs,k1,fun c2 h3=> .wanted hg hd hb (k2 c2 h3)⟩
  |not hg hd hb hn=>exact ⟨[],Supp.nil c,fun c2 _=> .not hg hd hb hn⟩
  |odd hg hd hb hn=>exact ⟨[],Supp.nil c,fun c2 _=> .odd hg hd hb hn⟩
 obtain ⟨qs,k1,k2⟩:=key;refine ⟨qs,k1,fun c2 h3=> ?_⟩
 unfold stepR;rw[ho];simp only[zl8 (k2 c2 h3),Option.map_some]
theorem zhK{R:Type}{X:Ctx}{fn rid:Nat}{ops:Array Oper}{i:Nat}{l:List Nat}{S S1:St}{f:Fp}{k:St→Option R}(h:stepR X fn rid ops i S=some (f,S1)):opsK X fn rid ops (i::l) S k=opsK X fn rid ops l S1 k:=by
 unfold stepR at h;split at h
 ·simp at h
 rename_i o ho;rw[Option.map_eq_some_iff]at h;obtain ⟨⟨e,f'⟩,h1,h2⟩:=h;simp only[Prod.mk.injEq]at h2;obtain ⟨rfl,rfl⟩:=h2;simp only[opsK,ho];cases zgv h1 with
 |plain hg hop=>simp only[hg];rw[zcX,hop,Option.bind_some]
 |wanted hg hd hb hop=>
  rename_i j want g;simp only[hg,hd,hb];cases want with
  |true=>simp only[cond_true,if_true];rw[zdE hb,zcX,hop,Option.bind_some]
  |false=>simp only[cond_false,Bool.false_eq_true,if_false];rw[zdE hb,zcX,hop,Option.bind_some]
 |not hg hd hb hn=>
  rename_i j want b g;simp only[hg,hd,hb];cases b with
  |true=>
   cases want with
   |true=>exact absurd rfl hn
   |false=>simp only[cond_true,Bool.false_eq_true,if_false];rw[zdE hb]
  |false=>
   cases want with
   |true=>simp only[cond_false,if_true];rw[zdE hb]
   |false=>exact absurd rfl hn
 |odd hg hd hb hn=>
  rename_i j want x g;simp only[hg,hd,hb]
theorem zhL{R:Type}{X:Ctx}{fn rid:Nat}{ops:Array Oper}{i:Nat}{l:List Nat}{S S1:St}{f:Fp}{fps:List (Nat×Fp)}{k:St→List (Nat×Fp)→Option R}(h:stepR X fn rid ops i S=some (f,S1)):
 opsD X fn rid ops (i::l) fps S k=opsD X fn rid ops l (fps++[(i,f)]) S1 k:=by
 unfold stepR at h;split at h
 ·simp at h
 rename_i o ho;rw[Option.map_eq_some_iff]at h;obtain ⟨⟨e,f'⟩,h1,h2⟩:=h;simp only[Prod.mk.injEq]at h2;obtain ⟨rfl,rfl⟩:=h2;simp only[opsD,ho];cases zgv h1 with
 |plain hg hop=>simp only[hg];rw[zcX,hop,Option.bind_some]
 |wanted hg hd hb hop=>
  rename_i j want g;simp only[hg,hd,hb];cases want with
  |true=>simp only[cond_true,if_true];rw[zdE hb,zcX,hop,Option.bind_some]
  |false=>simp only[cond_false,Bool.false_eq_true,if_false];rw[zdE hb,zcX,hop,Option.bind_some]
 |not hg hd hb hn=>
  rename_i j want b g;simp only[hg,hd,hb];cases b with
  |true=>
   cases want with
   |true=>exact absurd rfl hn
   |false=>simp only[cond_true,Bool.false_eq_true,if_false];rw[zdE hb]
  |false=>
   cases want with
   |true=>simp only[cond_false,if_true];rw[zdE hb]
   |false=>exact absurd rfl hn
 |odd hg hd hb hn=>
  rename_i j want x g;simp only[hg,hd,hb]
theorem zo6{R:Type}{fn rid:Nat}{ops:Array Oper}:∀(l:List Nat) {S:St} {k:St→Option R} {r:R},opsK (Y.ctx c) fn rid ops l S k=some r→
 ∃qs,Supp c qs∧∀c2,Supp c2 qs→opsK (Y.ctx c2) fn rid ops l S k=some r:=by
 intro l
 induction l with
 |nil=>intro S k r h;exact ⟨[],Supp.nil c,fun _ _=>h⟩
 |cons i l ih=>
  intro S k r h;obtain ⟨f,S1,h1,h2⟩:=zjF h;obtain ⟨q1,k1,k2⟩:=zi2 h1;obtain ⟨q2,k3,k4⟩:=ih h2;exact ⟨q1++q2,k1.append k3,fun c2 h3=>by rw[zhK (k2 c2 h3.left)];exact k4 c2 h3.right⟩
theorem zo7{R:Type}{fn rid:Nat}{ops:Array Oper}:∀(l:List Nat) {fps:List (Nat×Fp)} {S:St} {k:St→List (Nat×Fp)→Option R} {r:R},opsD (Y.ctx c) fn rid ops l fps S k=some r→
 ∃qs,Supp c qs∧∀c2,Supp c2 qs→opsD (Y.ctx c2) fn rid ops l fps S k=some r:=by
 intro l
 induction l with
 |nil=>intro fps S k r h;exact ⟨[],Supp.nil c,fun _ _=>h⟩
 |cons i l ih=>
  intro fps S k r h;obtain ⟨f,S1,h1,h2⟩:=zjG h;obtain ⟨q1,k1,k2⟩:=zi2 h1;obtain ⟨q2,k3,k4⟩:=ih h2;exact ⟨q1++q2,k1.append k3,fun c2 h3=>by rw[zhL (k2 c2 h3.left)];exact k4 c2 h3.right⟩
theorem zk0{R:Type}{fn rid:Nat}{ops:Array Oper}{draw:Bool}{S:St}{k:St→Option R}{r:R}(h:zda (Y.ctx c) fn rid ops draw S k=some r):
 ∃qs,Supp c qs∧∀c2,Supp c2 qs→zda (Y.ctx c2) fn rid ops draw S k=some r:=by
 unfold zda at h⊢;by_cases h1:zhh ops S.t.length=false
 ·rw[if_pos h1]at h;simp at h
 ·simp only[if_neg h1]at h⊢
  cases draw with
  |false=>exact zo6 _ h
  |true=>
   cases he:zdZ Y.P ops with
   |false=>
    have he':zdZ (Y.ctx c).P ops=false:=he;rw[he']at h;simp at h
   |true=>
    have he':zdZ (Y.ctx c).P ops=true:=he;have he2:∀c2,zdZ (Y.ctx c2).P ops=true:=fun _=>he
    rw[he']at h;simp only[he2];exact zo7 _ h
theorem zm9{fn m:Nat}:∀(cd:Code) {S:St} {r:Ex×St},ev0 (Y.ctx c) fn m cd S=some r→∃qs,Supp c qs∧∀c2,Supp c2 qs→∀m',m≤m'→ev0 (Y.ctx c2) fn m' cd S=some r:=by
 intro cd
 induction cd with
 |skip=>intro S r h;exact ⟨[],Supp.nil c,fun _ _ _ _=>h⟩
 |label l=>intro S r h;exact ⟨[],Supp.nil c,fun _ _ _ _=>h⟩
 |exit id=>intro S r h;exact ⟨[],Supp.nil c,fun _ _ _ _=>h⟩
 |ret=>intro S r h;exact ⟨[],Supp.nil c,fun _ _ _ _=>h⟩
 |region rid ops draw=>
  intro S r h;obtain ⟨qs,h1,h2⟩:=zk0 (show zda (Y.ctx c) fn rid ops draw S (fun S'=>some (.normal,S'))=some r from h)
  exact ⟨qs,h1,fun c2 h3 _ _=>h2 c2 h3⟩
 |seq a b ih1 ih2=>
  intro S r h;simp only[ev0]at h⊢;cases h1:ev0 (Y.ctx c) fn m a S with
  |none=>rw[h1]at h;simp at h
  |some y=>
   obtain ⟨x1,S1⟩:=y;rw[h1]at h;obtain ⟨q1,k1,k2⟩:=ih1 h1;cases x1 with
   |normal=>
    obtain ⟨q2,k3,k4⟩:=ih2 h;exact ⟨q1++q2,k1.append k3,fun c2 h3 m' hm=>by rw[k2 c2 h3.left m' hm];exact k4 c2 h3.right m' hm⟩
   |exit id=>exact ⟨q1,k1,fun c2 h3 m' hm=>by rw[k2 c2 h3 m' hm];exact h⟩
   |ret=>exact ⟨q1,k1,fun c2 h3 m' hm=>by rw[k2 c2 h3 m' hm];exact h⟩
 |cond x a b ih1 ih2=>
  intro S r h;simp only[ev0]at h⊢;split at h
  ·rename_i t _
   cases t with
   |true=>exact ih1 h
   |false=>exact ih2 h
  ·simp at h
 |block id b ih=>
  intro S r h;simp only[ev0]at h⊢;cases h1:ev0 (Y.ctx c) fn m b S with
  |none=>rw[h1]at h;simp at h
  |some y=>
   rw[h1]at h;obtain ⟨q1,k1,k2⟩:=ih h1;exact ⟨q1,k1,fun c2 h3 m' hm=>by rw[k2 c2 h3 m' hm];exact h⟩
 |loop b ih=>
  intro S r h;simp only[ev0]at h⊢;have hL:∀c,(Y.ctx c).live=Y.live:=fun _=>rfl
  simp only[hL]at h⊢;generalize Y.live fn (zaS b)=L at h⊢
  have key:∀(n:Nat) (S1:St),zcR (ev0 (Y.ctx c) fn m b) L n S1=some r→∃qs,Supp c qs∧∀c2,Supp c2 qs→∀m',m≤m'→∀n',n≤n'→zcR (ev0 (Y.ctx c2) fn m' b) L n' S1=some r:=by
   intro n
   induction n with
   |zero=>intro S1 h;simp[zcR]at h
   |succ n ihn=>
    intro S1 h;simp only[zcR]at h;cases h1:ev0 (Y.ctx c) fn m b S1 with
    |none=>rw[h1]at h;simp at h
    |some y=>
     obtain ⟨x1,S2⟩:=y;rw[h1]at h;obtain ⟨q1,k1,k2⟩:=ih h1;have hn:∀n',n+1≤n'→∃n2,n'=n2+1∧n≤n2:=fun n' h=>⟨n'-1,by omega,by omega⟩
     cases x1 with
     |normal=>
      obtain ⟨q2,k3,k4⟩:=ihn _ h;refine ⟨q1++q2,k1.append k3,fun c2 h3 m' hm n' hn'=> ?_⟩
      obtain ⟨n2,rfl,h4⟩:=hn n' hn';simp only[zcR];rw[k2 c2 h3.left m' hm];exact k4 c2 h3.right m' hm n2 h4
     |exit id=>
      refine ⟨q1,k1,fun c2 h3 m' hm n' hn'=> ?_⟩
      obtain ⟨n2,rfl,h4⟩:=hn n' hn';simp only[zcR];rw[k2 c2 h3 m' hm];exact h
     |ret=>
      refine ⟨q1,k1,fun c2 h3 m' hm n' hn'=> ?_⟩
      obtain ⟨n2,rfl,h4⟩:=hn n' hn';simp only[zcR];rw[k2 c2 h3 m' hm];exact h
  obtain ⟨qs,h1,h2⟩:=key m _ h;exact ⟨qs,h1,fun c2 h3 m' hm=>h2 c2 h3 m' hm m' hm⟩
 |rangeFunc f ps a1 b ih1 ih2=>intro S r h;simp[ev0]at h
 |scope b ih=>intro S r h;simp[ev0]at h
 |goto l=>intro S r h;simp[ev0]at h
 |refuse y=>intro S r h;simp[ev0]at h
def zgM(Y:Prm)(c:CallT)(f:FuncId)(fn:Func)(m:Nat)(cd:Code)(as:List AV)(objs:List Obj):Option Res:=
 match ev0 (Y.ctx c) f m cd (zdy fn as objs Y.gl)with
 |some (.normal,S)=>outK (Y.ctx c) f fn S
 |some (.ret,S)=>outK (Y.ctx c) f fn S
 |_=>none
theorem zfw{f:FuncId}{fn:Func}{m:Nat}{cd:Code}{as:List AV}{objs:List Obj}{rv:Res}(h:zgM Y c f fn m cd as objs=some rv):
 ∃qs,Supp c qs∧∀c2,Supp c2 qs→∀m',m≤m'→zgM Y c2 f fn m' cd as objs=some rv:=by
 unfold zgM at h;cases h1:ev0 (Y.ctx c) f m cd (zdy fn as objs Y.gl)with
 |none=>rw[h1]at h;simp at h
 |some y=>
  rw[h1]at h;obtain ⟨qs,k1,k2⟩:=zm9 cd h1;refine ⟨qs,k1,fun c2 h3 m' hm=> ?_⟩
  unfold zgM;rw[k2 c2 h3 m' hm];exact h
theorem zhM(f:FuncId)(hx:Y.ext f=none){fn:Func}(hf:Y.P.funcs[f]? =some fn){cd:Code}(hb:fn.body=some cd)(m:Nat)(as:List AV)(objs:List Obj):
 runF Y (m+1) f as objs=if as.length≤fn.ntmps∧objs.length+fn.ntmps<1000000000∧(fn.name== "runtime.NumGoroutine")=false then zgM Y (runF Y m) f fn m cd as objs else none:=by
 simp only[runF,hx,hf,hb];rfl
theorem zo8:∀(m:Nat) {f:FuncId} {as:List AV} {objs:List Obj} {rv:Res},runF Y m f as objs=some rv→runF Y (m+1) f as objs=some rv:=by
 intro m
 induction m with
 |zero=>intro f as objs rv h;exact absurd h (by simp[runF])
 |succ m ih=>
  intro f as objs rv h;cases hx:Y.ext f with
  |some F=>simp only[runF,hx]at h⊢;exact h
  |none=>
   cases hf:Y.P.funcs[f]? with
   |none=>simp[runF,hx,hf]at h
   |some fn=>
    cases hb:fn.body with
    |none=>simp[runF,hx,hf,hb]at h
    |some cd=>
     rw[zhM f hx hf hb]at h⊢;split at h
     case isFalse=>simp at h
     rename_i hc;rw[if_pos hc];obtain ⟨qs,k1,k2⟩:=zfw h;exact k2 _ (fun q hq=>ih (k1 q hq)) _ (by omega)
theorem zhN{m m':Nat}(hm:m≤m'){f:FuncId}{as:List AV}{objs:List Obj}{rv:Res}(h:runF Y m f as objs=some rv):runF Y m' f as objs=some rv:=by
 induction hm with
 |refl=>exact h
 |step _ ih=>exact zo8 _ ih
theorem zo9{f:FuncId}{as:List AV}{objs:List Obj}{rv:Res}{m:Nat}(h:runF Y m f as objs=some rv):lim' Y f as objs=some rv:=by
 have hex:∃rv m,runF Y m f as objs=some rv:=⟨rv,m,h⟩;unfold lim';rw[dif_pos hex];obtain ⟨m2,h2⟩:=hex.choose_spec;have h3:=zhN (Nat.le_max_left m m2) h;have h4:=zhN (Nat.le_max_right m m2) h2;rw[h3]at h4;exact h4.symm
theorem zrp{f:FuncId}{as:List AV}{objs:List Obj}{rv:Res}(h:lim' Y f as objs=some rv):∃m,runF Y m f as objs=some rv:=by
 unfold lim' at h;split at h
 ·rename_i hex
  obtain ⟨m,hm⟩:=hex.choose_spec;rw[Option.some.inj h]at hm;exact ⟨m,hm⟩
 ·simp at h
theorem zqQ(qs:List Qry)(h:Supp (lim' Y) qs):∃m,Supp (runF Y m) qs:=by
 induction qs with
 |nil=>exact ⟨0,Supp.nil _⟩
 |cons q qs ih=>
  obtain ⟨m1,h1⟩:=ih fun q hq=>h q (List.mem_cons_of_mem _ hq)
  obtain ⟨m2,h2⟩:=zrp (h q (by simp))
  refine ⟨max m1 m2,fun x hx=> ?_⟩
  rcases List.mem_cons.1 hx with rfl|hx
  ·exact zhN (Nat.le_max_right m1 m2) h2
  ·exact zhN (Nat.le_max_left m1 m2) (h1 x hx)
theorem zpa{f:FuncId}(hx:Y.ext f=none){fn:Func}(hf:Y.P.funcs[f]? =some fn){cd:Code}(hb:fn.body=some cd){as:List AV}{objs:List Obj}{rv:Res}
 (hc:as.length≤fn.ntmps∧objs.length+fn.ntmps<1000000000∧(fn.name== "runtime.NumGoroutine")=false) {m:Nat} (h:zgM Y (lim' Y) f fn m cd as objs=some rv):lim' Y f as objs=some rv:=by
 obtain ⟨qs,k1,k2⟩:=zfw h;obtain ⟨m2,h2⟩:=zqQ qs k1;refine zo9 (m:=max m m2+1) ?_;rw[zhM f hx hf hb,if_pos hc];exact k2 _ (fun q hq=>zhN (Nat.le_max_right m m2) (h2 q hq)) _ (Nat.le_max_left m m2)
theorem zr6{f:FuncId}{F:List AV→List Obj→Option Res}(hx:Y.ext f=some F)(as:List AV)(objs:List Obj){rv:Res}(h:F as objs=some rv):lim' Y f as objs=some rv:=
 zo9 (m:=1) (by simp only[runF,hx];exact h)
end supp
end Go.PV
namespace Go.PV
def evK{R:Type}(X:Ctx)(fn:Nat)(lp:Code→St→Option (Ex×St)):Code→St→(Ex→St→Option R)→Option R
 | .skip,S,k=>k .normal S
 | .label _,S,k=>k .normal S
 | .region rid ops draw,S,k=>zda X fn rid ops draw S (k .normal)
 | .seq a b,S,k=>evK X fn lp a S fun x S'=>match x with
  | .normal=>evK X fn lp b (S'.atCut (X.live fn (zgH b))) k
  |x=>k x S'
 | .cond c a b,S,k=>match S.ev c with
  | .one (.v (.bool t))=>bif t then evK X fn lp a S k else evK X fn lp b S k
  |_=>none
 | .block id b,S,k=>evK X fn lp b S fun x S'=>match x with
  | .exit i=>if i=id then k .normal S' else k (.exit i) S'
  |x=>k x S'
 | .loop b,S,k=>(lp b (S.clean (X.live fn (zaS b)).1)).bind fun r=>k r.1 r.2
 | .exit id,S,k=>k (.exit id) S
 | .ret,S,k=>k .ret S
 |_,_,_=>none
def lpOf(X:Ctx)(fn m:Nat):Code→St→Option (Ex×St):=fun b S=>zcR (ev0 X fn m b) (X.live fn (zaS b)) m S
theorem zpb{R:Type}(X:Ctx)(fn rid:Nat)(ops:Array Oper):∀(l:List Nat) (S:St) (k:St→Option R),opsK X fn rid ops l S k=(opsK X fn rid ops l S some).bind k:=by
 intro l
 induction l with
 |nil=>intro S k;rfl
 |cons i l ih=>
  intro S k;cases h:stepR X fn rid ops i S with
  |some y=>
   obtain ⟨f,S1⟩:=y;rw[zhK h,zhK h,ih]
  |none=>
   have hn:∀{R:Type} (k:St→Option R),opsK X fn rid ops (i::l) S k=none:=fun k=>by
    cases h2:opsK X fn rid ops (i::l) S k with
    |none=>rfl
    |some r=>
     obtain ⟨f,S',h3,_⟩:=zjF h2;rw[h]at h3;simp at h3
   rw[hn,hn];rfl
theorem zk1{R:Type}(X:Ctx)(fn rid:Nat)(ops:Array Oper):∀(l:List Nat) (fps:List (Nat×Fp)) (S:St) (k:St→List (Nat×Fp)→Option R),
 opsD X fn rid ops l fps S k=(opsD X fn rid ops l fps S fun S' f=>some (S',f)).bind fun y=>k y.1 y.2:=by
 intro l
 induction l with
 |nil=>intro fps S k;rfl
 |cons i l ih=>
  intro fps S k;cases h:stepR X fn rid ops i S with
  |some y=>
   obtain ⟨f,S1⟩:=y;rw[zhL h,zhL h,ih]
  |none=>
   have hn:∀{R:Type} (k:St→List (Nat×Fp)→Option R),opsD X fn rid ops (i::l) fps S k=none:=fun k=>by
    cases h2:opsD X fn rid ops (i::l) fps S k with
    |none=>rfl
    |some r=>
     obtain ⟨f,S',h3,_⟩:=zjG h2;rw[h]at h3;simp at h3
   rw[hn,hn];rfl
theorem zc4{R:Type}(X:Ctx)(fn rid:Nat)(ops:Array Oper)(draw:Bool)(S:St)(k:St→Option R):zda X fn rid ops draw S k=(zda X fn rid ops draw S some).bind k:=by
 unfold zda;split
 ·rfl
 ·cases draw with
  |false=>exact zpb ..
  |true=>
   simp only[if_true];cases zdZ X.P ops with
   |false=>rfl
   |true=>
    simp only[cond_true];rw[zk1 X fn rid ops _ _ _ (fun S' fps=>bif zfI (Region.before ops) fps then k S' else none),zk1 X fn rid ops _ _ _ (fun S' fps=>bif zfI (Region.before ops) fps then some S' else none)]
    cases opsD X fn rid ops (List.range ops.size) [] S fun S' f=>some (S',f)with
    |none=>rfl
    |some y=>simp only[Option.bind_some];cases zfI (Region.before ops) y.2<;>rfl
theorem zpc{R:Type}(X:Ctx)(fn m:Nat):∀(c:Code) (S:St) (k:Ex→St→Option R),evK X fn (lpOf X fn m) c S k=(ev0 X fn m c S).bind fun r=>k r.1 r.2:=by
 intro c
 induction c with
 |region rid ops draw=>
  intro S k;show zda X fn rid ops draw S (k .normal)=(zda X fn rid ops draw S fun S'=>some (.normal,S')).bind fun r=>k r.1 r.2
  rw[zc4,zc4 (k:=fun S'=>some (Ex.normal,S')),Option.bind_assoc]
  rfl
 |seq a b ih1 ih2=>
  intro S k;simp only[evK,ev0];rw[ih1];cases ev0 X fn m a S with
  |none=>rfl
  |some y=>
   obtain ⟨x,S'⟩:=y;cases x with
   |normal=>exact ih2 (S'.atCut _) k
   |exit i=>rfl
   |ret=>rfl
 |cond c a b ih1 ih2=>
  intro S k;simp only[evK,ev0];split
  ·rename_i t ht
   rw[ht];cases t with
   |true=>exact ih1 S k
   |false=>exact ih2 S k
  ·rename_i hn
   split
   ·rename_i t ht;exact absurd ht (hn t)
   ·rfl
 |block id b ih=>
  intro S k;simp only[evK,ev0];rw[ih];cases ev0 X fn m b S with
  |none=>rfl
  |some y=>
   obtain ⟨x,S'⟩:=y;cases x with
   |normal=>rfl
   |exit i=>simp only[Option.bind_some];split<;>rfl
   |ret=>rfl
 |loop b _=>intro S k;rfl
 |skip=>intro S k;rfl
 |label l=>intro S k;rfl
 |exit i=>intro S k;rfl
 |ret=>intro S k;rfl
 |rangeFunc f ps a1 b ih1 ih2=>intro S k;rfl
 |scope b ih=>intro S k;rfl
 |goto l=>intro S k;rfl
 |refuse y=>intro S k;rfl
def outE(X:Ctx)(f:FuncId)(fn:Func)(x:Ex)(S:St):Option Res:=
 match x with
 | .exit _=>none
 |_=>outK X f fn S
theorem zk2(Y:Prm)(f:FuncId)(fn:Func)(m:Nat)(cd:Code)(as:List AV)(objs:List Obj):
 zgM Y (lim' Y) f fn m cd as objs=evK (Y.ctx (lim' Y)) f (lpOf (Y.ctx (lim' Y)) f m) cd (zdy fn as objs Y.gl) (outE (Y.ctx (lim' Y)) f fn):=by
 rw[zpc];unfold zgM;cases ev0 (Y.ctx (lim' Y)) f m cd (zdy fn as objs Y.gl)with
 |none=>rfl
 |some y=>
  obtain ⟨x,S⟩:=y;cases x<;>rfl
def zgN(X:Ctx)(fn:Nat)(b:Code)(S:St)(r:Ex×St):Prop:=∃m0,∀m,m0≤m→∀n,m0≤n→zcR (ev0 X fn m b) (X.live fn (zaS b)) n S=some r
section loop
variable {Y:Prm}{fn:Nat}{b:Code}{S S':St}{r:Ex×St}
end loop
theorem zr7{Y:Prm}{f:FuncId}(hx:Y.ext f=none){fn:Func}(hf:Y.P.funcs[f]? =some fn){cd:Code}(hb:fn.body=some cd){as:List AV}{objs:List Obj}{rv:Res}
 (hc:(decide (as.length≤fn.ntmps)&&decide (objs.length+fn.ntmps<1000000000)&& !(fn.name== "runtime.NumGoroutine"))=true) (h:∃m0,∀m,m0≤m→evK (Y.ctx (lim' Y)) f (lpOf (Y.ctx (lim' Y)) f m) cd (zdy fn as objs Y.gl) (outE (Y.ctx (lim' Y)) f fn)=some rv):
 lim' Y f as objs=some rv:=by
 obtain ⟨m0,h⟩:=h;simp only[Bool.and_eq_true,decide_eq_true_eq,Bool.not_eq_true']at hc;exact zpa hx hf hb ⟨hc.1.1,hc.1.2,hc.2⟩ (m:=m0) (by rw[zk2];exact h m0 (Nat.le_refl _))
end Go.PV
namespace Go.PV
def zdp(rid:Nat):Code→Bool
 | .seq a b=>zdp rid a||zdp rid b
 | .cond _ a b=>zdp rid a||zdp rid b
 | .block _ b=>zdp rid b
 | .loop b=>zaS b==rid
 |_=>false
def zan(rid:Nat):Code→Code
 | .seq a b=>match zdp rid a with
  |true=>zan rid a
  |false=>zan rid b
 | .cond _ a b=>match zdp rid a with
  |true=>zan rid a
  |false=>zan rid b
 | .block _ b=>zan rid b
 | .loop b=>b
 |c=>c
def evA{R:Type}(X:Ctx)(fn:Nat)(lp:Code→St→Option (Ex×St))(rid:Nat):Code→Ex→St→(Ex→St→Option R)→Option R
 | .seq a b,x,S,k=>bif zdp rid a then
  evA X fn lp rid a x S (fun x S'=>match x with
   | .normal=>evK X fn lp b (S'.atCut (X.live fn (zgH b))) k
   |x=>k x S')
  else evA X fn lp rid b x S k
 | .cond _ a b,x,S,k=>bif zdp rid a then evA X fn lp rid a x S k else evA X fn lp rid b x S k
 | .block id b,x,S,k=>evA X fn lp rid b x S fun x S'=>match x with
  | .exit i=>if i=id then k .normal S' else k (.exit i) S'
  |x=>k x S'
 |_,x,S,k=>k x S
def nth{α:Type}(d:α):List (Nat×α)→Nat→α
 | [],_=>d
 |(i,x)::l,n=>if i=n then x else nth d l n
def mk(na n:Nat)(ts:List (Nat×AV))(os:List (Nat×Option Obj)):St:=
 {na,t:=(List.range n).map (nth (.one .dead) ts),o:=(List.range (na+n)).map (nth none os)}
def mkG(na n:Nat)(ts:List (Nat×AV))(os:List (Nat×Option Obj))(gl:List (Nat×List D)):St:=
 {na,t:=(List.range n).map (nth (.one .dead) ts),o:=(List.range (na+n)).map (nth none os),gl}
def zaL(fn:Func):Code:=match fn.body with|some c=>c|none=> .skip
end Go.PV
namespace Go.PV
end Go.PV
namespace Go.PV
noncomputable def lpL(X:Ctx)(fn:Nat):Code→St→Option (Ex×St):=
 fun b S=>open Classical in if h:∃r,zgN X fn b S r then some h.choose else none
def backL(lp:Code→St→Option (Ex×St))(b:Code)(L:List Nat×List Nat)(x:Ex)(S:St):Option (Ex×St):=
 match x with
 | .normal=>lp b (S.clean L.1)
 |x=>some (x,S.clean L.2)
section
variable {Y:Prm}{c:CallT}{fn:Nat}
theorem zpd{b:Code}{L:List Nat×List Nat}{m:Nat}:∀(n:Nat) {S:St} {r:Ex×St},zcR (ev0 (Y.ctx c) fn m b) L n S=some r→∀m',m≤m'→∀n',n≤n'→zcR (ev0 (Y.ctx c) fn m' b) L n' S=some r:=by
 intro n
 induction n with
 |zero=>intro S r h;simp[zcR]at h
 |succ n ih=>
  intro S r h m' hm n' hn;obtain ⟨n2,rfl,h4⟩:∃n2,n'=n2+1∧n≤n2:=⟨n'-1,by omega,by omega⟩
  simp only[zcR]at h⊢;cases h1:ev0 (Y.ctx c) fn m b S with
  |none=>rw[h1]at h;simp at h
  |some y=>
   obtain ⟨x1,S2⟩:=y;rw[h1]at h;obtain ⟨q1,k1,k2⟩:=zm9 b h1;rw[k2 c k1 m' hm];cases x1 with
   |normal=>exact ih h m' hm n2 h4
   |exit id=>exact h
   |ret=>exact h
theorem zhO{b:Code}{m n:Nat}{S:St}{r:Ex×St}(h:zcR (ev0 (Y.ctx c) fn m b) ((Y.ctx c).live fn (zaS b)) n S=some r):zgN (Y.ctx c) fn b S r:=
 ⟨max m n,fun m' hm n' hn=>zpd n h m' (by omega) n' (by omega)⟩
theorem zgN.only{b:Code}{S:St}{r r':Ex×St}{X:Ctx}(h:zgN X fn b S r)(h':zgN X fn b S r'):r=r':=by
 obtain ⟨m1,h1⟩:=h;obtain ⟨m2,h2⟩:=h';have:=(h1 (max m1 m2) (by omega) (max m1 m2) (by omega)).symm.trans (h2 (max m1 m2) (by omega) (max m1 m2) (by omega))
 exact Option.some.inj this
theorem zpe{X:Ctx}{b:Code}{S:St}{r:Ex×St}(h:zgN X fn b S r):lpL X fn b S=some r:=by
 have hex:∃r,zgN X fn b S r:=⟨r,h⟩;unfold lpL;rw[dif_pos hex];exact congrArg some (hex.choose_spec.only h)
theorem zpf{X:Ctx}{b:Code}{S:St}{r:Ex×St}(h:lpL X fn b S=some r):zgN X fn b S r:=by
 unfold lpL at h;split at h
 ·rename_i hex
  have:=hex.choose_spec;rwa [Option.some.inj h]at this
 ·simp at h
theorem zna{R:Type}{X:Ctx}{lp lp':Code→St→Option (Ex×St)}(hlp:∀b S r,lp b S=some r→lp' b S=some r):∀(c:Code) (S:St) (k k':Ex→St→Option R),(∀x S r,k x S=some r→k' x S=some r)→
 ∀r,evK X fn lp c S k=some r→evK X fn lp' c S k'=some r:=by
 intro c
 induction c with
 |region rid ops draw=>
  intro S k k' hk r h;simp only[evK]at h⊢;rw[zc4,Option.bind_eq_some_iff]at h;obtain ⟨S',h1,h2⟩:=h;rw[zc4,h1];exact hk _ _ _ h2
 |seq a b ih1 ih2=>
  intro S k k' hk r h;simp only[evK]at h⊢;refine ih1 S _ _ (fun x S r h=> ?_) r h
  cases x with
  |normal=>exact ih2 _ _ _ hk _ h
  |exit i=>exact hk _ _ _ h
  |ret=>exact hk _ _ _ h
 |cond x a b ih1 ih2=>
  intro S k k' hk r h;simp only[evK]at h⊢;split at h
  ·rename_i t ht
   cases t with
   |true=>exact ih1 _ _ _ hk _ h
   |false=>exact ih2 _ _ _ hk _ h
  ·simp at h
 |block n b ih=>
  intro S k k' hk r h;simp only[evK]at h⊢;refine ih S _ _ (fun x S r h=> ?_) r h
  cases x with
  |normal=>exact hk _ _ _ h
  |exit i=>
   by_cases hi:i=n
   ·simp only[if_pos hi]at h⊢
    exact hk _ _ _ h
   ·simp only[if_neg hi]at h⊢
    exact hk _ _ _ h
  |ret=>exact hk _ _ _ h
 |loop b _=>
  intro S k k' hk r h;simp only[evK]at h⊢;rw[Option.bind_eq_some_iff]at h;obtain ⟨y,h1,h2⟩:=h;rw[hlp _ _ _ h1];exact hk _ _ _ h2
 |skip=>intro S k k' hk r h;exact hk _ _ _ h
 |label l=>intro S k k' hk r h;exact hk _ _ _ h
 |exit i=>intro S k k' hk r h;exact hk _ _ _ h
 |ret=>intro S k k' hk r h;exact hk _ _ _ h
 |rangeFunc f ps a1 b ih1 ih2=>intro S k k' hk r h;simp[evK]at h
 |scope b ih=>intro S k k' hk r h;simp[evK]at h
 |goto l=>intro S k k' hk r h;simp[evK]at h
 |refuse y=>intro S k k' hk r h;simp[evK]at h
theorem zpg{R:Type}{X:Ctx}:∀(c:Code) (S:St) (k:Ex→St→Option R) (k':Nat→Ex→St→Option R),(∀x S r,k x S=some r→∃m0,∀m,m0≤m→k' m x S=some r)→
 ∀r,evK X fn (lpL X fn) c S k=some r→∃m0,∀m,m0≤m→evK X fn (lpOf X fn m) c S (k' m)=some r:=by
 intro c
 induction c with
 |region rid ops draw=>
  intro S k k' hk r h;simp only[evK]at h⊢;rw[zc4,Option.bind_eq_some_iff]at h;obtain ⟨S',h1,h2⟩:=h;obtain ⟨m0,hm⟩:=hk _ _ _ h2;exact ⟨m0,fun m h=>by rw[zc4,h1];exact hm m h⟩
 |seq a b ih1 ih2=>
  intro S k k' hk r h;simp only[evK]at h⊢;refine ih1 S _ _ (fun x S r h=> ?_) r h
  cases x with
  |normal=>exact ih2 _ _ _ hk _ h
  |exit i=>exact hk _ _ _ h
  |ret=>exact hk _ _ _ h
 |cond x a b ih1 ih2=>
  intro S k k' hk r h;simp only[evK]at h⊢;split at h
  ·rename_i t ht
   cases t with
   |true=>exact ih1 _ _ _ hk _ h
   |false=>exact ih2 _ _ _ hk _ h
  ·simp at h
 |block n b ih=>
  intro S k k' hk r h;simp only[evK]at h⊢;refine ih S _ _ (fun x S r h=> ?_) r h
  cases x with
  |normal=>exact hk _ _ _ h
  |exit i=>
   by_cases hi:i=n
   ·simp only[if_pos hi]at h⊢
    exact hk _ _ _ h
   ·simp only[if_neg hi]at h⊢
    exact hk _ _ _ h
  |ret=>exact hk _ _ _ h
 |loop b _=>
  intro S k k' hk r h;simp only[evK]at h⊢;rw[Option.bind_eq_some_iff]at h;obtain ⟨y,h1,h2⟩:=h;obtain ⟨m1,g1⟩:=hk _ _ _ h2;obtain ⟨m2,g2⟩:=(zpf h1);refine ⟨max m1 m2,fun m hm=> ?_⟩
  have:lpOf X fn m b (S.clean (X.live fn (zaS b)).1)=some y:=g2 m (by omega) m (by omega)
  rw[this];exact g1 m (by omega)
 |skip=>intro S k k' hk r h;exact hk _ _ _ h
 |label l=>intro S k k' hk r h;exact hk _ _ _ h
 |exit i=>intro S k k' hk r h;exact hk _ _ _ h
 |ret=>intro S k k' hk r h;exact hk _ _ _ h
 |rangeFunc f ps a1 b ih1 ih2=>intro S k k' hk r h;simp[evK]at h
 |scope b ih=>intro S k k' hk r h;simp[evK]at h
 |goto l=>intro S k k' hk r h;simp[evK]at h
 |refuse y=>intro S k k' hk r h;simp[evK]at h
theorem zph{m:Nat}{b:Code}{S:St}{r:Ex×St}(h:lpOf (Y.ctx c) fn m b S=some r):lpL (Y.ctx c) fn b S=some r:=zpe (zhO h)
theorem zbi{rid:Nat}{b:Code}(hr:zaS b=rid)(S:St):lpL (Y.ctx c) fn b S=evK (Y.ctx c) fn (lpL (Y.ctx c) fn) b S (backL (lpL (Y.ctx c) fn) b ((Y.ctx c).live fn rid)):=by
 subst hr;refine Option.ext fun r=>⟨fun h=> ?_,fun h=> ?_⟩
 ·obtain ⟨m0,h1⟩:=zpf h
  have h2:=h1 (m0+1) (by omega) (m0+1) (by omega)
  refine zna (fun b S r=>zph (m:=m0+1)) b S (fun x S=>match x with
   | .normal=>zcR (ev0 (Y.ctx c) fn (m0+1) b) ((Y.ctx c).live fn (zaS b)) m0 (S.clean ((Y.ctx c).live fn (zaS b)).1)
   |x=>some (x,S.clean ((Y.ctx c).live fn (zaS b)).2)) _ (fun x S r h=> ?_) r ?_
  ·cases x with
   |normal=>exact zpe (zhO h)
   |exit i=>exact h
   |ret=>exact h
  ·rw[zpc]
   simp only[zcR]at h2;cases h3:ev0 (Y.ctx c) fn (m0+1) b S with
   |none=>rw[h3]at h2;simp at h2
   |some y=>
    obtain ⟨x,S'⟩:=y;rw[h3]at h2;cases x with
    |normal=>exact h2
    |exit i=>exact h2
    |ret=>exact h2
 ·obtain ⟨m0,h1⟩:=zpg b S _ (fun m x S=>match x with
   | .normal=>lpOf (Y.ctx c) fn m b (S.clean ((Y.ctx c).live fn (zaS b)).1)
   |x=>some (x,S.clean ((Y.ctx c).live fn (zaS b)).2)) (fun x S r h=>by
    cases x with
    |normal=>
     obtain ⟨m0,g⟩:=zpf h;exact ⟨m0,fun m hm=>g m hm m hm⟩
    |exit i=>exact ⟨0,fun m _=>h⟩
    |ret=>exact ⟨0,fun m _=>h⟩) r h
  have h2:=h1 m0 (by omega)
  rw[zpc]at h2;refine zpe (zhO (m:=m0) (n:=m0+1) ?_);simp only[zcR];cases h3:ev0 (Y.ctx c) fn m0 b S with
  |none=>rw[h3]at h2;simp at h2
  |some y=>
   obtain ⟨x,S'⟩:=y;rw[h3]at h2;cases x with
   |normal=>exact h2
   |exit i=>exact h2
   |ret=>exact h2
theorem lim_eq{Y:Prm}{f:FuncId}(hx:Y.ext f=none){fn:Func}(hf:Y.P.funcs[f]? =some fn){cd:Code}(hb:fn.body=some cd)(as:List AV)(objs:List Obj)
 (hc:(decide (as.length≤fn.ntmps)&&decide (objs.length+fn.ntmps<1000000000)&& !(fn.name== "runtime.NumGoroutine"))=true):
 lim' Y f as objs=evK (Y.ctx (lim' Y)) f (lpL (Y.ctx (lim' Y)) f) cd (zdy fn as objs Y.gl) (outE (Y.ctx (lim' Y)) f fn):=by
 refine Option.ext fun r=>⟨fun h=> ?_,fun h=> ?_⟩
 ·obtain ⟨m,h1⟩:=zrp h
  cases m with
  |zero=>simp[runF]at h1
  |succ m=>
   rw[zhM f hx hf hb]at h1;split at h1
   case isFalse=>simp at h1
   obtain ⟨qs,k1,k2⟩:=zfw h1;have h3:=k2 (lim' Y) (fun q hq=>zo9 (k1 q hq)) m (Nat.le_refl _)
   rw[zk2]at h3;exact zna (fun b S r=>zph) _ _ _ _ (fun x S r h=>h) r h3
 ·refine zr7 hx hf hb hc ?_
  exact zpg _ _ _ (fun _=>outE (Y.ctx (lim' Y)) f fn) (fun x S r h=>⟨0,fun m _=>h⟩) r h
end
theorem zd8{Y:Prm}{f:FuncId}{F:List AV→List Obj→Option Res}(hx:Y.ext f=some F)(as:List AV)(objs:List Obj):lim' Y f as objs=F as objs:=by
 refine Option.ext fun r=>⟨fun h=> ?_,fun h=>zr6 hx as objs h⟩
 unfold lim' at h;split at h
 ·rename_i hh
  have hs:=hh.choose_spec;rw[Option.some.inj h]at hs;obtain ⟨m,hm⟩:=hs;cases m with
  |zero=>exact absurd hm (by simp[runF])
  |succ m=>
   simp only[runF,hx]at hm;exact hm
 ·simp at h
end Go.PV
namespace Go.PV
def inSeq(key:Nat):Code→Bool
 | .seq a b=>zaS b==key||inSeq key a||inSeq key b
 | .cond _ a b=>inSeq key a||inSeq key b
 | .block _ b=>inSeq key b
 |_=>false
def uniqJ(keys:List Nat):Code→Bool
 | .seq a b=>keys.all (fun key=> !(zaS b==key&&(inSeq key a||inSeq key b))&& !(inSeq key a&&inSeq key b))&&uniqJ keys a&&uniqJ keys b
 | .cond _ a b=>keys.all (fun key=> !(inSeq key a&&inSeq key b))&&uniqJ keys a&&uniqJ keys b
 | .block _ b=>uniqJ keys b
 |_=>true
section
variable {R:Type}(X:Ctx)(fn:Nat)(lp:Code→St→Option (Ex×St))(J:Nat→St→Option R)(keys:List Nat)
def evJ:Code→St→(Ex→St→Option R)→Option R
 | .skip,S,k=>k .normal S
 | .label _,S,k=>k .normal S
 | .region rid ops draw,S,k=>zda X fn rid ops draw S (k .normal)
 | .seq a b,S,k=>evJ a S fun x S'=>match x with
  | .normal=>match keys.contains (zaS b)with
   |true=>J (zaS b) (S'.atCut (X.live fn (zgH b)))
   |false=>evJ b (S'.atCut (X.live fn (zgH b))) k
  |x=>k x S'
 | .cond c a b,S,k=>match S.ev c with
  | .one (.v (.bool t))=>bif t then evJ a S k else evJ b S k
  |_=>none
 | .block id b,S,k=>evJ b S fun x S'=>match x with
  | .exit i=>if i=id then k .normal S' else k (.exit i) S'
  |x=>k x S'
 | .loop b,S,k=>(lp b (S.clean (X.live fn (zaS b)).1)).bind fun r=>k r.1 r.2
 | .exit id,S,k=>k (.exit id) S
 | .ret,S,k=>k .ret S
 |_,_,_=>none
def nextK(b:Code)(k:Ex→St→Option R):Ex→St→Option R:=fun x S'=>match x with
 | .normal=>evK X fn lp b (S'.atCut (X.live fn (zgH b))) k
 |x=>k x S'
def zhP(id:Nat)(k:Ex→St→Option R):Ex→St→Option R:=fun x S'=>match x with
 | .exit i=>if i=id then k .normal S' else k (.exit i) S'
 |x=>k x S'
def nextJ(b:Code)(k:Ex→St→Option R):Ex→St→Option R:=fun x S'=>match x with
 | .normal=>match keys.contains (zaS b)with
  |true=>J (zaS b) (S'.atCut (X.live fn (zgH b)))
  |false=>evJ X fn lp J keys b (S'.atCut (X.live fn (zgH b))) k
 |x=>k x S'
def evB(key:Nat):Code→St→(Ex→St→Option R)→Option R
 | .seq a b,S,k=>match zaS b==key with
  |true=>evK X fn lp b S k
  |false=>match inSeq key a with
   |true=>evB key a S (nextK X fn lp b k)
   |false=>evB key b S k
 | .cond _ a b,S,k=>match inSeq key a with
  |true=>evB key a S k
  |false=>evB key b S k
 | .block id b,S,k=>evB key b S (zhP id k)
 |_,_,_=>none
def evBJ(key:Nat):Code→St→(Ex→St→Option R)→Option R
 | .seq a b,S,k=>match zaS b==key with
  |true=>evJ X fn lp J keys b S k
  |false=>match inSeq key a with
   |true=>evBJ key a S (nextJ X fn lp J keys b k)
   |false=>evBJ key b S k
 | .cond _ a b,S,k=>match inSeq key a with
  |true=>evBJ key a S k
  |false=>evBJ key b S k
 | .block id b,S,k=>evBJ key b S (zhP id k)
 |_,_,_=>none
def evAJ(rid:Nat):Code→Ex→St→(Ex→St→Option R)→Option R
 | .seq a b,x,S,k=>bif zdp rid a then evAJ rid a x S (nextJ X fn lp J keys b k)else evAJ rid b x S k
 | .cond _ a b,x,S,k=>bif zdp rid a then evAJ rid a x S k else evAJ rid b x S k
 | .block id b,x,S,k=>evAJ rid b x S (zhP id k)
 |_,x,S,k=>k x S
variable {X fn lp J keys}
def Names(X:Ctx)(fn:Nat)(lp:Code→St→Option (Ex×St))(J:Nat→St→Option R)(keys:List Nat)(c:Code)(k:Ex→St→Option R):Prop:=
 ∀key∈keys,inSeq key c=true→∀S,J key S=evB X fn lp key c S k
theorem Names.snd{a b:Code}{k:Ex→St→Option R}(h:Names X fn lp J keys (.seq a b) k)(u:uniqJ keys (.seq a b)=true):Names X fn lp J keys b k:=fun key hk hb S=>by
 have h1:=h key hk (by simp[inSeq,hb]) S
 simp only[uniqJ,Bool.and_eq_true,List.all_eq_true]at u;have h2:=u.1.1 key hk;simp only[hb,Bool.or_true,Bool.and_true,Bool.not_eq_true',Bool.and_eq_true]at h2;simp only[evB,h2.1,h2.2]at h1;exact h1
theorem Names.fst{a b:Code}{k:Ex→St→Option R}(h:Names X fn lp J keys (.seq a b) k)(u:uniqJ keys (.seq a b)=true):Names X fn lp J keys a (nextK X fn lp b k):=fun key hk ha S=>by
 have h1:=h key hk (by simp[inSeq,ha]) S
 simp only[uniqJ,Bool.and_eq_true,List.all_eq_true]at u;have h2:=u.1.1 key hk;simp only[ha,Bool.true_or,Bool.and_true,Bool.true_and,Bool.not_eq_true',Bool.and_eq_true]at h2;simp only[evB,h2.1,ha]at h1;exact h1
theorem Names.jump{a b:Code}{k:Ex→St→Option R}(h:Names X fn lp J keys (.seq a b) k)(hk:keys.contains (zaS b)=true)(S:St):J (zaS b) S=evK X fn lp b S k:=by
 have h1:=h (zaS b) (by simpa using hk) (by simp[inSeq]) S
 simpa[evB]using h1
theorem Names.left{x:Operand}{a b:Code}{k:Ex→St→Option R}(h:Names X fn lp J keys (.cond x a b) k):Names X fn lp J keys a k:=fun key hk ha S=>by
 have h1:=h key hk (by simp[inSeq,ha]) S
 simp only[evB,ha]at h1;exact h1
theorem Names.right{x:Operand}{a b:Code}{k:Ex→St→Option R}(h:Names X fn lp J keys (.cond x a b) k)(u:uniqJ keys (.cond x a b)=true):Names X fn lp J keys b k:=fun key hk hb S=>by
 have h1:=h key hk (by simp[inSeq,hb]) S
 simp only[uniqJ,Bool.and_eq_true,List.all_eq_true]at u;have h2:=u.1.1 key hk;simp only[hb,Bool.and_true,Bool.not_eq_true']at h2;simp only[evB,h2]at h1;exact h1
theorem Names.blk{id:Nat}{b:Code}{k:Ex→St→Option R}(h:Names X fn lp J keys (.block id b) k):Names X fn lp J keys b (zhP id k):=fun key hk hb S=>by
 have h1:=h key hk (by simp[inSeq,hb]) S
 simp only[evB]at h1;exact h1
theorem zdC{a b:Code}(u:uniqJ keys (.seq a b)=true):uniqJ keys a=true∧uniqJ keys b=true:=by
 simp only[uniqJ,Bool.and_eq_true]at u;exact ⟨u.1.2,u.2⟩
theorem zdO{x:Operand}{a b:Code}(u:uniqJ keys (.cond x a b)=true):uniqJ keys a=true∧uniqJ keys b=true:=by
 simp only[uniqJ,Bool.and_eq_true]at u;exact ⟨u.1.2,u.2⟩
theorem zpi:∀(c:Code) (S:St) (k:Ex→St→Option R),uniqJ keys c=true→Names X fn lp J keys c k→evJ X fn lp J keys c S k=evK X fn lp c S k:=by
 intro c
 induction c with
 |seq a b ih1 ih2=>
  intro S k u h
  have hn:nextJ X fn lp J keys b k=nextK X fn lp b k:=by
   funext x S'
   cases x with
   |normal=>
    simp only[nextJ,nextK];split
    ·rename_i hk;exact h.jump hk _
    ·exact ih2 _ k (zdC u).2 (h.snd u)
   |exit i=>rfl
   |ret=>rfl
  show evJ X fn lp J keys a S (nextJ X fn lp J keys b k)=evK X fn lp a S (nextK X fn lp b k);rw[hn];exact ih1 S _ (zdC u).1 (h.fst u)
 |cond x a b ih1 ih2=>
  intro S k u h;simp only[evJ,evK,ih1 S k (zdO u).1 h.left,ih2 S k (zdO u).2 (h.right u)]
  all_goals rfl
 |block id b ih=>intro S k u h;exact ih S (zhP id k) u h.blk
 |region rid ops draw=>intros;rfl
 |loop b _=>intros;rfl
 |skip=>intros;rfl
 |label l=>intros;rfl
 |exit i=>intros;rfl
 |ret=>intros;rfl
 |rangeFunc f ps a1 b ih1 ih2=>intros;rfl
 |scope b ih=>intros;rfl
 |goto l=>intros;rfl
 |refuse y=>intros;rfl
theorem znb{a b:Code}{k:Ex→St→Option R}(u:uniqJ keys (.seq a b)=true)(h:Names X fn lp J keys (.seq a b) k):nextJ X fn lp J keys b k=nextK X fn lp b k:=by
 funext x S'
 cases x with
 |normal=>
  simp only[nextJ,nextK];split
  ·rename_i hk;exact h.jump hk _
  ·exact zpi b _ k (zdC u).2 (h.snd u)
 |exit i=>rfl
 |ret=>rfl
theorem zr8(key:Nat):∀(c:Code) (S:St) (k:Ex→St→Option R),uniqJ keys c=true→Names X fn lp J keys c k→evBJ X fn lp J keys key c S k=evB X fn lp key c S k:=by
 intro c
 induction c with
 |seq a b ih1 ih2=>
  intro S k u h;simp only[evBJ,evB];split
  ·exact zpi b S k (zdC u).2 (h.snd u)
  ·split
   ·rw[znb u h];exact ih1 S _ (zdC u).1 (h.fst u)
   ·exact ih2 S k (zdC u).2 (h.snd u)
 |cond x a b ih1 ih2=>
  intro S k u h;simp only[evBJ,evB];split
  ·exact ih1 S k (zdO u).1 h.left
  ·exact ih2 S k (zdO u).2 (h.right u)
 |block id b ih=>intro S k u h;exact ih S (zhP id k) u h.blk
 |region rid ops draw=>intros;rfl
 |loop b _=>intros;rfl
 |skip=>intros;rfl
 |label l=>intros;rfl
 |exit i=>intros;rfl
 |ret=>intros;rfl
 |rangeFunc f ps a1 b ih1 ih2=>intros;rfl
 |scope b ih=>intros;rfl
 |goto l=>intros;rfl
 |refuse y=>intros;rfl
theorem zpj(rid:Nat):∀(c:Code) (x:Ex) (S:St) (k:Ex→St→Option R),uniqJ keys c=true→Names X fn lp J keys c k→evAJ X fn lp J keys rid c x S k=evA X fn lp rid c x S k:=by
 intro c
 induction c with
 |seq a b ih1 ih2=>
  intro x S k u h;simp only[evAJ,evA];cases zdp rid a with
  |true=>simp only[cond_true];rw[znb u h];exact ih1 x S _ (zdC u).1 (h.fst u)
  |false=>simp only[cond_false];exact ih2 x S k (zdC u).2 (h.snd u)
 |cond y a b ih1 ih2=>
  intro x S k u h;simp only[evAJ,evA];cases zdp rid a with
  |true=>exact ih1 x S k (zdO u).1 h.left
  |false=>exact ih2 x S k (zdO u).2 (h.right u)
 |block id b ih=>intro x S k u h;exact ih x S (zhP id k) u h.blk
 |region rid ops draw=>intros;rfl
 |loop b _=>intros;rfl
 |skip=>intros;rfl
 |label l=>intros;rfl
 |exit i=>intros;rfl
 |ret=>intros;rfl
 |rangeFunc f ps a1 b ih1 ih2=>intros;rfl
 |scope b ih=>intros;rfl
 |goto l=>intros;rfl
 |refuse y=>intros;rfl
theorem zbe(keys:List Nat){c:Code}{S:St}{k:Ex→St→Option R}{t:Option R}(u:uniqJ keys c=true)
 (ht:∀J:Nat→St→Option R,(∀key S,J key S=evB X fn lp key c S k)→evJ X fn lp J keys c S k=t):evK X fn lp c S k=t:=by
 rw[←zpi (J:=fun key S=>evB X fn lp key c S k) (keys:=keys) c S k u (fun _ _ _ _=>rfl)]
 exact ht _ fun _ _=>rfl
theorem za0(keys:List Nat)(key:Nat){c:Code}{S:St}{k:Ex→St→Option R}{t:Option R}(u:uniqJ keys c=true)
 (ht:∀J:Nat→St→Option R,(∀key S,J key S=evB X fn lp key c S k)→evBJ X fn lp J keys key c S k=t):evB X fn lp key c S k=t:=by
 rw[←zr8 (J:=fun key S=>evB X fn lp key c S k) (keys:=keys) key c S k u (fun _ _ _ _=>rfl)]
 exact ht _ fun _ _=>rfl
theorem zbs(keys:List Nat)(rid:Nat){c:Code}{x:Ex}{S:St}{k:Ex→St→Option R}{t:Option R}(u:uniqJ keys c=true)
 (ht:∀J:Nat→St→Option R,(∀key S,J key S=evB X fn lp key c S k)→evAJ X fn lp J keys rid c x S k=t):evA X fn lp rid c x S k=t:=by
 rw[←zpj (J:=fun key S=>evB X fn lp key c S k) (keys:=keys) rid c x S k u (fun _ _ _ _=>rfl)]
 exact ht _ fun _ _=>rfl
theorem evA_J(keys:List Nat)(rid:Nat){c:Code}{k:Ex→St→Option R}{J:Nat→St→Option R}(u:uniqJ keys c=true)(e1:∀key S,J key S=evB X fn lp key c S k)(x:Ex)(S:St):
 evA X fn lp rid c x S k=evAJ X fn lp J keys rid c x S k:=(zpj rid c x S k u (fun key _ _ S=>e1 key S)).symm
end
end Go.PV
namespace Go.PV
open Go.RowKit
abbrev noG:Ghost:=fun _=>none
def okD(P:Program):Nat→TypeId→List D→Prop
 |0,_,_=>False
 |f+1,t,row=>match P.underlying t with
  |some (.int k)=>∃n,row=[.v (.int k n)]∧(Lit.int k n).wf=true
  |some .bool=>∃b,row=[.v (.bool b)]
  |some .string=>∃s,row=[.v (.string s)]∧s.size≤maxLen
  |some (.slice e)=>∃es,row=[.s es]∧es.length≤maxLen∧∀r∈es,okD P f e r
  |some (.struct fs)=>row.length=P.cellsOf t∧∀fl∈fs.toList,okD P f fl.type ((row.drop fl.offset).take (P.cellsOf fl.type))
  |_=>False
def plainB(P:Program)(ts:List TypeId):Bool:=ts.all fun t=>match P.underlying t with
 |some (.int _)=>true
 |some .bool=>true
 |some .string=>true
 |some (.slice e)=>ts.contains e&&decide (0<P.cellsOf e)
 |some (.struct fs)=>(fs.toList.all fun f=>ts.contains f.type)&&decide ((fs.toList.flatMap fun f=>(List.range (P.cellsOf f.type)).map (f.offset+·))=List.range (P.cellsOf t))
 |_=>false
theorem zl9{α:Type}(n:Nat)(p:Nat→α→Prop)(h:∀i,i<n→∃x,p i x):∃l:List α,l.length=n∧∀i (hi:i<l.length),p i (l[i]):=by
 induction n with
 |zero=>exact ⟨[],rfl,fun i hi=>by simp at hi⟩
 |succ n ih=>
  obtain ⟨l,h1,h2⟩:=ih fun i hi=>h i (by omega)
  obtain ⟨x,hx⟩:=h n (by omega)
  refine ⟨l++[x],by simp[h1],fun i hi=> ?_⟩
  rcases Nat.lt_or_ge i n with hlt|hge
  ·rw[List.getElem_append_left (by omega)]
   exact h2 i (by omega)
  ·have:i=n:=by simp[h1]at hi;omega
   subst this;rw[List.getElem_append_right (by omega)]
   simpa[h1]using hx
theorem cover{α:Type}(off sz:α→Nat)(q:α→List D→Prop):∀(fs:List α) (s n:Nat),(∀f∈fs,∃row:List D,row.length=sz f∧q f row)→(fs.flatMap fun f=>(List.range (sz f)).map (off f+·))=List.range' s n→
 ∃R:List D,R.length=n∧∀f∈fs,(sz f=0∨s≤off f)∧q f ((R.drop (off f-s)).take (sz f))∧((R.drop (off f-s)).take (sz f)).length=sz f:=by
 intro fs
 induction fs with
 |nil=>
  intro s n _ h;simp only[List.flatMap_nil]at h;cases n with
  |zero=>exact ⟨[],rfl,fun f hf=>by simp at hf⟩
  |succ n=>rw[List.range'_succ]at h;simp at h
 |cons f fs ih=>
  intro s n hr h;obtain ⟨row,h1,h2⟩:=hr f (by simp)
  simp only[List.flatMap_cons]at h;by_cases h0:sz f=0
  ·simp only[h0,List.range_zero,List.map_nil,List.nil_append]at h
   obtain ⟨R,k1,k2⟩:=ih s n (fun g hg=>hr g (List.mem_cons_of_mem _ hg)) h
   have hrow:row=[]:=List.length_eq_zero_iff.1 (by rw[h1,h0])
   refine ⟨R,k1,fun g hg=> ?_⟩
   rcases List.mem_cons.1 hg with rfl|hg
   ·rw[h0,List.take_zero,←hrow];exact ⟨.inl rfl,h2,by rw[h1,h0]⟩
   ·exact k2 g hg
  ·have hlen:=congrArg List.length h
   simp only[List.length_append,List.length_map,List.length_range,List.length_range']at hlen;have hle:sz f≤n:=by omega
   have hsplit:List.range' s n=List.range' s (sz f)++List.range' (s+sz f) (n-sz f):=by
    have:=List.range'_append (s:=s) (m:=sz f) (n:=n-sz f) (step:=1);rw[Nat.one_mul]at this;rw[this,show sz f+(n-sz f)=n from by omega]
   rw[hsplit]at h;obtain ⟨e1,e2⟩:=List.append_inj h (by simp)
   have hoff:off f=s:=by
    have:=congrArg (fun l=>l[0]?) e1
    have hp:0<sz f:=by omega
    simp[hp]at this;exact this
   obtain ⟨R,k1,k2⟩:=ih (s+sz f) (n-sz f) (fun g hg=>hr g (List.mem_cons_of_mem _ hg)) e2
   refine ⟨row++R,by simp[h1,k1];omega,fun g hg=> ?_⟩
   rcases List.mem_cons.1 hg with rfl|hg
   ·rw[hoff,Nat.sub_self,List.drop_zero,List.take_left' h1]
    exact ⟨.inr (Nat.le_refl _),h2,h1⟩
   ·obtain ⟨g1,g2,g3⟩:=k2 g hg
    rcases g1 with g1|g1
    ·rw[g1,List.take_zero]at g2 g3⊢
     exact ⟨.inl rfl,g2,g3⟩
    ·have:(row++R).drop (off g-s)=R.drop (off g-(s+sz f)):=by
      rw[List.drop_append,List.drop_eq_nil_of_le (by omega),h1,List.nil_append,Nat.sub_sub]
     rw[this];exact ⟨.inr (by omega),g2,g3⟩
structure Row (w:World) (P:Program) (f:Nat) (t:TypeId) (cs:List Value) (row:List D):Prop where
 len:row.length=cs.length
 ok:okD P f t row
 rel:∀j,j<cs.length→Rel w (QSh noG) (cs.getD j undef) (row.getD j .h)
theorem Row.one{w:World}{P:Program}{f:Nat}{t:TypeId}{u:Value}{d:D}(h:okD P f t [d])(hr:Rel w (QSh noG) u d):Row w P f t [u] [d]:=
 ⟨rfl,h,fun j hj=>by
  have:j=0:=by simpa using hj
  subst this;exact hr⟩
theorem zk3{w:World}{base:Nat}{a:Addr}{n:Nat}{cs:List Value}(h:w.cells? base a n=some cs):cs.length=n∧∀i,i<n→w.cell? (a.add i)=some (cs.getD i undef):=by
 unfold World.cells? at h;split at h
 case isFalse=>simp at h
 have h1:=mapM_some_length h;simp only[List.length_range]at h1;refine ⟨h1,fun i hi=> ?_⟩
 have:=mapM_some_get h i i (by simp[hi])
 rw[this,List.getD_eq_getElem?_getD,List.getElem?_eq_getElem (by omega)]
 rfl
theorem trod_D{H:Type}{enc:TypeId×Value→H}{P:Program}{w:World}{held:Bool}{ts:List TypeId}(hp:plainB P ts=true):∀(f:Nat) (t:TypeId) (cs:List Value) (d:DataW H) (ps:List MemPlace),
 t∈ts→DataW.trod enc P w 0 (fun _=>true) held f t cs=some (d,ps)→∃row,Row w P f t cs row:=by
 intro f
 induction f with
 |zero=>intro t cs d ps _ h;simp[DataW.trod]at h
 |succ f ih=>
  intro t cs d ps ht h;have hpt:=List.all_eq_true.1 hp t ht;unfold DataW.trod at h;split at h
  case h_1 b hu=>exact ⟨[.v (.bool b)], .one (by simp only[okD,hu];exact ⟨b,rfl⟩) (.v _ _)⟩
  case h_2 k k' n hu=>
   split at h
   case isFalse=>simp at h
   rename_i hk;obtain ⟨rfl,hw⟩:=hk;exact ⟨[.v (.int k' n)], .one (by simp only[okD,hu];exact ⟨n,rfl,hw⟩) (.v _ _)⟩
  case h_4 s hu=>
   split at h
   case isFalse=>simp at h
   rename_i hk;exact ⟨[.v (.string s)], .one (by simp only[okD,hu];exact ⟨s,rfl,hk⟩) (.v _ _)⟩
  case h_7 hu=>exact ⟨[.s []], .one (by simp only[okD,hu];exact ⟨[],rfl,by simp,by simp⟩) (.e _ _)⟩
  case h_8 e a len cap hu=>
   simp only[hu]at hpt;simp only[Bool.and_eq_true,decide_eq_true_eq]at hpt;obtain ⟨he,hsz⟩:=hpt;have he:e∈ts:=by simpa using he
   split at h
   case isFalse=>simp at h
   rename_i hc;obtain ⟨_,hlc,hcm⟩:=hc;rw[Option.bind_eq_some_iff]at h;obtain ⟨elems,h1,h2⟩:=h;rw[Option.map_eq_some_iff]at h2;obtain ⟨rest,h3,_⟩:=h2;have h3:((List.range (cap-len)).mapM fun j=>(w.cells? 0 (a.add ((len+j)*P.cellsOf e)) (P.cellsOf e)).bind (DataW.trod enc P w 0 (fun _=>true) held f e))=some rest:=h3
   -- the elements, and the room behind them
   have hel:∀i,i<cap→∃cells x,w.cells? 0 (a.add (i*P.cellsOf e)) (P.cellsOf e)=some cells∧DataW.trod enc P w 0 (fun _=>true) held f e cells=some x:=fun i hi=>by
    have key:∃y,((w.cells? 0 (a.add (i*P.cellsOf e)) (P.cellsOf e)).bind (DataW.trod enc P w 0 (fun _=>true) held f e))=some y:=by
     rcases Nat.lt_or_ge i len with hlt|hge
     ·have hl:=mapM_some_length h1
      simp only[List.length_range]at hl;have:=mapM_some_get h1 i i (by simp[hlt])
      rw[List.getElem?_eq_getElem (by omega)]at this
      exact ⟨_,this⟩
     ·have hl:=mapM_some_length h3
      simp only[List.length_range]at hl;have:=mapM_some_get h3 (i-len) (i-len) (by rw[List.getElem?_range (by omega)])
      rw[List.getElem?_eq_getElem (by omega),show len+(i-len)=i from by omega]at this
      exact ⟨_,this⟩
    obtain ⟨y,hy⟩:=key;rw[Option.bind_eq_some_iff]at hy;obtain ⟨cells,k1,k2⟩:=hy;exact ⟨cells,y,k1,k2⟩
   by_cases hcap:cap=0
   ·have hl0:len=0:=by omega
    subst hcap hl0;exact ⟨[.s []], .one (by simp only[okD,hu];exact ⟨[],rfl,by simp,by simp⟩) (.e _ _)⟩
   ·have hspot:a.spot=none∧a.block<w.heap.size:=by
     obtain ⟨cells,_,k1,_⟩:=hel 0 (by omega)
     have:=(zk3 k1).2 0 hsz;simp only[Nat.zero_mul,Addr.add,if_true]at this;unfold World.cell? at this;split at this
     ·rename_i c _ _ hb
      refine ⟨?_,(Array.getElem?_eq_some_iff.1 hb).1⟩;cases hs:a.spot with
      |none=>rfl
      |some x=>rw[hs]at this;simp at this
     ·simp at this
    obtain ⟨hspot,hblk⟩:=hspot
    have hadd:∀i j,(a.add (i*P.cellsOf e)).add j=⟨a.block,a.off+(i*P.cellsOf e+j),none⟩:=fun i j=>by
     obtain ⟨b,off,sp⟩:=a;simp only at hspot;subst hspot;unfold Addr.add;by_cases h0:i*P.cellsOf e=0
     ·by_cases h1:j=0<;>simp[h0,h1]
     ·by_cases h1:j=0<;>simp[h0,h1,Nat.add_assoc]
    have hrow:∀i,i<cap→∃row,row.length=P.cellsOf e∧okD P f e row∧∀j,j<P.cellsOf e→∃u,w.cell? ⟨a.block,a.off+(i*P.cellsOf e+j),none⟩=some u∧Rel w (QSh noG) u (row.getD j .h):=fun i hi=>by
     obtain ⟨cells,⟨x,y⟩,k1,k2⟩:=hel i hi;obtain ⟨g1,g2⟩:=zk3 k1;obtain ⟨row,hr⟩:=ih e cells x y he k2;refine ⟨row,by rw[hr.len,g1],hr.ok,fun j hj=>⟨cells.getD j undef, ?_,hr.rel j (by omega)⟩⟩
     have:=g2 j hj;rw[hadd]at this;exact this
    obtain ⟨es,hes1,hes2⟩:=zl9 len _ fun i hi=>hrow i (by omega)
    have hcell:∀k,k<cap*P.cellsOf e→(w.cell? ⟨a.block,a.off+k,none⟩).isSome=true:=fun k hk=>by
     have hi:k/P.cellsOf e<cap:=Nat.div_lt_of_lt_mul (by rw[Nat.mul_comm];exact hk)
     obtain ⟨row,_,_,g⟩:=hrow (k/P.cellsOf e) hi;obtain ⟨u,hu2,_⟩:=g (k%P.cellsOf e) (Nat.mod_lt _ hsz);rw[show k/P.cellsOf e*P.cellsOf e+k%P.cellsOf e=k from by rw[Nat.mul_comm];exact Nat.div_add_mod _ _]at hu2
     rw[hu2];rfl
    refine ⟨[.s es], .one ?_ ?_⟩
    ·simp only[okD,hu]
     refine ⟨es,rfl,by omega,fun r hr=> ?_⟩
     obtain ⟨i,hi,rfl⟩:=List.getElem_of_mem hr;exact (hes2 i hi).2.1
    ·have hgo:Rel w (QSh noG) (.slice (some a) es.length cap) (.s es):=by
      refine .s _ a cap (P.cellsOf e) es (fun i j=>(w.cell? ⟨a.block,a.off+(i*P.cellsOf e+j),none⟩).getD undef) (by omega) (fun _=> .inr rfl) hspot hblk rfl hcell (fun i hi=>(hes2 i hi).1) (fun i j hi hj=> ?_) (fun i j hi hj=> ?_)
      ·obtain ⟨u,hu2,_⟩:=(hes2 i hi).2.2 j hj
       rw[hu2];rfl
      ·have hj2:j<P.cellsOf e:=by rw[←(hes2 i hi).1];exact hj
       obtain ⟨u,hu2,hr⟩:=(hes2 i hi).2.2 j hj2;rw[hu2];rw[List.getD_eq_getElem?_getD,List.getElem?_eq_getElem hj]at hr;exact hr
     rw[hes1]at hgo;exact hgo
  case h_9 fs hu=>
   rename_i cs _ _;simp only[hu]at hpt;simp only[Bool.and_eq_true,decide_eq_true_eq,List.all_eq_true]at hpt;obtain ⟨hfs,hcov⟩:=hpt;split at h
   case isFalse=>simp at h
   rename_i hlen;rw[Option.map_eq_some_iff]at h;obtain ⟨xs,h1,_⟩:=h
   have hfl:∀fl∈fs.toList,∃row,Row w P f fl.type ((cs.drop fl.offset).take (P.cellsOf fl.type)) row:=fun fl hfl=>by
    obtain ⟨i,hi,rfl⟩:=List.getElem_of_mem hfl;have hl:=mapM_some_length h1;have:=mapM_some_get h1 i _ (List.getElem?_eq_getElem hi);rw[List.getElem?_eq_getElem (by omega)]at this
    obtain ⟨dd,pp⟩:=xs[i]'(by omega)
    exact ih _ _ _ _ (by simpa using hfs _ hfl) this
   have hls:∀fl∈fs.toList,∀i,i<P.cellsOf fl.type→fl.offset+i<P.cellsOf t:=fun fl hfl i hi=>by
    have:fl.offset+i∈(fs.toList.flatMap fun f=>(List.range (P.cellsOf f.type)).map (f.offset+·)):=List.mem_flatMap.2 ⟨fl,hfl,List.mem_map.2 ⟨i,List.mem_range.2 hi,rfl⟩⟩
    rw[hcov]at this;exact List.mem_range.1 this
   have hsz:∀fl∈fs.toList,((cs.drop fl.offset).take (P.cellsOf fl.type)).length=P.cellsOf fl.type:=fun fl hfl=>by
    rw[List.length_take,List.length_drop];rcases Nat.eq_zero_or_pos (P.cellsOf fl.type)with h0|h0
    ·omega
    ·have:=hls fl hfl (P.cellsOf fl.type-1) (by omega)
     omega
   obtain ⟨R,k1,k2⟩:=cover (fun fl=>fl.offset) (fun fl=>P.cellsOf fl.type) (fun fl row=>Row w P f fl.type ((cs.drop fl.offset).take (P.cellsOf fl.type)) row) fs.toList 0 (P.cellsOf t)
    (fun fl hf=>by obtain ⟨row,hr⟩:=hfl fl hf;exact ⟨row,by rw[hr.len,hsz fl hf],hr⟩) (by rw[hcov,List.range_eq_range'])
   refine ⟨R,by rw[k1,hlen], ?_,fun j hj=> ?_⟩
   ·simp only[okD,hu]
    refine ⟨k1,fun fl hf=> ?_⟩
    have:=(k2 fl hf).2.1.ok;rwa [Nat.sub_zero]at this
   ·have hjm:j∈(fs.toList.flatMap fun f=>(List.range (P.cellsOf f.type)).map (f.offset+·)):=by rw[hcov];exact List.mem_range.2 (by omega)
    obtain ⟨fl,hf,hjm⟩:=List.mem_flatMap.1 hjm;obtain ⟨i,hi,rfl⟩:=List.mem_map.1 hjm;have hi:=List.mem_range.1 hi;have:=(k2 fl hf).2.1.rel i (by rw[hsz fl hf];exact hi)
    simp only[Nat.sub_zero,List.getD_eq_getElem?_getD,List.getElem?_take_of_lt hi,List.getElem?_drop]at this⊢;exact this
  all_goals (exfalso;clear ih;simp_all)
end Go.PV
