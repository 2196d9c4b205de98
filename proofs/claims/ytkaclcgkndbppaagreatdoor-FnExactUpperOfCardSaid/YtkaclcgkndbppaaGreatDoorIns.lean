/- A part of the proof: PvIns, PvIns2. -/
import Derived.Test.YtkaclcgkndbppaaGreatDoorExt
import Derived.Shelf.Spec.SlicesInsert
import Derived.Shelf.Spec.SlicesInsertGrow
set_option linter.unusedSimpArgs false
set_option linter.unusedVariables false
namespace Go.PV
open Go.Shelf Go.RowKit Go.Lib Go.Proofs
variable {P:Program}{ρ:Ren}
noncomputable def insFn(ρ:Ren)(nm:String):Func:={Body2.n22 ρ with name:=nm}
theorem zeD(ρ:Ren)(nm:String):(insFn ρ nm).ntmps=95:=Body2.n22_ntmps ρ
structure InsAt (P:Program) (ρ:Ren) (nm:String) (fo:Func) (k B:Nat) (z:Value):Prop where
 mixed:P.follows .mixedOrders=true
 f22:P.funcs[ρ.f 22]? =some (insFn ρ nm)
 f29:P.funcs[ρ.f 29]? =some fo
 on:(fo.name== "runtime.NumGoroutine")=false
 ob:fo.body.isNone=true
 ox:Extern.findNext fo=none
 of_:Extern.find fo=some (Extern.SlicesOverlaps.overlaps #[(ρ.t 24),(ρ.t 24)] #[(ρ.t 4)])
 t0:P.underlying (ρ.t 0)=some (TypeDesc.tuple #[])
 a0:∀w,(isAgg (ρ.t 0)).run P w= .ok false w
 z0:∀w,(Go.sizeOf (ρ.t 0)).run P w= .ok 1 w
 v0:∀w,(zeroValue (ρ.t 0)).run P w= .ok (Value.tuple #[]) w
 t3:P.underlying (ρ.t 3)=some (TypeDesc.int IntKind.i64)
 a3:∀w,(isAgg (ρ.t 3)).run P w= .ok false w
 z3:∀w,(Go.sizeOf (ρ.t 3)).run P w= .ok 1 w
 v3:∀w,(zeroValue (ρ.t 3)).run P w= .ok (Value.int IntKind.i64 0) w
 t4:P.underlying (ρ.t 4)=some (TypeDesc.bool)
 a4:∀w,(isAgg (ρ.t 4)).run P w= .ok false w
 z4:∀w,(Go.sizeOf (ρ.t 4)).run P w= .ok 1 w
 v4:∀w,(zeroValue (ρ.t 4)).run P w= .ok (Value.bool false) w
 z9:∀w,(Go.sizeOf (ρ.t 9)).run P w= .ok k w
 t24:P.underlying (ρ.t 24)=some (TypeDesc.slice (ρ.t 9))
 a24:∀w,(isAgg (ρ.t 24)).run P w= .ok false w
 z24:∀w,(Go.sizeOf (ρ.t 24)).run P w= .ok 1 w
 v24:∀w,(zeroValue (ρ.t 24)).run P w= .ok (Value.slice none 0 0) w
 i9:(P.info? (ρ.t 9)).map (fun i=>(i.zero,i.size,i.bytes))=some (some z,k,B)
 zk:z.cells.size=k
 k0:0<k
theorem zde(w:World)(dT sT ty elem:TypeId)(k b o dLen dCap:Nat)(a:Addr)(sLen sCap:Nat)(cs:List Value)
 (hu:P.underlying dT=some (.slice elem)) (hs:(P.info? elem).map (·.size)=some k) (hn:cs.length=Nat.min sLen dLen*k)
 (hsrc:∀j v,cs[j]? =some v→w.cell? (a.add j)=some v) (hc:∀j,j<cs.length→(w.cell? ⟨b,o+j,none⟩).isSome=true) (hf:∀j,j<cs.length→w.frozen? ⟨b,o+j,none⟩=false) (h1:∀v∈cs,v.oneCell'=true):
 (Builtin.copy_ #[dT,sT] ty #[.slice (some ⟨b,o,none⟩) dLen dCap, .slice (some a) sLen sCap]).run P w= .ok (goInt (Nat.min sLen dLen)) (w.setCells b o cs):=by
 have hl:=run_loadCells_list (P:=P) w a cs hsrc;have hst:=run_storeCells_cells (P:=P) b o cs 0 w (by simpa using hc) (by simpa using hf) h1
 cases hq:P.info? elem with
 |none=>simp[hq]at hs
 |some i=>
  have hi:i.size=k:=by simpa[hq]using hs
  simp[Builtin.copy_,run_underlying hu,Builtin.lenOf,Builtin.firstCells,sizeOf,typeInfo,hq,hi,←hn,hl,hst]
set_option maxHeartbeats 4000000 in
set_option maxRecDepth 100000 in
theorem zlb{nm:String}{fo:Func}{k B:Nat}{z:Value}(L:InsAt P ρ nm fo k B z)(b off n c vb voff m vc:Nat)(vs:List Value)(w:World)(hm:0<m)(hroom:n+m≤c)
 (hvl:vs.length=m*k) (hsp:∀j,j<m*k→(w.cell? ⟨b,off+n*k+j,none⟩).isSome=true) (hfz:∀j,j<m*k→w.frozen? ⟨b,off+n*k+j,none⟩=false)
 (hvs:∀j v,vs[j]? =some v→w.cell? ⟨vb,voff+j,none⟩=some v) (h1v:∀v∈vs,v.oneCell'=true):
 Calls P (ρ.f 22) #[.slice (some ⟨b,off,none⟩) n c, .int .i64 n, .slice (some ⟨vb,voff,none⟩) m vc] w fun e w'=>
  e= .returned (.slice (some ⟨b,off,none⟩) (n+m) c)∧w'=w.setCells b (off+n*k) vs:=by
 have t0:=L.t0;have a0:=L.a0;have z0:=L.z0;have v0:=L.v0;have t3:=L.t3;have a3:=L.a3;have z3:=L.z3;have v3:=L.v3;have t4:=L.t4;have a4:=L.a4;have z4:=L.z4;have v4:=L.v4;have z9:=L.z9;have t24:=L.t24;have a24:=L.a24;have z24:=L.z24;have v24:=L.v24;have u0:=run_underlying L.t0;have u3:=run_underlying L.t3;have u4:=run_underlying L.t4;have u24:=run_underlying L.t24;have mixed:=L.mixed;obtain ⟨i0,hi0,hz0,hzs,hzb⟩:=info_parts L.i9;have hz1:¬((m:Int)=0):=by omega
 have hsrc:Go.Src P i0.size (ρ.t 24) (.slice (some ⟨vb,voff,none⟩) m vc) m vs w:=by
  rw[hzs];exact Go.Src.ofSlice w L.t24 ⟨vb,voff,none⟩ m vc vs hvl (fun j u hj=>by rw[Addr.add_lit];exact hvs j u hj) h1v
 have hrun:∀ty,(Builtin.append_ #[(ρ.t 24),(ρ.t 24)] ty #[.slice (some ⟨b,off,none⟩) n c, .slice (some ⟨vb,voff,none⟩) m vc]).run P w=_:=fun ty=>
  run_append_room_src w (ρ.t 24) (ρ.t 24) ty (ρ.t 9) i0 L.t24 hi0 b off n c _ m vs hsrc hroom (by rw[hzs,hvl];exact hsp) (by rw[hzs,hvl];exact hfz)
 rw[hzs]at hrun
 go_enter L.f22,zeD ρ nm
 go_wp2_with (at_builtin;refine Lib.wpList_append_run _ rfl _ _ _ _ rfl _ _ rfl rfl _ _ (hrun _) ?_)
 all_goals (go_ret;exact ⟨rfl,rfl⟩)
set_option maxHeartbeats 4000000 in
set_option maxRecDepth 100000 in
theorem zlc{nm:String}{fo:Func}{k B:Nat}{z:Value}(L:InsAt P ρ nm fo k B z)(base:Option Addr)(n c vb voff m vc:Nat)(cs vs:List Value)(w:World)(hm:0<m)(hnc:n≤c)(hroom:c<n+m)(hbig:(n+m)*B≤140737488355328)(hn63:n+m<9223372036854775807)
 (hcl:cs.length=n*k) (hvl:vs.length=m*k) (hnil:base=none→n=0)
 (hcs:∀a,base=some a→∀j v,cs[j]? =some v→w.cell? (a.add j)=some v)
 (hvs:∀j v,vs[j]? =some v→w.cell? ⟨vb,voff+j,none⟩=some v) (h1v:∀v∈vs,v.oneCell'=true):
 Calls P (ρ.f 22) #[.slice base n c, .int .i64 n, .slice (some ⟨vb,voff,none⟩) m vc] w fun e w'=>
  e= .returned (.slice (some ⟨w.heap.size,0,none⟩) (n+m) (grownCap w (n+m) c (ρ.t 9)))∧
  w'=w.drew.alloc (.cells ((cs++vs).toArray++Builtin.zeroCells z.cells (grownCap w (n+m) c (ρ.t 9)-(n+m))) (ρ.t 9)):=by
 have t0:=L.t0;have a0:=L.a0;have z0:=L.z0;have v0:=L.v0;have t3:=L.t3;have a3:=L.a3;have z3:=L.z3;have v3:=L.v3;have t4:=L.t4;have a4:=L.a4;have z4:=L.z4;have v4:=L.v4;have z9:=L.z9;have t24:=L.t24;have a24:=L.a24;have z24:=L.z24;have v24:=L.v24;have u0:=run_underlying L.t0;have u3:=run_underlying L.t3;have u4:=run_underlying L.t4;have u24:=run_underlying L.t24;have mixed:=L.mixed;obtain ⟨i0,hi0,hz0,hzs,hzb⟩:=info_parts L.i9;have hz1:¬((m:Int)=0):=by omega
 have hsrc:Go.Src P i0.size (ρ.t 24) (.slice (some ⟨vb,voff,none⟩) m vc) m vs w:=by
  rw[hzs];exact Go.Src.ofSlice w L.t24 ⟨vb,voff,none⟩ m vc vs hvl (fun j u hj=>by rw[Addr.add_lit];exact hvs j u hj) h1v
 have hold:(Builtin.firstCells i0.size n (.slice base n c)).run P w.drew= .ok cs.toArray w.drew:=by
  rw[hzs];cases base with
  |none=>
   have h0:=hnil rfl;subst h0;have:cs=[]:=List.length_eq_zero_iff.1 (by simpa using hcl)
   subst this;exact run_firstCells_none w.drew k 0 0 c
  |some a=>exact run_firstCells_some w.drew k n a n c cs hcl (fun j v hj=>hcs a rfl j v hj)
 have hrun:∀ty,(Builtin.append_ #[(ρ.t 24),(ρ.t 24)] ty #[.slice base n c, .slice (some ⟨vb,voff,none⟩) m vc]).run P w=_:=fun ty=>
  run_append_grow_src w (ρ.t 24) (ρ.t 24) ty (ρ.t 9) i0 _ L.t24 hi0 hz0 base n c cs hold _ m vs hsrc hroom (by omega) (by rw[hzb];exact growslice_fits hroom hbig)
 go_enter L.f22,zeD ρ nm
 go_wp2_with (at_builtin;refine Lib.wpList_append_run _ rfl _ _ _ _ rfl _ _ rfl rfl _ _ (hrun _) ?_)
 all_goals (go_ret;exact ⟨rfl,rfl⟩)
theorem zeE{w:World}{b off n k:Nat}(h:∀j,j<n*k→(w.cell? ⟨b,off+j,none⟩).isSome=true){i m:Nat}(hi:i+m≤n):∀j,j<m*k→(w.cell? ⟨b,off+i*k+j,none⟩).isSome=true:=fun j hj=>by
 rw[Nat.add_assoc];refine h _ ?_;have:(i+m)*k≤n*k:=Nat.mul_le_mul_right k hi;rw[Nat.add_mul]at this;omega
theorem znd{w:World}{b off n k:Nat}(h:∀j,j<n*k→w.frozen? ⟨b,off+j,none⟩=false){i m:Nat}(hi:i+m≤n):∀j,j<m*k→w.frozen? ⟨b,off+i*k+j,none⟩=false:=fun j hj=>by
 rw[Nat.add_assoc];refine h _ ?_;have:(i+m)*k≤n*k:=Nat.mul_le_mul_right k hi;rw[Nat.add_mul]at this;omega
set_option maxHeartbeats 4000000 in
set_option maxRecDepth 100000 in
theorem zpq{nm:String}{fo:Func}{k B:Nat}{z:Value}(L:InsAt P ρ nm fo k B z)(b off n c i vb voff m vc:Nat)(cs vs:List Value)(w:World)(hi:i<n)(hm:0<m)(hroom:n+m≤c)(hn63:n+m<9223372036854775807)(hvb:vb≠b)
 (hcl:cs.length=n*k) (hvl:vs.length=m*k)
 (hcs:∀j v,cs[j]? =some v→w.cell? ⟨b,off+j,none⟩=some v) (hsp:∀j,j<(n+m)*k→(w.cell? ⟨b,off+j,none⟩).isSome=true) (hfz:∀j,j<(n+m)*k→w.frozen? ⟨b,off+j,none⟩=false)
 (hvs:∀j v,vs[j]? =some v→w.cell? ⟨vb,voff+j,none⟩=some v) (h1c:∀v∈cs,v.oneCell'=true) (h1v:∀v∈vs,v.oneCell'=true)
 (tA tB:TypeId) (kA kB:Nat) (hsa:w.shape? vb=some (tA,kA)) (hsb:w.shape? b=some (tB,kB)) (hkB:kB≠0) (hfa:w.frozen? ⟨vb,voff,none⟩=false) (hfe:w.frozen? ⟨vb,kA,none⟩=false):
 Calls P (ρ.f 22) #[.slice (some ⟨b,off,none⟩) n c, .int .i64 i, .slice (some ⟨vb,voff,none⟩) m vc] w fun e w'=>
  e= .returned (.slice (some ⟨b,off,none⟩) (n+m) c)∧w'=(w.drew.setCells b (off+(i+m)*k) (cs.drop (i*k))).setCells b (off+i*k) vs:=by
 have t0:=L.t0;have a0:=L.a0;have z0:=L.z0;have v0:=L.v0;have t3:=L.t3;have a3:=L.a3;have z3:=L.z3;have v3:=L.v3;have t4:=L.t4;have a4:=L.a4;have z4:=L.z4;have v4:=L.v4;have z9:=L.z9;have t24:=L.t24;have a24:=L.a24;have z24:=L.z24;have v24:=L.v24;have u0:=run_underlying L.t0;have u3:=run_underlying L.t3;have u4:=run_underlying L.t4;have u24:=run_underlying L.t24;have mixed:=L.mixed;have hz1:¬((m:Int)=0):=by omega
 have hz2:¬((i:Int)=(n:Int)):=by omega
 have hsz:(P.info? (ρ.t 9)).map (·.size)=some k:=by
  obtain ⟨i0,hi0,h0,h1,h2⟩:=info_parts L.i9;rw[hi0];simp[h1]
 have hov:∀lb cb,(callFunc (ρ.f 29) #[.slice (some ⟨vb,voff,none⟩) m vc, .slice (some ⟨b,off+(i+m)*k,none⟩) lb cb]).run P w= .ok (.value (.bool false)) w:=fun lb cb=>by
  rw[run_callFunc_extern L.f29 L.on L.ob L.ox L.of_,
   Lib.run_overlaps_apart w (ρ.t 24) (ρ.t 4) (ρ.t 9) L.t24 k L.z9 ⟨vb,voff,none⟩ ⟨b,off+(i+m)*k,none⟩ m vc lb cb hvb tA tB kA kB hsa hsb hkB hfa hfe]
  rfl
 have hdl:(cs.drop (i*k)).length=(n-i)*k:=by rw[List.length_drop,hcl,Nat.sub_mul]
 have hw1:IntKind.i64.wrap ((i:Int)+(m:Int))=(i:Int)+(m:Int):=by rw[IntKind.wrap_i64];omega
 have hb1:(0:Int)≤(i:Int)+(m:Int):=by omega
 have hin:i≤n:=by omega
 have htn:((i:Int)+(m:Int)).toNat=i+m:=by omega
 have hb2:¬(c=i+m):=by omega
 have hb3:(i:Int)≤(n:Int)+(m:Int):=by omega
 have hb4:¬(c=i):=by omega
 have hcp1:∀ty dc sc,(Builtin.copy_ #[(ρ.t 24),(ρ.t 24)] ty #[.slice (some ⟨b,off+(i+m)*k,none⟩) (n+m-(i+m)) dc, .slice (some ⟨b,off+i*k,none⟩) (n+m-i) sc]).run P w.drew= .ok (goInt (Nat.min (n+m-i) (n+m-(i+m)))) (w.drew.setCells b (off+(i+m)*k) (cs.drop (i*k))):=fun ty dc sc=>
  zde w.drew _ _ ty (ρ.t 9) k b (off+(i+m)*k) (n+m-(i+m)) dc ⟨b,off+i*k,none⟩ (n+m-i) sc (cs.drop (i*k)) L.t24 hsz (by rw[hdl];congr 1;simp only[Nat.min_def];split<;>omega)
   (fun j v hj=>by rw[Addr.add_lit,Nat.add_assoc];exact hcs (i*k+j) v (by rwa [List.getElem?_drop]at hj))
   (fun j hj=>zeE (i:=i+m) (m:=n-i) hsp (by omega) j (by rw[←hdl];exact hj)) (fun j hj=>znd (i:=i+m) (m:=n-i) hfz (by omega) j (by rw[←hdl];exact hj)) (fun v hv=>h1c v (List.mem_of_mem_drop hv))
 obtain ⟨W1,hW1⟩:∃W1,W1=w.drew.setCells b (off+(i+m)*k) (cs.drop (i*k)):=⟨_,rfl⟩
 have hsp1:∀j,j<(n+m)*k→(W1.cell? ⟨b,off+j,none⟩).isSome=true:=fun j hj=>by
  rw[hW1];exact isSome_setCells b _ _ w.drew (fun j hj=>zeE (i:=i+m) (m:=n-i) hsp (by omega) j (by rw[←hdl];exact hj)) _ (hsp j hj)
 have hcp2:∀(W:World),(∀x,W.cell? x=W1.cell? x)→(∀x,W.frozen? x=W1.frozen? x)→∀ty dc,(Builtin.copy_ #[(ρ.t 24),(ρ.t 24)] ty #[.slice (some ⟨b,off+i*k,none⟩) (n+m-i) dc, .slice (some ⟨vb,voff,none⟩) m vc]).run P W= .ok (goInt (Nat.min m (n+m-i))) (W.setCells b (off+i*k) vs):=fun W hWc hWf ty dc=>
  zde W _ _ ty (ρ.t 9) k b (off+i*k) (n+m-i) dc ⟨vb,voff,none⟩ m vc vs L.t24 hsz (by rw[hvl];congr 1;simp only[Nat.min_def];split<;>omega)
   (fun j v hj=>by
     rw[Addr.add_lit,hWc,hW1,World.cell?_setCells_out b _ _ _ _ (fun h _=>absurd h hvb)]
     exact hvs j v hj)
   (fun j hj=>by rw[hWc];exact zeE (i:=i) (m:=m) hsp1 (by omega) j (by rw[←hvl];exact hj)) (fun j hj=>by rw[hWf,hW1,World.frozen?_setCells];exact znd (i:=i) (m:=m) hfz (by omega) j (by rw[←hvl];exact hj)) h1v
 rw[←hW1]at hcp1
 go_enter L.f22,zeD ρ nm
 go_wp2_with (simp only[hov])
 go_region_law_o (refine step_copy_runI rfl _ _ (ρ.t 24) (ρ.t 24) rfl _ _ (by simp[Act.eval,Act.put]) (by simp[Act.eval,Act.put]) (hcp1 _ _ _) ?_)
 go_wp2_with (at_builtin;refine wpList_copy_runI _ rfl _ _ (ρ.t 24) (ρ.t 24) rfl _ _ rfl rfl (hcp2 _ (fun _=>rfl) (fun _=>rfl) _ _) ?_)
 go_ret
 first|exact ⟨rfl,rfl⟩|exact ⟨rfl,by rw[hW1]⟩
theorem zcD(z:Value)(n:Nat):(Builtin.zeroCells z.cells n).size=n*z.cells.size:=by
 unfold Builtin.zeroCells;simp
set_option maxHeartbeats 4000000 in
set_option maxRecDepth 100000 in
theorem zqZ{nm:String}{fo:Func}{k B:Nat}{z:Value}(L:InsAt P ρ nm fo k B z)(b off n c i vb voff m vc:Nat)(cs vs:List Value)(w:World)(hi:i<n)(hm:0<m)(hnc:n≤c)(hroom:c<n+m)(hbig:(n+m)*B≤140737488355328)(hn63:n+m<9223372036854775807)
 (hcl:cs.length=n*k) (hvl:vs.length=m*k) (hbw:b<w.heap.size) (hvw:vb<w.heap.size)
 (hcs:∀j v,cs[j]? =some v→w.cell? ⟨b,off+j,none⟩=some v)
 (hvs:∀j v,vs[j]? =some v→w.cell? ⟨vb,voff+j,none⟩=some v) (h1c:∀v∈cs,v.oneCell'=true) (h1v:∀v∈vs,v.oneCell'=true):
 Calls P (ρ.f 22) #[.slice (some ⟨b,off,none⟩) n c, .int .i64 i, .slice (some ⟨vb,voff,none⟩) m vc] w fun e w'=>
  e= .returned (.slice (some ⟨w.heap.size,0,none⟩) (n+m) (grownCap w (n+m) c (ρ.t 9)))∧
  w'=(((w.alloc (.cells ((cs.take (i*k)).toArray++Builtin.zeroCells z.cells (n+m-i)++Builtin.zeroCells z.cells (grownCap w (n+m) c (ρ.t 9)-(n+m))) (ρ.t 9))).drew.setCells w.heap.size (i*k) vs).drew).setCells w.heap.size ((i+m)*k) (cs.drop (i*k)):=by
 have t0:=L.t0;have a0:=L.a0;have z0:=L.z0;have v0:=L.v0;have t3:=L.t3;have a3:=L.a3;have z3:=L.z3;have v3:=L.v3;have t4:=L.t4;have a4:=L.a4;have z4:=L.z4;have v4:=L.v4;have z9:=L.z9;have t24:=L.t24;have a24:=L.a24;have z24:=L.z24;have v24:=L.v24;have u0:=run_underlying L.t0;have u3:=run_underlying L.t3;have u4:=run_underlying L.t4;have u24:=run_underlying L.t24;have mixed:=L.mixed;obtain ⟨i0,hi0,hz0,hzs,hzb⟩:=info_parts L.i9;have hz1:¬((m:Int)=0):=by omega
 have hz2:¬((i:Int)=(n:Int)):=by omega
 have hz3:(c:Int)<(n:Int)+(m:Int):=by omega
 have hsz:(P.info? (ρ.t 9)).map (·.size)=some k:=by rw[hi0];simp[hzs]
 have hkk:(n:Int)+(m:Int)-(i:Int)=((n+m-i:Nat):Int):=by omega
 have hik:i+(n+m-i)=n+m:=by omega
 have hin2:i*k≤n*k:=Nat.mul_le_mul_right k (by omega)
 have htl:(cs.take (i*k)).length=i*k:=by rw[List.length_take,hcl];omega
 have hold:(Builtin.firstCells i0.size i (.slice (some ⟨b,off,none⟩) i c)).run P w.drew= .ok (cs.take (i*k)).toArray w.drew:=by
  rw[hzs]
  exact run_firstCells_some w.drew k i ⟨b,off,none⟩ i c (cs.take (i*k)) htl (fun j v hj=>by
   rw[Addr.add_lit];rw[List.getElem?_take]at hj;split at hj
   ·exact hcs j v hj
   ·cases hj)
 have hsmall:(n+m-i)*B≤(n+m)*B:=Nat.mul_le_mul_right B (by omega)
 have hrz:∀ty,(Builtin.append_ #[(ρ.t 24),(ρ.t 3)] ty #[.slice (some ⟨b,off,none⟩) i c, .int .i64 ((n:Int)+(m:Int)-(i:Int))]).run P w=
  .ok (.slice (some ⟨w.heap.size,0,none⟩) (n+m) (grownCap w (n+m) c (ρ.t 9))) (w.drew.alloc (.cells ((cs.take (i*k)).toArray++Builtin.zeroCells z.cells (n+m-i)++Builtin.zeroCells z.cells (grownCap w (n+m) c (ρ.t 9)-(n+m))) (ρ.t 9))):=fun ty=>by
  have h:=Lib.run_append_grow_zeros w (ρ.t 24) (ρ.t 3) ty (ρ.t 9) i0 _ .i64 .i64 L.t24 L.t3 hi0 hz0 (some ⟨b,off,none⟩) i c (cs.take (i*k)) hold (n+m-i) (by omega) (by rw[hzs];exact L.k0) (by omega) (by omega) (by rw[hzb];omega) (by rw[hzb,hik];exact growslice_fits hroom hbig)
  rw[hik]at h;rw[hkk];exact h
 obtain ⟨G,hG⟩:∃G,G=grownCap w (n+m) c (ρ.t 9):=⟨_,rfl⟩;obtain ⟨ROW,hROW⟩:∃ROW:Array Value,ROW=(cs.take (i*k)).toArray++Builtin.zeroCells z.cells (n+m-i)++Builtin.zeroCells z.cells (G-(n+m)):=⟨_,rfl⟩;rw[←hG]at hrz⊢;rw[←hROW]at hrz⊢
 have hRl:(n+m)*k≤ROW.size:=by
  rw[hROW];simp only[Array.size_append,zcD,List.size_toArray,htl,L.zk];rw[←Nat.add_mul,hik];omega
 obtain ⟨W1,hW1⟩:∃W1,W1=w.drew.alloc (.cells ROW (ρ.t 9)):=⟨_,rfl⟩;rw[←hW1]at hrz
 have hN:∀j,j<(n+m)*k→(W1.cell? ⟨w.heap.size,0+j,none⟩).isSome=true:=fun j hj=>by
  rw[Nat.zero_add,hW1,World.cell?_alloc_at (w:=w.drew) ROW _ w.heap.size j rfl,Array.getElem?_eq_getElem (by omega)];rfl
 have hNf:∀j,W1.frozen? ⟨w.heap.size,j,none⟩=false:=fun j=>by rw[hW1];exact World.frozen?_alloc_at (w:=w.drew) ROW _ w.heap.size j rfl
 have hOb:∀j v,w.cell? ⟨b,j,none⟩=some v→W1.cell? ⟨b,j,none⟩=some v:=fun j v h=>by rw[hW1,World.cell?_alloc_past (w:=w.drew) _ b j hbw];exact h
 have hOv:∀j v,w.cell? ⟨vb,j,none⟩=some v→W1.cell? ⟨vb,j,none⟩=some v:=fun j v h=>by rw[hW1,World.cell?_alloc_past (w:=w.drew) _ vb j hvw];exact h
 have hcpA:∀(W:World),(∀x,W.cell? x=W1.cell? x)→(∀x,W.frozen? x=W1.frozen? x)→∀ty dc,(Builtin.copy_ #[(ρ.t 24),(ρ.t 24)] ty #[.slice (some ⟨w.heap.size,i*k,none⟩) (n+m-i) dc, .slice (some ⟨vb,voff,none⟩) m vc]).run P W= .ok (goInt (Nat.min m (n+m-i))) (W.setCells w.heap.size (i*k) vs):=fun W hWc hWf ty dc=>
  zde W _ _ ty (ρ.t 9) k w.heap.size (i*k) (n+m-i) dc ⟨vb,voff,none⟩ m vc vs L.t24 hsz (by rw[hvl];congr 1;simp only[Nat.min_def];split<;>omega)
   (fun j v hj=>by rw[Addr.add_lit,hWc];exact hOv _ v (hvs j v hj))
   (fun j hj=>by
     rw[hWc];have:=zeE (i:=i) (m:=m) hN (by omega) j (by rw[←hvl];exact hj)
     rwa [Nat.zero_add]at this) (fun j hj=>by rw[hWf];exact hNf _) h1v
 have hGn:n+m≤G:=by rw[hG];exact grownCap_ge w _ _ _
 have hG63:G≤9223372036854775807:=by
  have:=grownCap_le_maxLen w (n+m) c (ρ.t 9) (by unfold maxLen;omega)
  rw[←hG]at this;unfold maxLen at this;omega
 have hGi:¬(G=i):=by omega
 have hGim:¬(G=i+m):=by omega
 have hci:¬(c=i):=by omega
 have hbN:b≠w.heap.size:=by omega
 have hdl:(cs.drop (i*k)).length=(n-i)*k:=by rw[List.length_drop,hcl,Nat.sub_mul]
 have hcpB:∀(W:World),(∀x,W.cell? x=(W1.setCells w.heap.size (i*k) vs).cell? x)→(∀x,W.frozen? x=(W1.setCells w.heap.size (i*k) vs).frozen? x)→∀ty dc sc,(Builtin.copy_ #[(ρ.t 24),(ρ.t 24)] ty #[.slice (some ⟨w.heap.size,(i+m)*k,none⟩) (n+m-(i+m)) dc, .slice (some ⟨b,off+i*k,none⟩) (n-i) sc]).run P W= .ok (goInt (Nat.min (n-i) (n+m-(i+m)))) (W.setCells w.heap.size ((i+m)*k) (cs.drop (i*k))):=fun W hWc hWf ty dc sc=>
  zde W _ _ ty (ρ.t 9) k w.heap.size ((i+m)*k) (n+m-(i+m)) dc ⟨b,off+i*k,none⟩ (n-i) sc (cs.drop (i*k)) L.t24 hsz (by rw[hdl];congr 1;simp only[Nat.min_def];split<;>omega)
   (fun j v hj=>by
     rw[Addr.add_lit,hWc,World.cell?_setCells_out _ _ _ _ _ (fun h _=>absurd h hbN),Nat.add_assoc]
     exact hOb _ v (hcs (i*k+j) v (by rwa [List.getElem?_drop]at hj)))
   (fun j hj=>by
     rw[hWc];refine isSome_setCells _ _ _ _ (fun t ht=> ?_) _ ?_
     ·have:=zeE (i:=i) (m:=m) hN (by omega) t (by rw[←hvl];exact ht)
      rwa [Nat.zero_add]at this
     ·have:=zeE (i:=i+m) (m:=n-i) hN (by omega) j (by rw[←hdl];exact hj)
      rwa [Nat.zero_add]at this)
   (fun j hj=>by rw[hWf,World.frozen?_setCells];exact hNf _) (fun v hv=>h1c v (List.mem_of_mem_drop hv))
 subst hW1;have hE1:∀x,((w.alloc (.cells ROW (ρ.t 9))).drew).cell? x=(w.drew.alloc (.cells ROW (ρ.t 9))).cell? x:=fun x=>rfl
 have hE2:∀x,((w.alloc (.cells ROW (ρ.t 9))).drew).frozen? x=(w.drew.alloc (.cells ROW (ρ.t 9))).frozen? x:=fun x=>rfl
 have hF1:∀x,(((w.alloc (.cells ROW (ρ.t 9))).drew.setCells w.heap.size (i*k) vs).drew).cell? x=((w.drew.alloc (.cells ROW (ρ.t 9))).setCells w.heap.size (i*k) vs).cell? x:=fun x=>rfl
 have hF2:∀x,(((w.alloc (.cells ROW (ρ.t 9))).drew.setCells w.heap.size (i*k) vs).drew).frozen? x=((w.drew.alloc (.cells ROW (ρ.t 9))).setCells w.heap.size (i*k) vs).frozen? x:=fun x=>rfl
 have hw1:IntKind.i64.wrap ((i:Int)+(m:Int))=(i:Int)+(m:Int):=by rw[IntKind.wrap_i64];omega
 have hb1:(0:Int)≤(i:Int)+(m:Int):=by omega
 have hin:i≤n:=by omega
 have htn:((i:Int)+(m:Int)).toNat=i+m:=by omega
 have hb3:(i:Int)≤(n:Int):=by omega
 clear hkk hik hold hROW hG hRl
 go_enter L.f22,zeD ρ nm
 go_wp2_with (first
  |(at_builtin;refine Lib.wpList_append_run _ rfl _ _ _ _ rfl _ _ rfl rfl _ _ (hrz _) ?_)
  |(at_builtin;refine wpList_copy_runI _ rfl _ _ (ρ.t 24) (ρ.t 24) rfl _ _ rfl rfl (hcpA _ hE1 hE2 _ _) ?_)
  |(at_builtin;refine wpList_copy_runI _ rfl _ _ (ρ.t 24) (ρ.t 24) rfl _ _ rfl rfl (hcpB _ (fun _=>rfl) (fun _=>rfl) _ _ _) ?_))
 go_region_law_o (refine step_copy_runI rfl _ _ (ρ.t 24) (ρ.t 24) rfl (.slice (some ⟨w.heap.size,(i+m)*k,none⟩) (n+m-(i+m)) (G-(i+m))) (.slice (some ⟨b,off+i*k,none⟩) (n-i) (c-i)) (by simp[Act.eval,Act.put]) (by simp[Act.eval,Act.put]) (hcpB _ hF1 hF2 (ρ.t 3) (G-(i+m)) (c-i)) ?_)
 go_wp2
 go_ret
 exact ⟨rfl,rfl⟩
end Go.PV
namespace Go.PV
open Go.Shelf Go.RowKit Go.Lib Go.Proofs
variable {P:Program}{ρ:Ren}
structure InsPost (w:World) (k n m I:Nat) (cs vs:List Value) (src:Option Nat) (v:Value) (w':World):Prop where
 row:∃B O C cells ty,v= .slice (some ⟨B,O,none⟩) (n+m) C∧n+m≤C∧(B=w.heap.size∨src=some B)∧w'.heap[B]? =some (.cells cells ty (0,0))∧O+C*k≤cells.size∧
  (∀t,t<(n+m)*k→cells[O+t]? =(cs.take I++vs++cs.drop I)[t]?)∧∀b,b≠B→b<w.heap.size→w'.heap[b]? =w.heap[b]?
 size:w.heap.size≤w'.heap.size
 os:w'.os=w.os
 output:w'.output=w.output
 tape:w'.tape=w.tape
theorem zhV{cs vs:List Value}{I:Nat}(hI:I≤cs.length)(t:Nat):(cs.take I++vs++cs.drop I)[t]? =if t<I then cs[t]? else if t<I+vs.length then vs[t-I]? else cs[t-vs.length]? :=by
 have h0:(cs.take I).length=I:=by rw[List.length_take];omega
 rw[List.getElem?_append,List.getElem?_append,List.length_append,h0,List.getElem?_take,List.getElem?_drop];by_cases h1:t<I
 ·simp only[if_pos (show t<I+vs.length by omega),if_pos h1]
 ·by_cases h2:t<I+vs.length
  ·simp only[if_pos h2,if_neg h1]
  ·simp only[if_neg h2,if_neg h1]
   congr 1
   omega
theorem zcj{w:World}{b o:Nat}{cells:Array Value}{ty:TypeId}{fz:Nat×Nat}(h:w.heap[b]? =some (.cells cells ty fz)):w.cell? ⟨b,o,none⟩=cells[o]? :=by
 simp[World.cell?,h]
theorem zeP{w:World}{b o:Nat}{cells:Array Value}{ty:TypeId}(h:w.heap[b]? =some (.cells cells ty (0,0))):w.frozen? ⟨b,o,none⟩=false:=by
 simp[World.frozen?,h]
theorem zpr(w:World):w.drew.heap=w.heap:=rfl
theorem zi5(w:World)(o:Go.Obj):(w.alloc o).heap[w.heap.size]? =some o:=by
 simp only[World.alloc,Array.getElem?_push,if_true]
theorem zhW(w:World)(o:Go.Obj){b:Nat}(h:b<w.heap.size):(w.alloc o).heap[b]? =w.heap[b]? :=by
 simp only[World.alloc,Array.getElem?_push,if_neg (Nat.ne_of_lt h)]
theorem zi6(w:World)(o:Go.Obj):(w.alloc o).heap.size=w.heap.size+1:=by
 simp only[World.alloc,Array.size_push]
theorem zi7{w:World}{b:Nat}{cells:Array Value}{ty:TypeId}{fz:Nat×Nat}(h:w.heap[b]? =some (.cells cells ty fz)):w.shape? b=some (ty,cells.size):=by
 simp[World.shape?,h]
theorem zse{nm:String}{fo:Func}{k B:Nat}{z:Value}(L:InsAt P ρ nm fo k B z)(base:Option Addr)(n c i vb voff vc m:Nat)(cs vs:List Value)(w:World)(hi:i≤n)(hm:0<m)(hnc:n≤c)
 (hbig:(n+m)*B≤140737488355328) (hn63:n+m<9223372036854775807) (hcl:cs.length=n*k) (hvl:vs.length=m*k)
 (hs:(n=0∧c=0)∨∃b off cells ty,base=some ⟨b,off,none⟩∧w.heap[b]? =some (.cells cells ty (0,0))∧off+c*k≤cells.size∧vb≠b∧∀j,j<cs.length→cells[off+j]? =cs[j]?)
 (hv:∃cells ty,w.heap[vb]? =some (.cells cells ty (0,0))∧∀j,j<vs.length→cells[voff+j]? =vs[j]?) (h1c:∀v∈cs,v.oneCell'=true) (h1v:∀v∈vs,v.oneCell'=true):
 Calls P (ρ.f 22) #[.slice base n c, .int .i64 i, .slice (some ⟨vb,voff,none⟩) m vc] w fun e w'=>∃v,e= .returned v∧InsPost w k n m (i*k) cs vs (if c=0 then none else base.map (·.block)) v w':=by
 obtain ⟨vcells,vty,hvh,hvc⟩:=hv;have hk:=L.k0
 have hvs:∀j v,vs[j]? =some v→w.cell? ⟨vb,voff+j,none⟩=some v:=fun j v hj=>by
  rw[zcj hvh,hvc j (List.getElem?_eq_some_iff.1 hj).1];exact hj
 have hvlt:vb<w.heap.size:=(Array.getElem?_eq_some_iff.1 hvh).1;have hdist:(n+m)*k=n*k+m*k:=Nat.add_mul _ _ _;have hIN:i*k≤n*k:=Nat.mul_le_mul_right k hi;by_cases hroom:n+m≤c
 ·rcases hs with ⟨h1,h2⟩|⟨b,off,cells,ty,rfl,hbh,hsz,hne,hcc⟩
  ·omega
  ·have hCk:(n+m)*k≤c*k:=Nat.mul_le_mul_right k hroom
   have hcs:∀j v,cs[j]? =some v→w.cell? ⟨b,off+j,none⟩=some v:=fun j v hj=>by
    rw[zcj hbh,hcc j (List.getElem?_eq_some_iff.1 hj).1];exact hj
   have hsp:∀j,j<(n+m)*k→(w.cell? ⟨b,off+j,none⟩).isSome=true:=fun j hj=>by
    rw[zcj hbh,Array.getElem?_eq_getElem (by omega)];rfl
   have hfz:∀j,w.frozen? ⟨b,off+j,none⟩=false:=fun j=>zeP hbh
   have hblt:b<w.heap.size:=(Array.getElem?_eq_some_iff.1 hbh).1;by_cases hin:i=n
   ·subst hin
    refine (zlb L b off i c vb voff m vc vs w hm hroom hvl (fun j hj=>zeE (i:=i) (m:=m) hsp (Nat.le_refl _) j hj) (fun j hj=>by rw[Nat.add_assoc];exact hfz _) hvs h1v).mono ?_
    rintro e w' ⟨rfl,rfl⟩
    rw[zcZ];have F:=zbP b ty vs w (off+i*k) cells hbh;obtain ⟨cells',h1,h2,h3⟩:=F.here;refine ⟨_,rfl,{row:=⟨b,off,c,cells',ty,rfl,hroom, .inr (by rw[if_neg (by omega)];rfl),h1,by omega,fun t ht=> ?_,fun x hx _=>F.other x hx⟩,size:=by rw[F.size];omega,os:=F.os,output:=F.output,tape:=F.tape}⟩
    rw[zhV (by omega),h3]
    by_cases ht1:t<i*k
    ·rw[if_neg (by omega),if_pos ht1,hcc t (by omega)]
    ·rw[if_pos (by omega),if_pos (by omega),if_neg ht1,if_pos (by omega)]
     congr 1
     omega
   ·have hcsz:cells.size≠0:=by
     have:0<(n+m)*k:=Nat.mul_pos (by omega) hk
     omega
    refine (zpq L b off n c i vb voff m vc cs vs w (by omega) hm hroom hn63 hne hcl hvl hcs hsp (fun j _=>hfz j) hvs h1c h1v vty ty vcells.size cells.size (zi7 hvh) (zi7 hbh) hcsz (zeP hvh) (zeP hvh)).mono ?_
    rintro e w' ⟨rfl,rfl⟩
    rw[zcZ,zcZ];have F:=zbP b ty (cs.drop (i*k)) w.drew (off+(i+m)*k) cells hbh;obtain ⟨cells1,h1,h2,h3⟩:=F.here;have F2:=zbP b ty vs _ (off+i*k) cells1 h1;obtain ⟨cells2,g1,g2,g3⟩:=F2.here;have him:(i+m)*k=i*k+m*k:=Nat.add_mul _ _ _;refine ⟨_,rfl,{row:=⟨b,off,c,cells2,ty,rfl,hroom, .inr (by rw[if_neg (by omega)];rfl),g1,by omega,fun t ht=> ?_,fun x hx _=>(F2.other x hx).trans (F.other x hx)⟩,size:=by rw[F2.size,F.size];exact Nat.le_refl _,os:=F2.os.trans F.os,output:=F2.output.trans F.output,tape:=F2.tape.trans F.tape}⟩
    rw[zhV (by omega),g3]
    by_cases ht1:t<i*k
    ·rw[if_neg (by omega),if_pos ht1,h3,if_neg (by omega),hcc t (by omega)]
    ·rw[if_neg ht1]
     by_cases ht2:t<i*k+vs.length
     ·rw[if_pos (by omega),if_pos (by omega),if_pos ht2]
      congr 1
      omega
     ·rw[if_neg (by omega),if_neg ht2,h3,List.length_drop,if_pos (by omega),if_pos (by omega),List.getElem?_drop]
      congr 1
      omega
 ·have hgrow:c<n+m:=by omega
  have hG:n+m≤grownCap w (n+m) c (ρ.t 9):=grownCap_ge w _ _ _;by_cases hin:i=n
  ·subst hin
   have hcs:∀a,base=some a→∀j v,cs[j]? =some v→w.cell? (a.add j)=some v:=fun a ha j v hj=>by
    rcases hs with ⟨h1,h2⟩|⟨b,off,cells,ty,rfl,hbh,hsz,hne,hcc⟩
    ·subst h1
     have:cs=[]:=List.length_eq_zero_iff.1 (by simpa using hcl)
     subst this;simp at hj
    ·obtain rfl:=Option.some.inj ha
     rw[Addr.add_lit,zcj hbh,hcc j (List.getElem?_eq_some_iff.1 hj).1];exact hj
   have hnil:base=none→i=0:=fun h=>by
    rcases hs with ⟨h1,h2⟩|⟨b,off,cells,ty,rfl,_⟩
    ·exact h1
    ·simp at h
   refine (zlc L base i c vb voff m vc cs vs w hm hnc hgrow hbig hn63 hcl hvl hnil hcs hvs h1v).mono ?_
   rintro e w' ⟨rfl,rfl⟩
   refine ⟨_,rfl,{row:=⟨w.heap.size,0,_,_,_,rfl,hG, .inl rfl,zi5 w.drew _, ?_,fun t ht=> ?_,fun x hx hlt=>zhW w.drew _ hlt⟩,size:=by rw[zi6];exact Nat.le_succ _,os:=rfl,output:=rfl,tape:=rfl}⟩
   ·rw[Array.size_append,zcD,L.zk,List.size_toArray,List.length_append,hcl,hvl,Nat.zero_add,←Nat.add_mul,←Nat.add_mul]
    exact Nat.mul_le_mul_right k (by omega)
   ·rw[zhV (by omega),Nat.zero_add,Array.getElem?_append,if_pos (by simp;omega)]
    simp only[List.getElem?_toArray,List.getElem?_append];by_cases ht1:t<i*k
    ·rw[if_pos (by omega),if_pos ht1]
    ·rw[if_neg (by omega),if_neg ht1,if_pos (by omega)]
     congr 1
     omega
  ·rcases hs with ⟨h1,h2⟩|⟨b,off,cells,ty,rfl,hbh,hsz,hne,hcc⟩
   ·omega
   ·have hcs:∀j v,cs[j]? =some v→w.cell? ⟨b,off+j,none⟩=some v:=fun j v hj=>by
     rw[zcj hbh,hcc j (List.getElem?_eq_some_iff.1 hj).1];exact hj
    have hblt:b<w.heap.size:=(Array.getElem?_eq_some_iff.1 hbh).1;refine (zqZ L b off n c i vb voff m vc cs vs w (by omega) hm hnc hgrow hbig hn63 hcl hvl hblt hvlt hcs hvs h1c h1v).mono ?_
    rintro e w' ⟨rfl,rfl⟩
    rw[zcZ,zcZ];obtain ⟨ROW,hROW⟩:∃ROW:Array Value,ROW=(cs.take (i*k)).toArray++Builtin.zeroCells z.cells (n+m-i)++Builtin.zeroCells z.cells (grownCap w (n+m) c (ρ.t 9)-(n+m)):=⟨_,rfl⟩;rw[←hROW];have htl:(cs.take (i*k)).length=i*k:=by rw[List.length_take,hcl];omega
    have hRl:ROW.size=grownCap w (n+m) c (ρ.t 9)*k:=by
     rw[hROW,Array.size_append,Array.size_append,zcD,zcD,L.zk,List.size_toArray,htl,←Nat.add_mul,←Nat.add_mul];congr 1
     omega
    have hGk:(n+m)*k≤grownCap w (n+m) c (ρ.t 9)*k:=Nat.mul_le_mul_right k hG;have F:=zbP w.heap.size (ρ.t 9) vs (w.alloc (.cells ROW (ρ.t 9))).drew (i*k) ROW (zi5 w _);obtain ⟨cells1,h1,h2,h3⟩:=F.here;have F2:=zbP w.heap.size (ρ.t 9) (cs.drop (i*k)) (setCells (w.alloc (.cells ROW (ρ.t 9))).drew w.heap.size (i*k) vs).drew ((i+m)*k) cells1 h1;obtain ⟨cells2,g1,g2,g3⟩:=F2.here;have him:(i+m)*k=i*k+m*k:=Nat.add_mul _ _ _;have hsame:∀x,x≠w.heap.size→x<w.heap.size→_:=fun x hx hlt=>(F2.other x hx).trans ((F.other x hx).trans (zhW w (.cells ROW (ρ.t 9)) hlt))
    refine ⟨_,rfl,{row:=⟨w.heap.size,0,_,cells2,_,rfl,hG, .inl rfl,g1,by omega,fun t ht=> ?_,hsame⟩,size:= ?_,os:=F2.os.trans F.os,output:=F2.output.trans F.output,tape:=F2.tape.trans F.tape}⟩
    ·rw[zhV (by omega),g3,Nat.zero_add,List.length_drop]
     by_cases ht1:t<i*k
     ·rw[if_neg (by omega),if_pos ht1,h3,if_neg (by omega),hROW,Array.getElem?_append,if_pos (by simp[zcD,L.zk];omega),Array.getElem?_append,if_pos (by simp;omega),List.getElem?_toArray,List.getElem?_take,if_pos ht1]
     ·rw[if_neg ht1]
      by_cases ht2:t<i*k+vs.length
      ·rw[if_neg (by omega),if_pos ht2,h3,if_pos (by omega),if_pos (by omega)]
      ·rw[if_pos (by omega),if_pos (by omega),if_neg ht2,List.getElem?_drop]
       congr 1
       omega
    ·have:(w.alloc (.cells ROW (ρ.t 9))).heap.size=w.heap.size+1:=zi6 w _
     have h5:=F.size;have h6:=F2.size;simp only[zpr]at h5 h6;omega
def gIns(G:Ghost)(B i m:Nat):Ghost:=fun b=>
 if b=B then some (2,[0])else
 match G b with
 |some (0,0::r::π)=>some (2,0::(if r<i then r else r+m)::π)
 |some (1,0::r::π)=>some (2,0::(i+r)::π)
 |some (n,π)=>if n<2 then none else some (n,π)
 |none=>none
def zc6(k:Nat):List AV→List Obj→Option Res
 | [.one (.r 0 [] 0), .one (.v (.int .i64 i)), .one (.r 1 [] 0)],[⟨.virt,[.s es],[.deep]⟩,⟨.virt,[.s fs],[.deep]⟩]=>
  bif decide (0≤i)&&decide (i≤es.length)&&decide (fs.length=1)&&decide (es.length≤2^30)&&(zak k es&&(zak k fs&&(zap true es&&zap true fs)))then
   some ⟨[.o .deep (es.take i.toNat++fs++es.drop i.toNat)],[⟨.virt,[.h],[.deep]⟩,⟨.virt,[.h],[.deep]⟩]⟩else none
 |_,_=>none
theorem args3{args:Array Value}(h:args.size=3):args= #[args.getD 0 undef,args.getD 1 undef,args.getD 2 undef]:=by
 apply Array.ext
 ·simp[h]
 ·intro i h1 h2
  have:i=0∨i=1∨i=2:=by simp at h2;omega
  rcases this with rfl|rfl|rfl<;>simp[h1]
theorem zfW{w:World}{G:Ghost}{n k:Nat}{u:Value}{es:List (List D)}(h:Rel w (QCell G n 0 .deep) u (.s es))(hz:zak k es=true)(hb:zap true es=true)(hk:0<k)
 (hown:∀b x,G b=some x→OwnAt w b x):
 (es=[]∧∃a,u= .slice a 0 0)∨(∃b off c cells ty,u= .slice (some ⟨b,off,none⟩) es.length c∧es.length≤c∧(es=[]→c=0)∧G b=some (n,[0])∧w.heap[b]? =some (.cells cells ty (0,0))∧(es≠[]→off+c*k≤cells.size)∧
  ∃cs:List Value,cs.length=es.length*k∧(∀j,j<cs.length→cells[off+j]? =cs[j]?)∧(∀v∈cs,v.oneCell'=true)∧
   ∀i j (hi:i<es.length) (hj:j<(es[i]).length),Rel w (fun π b=>QCell G n 0 .deep (i::j::π) b) (cs.getD (i*k+j) undef) ((es[i])[j])):=by
 rcases h.slice with ⟨rfl,a,rfl⟩|⟨ad,cap,sz,uf,rfl,⟨hl,h0⟩,hsp,hlt,hq,hcc,hz',hu,hr⟩
 ·exact .inl ⟨rfl,a,rfl⟩
 ·right
  obtain ⟨b,off,sp⟩:=ad;obtain rfl:sp=none:=hsp;have hG:G b=some (n,[0]):=hq;obtain ⟨cells,ty,hh⟩:=(hown b _ hG).plain (.inr rfl)
  have h0':es=[]→cap=0:=fun he=>by
   rcases h0 he with h|h
   ·exact h
   ·have h:G b=some (n,[0,0]):=h
    rw[hG]at h;simp at h
  have hsz:es≠[]→sz=k:=fun he=>by
   have hp:0<es.length:=List.length_pos_iff.2 he;rw[←hz' 0 hp,zb3 hz 0 hp]
  refine ⟨b,off,cap,cells,ty,rfl,hl,h0',hG,hh,fun he=> ?_,(List.range (es.length*k)).map fun t=>uf (t/k) (t%k),by simp,fun t ht=> ?_,fun v hv=> ?_,fun i j hi hj=> ?_⟩
  ·have hp:0<es.length:=List.length_pos_iff.2 he
   have hck:0<cap*k:=Nat.mul_pos (by omega) hk
   have h1:=hcc (cap*k-1) (by rw[hsz he];omega)
   rw[zcj hh]at h1;obtain ⟨x,hx⟩:=Option.isSome_iff_exists.1 h1;have:off+(cap*k-1)<cells.size:=(Array.getElem?_eq_some_iff.1 hx).1;omega
  ·simp only[List.length_map,List.length_range]at ht
   have h1:t/k<es.length:=Nat.div_lt_of_lt_mul (by rw[Nat.mul_comm];exact ht)
   have h2:t%k<k:=Nat.mod_lt _ hk;have h3:=hu (t/k) (t%k) h1 (by rw[hsz (by rintro rfl;simp at h1)];exact h2)
   rw[zcj hh,hsz (by rintro rfl;simp at h1),Nat.mul_comm,Nat.div_add_mod]at h3
   rw[h3];simp[ht]
  ·simp only[List.mem_map,List.mem_range]at hv
   obtain ⟨t,ht,rfl⟩:=hv;have h1:t/k<es.length:=Nat.div_lt_of_lt_mul (by rw[Nat.mul_comm];exact ht)
   have h2:t%k<(es[t/k]).length:=by rw[zb3 hz _ h1];exact Nat.mod_lt _ hk
   exact one_cell (zkB (hr _ _ h1 h2) (zd4 hb _ h1 _ h2))
  ·have hj':j<k:=by rw[←zb3 hz i hi];exact hj
   have h1:=zfS hi hj';have hd:=zlZ (i:=i) hj'
   have he:((List.range (es.length*k)).map fun t=>uf (t/k) (t%k)).getD (i*k+j) undef=uf i j:=by
    simp[List.getD,h1,hd]
   rw[he];exact hr i j hi hj
theorem zhX{G:Ghost}{B i m b:Nat}{x:Nat×List Nat}(h:gIns G B i m b=some x):
 (b=B∧x=(2,[0]))∨(b≠B∧∃y,G b=some y∧(Plain x.2→Plain y.2)∧((x=y∧2≤x.1)∨(x.1=2∧x.2≠[]))):=by
 unfold gIns at h;split at h
 ·rename_i hb
  exact .inl ⟨hb,(Option.some.inj h).symm⟩
 ·rename_i hb
  refine .inr ⟨hb, ?_⟩;split at h
  ·rename_i r π hG
   obtain rfl:=Option.some.inj h;exact ⟨_,hG,fun hp=>by unfold Plain at hp⊢;simpa using hp, .inr ⟨rfl,by simp⟩⟩
  ·rename_i r π hG
   obtain rfl:=Option.some.inj h;exact ⟨_,hG,fun hp=>by unfold Plain at hp⊢;simpa using hp, .inr ⟨rfl,by simp⟩⟩
  ·rename_i n π _ _ hG
   split at h
   ·simp at h
   ·obtain rfl:=Option.some.inj h
    exact ⟨_,hG,id, .inl ⟨rfl,by simp;omega⟩⟩
  ·simp at h
theorem zps{G:Ghost}{B i m b:Nat}(hb:b≠B)(h:G b=none):gIns G B i m b=none:=by
 unfold gIns;rw[if_neg hb,h]
theorem zsf{G:Ghost}{B i m b:Nat}{π:List Nat}(hb:b≠B)(h:G b=some (FR,π)):gIns G B i m b=some (FR,π):=by
 unfold gIns;rw[if_neg hb,h];simp[FR]
theorem zfX{Y:Prm}{ρ:Ren}{nm:String}{fo:Func}{k B:Nat}{z:Value}(L:InsAt Y.P ρ nm fo k B z)(hB:B≤65536){f:FuncId}{fn:Func}(hF:ρ.f 22=f)(hf:Y.P.funcs[f]? =some fn)(hb:fn.body.isSome=true)(hn:(fn.name== "runtime.NumGoroutine")=false)
 (hres:(Y.sig f).res= .one (.own .deep)):ExtOk Y f (zc6 k):=by
 subst hF;intro as1 objs rv h;unfold zc6 at h;split at h
 case h_2=>simp at h
 rename_i i es fs;rw[cond_eq_ite]at h;split at h
 case isFalse=>simp at h
 rename_i hc;simp only[Bool.and_eq_true,decide_eq_true_eq]at hc;obtain ⟨⟨⟨⟨hi0,hi1⟩,hf1⟩,hsz⟩,hke,hkf,hce,hcf⟩:=hc;obtain rfl:=Option.some.inj h;obtain ⟨i,rfl⟩:=Int.eq_ofNat_of_zero_le hi0;simp only[Int.ofNat_eq_natCast,Int.toNat_natCast,Int.ofNat_le]at hi1⊢;refine ⟨⟨fn,hf,hb,hn⟩,fun w G pl args E=> ?_⟩
 obtain ⟨ob0,hr0⟩:∃ob,RefR w G (obOf [⟨.virt,[.s es],[.deep]⟩,⟨.virt,[.s fs],[.deep]⟩]) pl 0 [] 0 (args.getD 0 undef) ob:=E.vals 0 (by simp)
 obtain ⟨ob1,hr1⟩:∃ob,RefR w G (obOf [⟨.virt,[.s es],[.deep]⟩,⟨.virt,[.s fs],[.deep]⟩]) pl 1 [] 0 (args.getD 2 undef) ob:=E.vals 2 (by simp)
 have hv1:args.getD 1 undef= .int .i64 i:=E.vals 1 (by simp)
 have hu0:(pl 0).hd 0=args.getD 0 undef:=by
  have:=hr0.head;simpa[zb2]using this
 have hu1:(pl 1).hd 0=args.getD 2 undef:=by
  have:=hr1.head;simpa[zb2]using this
 have hR0:Rel w (QCell G 0 0 .deep) (args.getD 0 undef) (.s es):=by
  rw[←hu0];exact (E.okObjs 0 ⟨.virt,[.s es],[.deep]⟩ rfl (by simp)).rel 0 (by simp)
 have hR1:Rel w (QCell G 1 0 .deep) (args.getD 2 undef) (.s fs):=by
  rw[←hu1];exact (E.okObjs 1 ⟨.virt,[.s fs],[.deep]⟩ rfl (by simp)).rel 0 (by simp)
 rw[args3 E.size,hv1];have hk:=L.k0
 -- the new cells
 rcases zfW hR1 hkf hcf hk E.own with ⟨h0,_⟩|⟨vb,voff,vc,vcells,vty,hu,hvl1,_,hGv,hvh,hvsz,vs,hvl,hvcc,h1v,hvr⟩
 ·subst h0;simp at hf1
 rw[hu,hf1]
 -- the old ones
 obtain ⟨base,c,cs,hu',hlc,hcl,hs,h1c,hcr,hsrc⟩:∃(base:Option Addr) (c:Nat) (cs:List Value),args.getD 0 undef= .slice base es.length c∧es.length≤c∧cs.length=es.length*k∧
  ((es.length=0∧c=0)∨∃b off cells ty,base=some ⟨b,off,none⟩∧w.heap[b]? =some (.cells cells ty (0,0))∧off+c*k≤cells.size∧vb≠b∧∀j,j<cs.length→cells[off+j]? =cs[j]?)∧
  (∀v∈cs,v.oneCell'=true)∧(∀i j (hi:i<es.length) (hj:j<(es[i]).length),Rel w (fun π b=>QCell G 0 0 .deep (i::j::π) b) (cs.getD (i*k+j) undef) ((es[i])[j]))∧
  (∀b,(if c=0 then none else base.map (·.block))=some b→G b=some (0,[0])):=by
  rcases zfW hR0 hke hce hk E.own with ⟨h0,a,h1⟩|⟨b,off,c,cells,ty,h1,h2,h3,hG,hh,h4,cs,h5,h6,h7,h8⟩
  ·subst h0
   exact ⟨a,0,[],h1,by simp,by simp, .inl ⟨rfl,rfl⟩,by simp,fun i j hi=>absurd hi (by simp),fun b hb=>by simp at hb⟩
  ·refine ⟨_,c,cs,h1,h2,h5, ?_,h7,h8,fun b' hb'=> ?_⟩
   ·by_cases he:es=[]
    ·exact .inl ⟨by rw[he];rfl,h3 he⟩
    ·refine .inr ⟨b,off,cells,ty,rfl,hh,h4 he,fun e=> ?_,h6⟩
     subst e;rw[hG]at hGv;simp at hGv
   ·split at hb'
    ·simp at hb'
    ·simp only[Option.map_some,Option.some.injEq]at hb'
     rw[←hb'];exact hG
 rw[hu'];have hbig:(es.length+1)*B≤140737488355328:=Nat.le_trans (Nat.mul_le_mul (show es.length+1≤2^30+1 by omega) hB) (by decide)
 refine (zse L base es.length c i vb voff vc 1 cs vs w (by omega) (by omega) hlc hbig (by omega) hcl (by rw[hvl,hf1]) hs ⟨vcells,vty,hvh,hvcc⟩ h1c h1v).mono ?_
 rintro e w' ⟨v,rfl,hp⟩
 obtain ⟨Bk,O,C,cells,ty,rfl,hC,hBk,hBh,hBsz,hBc,hsame⟩:=hp.row;have hBlt:Bk<w'.heap.size:=(Array.getElem?_eq_some_iff.1 hBh).1
 have hBG:∀b,b<w.heap.size→(G b≠some (0,[0]))→b≠Bk:=fun b hlt hG e=>by
  subst e;rcases hBk with h|h
  ·omega
  ·exact hG (hsrc _ h)
 have hvl':vs.length=k:=by rw[hvl,hf1,Nat.one_mul]
 refine ⟨_,gIns G Bk i 1,pl,rfl, ?_⟩;rw[hres]
 refine {os:=hp.os,output:=hp.output,tape:=hp.tape,hsize:=hp.size,base:=fun b hlt h0=>⟨hsame b (hBG b hlt (by rw[show G b=none from h0];simp)) hlt,zps (hBG b hlt (by rw[show G b=none from h0];simp)) h0⟩
         fr:=fun b π hlt h0=>⟨hsame b (hBG b hlt (by rw[show G b=_ from h0];simp[FR])) hlt,(zsf (hBG b hlt (by rw[show G b=_ from h0];simp[FR])) h0).trans (show G b=_ from h0).symm⟩
         out:=fun n b off ob hn ho hG=> ?_,own:=fun b x hx=> ?_,dom:=fun b x hx=> ?_,okObjs:=fun n ob ho _=> ?_,olen:=rfl,start:=fun n ob hn ho hkind=> ?_,res:= ?_}
 ·rcases zhX hG with ⟨_,h⟩|⟨_,y,_,_,⟨_,h⟩|⟨_,h⟩⟩
  ·simp at h
  ·simp at hn h;omega
  ·exact absurd rfl h
 ·rcases zhX hx with ⟨rfl,rfl⟩|⟨hne,y,hy,hpl,_⟩
  ·exact ⟨cells,ty,_,hBh,fun _=>rfl⟩
  ·exact (E.own b y hy).moved hpl (hsame b hne (E.own b y hy).lt)
 ·rcases zhX hx with ⟨rfl,rfl⟩|⟨hne,y,hy,hpl,⟨rfl,_⟩|⟨h,_⟩⟩
  ·exact .inl (by simp)
  ·rcases E.nolim b _ hy with h|h
   ·exact .inl (Nat.le_of_lt h)
   ·exact .inr h
  ·exact .inl (by rw[h];simp)
 ·have:ob=⟨.virt,[.h],[.deep]⟩:=by
   match n,ho with
   |0,ho=>simpa[obOf]using ho.symm
   |1,ho=>simpa[obOf]using ho.symm
   |n+2,ho=>simp[obOf]at ho
  subst this
  exact {bld:=fun t1 e1 h1=>by simp at h1,fl:=rfl,rel:=fun c hc=>by
          have:c=0:=by simpa using hc
          subst this;exact .h _ _
         box:=fun h=>by simp at h}
 ·have:ob=⟨.virt,[.h],[.deep]⟩∧(n=0∨n=1):=by
   match n,ho with
   |0,ho=>exact ⟨by simpa using ho.symm, .inl rfl⟩
   |1,ho=>exact ⟨by simpa using ho.symm, .inr rfl⟩
   |n+2,ho=>simp at ho
  obtain ⟨rfl,rfl|rfl⟩:=this
  ·exact ⟨_,rfl,rfl,rfl,rfl,fun _ _=>rfl⟩
  ·exact ⟨_,rfl,rfl,rfl,rfl,fun _ _=>rfl⟩
 ·refine ⟨fun _=> .slice (some ⟨Bk,O,none⟩) (es.length+1) C, .inl rfl,fun t ht=> ?_⟩
  have:t=0:=by simpa using ht
  subst this;show Rel w' (QCell (gIns G Bk i 1) 2 0 .deep) (.slice (some ⟨Bk,O,none⟩) (es.length+1) C) (.s (es.take i++fs++es.drop i));have hlen:(es.take i++fs++es.drop i).length=es.length+1:=by simp;omega
  have hrow:∀r (hr:r<(es.take i++fs++es.drop i).length),((es.take i++fs++es.drop i)[r]).length=k:=fun r hr=>by
   have hm:=List.getElem_mem hr;simp only[List.mem_append]at hm
   have hall:∀x,x∈es∨x∈fs→x.length=k:=fun x hx=>by
    simp only[zak,List.all_eq_true,beq_iff_eq]at hke hkf;exact hx.elim (hke x) (hkf x)
   rcases hm with (h|h)|h
   ·exact hall _ (.inl (List.mem_of_mem_take h))
   ·exact hall _ (.inr h)
   ·exact hall _ (.inl (List.mem_of_mem_drop h))
  have hIN:i*k≤es.length*k:=Nat.mul_le_mul_right k (by omega)
  have key:=Rel.s (w:=w') (QCell (gIns G Bk i 1) 2 0 .deep) ⟨Bk,O,none⟩ C k (es.take i++fs++es.drop i) (fun r j=>(cs.take (i*k)++vs++cs.drop (i*k)).getD (r*k+j) undef)
   (by rw[hlen];exact hC) (fun h=>absurd h (by intro h;rw[h]at hlen;simp at hlen)) rfl hBlt (by simp[QCell,gIns])
   (fun t ht=>by
     rw[zcj hBh,Array.getElem?_eq_getElem (by show O+t<_;omega)];rfl) hrow
   (fun r j hr hj=>by
     rw[zcj hBh];have h1:=zfS (len:=es.length+1) (by omega:r<es.length+1) hj
     show cells[O+(r*k+j)]? =_;rw[hBc _ h1]
     have h2:r*k+j<(cs.take (i*k)++vs++cs.drop (i*k)).length:=by
      simp only[List.length_append,List.length_take,List.length_drop];rw[Nat.add_mul]at h1;omega
     rw[List.getD_eq_getElem?_getD,List.getElem?_eq_getElem h2];rfl)
   (fun r j hr hj=> ?_)
  ·rw[hlen]at key
   exact key
  ·have hj':j<k:=by rw[←hrow r hr];exact hj
   have hnest:∀(n r0:Nat) (u:Value) (d:D),Rel w (fun π b=>QCell G n 0 .deep (r0::j::π) b) u d→(n=0∧r=(if r0<i then r0 else r0+1)∨n=1∧r=i+r0)→
    Rel w' (fun π b=>QCell (gIns G Bk i 1) 2 0 .deep (r::j::π) b) u d:=fun n r0 u d h hrr=>by
    refine h.frame (fun π b hl hq=>hsame b (hBG b hl ?_) hl) (fun π b hl hq=> ?_)
    ·rw[show G b=some (n,0::r0::j::π) from hq];simp
    ·have hne:b≠Bk:=hBG b hl (by rw[show G b=some (n,0::r0::j::π) from hq];simp)
     show gIns G Bk i 1 b=some (2,0::r::j::π);unfold gIns;rw[if_neg hne,show G b=some (n,0::r0::j::π) from hq]
     rcases hrr with ⟨rfl,rfl⟩|⟨rfl,rfl⟩<;>rfl
   have hrlt:r<es.length+1:=by omega
   have hget:(cs.take (i*k)++vs++cs.drop (i*k)).getD (r*k+j) undef=if r<i then cs.getD (r*k+j) undef else if r=i then vs.getD j undef else cs.getD ((r-1)*k+j) undef:=by
    simp only[List.getD_eq_getElem?_getD];rw[zhV (by omega),hvl']
    by_cases h1:r<i
    ·have:=zfS h1 hj'
     rw[if_pos this,if_pos h1]
    ·have h2:i*k≤r*k:=Nat.mul_le_mul_right k (by omega)
     rw[if_neg (by omega),if_neg h1]
     by_cases h3:r=i
     ·subst h3
      rw[if_pos (by omega),if_pos rfl]
      congr 2
      omega
     ·have h4:(i+1)*k≤r*k:=Nat.mul_le_mul_right k (by omega)
      have h5:(r-1)*k=r*k-k:=by rw[Nat.sub_mul,Nat.one_mul]
      rw[Nat.add_mul,Nat.one_mul]at h4;rw[if_neg (by omega),if_neg h3]
      congr 2
      omega
   rw[hget];by_cases h1:r<i
   ·have he:(es.take i++fs++es.drop i)[r]=es[r]'(by omega):=by
     rw[List.getElem_append_left (by simp;omega),List.getElem_append_left (by simp;omega),List.getElem_take]
    rw[if_pos h1];have h2:=hcr r j (by omega) (by rw[←he];exact hj)
    simp only[he];exact hnest 0 r _ _ h2 (.inl ⟨rfl,by rw[if_pos h1]⟩)
   ·rw[if_neg h1]
    by_cases h3:r=i
    ·subst h3
     have he:(es.take r++fs++es.drop r)[r]=fs[0]'(by omega):=by
      rw[List.getElem_append_left (by simp;omega),List.getElem_append_right (by simp;omega)]
      congr 1
      simp;omega
     rw[if_pos rfl];have h2:=hvr 0 j (by omega) (by rw[←he];exact hj)
     rw[Nat.zero_mul,Nat.zero_add]at h2;simp only[he];exact hnest 1 0 _ _ h2 (.inr ⟨rfl,rfl⟩)
    ·have he:(es.take i++fs++es.drop i)[r]=es[r-1]'(by omega):=by
      rw[List.getElem_append_right (by simp;omega),List.getElem_drop]
      congr 1
      simp;omega
     rw[if_neg h3];have h2:=hcr (r-1) j (by omega) (by rw[←he];exact hj)
     simp only[he];exact hnest 0 (r-1) _ _ h2 (.inl ⟨rfl,by rw[if_neg (by omega)];omega⟩)
end Go.PV
