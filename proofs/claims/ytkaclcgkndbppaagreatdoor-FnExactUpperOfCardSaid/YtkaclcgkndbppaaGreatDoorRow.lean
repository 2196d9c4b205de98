/- FnExactUpperOfCard: for every input the law returns true, and each argument reads behind the call as it read before. No conditions. -/
/- A part of the proof: PvRwI. -/
import Derived.Test.YtkaclcgkndbppaaGreatDoorRows
import Derived.Test.YtkaclcgkndbppaaGreatDoorFac
import Derived.Test.YtkaclcgkndbppaaGreatDoorTup
import Derived.Test.YtkaclcgkndbppaaGreatDoorDec
import Derived.Test.YtkaclcgkndbppaaGreatDoorShelf
import Derived.Test.YtkaclcgkndbppaaGreatDoorTie
import Derived.Test.YtkaclcgkndbppaaGreatDoorCards
set_option linter.unusedSimpArgs false
set_option linter.unusedVariables false
namespace Go.Proofs.YtkaclcgkndbppaaGreatDoor.FnExactUpperOfRow
open Go.PV Go.PVx Go.Proofs Go.RowKit
theorem d9:Dec Tryz.prog 9 eS sS:=decS Tryz.underlying9
theorem d23:Dec Tryz.prog 23 ePa oP:=decL Tryz.underlying23 d9
theorem d4:Dec Tryz.prog 4 (fun b:Bool=> [.v (.bool b)]) (fun _=>True):=decB Tryz.underlying4
theorem d3:Dec Tryz.prog 3 eI (fun _=>True):=decI Tryz.underlying3
theorem d85:Dec Tryz.prog 85 eR OR:=decRow Tryz.underlying85 (by kernel_rfl) (by kernel_rfl) (by intro x hx;simp only[List.mem_cons,List.not_mem_nil,or_false]at hx;rcases hx with rfl|rfl|rfl|rfl|rfl<;>kernel_rfl) d23 d4 d3 d9
theorem d22:Dec Tryz.prog 22 (fun l=> [.s (l.map eR)]) (sL OR):=decL Tryz.underlying22 d85
theorem d47:Dec Tryz.prog 47 eT oT:=zsR Tryz.underlying47 (by kernel_rfl) (by kernel_rfl) (by intro x hx;simp only[List.mem_cons,List.not_mem_nil,or_false]at hx;rcases hx with rfl|rfl|rfl|rfl|rfl<;>kernel_rfl) d4 d3 d9 d23 Tryz.underlying45
theorem plain:plainB Tryz.prog [22,85,23,9,4,3,47,45]=true:=by kernel_rfl
theorem noExt(f:FuncId)(F:List AV→List PV.Obj→Option Res)(h:PVx.Y.ext f=some F):ExtOk PVx.Y f F:=by
 simp only[PVx.Y]at h;unfold exts at h;split at h
 ·simp only[Option.some.injEq]at h
  subst h;exact zfX (fn:=Tryz.f131) zsM (by decide) rfl Tryz.func131 (by kernel_rfl) rfl rfl
 ·simp only[Option.some.injEq]at h
  subst h;exact zfX (fn:=Tryz.f132) zsN (by decide) rfl Tryz.func132 (by kernel_rfl) rfl rfl
 ·simp only[Option.some.injEq]at h
  subst h;exact zlf Tryz.lays166 Tryz.Builder_Extra_166 rfl rfl rfl (fn:=Tryz.f156) Tryz.func156 rfl (by kernel_rfl) rfl
 ·simp only[Option.some.injEq]at h
  subst h;exact zjT Tryz.lays169 Tryz.Builder_Extra_169 rfl rfl rfl (fn:=Tryz.f162) Tryz.func162 rfl (by kernel_rfl) rfl
 ·simp only[Option.some.injEq]at h
  subst h;exact znS (fn:=Tryz.f201) Tryz.func201 rfl (by kernel_rfl) rfl (fun a c sep w=>Tryz.strings_Join_none a c sep w) (fun bk o c xs sep w h1 h2 h3 h4 h5=>Tryz.strings_Join bk o c xs sep w h1 h2 h3 h4 h5)
 ·simp only[Option.some.injEq]at h
  subst h;exact znT (fn:=Tryz.f202) Tryz.func202 rfl (by kernel_rfl) rfl (g:=5) (by kernel_rfl) rfl (fun n h0 h1 w ht=>Tryz.strconv_Itoa n h0 h1 w ht)
 ·simp only[Option.some.injEq]at h
  subst h;exact zmd Tryz.lays190 (fn:=Tryz.f218) rfl Tryz.func218 (by kernel_rfl) rfl rfl
 ·simp only[Option.some.injEq]at h
  subst h;exact ziy Tryz.lays194 (fn:=Tryz.f219) rfl Tryz.func219 (by kernel_rfl) rfl rfl
 ·simp at h
abbrev laidV:List (String×DataW Unit):=[("math/bits.deBruijn32tab",Rows.laid_math_bits_deBruijn32tab),("math/bits.deBruijn64tab",Rows.laid_math_bits_deBruijn64tab),("internal/strconv.uint64pow10",Rows.laid_internal_strconv_uint64pow10)]
theorem tab_ok{W:World}(h:laidMet Tryz.prog laidV W):Lib.TabIs Tryz.prog W "internal/strconv.uint64pow10" .u64 Lib.pow10Tab:=by
 have h1:=(zgW (zgW h));have e:(Rows.laid_internal_strconv_uint64pow10:DataW Unit)=Lib.tabData .u64 Lib.pow10Tab:=by kernel_rfl
 rw[e]at h1;exact Lib.tabIs_of_head (g:=5) (t:=269) (e:=240) (n:=20) (by kernel_rfl) (by kernel_rfl) Tryz.underlying269 Tryz.underlying240 (by kernel_rfl) (by kernel_rfl) h1
theorem globs{W:World}(hS:W.ShapedOpen Tryz.prog)(h:laidMetH Tryz.prog laidV W):GlOk PVx.Y.gl W noG:=by
 rw[MakeChecks.laidMetH_plain _ _ _ (by kernel_rfl)]at h
 have ht:=tab_ok h;intro g row hg;have hg:(if 5=g then some (Lib.pow10Tab.map fun z=>D.v (.int .u64 z))else none)=some row:=hg
 by_cases h5:5=g
 ·rw[if_pos h5]at hg;subst h5;obtain rfl:=Option.some.inj hg;exact pow_ok (by kernel_rfl) ht
 rw[if_neg h5]at hg;simp at hg
theorem door_met(os:Os)(args:Array Value):laidMetH Tryz.prog laidV ((World.laidAll Tryz.prog os laidV).forCall (fun _ _=>0) ⟨#[],args,[]⟩).memory:=by
 rw[MakeChecks.laidMetH_plain _ _ _ (by kernel_rfl)];exact laidMet_laidAll _ (by kernel_rfl) (by kernel_rfl)
theorem own:ownKnob Tryz.prog.godebug=none:=by kernel_rfl
theorem law(xs:List AV)(hl:xs.length=[22,47].length)(ha:∀i (hi:i<xs.length),ArgD PVx.Y.P (([22,47]:List TypeId).getD i 0) (xs[i])):lim' PVx.Y 10 xs []=some ⟨[.v (.bool true)],[]⟩:=by
 obtain ⟨x0,x1,rfl⟩:=len2 hl;obtain ⟨a0,h0,p0⟩:=argD d22 (ha 0 (by simp))
 rw[av_Rs (by kernel_rfl)]at h0
 simp only[List.getElem_cons_zero,List.getElem_cons_succ]at h0;subst h0;obtain ⟨a1,h1,p1⟩:=argD d47 (ha 1 (by simp))
 rw[av_T (by kernel_rfl)]at h1
 simp only[List.getElem_cons_zero,List.getElem_cons_succ]at h1;subst h1;exact zge a0 a1 p0 p1
set_option maxRecDepth 100000 in
theorem lifted(os:Os)(started:os.Started)(H:Type)(enc:TypeId×Value→H):
 ReturnsInHanded {} Tryz.checked os 10 .any (fun w args=>(Rows.fnExactUpperOfSpec.pre enc Tryz.prog Tryz.f10 [] false w args∧laidMetH Tryz.prog laidV w)∧sizedMet enc Tryz.prog Tryz.f10 (OpenSpec.ofChange Rows.fnExactUpperOfSpec) false w args)
  (Rows.fnExactUpperOfSpec.post enc Tryz.prog Tryz.f10 false true false false):=by
 refine zmK (C:=Tryz.checked) (X:=fun w _=>laidMetH Tryz.prog laidV w) (fun _ _ _ hh h=>h.of_heap hh) own started (by kernel_rfl) Tryz.func10
  (ChangeSpec.witness_shaped (enc:=enc) (C:=Tryz.checked) (os:=os) (X:=fun w _=>laidMetH Tryz.prog laidV w) false (World.laidAll Tryz.prog os laidV) #[.slice none 0 0, .agg #[.bool false, .int .i64 0, .string ⟨#[]⟩, .slice none 0 0, .slice none 0 0]] 8 (World.laidAll_os _ _ _) (World.shaped_of_ZipB (by kernel_rfl) (by kernel_rfl)) (by kernel_rfl) (by kernel_rfl) (by kernel_rfl) (door_met os _)) ?_
 intro W base args ds gs before hval hW hS hL;refine zmJ PVx.Y noExt (fn:=Tryz.f10) (s:=Rows.fnExactUpperOfSpec) (ts:=[22,85,23,9,4,3,47,45]) (ts0:=[22,47]) (tb:=4) laidOut rfl plain (by simp) (fun t ht=> ?_) rfl Tryz.underlying4 rfl (fun ds hd=> ?_) rfl law W (globs hS hL) base args ds gs before hval hW
 ·simp only[List.mem_cons,List.not_mem_nil,or_false]at ht
  rcases ht with rfl|rfl<;>exact ⟨by kernel_rfl,of_decide_eq_true (by kernel_rfl)⟩
 ·obtain ⟨e0,e1,rfl⟩:=len2 hd
  rfl
theorem closed:joinedFacts Tryz.prog 10 Tryz.f10 Rows.fnExactUpperOfSpec Rows.fnExactUpperOfRow=true:=by
 unfold joinedFacts;rw[laidOut,jIn,jUn,jRec,jNam,jHeard,jEnter,jLift];kernel_rfl
theorem over:Rows.fnExactUpperOfRow.holds Tryz.pinned (OpenSpec.ofChange Rows.fnExactUpperOfSpec):=
 OpenClaim.holds_of_wide 10 Tryz.f10 rfl rfl rfl rfl rfl rfl rfl ⟨rfl,rfl,rfl,rfl,rfl⟩ rfl rfl rfl rfl rfl (by kernel_rfl) Tryz.func10 closed
  (of_decide_eq_true (by kernel_rfl)) (by unfold Func.isWrapper;first|(rw[if_pos (by decide+kernel)];kernel_rfl)|(rw[if_neg (by decide+kernel)];exact ⟨rfl,rfl⟩))
  (fun os started H enc _=>lifted os started H enc)
theorem proved:Rows.FnExactUpperOfSaid:=over
#print axioms proved
end Go.Proofs.YtkaclcgkndbppaaGreatDoor.FnExactUpperOfRow
namespace Go.Proofs.YtkaclcgkndbppaaGreatDoor
theorem fnExactUpperOf_holds:Rows.FnExactUpperOfSaid:=FnExactUpperOfRow.proved
theorem fnExactUpperOf_card:Rows.FnExactUpperOfCardSaid:=
 Claim7.holds_tied_plain_at .later [] [.data, .data, .data] true (true, "ffb01ca496a09db2b1b3895006490a1d3d63eb52096a2cb9c4e5289293e77ba8") true
  fnExactUpperOf_holds (fun _ h=>by cases h) (by kernel_rfl) (fun _ h=>by cases h) fnExactUpperOf_row_tie rfl ⟨rfl,rfl⟩ (by kernel_rfl) rfl
  (fun f fn hf hfn=>by
    obtain rfl:f=10:=Option.some.inj ((show Tryz.prog.funcNamed "loop.example/changetrail/laws.FnExactUpperOf" =some 10 by kernel_rfl).symm.trans hf)|>.symm
    obtain rfl:fn=Tryz.f10:=(Option.some.inj (Tryz.func10.symm.trans hfn)).symm
    exact ⟨FnExactUpperOfRow.looksAt,fun j t ht=>by
     rw[show Tryz.f10.params= #[22,47] from rfl]at ht
     have hm:t∈[22,47]:=by simpa using Array.mem_of_getElem? ht
     have hall:([22,47].all fun u=> !Tryz.prog.wantsStandIn u)=true:=by kernel_rfl
     exact (show Tryz.prog.wantsStandIn t=false by simpa using List.all_eq_true.1 hall t hm)⟩)
  FnExactUpperOfRow.goesAt
#print axioms fnExactUpperOf_card
end Go.Proofs.YtkaclcgkndbppaaGreatDoor
