/- The law returns true for every input, and each argument reads afterwards as it read before; no condition. -/
import Derived.Test.YtpnllbdffdpoaaaGreatDoorSxj
import Derived.Test.YtpnllbdffdpoaaaGreatDoorRows
import Derived.LaidMore
import Derived.MakeChecks
import Derived.ProofKit
import Derived.OpenShut
import Derived.ReadAgain
import Derived.Test.YtpnllbdffdpoaaaGreatDoorCards
import Derived.Test.YtpnllbdffdpoaaaGreatDoorTie
import Derived.Stop.Joined
import Derived.SevenTiedAt
set_option linter.unusedVariables false
set_option linter.unusedSimpArgs false
set_option linter.unusedSectionVars false
section
set_option maxRecDepth 100000
namespace Go.Proofs.YtpnllbdffdpoaaaGreatDoor
open Go Go.Sx Go.Nov Go.Proofs.Tryz Go.ChangeShapes Go.WideShapes Go.ChangeAt Go.RowKit
theorem zpj:Tryz.prog.globalNamed "novation/observable.shapes" = some 2:=by kernel_rfl
theorem zqu:(Tryz.prog.globals[2]?).map (·.type)=some 243:=by kernel_rfl
theorem zoi:(Rows.laid_novation_observable_shapes:DataW Unit) = .map (shpE Unit):=rfl
theorem zu6:Tryz.prog.globalNamed "novation/contract.parts" = some 0:=by kernel_rfl
theorem zsv:(Tryz.prog.globals[0]?).map (·.type)=some 199:=by kernel_rfl
def prtE:List (Lit×DataW Unit):=[(.int .u8 1,.lit (.int .i64 0)),(.int .u8 2,.lit (.int .i64 15)),(.int .u8 3,.lit (.int .i64 256)),(.int .u8 4,.lit (.int .i64 136)),(.int .u8 5,.lit (.int .i64 272)),(.int .u8 6,.lit (.int .i64 160)),(.int .u8 7,.lit (.int .i64 261)),(.int .u8 8,.lit (.int .i64 197)),(.int .u8 9,.lit (.int .i64 208)),(.int .u8 10,.lit (.int .i64 208))]
theorem zlt:(Rows.laid_novation_contract_parts:DataW Unit) = .map prtE:=rfl
abbrev KJ:List (String×DataW Unit):=[("novation/observable.shapes",Rows.laid_novation_observable_shapes),("novation/observable.operations",Rows.laid_novation_observable_operations),("novation/contract.parts",Rows.laid_novation_contract_parts)]
theorem zg1{W:World}{cs:List Value}{fuel:Nat}{q:List MemPlace}{c:Value}(hc:W.cell? ⟨0,0,none⟩=some c)
  (h:DataW.trod (λ_=>()) Tryz.prog W 0 (λ_=>true) false fuel 199 [c]=some (.map prtE,q)) :
  Rep E0 W (.mp .u8 false 1 [] (λk=>decide (1<=k/\k<=10)) λk _=>.i (kR k)) [] c/\∀ b,c = .map (some b)->b<W.heap.size:=by
 refine Xy (g:=0) rfl Tryz.underlying199 Tryz.underlying5 hc (by decide) h ?_ ?_
 ·intro n d hd
  have one:∀ {v:Value} {m:Nat} {q:List MemPlace} {z:Int},v.formed Tryz.prog 3=true->DataW.trod (λ_=>()) Tryz.prog W 0 (λ_=>true) false m 3 v.cells.toList=some (.lit (.int .i64 z),q)->Rep E0 W (.i z) [] v:=by
   intro v m q z hf ht
   have hcell:v.cells.toList=[v]:=by
    cases v with
    | agg _=>simp [Value.formed,Tryz.underlying3] at hf
    | _=>rfl
   rw [hcell] at ht;obtain⟨z',e1,e2,_⟩:=DataW.trod_int Tryz.underlying3 ht;cases e1;simp only [Prod.mk.injEq,DataW.lit.injEq,Lit.int.injEq,true_and] at e2;simp only [Rep];rw [e2.1]
  simp only [prtE,List.mem_cons,Prod.mk.injEq,Lit.int.injEq,true_and,List.not_mem_nil,or_false] at hd;rcases hd with ⟨rfl,rfl⟩ | ⟨rfl,rfl⟩ | ⟨rfl,rfl⟩ | ⟨rfl,rfl⟩ | ⟨rfl,rfl⟩ | ⟨rfl,rfl⟩ | ⟨rfl,rfl⟩ | ⟨rfl,rfl⟩ | ⟨rfl,rfl⟩ | ⟨rfl,rfl⟩<;>exact⟨rfl,λv m q hf ht=>one hf ht⟩
 ·intro n hn;have hn:=of_decide_eq_true hn;have:n=1\/n=2\/n=3\/n=4\/n=5\/n=6\/n=7\/n=8\/n=9\/n=10:=by omega
  rcases this with rfl | rfl | rfl | rfl | rfl | rfl | rfl | rfl | rfl | rfl<;>exact⟨_,by unfold prtE; simp; rfl⟩
theorem zko{W:World} (h:laidMet Tryz.prog [("novation/observable.shapes",Rows.laid_novation_observable_shapes),("novation/contract.parts",Rows.laid_novation_contract_parts)] W):(∃ c,W.cell? ⟨2,0,none⟩=some c /\
  Rep E0 W (.mp .u8 true 2 [] (λk=>j2 k) λk o=>match o with
   | 0=>.sl (jH k) 1 λj _=>.int .u8 (qS k j)
   | _=>.int .u8 (jo k)) [] c/\∀ b,c = .map (some b)->b<W.heap.size)/\∃ c,W.cell? ⟨0,0,none⟩=some c /\
  Rep E0 W (.mp .u8 false 1 [] (λk=>decide (1<=k/\k<=10)) λk _=>.i (kR k)) [] c/\∀ b,c = .map (some b)->b<W.heap.size:=by
 obtain⟨ps,⟨g0,t0,cs0,f0,p0,q0,hg0,ht0,hv0,hd0,hr0,_⟩,_,_⟩:=h;obtain⟨g1,t1,cs1,f1,p1,q1,hg1,ht1,hv1,hd1,_,_⟩:=hr0;obtain rfl:=Option.some.inj (zpj.symm.trans hg0);obtain rfl:=Option.some.inj (zqu.symm.trans ht0);obtain rfl:=Option.some.inj (zu6.symm.trans hg1);obtain rfl:=Option.some.inj (zsv.symm.trans ht1);rw [zoi] at hd0;rw [zlt] at hd1
 have hone:∃ c,cs0.toList=[c]:=by
  rcases Go.WideElems.open_map Tryz.underlying243 hd0 with ⟨hcs,_⟩ | ⟨b,es,clock,n,_,hcs,_⟩
  ·exact⟨_,hcs⟩
  ·exact⟨_,hcs⟩
 have hone1:∃ c,cs1.toList=[c]:=by
  rcases Go.WideElems.open_map Tryz.underlying199 hd1 with ⟨hcs,_⟩ | ⟨b,es,clock,n,_,hcs,_⟩
  ·exact⟨_,hcs⟩
  ·exact⟨_,hcs⟩
 obtain⟨c,hcs⟩:=hone;obtain⟨c',hcs'⟩:=hone1;rw [hcs] at hd0;rw [hcs'] at hd1
 have k1:W.cell? ⟨2,0,none⟩=some c:=by
  have:=World.var?_cell hg0 hv0 0;rw [Array.eq_one_of_toList hcs] at this;simpa using this
 have k2:W.cell? ⟨0,0,none⟩=some c':=by
  have:=World.var?_cell hg1 hv1 0;rw [Array.eq_one_of_toList hcs'] at this;simpa using this
 obtain⟨r1,b1⟩:=zaf (cs:=[c]) k1 hd0;obtain⟨r2,b2⟩:=zg1 (cs:=[c']) k2 hd1;exact⟨⟨c,k1,r1,b1⟩,c',k2,r2,b2⟩
theorem gOps:Tryz.prog.globalNamed "novation/observable.operations" = some 1:=by kernel_rfl
theorem tOps:(Tryz.prog.globals[1]?).map (·.type)=some 236:=by kernel_rfl
def opNm(b:L8):L8:=[40,42,110,111,118,97,116,105,111,110,47,111,98,115,101,114,118,97,98,108,101,46,115,116,97,116,101,41,46]++b
def opEs:List (Lit×DataW L8):=[(.int .u8 4,.held (opNm [97,100,100])),(.int .u8 5,.held (opNm [115,117,98])),(.int .u8 6,.held (opNm [109,117,108])),(.int .u8 7,.held (opNm [103,114,101,97,116,101,114])),(.int .u8 8,.held (opNm [115,109,97,108,108,101,114]))]
def opsD:DataW Unit:=.map [(.int .u8 4,.iface "func" (.lit (.string (opNm [97,100,100])))),(.int .u8 5,.iface "func" (.lit (.string (opNm [115,117,98])))),(.int .u8 6,.iface "func" (.lit (.string (opNm [109,117,108])))),(.int .u8 7,.iface "func" (.lit (.string (opNm [103,114,101,97,116,101,114])))),(.int .u8 8,.iface "func" (.lit (.string (opNm [115,109,97,108,108,101,114]))))]
theorem zqa:(Rows.laid_novation_observable_operations:DataW Unit) = .iface "func table" opsD:=rfl
theorem zle:opsD.funcsOut = .map opEs:=rfl
theorem zpg{W:World}{cs:List Value}{fuel:Nat}{q:List MemPlace}{c:Value}(hc:W.cell? ⟨1,0,none⟩=some c)
  (h:DataW.trod (funcToken Tryz.prog) Tryz.prog W 0 (λ_=>true) true fuel 236 [c]=some (.map opEs,q)) :
  Rep E0 W (.mp .u8 false 1 [4,5,6,7,8] (λk=>decide (4<=k/\k<=8)) λk _=>
  if k=4 then .fn 201 [] [] else if k=5 then .fn 202 [] [] else if k=6 then .fn 203 [] []
  else if k=7 then .fn 204 [] [] else .fn 205 [] []) [] c/\∀ b,c = .map (some b)->b<W.heap.size:=by
 refine Xy (g:=1) rfl Tryz.underlying236 Tryz.underlying5 hc (by decide) h ?_ ?_
 ·intro n d hd
  have one:∀ {v:Value} {m:Nat} {q:List MemPlace} {bs:L8} {f0:Nat},((List.range Tryz.prog.funcs.size).filter λf=>(Tryz.prog.funcs[f]?).any (·.name.toUTF8.data.toList == 40::bs))=[f0] ->
    v.formed Tryz.prog 235=true->DataW.trod (funcToken Tryz.prog) Tryz.prog W 0 (λ_=>true) true m 235 v.cells.toList=some (.held (40::bs),q)->Rep E0 W (.fn f0 [] []) [] v:=by
   intro v m q bs f0 hone hf ht
   have hcell:v.cells.toList=[v]:=by
    cases v with
    | agg _=>simp [Value.formed,Tryz.underlying235] at hf
    | _=>rfl
   rw [hcell] at ht;have:=func_of_trod Tryz.underlying235 hone ht;subst this;simp [Rep,RepL]
  simp only [opEs,List.mem_cons,Prod.mk.injEq,Lit.int.injEq,true_and,List.not_mem_nil,or_false] at hd;rcases hd with ⟨rfl,rfl⟩ | ⟨rfl,rfl⟩ | ⟨rfl,rfl⟩ | ⟨rfl,rfl⟩ | ⟨rfl,rfl⟩
  ·exact⟨rfl,λv m q hf ht=>one (f0:=201) (by kernel_rfl) hf ht⟩
  ·exact⟨rfl,λv m q hf ht=>one (f0:=202) (by kernel_rfl) hf ht⟩
  ·exact⟨rfl,λv m q hf ht=>one (f0:=203) (by kernel_rfl) hf ht⟩
  ·exact⟨rfl,λv m q hf ht=>one (f0:=204) (by kernel_rfl) hf ht⟩
  ·exact⟨rfl,λv m q hf ht=>one (f0:=205) (by kernel_rfl) hf ht⟩
 ·intro n hn;have hn:=of_decide_eq_true hn;have:n=4\/n=5\/n=6\/n=7\/n=8:=by omega
  rcases this with rfl | rfl | rfl | rfl | rfl
  ·exact⟨_,.head _⟩
  ·exact⟨_,.tail _ (.head _)⟩
  ·exact⟨_,.tail _ (.tail _ (.head _))⟩
  ·exact⟨_,.tail _ (.tail _ (.tail _ (.head _)))⟩
  ·exact⟨_,.tail _ (.tail _ (.tail _ (.tail _ (.head _))))⟩
theorem zp4{W:World}(h:laidMetH Tryz.prog KJ W):ku E0 W:=by
 have h1:laidMet Tryz.prog [("novation/observable.shapes",Rows.laid_novation_observable_shapes),("novation/contract.parts",Rows.laid_novation_contract_parts)] W:=h.1;have h2:=laidMetH.funcs h (n:= "novation/observable.operations") (d:=opsD) (by simp [KJ,zqa]);obtain⟨⟨c1,k1,r1,b1⟩,c3,k3,r3,b3⟩:=zko h1;obtain⟨g0,t0,cs0,f0,p0,hg0,ht0,hv0,hd0⟩:=h2;obtain rfl:=Option.some.inj (gOps.symm.trans hg0);obtain rfl:=Option.some.inj (tOps.symm.trans ht0);rw [zle] at hd0
 have hone:∃ c,cs0.toList=[c]:=by
  rcases Go.WideElems.open_map Tryz.underlying236 hd0 with ⟨hcs,_⟩ | ⟨b,es,clock,n,_,hcs,_⟩
  ·exact⟨_,hcs⟩
  ·exact⟨_,hcs⟩
 obtain⟨c2,hcs⟩:=hone;rw [hcs] at hd0
 have k2:W.cell? ⟨1,0,none⟩=some c2:=by
  have:=World.var?_cell hg0 hv0 0;rw [Array.eq_one_of_toList hcs] at this;simpa using this
 obtain⟨r2,b2⟩:=zpg (cs:=[c2]) k2 hd0;refine⟨λg a hz=>⟨U6 _,?_⟩⟩;by_cases hg:g=2
 ·subst hg;cases hz;exact⟨c1,k1,r1,b1⟩
 ·by_cases hg2:g=1
  ·subst hg2;cases hz;exact⟨c2,k2,r2,b2⟩
  ·by_cases hg3:g=0
   ·subst hg3;cases hz;exact⟨c3,k3,r3,b3⟩
   ·have:Stat.z g=none:=by
     show(if _ then _ else if _ then _ else if _ then _ else _)=_;rw [if_neg hg,if_neg hg3,if_neg hg2]
    rw [this] at hz; cases hz
theorem walk{W:World}{v0 v1 v2 v3:List Value}(h0:Tw Tryz.prog W 24 v0)(h1:Tw Tryz.prog W 3 v1)(h2:Tw Tryz.prog W 3 v2)(h3:Tw Tryz.prog W 28 v3)(hst:ku E0 W) :
  ∃ s1:Value,v1=[s1]/\∃ s2:Value,v2=[s2]/\Calls Tryz.prog 3 #[.agg v0.toArray,s1,s2,.agg v3.toArray] W λe W'=>e = .returned (.bool true)/\Below W.heap.size W W':=by
 obtain⟨d,dg,dr⟩:=zhu h0;obtain⟨day,rfl,dayg,dayr⟩:=zd1 h1;obtain⟨from_,rfl,from_g,from_r⟩:=zd1 h2;obtain⟨v,vg,vr⟩:=zqz h3;refine⟨_,rfl,?_⟩;refine⟨_,rfl,?_⟩;refine zhf (fn:=Tryz.f3) (c:=Tryz.f3.body.getD .skip) rfl rfl rfl zj3 (args:=[d.av,.i day,.i from_,envA v.1 v.2]) (vals:=[.agg v0.toArray,.i day,.i from_,.agg v3.toArray]) ?_ ?_ hst
 ·refine⟨⟨d,day,from_,v.1,v.2⟩,⟨?_,vg⟩,⟨true,rfl⟩,?_⟩
  ·simp [eqL,eqA,eqA0,eqL0,envA,fxS,chS,Fx.av,Ch.av,Ex.exA,Ex.exS,Deal.av,za]
  ·rintro _ rfl;rfl
 ·exact⟨_,_,rfl,dr,⟨_,_,rfl,dayr,⟨_,_,rfl,from_r,⟨_,_,rfl,vr,rfl⟩⟩⟩⟩
theorem own:ownKnob Tryz.prog.godebug=none:=by kernel_rfl
theorem laid:laidOutB Tryz.prog=true:=by kernel_rfl
theorem zid(os:Os)(args:Array Value):laidMetH Tryz.prog KJ ((World.doorLaid Tryz.prog 400 os).forCall (λ_ _=>0) ⟨#[],args,[]⟩).memory:=
 laidMetH_of_parts3 (fuel:=8) (laidMet_of_run' 8 (by kernel_rfl) (by kernel_rfl)) (by kernel_rfl) (by kernel_rfl)
theorem lifted(os:Os)(started:os.Started)(H:Type)(enc:TypeId×Value->H) :
  ReturnsInHanded {} Tryz.checked os 3 .any (λw args=>(Rows.templatePaysSpec.pre enc Tryz.prog Tryz.f3 [] false w args/\laidMetH Tryz.prog KJ w)/\sizedMet enc Tryz.prog Tryz.f3 (OpenSpec.ofChange Rows.templatePaysSpec) false w args)
   (Rows.templatePaysSpec.post enc Tryz.prog Tryz.f3 false true false false):=by
 refine returnsInHanded_of_change_and (C:=Tryz.checked) (X:=λw _=>laidMetH Tryz.prog KJ w) (λ_ _ _ hh h=>h.of_heap hh) own started (by kernel_rfl) Tryz.func3
  (ChangeSpec.witness_shaped (enc:=enc) (C:=Tryz.checked) (os:=os) (X:=λw _=>laidMetH Tryz.prog KJ w) false (World.doorLaid Tryz.prog 400 os) #[.agg #[.string ⟨#[]⟩,.string ⟨#[]⟩,.string ⟨#[]⟩,.string ⟨#[]⟩,.string ⟨#[]⟩,.string ⟨#[]⟩],.i 0,.i 0,.agg #[.slice none 0 0,.slice none 0 0]] 8 rfl (World.shaped_of_RefB (by kernel_rfl) (by kernel_rfl)) (by kernel_rfl) (by kernel_rfl) (by kernel_rfl) (zid os _)) ?_
 intro W base args ds gs before hval0 hW hcnd hwt hL _;have hval:∀ (j:Nat) t v,Tryz.f3.params[j]?=some t->args[j]?=some v->Value.okWide Tryz.prog W .any base t v:=hval0;have hW':=hW;obtain⟨p,q,hA0,hV,rfl,hfz,hnd⟩:=hW;have hA:DataW.TrodAll enc Tryz.prog W 0 (λ_=>true) true Tryz.f3.params.toList args.toList ds p:=hA0;rw [Tryz.params3] at hA hval;obtain⟨v0,vs0,d0,ds0,p0,q0,hargs,rfl,rfl,h0,r0⟩:=trodAll_cons hA;obtain⟨v1,vs1,d1,ds1,p1,q1,rfl,rfl,rfl,h1,r1⟩:=trodAll_cons r0;obtain⟨v2,vs2,d2,ds2,p2,q2,rfl,rfl,rfl,h2,r2⟩:=trodAll_cons r1;obtain⟨v3,vs3,d3,ds3,p3,q3,rfl,rfl,rfl,h3,r3⟩:=trodAll_cons r2;obtain⟨rfl,rfl,rfl⟩:=trodAll_nil r3;obtain rfl:args = #[v0,v1,v2,v3]:=by cases args; simp_all
 obtain⟨rfl,rfl⟩:=trodVars_none hV;clear hA0 hval0;simp only [List.append_nil] at hW' hwt
 have hw:∀ (j:Nat) (t:TypeId) (d:DataW H),[24,3,3,28][j]?=some t->[d0,d1,d2,d3][j]?=some d->∀ n∈d.weights Tryz.prog t,n<=reachBytes:=λj t d ht hd n hn=>by
  have:=List.all_eq_true.1 hwt n (DataW.weights_mem_each (j:=j) (t:=t) (d:=d) (by exact ht) (by exact hd) n hn);simpa using this
 obtain⟨c0,rfl,_⟩:=okWide_struct Tryz.underlying24 (hval 0 24 v0 rfl rfl);obtain⟨c1,rfl⟩:=okWide_int Tryz.underlying3 (hval 1 3 v1 rfl rfl);obtain⟨c2,rfl⟩:=okWide_int Tryz.underlying3 (hval 2 3 v2 rfl rfl);obtain⟨c3,rfl,_⟩:=okWide_struct Tryz.underlying28 (hval 3 28 v3 rfl rfl)
 have t0:Tw Tryz.prog W 24 c0.toList:=by
  obtain⟨fuel,hf⟩:=h0;exact⟨H,enc,0,fuel,d0,p0,by simpa [Value.cells] using hf,hw 0 _ d0 rfl rfl⟩
 have t1:Tw Tryz.prog W 3 [.i c1]:=by
  obtain⟨fuel,hf⟩:=h1;exact⟨H,enc,0,fuel,d1,p1,by simpa [Value.cells] using hf,hw 1 _ d1 rfl rfl⟩
 have t2:Tw Tryz.prog W 3 [.i c2]:=by
  obtain⟨fuel,hf⟩:=h2;exact⟨H,enc,0,fuel,d2,p2,by simpa [Value.cells] using hf,hw 2 _ d2 rfl rfl⟩
 have t3:Tw Tryz.prog W 28 c3.toList:=by
  obtain⟨fuel,hf⟩:=h3;exact⟨H,enc,0,fuel,d3,p3,by simpa [Value.cells] using hf,hw 3 _ d3 rfl rfl⟩
 have hlt:∀ x∈p0++(p1++(p2++p3)),x.block<W.heap.size:=λx hx=>by simpa using hW'.lt x (by simpa using hx)
 obtain⟨s1,e1,s2,e2,hcall⟩:=walk t0 t1 t2 t3 (zp4 hL);cases e1;cases e2;simp only [Array.toArray_toList] at hcall;refine hcall.mono λe W' ⟨he,hb⟩=> ?_
 subst he;refine⟨_,rfl,_,_,_,[],p0++(p1++(p2++p3)),[],hW',trodAll_mk1 (shut_bool Tryz.underlying4 true),?_,rfl,hb.frame _,λh=>by cases h⟩;exact trodAll_mk4 (Below.trod laid (by kernel_rfl) (of_decide_eq_true (by kernel_rfl)) h0 hb λx hx=>hlt x (by simp [hx])) (Below.trod laid (by kernel_rfl) (of_decide_eq_true (by kernel_rfl)) h1 hb λx hx=>hlt x (by simp [hx])) (Below.trod laid (by kernel_rfl) (of_decide_eq_true (by kernel_rfl)) h2 hb λx hx=>hlt x (by simp [hx])) (Below.trod laid (by kernel_rfl) (of_decide_eq_true (by kernel_rfl)) h3 hb λx hx=>hlt x (by simp [hx]))
theorem over:Rows.templatePaysRow.holds Tryz.pinned (OpenSpec.ofChange Rows.templatePaysSpec):=
 OpenClaim.holds_of_wide 3 Tryz.f3 rfl rfl rfl rfl rfl rfl rfl ⟨rfl,rfl,rfl,rfl,rfl⟩ rfl rfl rfl rfl rfl (by kernel_rfl) Tryz.func3 (by kernel_rfl)
  (of_decide_eq_true (by kernel_rfl)) (by unfold Func.isWrapper; first | (rw [if_pos (by decide +kernel)]; kernel_rfl) | (rw [if_neg (by decide +kernel)]; exact⟨rfl,rfl⟩))
  (λos started H enc _=>lifted os started H enc)
theorem ZW:Rows.TemplatePaysSaid:=over
theorem templatePays_holds:Rows.TemplatePaysCardSaid:=
 Claim7.holds_tied_plain_at .later [] [.mappedDeep,.funcs,.mapped] true (true, "47370d2515ba6a51d1609e58d5aa5405615658d069b08cae6c05f31fd91428f6") true
  ZW (λ_ h=>by cases h) (by kernel_rfl) (λ_ h=>by cases h) templatePays_row_tie rfl ⟨rfl,rfl⟩ (by kernel_rfl) rfl
  (λf fn hf hfn=>by
   obtain rfl:f=3:=Option.some.inj ((show Tryz.prog.funcNamed "novation/novationlaw16.TemplatePays" = some 3 by kernel_rfl).symm.trans hf) |>.symm;obtain rfl:fn=Tryz.f3:=(Option.some.inj (Tryz.func3.symm.trans hfn)).symm
   exact⟨by kernel_rfl,λj t ht=>by
    rw [Tryz.params3] at ht;have hm:t∈[24,3,3,28]:=by simpa using Array.mem_of_getElem? ht
    have hall:([24,3,3,28].all λu=> !Tryz.prog.wantsStandIn u)=true:=by kernel_rfl
    exact(show Tryz.prog.wantsStandIn t=false by simpa using List.all_eq_true.1 hall t hm)⟩)
  (by kernel_rfl)
end Go.Proofs.YtpnllbdffdpoaaaGreatDoor
end
