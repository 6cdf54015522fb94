/- Part 8 of the proof. -/
import Derived.Test.YtpnllbdffdpoaaaGreatDoorSxg
set_option linter.unusedVariables false
set_option linter.unusedSimpArgs false
set_option linter.unusedSectionVars false
section
set_option maxRecDepth 100000
open Go Go.Sx Go.Proofs Go.Nov
namespace Go.Proofs.Tryz
attribute [local simp] eqKV eqA eqA0 eqH eqB eqL eqL0
def opS:Ctr:={ opC with sinks:=true }
theorem zss:zd prog 36 opS:=zuc.sink
def zrj:Ctr:={ zqx with sinks:=true }
theorem zie:zd prog 39 zrj:=zq0.sink
def payS:Ctr:={ payC with sinks:=true }
theorem zcg:zd prog 35 payS:=zst.sink
def onS:Ctr:={ onC with sinks:=true }
theorem zjn:zd prog 34 onS:=zu4.sink
def zrv:Ctr:={ UB with sinks:=true }
theorem zi0:zd prog 69 zrv:=zu8.sink
noncomputable def GBgn:=tb V3 tz
noncomputable def zb6:Ctr:=inlC prog GBgn.g 100 f32
theorem VJ:zd prog 32 zb6:=Qj hmix GBgn.h rfl rfl
noncomputable def GDo1:=tb V9 (tb zi0 (tb Zg tz))
noncomputable def zca:Ctr:=inlC prog GDo1.g 100 f33
theorem Yg:zd prog 33 zca:=Qj hmix GDo1.h rfl rfl
noncomputable def GFw:=tb VJ (tb Yg (tb zss (tb za5 (tb zoa (tb zie (tb zcg (tb zjn tz)))))))
theorem Xa(a b:L8):eqG 2 1 (zj 1 [.str a,.str b]) (ratG [a,b]):=by
 intro j o hj ho;rcases(show j=0\/j=1 by omega) with rfl | rfl<;>rcases(show o=0 by omega) with rfl<;>rfl
theorem QZ(e:Ex):eqA (exD e) e.exA:=by
 simp only [exD,Ex.exA,Ex.exS,eqA];exact⟨⟨rfl,rfl⟩,rfl,rfl,⟨rfl,rfl⟩,⟨rfl,rfl,Ex.qg e⟩,trivial⟩
theorem uX{d:Deal}(h:Tm.fits d):∀ r∈[d.zb,d.zg],r.length<2^40:=by
 obtain⟨h1,h2,h3,h4,h5,h6⟩:=h;intro r hr;rcases aM.1 hr with rfl | hr
 ·omega
 ·rcases aM.1 hr with rfl | hr
  ·omega
  ·cases hr
theorem zero_eq{n:Int} : eqA2 (.tup [.agg [.int .u8 0,.str [],.str [],.str [],.int .u8 0,.str [],.str [],.i 0,.nils,.i 0,.nils,.nils],.i n]) (.tup [Tm.zero.conD,.i n]):=by
 simp [eqA2,eqL1,Tm.zero,Con.conD,Con.outD,Con.dayS,Ex.exS,Con.kind,Con.src,Con.dst,Con.name,Con.x,Con.date,Con.days,Con.sub,Ex.kind,Ex.rat,Ex.name,Ex.date,Ex.sub]
def JE:Ctr:=ctrP false (λp:Deal×Int=>[p.1.av,.i p.2]) (λp=>Tm.fits p.1) (λp (_:Unit)=>True) (λp _=>(.tup [(Tm.out (Tm.res p.1 (Tm.fwd p.1 p.2)) (Tm.fwd p.1 p.2)).conD,.i (Tm.res p.1 (Tm.fwd p.1 p.2))],[]))
theorem Yf{d:Deal}{c:Con}{Q:AV×Heap->Prop}(hq:Q (.tup [(Tm.out (Tm.res d c) c).conD,.i (Tm.res d c)],[]))(h:¬ Tm.first 0 [d.zb,d.zg]=0):Q (.tup [Tm.zero.conD,.i (Tm.first 0 [d.zb,d.zg])],[]):=by
 unfold Tm.res Tm.out at hq;rw [aO h,aO h] at hq;exact hq
theorem U7{d:Deal}{c:Con}{Q:AV×Heap->Prop}(hq:Q (.tup [(Tm.out (Tm.res d c) c).conD,.i (Tm.res d c)],[]))(h:Tm.first 0 [d.zb,d.zg]=0)(hc:¬ c.errC=0):Q (.tup [Tm.zero.conD,.i c.errC],[]):=by
 unfold Tm.res Tm.out at hq;rw [aP h,aO hc] at hq;exact hq
theorem zei{d:Deal}{c:Con}{Q:AV×Heap->Prop}(hq:Q (.tup [(Tm.out (Tm.res d c) c).conD,.i (Tm.res d c)],[]))(h:Tm.first 0 [d.zb,d.zg]=0)(hc:c.errC=0):Q (.tup [c.conD,.i 0],[]):=by
 unfold Tm.res Tm.out at hq;rw [aP h,aP hc,hc] at hq;exact hq
abbrev q36(A:List AV)(x:Con):Prop:=eqL A [(Con.conA x)]/\Con.big x<274877906944
abbrev q35(A:List AV)(x:Int×Con):Prop:=eqL A [.i x.1,(Con.conA x.2)]/\True
abbrev q34(A:List AV)(H:Heap)(x:Deal×Int×Ex×L8):Prop:=eqL A [.ptr 0 0,x.2.2.1.exA,.str x.2.2.2]/\eqH H [.box [.i x.2.1,.str x.1.long,.str x.1.short,.str x.1.ccy,.str x.1.name,.str x.1.zb,.str x.1.zg]]/\1=1/\True
abbrev q33(A:List AV)(H:Heap)(x:Deal×Int):Prop:=eqL A [.ptr 0 0]/\eqH H [.box [.i x.2,.str x.1.long,.str x.1.short,.str x.1.ccy,.str x.1.name,.str x.1.zb,.str x.1.zg]]/\1=1/\True
theorem Wc:zd prog 12 JE:=by
 refine zh' f12 λp hp O w0 Q hq=> ?_
 obtain⟨d,day⟩:=p;replace hq:=hq () trivial;replace hp:Tm.fits d:=hp;simp only at hq;have hbig:=Tm.Xe (day:=day) hp;refine zc.n GFw.h [] (let v2:List AV:=[.str d.long,.str d.short,.str d.ccy,.str d.name,.str d.zb,.str d.zg];let v1:List AV:=[.int .u8 0,.str #[].toList,.str #[].toList,.str #[].toList,.int .u8 0,.str #[].toList,.str #[].toList,.i 0,.nils,.i 0,.nils,.nils];.ex (λ(x:Deal×Int×List L8)=>eqL [.ptr 0 0,.osl 1 1 0 2] [.ptr 0 0,.osl 1 1 0 x.2.2.length]/\eqH [.box [.i 0,.str d.long,.str d.short,.str d.ccy,.str d.name,.str d.zb,.str d.zg],.arr 2 1 (zj 1 [.str d.zb,.str d.zg])] [.box [.i x.2.1,.str x.1.long,.str x.1.short,.str x.1.ccy,.str x.1.name,.str x.1.zb,.str x.1.zg],.arr x.2.2.length 1 (ratG x.2.2)]/\2=2/\x.2.2.length<1099511627776/\∀ (r:L8),r∈x.2.2->r.length<1099511627776) λn=>let v9:=ratG n.2.2;.A λn_1=>.ex (q33 [.ptr 0 0] [.box [.i (Tm.first n.2.1 n.2.2),.str n.1.long,.str n.1.short,.str n.1.ccy,.str n.1.name,.str n.1.zb,.str n.1.zg]]) λn_2=>let v7:=Tm.spot n_2.1.name;.A λn_3=>.ex (q32 [.str d.zb]) λn_4=>let v8:=Tm.kon n_4;.A λn_5=>.ex (λ(x:Int×List Ex)=>eqL [.int .u8 5,.sl 2 5 (zi (zj 5 [.int .u8 (Ex.kind v7),.str (Ex.rat v7),.str (Ex.name v7),.i (Ex.date v7),.sl (List.length (Ex.sub v7)) 5 (Ex.deep v7),.int .u8 (Ex.kind v8),.str (Ex.rat v8),.str (Ex.name v8),.i (Ex.date v8),.sl (List.length (Ex.sub v8)) 5 (Ex.deep v8)]) 0)] [.int .u8 x.1,.sl x.2.length 5 (Ex.exG x.2)]/\True) λn_6=>.A λn_7=>.ex (q34 [.ptr 0 0,(exD (Tm.opx n_6.1 n_6.2)),.str d.zg] [.box [.i n_2.2,.str n_2.1.long,.str n_2.1.short,.str n_2.1.ccy,.str n_2.1.name,.str n_2.1.zb,.str n_2.1.zg]]) λn_8=>let v3:List AV:=[.i n_8.2.1,.str n_8.1.long,.str n_8.1.short,.str n_8.1.ccy,.str n_8.1.name,.str n_8.1.zb,.str n_8.1.zg];.A λn_9=>.ex (q35 [.i day,(Con.conD (Tm.pay n_8.1 n_8.2.2.1 n_8.2.2.2))]) λn_10=>let v4:=Tm.at_ n_10.1 n_10.2;let v10:=q36 [v4.conD];let v6:zZ:=.ret [.agg v1,.i n_8.2.1] [.box v2,.box v1,.box v2,.box v3,.arr n.2.2.length 1 v9,.dead,.box v4.zl,.box v1];.A λn_11=>.D (n_8.2.1=0) (.ex (q31 [v4.conD]) λn_12=>.all (λ(r:Int)=>r=Con.errC n_12) λn_13=>let v5:List AV:=[.i n_13,.str n_8.1.long,.str n_8.1.short,.str n_8.1.ccy,.str n_8.1.name,.str n_8.1.zb,.str n_8.1.zg];.D (n_8.2.1=0) (.N (n_13=0) (.R [.agg v1,.i n_13] [.box v2,.box v1,.box v2,.box v5,.arr n.2.2.length 1 v9,.dead,.box v4.zl,.box v1]) (.ex v10 λn_14=>.A λn_15=>.R [n_14.conD,.i 0] [.box v2,.box n_14.zl,.box v2,.box v5,.arr n.2.2.length 1 v9,.dead,.box v4.zl,.box n_14.zl])) (.N (n_8.2.1=0) (.leaf v6) (.ex v10 λn_14=>.A λn_15=>.R [n_14.conD,.i 0] [.box v2,.box n_14.zl,.box v2,.box v3,.arr n.2.2.length 1 v9,.dead,.box v4.zl,.box n_14.zl]))) (.N (n_8.2.1=0) (.leaf v6) (.ex v10 λn_12=>.A λn_13=>.R [n_12.conD,.i 0] [.box v2,.box n_12.zl,.box v2,.box v3,.arr n.2.2.length 1 v9,.dead,.box v4.zl,.box n_12.zl]))) ?_;simp only [q31,q32,q33,q34,q35,q36,Tree.holds,zf];refine⟨(d,0,[d.zb,d.zg]),⟨by simp,by simp [Deal.cells,Xa],trivial,by show 2<2^40; decide,uX hp⟩,⟨(),trivial⟩,λ_ _=> ?_⟩;refine⟨(d,Tm.first 0 [d.zb,d.zg]),⟨by simp,by simp [Deal.cells],trivial,trivial⟩,⟨(),trivial⟩,λ_ _=> ?_⟩;refine⟨d.zb,⟨by simp,trivial⟩,⟨(),trivial⟩,λ_ _=> ?_⟩;refine⟨(5,[Tm.spot d.name,Tm.kon d.zb]),⟨⟨⟨rfl,rfl⟩,⟨rfl,rfl,Ex.Jc _ _⟩,trivial⟩,trivial⟩,⟨(),trivial⟩,λ_ _=> ?_⟩;refine⟨(d,Tm.first 0 [d.zb,d.zg],Tm.opx 5 [Tm.spot d.name,Tm.kon d.zb],d.zg),⟨⟨⟨rfl,rfl⟩,QZ _,rfl,trivial⟩,by simp [Deal.cells],trivial,trivial⟩,⟨(),trivial⟩,λ_ _=> ?_⟩;refine⟨(day,Tm.pay d (Tm.opx 5 [Tm.spot d.name,Tm.kon d.zb]) d.zg),⟨⟨⟨rfl,rfl⟩,j0 _,trivial⟩,trivial⟩,⟨(),trivial⟩,λ_ _=> ?_⟩;obtain⟨c,hc⟩:∃ c,Tm.fwd d day=c:=⟨_,rfl⟩;have hn:c.nodes<=1000000:=by rw [<- hc]; show(Tm.fwd d day).nodes<=_; simp [Tm.fwd,Tm.at_,Tm.pay,Con.nodes,Con.zz]
 change (_->∃ n_12,_)/\_;simp only [<- show Tm.fwd d day=Tm.at_ day (Tm.pay d (Tm.opx 5 [Tm.spot d.name,Tm.kon d.zb]) d.zg) from rfl];rw [hc] at hq hbig;simp only [hc];have hq1:=Yf hq;have hq2:=U7 hq;have hq3:=zei hq;clear hq;generalize Tm.first 0 [d.zb,d.zg]=e at hq1 hq2 hq3 ⊢;refine⟨λh=> ?_,λh=> ?_⟩
 ·have he:=aB h;refine⟨c,⟨⟨j0 c,trivial⟩,by omega,hn⟩,⟨_,rfl⟩,?_⟩;rintro _ rfl;refine⟨λ_=>⟨λh1=> ?_,λh1=> ?_⟩,λh1=>absurd (h.symm.trans h1) (by decide)⟩
  ·exact RetR.out0 (hq2 he (by simpa using h1)) (λh=>by cases h) zero_eq
  ·refine⟨c,⟨⟨j0 c,trivial⟩,by omega⟩,⟨(),trivial⟩,λ_ _=> ?_⟩;exact RetR.le0 (hq3 he (by simpa using h1)) (λh=>by cases h) (LeA.refl _)
 ·have he:=aC h;refine⟨λ_=>RetR.out0 (hq1 he) (λh=>by cases h) zero_eq,λh1=>absurd h1 (by simp [he])⟩
def zcb:Ctr:=ctrP false (λp:Deal×Int×Bool=>[p.1.av,.i p.2.1,.bool p.2.2]) (λp=>Tm.fits p.1) (λp (_:Unit)=>True) (λp _=>(.tup [(Tm.out (Tm.res p.1 (Tm.pff p.1 p.2.1 p.2.2)) (Tm.pff p.1 p.2.1 p.2.2)).conD,.i (Tm.res p.1 (Tm.pff p.1 p.2.1 p.2.2))],[]))
theorem zgz:zd prog 13 zcb:=by
 refine zh' f13 λp hp O w0 Q hq=> ?_
 obtain⟨d,day,put⟩:=p;replace hq:=hq () trivial;replace hp:Tm.fits d:=hp;simp only at hq;have hbig:=Tm.XP (day:=day) (put:=put) hp;refine zc.n GFw.h [] (let v2:List AV:=[.str d.long,.str d.short,.str d.ccy,.str d.name,.str d.zb,.str d.zg];let v1:List AV:=[.int .u8 0,.str #[].toList,.str #[].toList,.str #[].toList,.int .u8 0,.str #[].toList,.str #[].toList,.i 0,.nils,.i 0,.nils,.nils];.ex (λ(x:Deal×Int×List L8)=>eqL [.ptr 0 0,.osl 1 1 0 2] [.ptr 0 0,.osl 1 1 0 x.2.2.length]/\eqH [.box [.i 0,.str d.long,.str d.short,.str d.ccy,.str d.name,.str d.zb,.str d.zg],.arr 2 1 (zj 1 [.str d.zb,.str d.zg])] [.box [.i x.2.1,.str x.1.long,.str x.1.short,.str x.1.ccy,.str x.1.name,.str x.1.zb,.str x.1.zg],.arr x.2.2.length 1 (ratG x.2.2)]/\2=2/\x.2.2.length<1099511627776/\∀ (r:L8),r∈x.2.2->r.length<1099511627776) λn=>let v7:=ratG n.2.2;.A λn_1=>.ex (q33 [.ptr 0 0] [.box [.i (Tm.first n.2.1 n.2.2),.str n.1.long,.str n.1.short,.str n.1.ccy,.str n.1.name,.str n.1.zb,.str n.1.zg]]) λn_2=>.A λn_3=>.ex (λ(x:Deal×Int×Ex×Bool)=>eqL [.ptr 0 0,(exD (Tm.spot n_2.1.name)),.bool put] [.ptr 0 0,x.2.2.1.exA,.bool x.2.2.2]/\eqH [.box [.i n_2.2,.str n_2.1.long,.str n_2.1.short,.str n_2.1.ccy,.str n_2.1.name,.str n_2.1.zb,.str n_2.1.zg]] [.box [.i x.2.1,.str x.1.long,.str x.1.short,.str x.1.ccy,.str x.1.name,.str x.1.zb,.str x.1.zg]]/\1=1/\True) λn_4=>.A λn_5=>.ex (q34 [.ptr 0 0,(exD (Tm.over n_4.1.zb n_4.2.2.1 n_4.2.2.2)),.str d.zg] [.box [.i n_4.2.1,.str n_4.1.long,.str n_4.1.short,.str n_4.1.ccy,.str n_4.1.name,.str n_4.1.zb,.str n_4.1.zg]]) λn_6=>let v3:List AV:=[.i n_6.2.1,.str n_6.1.long,.str n_6.1.short,.str n_6.1.ccy,.str n_6.1.name,.str n_6.1.zb,.str n_6.1.zg];.A λn_7=>.ex (q35 [.i day,(Con.conD (Tm.pay n_6.1 n_6.2.2.1 n_6.2.2.2))]) λn_8=>let v4:=Tm.at_ n_8.1 n_8.2;let v8:=q36 [v4.conD];let v6:zZ:=.ret [.agg v1,.i n_6.2.1] [.box v2,.box v1,.box v2,.box v3,.arr n.2.2.length 1 v7,.box v4.zl,.box v1];.A λn_9=>.D (n_6.2.1=0) (.ex (q31 [v4.conD]) λn_10=>.all (λ(r:Int)=>r=Con.errC n_10) λn_11=>let v5:List AV:=[.i n_11,.str n_6.1.long,.str n_6.1.short,.str n_6.1.ccy,.str n_6.1.name,.str n_6.1.zb,.str n_6.1.zg];.D (n_6.2.1=0) (.N (n_11=0) (.R [.agg v1,.i n_11] [.box v2,.box v1,.box v2,.box v5,.arr n.2.2.length 1 v7,.box v4.zl,.box v1]) (.ex v8 λn_12=>.A λn_13=>.R [n_12.conD,.i 0] [.box v2,.box n_12.zl,.box v2,.box v5,.arr n.2.2.length 1 v7,.box v4.zl,.box n_12.zl])) (.N (n_6.2.1=0) (.leaf v6) (.ex v8 λn_12=>.A λn_13=>.R [n_12.conD,.i 0] [.box v2,.box n_12.zl,.box v2,.box v3,.arr n.2.2.length 1 v7,.box v4.zl,.box n_12.zl]))) (.N (n_6.2.1=0) (.leaf v6) (.ex v8 λn_10=>.A λn_11=>.R [n_10.conD,.i 0] [.box v2,.box n_10.zl,.box v2,.box v3,.arr n.2.2.length 1 v7,.box v4.zl,.box n_10.zl]))) ?_;simp only [q31,q33,q34,q35,q36,Tree.holds,zf];refine⟨(d,0,[d.zb,d.zg]),⟨by simp,by simp [Deal.cells,Xa],trivial,by show 2<2^40; decide,uX hp⟩,⟨(),trivial⟩,λ_ _=> ?_⟩;refine⟨(d,Tm.first 0 [d.zb,d.zg]),⟨by simp,by simp [Deal.cells],trivial,trivial⟩,⟨(),trivial⟩,λ_ _=> ?_⟩;refine⟨(d,Tm.first 0 [d.zb,d.zg],Tm.spot d.name,put),⟨⟨⟨rfl,rfl⟩,QZ _,rfl,trivial⟩,by simp [Deal.cells],trivial,trivial⟩,⟨(),trivial⟩,λ_ _=> ?_⟩;refine⟨(d,Tm.first 0 [d.zb,d.zg],Tm.over d.zb (Tm.spot d.name) put,d.zg),⟨⟨⟨rfl,rfl⟩,QZ _,rfl,trivial⟩,by simp [Deal.cells],trivial,trivial⟩,⟨(),trivial⟩,λ_ _=> ?_⟩;refine⟨(day,Tm.pay d (Tm.over d.zb (Tm.spot d.name) put) d.zg),⟨⟨⟨rfl,rfl⟩,j0 _,trivial⟩,trivial⟩,⟨(),trivial⟩,λ_ _=> ?_⟩;obtain⟨c,hc⟩:∃ c,Tm.pff d day put=c:=⟨_,rfl⟩;have hn:c.nodes<=1000000:=by rw [<- hc]; show(Tm.pff d day put).nodes<=_; simp [Tm.pff,Tm.at_,Tm.pay,Con.nodes,Con.zz]
 change (_->∃ n_12,_)/\_;simp only [<- show Tm.pff d day put=Tm.at_ day (Tm.pay d (Tm.over d.zb (Tm.spot d.name) put) d.zg) from rfl];rw [hc] at hq hbig;simp only [hc];have hq1:=Yf hq;have hq2:=U7 hq;have hq3:=zei hq;clear hq;generalize Tm.first 0 [d.zb,d.zg]=e at hq1 hq2 hq3 ⊢;refine⟨λh=> ?_,λh=> ?_⟩
 ·have he:=aB h;refine⟨c,⟨⟨j0 c,trivial⟩,by omega,hn⟩,⟨_,rfl⟩,?_⟩;rintro _ rfl;refine⟨λ_=>⟨λh1=> ?_,λh1=> ?_⟩,λh1=>absurd (h.symm.trans h1) (by decide)⟩
  ·exact RetR.out0 (hq2 he (by simpa using h1)) (λh=>by cases h) zero_eq
  ·refine⟨c,⟨⟨j0 c,trivial⟩,by omega⟩,⟨(),trivial⟩,λ_ _=> ?_⟩;exact RetR.le0 (hq3 he (by simpa using h1)) (λh=>by cases h) (LeA.refl _)
 ·have he:=aC h;refine⟨λ_=>RetR.out0 (hq1 he) (λh=>by cases h) zero_eq,λh1=>absurd h1 (by simp [he])⟩
theorem WT{A B:Prop}(ha:A)(hb:B):(∃ _:Bool,True)/\∀ n:Bool,True->(n=true->A)/\(n=false->B):=⟨⟨true,trivial⟩,λ_ _=>⟨λ_=>ha,λ_=>hb⟩⟩
end Go.Proofs.Tryz
end
section
namespace Go.Nov
open Go.Sx
structure Per where
 fix:Int
 pay:Int
 part:L8
namespace Per
def nil:Per:=⟨0,0,[]⟩
def cell(p:Per):Nat->AV
 | 0=>.i p.fix
 | 1=>.i p.pay
 | 2=>.str p.part
 | _=>.undef
def av(p:Per):AV:=.agg [.i p.fix,.i p.pay,.str p.part]
end Per
def perG(l:List Per):Nat->Nat->AV:=λj=>(l.getD j Per.nil).cell
def perS(l:List Per):AV:=.sl l.length 3 (perG l)
namespace Tm
def short(d:Deal)(l:List Per)(days:List Int):Prop:=fits d/\l.length<=60/\days.length<=200/\∀ i,i<l.length->(l.getD i Per.nil).part.length<=300
end Tm
end Go.Nov
end
section
namespace Go.Nov
structure OrdT{α:Type}(c:α->α->Int):Prop extends OrdK c where
 irr:∀ a,c a a=0
 tot:∀ a b,c a b<0\/c a b=0\/c b a<0
 sym:∀ a b,c a b=0->c b a=0
 eqt:∀ a b d,c a b=0->c b d=0->c a d=0
 eq2:∀ a b d,c a b=0->c b d<0->c a d<0
section
variable {α:Type} {c:α->α->Int} {z x y:α} (hk:OrdT c)
include hk
end
end Go.Nov
end
section
namespace Go.Nov
def negS(a:L8):L8:=if a=[48] then a else if a.getD 0 0=45 then a.drop 1 else [45]++a
theorem Wp(z:Int):z=0/\(wz z).1=[48]\/z≠0/\room z.natAbs/\(wz z).1=sgn (decide (z<0)) (txt z.natAbs)\/¬ room z.natAbs:=by
 by_cases h0:z=0
 ·left; subst h0; exact⟨rfl,rfl⟩
 ·right;by_cases hr:room z.natAbs
  ·left;refine⟨h0,hr,?_⟩;unfold wz wr;have hr':(dec z.natAbs).length<=1000:=hr;rw [aO (by omega),aO (by omega)]
  ·exact .inr hr
theorem W7(b:L8):sgn true b=45::b:=rfl
theorem ZU(b:L8):sgn false b=b:=rfl
theorem zhi{r:Rat}(h:kO r):negS (qstr r)=qstr (-r):=by
 have hn:(-r).num = -r.num:=rfl;have hd:(-r).den=r.den:=rfl
 have tail:∀ t:L8,(r.den=1->t=[])->(r.den≠1->t=[47]++(wz (r.den:Int)).1)->qstr r=(wz r.num).1++t/\qstr (-r)=(wz (-r.num)).1++t:=by
  intro t h1 h2;unfold qstr;rw [hn,hd];by_cases hd1:r.den=1
  ·rw [aP hd1,aP hd1,h1 hd1]; simp
  ·rw [aO hd1,aO hd1,h2 hd1]; simp
 obtain⟨t,ht1,ht2⟩:∃ t:L8,(r.den=1->t=[])/\(r.den≠1->t=[47]++(wz (r.den:Int)).1):=by
  by_cases hd1:r.den=1
  ·exact⟨[],λ_=>rfl,λh=>absurd hd1 h⟩
  ·exact⟨_,λh=>absurd h hd1,λ_=>rfl⟩
 obtain⟨e1,e2⟩:=tail t ht1 ht2;rw [e1,e2];rcases Wp r.num with ⟨z0,zs⟩ | ⟨z0,zr,zs⟩ | zr
 ·have hr0:r=0:=Rat.num_eq_zero.1 z0;have ht:t=[]:=ht1 (by rw [hr0]; rfl);rw [z0,ht];rfl
 ·rcases Wp (-r.num) with ⟨z0',_⟩ | ⟨_,_,zs'⟩ | zr'
  ·omega
  ·rw [zs,zs',Int.natAbs_neg];have hx:r.num.natAbs≠0:=by omega
   obtain⟨f1,f2⟩:=yV hx;have fne:=KZ hx;by_cases hlt:r.num<0
   ·rw [aX hlt,aW (by omega),W7,ZU];unfold negS;rw [aO (by simp),aP (by simp)];rfl
   ·rw [aW hlt,aX (by omega),W7,ZU];generalize txt r.num.natAbs=b at *
    cases b with
    | nil=>exact absurd rfl fne
    | cons c b=>
     simp only [List.getD_cons_zero] at f1 f2;unfold negS;rw [aO (by simp [f1]),aO (by simpa using f2)];rfl
  ·rw [Int.natAbs_neg] at zr'; exact absurd zr zr'
 ·exact absurd h.1 zr
theorem zla{r:Rat}(h:kO r):kO (-r):=by
 refine⟨?_,h.2⟩;show room (-r.num).natAbs;rw [Int.natAbs_neg]; exact h.1
theorem vR{a:L8}(h:errR a=0):errR (negS a)=0/\qv (negS a) = -qv a/\numR (negS a)=(wz (-zI (numR a))).1/\denR (negS a)=denR a:=by
 obtain⟨h1,h2,h3,h4⟩:=kG h;have e:negS a=qstr (-qv a):=by rw [<- zhi h4,h3]
 have hr:=zla h4;obtain⟨p1,p2,_⟩:=uC hr;rw [e];refine⟨yQ hr,QV hr,?_,?_⟩
 ·rw [p1];show(wz (-(qv a).num)).1=_;rw [h1]
 ·rw [p2];show(wz ((qv a).den:Int)).1=_;rw [h2,xB (qJ h).2.1]
theorem ki(z:Int):(wz (-z)).2=(wz z).2:=by
 unfold wz wr;rw [Int.natAbs_neg];split
 ·rfl
 ·split<;>rfl
theorem sub_neg{a b:L8}(ha:errR a=0)(hb:errR b=0):addR a (negS b)=subR a b:=by
 obtain⟨n1,n2,n3,n4⟩:=vR hb;obtain⟨a1,a2,b1,b2,a4,b4,h2⟩:=ZC ha hb;obtain⟨_,_,b1',b2',_,b4',h2'⟩:=ZC ha n1
 have hz:zI (numR (negS b)) = -zI (numR b):=by
  rw [n3];refine wq ?_;rw [ki,xB b1]
 have m1:mulI (numR a) (denR (negS b))=mulI (numR a) (denR b):=by rw [n4]
 have m2:=wV (zk.2 ⟨b1',a2⟩);have m2':=wV (zk.2 ⟨b1,a2⟩);rw [hz,Int.neg_mul] at m2
 have hc:zG a (negS b)=zG a b:=by
  unfold zG;rw [h2,h2',m1,m2,m2',ki]
 unfold addR subR;rw [hc];split
 ·rfl
 ·rename_i hne;rw [Classical.not_not] at hne;rcases yP ha hb with h | ⟨_,k1,k2,k3,k4⟩
  ·rw [h] at hne; cases hne
  ·rw [m1,n4];congr 1;rw [m2,m2'] at *
   rw [k1] at k3 ⊢;have e1:=jG k3;have e2:=jG k4;have k5:(wz (-(zI (numR b)*zI (denR a)))).2=0:=by rw [ki]; exact k4
   have e3:=jG k5;rw [zn2 (zk.2 ⟨e1,e3⟩),zbm (zk.2 ⟨e1,e2⟩),wq k3,wq k4,wq k5,Int.sub_eq_add_neg]
end Go.Nov
end
section
namespace Go.Nov
open Go.Sx
structure Ca where
 name:L8
 into:L8
 date:Int
 ratio:L8
 extra:L8
theorem jJ{a:L8}(h:errR a=0):(a.getD 0 0=45↔qv a<0)/\(a=[48]↔qv a=0)/\a≠[]:=by
 obtain⟨p1,p2,p3,p4⟩:=kG h;generalize qv a=r at p1 p2 p3 p4
 have ht:∃ t:L8,a=(wz r.num).1++t/\(r.den=1->t=[]):=by
  rw [<- p3];unfold qstr;by_cases hd1:r.den=1
  ·rw [aP hd1]; exact⟨[],by simp,λ_=>rfl⟩
  ·rw [aO hd1]; exact⟨[47]++(wz r.den).1,by simp,λh=>absurd h hd1⟩
 obtain⟨t,e,ht⟩:=ht
 have hneg:r<0↔r.num<0:=by
  rw [Rat.lt_iff];simp
 rcases Wp r.num with ⟨z0,zs⟩ | ⟨z0,zr,zs⟩ | zr
 ·have hr0:r=0:=Rat.num_eq_zero.1 z0;have ht:=ht (by rw [hr0]; rfl);rw [zs,ht] at e;subst e;rw [hneg,z0];exact⟨⟨λh=>absurd h (by decide),λh=>absurd h (by decide)⟩,⟨λ_=>hr0,λ_=>rfl⟩,by simp⟩
 ·have hr0:r≠0:=λh=>z0 (by rw [h]; rfl)
  have hx:r.num.natAbs≠0:=by omega
  obtain⟨f1,f2⟩:=yV hx;have fne:=KZ hx;rw [zs] at e;rw [hneg];by_cases hlt:r.num<0
  ·rw [aX hlt,W7] at e;subst e;exact⟨⟨λ_=>hlt,λ_=>rfl⟩,⟨λh=>by simp at h,λh=>absurd h hr0⟩,by simp⟩
  ·rw [aW hlt,ZU] at e;generalize txt r.num.natAbs=b at *
   cases b with
   | nil=>exact absurd rfl fne
   | cons c b=>
    simp only [List.getD_cons_zero] at f1 f2;subst e;exact⟨⟨λh=>absurd h f2,λh=>absurd h hlt⟩,⟨λh=>by simp [f1] at h,λh=>absurd h hr0⟩,by simp⟩
 ·exact absurd p4.1 zr
theorem zpq{a:L8}(h:errR a=0):0<qv a↔a≠[48]/\a.getD 0 0≠45:=by
 obtain⟨h1,h2,h3⟩:=jJ h;rw [ne_eq,ne_eq,h1,h2];generalize qv a=r;have:=Rat.lt_iff (a:=r) (b:=0);constructor
 ·intro h; exact⟨by grind,by grind⟩
 ·rintro⟨h4,h5⟩; grind
theorem vu:errR [48]=0:=by decide +kernel
theorem YP:qv [48]=0:=by decide +kernel
theorem Vd{a:L8} : (errR a≠0->(cmpR a [48]).2≠0)/\(errR a=0->(cmpR a [48]).2=0/\(cmpR a [48]).1=if qv a<0 then -1 else if 0<qv a then 1 else 0):=by
 constructor
 ·intro h;have h2:jc a [48]=errR a:=by unfold jc; rw [aO h]
  have hc:zG a [48]=errR a:=by unfold zG; rw [h2,aP h]
  unfold cmpR;rw [hc,aP h];exact h
 ·intro h;have hn:(cmpR a [48]).2≠14->_:=λg=>(za9 h vu).resolve_left (λk=>g (by rw [k]))
  have key:(cmpR a [48]).2≠14:=by
   obtain⟨a1,a2,b1,b2,a4,b4,h2⟩:=ZC h vu
   have hx:mulI (numR a) (denR [48])=(numR a,0):=by
    rw [show denR [48]=[49] from by decide +kernel,wV (zk.2 ⟨a1,Y6⟩),show zI [49]=1 from by decide +kernel,Int.mul_one];exact xB a1
   have hy:mulI (numR [48]) (denR a)=([48],0):=by
    rw [wV (zk.2 ⟨b1,a2⟩),show zI (numR [48])=0 from by decide +kernel,Int.zero_mul];decide +kernel
   have hc:zG a [48]=0:=by
    unfold zG;rw [h2,aO (by simp),hx,hy];simp
   unfold cmpR;rw [hc,aO (by simp),hx,hy];unfold y8;rw [aP (zk.2 ⟨a1,by decide +kernel⟩)];simp
  have:=hn key;rw [this,YP];exact⟨rfl,rfl⟩
theorem Wm(z w:L8×Int):(frac z w).1.length<=2003:=by
 unfold frac;split
 ·simp
 ·unfold w6;split
  ·simp
  ·split
   ·simp
   ·exact zgr _ _ _
theorem zlx(a b:L8):(mulR a b).1.length<=2003:=by
 unfold mulR;split
 ·simp
 ·exact Wm _ _
theorem zk7(a b:L8):(addR a b).1.length<=2003:=by
 unfold addR;split
 ·simp
 ·exact Wm _ _
namespace Ca
def ok(a:Ca):Bool:=zy a.name&&(zy a.into&&(dayB a.date&&(decide (errR a.ratio=0)&&(decide (0<qv a.ratio)&&decide (errR a.extra=0)))))
def old(a:Ca)(x:L8):L8×Int:=if(mulR a.ratio x).2≠0 then([],(mulR a.ratio x).2) else addR (mulR a.ratio x).1 a.extra
def hit(a:Ca)(f:Fx):Bool:=decide (f.name=a.into)&&decide (a.date<=f.date)
def keep(a:Ca)(f:Fx):Bool:= !decide (f.name=a.name)||decide (f.date<a.date)
def mk'(a:Ca)(f:Fx):Fx:=⟨a.name,f.date,(a.old f.value).1⟩
def fresh(a:Ca)(l:List Fx):List Fx:=(l.filter a.hit).map a.mk'
def kept(a:Ca)(l:List Fx):List Fx:=l.filter a.keep
def bad(a:Ca)(f:Fx):Bool:=a.hit f&&decide ((a.old f.value).2≠0)
def err(a:Ca)(l:List Fx):Int:=match l.find? a.bad with
 | some f=>(a.old f.value).2
 | none=>0
def at_(a:Ca)(l:List Fx):Nat:=l.findIdx λf=>Op.bytesLess a.name f.name
def join(a:Ca)(l m:List Fx):List Fx:=l.take (a.at_ l)++m++l.drop (a.at_ l)
def before(a:Ca)(f:List Fx)(c:List Ch):(List Fx×List Ch)×Int:=
 if a.ok=false then(([],[]),8) else if errE f c≠0 then(([],[]),errE f c) else if a.err f≠0 then(([],[]),a.err f)
 else if 1000<(a.kept f).length+(a.fresh f).length then(([],[]),22) else((a.join (a.kept f) (a.fresh f),c),0)
end Ca
end Go.Nov
end
section
namespace Go.Nov
open Go.Sx
namespace Tm
def zds:Con:=.mk 1 [] [] [] (.mk 0 [] [] 0 []) 0 [] []
def both(a b:Con):Con:=.mk 3 [] [] [] (.mk 0 [] [] 0 []) 0 [] [a,b]
def xr:Nat->List Con->Con
 | 0,_=>zds
 | n+1,l=>if l.length=0 then zds else if l.length=1 then l.getD 0 Con.nil else both (xr n (l.take ((l.length+1)/2))) (xr n (l.drop ((l.length+1)/2)))
theorem xd:∀ (n m:Nat) (l:List Con),l.length<=n->l.length<=m->xr n l=xr m l
 | 0,0,l,_,_=>rfl
 | 0,m+1,l,h,_=>by
  have:l.length=0:=by omega
  simp [xr,this]
 | n+1,0,l,_,h=>by
  have:l.length=0:=by omega
  simp [xr,this]
 | n+1,m+1,l,h1,h2=>by
  simp only [xr];by_cases h:l.length=0
  ·rw [aP h,aP h]
  ·rw [aO h,aO h];by_cases g:l.length=1
   ·rw [aP g,aP g]
   ·rw [aO g,aO g,xd n m _ (by rw [aH]; omega) (by rw [aH]; omega),xd n m _ (by rw [bV]; omega) (by rw [bV]; omega)]
def whole(l:List Con):Con:=xr l.length l
theorem xc(l:List Con):whole l=if l.length=0 then zds else if l.length=1 then l.getD 0 Con.nil else both (whole (l.take ((l.length+1)/2))) (whole (l.drop ((l.length+1)/2))):=by
 unfold whole;rw [xd l.length (l.length+1) l (aJ _) (Nat.le_succ _)];simp only [xr];by_cases h:l.length=0
 ·rw [aP h,aP h]
 ·rw [aO h,aO h];by_cases g:l.length=1
  ·rw [aP g,aP g]
  ·rw [aO g,aO g,xd l.length _ _ (by rw [aH]; omega) (aJ _),xd l.length _ _ (by rw [bV]; omega) (aJ _)]
theorem Us(l m:List Con):Con.bigs (l++m)=Con.bigs l+Con.bigs m:=by
 induction l with
 | nil=>simp [Con.bigs]
 | cons c l ih=>simp only [List.cons_append,Con.bigs,ih]; omega
theorem Kn(l m:List Con):Con.zz (l++m)=Con.zz l+Con.zz m:=by
 induction l with
 | nil=>simp [Con.zz]
 | cons c l ih=>simp only [List.cons_append,Con.zz,ih]; omega
theorem xV:∀ (n:Nat) (l:List Con),l.length<=n->1<=l.length->(whole l).big<=Con.bigs l+2*(l.length - 1)/\(whole l).nodes<=Con.zz l+(l.length - 1)
 | 0,l,h,h'=>by omega
 | n+1,l,h,h'=>by
  rw [xc,aO (by omega:¬ l.length=0)];by_cases h1:l.length=1
  ·rw [aP h1]
   match l,h1 with
   | [c],_=>simp [Con.bigs,Con.zz]
  ·rw [aO h1];obtain⟨a1,a2⟩:=xV n (l.take ((l.length+1)/2)) (by rw [aH]; omega) (by rw [aH]; omega);obtain⟨b1,b2⟩:=xV n (l.drop ((l.length+1)/2)) (by rw [bV]; omega) (by rw [bV]; omega);have e1:=Us (l.take ((l.length+1)/2)) (l.drop ((l.length+1)/2));have e2:=Kn (l.take ((l.length+1)/2)) (l.drop ((l.length+1)/2));rw [bU] at e1 e2;rw [aH] at a1 a2;rw [bV] at b1 b2;simp only [both,Con.big,Con.bigs,Con.nodes,Con.zz,Ex.size,Ex.zu,Ex.zB,Ex.qk,List.length_nil];omega
theorem xC(l:List Con):(whole l).big<=Con.bigs l+2*l.length+2/\(whole l).nodes<=Con.zz l+l.length+1:=by
 by_cases h:l.length=0
 ·have:l=[]:=aU.1 h;subst this;decide
 ·have:=xV l.length l (aJ _) (by omega);omega
structure Leg where
 e:Int
 acc:List Con
def prod(e:Int)(a b:L8):L8×Int:=if e≠0 then([48],e) else mulR a b
theorem JK{e:Int}{a b:L8} : (prod e a b).1.length<=2003:=by
 unfold prod;split
 ·simp
 ·exact zlx a b
def legS(d:Deal)(s:Leg)(p:Per):Leg:=
 ⟨(prod (prod s.e p.part d.zg).2 d.zb (prod s.e p.part d.zg).1).2,s.acc++[at_ p.pay (.mk 2 d.long d.short d.ccy (kon (prod (prod s.e p.part d.zg).2 d.zb (prod s.e p.part d.zg).1).1) 0 [] []),at_ p.pay (pay d (fixg d.name p.fix) (prod s.e p.part d.zg).1)]⟩
def badT(l:List Per)(i:Nat):Bool:=(List.range i).any λj=>decide ((l.getD j Per.nil).pay<(l.getD j Per.nil).fix)||(decide (0<j)&&decide ((l.getD j Per.nil).pay<=(l.getD (j - 1) Per.nil).pay))
theorem zh2(l:List Per)(i:Nat):badT l (i+1)=(badT l i||(decide ((l.getD i Per.nil).pay<(l.getD i Per.nil).fix)||(decide (0<i)&&decide ((l.getD i Per.nil).pay<=(l.getD (i - 1) Per.nil).pay)))):=by
 unfold badT;rw [List.range_succ,List.any_append];simp
def Zv(l:List Per)(i:Nat):Int:=if i=0 then -9223372036854775808 else(l.getD (i - 1) Per.nil).pay
def perE(d:Deal)(l:List Per):Int:=first (first 0 [d.zb,d.zg]) (l.map Per.part)
def ke(e:Int)(l:List Per)(i:Nat):Int:=if e=0 then(if badT l i=true then 40 else 0) else e
theorem zbw(l:List Per)(i:Nat):Zv l (i+1)=(l.getD i Per.nil).pay:=by simp [Zv]
theorem za4{e:Int}{l:List Per}{i:Nat}{b:Bool}(hb:b=(decide ((l.getD i Per.nil).pay<(l.getD i Per.nil).fix)||(decide (0<(i:Int))&&decide ((l.getD i Per.nil).pay<=Zv l i)))):ke e l (i+1)=if b=true then(if ke e l i=0 then 40 else ke e l i) else ke e l i:=by
 have hs:badT l (i+1)=(badT l i||b):=by
  rw [zh2,hb];congr 2;by_cases h:i=0
  ·simp [h]
  ·have:Zv l i=(l.getD (i - 1) Per.nil).pay:=by simp [Zv,h]
   rw [this];simp
 unfold ke;rw [hs];by_cases he:e=0
 ·cases badT l i<;>cases b<;>simp [he]
 ·cases b<;>simp [he]
def ja(f:Leg->Per->Leg)(e:Int)(l:List Per)(i:Nat):Leg:=(l.take i).foldl f ⟨e,[]⟩
theorem za0{f:Leg->Per->Leg}{e:Int}{l:List Per}{i:Nat}(h:i<l.length):ja f e l (i+1)=f (ja f e l i) (l.getD i Per.nil):=by
 have:l.take (i+1)=l.take i++[l.getD i Per.nil]:=by rw [List.take_add_one]; simp [List.getD,h]
 unfold ja;rw [this,List.foldl_append];rfl
end Tm
end Go.Nov
end
section
set_option maxRecDepth 100000
open Go Go.Sx Go.Proofs Go.Nov
namespace Go.Proofs.Tryz
attribute [local simp] eqKV eqA eqA0 eqH eqB eqL eqL0
theorem zg9(l:List Con)(k:Nat)(hk:k<=l.length):eqG k 12 (zi (Con.conG l) 0) (Con.conG (l.take k)):=by
 intro j o hj ho;simp [zi,Con.conG,List.getD,bR,hj]
theorem zet(l:List Con)(k:Nat):eqG (l.length - k) 12 (zi (Con.conG l) k) (Con.conG (l.drop k)):=by
 intro j o hj ho;simp [zi,Con.conG,List.getD,List.getElem?_drop]
theorem Con.yD{x y:Con}{k d:Int}{a b n:L8}{z:Ex}{l:List Int}{c:List AV}(h:LeL c (x.zl++y.zl)):LeA (.sl 2 12 (zi (zj 12 c) 0)) (.sl 2 12 (Con.mk k a b n z d l [x,y]).deep):=by
 refine LeA.sl rfl λj o hj ho=> ?_
 rw [Con.qg (Con.mk k a b n z d l [x,y]) j o (by show j<2; omega) ho];have:=LeL.dAt (j*12+o) h;simp only [zi,zj,Nat.zero_add];rcases(show j=0\/j=1 by omega) with rfl | rfl<;>rcases(show o=0\/o=1\/o=2\/o=3\/o=4\/o=5\/o=6\/o=7\/o=8\/o=9\/o=10\/o=11 by omega) with rfl | rfl | rfl | rfl | rfl | rfl | rfl | rfl | rfl | rfl | rfl | rfl<;>exact this
theorem zq3(x y:Con):LeA (.agg [.int .u8 3,.str [],.str [],.str [],.int .u8 0,.str [],.str [],.i 0,.nils,.i 0,.nils,.sl 2 12 (zi (zj 12 (x.zl++y.zl)) 0)]) (Tm.both x y).conD:=
 LeA.agg ⟨LeA.refl _,LeA.refl _,LeA.refl _,LeA.refl _,LeA.refl _,LeA.refl _,LeA.refl _,LeA.refl _,LeA.nils,LeA.refl _,LeA.nils,Con.yD (LeL.refl _),trivial⟩
theorem zl8:LeA (.agg [.int .u8 1,.str [],.str [],.str [],.int .u8 0,.str [],.str [],.i 0,.nils,.i 0,.nils,.nils]) Tm.zds.conD:=
 LeA.agg ⟨LeA.refl _,LeA.refl _,LeA.refl _,LeA.refl _,LeA.refl _,LeA.refl _,LeA.refl _,LeA.refl _,LeA.nils,LeA.refl _,LeA.nils,LeA.nils,trivial⟩
def zea(n:Nat):Ctr:=ctrP false (λl:List Con=>[Con.conS l]) (λl=>l.length<n/\l.length<2^40) (λ_ (_:Unit)=>True) (λl _=>((Tm.whole l).conD,[]))
noncomputable def GAlc(n:Nat):Nat->Option Ctr:=λf=>if f=54 then some (zea n) else none
theorem zqp{n:Nat}(ih:zd prog 54 (zea n)):∀ g c,GAlc n g=some c->zd prog g c:=okIf ih zo
theorem zmm(n:Nat)(ih:zd prog 54 (zea n)):zd prog 54 (zea (n+1)):=by
 refine zh' f54 λl hp O w0 Q hq=> ?_
 obtain⟨h1,h2⟩:=hp;replace hq:=hq () trivial;rw [Tm.xc] at hq;refine zc.n (zqp ih) [] (let v5:=Int.toNat ((l.length:Int) - Int.tdiv (l.length:Int) (2:Int));let v3:List AV:=[.int .u8 1,.str #[].toList,.str #[].toList,.str #[].toList,.int .u8 0,.str #[].toList,.str #[].toList,.i 0,.nils,.i 0,.nils,.nils];let v2:List AV:=[.int .u8 3,.str #[].toList,.str #[].toList,.str #[].toList,.int .u8 0,.str #[].toList,.str #[].toList,.i 0,.nils,.i 0,.nils,.osl 1 12 0 2];.D ((l.length:Int)=0) (.R [.agg v3] [.box v3]) (.D ((l.length:Int)=1) (.side ((0:Int)<=0/\(0:Int)<l.length) (.R [(Con.conD (l.getD 0 Con.nil))] [.box (Con.zl (l.getD 0 Con.nil))])) (.side ((2:Int)≠0/\inR .i64 (Int.tdiv (l.length:Int) (2:Int))) (.S ((l.length:Int) - Int.tdiv (l.length:Int) (2:Int)) (.side ((0:Int)<=l.length - Int.tdiv (l.length:Int) (2:Int)/\(l.length:Int) - Int.tdiv (l.length:Int) (2:Int)<=l.length - Int.tdiv (l.length:Int) (2:Int)/\(l.length:Int) - Int.tdiv (l.length:Int) (2:Int)<=l.length) (.side ((0:Int)<=l.length - Int.tdiv (l.length:Int) (2:Int)/\(l.length:Int) - Int.tdiv (l.length:Int) (2:Int)<=l.length) (.ex (λ(x:List Con)=>eqL [.sl v5 12 (zi (Con.conG l) 0)] [.sl x.length 12 (Con.conG x)]/\x.length<n/\x.length<1099511627776) λn_1=>let v1:=Tm.whole n_1;.A λn_2=>.ex (λ(x:List Con)=>eqL [.sl (l.length - Int.toNat ((l.length:Int) - Int.tdiv (l.length:Int) (2:Int))) 12 (zi (Con.conG l) v5)] [.sl x.length 12 (Con.conG x)]/\x.length<n/\x.length<1099511627776) λn=>let v4:=Tm.whole n;.A λn_3=>.R [.agg v2] [.box v2,.arr 2 12 (zj 12 [.int .u8 (Con.kind v1),.str (Con.src v1),.str (Con.dst v1),.str (Con.name v1),.int .u8 (Ex.kind (Con.x v1)),.str (Ex.rat (Con.x v1)),.str (Ex.name (Con.x v1)),.i (Ex.date (Con.x v1)),.sl (List.length (Ex.sub (Con.x v1))) 5 (Ex.exG (Ex.sub (Con.x v1))),.i (Con.date v1),.sl (List.length (Con.days v1)) 1 (Con.dayG (Con.days v1)),.sl (List.length (Con.sub v1)) 12 (Con.deep v1),.int .u8 (Con.kind v4),.str (Con.src v4),.str (Con.dst v4),.str (Con.name v4),.int .u8 (Ex.kind (Con.x v4)),.str (Ex.rat (Con.x v4)),.str (Ex.name (Con.x v4)),.i (Ex.date (Con.x v4)),.sl (List.length (Ex.sub (Con.x v4))) 5 (Ex.exG (Ex.sub (Con.x v4))),.i (Con.date v4),.sl (List.length (Con.days v4)) 1 (Con.dayG (Con.days v4)),.sl (List.length (Con.sub v4)) 12 (Con.deep v4)])]))))))) ?_;simp only [Tree.holds,zf];have e0:((l.length:Int)).tdiv 2=((l.length/2:Nat):Int):=rfl;have e1:(l.length:Int) - ((l.length/2:Nat):Int)=(((l.length+1)/2:Nat):Int):=by omega
 simp only [e0,e1,aD,inR,lo,hi];obtain⟨k,hk⟩:∃ k,(l.length+1)/2=k:=⟨_,rfl⟩;rw [hk] at hq ⊢;refine⟨λh=> ?_,λh=>⟨λg=> ?_,λg=> ?_⟩⟩
 ·have h:=aB h;rw [aP (by omega)] at hq;exact RetR.le0 hq (λh=>by cases h) zl8
 ·have h:=aC h;have g:=aB g;rw [aO (by omega),aP (by omega)] at hq;exact⟨by omega,λ_=>RetR.le0 hq (λh=>by cases h) (LeA.refl _)⟩
 ·have h:=aC h;have g:=aC g;rw [aO (by omega),aO (by omega)] at hq;have l1:(l.take k).length=k:=by rw [aH]; omega
  have l2:(l.drop k).length=l.length - k:=bV;refine⟨⟨by omega,by omega⟩,λ_=>⟨by omega,λ_=>⟨by omega,λ_=>⟨by omega,λ_=> ?_⟩⟩⟩⟩;refine⟨l.take k,⟨⟨⟨l1.symm,rfl,zg9 l k (by omega)⟩,trivial⟩,by omega,by omega⟩,⟨(),trivial⟩,λ_ _=> ?_⟩;refine⟨l.drop k,⟨⟨⟨l2.symm,rfl,zet l k⟩,trivial⟩,by omega,by omega⟩,⟨(),trivial⟩,λ_ _=> ?_⟩;exact RetR.le0 hq (λh=>by cases h) (zq3 _ _)
def X8:Ctr:=ctrP false (λl:List Con=>[Con.conS l]) (λl=>l.length<2^40) (λ_ (_:Unit)=>True) (λl _=>((Tm.whole l).conD,[]))
theorem zlg:zd prog 54 X8:=vJ List.length zmm
noncomputable def K145:=Go.Sx.aA f145
def zdq:Ctr:=ctr2 true (λx y=>(canon x).length<100000/\(canon y).length<100000) (λx y d=>d=x+y) (λ_ _ d=>(magS d,[]))
def SPl(x y:Nat)(o:List Nat)(c i:Nat):KV:=[(1,magS y),(5,.osl 0 1 0 o.length),(6,.int .u32 (c:Int)),(21,magS x),(22,.i ((canon x).length:Int)),(23,.i (i:Int))]
structure IPl(x y:Nat) where
 o:List Nat
 c:Nat
 i:Nat
 len:o.length=i
 le:i<=(canon x).length
 dg:dig o
 c1:c<=1
 eq:val o+B^i*c=val ((canon x).take i)+val ((canon y).take i)
theorem zt5{x y o c i d c':Nat}{l m:List Nat}(h:o+B^i*c=val (l.take i)+val (m.take i))(he:d+B*c'=l.getD i 0+m.getD i 0+c):o+B^i*d+B^(i+1)*c'=val (l.take (i+1))+val (m.take (i+1)):=by
 rw [zx,zx,Nat.pow_succ];have:=congrArg (B^i * ·) he;simp only [bN] at this;rw [bI];omega
theorem RetR.ztu{ctr:Ctr}{Q:AV×Heap->Prop}{h:Heap}{i m n:Nat}{k:IntKind}{l:List Nat}{G:Nat->Nat->AV}(hq:Q (natS k l,[]))(hb:h[i]?=some (.arr m 1 G))(hn:n<=m)(hl:l.length=n)(hG:∀ j,j<n->G j 0 = .int k ((l.getD j 0:Nat):Int)):RetR ctr 0 Q [.osl i 1 0 n] h:=by
 refine RetR.out0 hq (λ_=> ?_) ?_
 ·refine zk9 hb (by omega) λj o hj ho=> ?_
  have:o=0:=by omega
  subst this;simp only [zi,Nat.zero_add,hG j hj,q8]
 ·have e:exp2 h [] (resV [.osl i 1 0 n])=exp0 h [] (.osl i 1 0 n):=rfl;rw [e,Yr hb (by omega),ztr];simp only [eqA2,natS];refine⟨hl.symm,rfl,λj o hj ho=> ?_⟩;have:o=0:=by omega
  subst this;rw [hG j hj]; rfl
theorem Uq{O:Nat->Prop}{w0:World}{Q:AV×Heap->Prop}(x y:Nat)(hx:(canon x).length<100000)(hlen:(canon y).length<=(canon x).length)(hq:Q (magS (x+y),[]))(kv:KV)(h:Heap)(hle:LeK 0 f145.ntmps kv h (SPl x y [] 0 0) [.arr 0 1 (natG .u32 [])]) :
  zc prog f145 O 0 w0 [] (λ_ _ _=>False) (RetR zdq 0 Q) (.code (.loop (lps K145 0).1)::(lps K145 0).2) (mk f145.ntmps kv h):=by
 refine zc.loop (ι:=IPl x y) (λs=>SPl x y s.o s.c s.i) (λs=>[.arr s.o.length 1 (natG .u32 s.o)]) (λs=>(canon x).length - s.i) ⟨[],0,0,rfl,aI _,by simp [dig],by omega,by simp [val]⟩ 0 hle ?_ (by kernel_rfl);rintro⟨o,c,i,ho,hle,hd,hc,he⟩;subst ho;have hB:B=1000000000:=rfl;refine zc.n G1.h [1,5,6,21,22,23] (let v8:=natG .u32 o;let v7:=inR .i64 (o.length+1);let v4:=o.length+1;let v1:=Int.toNat o.length;let v6:=Int.tdiv ((↑(List.getD (canon x) v1 0):Int)+c) (1000000000:Int);let v5:=zj 1 [.int .u32 (Int.tmod ((↑(List.getD (canon x) v1 0):Int)+c) (1000000000:Int))];let v3:=Int.tdiv ((↑(List.getD (canon x) v1 0):Int)+c+(↑(List.getD (canon y) v1 0):Int)) (1000000000:Int);let v2:=zj 1 [.int .u32 (Int.tmod ((↑(List.getD (canon x) v1 0):Int)+c+(↑(List.getD (canon y) v1 0):Int)) (1000000000:Int))];.D ((o.length:Int)<((canon x).length:Int)) (.side ((0:Int)<=o.length/\(o.length:Int)<((canon x).length:Int)) (.side (inR .u32 ((↑(List.getD (canon x) v1 0):Int)+c)) (.D ((o.length:Int)<((canon y).length:Int)) (.side ((0:Int)<=o.length/\(o.length:Int)<((canon y).length:Int)) (.side (inR .u32 ((↑(List.getD (canon x) v1 0):Int)+c+(↑(List.getD (canon y) v1 0):Int))) (.side ((1000000000:Int)≠0/\inR .u32 v3) (.side ((1000000000:Int)≠0) (.side (0=0/\o.length<=o.length/\v4 *4<=140737488355328) (.side v7 (.leaf (.back 0 [(1,.sl (canon y).length 1 (natG .u32 (canon y))),(5,.osl 0 1 0 v4),(6,.int .u32 v3),(21,.sl (canon x).length 1 (natG .u32 (canon x))),(22,.i (canon x).length),(23,.i (o.length+1))] [.arr v4 1 (appG o.length v8 (zi v2 0)),.arr 1 1 v2])))))))) (.side ((1000000000:Int)≠0/\inR .u32 v6) (.side ((1000000000:Int)≠0) (.side (0=0/\o.length<=o.length/\v4 *4<=140737488355328) (.side v7 (.leaf (.back 0 [(1,.sl (canon y).length 1 (natG .u32 (canon y))),(5,.osl 0 1 0 v4),(6,.int .u32 v6),(21,.sl (canon x).length 1 (natG .u32 (canon x))),(22,.i (canon x).length),(23,.i (o.length+1))] [.arr v4 1 (appG o.length v8 (zi v5 0)),.arr 1 1 v5]))))))))) (.side (0=0/\o.length<=o.length/\v4 *4<=140737488355328) (.ex (λ(u:List Nat)=>u.length=o.length+1/\0+(o.length+1)<=o.length+1/\o.length+1<4611686018427387904/\eqG v4 1 (appG o.length v8 (zi (zj 1 [.int .u32 c]) 0)) (natG .u32 u)/\dig (List.take v4 (List.drop 0 u))) λn=>.all (λ(x:Nat)=>x=val (List.take v4 (List.drop 0 n))) λn=>.R [.osl 0 1 0 (canon n).length] [.arr v4 1 (appG o.length v8 (zi (zj 1 [.int .u32 c]) 0)),.arr 1 1 (zj 1 [.int .u32 c])]))) ?_;simp only [Tree.holds,zf,inR,lo,hi,aD,yS];have ha:=zV (zm x) o.length;have hb:=zV (zm y) o.length
 have hnext:∀ d c':Nat,d<B->c'<=1->o.length<(canon x).length->d+B*c'=(canon x).getD o.length 0+(canon y).getD o.length 0+c ->
   ∃ s:IPl x y,s.o=o++[d]/\s.c=c'/\s.i=o.length+1:=λd c' h1 h2 h3 h4=>
  ⟨⟨o++[d],c',o.length+1,by simp,h3,jv.2 ⟨hd,by simp [dig,h1]⟩,h2,by rw [Vb]; exact zt5 (x:=x) (y:=y) he h4⟩,rfl,rfl,rfl⟩
 have hdiv:∀ v:Nat,(v:Int).tdiv 1000000000=((v/B:Nat):Int)/\(v:Int).tmod 1000000000=((v%B:Nat):Int):=λv=>⟨rfl,rfl⟩
 have hq2:∀ v:Nat,v<2*B->v/B<=1/\v%B<B/\v%B+B*(v/B)=v:=λv hv=>⟨by have:=Nat.div_lt_of_lt_mul (show v<B*2 by omega); omega,Nat.mod_lt _ (by omega),Nat.mod_add_div _ _⟩
 refine⟨λhlt=> ?_,λhge=> ?_⟩
 ·have hlt:o.length<(canon x).length:=by have:=aB hlt; omega
  refine⟨by omega,λ_=>⟨by omega,λ_=>⟨λhb2=> ?_,λhb2=> ?_⟩⟩⟩
  ·have hb2:o.length<(canon y).length:=by have:=aB hb2; omega
   refine⟨by omega,λ_=>⟨by omega,λ_=> ?_⟩⟩;obtain⟨v,hv⟩:∃ v,(canon x).getD o.length 0+c+(canon y).getD o.length 0=v:=⟨_,rfl⟩;have ev:(((canon x).getD o.length 0:Nat):Int)+(c:Int)+(((canon y).getD o.length 0:Nat):Int)=(v:Int):=by omega
   rw [ev,(hdiv v).1,(hdiv v).2];obtain⟨g1,g2,g3⟩:=hq2 v (by omega);generalize v/B=q at g1 g3 ⊢;generalize v%B=r at g2 g3 ⊢;refine⟨⟨by decide,by omega,by omega⟩,λ_=>⟨by decide,λ_=>⟨⟨trivial,aJ _,by omega⟩,λ_=>⟨by omega,λ_=> ?_⟩⟩⟩⟩;obtain⟨s,h1,h2,h3⟩:=hnext r q g2 g1 hlt (by omega);rw [aP trivial];exact⟨s,by show _ - s.i<_; omega,by simp [SPl,h1,h2,h3,magS,natS,za],by rw [h1]; exact vZ rfl,by kernel_rfl,aI _⟩
  ·have hb2:(canon y).length<=o.length:=by have:=aC hb2; omega
   have hb0:(canon y).getD o.length 0=0:=by simp [List.getD,aZ hb2]
   obtain⟨v,hv⟩:∃ v,(canon x).getD o.length 0+c=v:=⟨_,rfl⟩;have ev:(((canon x).getD o.length 0:Nat):Int)+(c:Int)=(v:Int):=by omega
   rw [ev,(hdiv v).1,(hdiv v).2];obtain⟨g1,g2,g3⟩:=hq2 v (by omega);generalize v/B=q at g1 g3 ⊢;generalize v%B=r at g2 g3 ⊢;refine⟨⟨by decide,by omega,by omega⟩,λ_=>⟨by decide,λ_=>⟨⟨trivial,aJ _,by omega⟩,λ_=>⟨by omega,λ_=> ?_⟩⟩⟩⟩;obtain⟨s,h1,h2,h3⟩:=hnext r q g2 g1 hlt (by omega);rw [aP trivial];exact⟨s,by show _ - s.i<_; omega,by simp [SPl,h1,h2,h3,magS,natS,za],by rw [h1]; exact vZ rfl,by kernel_rfl,aI _⟩
 ·have hge:o.length=(canon x).length:=by have:=aC hge; omega
  have hv:val (o++[c])=x+y:=by
   rw [Vb];rw [hge,bD,bF hlen,zp,zp] at he;rw [hge]; exact he
  have hdo:dig (o++[c]):=jv.2 ⟨hd,by simp [dig]; omega⟩
  have hpush:eqG (o.length+1) 1 (appG o.length (natG .u32 o) (zi (zj 1 [.int .u32 (c:Int)]) 0)) (natG .u32 (o++[c])):=by
   have:=Zk (k:=.u32) (l:=o) (v:=(c:Int)) (by omega);simpa using this
  have hall:List.take (o.length+1) (List.drop 0 (o++[c]))=o++[c]:=by rw [List.drop_zero]; exact bF (by simp)
  refine⟨⟨trivial,aJ _,by omega⟩,λ_=>⟨o++[c],⟨by simp,by omega,by omega,hpush,by rw [hall]; exact hdo⟩,⟨_,rfl⟩,?_⟩⟩;intro X hX;have hX:X=x+y:=by rw [hX,hall,hv]
  subst hX;have htr:qU (o++[c])=canon (x+y):=by rw [zY hdo,hv]
  have htl:(canon (x+y)).length=tlen (o++[c]):=by rw [<- htr,qU,aH]; have:=qy (o++[c]); omega
  rw [htl];have hle2:=qy (o++[c]);have hln:(o++[c]).length=o.length+1:=by simp
  refine RetR.ztu (l:=canon (x+y)) (k:=.u32) hq rfl (by omega) htl λj hj=> ?_
  have:=hpush j 0 (by omega) (by omega);rw [this,<- htr];simp only [natG,qU];rw [zdm hj]
theorem zcy:zd prog 145 zdq:=by
 refine ZJ (fn:=f145) (c:=f145.body.getD .skip) rfl rfl rfl λx y hp O w0 Q hq=> ?_
 replace hq:=hq _ rfl;obtain⟨hx,hy⟩:=hp;refine zc.n G1.h [1,5,6,21,22,23] (let v1:=lps K145 0;.D (((canon x).length:Int)<((canon y).length:Int)) (.S ((canon y).length+1) (.side ((0:Int)<=0/\(0:Int)<=((canon y).length:Int)+(1:Int)/\inR .i64 ((canon y).length+1)/\Int.toNat ((canon y).length+1)*4<=140737488355328) (.leaf (.loop v1.1 v1.2 [(1,.sl (canon x).length 1 (natG .u32 (canon x))),(5,.osl 0 1 0 0),(6,.int .u32 0),(21,.sl (canon y).length 1 (natG .u32 (canon y))),(22,.i (canon y).length),(23,.i 0)] [.arr 0 1 (yB [.int .u32 0])])))) (.S ((canon x).length+1) (.side ((0:Int)<=0/\(0:Int)<=((canon x).length:Int)+(1:Int)/\inR .i64 ((canon x).length+1)/\Int.toNat ((canon x).length+1)*4<=140737488355328) (.leaf (.loop v1.1 v1.2 [(1,.sl (canon y).length 1 (natG .u32 (canon y))),(5,.osl 0 1 0 0),(6,.int .u32 0),(21,.sl (canon x).length 1 (natG .u32 (canon x))),(22,.i (canon x).length),(23,.i 0)] [.arr 0 1 (yB [.int .u32 0])]))))) ?_;simp only [Tree.holds,zf,inR,lo,hi];refine⟨λh=> ?_,λh=> ?_⟩
 ·have h:(canon x).length<(canon y).length:=by have:=aB h; omega
  refine⟨by omega,λ_=>⟨⟨by omega,by omega,by omega,by omega⟩,λ_=> ?_⟩⟩;rw [Nat.add_comm] at hq;exact Uq y x hy (by omega) hq _ _ ⟨by simp [SPl,magS,natS,za],by simp [eqG],by kernel_rfl,aI _⟩
 ·have h:(canon y).length<=(canon x).length:=by have:=aC h; omega
  refine⟨by omega,λ_=>⟨⟨by omega,by omega,by omega,by omega⟩,λ_=> ?_⟩⟩;exact Uq x y hx h hq _ _ ⟨by simp [SPl,magS,natS,za],by simp [eqG],by kernel_rfl,aI _⟩
def ze7:Ctr:=ctrP false (λp:Bool×Nat=>[.bool p.1,magS p.2]) (λ_=>True) (λp r=>r=(p.1&&decide (0<p.2),p.2)) (λ_ (r:Bool×Nat)=>(numV r.1 r.2,[]))
theorem Jo{x:Nat} : decide (0<((canon x).length:Int))=decide (0<x):=by
 by_cases h:x=0
 ·subst h; simp [canon]
 ·have h1:0<x:=bW h;have h2:(canon x).length≠0:=λh2=>h (ui.1 h2)
  rw [aX (by omega),aX h1]
theorem RetR.numV{ctr:Ctr}{Q:AV×Heap->Prop}{h:Heap}{b:Bool}{x:Nat}(hf:ctr.fresh=false)(hq:Q (numV b x,[])):RetR ctr 0 Q [.agg [.bool b,magS x]] h:=by
 refine RetR.out0 hq (λh=>by rw [hf] at h; cases h) ?_;simp [resV,exp2,exp1,exp0,ren0,frz1,eqA2,eqL1,eqA,eqL0,eqA0,Tryz.numV,magS,natS,za]
theorem zof:zd prog 144 ze7:=by
 refine zh' f144 λp hp O w0 Q hq=> ?_
 obtain⟨b,x⟩:=p;replace hq:=hq _ rfl;refine zc.n zD [] (let v1:List AV:=[.bool (bif b then decide ((0:Int)<((canon x).length:Int)) else false),.sl (canon x).length 1 (natG .u32 (canon x))];.R [.agg v1] [.box v1]) ?_;simp only [Tree.holds,zf];rw [Jo];have e:(bif b then decide (0<x) else false)=(b&&decide (0<x)):=by cases b<;>rfl
 rw [e];exact RetR.numV rfl hq
def sumC:Ctr:=ctrP false (λp:(Bool×Nat)×(Bool×Nat)=>[numV p.1.1 p.1.2,numV p.2.1 p.2.2]) (λp=>(canon p.1.2).length<100000/\(canon p.2.2).length<100000)
 (λp r=>r=((sumS p.1.1 p.1.2 p.2.1 p.2.2).1&&decide (0<(sumS p.1.1 p.1.2 p.2.1 p.2.2).2),(sumS p.1.1 p.1.2 p.2.1 p.2.2).2)) (λ_ (r:Bool×Nat)=>(numV r.1 r.2,[]))
noncomputable def GSu:=tb zof (tb zcy (tb uJ (tb Wn tz)))
abbrev q38(A:List AV)(x:Bool×Nat):Prop:=eqL A [.bool x.1,.sl (canon x.2).length 1 (natG .u32 (canon x.2))]/\True
abbrev q37(A:List AV)(x:Nat×Nat):Prop:=eqL A [.sl (canon x.1).length 1 (natG .u32 (canon x.1)),.sl (canon x.2).length 1 (natG .u32 (canon x.2))]/\List.length (canon x.1)<100000/\List.length (canon x.2)<100000
theorem ztl:zd prog 108 sumC:=by
 refine zh' f108 λp hp O w0 Q hq=> ?_
 obtain⟨⟨m,x⟩,⟨n,y⟩⟩:=p;obtain⟨h1,h2⟩:=hp;replace hq:=hq _ rfl;simp only at h1 h2 hq;refine zc.n GSu.h [] (let v8:=natG .u32 (canon x);let v7:=natG .u32 (canon y);let v3:List AV:=[.bool n,.sl (canon y).length 1 v7];let v2:List AV:=[.bool m,.sl (canon x).length 1 v8];let v1:=[AV.sl (canon x).length 1 v8,AV.sl (canon y).length 1 v7];.ite (m == n) (.ex (q37 v1) λn_1=>.all (λ(d:Nat)=>d=n_1.1+n_1.2) λn_2=>.ex (q38 [.bool m,.sl (canon n_2).length 1 (natG .u32 (canon n_2))]) λn_3=>.all (λ(r:Bool×Nat)=>r=(n_3.1&&decide (0<n_3.2),n_3.2)) λn_4=>let v4:List AV:=[.bool n_4.1,.sl (canon n_4.2).length 1 (natG .u32 (canon n_4.2))];.R [.agg v4] [.box v2,.box v3,.box v4]) (.ex (q11 v1) λn_1=>.all (λ(r:Int)=>r=cmp3 n_1.1 n_1.2) λn_2=>.D ((0:Int)<=n_2) (.ex (q12 v1) λn_3=>.all (λ(d:Nat)=>d=n_3.1 - n_3.2) λn_4=>.ex (q38 [.bool m,.sl (canon n_4).length 1 (natG .u32 (canon n_4))]) λn_5=>.all (λ(r:Bool×Nat)=>r=(n_5.1&&decide (0<n_5.2),n_5.2)) λn_6=>let v5:List AV:=[.bool n_6.1,.sl (canon n_6.2).length 1 (natG .u32 (canon n_6.2))];.R [.agg v5] [.box v2,.box v3,.box v5]) (.ex (q12 [.sl (canon y).length 1 v7,.sl (canon x).length 1 v8]) λn_3=>.all (λ(d:Nat)=>d=n_3.1 - n_3.2) λn_4=>.ex (q38 [.bool n,.sl (canon n_4).length 1 (natG .u32 (canon n_4))]) λn_5=>.all (λ(r:Bool×Nat)=>r=(n_5.1&&decide (0<n_5.2),n_5.2)) λn_6=>let v6:List AV:=[.bool n_6.1,.sl (canon n_6.2).length 1 (natG .u32 (canon n_6.2))];.R [.agg v6] [.box v2,.box v3,.box v6]))) ?_;simp only [q11,q12,q37,q38,Tree.holds,zf];have eL:∀ a b:Nat,eqL [.sl (canon a).length 1 (natG .u32 (canon a)),.sl (canon b).length 1 (natG .u32 (canon b))] [.sl (canon a).length 1 (natG .u32 (canon a)),.sl (canon b).length 1 (natG .u32 (canon b))]:=λa b=>⟨⟨rfl,rfl,za _ _ _⟩,⟨rfl,rfl,za _ _ _⟩,trivial⟩
 have eK:∀ (b:Bool) (a:Nat),eqL [.bool b,.sl (canon a).length 1 (natG .u32 (canon a))] [.bool b,.sl (canon a).length 1 (natG .u32 (canon a))]:=λb a=>⟨rfl,⟨rfl,rfl,za _ _ _⟩,trivial⟩
 have hcm:∀ v,v=cmp3 x y->(0<=v↔y<=x):=by
  rintro v rfl;unfold cmp3;split
  ·exact⟨λh=>by omega,λh=>by omega⟩
  ·split
   ·exact⟨λh=>by omega,λh=>by omega⟩
   ·exact⟨λh=>by omega,λh=>by omega⟩
 refine⟨λh=> ?_,λh=>⟨(x,y),⟨eL x y,by show(canon x).length<_; omega,by show(canon y).length<_; omega⟩,⟨_,rfl⟩,?_⟩⟩
 ·have h:m=n:=by simpa using h
  refine⟨(x,y),⟨eL x y,h1,h2⟩,⟨_,rfl⟩,?_⟩;rintro _ rfl;refine⟨(m,x+y),⟨eK m _,trivial⟩,⟨_,rfl⟩,?_⟩;rintro _ rfl;have e:sumS m x n y=(m,x+y):=aP h;rw [e] at hq;exact RetR.numV rfl hq
 ·have h:¬ m=n:=by simpa using h
  intro v hv;have hv:=hcm v hv;refine⟨λg=> ?_,λg=> ?_⟩
  ·have g:y<=x:=hv.1 (aB g);refine⟨(x,y),⟨eL x y,by show(canon x).length<_; omega,g⟩,⟨_,rfl⟩,?_⟩;rintro _ rfl;refine⟨(m,x - y),⟨eK m _,trivial⟩,⟨_,rfl⟩,?_⟩;rintro _ rfl;have e:sumS m x n y=(m,x - y):=by rw [sumS,aO h,aP g]
   rw [e] at hq;exact RetR.numV rfl hq
  ·have g:¬ y<=x:=λh3=>aC g (hv.2 h3)
   refine⟨(y,x),⟨eL y x,by show(canon y).length<_; omega,by show x<=y; omega⟩,⟨_,rfl⟩,?_⟩;rintro _ rfl;refine⟨(n,y - x),⟨eK n _,trivial⟩,⟨_,rfl⟩,?_⟩;rintro _ rfl;have e:sumS m x n y=(n,y - x):=by rw [sumS,aO h,aO g]
   rw [e] at hq;exact RetR.numV rfl hq
theorem qf{x n:Nat}(h:x<B^n)(hn:n<100000):(canon x).length<100000:=by have:=zE h; omega
theorem qS{s:L8}(h:errI s=0):numI s<B^112:=jY.2 (uT h)
theorem zcc{x y:Nat}(hx:x<B^112)(hy:y<B^112):x+y<B^113/\x*y<B^224:=by
 constructor
 ·have:B^113=B^112*B:=Nat.pow_succ B 112;have hB:B=1000000000:=rfl;generalize B^112=p at *
  rw [this,hB]; omega
 ·have:B^224=B^112*B^112:=by rw [<- Nat.pow_add]
  rw [this];exact Nat.mul_lt_mul_of_lt_of_lt hx hy
noncomputable def GAd:=tb Xh (tb ztl (tb WG (tb Yy (tb uJ tz))))
def addC:Ctr:=ctrP true (λp:L8×L8=>[.str p.1,.str p.2]) (λp=>p.1.length<2^62/\p.2.length<2^62) (λp r=>r=addI p.1 p.2) (λ_ r=>(.tup [.str r.1,.i r.2],[]))
def subC:Ctr:=ctrP true (λp:L8×L8=>[.str p.1,.str p.2]) (λp=>p.1.length<2^62/\p.2.length<2^62) (λp r=>r=subI p.1 p.2) (λ_ r=>(.tup [.str r.1,.i r.2],[]))
def mulC:Ctr:=ctrP true (λp:L8×L8=>[.str p.1,.str p.2]) (λp=>p.1.length<2^62/\p.2.length<2^62) (λp r=>r=mulI p.1 p.2) (λ_ r=>(.tup [.str r.1,.i r.2],[]))
def zqs:Ctr:=ctrP true (λp:L8×L8=>[.str p.1,.str p.2]) (λp=>p.1.length<2^62/\p.2.length<2^62) (λp r=>r=y8 p.1 p.2) (λ_ r=>(.tup [.i r.1,.i r.2],[]))
abbrev q39(A:List AV)(x:(Bool×Nat)×Bool×Nat):Prop:=eqL A [.agg [.bool x.1.1,.sl (canon x.1.2).length 1 (natG .u32 (canon x.1.2))],.agg [.bool x.2.1,.sl (canon x.2.2).length 1 (natG .u32 (canon x.2.2))]]/\List.length (canon x.1.2)<100000/\List.length (canon x.2.2)<100000
theorem zt2:zd prog 88 addC:=by
 refine zh' f88 λp hp O w0 Q hq=> ?_
 obtain⟨s,t⟩:=p;obtain⟨hs,ht⟩:=hp;replace hq:=hq _ rfl;simp only at hs ht hq;refine zc.n GAd.h [] (.ex (q17 [.str s,.str t]) λn=>.all (λ(r:Int×(Bool×Nat)×Bool×Nat)=>r=if zA n.1 n.2=0 then((0:Int),(negI n.1,numI n.1),negI n.2,numI n.2) else(zA n.1 n.2,(false,0),false,0)) λn=>let v4:=canon n.2.2.2;let v3:=canon n.2.1.2;let v1:List Blk:=[.box [.bool n.2.1.1,.sl v3.length 1 (natG .u32 v3)],.box [.bool n.2.2.1,.sl v4.length 1 (natG .u32 v4)]];.N (n.1=0) (.R [.str #[].toList,.i n.1] v1) (.ex (q39 [.agg [.bool n.2.1.1,.sl v3.length 1 (natG .u32 v3)],.agg [.bool n.2.2.1,.sl v4.length 1 (natG .u32 v4)]]) λn_1=>let v2:=sumS n_1.1.1 n_1.1.2 n_1.2.1 n_1.2.2;.all (λ(r:Bool×Nat)=>r=(Prod.fst v2 &&decide (0<Prod.snd v2),Prod.snd v2)) λn_2=>.ex (q19 [.agg [.bool n_2.1,.sl (canon n_2.2).length 1 (natG .u32 (canon n_2.2))]]) λn_3=>.all (λ(r:L8×Int)=>r=wr n_3.1 n_3.2) λn_4=>.R [.str n_4.1,.i n_4.2] v1)) ?_;simp only [q17,q19,q39,Tree.holds,zf];refine⟨(s,t),⟨by simp,by omega,by omega⟩,⟨_,rfl⟩,?_⟩;rintro _ rfl;simp only;by_cases he:zA s t=0
 ·obtain⟨e1,e2⟩:=zk.1 he;obtain⟨b1,b2⟩:=zcc (qS e1) (qS e2);have c1:=qf (qS e1) (by decide);have c2:=qf (qS e2) (by decide);simp only [aP he];refine⟨λh=>(by simp at h),λ_=> ?_⟩;refine⟨((negI s,numI s),(negI t,numI t)),⟨⟨⟨rfl,⟨rfl,rfl,za _ _ _⟩,trivial⟩,⟨rfl,⟨rfl,rfl,za _ _ _⟩,trivial⟩,trivial⟩,c1,c2⟩,⟨_,rfl⟩,?_⟩;rintro _ rfl;refine⟨((sumS (negI s) (numI s) (negI t) (numI t)).1&&decide (0<(sumS (negI s) (numI s) (negI t) (numI t)).2),(sumS (negI s) (numI s) (negI t) (numI t)).2),⟨⟨⟨rfl,⟨rfl,rfl,za _ _ _⟩,trivial⟩,trivial⟩,?_⟩,⟨_,rfl⟩,?_⟩
  ·have:=qf (Nat.lt_of_le_of_lt (zcr (negI s) (numI s) (negI t) (numI t)) b1) (by decide);show(canon (sumS (negI s) (numI s) (negI t) (numI t)).2).length<1000000;omega
  rintro _ rfl;rw [zcw];have e:addI s t=wr (sumS (negI s) (numI s) (negI t) (numI t)).1 (sumS (negI s) (numI s) (negI t) (numI t)).2:=aP he;rw [e] at hq;exact RetR.scal hq rfl (by simp [resV])
 ·simp only [aO he];refine⟨λ_=> ?_,λh=>(by simp [he] at h)⟩;have e:addI s t=([],zA s t):=aO he;rw [e] at hq;exact RetR.scal hq rfl (by simp [resV])
theorem zs8:zd prog 79 subC:=by
 refine zh' f79 λp hp O w0 Q hq=> ?_
 obtain⟨s,t⟩:=p;obtain⟨hs,ht⟩:=hp;replace hq:=hq _ rfl;simp only at hs ht hq;refine zc.n GAd.h [] (.ex (q17 [.str s,.str t]) λn=>.all (λ(r:Int×(Bool×Nat)×Bool×Nat)=>r=if zA n.1 n.2=0 then((0:Int),(negI n.1,numI n.1),negI n.2,numI n.2) else(zA n.1 n.2,(false,0),false,0)) λn=>let v5:=canon n.2.1.2;let v4:=canon n.2.2.2;let v3:List AV:=[.bool n.2.1.1,.sl v5.length 1 (natG .u32 v5)];let v1:=bif !Prod.fst n.2.2 then decide ((0:Int)<((canon n.2.2.2).length:Int)) else false;.N (n.1=0) (.R [.str #[].toList,.i n.1] [.box v3,.box [.bool n.2.2.1,.sl v4.length 1 (natG .u32 v4)]]) (.ex (q39 [.agg [.bool n.2.1.1,.sl v5.length 1 (natG .u32 v5)],.agg [.bool v1,.sl v4.length 1 (natG .u32 v4)]]) λn_1=>let v2:=sumS n_1.1.1 n_1.1.2 n_1.2.1 n_1.2.2;.all (λ(r:Bool×Nat)=>r=(Prod.fst v2 &&decide (0<Prod.snd v2),Prod.snd v2)) λn_2=>.ex (q19 [.agg [.bool n_2.1,.sl (canon n_2.2).length 1 (natG .u32 (canon n_2.2))]]) λn_3=>.all (λ(r:L8×Int)=>r=wr n_3.1 n_3.2) λn_4=>.R [.str n_4.1,.i n_4.2] [.box v3,.box [.bool v1,.sl v4.length 1 (natG .u32 v4)]])) ?_;simp only [q17,q19,q39,Tree.holds,zf];refine⟨(s,t),⟨by simp,by omega,by omega⟩,⟨_,rfl⟩,?_⟩;rintro _ rfl;simp only;by_cases he:zA s t=0
 ·obtain⟨e1,e2⟩:=zk.1 he;obtain⟨b1,b2⟩:=zcc (qS e1) (qS e2);have c1:=qf (qS e1) (by decide);have c2:=qf (qS e2) (by decide);simp only [aP he];refine⟨λh=>(by simp at h),λ_=> ?_⟩;have eN:(bif !negI t then decide (0<((canon (numI t)).length:Int)) else false)=(!negI t&&decide (0<numI t)):=by rw [Jo]; cases negI t<;>rfl
  rw [eN];refine⟨((negI s,numI s),(!negI t&&decide (0<numI t),numI t)),⟨⟨⟨rfl,⟨rfl,rfl,za _ _ _⟩,trivial⟩,⟨rfl,⟨rfl,rfl,za _ _ _⟩,trivial⟩,trivial⟩,c1,c2⟩,⟨_,rfl⟩,?_⟩;rintro _ rfl;simp only [zfg];refine⟨((sumS (negI s) (numI s) (!negI t) (numI t)).1&&decide (0<(sumS (negI s) (numI s) (!negI t) (numI t)).2),(sumS (negI s) (numI s) (!negI t) (numI t)).2),⟨⟨⟨rfl,⟨rfl,rfl,za _ _ _⟩,trivial⟩,trivial⟩,?_⟩,⟨_,rfl⟩,?_⟩
  ·have:=qf (Nat.lt_of_le_of_lt (zcr (negI s) (numI s) (!negI t) (numI t)) b1) (by decide);show(canon (sumS (negI s) (numI s) (!negI t) (numI t)).2).length<1000000;omega
  rintro _ rfl;rw [zcw];have e:subI s t=wr (sumS (negI s) (numI s) (!negI t) (numI t)).1 (sumS (negI s) (numI s) (!negI t) (numI t)).2:=aP he;rw [e] at hq;exact RetR.scal hq rfl (by simp [resV])
 ·simp only [aO he];refine⟨λ_=> ?_,λh=>(by simp [he] at h)⟩;have e:subI s t=([],zA s t):=aO he;rw [e] at hq;exact RetR.scal hq rfl (by simp [resV])
theorem zsi:zd prog 77 mulC:=by
 refine zh' f77 λp hp O w0 Q hq=> ?_
 obtain⟨s,t⟩:=p;obtain⟨hs,ht⟩:=hp;replace hq:=hq _ rfl;simp only at hs ht hq;refine zc.n GAd.h [] (.ex (q17 [.str s,.str t]) λn=>.all (λ(r:Int×(Bool×Nat)×Bool×Nat)=>r=if zA n.1 n.2=0 then((0:Int),(negI n.1,numI n.1),negI n.2,numI n.2) else(zA n.1 n.2,(false,0),false,0)) λn=>let v5:=canon n.2.1.2;let v4:=canon n.2.2.2;let v3:List AV:=[.bool n.2.2.1,.sl v4.length 1 (natG .u32 v4)];let v2:List AV:=[.bool n.2.1.1,.sl v5.length 1 (natG .u32 v5)];.N (n.1=0) (.R [.str #[].toList,.i n.1] [.box v2,.box v3]) (.ex (q11 [.sl v5.length 1 (natG .u32 v5),.sl v4.length 1 (natG .u32 v4)]) λn_1=>let v1:=List.length (canon n_1.1)+List.length (canon n_1.2);.all (λ(p:Nat)=>p=n_1.1*n_1.2) λn_2=>.ex (q19 [.agg [.bool !Prod.fst n.2.1 == n.2.2.1,.sl (canon n_2).length 1 (zi (natG .u32 (padN v1 n_2)) 0)]]) λn_3=>.all (λ(r:L8×Int)=>r=wr n_3.1 n_3.2) λn_4=>.R [.str n_4.1,.i n_4.2] [.box v2,.box v3,.arr v1 1 (natG .u32 (padN v1 n_2))])) ?_;simp only [q11,q17,q19,Tree.holds,zf];refine⟨(s,t),⟨by simp,by omega,by omega⟩,⟨_,rfl⟩,?_⟩;rintro _ rfl;simp only;by_cases he:zA s t=0
 ·obtain⟨e1,e2⟩:=zk.1 he;obtain⟨b1,b2⟩:=zcc (qS e1) (qS e2);have c1:=qf (qS e1) (by decide);have c2:=qf (qS e2) (by decide);simp only [aP he];refine⟨λh=>(by simp at h),λ_=> ?_⟩;refine⟨(numI s,numI t),⟨⟨⟨rfl,rfl,za _ _ _⟩,⟨rfl,rfl,za _ _ _⟩,trivial⟩,by show(canon (numI s)).length<1000000; omega,by show(canon (numI t)).length<1000000; omega⟩,⟨_,rfl⟩,?_⟩;rintro _ rfl;refine⟨(negI s != negI t,numI s*numI t),⟨⟨⟨rfl,⟨rfl,rfl,λj o hj ho=>by simp only [zi,natG,Nat.zero_add,padN,uU hj]⟩,trivial⟩,trivial⟩,?_⟩,⟨_,rfl⟩,?_⟩
  ·have:=qf b2 (by decide);show(canon (numI s*numI t)).length<1000000;omega
  rintro _ rfl;have e:mulI s t=wr (negI s != negI t) (numI s*numI t):=aP he;rw [e] at hq;exact RetR.scal hq rfl (by simp [resV])
 ·simp only [aO he];refine⟨λ_=> ?_,λh=>(by simp [he] at h)⟩;have e:mulI s t=([],zA s t):=aO he;rw [e] at hq;exact RetR.scal hq rfl (by simp [resV])
theorem zq9:zd prog 80 zqs:=by
 refine zh' f80 λp hp O w0 Q hq=> ?_
 obtain⟨s,t⟩:=p;obtain⟨hs,ht⟩:=hp;replace hq:=hq _ rfl;simp only at hs ht hq;refine zc.n GAd.h [] (.ex (q17 [.str s,.str t]) λn=>.all (λ(r:Int×(Bool×Nat)×Bool×Nat)=>r=if zA n.1 n.2=0 then((0:Int),(negI n.1,numI n.1),negI n.2,numI n.2) else(zA n.1 n.2,(false,0),false,0)) λn=>let v3:=canon n.2.2.2;let v2:=canon n.2.1.2;let v1:List Blk:=[.box [.bool n.2.1.1,.sl v2.length 1 (natG .u32 v2)],.box [.bool n.2.2.1,.sl v3.length 1 (natG .u32 v3)]];.N (n.1=0) (.R [.i 0,.i n.1] v1) (.ite (bif n.2.1.1 then !Prod.fst n.2.2 else false) (.R [.i (-1:Int),.i 0] v1) (.ite (bif n.2.2.1 then !Prod.fst n.2.1 else false) (.R [.i 1,.i 0] v1) (.ite n.2.1.1 (.ex (q11 [.sl v3.length 1 (natG .u32 v3),.sl v2.length 1 (natG .u32 v2)]) λn_1=>.all (λ(r:Int)=>r=cmp3 n_1.1 n_1.2) λn_2=>.R [.i n_2,.i 0] v1) (.ex (q11 [.sl v2.length 1 (natG .u32 v2),.sl v3.length 1 (natG .u32 v3)]) λn_1=>.all (λ(r:Int)=>r=cmp3 n_1.1 n_1.2) λn_2=>.R [.i n_2,.i 0] v1))))) ?_;simp only [q11,q17,Tree.holds,zf];refine⟨(s,t),⟨by simp,by omega,by omega⟩,⟨_,rfl⟩,?_⟩;rintro _ rfl;simp only;by_cases he:zA s t=0
 ·obtain⟨e1,e2⟩:=zk.1 he;obtain⟨b1,b2⟩:=zcc (qS e1) (qS e2);have c1:=qf (qS e1) (by decide);have c2:=qf (qS e2) (by decide);simp only [aP he];refine⟨λh=>(by simp at h),λ_=> ?_⟩;have e:y8 s t=(cmpZ (negI s) (numI s) (negI t) (numI t),0):=aP he;rw [e] at hq;have ec:∀ a b:Nat,cmp3 a b=cmpN a b:=λ_ _=>rfl
  simp only [cmpZ] at hq;have f1:fits (numI s):=by show(canon (numI s)).length<1000000; omega
  have f2:fits (numI t):=by show(canon (numI t)).length<1000000; omega
  refine⟨λh=> ?_,λh1=>⟨λh=> ?_,λh2=>⟨λh=>⟨(numI t,numI s),⟨⟨⟨rfl,rfl,za _ _ _⟩,⟨rfl,rfl,za _ _ _⟩,trivial⟩,f2,f1⟩,⟨_,rfl⟩,?_⟩,λh=>⟨(numI s,numI t),⟨⟨⟨rfl,rfl,za _ _ _⟩,⟨rfl,rfl,za _ _ _⟩,trivial⟩,f1,f2⟩,⟨_,rfl⟩,?_⟩⟩⟩⟩
  ·cases hm:negI s<;>cases hn:negI t<;>rw [hm,hn] at h hq<;>first | (cases h; done) | exact RetR.scal hq rfl (by simp [resV])
  ·cases hm:negI s<;>cases hn:negI t<;>rw [hm,hn] at h h1 hq<;>first | (cases h; done) | (cases h1; done) | exact RetR.scal hq rfl (by simp [resV])
  ·rintro _ rfl;rw [ec];cases hm:negI s<;>cases hn:negI t<;>rw [hm,hn] at h1 h2 hq<;>rw [hm] at h<;>first | (cases h; done) | (cases h1; done) | (cases h2; done) | exact RetR.scal hq rfl (by simp [resV])
  ·rintro _ rfl;rw [ec];cases hm:negI s<;>cases hn:negI t<;>rw [hm,hn] at h1 h2 hq<;>rw [hm] at h<;>first | (cases h; done) | (cases h1; done) | (cases h2; done) | exact RetR.scal hq rfl (by simp [resV])
 ·simp only [aO he];refine⟨λ_=> ?_,λh=>(by simp [he] at h)⟩;have e:y8 s t=(0,zA s t):=aO he;rw [e] at hq;exact RetR.scal hq rfl (by simp [resV])
def dmC:Ctr:=ctrP true (λp:L8×L8=>[.str p.1,.str p.2]) (λp=>p.1.length<2^62/\p.2.length<2^62) (λp r=>r=dmI p.1 p.2) (λ_ r=>(.tup [.str r.1,.str r.2.1,.i r.2.2],[]))
noncomputable def GDm:=tb Xh (tb VR (tb zcy (tb Wn (tb WG tz))))
theorem zg8:zd prog 143 dmC:=by
 refine zh' f143 λp hp O w0 Q hq=> ?_
 obtain⟨s,t⟩:=p;obtain⟨hs,ht⟩:=hp;replace hq:=hq _ rfl;simp only at hs ht hq;refine zc.n GDm.h [] (.ex (q17 [.str s,.str t]) λn=>.all (λ(r:Int×(Bool×Nat)×Bool×Nat)=>r=if zA n.1 n.2=0 then((0:Int),(negI n.1,numI n.1),negI n.2,numI n.2) else(zA n.1 n.2,(false,0),false,0)) λn=>let v5:=canon n.2.1.2;let v4:List AV:=[.bool n.2.1.1,.sl v5.length 1 (natG .u32 v5)];let v3:=canon n.2.2.2;let v6:List AV:=[.bool n.2.2.1,.sl v3.length 1 (natG .u32 v3)];let v2:List Blk:=[.box v4,.box v6,.arr 1 1 (zj 1 [.int .u32 1])];let v1:List Blk:=[.box v4,.box v6];.N (n.1=0) (.R [.str #[].toList,.str #[].toList,.i n.1] v1) (.D (((canon n.2.2.2).length:Int)=0) (.R [.str #[].toList,.str #[].toList,.i 16] v1) (.ex (q18 [.sl v5.length 1 (natG .u32 v5),.sl v3.length 1 (natG .u32 v3)]) λn_1=>.all (λ(r:Nat×Nat)=>r=(n_1.1/n_1.2,n_1.1%n_1.2)) λn_2=>let v8:=canon n_2.2;let v7:=canon n_2.1;.ite (bif n.2.1.1 then decide ((0:Int)<((canon n_2.2).length:Int)) else false) (.ex (q37 [.sl v7.length 1 (natG .u32 v7),.sl 1 1 (zi (zj 1 [.int .u32 1]) 0)]) λn_3=>.all (λ(d:Nat)=>d=n_3.1+n_3.2) λn_4=>.ex (q12 [.sl v3.length 1 (natG .u32 v3),.sl v8.length 1 (natG .u32 v8)]) λn_5=>.all (λ(d:Nat)=>d=n_5.1 - n_5.2) λn_6=>.ex (q19 [.agg [.bool !Prod.fst n.2.1 == n.2.2.1,.sl (canon n_4).length 1 (natG .u32 (canon n_4))]]) λn_7=>.all (λ(r:L8×Int)=>r=wr n_7.1 n_7.2) λn_8=>.N (n_8.2=0) (.R [.str #[].toList,.str #[].toList,.i n_8.2] v2) (.ex (q19 [.agg [.bool false,.sl (canon n_6).length 1 (natG .u32 (canon n_6))]]) λn_9=>.all (λ(r:L8×Int)=>r=wr n_9.1 n_9.2) λn_10=>.R [.str n_8.1,.str n_10.1,.i 0] v2)) (.ex (q19 [.agg [.bool !Prod.fst n.2.1 == n.2.2.1,.sl v7.length 1 (natG .u32 v7)]]) λn_3=>.all (λ(r:L8×Int)=>r=wr n_3.1 n_3.2) λn_4=>.N (n_4.2=0) (.R [.str #[].toList,.str #[].toList,.i n_4.2] v1) (.ex (q19 [.agg [.bool false,.sl v8.length 1 (natG .u32 v8)]]) λn_5=>.all (λ(r:L8×Int)=>r=wr n_5.1 n_5.2) λn_6=>.R [.str n_4.1,.str n_6.1,.i 0] v1))))) ?_;simp only [q12,q17,q18,q19,q37,Tree.holds,zf];refine⟨(s,t),⟨by simp,by omega,by omega⟩,⟨_,rfl⟩,?_⟩;rintro _ rfl;simp only;by_cases he:zA s t=0
 ·obtain⟨e1,e2⟩:=zk.1 he;have c1:=qf (qS e1) (by decide);have c2:=qf (qS e2) (by decide);simp only [aP he];refine⟨λh=>(by simp at h),λ_=> ?_⟩;refine⟨λh0=> ?_,λh0=> ?_⟩
  ·have h0:numI t=0:=ui.1 (by have:=aB h0; omega);have e:dmI s t=([],[],16):=by rw [dmI,aO (by rw [he]; decide),aP h0]
   rw [e] at hq;exact RetR.scal hq rfl (by simp [resV])
  have h0:numI t≠0:=λh=>aC h0 (by rw [ui.2 h]; rfl)
  have e:dmI s t=((wr (negI s != negI t) (dmQ s t)).1,(wr false (dmM s t)).1,0):=by rw [dmI,aO (by rw [he]; decide),aO h0]
  rw [e] at hq;have rq:=zk0 e1 h0;have rm:=zme (s:=s) e2 h0;have eL:∀ a b:Nat,eqL [.sl (canon a).length 1 (natG .u32 (canon a)),.sl (canon b).length 1 (natG .u32 (canon b))] [.sl (canon a).length 1 (natG .u32 (canon a)),.sl (canon b).length 1 (natG .u32 (canon b))]:=λa b=>⟨⟨rfl,rfl,za _ _ _⟩,⟨rfl,rfl,za _ _ _⟩,trivial⟩
  have eV:∀ (b:Bool) (a:Nat),eqL [.agg [.bool b,.sl (canon a).length 1 (natG .u32 (canon a))]] [.agg [.bool b,.sl (canon a).length 1 (natG .u32 (canon a))]]:=λb a=>⟨⟨rfl,⟨rfl,rfl,za _ _ _⟩,trivial⟩,trivial⟩
  have big:∀ {a:Nat},room a->(canon a).length<1000000:=λ{a} h=>by
   obtain⟨h3,h4,_⟩:=QA (kR (neg:=false) h);have:=qf (qS h3) (by decide);rw [h4] at this; omega
  refine⟨(numI s,numI t),⟨eL _ _,c1,c2,bW h0⟩,⟨_,rfl⟩,?_⟩;rintro _ rfl;simp only;rw [Jo];have hmod:=Nat.mod_lt (numI s) (bW h0);refine⟨λhc=> ?_,λhc=> ?_⟩
  ·have hc:negI s=true/\0<numI s%numI t:=by
    cases hn:negI s with
    | false=>rw [hn] at hc; cases hc
    | true=>rw [hn] at hc; exact⟨rfl,aB hc⟩
   have eQ:dmQ s t=numI s/numI t+1:=aP hc;have eM:dmM s t=numI t - numI s%numI t:=aP hc;rw [eQ,eM] at hq;rw [eQ] at rq;rw [eM] at rm
   have hone:canon 1=[1]:=by
    rw [jf (by decide)];exact congrArg (1 :: ·) zS
   have rdiv:=room_le (Nat.div_le_self (numI s) (numI t)) (jM e1)
   have hdl:(canon (numI s/numI t)).length<100000:=by
    have:=qf (Nat.lt_of_le_of_lt (Nat.div_le_self (numI s) (numI t)) (qS e1)) (by decide);exact this
   refine⟨(numI s/numI t,1),⟨⟨⟨rfl,rfl,za _ _ _⟩,⟨by rw [hone]; rfl,rfl,?_⟩,trivial⟩,hdl,by show(canon 1).length<100000; rw [hone]; decide⟩,⟨_,rfl⟩,?_⟩
   ·intro j o hj ho;have:j=0:=by omega
    subst this;have:o=0:=by omega
    subst this;show AV.int .u32 1 = .int .u32 (((canon 1).getD 0 0:Nat):Int);rw [hone]; rfl
   rintro _ rfl;refine⟨(numI t,numI s%numI t),⟨eL _ _,by show(canon (numI t)).length<1000000; omega,by show numI s%numI t<=numI t; omega⟩,⟨_,rfl⟩,?_⟩;rintro _ rfl;refine⟨(negI s != negI t,numI s/numI t+1),⟨eV _ _,big rq⟩,⟨_,rfl⟩,?_⟩;rintro _ rfl;have hz:=kR (neg:=(negI s != negI t)) rq;refine⟨λh=>by simp [hz] at h,λ_=>⟨(false,numI t - numI s%numI t),⟨eV _ _,big rm⟩,⟨_,rfl⟩,?_⟩⟩;rintro _ rfl;exact RetR.scal hq rfl (by simp [resV])
  ·have hc:¬ (negI s=true/\0<numI s%numI t):=by
    rintro⟨g1,g2⟩;rw [g1,aX g2] at hc;cases hc
   have eQ:dmQ s t=numI s/numI t:=aO hc;have eM:dmM s t=numI s%numI t:=aO hc;rw [eQ,eM] at hq;rw [eQ] at rq;rw [eM] at rm;refine⟨(negI s != negI t,numI s/numI t),⟨eV _ _,big rq⟩,⟨_,rfl⟩,?_⟩;rintro _ rfl;have hz:=kR (neg:=(negI s != negI t)) rq;refine⟨λh=>by simp [hz] at h,λ_=>⟨(false,numI s%numI t),⟨eV _ _,big rm⟩,⟨_,rfl⟩,?_⟩⟩;rintro _ rfl;exact RetR.scal hq rfl (by simp [resV])
 ·simp only [aO he];refine⟨λ_=> ?_,λh=>(by simp [he] at h)⟩;have e:dmI s t=([],[],zA s t):=aP he;rw [e] at hq;exact RetR.scal hq rfl (by simp [resV])
def UU:Ctr:=ctrP true (λs:L8=>[.str s]) (λs=>s.length<2^62) (λs r=>r=if errR s=0 then(numR s,denR s,0) else([],[],errR s)) (λ_ (r:L8×L8×Int)=>(.tup [.str r.1,.str r.2.1,.i r.2.2],[]))
noncomputable def GPa:=tb xg (tb Yx tz)
theorem zl7:zd prog 102 UU:=by
 refine zh' f102 λs hs O w0 Q hq=> ?_
 replace hq:=hq _ rfl;refine zc.n GPa.h [] (.ex (q15 [.str s]) λn=>.all (λ(r:Int)=>r=errR n) λn=>.N (n=0) (.R [.str #[].toList,.str #[].toList,.i n] []) (.ex (q15 [.str s]) λn=>.all (λ(r:L8×L8×Bool)=>r=cutR n) λn=>.ite (!Prod.snd n.2) (.R [.str n.1,.str #[(49:UInt8)].toList,.i 0] []) (.R [.str n.1,.str n.2.1,.i 0] []))) ?_;simp only [q15,Tree.holds,zf];refine⟨s,⟨by simp,hs⟩,⟨_,rfl⟩,?_⟩;rintro _ rfl;refine⟨λh=> ?_,λh=>⟨s,⟨by simp,hs⟩,⟨_,rfl⟩,?_⟩⟩
 ·have h:errR s≠0:=by simpa using h
  rw [aO h] at hq;exact RetR.scal hq rfl (by simp [resV])
 ·have h:errR s=0:=by simpa using h
  rw [aP h] at hq;rintro _ rfl;refine⟨λg=> ?_,λg=> ?_⟩
  ·have e:denR s=[49]:=by unfold denR; rw [aO (by simpa using g)]
   rw [e] at hq;exact RetR.scal hq rfl (by simp [resV,numR])
  ·have e:denR s=(cutR s).2.1:=by unfold denR; rw [aP (by simpa using g)]
   rw [e] at hq;exact RetR.scal hq rfl (by simp [resV,numR])
def zdr:Ctr:=ctrP true (λp:L8×L8=>[.str p.1,.str p.2]) (λp=>p.1.length<2^62/\p.2.length<2^62) (λp r=>r=w6 p.1 p.2) (λ_ r=>(.tup [.str r.1,.i r.2],[]))
noncomputable def GMk:=tb zkj (tb zg8 tz)
theorem znx:zd prog 107 zdr:=by
 refine zh' f107 λp hp O w0 Q hq=> ?_
 obtain⟨s,t⟩:=p;obtain⟨hs,ht⟩:=hp;replace hq:=hq _ rfl;simp only at hs ht hq;refine zc.n GMk.h [] (.ex (q17 [.str s,.str t]) λn=>.all (λ(r:L8×Int)=>r=gcdR n.1 n.2) λn=>.N (n.2=0) (.R [.str #[].toList,.i n.2] []) (.D (t=#[(48:UInt8)].toList) (.R [.str #[].toList,.i 16] []) (.side ((0:Int)<=0/\(0:Int)<t.length) (.D ((↑(UInt8.toNat (t.getD 0 (0:UInt8))):Int)=45) (.side (1+n.1.length<=9223372036854775807) (.ex (q17 [.str s,.str (#[(45:UInt8)].toList++n.1)]) λn_1=>.all (λ(r:L8×L8×Int)=>r=dmI n_1.1 n_1.2) λn_2=>.ex (q17 [.str t,.str (#[(45:UInt8)].toList++n.1)]) λn=>.all (λ(r:L8×L8×Int)=>r=dmI n.1 n.2) λn=>.D (n.1=#[(49:UInt8)].toList) (.R [.str n_2.1,.i 0] []) (.side (n_2.1.length+1<=9223372036854775807) (.side (List.length (n_2.1++#[(47:UInt8)].toList)+n.1.length<=9223372036854775807) (.R [.str (n_2.1++#[(47:UInt8)].toList++n.1),.i 0] []))))) (.ex (q17 [.str s,.str n.1]) λn_1=>.all (λ(r:L8×L8×Int)=>r=dmI n_1.1 n_1.2) λn_2=>.ex (q17 [.str t,.str n.1]) λn=>.all (λ(r:L8×L8×Int)=>r=dmI n.1 n.2) λn=>.D (n.1=#[(49:UInt8)].toList) (.R [.str n_2.1,.i 0] []) (.side (n_2.1.length+1<=9223372036854775807) (.side (List.length (n_2.1++#[(47:UInt8)].toList)+n.1.length<=9223372036854775807) (.R [.str (n_2.1++#[(47:UInt8)].toList++n.1),.i 0] [])))))))) ?_;simp only [q17,Tree.holds,zf,inR,lo,hi,aD];refine⟨(s,t),⟨by simp,by omega,by omega⟩,⟨_,rfl⟩,?_⟩;rintro _ rfl;by_cases he:zA s t=0
 ·obtain⟨e1,e2⟩:=zk.1 he;have eg:gcdR s t=wr false (Nat.gcd (numI s) (numI t)):=aP he;by_cases h0:numI t=0
  ·have ht0:t=[48]:=(ye e2).2 h0;have hg0:Nat.gcd (numI s) (numI t)=numI s:=by rw [h0,Nat.gcd_zero_right]
   have hz:(gcdR s t).2=0:=by rw [eg,hg0]; exact kR (jM e1)
   have e:w6 s t=([],16):=by rw [w6,aO (by rw [he]; decide),aP h0]
   rw [e] at hq;refine⟨λh=>(by simp [hz] at h),λ_=>⟨λ_=>RetR.scal hq rfl (by simp [resV]),λh=>(by simp [ht0] at h)⟩⟩
  ·obtain⟨g0,gr⟩:=Un (s:=s) e2 h0;have hz:(gcdR s t).2=0:=by rw [eg]; exact kR gr
   have ht0:t≠[48]:=λh=>h0 ((ye e2).1 h)
   have htn:t≠[]:=by rintro rfl; simp [U3] at e2
   have hneg:=VE htn;have e:w6 s t=(Ke (negI s != negI t) (numI s) (numI t),0):=by rw [w6,aO (by rw [he]; decide),aO h0]
   rw [e,Ke] at hq;have ds:Nat.gcd (numI s) (numI t) ∣ numI s:=Nat.gcd_dvd_left _ _;have dt:Nat.gcd (numI s) (numI t) ∣ numI t:=Nat.gcd_dvd_right _ _;generalize hgg:Nat.gcd (numI s) (numI t)=g at *
   have rt:=room_le (Nat.div_le_self (numI t) g) (jM e2);have l1:=ky false g;have l2:=ky true g
   have fin:∀ b:Bool,b=negI t->∀ (z w:L8×L8×Int),z=dmI s (wr b g).1->w=dmI t (wr b g).1 ->
     (decide (w.1=[49])=true->RetR zdr 0 Q [.str z.1,.i 0] [])/\(decide (w.1=[49])=false->z.1.length+1<=9223372036854775807/\(z.1.length+1<=9223372036854775807->(z.1++[47]).length+w.1.length<=9223372036854775807/\((z.1++[47]).length+w.1.length<=9223372036854775807->RetR zdr 0 Q [.str (z.1++[47]++w.1),.i 0] []))):=by
    rintro b rfl z w rfl rfl;rw [YL e1 g0 gr ds,YL e2 g0 gr dt];simp only;have:(negI t != negI t)=false:=by simp
    rw [this];have k1:=ky (negI s != negI t) (numI s/g);have k2:=ky false (numI t/g);refine⟨λh=> ?_,λh=>⟨by omega,λ_=>⟨by simp; omega,λ_=> ?_⟩⟩⟩
    ·have h1:=(zbd rt).1 (aB h);rw [aP h1] at hq;exact RetR.scal hq rfl (by simp [resV])
    ·have h1:¬ numI t/g=1:=λh1=>aC h ((zbd rt).2 h1)
     rw [aO h1] at hq;exact RetR.scal hq rfl (by simp [resV])
   rw [eg] at hz ⊢;refine⟨λh=>(by simp [hz] at h),λ_=>⟨λh=>absurd (aB h) ht0,λ_=>⟨⟨by omega,by have:=List.length_pos_iff.2 htn; omega⟩,λ_=>⟨λhb=>⟨by omega,λ_=> ?_⟩,λhb=> ?_⟩⟩⟩⟩
   ·have hn:negI t=true:=by
     rw [hneg,aK];exact Uh (aB hb)
    rw [zk6 g0 gr];refine⟨(s,(wr true g).1),⟨by simp,by show s.length<_; omega,by show(wr true g).1.length<_; omega⟩,⟨_,rfl⟩,?_⟩;intro z hz;refine⟨(t,(wr true g).1),⟨by simp,by show t.length<_; omega,by show(wr true g).1.length<_; omega⟩,⟨_,rfl⟩,?_⟩;intro w hw;exact fin true hn.symm z w hz hw
   ·have hn:negI t=false:=by
     rw [hneg,aV];intro h;apply aC hb;rw [h]; rfl
    refine⟨(s,(wr false g).1),⟨by simp,by show s.length<_; omega,by show(wr false g).1.length<_; omega⟩,⟨_,rfl⟩,?_⟩;intro z hz;refine⟨(t,(wr false g).1),⟨by simp,by show t.length<_; omega,by show(wr false g).1.length<_; omega⟩,⟨_,rfl⟩,?_⟩;intro w hw;exact fin false hn.symm z w hz hw
 ·have eg:gcdR s t=([],zA s t):=aO he;have e:w6 s t=([],zA s t):=aP he;rw [e] at hq;rw [eg];exact⟨λ_=>RetR.scal hq rfl (by simp [resV]),λh=>by simp [he] at h⟩
noncomputable def K75:=Go.Sx.aA f75
structure Pr where
 n:L8
 m:L8
 d:L8
 c:L8
 e:Int
def Pr.box(p:Pr):Blk:=.box [.str p.n,.str p.m,.str p.d,.str p.c,.i p.e]
def Pr.err(p:Pr)(e:Int):Pr:=⟨p.n,p.m,p.d,p.c,e⟩
inductive QOp where
 | add | sub | mul
def QOp.fn:QOp->Nat
 | .add=>88
 | .sub=>79
 | .mul=>77
def QOp.has:QOp->Prop
 | .sub=>True
 | _=>True
def QOp.op:QOp->L8->L8->L8×Int
 | .add=>addI
 | .sub=>subI
 | .mul=>mulI
def ju(a b:L8):Pr:=if errR a≠0 then⟨[],[],[],[],errR a⟩ else if errR b≠0 then⟨numR a,[],denR a,[],errR b⟩ else⟨numR a,numR b,denR a,denR b,0⟩
def zn5:Ctr:=ctrT false false (λp:L8×L8=>[.str p.1,.str p.2]) (λ_=>[]) (λp=>p.1.length<2^62/\p.2.length<2^62) (λp r=>r=ju p.1 p.2) (λ_ (r:Pr)=>(.ptr 0 0,[r.box]))
def zjg:Ctr:=ctrT false false (λp:Pr×QOp=>[.ptr 0 0,.fn p.2.fn [] []]) (λp=>[p.1.box]) (λ_=>True) (λ_ (_:Unit)=>True) (λp _=>(.fn 103 [] [.ptr 1 0,.ptr 2 0],[p.1.box,.box [.ptr 0 0],.box [.fn p.2.fn [] []]]))
structure KX where
 p:Pr
 o:QOp
 x:L8
 y:L8
def UP:Ctr:=ctrT false false (λk:KX=>[.str k.x,.str k.y,.ptr 0 0,.ptr 2 0]) (λk=>[.box [.ptr 1 0],k.p.box,.box [.fn k.o.fn [] []]]) (λk=>k.x.length<2^62/\k.y.length<2^62/\k.o.has) (λk r=>r=if k.p.e≠0 then([],k.p.e) else k.o.op k.x k.y)
 (λk (r:L8×Int)=>(.str r.1,[.box [.ptr 1 0],(k.p.err r.2).box,.box [.fn k.o.fn [] []]]))
def zhh:Ctr:=ctrT false false (λk:Pr×L8×L8=>[.ptr 0 0,.str k.2.1,.str k.2.2]) (λk=>[k.1.box]) (λk=>k.2.1.length<2^62/\k.2.2.length<2^62) (λk r=>r=if k.1.e≠0 then([],k.1.e) else w6 k.2.1 k.2.2)
 (λk (r:L8×Int)=>(.tup [.str r.1,.i r.2],[k.1.box]))
theorem zn8:zd prog 76 zjg:=by
 refine zH (fn:=f76) (c:=f76.body.getD .skip) rfl rfl rfl (λh=>by cases h) λp hp O w0 I0 Q hl0 hq=> ?_
 obtain⟨p,o⟩:=p;replace hq:=hq () trivial;refine zc.n zD [] (.R [.fn 103 [] [.ptr 1 0,.ptr 2 0]] [.box [.str p.n,.str p.m,.str p.d,.str p.c,.i p.e],.box [.ptr 0 0],.box [.fn (QOp.fn o) [] []]]) ?_;simp only [Tree.holds,zf];refine RetR.keep [0,1,2] rfl rfl (by show ∀ j,j<1->_; decide) rfl hq ?_ ?_ rfl
 ·rfl
 ·exact⟨⟨rfl,rfl,rfl,rfl,⟨rfl,rfl⟩,trivial⟩,⟨⟨rfl,rfl⟩,trivial⟩,⟨rfl,trivial⟩,trivial⟩
noncomputable def GK1:=tb zt2 (tb zs8 (tb zsi tz))
theorem zil:zd prog 103 UP:=by
 refine zH (fn:=f103) (c:=f103.body.getD .skip) rfl rfl rfl (λh=>by cases h) λk hk O w0 I0 Q hl0 hq=> ?_
 obtain⟨⟨n,m,d,c,e⟩,o,x,y⟩:=k;obtain⟨h1,h2,h3⟩:=hk;replace hq:=hq _ rfl;simp only at h1 h2 h3 hq
 have fin:∀ r:L8×Int,(if e≠0 then([],e) else o.op x y)=r->RetR UP 3 Q [.str r.1] [.box [.ptr 1 0],.box [.str n,.str m,.str d,.str c,.i r.2],.box [.fn o.fn [] []]]:=by
  rintro r rfl;refine RetR.keep [0,1,2] rfl rfl (by show ∀ j,j<3->_; decide) rfl hq ?_ ?_ rfl
  ·rfl
  ·exact⟨⟨⟨rfl,rfl⟩,trivial⟩,⟨rfl,rfl,rfl,rfl,⟨rfl,rfl⟩,trivial⟩,⟨rfl,trivial⟩,trivial⟩
 cases o with
 | add=>
  refine zc.n GK1.h [] (.N (e=0) (.R [.str #[].toList] [.box [.ptr 1 0],.box [.str n,.str m,.str d,.str c,.i e],.box [.fn 88 [] []]]) (.ex (q17 [.str x,.str y]) λn_1=>.all (λ(r:L8×Int)=>r=addI n_1.1 n_1.2) λn_2=>.R [.str n_2.1] [.box [.ptr 1 0],.box [.str n,.str m,.str d,.str c,.i n_2.2],.box [.fn 88 [] []]])) ?_;simp only [q17,Tree.holds,zf];refine⟨λh=> ?_,λh=>⟨(x,y),⟨by simp,h1,h2⟩,⟨_,rfl⟩,?_⟩⟩
  ·have h:e≠0:=by simpa using h
   exact fin ([],e) (aP h)
  ·have h:e=0:=by simpa using h
   rintro _ rfl;exact fin (addI x y) (aO (by simp [h]))
 | sub=>
  refine zc.n GK1.h [] (.N (e=0) (.R [.str #[].toList] [.box [.ptr 1 0],.box [.str n,.str m,.str d,.str c,.i e],.box [.fn 79 [] []]]) (.ex (q17 [.str x,.str y]) λn_1=>.all (λ(r:L8×Int)=>r=subI n_1.1 n_1.2) λn_2=>.R [.str n_2.1] [.box [.ptr 1 0],.box [.str n,.str m,.str d,.str c,.i n_2.2],.box [.fn 79 [] []]])) ?_;simp only [q17,Tree.holds,zf];refine⟨λh=> ?_,λh=>⟨(x,y),⟨by simp,h1,h2⟩,⟨_,rfl⟩,?_⟩⟩
  ·have h:e≠0:=by simpa using h
   exact fin ([],e) (aP h)
  ·have h:e=0:=by simpa using h
   rintro _ rfl;exact fin (subI x y) (aO (by simp [h]))
 | mul=>
  refine zc.n GK1.h [] (.N (e=0) (.R [.str #[].toList] [.box [.ptr 1 0],.box [.str n,.str m,.str d,.str c,.i e],.box [.fn 77 [] []]]) (.ex (q17 [.str x,.str y]) λn_1=>.all (λ(r:L8×Int)=>r=mulI n_1.1 n_1.2) λn_2=>.R [.str n_2.1] [.box [.ptr 1 0],.box [.str n,.str m,.str d,.str c,.i n_2.2],.box [.fn 77 [] []]])) ?_;simp only [q17,Tree.holds,zf];refine⟨λh=> ?_,λh=>⟨(x,y),⟨by simp,h1,h2⟩,⟨_,rfl⟩,?_⟩⟩
  ·have h:e≠0:=by simpa using h
   exact fin ([],e) (aP h)
  ·have h:e=0:=by simpa using h
   rintro _ rfl;exact fin (mulI x y) (aO (by simp [h]))
noncomputable def GMd:=tb znx tz
theorem zoe:zd prog 78 zhh:=by
 refine zH (fn:=f78) (c:=f78.body.getD .skip) rfl rfl rfl (λh=>by cases h) λk hk O w0 I0 Q hl0 hq=> ?_
 obtain⟨⟨n,m,d,c,e⟩,x,y⟩:=k;obtain⟨h1,h2⟩:=hk;replace hq:=hq _ rfl;simp only at h1 h2 hq
 have fin:∀ r:L8×Int,(if e≠0 then([],e) else w6 x y)=r->RetR zhh 1 Q [.str r.1,.i r.2] [.box [.str n,.str m,.str d,.str c,.i e]]:=by
  rintro r rfl;refine RetR.keep [0] rfl rfl (by show ∀ j,j<1->_; decide) rfl hq ?_ ?_ rfl
  ·exact⟨rfl,⟨rfl,rfl⟩,trivial⟩
  ·exact⟨⟨rfl,rfl,rfl,rfl,⟨rfl,rfl⟩,trivial⟩,trivial⟩
 refine zc.n GMd.h [] (let v1:List Blk:=[.box [.str n,.str m,.str d,.str c,.i e]];.N (e=0) (.R [.str #[].toList,.i e] v1) (.ex (q17 [.str x,.str y]) λn_1=>.all (λ(r:L8×Int)=>r=w6 n_1.1 n_1.2) λn_2=>.R [.str n_2.1,.i n_2.2] v1)) ?_;simp only [q17,Tree.holds,zf];refine⟨λh=> ?_,λh=>⟨(x,y),⟨by simp,h1,h2⟩,⟨_,rfl⟩,?_⟩⟩
 ·have h:e≠0:=by simpa using h
  exact fin ([],e) (aP h)
 ·have h:e=0:=by simpa using h
  rintro _ rfl;exact fin (w6 x y) (aO (by simp [h]))
def Pst(a b:L8):Nat->Pr
 | 0=>⟨[],[],[],[],0⟩
 | 1=>if errR a≠0 then⟨[],[],[],[],errR a⟩ else⟨numR a,[],denR a,[],0⟩
 | _=>ju a b
def SBq(a b:L8)(i:Nat):KV:=[(5,.ptr 0 0),(12,.agg [.str a,.str b]),(13,.i (i:Int))]
noncomputable def GBq:=tb zl7 tz
theorem zi4:zd prog 75 zn5:=by
 refine zH (fn:=f75) (c:=f75.body.getD .skip) rfl rfl rfl (λh=>by cases h) λp hp O w0 I0 Q hl0 hq=> ?_
 obtain rfl:I0=[]:=aU.1 hl0;obtain⟨a,b⟩:=p;obtain⟨h1,h2⟩:=hp;replace hq:=hq _ rfl;simp only at h1 h2 hq;refine zc.n GBq.h [5,12,13] (.leaf (.loop (lps K75 0).1 (lps K75 0).2 [(5,.ptr 0 0),(12,.agg [.str a,.str b]),(13,.i 0)] [.box [.str #[].toList,.str #[].toList,.str #[].toList,.str #[].toList,.i 0]])) ?_;simp only [Tree.holds,zf];refine zc.loop (ι:={i:Nat // i<=2}) (λi=>SBq a b i.1) (λi=>[(Pst a b i.1).box]) (λi=>2 - i.1) ⟨0,aI _⟩ 0 ?_ ?_ (by kernel_rfl)
 ·exact⟨by simp [SBq],by simp [Pst,Pr.box],by kernel_rfl,aI _⟩
 rintro⟨i,hil⟩
 match i,hil with
 | 0,_=>
  refine zc.n GBq.h [5,12,13] (let v2:List Blk:=[.box [.str [],.str [],.str [],.str [],.i 0]];let v1:List (Nat×AV):=[(5,.ptr 0 0),(12,.agg [.str a,.str b]),(13,.i 1)];.ite true (.side ((0:Int)<=0/\(0:Int)<2/\1<=List.length [AV.str a,AV.str b]) (.ite true (.ex (q15 [.str a]) λn=>.all (λ(r:L8×L8×Int)=>r=if errR n=0 then(numR n,denR n,(0:Int)) else([],[],errR n)) λn=>.side ((0:Int)<=0/\(0:Int)<2) (.side ((0:Int)<=0/\(0:Int)<2) (.S 1 (.leaf (.back 0 v1 [.box [.str n.1,.str [],.str n.2.1,.str [],.i n.2.2]]))))) (.S 1 (.leaf (.back 0 v1 v2))))) (.R [.ptr 0 0] v2)) ?_;simp only [q15,Tree.holds,zf,inR,lo,hi,aD];refine⟨λ_=>⟨by simp,λ_=>⟨λ_=>⟨a,⟨by simp,h1⟩,⟨_,rfl⟩,?_⟩,λh=>(by cases h)⟩⟩,λh=>(by cases h)⟩;intro r hr;refine⟨by decide,λ_=>⟨by decide,λ_=>⟨by decide,λ_=> ?_⟩⟩⟩;rw [aP trivial];refine⟨⟨1,by decide⟩,by decide,by simp [SBq],?_,by kernel_rfl,aI _⟩
  have e:Pst a b 1=⟨r.1,[],r.2.1,[],r.2.2⟩:=by
   rw [hr];by_cases h:errR a=0
   ·simp [Pst,h]
   ·simp [Pst,h]
  show eqH _ [(Pst a b 1).box];rw [e];simp [Pr.box]
 | 1,_=>
  obtain⟨⟨n,m,d,c,e⟩,hp⟩:∃ p,Pst a b 1=p:=⟨_,rfl⟩;simp only [hp];refine zc.n GBq.h [5,12,13] (let v2:List Blk:=[.box [.str n,.str m,.str d,.str c,.i e]];let v1:List (Nat×AV):=[(5,.ptr 0 0),(12,.agg [.str a,.str b]),(13,.i 2)];.ite true (.side ((0:Int)<=1/\(1:Int)<2/\2<=List.length [AV.str a,AV.str b]) (.D (e=0) (.ex (q15 [.str b]) λn_1=>.all (λ(r:L8×L8×Int)=>r=if errR n_1=0 then(numR n_1,denR n_1,(0:Int)) else([],[],errR n_1)) λn_2=>.side ((0:Int)<=1/\(1:Int)<2) (.side ((0:Int)<=1/\(1:Int)<2) (.S 2 (.leaf (.back 0 v1 [.box [.str n,.str n_2.1,.str d,.str n_2.2.1,.i n_2.2.2]]))))) (.S 2 (.leaf (.back 0 v1 v2))))) (.R [.ptr 0 0] v2)) ?_;simp only [q15,Tree.holds,zf,inR,lo,hi,aD];refine⟨λ_=>⟨by simp,λ_=>⟨λh=>⟨b,⟨by simp,h2⟩,⟨_,rfl⟩,?_⟩,λh=>⟨by decide,λ_=> ?_⟩⟩⟩,λh=>(by cases h)⟩
  ·have h:e=0:=by simpa using h
   intro r hr;refine⟨by decide,λ_=>⟨by decide,λ_=>⟨by decide,λ_=> ?_⟩⟩⟩;rw [aP trivial];refine⟨⟨2,by decide⟩,by decide,by simp [SBq],?_,by kernel_rfl,aI _⟩
   have e2:Pst a b 2=⟨n,r.1,d,r.2.1,r.2.2⟩:=by
    rw [hr];by_cases ha:errR a=0
    ·simp only [Pst,ha] at hp;simp at hp;obtain⟨rfl,rfl,rfl,rfl,_⟩:=hp;by_cases hb:errR b=0
     ·simp [Pst,ju,ha,hb]
     ·simp [Pst,ju,ha,hb]
    ·simp only [Pst] at hp;rw [aP ha] at hp;cases hp;exact absurd h ha
   show eqH _ [(Pst a b 2).box];rw [e2];simp [Pr.box]
  ·have h:e≠0:=by simpa using h
   rw [aP trivial];refine⟨⟨2,by decide⟩,by decide,by simp [SBq],?_,by kernel_rfl,aI _⟩
   have e2:Pst a b 2=⟨n,m,d,c,e⟩:=by
    by_cases ha:errR a=0
    ·simp only [Pst,ha] at hp;simp at hp;exact absurd hp.2.2.2.2.symm h
    ·rw [<- hp];simp only [Pst,ju];rw [aP ha,aP ha]
   show eqH _ [(Pst a b 2).box];rw [e2];simp [Pr.box]
 | 2,_=>
  obtain⟨⟨n,m,d,c,e⟩,hp⟩:∃ p,Pst a b 2=p:=⟨_,rfl⟩;simp only [hp];refine zc.n GBq.h [5,12,13] (.ite false (.side ((0:Int)<=2/\(2:Int)<2/\3<=List.length [AV.str a,AV.str b]) .fail) (.R [.ptr 0 0] [.box [.str n,.str m,.str d,.str c,.i e]])) ?_;simp only [Tree.holds,zf,inR,lo,hi,aD];refine⟨λh=>(by cases h),λ_=> ?_⟩;have hp:ju a b=⟨n,m,d,c,e⟩:=hp;rw [hp] at hq;refine RetR.out1 0 (by show 0<1; decide) hq (λh=>by cases h) ?_ ?_
  ·exact⟨rfl,rfl⟩
  ·exact⟨rfl,rfl,rfl,rfl,⟨rfl,rfl⟩,trivial⟩
theorem kL(a b:L8):((ju a b).e≠0/\jc a b=(ju a b).e)\/((ju a b).e=0/\errR a=0/\errR b=0/\(ju a b).n=numR a/\(ju a b).m=numR b/\(ju a b).d=denR a/\(ju a b).c=denR b):=by
 unfold ju;by_cases ha:errR a=0
 ·rw [aO (by rw [ha]; simp)];by_cases hb:errR b=0
  ·rw [aO (by rw [hb]; simp)];exact .inr ⟨rfl,ha,hb,rfl,rfl,rfl,rfl⟩
  ·rw [aP hb];exact .inl ⟨hb,by unfold jc; rw [aP ha]⟩
 ·rw [aP ha];exact .inl ⟨ha,by unfold jc; rw [aO ha]⟩
theorem yO(a b:L8):(ju a b).n.length<=a.length/\(ju a b).m.length<=b.length/\(ju a b).d.length<=a.length+1/\(ju a b).c.length<=b.length+1:=by
 have h1:=YV a;have h2:=YV b;have h3:=YS a;have h4:=YS b;unfold ju;split
 ·simp
 ·split
  ·simp; omega
  ·simp only; omega
theorem kx_l(x y:L8):eqL [.str x,.str y,.ptr 0 0,.ptr 2 0] [.str x,.str y,.ptr 0 0,.ptr 2 0]:=⟨rfl,rfl,⟨rfl,rfl⟩,⟨rfl,rfl⟩,trivial⟩
theorem kx_b(p:Pr):eqH [.box [.str p.n,.str p.m,.str p.d,.str p.c,.i p.e]] [.box [.str p.n,.str p.m,.str p.d,.str p.c,.i p.e]]:=⟨⟨rfl,rfl,rfl,rfl,⟨rfl,rfl⟩,trivial⟩,trivial⟩
theorem kx_h(p:Pr)(f:Nat):eqH [.box [.ptr 1 0],.box [.str p.n,.str p.m,.str p.d,.str p.c,.i p.e],.box [.fn f [] []]] [.box [.ptr 1 0],.box [.str p.n,.str p.m,.str p.d,.str p.c,.i p.e],.box [.fn f [] []]]:=⟨⟨⟨rfl,rfl⟩,trivial⟩,(kx_b p).1,⟨rfl,trivial⟩,trivial⟩
theorem kx_k(f:Nat):eqL [.ptr 0 0,.fn f [] []] [.ptr 0 0,.fn f [] []]:=⟨⟨rfl,rfl⟩,rfl,trivial⟩
theorem kx_m(x y:L8):eqL [.ptr 0 0,.str x,.str y] [.ptr 0 0,.str x,.str y]:=⟨⟨rfl,rfl⟩,rfl,rfl,trivial⟩
theorem qA(p:Pr)(o:QOp)(x y:L8){r:L8×Int}(h:r=if p.e≠0 then([],p.e) else o.op x y):r.1.length<=1001:=by
 rw [h];refine zq1 ?_;cases o
 ·exact zjl x y
 ·exact zji x y
 ·exact zmx x y
noncomputable def GQA:=tb zi4 (tb zn8 (tb zil (tb zoe (tb zq9 tz))))
def YC:Ctr:=ctrP true (λp:L8×L8=>[.str p.1,.str p.2]) (λp=>p.1.length<2^61/\p.2.length<2^61) (λp r=>r=addR p.1 p.2) (λ_ r=>(.tup [.str r.1,.i r.2],[]))
def U5:Ctr:=ctrP true (λp:L8×L8=>[.str p.1,.str p.2]) (λp=>p.1.length<2^61/\p.2.length<2^61) (λp r=>r=subR p.1 p.2) (λ_ r=>(.tup [.str r.1,.i r.2],[]))
def Ki:Ctr:=ctrP true (λp:L8×L8=>[.str p.1,.str p.2]) (λp=>p.1.length<2^61/\p.2.length<2^61) (λp r=>r=mulR p.1 p.2) (λ_ r=>(.tup [.str r.1,.i r.2],[]))
def zr7:Ctr:=ctrP true (λp:L8×L8=>[.str p.1,.str p.2]) (λp=>p.1.length<2^61/\p.2.length<2^61) (λp r=>r=cmpR p.1 p.2) (λ_ r=>(.tup [.i r.1,.i r.2],[]))
abbrev q43(A:List AV)(H:Heap)(x:Pr×L8×L8):Prop:=eqL A [.ptr 0 0,.str x.2.1,.str x.2.2]/\eqH H [.box [.str x.1.n,.str x.1.m,.str x.1.d,.str x.1.c,.i x.1.e]]/\1=1/\x.2.1.length<4611686018427387904/\x.2.2.length<4611686018427387904
abbrev q42(A:List AV)(H:Heap)(x:KX):Prop:=eqL A [.str x.x,.str x.y,.ptr 0 0,.ptr 2 0]/\eqH H [.box [.ptr 1 0],.box [.str x.p.n,.str x.p.m,.str x.p.d,.str x.p.c,.i x.p.e],.box [.fn (QOp.fn x.o) [] []]]/\3=3/\x.x.length<4611686018427387904/\x.y.length<4611686018427387904/\QOp.has x.o
abbrev q41(A:List AV)(H:Heap)(x:Pr×QOp):Prop:=eqL A [.ptr 0 0,.fn (QOp.fn x.2) [] []]/\eqH H [.box [.str x.1.n,.str x.1.m,.str x.1.d,.str x.1.c,.i x.1.e]]/\1=1/\True
abbrev q40(A:List AV)(H:Heap)(x:L8×L8):Prop:=eqL A [.str x.1,.str x.2]/\eqH H []/\0=0/\x.1.length<4611686018427387904/\x.2.length<4611686018427387904
theorem QT:zd prog 57 YC:=by
 refine zh' f57 λp hp O w0 Q hq=> ?_
 obtain⟨a,b⟩:=p;obtain⟨h1,h2⟩:=hp;replace hq:=hq _ rfl;simp only at h1 h2 hq;refine zc.n GQA.h [] (let v5:=[AV.ptr 1 0];.ex (q40 [.str a,.str b] []) λn=>.all (λ(r:Pr)=>r=ju n.1 n.2) λn=>.ex (q41 [.ptr 0 0,.fn 77 [] []] [.box [.str n.n,.str n.m,.str n.d,.str n.c,.i n.e]]) λn=>.A λn_1=>.ex (q41 [.ptr 0 0,.fn 88 [] []] [.box [.str n.1.n,.str n.1.m,.str n.1.d,.str n.1.c,.i n.1.e]]) λn_2=>.A λn_3=>.side ((0:Int)<=0/\(0:Int)<2) (.side ((0:Int)<=1/\(1:Int)<2) (.side ((0:Int)<=1/\(1:Int)<2) (.side ((0:Int)<=0/\(0:Int)<2) (.side ((0:Int)<=0/\(0:Int)<2) (.side ((0:Int)<=1/\(1:Int)<2) (.ex (q42 [.str n_2.1.n,.str n_2.1.c,.ptr 0 0,.ptr 2 0] [.box v5,.box [.str n_2.1.n,.str n_2.1.m,.str n_2.1.d,.str n_2.1.c,.i n_2.1.e],.box [.fn (QOp.fn n.2) [] []]]) λn=>.all (λ(r:L8×Int)=>r=if Pr.e n.p≠0 then([],Pr.e n.p) else QOp.op n.o n.x n.y) λn_4=>let v1:=Pr.err n.p n_4.2;.side (Pr.c v1=Pr.c n_2.1) (.side (Pr.d v1=Pr.d n_2.1) (.side (Pr.d v1=Pr.d n_2.1) (.side (Pr.m v1=Pr.m n_2.1) (.ex (q42 [.str n_2.1.m,.str n_2.1.d,.ptr 0 0,.ptr 2 0] [.box v5,.box [.str v1.n,.str v1.m,.str v1.d,.str v1.c,.i v1.e],.box [.fn (QOp.fn n.o) [] []]]) λn=>.all (λ(r:L8×Int)=>r=if Pr.e n.p≠0 then([],Pr.e n.p) else QOp.op n.o n.x n.y) λn_5=>let v3:=Pr.err n.p n_5.2;.side (Pr.c v3=Pr.c n_2.1) (.side (Pr.d v3=Pr.d n_2.1) (.ex (q42 [.str n_4.1,.str n_5.1,.ptr 0 0,.ptr 2 0] [.box v5,.box [.str v3.n,.str v3.m,.str v3.d,.str v3.c,.i v3.e],.box [.fn (QOp.fn n_2.2) [] []]]) λn_6=>.all (λ(r:L8×Int)=>r=if Pr.e n_6.p≠0 then([],Pr.e n_6.p) else QOp.op n_6.o n_6.x n_6.y) λn_7=>let v2:=Pr.err n_6.p n_7.2;.side (Pr.c v2=Pr.c n_2.1) (.side (Pr.d v2=Pr.d n_2.1) (.ex (q42 [.str n_2.1.d,.str n_2.1.c,.ptr 0 0,.ptr 2 0] [.box v5,.box [.str v2.n,.str v2.m,.str v2.d,.str v2.c,.i v2.e],.box [.fn (QOp.fn n.o) [] []]]) λn=>.all (λ(r:L8×Int)=>r=if Pr.e n.p≠0 then([],Pr.e n.p) else QOp.op n.o n.x n.y) λn_8=>let v4:=Pr.err n.p n_8.2;.ex (q43 [.ptr 0 0,.str n_7.1,.str n_8.1] [.box [.str v4.n,.str v4.m,.str v4.d,.str v4.c,.i v4.e]]) λn_9=>.all (λ(r:L8×Int)=>r=if Pr.e n_9.1≠0 then([],Pr.e n_9.1) else w6 n_9.2.1 n_9.2.2) λn_10=>.R [.str n_10.1,.i n_10.2] [.box [.str n_9.1.n,.str n_9.1.m,.str n_9.1.d,.str n_9.1.c,.i n_9.1.e],.box [.ptr 0 0],.box [.fn (QOp.fn n.o) [] []],.box [.ptr 0 0],.box [.fn (QOp.fn n_6.o) [] []]]))))))))))))))) ?_;simp only [q40,q41,q42,q43,Tree.holds,zf];refine⟨(a,b),⟨⟨rfl,rfl,trivial⟩,trivial,by trivial,by show a.length<_; omega,by show b.length<_; omega⟩,⟨_,rfl⟩,?_⟩;intro p hp;have hc:=kL a b;obtain⟨l1,l2,l3,l4⟩:=yO a b;rw [<- hp] at hc l1 l2 l3 l4;refine⟨(p,.mul),⟨kx_k _,kx_b p,by trivial,trivial⟩,⟨(),trivial⟩,?_⟩;intro _ _;refine⟨(p,.add),⟨kx_k _,kx_b p,by trivial,trivial⟩,⟨(),trivial⟩,?_⟩;intro _ _
 iterate 6 refine⟨by decide,λ_=> ?_⟩
 refine⟨⟨p,.mul,p.n,p.c⟩,⟨kx_l _ _,kx_h (p) _,by trivial,by show(p.n).length<_; omega,by show(p.c).length<_; omega,by trivial⟩,⟨_,rfl⟩,?_⟩;intro r1 hr1;have kr1:=qA _ _ _ _ hr1
 iterate 4 refine⟨rfl,λ_=> ?_⟩
 refine⟨⟨p.err r1.2,.mul,p.m,p.d⟩,⟨kx_l _ _,kx_h (p.err r1.2) _,by trivial,by show(p.m).length<_; omega,by show(p.d).length<_; omega,by trivial⟩,⟨_,rfl⟩,?_⟩;intro r2 hr2;have kr2:=qA _ _ _ _ hr2
 iterate 2 refine⟨rfl,λ_=> ?_⟩
 refine⟨⟨(p.err r1.2).err r2.2,.add,r1.1,r2.1⟩,⟨kx_l _ _,kx_h ((p.err r1.2).err r2.2) _,by trivial,by show(r1.1).length<_; omega,by show(r2.1).length<_; omega,by trivial⟩,⟨_,rfl⟩,?_⟩;intro r3 hr3;have kr3:=qA _ _ _ _ hr3
 iterate 2 refine⟨rfl,λ_=> ?_⟩
 refine⟨⟨((p.err r1.2).err r2.2).err r3.2,.mul,p.d,p.c⟩,⟨kx_l _ _,kx_h (((p.err r1.2).err r2.2).err r3.2) _,by trivial,by show(p.d).length<_; omega,by show(p.c).length<_; omega,by trivial⟩,⟨_,rfl⟩,?_⟩;intro r4 hr4;have kr4:=qA _ _ _ _ hr4;refine⟨((((p.err r1.2).err r2.2).err r3.2).err r4.2,r3.1,r4.1),⟨kx_m _ _,kx_b _,by trivial,by show(r3.1).length<_; omega,by show(r4.1).length<_; omega⟩,⟨_,rfl⟩,?_⟩;intro r5 hr5;have hfin:=QF hc (λ{s t} =>zi6 (s:=s) (t:=t)) hr1 hr2 hr3 hr4 hr5;have e:r5=addR a b:=hfin;rw [<- e] at hq;exact RetR.scal hq rfl (by simp [resV])
theorem Jh:zd prog 43 U5:=by
 refine zh' f43 λp hp O w0 Q hq=> ?_
 obtain⟨a,b⟩:=p;obtain⟨h1,h2⟩:=hp;replace hq:=hq _ rfl;simp only at h1 h2 hq;refine zc.n GQA.h [] (let v5:=[AV.ptr 1 0];.ex (q40 [.str a,.str b] []) λn=>.all (λ(r:Pr)=>r=ju n.1 n.2) λn=>.ex (q41 [.ptr 0 0,.fn 77 [] []] [.box [.str n.n,.str n.m,.str n.d,.str n.c,.i n.e]]) λn=>.A λn_1=>.ex (q41 [.ptr 0 0,.fn 79 [] []] [.box [.str n.1.n,.str n.1.m,.str n.1.d,.str n.1.c,.i n.1.e]]) λn_2=>.A λn_3=>.side ((0:Int)<=0/\(0:Int)<2) (.side ((0:Int)<=1/\(1:Int)<2) (.side ((0:Int)<=1/\(1:Int)<2) (.side ((0:Int)<=0/\(0:Int)<2) (.side ((0:Int)<=0/\(0:Int)<2) (.side ((0:Int)<=1/\(1:Int)<2) (.ex (q42 [.str n_2.1.n,.str n_2.1.c,.ptr 0 0,.ptr 2 0] [.box v5,.box [.str n_2.1.n,.str n_2.1.m,.str n_2.1.d,.str n_2.1.c,.i n_2.1.e],.box [.fn (QOp.fn n.2) [] []]]) λn=>.all (λ(r:L8×Int)=>r=if Pr.e n.p≠0 then([],Pr.e n.p) else QOp.op n.o n.x n.y) λn_4=>let v1:=Pr.err n.p n_4.2;.side (Pr.c v1=Pr.c n_2.1) (.side (Pr.d v1=Pr.d n_2.1) (.side (Pr.d v1=Pr.d n_2.1) (.side (Pr.m v1=Pr.m n_2.1) (.ex (q42 [.str n_2.1.m,.str n_2.1.d,.ptr 0 0,.ptr 2 0] [.box v5,.box [.str v1.n,.str v1.m,.str v1.d,.str v1.c,.i v1.e],.box [.fn (QOp.fn n.o) [] []]]) λn=>.all (λ(r:L8×Int)=>r=if Pr.e n.p≠0 then([],Pr.e n.p) else QOp.op n.o n.x n.y) λn_5=>let v3:=Pr.err n.p n_5.2;.side (Pr.c v3=Pr.c n_2.1) (.side (Pr.d v3=Pr.d n_2.1) (.ex (q42 [.str n_4.1,.str n_5.1,.ptr 0 0,.ptr 2 0] [.box v5,.box [.str v3.n,.str v3.m,.str v3.d,.str v3.c,.i v3.e],.box [.fn (QOp.fn n_2.2) [] []]]) λn_6=>.all (λ(r:L8×Int)=>r=if Pr.e n_6.p≠0 then([],Pr.e n_6.p) else QOp.op n_6.o n_6.x n_6.y) λn_7=>let v2:=Pr.err n_6.p n_7.2;.side (Pr.c v2=Pr.c n_2.1) (.side (Pr.d v2=Pr.d n_2.1) (.ex (q42 [.str n_2.1.d,.str n_2.1.c,.ptr 0 0,.ptr 2 0] [.box v5,.box [.str v2.n,.str v2.m,.str v2.d,.str v2.c,.i v2.e],.box [.fn (QOp.fn n.o) [] []]]) λn=>.all (λ(r:L8×Int)=>r=if Pr.e n.p≠0 then([],Pr.e n.p) else QOp.op n.o n.x n.y) λn_8=>let v4:=Pr.err n.p n_8.2;.ex (q43 [.ptr 0 0,.str n_7.1,.str n_8.1] [.box [.str v4.n,.str v4.m,.str v4.d,.str v4.c,.i v4.e]]) λn_9=>.all (λ(r:L8×Int)=>r=if Pr.e n_9.1≠0 then([],Pr.e n_9.1) else w6 n_9.2.1 n_9.2.2) λn_10=>.R [.str n_10.1,.i n_10.2] [.box [.str n_9.1.n,.str n_9.1.m,.str n_9.1.d,.str n_9.1.c,.i n_9.1.e],.box [.ptr 0 0],.box [.fn (QOp.fn n.o) [] []],.box [.ptr 0 0],.box [.fn (QOp.fn n_6.o) [] []]]))))))))))))))) ?_;simp only [q40,q41,q42,q43,Tree.holds,zf];refine⟨(a,b),⟨⟨rfl,rfl,trivial⟩,trivial,by trivial,by show a.length<_; omega,by show b.length<_; omega⟩,⟨_,rfl⟩,?_⟩;intro p hp;have hc:=kL a b;obtain⟨l1,l2,l3,l4⟩:=yO a b;rw [<- hp] at hc l1 l2 l3 l4;refine⟨(p,.mul),⟨kx_k _,kx_b p,by trivial,trivial⟩,⟨(),trivial⟩,?_⟩;intro _ _;refine⟨(p,.sub),⟨kx_k _,kx_b p,by trivial,trivial⟩,⟨(),trivial⟩,?_⟩;intro _ _
 iterate 6 refine⟨by decide,λ_=> ?_⟩
 refine⟨⟨p,.mul,p.n,p.c⟩,⟨kx_l _ _,kx_h (p) _,by trivial,by show(p.n).length<_; omega,by show(p.c).length<_; omega,by trivial⟩,⟨_,rfl⟩,?_⟩;intro r1 hr1;have kr1:=qA _ _ _ _ hr1
 iterate 4 refine⟨rfl,λ_=> ?_⟩
 refine⟨⟨p.err r1.2,.mul,p.m,p.d⟩,⟨kx_l _ _,kx_h (p.err r1.2) _,by trivial,by show(p.m).length<_; omega,by show(p.d).length<_; omega,by trivial⟩,⟨_,rfl⟩,?_⟩;intro r2 hr2;have kr2:=qA _ _ _ _ hr2
 iterate 2 refine⟨rfl,λ_=> ?_⟩
 refine⟨⟨(p.err r1.2).err r2.2,.sub,r1.1,r2.1⟩,⟨kx_l _ _,kx_h ((p.err r1.2).err r2.2) _,by trivial,by show(r1.1).length<_; omega,by show(r2.1).length<_; omega,by trivial⟩,⟨_,rfl⟩,?_⟩;intro r3 hr3;have kr3:=qA _ _ _ _ hr3
 iterate 2 refine⟨rfl,λ_=> ?_⟩
 refine⟨⟨((p.err r1.2).err r2.2).err r3.2,.mul,p.d,p.c⟩,⟨kx_l _ _,kx_h (((p.err r1.2).err r2.2).err r3.2) _,by trivial,by show(p.d).length<_; omega,by show(p.c).length<_; omega,by trivial⟩,⟨_,rfl⟩,?_⟩;intro r4 hr4;have kr4:=qA _ _ _ _ hr4;refine⟨((((p.err r1.2).err r2.2).err r3.2).err r4.2,r3.1,r4.1),⟨kx_m _ _,kx_b _,by trivial,by show(r3.1).length<_; omega,by show(r4.1).length<_; omega⟩,⟨_,rfl⟩,?_⟩;intro r5 hr5;have hfin:=QF hc (λ{s t} =>znk (s:=s) (t:=t)) hr1 hr2 hr3 hr4 hr5;have e:r5=subR a b:=hfin;rw [<- e] at hq;exact RetR.scal hq rfl (by simp [resV])
theorem Zc:zd prog 42 Ki:=by
 refine zh' f42 λp hp O w0 Q hq=> ?_
 obtain⟨a,b⟩:=p;obtain⟨h1,h2⟩:=hp;replace hq:=hq _ rfl;simp only at h1 h2 hq;refine zc.n GQA.h [] (.ex (q40 [.str a,.str b] []) λn=>.all (λ(r:Pr)=>r=ju n.1 n.2) λn=>.ex (q41 [.ptr 0 0,.fn 77 [] []] [.box [.str n.n,.str n.m,.str n.d,.str n.c,.i n.e]]) λn=>.A λn_1=>.side ((0:Int)<=0/\(0:Int)<2) (.side ((0:Int)<=1/\(1:Int)<2) (.side ((0:Int)<=0/\(0:Int)<2) (.side ((0:Int)<=1/\(1:Int)<2) (.ex (q42 [.str n.1.n,.str n.1.m,.ptr 0 0,.ptr 2 0] [.box [.ptr 1 0],.box [.str n.1.n,.str n.1.m,.str n.1.d,.str n.1.c,.i n.1.e],.box [.fn (QOp.fn n.2) [] []]]) λn_2=>.all (λ(r:L8×Int)=>r=if Pr.e n_2.p≠0 then([],Pr.e n_2.p) else QOp.op n_2.o n_2.x n_2.y) λn_3=>let v1:=Pr.err n_2.p n_3.2;.side (Pr.c v1=Pr.c n.1) (.side (Pr.d v1=Pr.d n.1) (.ex (q42 [.str n.1.d,.str n.1.c,.ptr 0 0,.ptr 2 0] [.box [.ptr 1 0],.box [.str v1.n,.str v1.m,.str v1.d,.str v1.c,.i v1.e],.box [.fn (QOp.fn n_2.o) [] []]]) λn=>.all (λ(r:L8×Int)=>r=if Pr.e n.p≠0 then([],Pr.e n.p) else QOp.op n.o n.x n.y) λn_4=>let v2:=Pr.err n.p n_4.2;.ex (q43 [.ptr 0 0,.str n_3.1,.str n_4.1] [.box [.str v2.n,.str v2.m,.str v2.d,.str v2.c,.i v2.e]]) λn_5=>.all (λ(r:L8×Int)=>r=if Pr.e n_5.1≠0 then([],Pr.e n_5.1) else w6 n_5.2.1 n_5.2.2) λn_6=>.R [.str n_6.1,.i n_6.2] [.box [.str n_5.1.n,.str n_5.1.m,.str n_5.1.d,.str n_5.1.c,.i n_5.1.e],.box [.ptr 0 0],.box [.fn (QOp.fn n.o) [] []]]))))))) ?_;simp only [q40,q41,q42,q43,Tree.holds,zf];refine⟨(a,b),⟨⟨rfl,rfl,trivial⟩,trivial,by trivial,by show a.length<_; omega,by show b.length<_; omega⟩,⟨_,rfl⟩,?_⟩;intro p hp;have hc:=kL a b;obtain⟨l1,l2,l3,l4⟩:=yO a b;rw [<- hp] at hc l1 l2 l3 l4;refine⟨(p,.mul),⟨kx_k _,kx_b p,by trivial,trivial⟩,⟨(),trivial⟩,?_⟩;intro _ _
 iterate 4 refine⟨by decide,λ_=> ?_⟩
 refine⟨⟨p,.mul,p.n,p.m⟩,⟨kx_l _ _,kx_h (p) _,by trivial,by show(p.n).length<_; omega,by show(p.m).length<_; omega,by trivial⟩,⟨_,rfl⟩,?_⟩;intro r1 hr1;have kr1:=qA _ _ _ _ hr1
 iterate 2 refine⟨rfl,λ_=> ?_⟩
 refine⟨⟨p.err r1.2,.mul,p.d,p.c⟩,⟨kx_l _ _,kx_h (p.err r1.2) _,by trivial,by show(p.d).length<_; omega,by show(p.c).length<_; omega,by trivial⟩,⟨_,rfl⟩,?_⟩;intro r2 hr2;have kr2:=qA _ _ _ _ hr2;refine⟨((p.err r1.2).err r2.2,r1.1,r2.1),⟨kx_m _ _,kx_b _,by trivial,by show(r1.1).length<_; omega,by show(r2.1).length<_; omega⟩,⟨_,rfl⟩,?_⟩;intro r3 hr3
 have hv:errR a=0->errR b=0->zA p.n p.m=0/\zA p.d p.c=0:=by
  intro ha hb;obtain⟨a1,a2,_⟩:=qJ ha;obtain⟨b1,b2,_⟩:=qJ hb;rcases hc with ⟨g1,g2⟩ | ⟨_,_,_,g1,g2,g3,g4⟩
  ·exact absurd g2 (by unfold jc; rw [aP ha,hb]; exactλh=>g1 h.symm)
  ·rw [g1,g2,g3,g4]; exact⟨zk.2 ⟨a1,b1⟩,zk.2 ⟨a2,b2⟩⟩
 have hfin:=zh0 hc hr1 hr2 hr3 hv
 have e:r3=mulR a b:=by
  rw [hfin];unfold mulR;rcases hc with ⟨g1,g2⟩ | ⟨_,_,_,g1,g2,g3,g4⟩
  ·rw [aP (by rw [g2]; exact g1),aP (by rw [g2]; exact g1)]
  ·rw [g1,g2,g3,g4]
 rw [<- e] at hq;exact RetR.scal hq rfl (by simp [resV])
theorem zqn:zd prog 44 zr7:=by
 refine zh' f44 λp hp O w0 Q hq=> ?_
 obtain⟨a,b⟩:=p;obtain⟨h1,h2⟩:=hp;replace hq:=hq _ rfl;simp only at h1 h2 hq;refine zc.n GQA.h [] (.ex (q40 [.str a,.str b] []) λn=>.all (λ(r:Pr)=>r=ju n.1 n.2) λn=>.ex (q41 [.ptr 0 0,.fn 77 [] []] [.box [.str n.n,.str n.m,.str n.d,.str n.c,.i n.e]]) λn=>.A λn_1=>.side ((0:Int)<=0/\(0:Int)<2) (.side ((0:Int)<=1/\(1:Int)<2) (.side ((0:Int)<=1/\(1:Int)<2) (.side ((0:Int)<=0/\(0:Int)<2) (.ex (q42 [.str n.1.n,.str n.1.c,.ptr 0 0,.ptr 2 0] [.box [.ptr 1 0],.box [.str n.1.n,.str n.1.m,.str n.1.d,.str n.1.c,.i n.1.e],.box [.fn (QOp.fn n.2) [] []]]) λn_2=>.all (λ(r:L8×Int)=>r=if Pr.e n_2.p≠0 then([],Pr.e n_2.p) else QOp.op n_2.o n_2.x n_2.y) λn_3=>let v2:=Pr.err n_2.p n_3.2;.side (Pr.d v2=Pr.d n.1) (.side (Pr.m v2=Pr.m n.1) (.ex (q42 [.str n.1.m,.str n.1.d,.ptr 0 0,.ptr 2 0] [.box [.ptr 1 0],.box [.str v2.n,.str v2.m,.str v2.d,.str v2.c,.i v2.e],.box [.fn (QOp.fn n_2.o) [] []]]) λn=>.all (λ(r:L8×Int)=>r=if Pr.e n.p≠0 then([],Pr.e n.p) else QOp.op n.o n.x n.y) λn_4=>let v3:=Pr.err n.p n_4.2;let v1:List Blk:=[.box [.str v3.n,.str v3.m,.str v3.d,.str v3.c,.i v3.e],.box [.ptr 0 0],.box [.fn (QOp.fn n.o) [] []]];.N (Pr.e v3=(0:Int)) (.R [.i 0,.i v3.e] v1) (.ex (q17 [.str n_3.1,.str n_4.1]) λn_5=>.all (λ(r:Int×Int)=>r=y8 n_5.1 n_5.2) λn_6=>.R [.i n_6.1,.i n_6.2] v1)))))))) ?_;simp only [q17,q40,q41,q42,Tree.holds,zf];refine⟨(a,b),⟨⟨rfl,rfl,trivial⟩,trivial,by trivial,by show a.length<_; omega,by show b.length<_; omega⟩,⟨_,rfl⟩,?_⟩;intro p hp;have hc:=kL a b;obtain⟨l1,l2,l3,l4⟩:=yO a b;rw [<- hp] at hc l1 l2 l3 l4;refine⟨(p,.mul),⟨kx_k _,kx_b p,by trivial,trivial⟩,⟨(),trivial⟩,?_⟩;intro _ _
 iterate 4 refine⟨by decide,λ_=> ?_⟩
 refine⟨⟨p,.mul,p.n,p.c⟩,⟨kx_l _ _,kx_h (p) _,by trivial,by show(p.n).length<_; omega,by show(p.c).length<_; omega,by trivial⟩,⟨_,rfl⟩,?_⟩;intro r1 hr1;have kr1:=qA _ _ _ _ hr1
 iterate 2 refine⟨rfl,λ_=> ?_⟩
 refine⟨⟨p.err r1.2,.mul,p.m,p.d⟩,⟨kx_l _ _,kx_h (p.err r1.2) _,by trivial,by show(p.m).length<_; omega,by show(p.d).length<_; omega,by trivial⟩,⟨_,rfl⟩,?_⟩;intro r2 hr2;have kr2:=qA _ _ _ _ hr2;have hfin:=zg4 hc hr1 hr2;refine⟨λh=> ?_,λh=>⟨(r1.1,r2.1),⟨⟨rfl,rfl,trivial⟩,by show r1.1.length<_; omega,by show r2.1.length<_; omega⟩,⟨_,rfl⟩,?_⟩⟩
 ·have h:r2.2≠0:=by
   intro h0;have h':(!decide (r2.2=0))=true:=h;rw [h0] at h'; cases h'
  rw [aP h] at hfin;rw [<- hfin] at hq;exact RetR.scal hq rfl (by simp [resV,Pr.err])
 ·have h:r2.2=0:=by
   have h':(!decide (r2.2=0))=false:=h;cases hd:decide (r2.2=0) with
   | true=>exact aB hd
   | false=>rw [hd] at h'; cases h'
  rw [aO (by rw [h]; simp)] at hfin;rintro _ rfl;rw [<- hfin] at hq;exact RetR.scal hq rfl (by simp [resV])
noncomputable def GPd:=tb Zc (tb Zg tz)
def zmh:Ctr:=ctrT false false (λp:Deal×Int×L8×L8=>[.ptr 0 0,.str p.2.2.1,.str p.2.2.2]) (λp=>[.box (p.1.cells p.2.1)]) (λp=>p.2.2.1.length<2^60/\p.2.2.2.length<2^60) (λ_ (_:Unit)=>True) (λp _=>(.str (Tm.prod p.2.1 p.2.2.1 p.2.2.2).1,[.box (p.1.cells (Tm.prod p.2.1 p.2.2.1 p.2.2.2).2)]))
abbrev q44(A:List AV)(x:L8×L8):Prop:=eqL A [.str x.1,.str x.2]/\x.1.length<2305843009213693952/\x.2.length<2305843009213693952
theorem zdn:zd prog 47 zmh:=by
 refine zH (fn:=f47) (c:=f47.body.getD .skip) rfl rfl rfl (λh=>by cases h) λp hp O w0 I0 Q hl0 hq=> ?_
 obtain⟨t,e,a,b⟩:=p;obtain⟨h1,h2⟩:=hp;replace hq:=hq () trivial;simp only at hq h1 h2;refine zc.n GPd.h [] (let v1:List Blk:=[.box [.i e,.str t.long,.str t.short,.str t.ccy,.str t.name,.str t.zb,.str t.zg]];.N (e=0) (.R [.str #[(48:UInt8)].toList] v1) (.ex (q44 [.str a,.str b]) λn=>.all (λ(r:L8×Int)=>r=mulR n.1 n.2) λn=>.D (e=0) (.R [.str n.1] [.box [.i n.2,.str t.long,.str t.short,.str t.ccy,.str t.name,.str t.zb,.str t.zg]]) (.R [.str n.1] v1))) ?_;simp only [q44,Tree.holds,zf];unfold Tm.prod at hq;refine⟨λh=> ?_,λh=> ?_⟩
 ·rw [aP (by simpa using h)] at hq;exact RetR.keep [0] rfl rfl (by show ∀ j,j<1->_; decide) rfl hq (by simp [resV,exp2,exp1,exp0,ren0,eqA2]) (by simp [expH,expB,exp1,exp0,ren0,Deal.cells]) rfl
 ·have he:e=0:=by simpa using h
  rw [aO (by simpa using h)] at hq;subst he;refine⟨(a,b),⟨⟨rfl,rfl,trivial⟩,by show a.length<_; omega,by show b.length<_; omega⟩,⟨_,rfl⟩,?_⟩;rintro _ rfl;refine⟨λ_=> ?_,λh=>absurd h (by decide)⟩;exact RetR.keep [0] rfl rfl (by show ∀ j,j<1->_; decide) rfl hq (by simp [resV,exp2,exp1,exp0,ren0,eqA2]) (by simp [expH,expB,exp1,exp0,ren0,Deal.cells]) rfl
def zqw:Ctr:=ctrT false false (λp:Deal×Int×Int=>[.ptr 0 0,.i p.2.2]) (λp=>[.box (p.1.cells p.2.1)]) (λ_=>True) (λ_ (_:Unit)=>True) (λp _=>(exD (Tm.fixg p.1.name p.2.2),[.box (p.1.cells p.2.1)]))
theorem zoq:zd prog 48 zqw:=by
 refine zH (fn:=f48) (c:=f48.body.getD .skip) rfl rfl rfl (λh=>by cases h) λp hp O w0 I0 Q hl0 hq=> ?_
 obtain⟨t,e,d⟩:=p;replace hq:=hq () trivial;refine zc.n zD [] (let v1:List AV:=[.int .u8 2,.str #[].toList,.str t.name,.i d,.nils];.R [.agg v1] [.box [.i e,.str t.long,.str t.short,.str t.ccy,.str t.name,.str t.zb,.str t.zg],.box v1]) ?_;simp only [Tree.holds,zf];refine RetR.keep [0] rfl rfl (by show ∀ j,j<1->_; decide) rfl hq ?_ (by simp [expH,expB,exp1,exp0,ren0,Deal.cells]) rfl;exact⟨⟨rfl,rfl⟩,rfl,rfl,⟨rfl,rfl⟩,rfl,trivial⟩
theorem Con.Jc(e f:Con):eqG 2 12 (zi (zj 12 (e.zl++f.zl)) 0) (Con.conG [e,f]):=by
 intro j o hj ho;simp only [zi,zj,Nat.zero_add];rcases(show j=0\/j=1 by omega) with rfl | rfl<;>rcases(show o=0\/o=1\/o=2\/o=3\/o=4\/o=5\/o=6\/o=7\/o=8\/o=9\/o=10\/o=11 by omega) with rfl | rfl | rfl | rfl | rfl | rfl | rfl | rfl | rfl | rfl | rfl | rfl<;>rfl
theorem zqe{a b c:L8}(x:Ex):eqA (.agg [.int .u8 2,.str a,.str b,.str c,.int .u8 x.kind,.str x.rat,.str x.name,.i x.date,.sl x.sub.length 5 x.deep,.i 0,.nils,.nils]) (Con.mk 2 a b c x 0 [] []).conA:=
 ⟨⟨rfl,rfl⟩,rfl,rfl,rfl,⟨rfl,rfl⟩,rfl,rfl,⟨rfl,rfl⟩,⟨rfl,rfl,Ex.qg x⟩,⟨rfl,rfl⟩,rfl,rfl,trivial⟩
def VU(d:Deal)(e:Int)(p:Per)(q:L8):List Con:=[Tm.at_ p.pay (.mk 2 d.long d.short d.ccy (Tm.kon (Tm.prod e d.zb q).1) 0 [] []),Tm.at_ p.pay (Tm.pay d (Tm.fixg d.name p.fix) q)]
structure OneA where
 d:Deal
 e:Int
 p:Per
 q:L8
def OneA.ok(x:OneA):Prop:=Tm.fits x.d/\x.q.length<2^40
noncomputable def GSw1:=tb zdn (tb za5 (tb zjn (tb zcg (tb zoq tz))))
def zm6:Ctr:=ctrT false false (λx:OneA=>[.ptr 0 0,x.p.av,.str x.q,.ptr 1 0]) (λx=>[.box (x.d.cells x.e),.box [.str x.d.long,.str x.d.short,.str x.d.ccy,.str x.d.name,.str x.d.zb,.str x.d.zg]]) (λx=>x.ok) (λ_ (_:Unit)=>True) (λx _=>(.sl 2 12 (Con.conG (VU x.d x.e x.p x.q)),[.box (x.d.cells (Tm.prod x.e x.d.zb x.q).2),.box [.str x.d.long,.str x.d.short,.str x.d.ccy,.str x.d.name,.str x.d.zb,.str x.d.zg]]))
abbrev q46(A:List AV)(H:Heap)(x:Deal×Int×Int):Prop:=eqL A [.ptr 0 0,.i x.2.2]/\eqH H [.box [.i x.2.1,.str x.1.long,.str x.1.short,.str x.1.ccy,.str x.1.name,.str x.1.zb,.str x.1.zg]]/\1=1/\True
abbrev q45(A:List AV)(H:Heap)(x:Deal×Int×L8×L8):Prop:=eqL A [.ptr 0 0,.str x.2.2.1,.str x.2.2.2]/\eqH H [.box [.i x.2.1,.str x.1.long,.str x.1.short,.str x.1.ccy,.str x.1.name,.str x.1.zb,.str x.1.zg]]/\1=1/\x.2.2.1.length<1152921504606846976/\x.2.2.2.length<1152921504606846976
theorem zks:zd prog 46 zm6:=by
 refine zH (fn:=f46) (c:=f46.body.getD .skip) rfl rfl rfl (λh=>by cases h) λp hp O w0 I0 Q hl0 hq=> ?_
 obtain⟨t,e,p,q⟩:=p;obtain⟨hf,h2⟩:=hp;replace hq:=hq () trivial;simp only at hq hf h2;refine zc.n GSw1.h [] (let v19:=[AV.ptr 0 0,AV.i p.fix];let v16:=Deal.ccy t;let v15:=Deal.long t;let v14:List AV:=[.i p.fix,.i p.pay,.str p.part];let v13:=Deal.short t;let v9:=q45 [.ptr 0 0,.str t.zb,.str q] [.box [.i e,.str v15,.str v13,.str v16,.str t.name,.str t.zb,.str t.zg]];let v8:List AV:=[.str v15,.str v13,.str v16,.str t.name,.str t.zb,.str t.zg];.all (λ(x:Bool)=>True) λn=>.ite n (.ex v9 λn=>let v17:=Tm.prod n.2.1 n.2.2.1 n.2.2.2;let v7:=q46 v19 [.box [.i v17.2,.str n.1.long,.str n.1.short,.str n.1.ccy,.str n.1.name,.str n.1.zb,.str n.1.zg]];.A λn_1=>.all (λ(x:Bool)=>True) λn_2=>.ite n_2 (.ex (q32 [.str v17.1]) λn_3=>let v10:=Tm.kon n_3;.A λn_4=>.ex (q35 [.i p.pay,.agg [.int .u8 2,.str v15,.str v13,.str v16,.int .u8 (Ex.kind v10),.str (Ex.rat v10),.str (Ex.name v10),.i (Ex.date v10),.sl (List.length (Ex.sub v10)) 5 (Ex.deep v10),.i 0,AV.nils,AV.nils]]) λn_5=>let v1:=Tm.at_ n_5.1 n_5.2;.A λn_6=>.ex v7 λn=>.A λn_7=>.ex (q34 [.ptr 0 0,(exD (Tm.fixg n.1.name n.2.2)),.str q] [.box [.i n.2.1,.str n.1.long,.str n.1.short,.str n.1.ccy,.str n.1.name,.str n.1.zb,.str n.1.zg]]) λn=>.A λn_8=>.ex (q35 [.i p.pay,(Con.conD (Tm.pay n.1 n.2.2.1 n.2.2.2))]) λn_9=>let v2:=Tm.at_ n_9.1 n_9.2;.A λn_10=>.R [.osl 4 12 0 2] [.box [.i n.2.1,.str n.1.long,.str n.1.short,.str n.1.ccy,.str n.1.name,.str n.1.zb,.str n.1.zg],.box v8,.box v14,.box [.int .u8 2,.str v15,.str v13,.str v16,.int .u8 (Ex.kind v10),.str (Ex.rat v10),.str (Ex.name v10),.i (Ex.date v10),.sl (List.length (Ex.sub v10)) 5 (Ex.deep v10),.i 0,.nils,.nils],.arr 2 12 (zj 12 [.int .u8 (Con.kind v1),.str (Con.src v1),.str (Con.dst v1),.str (Con.name v1),.int .u8 (Ex.kind (Con.x v1)),.str (Ex.rat (Con.x v1)),.str (Ex.name (Con.x v1)),.i (Ex.date (Con.x v1)),.sl (List.length (Ex.sub (Con.x v1))) 5 (Ex.exG (Ex.sub (Con.x v1))),.i (Con.date v1),.sl (List.length (Con.days v1)) 1 (Con.dayG (Con.days v1)),.sl (List.length (Con.sub v1)) 12 (Con.deep v1),.int .u8 (Con.kind v2),.str (Con.src v2),.str (Con.dst v2),.str (Con.name v2),.int .u8 (Ex.kind (Con.x v2)),.str (Ex.rat (Con.x v2)),.str (Ex.name (Con.x v2)),.i (Ex.date (Con.x v2)),.sl (List.length (Ex.sub (Con.x v2))) 5 (Ex.exG (Ex.sub (Con.x v2))),.i (Con.date v2),.sl (List.length (Con.days v2)) 1 (Con.dayG (Con.days v2)),.sl (List.length (Con.sub v2)) 12 (Con.deep v2)])]) (.ex (q32 [.str v17.1]) λn_3=>let v11:=Tm.kon n_3;.A λn_4=>.ex (q35 [.i p.pay,.agg [.int .u8 2,.str v15,.str v13,.str v16,.int .u8 (Ex.kind v11),.str (Ex.rat v11),.str (Ex.name v11),.i (Ex.date v11),.sl (List.length (Ex.sub v11)) 5 (Ex.deep v11),.i 0,AV.nils,AV.nils]]) λn_5=>let v3:=Tm.at_ n_5.1 n_5.2;.A λn_6=>.ex v7 λn=>.A λn_7=>.ex (q34 [.ptr 0 0,(exD (Tm.fixg n.1.name n.2.2)),.str q] [.box [.i n.2.1,.str n.1.long,.str n.1.short,.str n.1.ccy,.str n.1.name,.str n.1.zb,.str n.1.zg]]) λn=>.A λn_8=>.ex (q35 [.i p.pay,(Con.conD (Tm.pay n.1 n.2.2.1 n.2.2.2))]) λn_9=>let v4:=Tm.at_ n_9.1 n_9.2;.A λn_10=>.R [.osl 4 12 0 2] [.box [.i n.2.1,.str n.1.long,.str n.1.short,.str n.1.ccy,.str n.1.name,.str n.1.zb,.str n.1.zg],.box v8,.box v14,.box [.int .u8 2,.str v15,.str v13,.str v16,.int .u8 (Ex.kind v11),.str (Ex.rat v11),.str (Ex.name v11),.i (Ex.date v11),.sl (List.length (Ex.sub v11)) 5 (Ex.deep v11),.i 0,.nils,.nils],.arr 2 12 (zj 12 [.int .u8 (Con.kind v3),.str (Con.src v3),.str (Con.dst v3),.str (Con.name v3),.int .u8 (Ex.kind (Con.x v3)),.str (Ex.rat (Con.x v3)),.str (Ex.name (Con.x v3)),.i (Ex.date (Con.x v3)),.sl (List.length (Ex.sub (Con.x v3))) 5 (Ex.exG (Ex.sub (Con.x v3))),.i (Con.date v3),.sl (List.length (Con.days v3)) 1 (Con.dayG (Con.days v3)),.sl (List.length (Con.sub v3)) 12 (Con.deep v3),.int .u8 (Con.kind v4),.str (Con.src v4),.str (Con.dst v4),.str (Con.name v4),.int .u8 (Ex.kind (Con.x v4)),.str (Ex.rat (Con.x v4)),.str (Ex.name (Con.x v4)),.i (Ex.date (Con.x v4)),.sl (List.length (Ex.sub (Con.x v4))) 5 (Ex.exG (Ex.sub (Con.x v4))),.i (Con.date v4),.sl (List.length (Con.days v4)) 1 (Con.dayG (Con.days v4)),.sl (List.length (Con.sub v4)) 12 (Con.deep v4)])])) (.ex v9 λn=>let v18:=Tm.prod n.2.1 n.2.2.1 n.2.2.2;.A λn_1=>.ex (q32 [.str v18.1]) λn_2=>let v12:=Tm.kon n_2;.A λn_3=>.ex (q35 [.i p.pay,.agg [.int .u8 2,.str v15,.str v13,.str v16,.int .u8 (Ex.kind v12),.str (Ex.rat v12),.str (Ex.name v12),.i (Ex.date v12),.sl (List.length (Ex.sub v12)) 5 (Ex.deep v12),.i 0,AV.nils,AV.nils]]) λn_4=>let v5:=Tm.at_ n_4.1 n_4.2;.A λn_5=>.ex (q46 v19 [.box [.i v18.2,.str n.1.long,.str n.1.short,.str n.1.ccy,.str n.1.name,.str n.1.zb,.str n.1.zg]]) λn=>.A λn_6=>.ex (q34 [.ptr 0 0,(exD (Tm.fixg n.1.name n.2.2)),.str q] [.box [.i n.2.1,.str n.1.long,.str n.1.short,.str n.1.ccy,.str n.1.name,.str n.1.zb,.str n.1.zg]]) λn=>.A λn_7=>.ex (q35 [.i p.pay,(Con.conD (Tm.pay n.1 n.2.2.1 n.2.2.2))]) λn_8=>let v6:=Tm.at_ n_8.1 n_8.2;.A λn_9=>.R [.osl 4 12 0 2] [.box [.i n.2.1,.str n.1.long,.str n.1.short,.str n.1.ccy,.str n.1.name,.str n.1.zb,.str n.1.zg],.box v8,.box v14,.box [.int .u8 2,.str v15,.str v13,.str v16,.int .u8 (Ex.kind v12),.str (Ex.rat v12),.str (Ex.name v12),.i (Ex.date v12),.sl (List.length (Ex.sub v12)) 5 (Ex.deep v12),.i 0,.nils,.nils],.arr 2 12 (zj 12 [.int .u8 (Con.kind v5),.str (Con.src v5),.str (Con.dst v5),.str (Con.name v5),.int .u8 (Ex.kind (Con.x v5)),.str (Ex.rat (Con.x v5)),.str (Ex.name (Con.x v5)),.i (Ex.date (Con.x v5)),.sl (List.length (Ex.sub (Con.x v5))) 5 (Ex.exG (Ex.sub (Con.x v5))),.i (Con.date v5),.sl (List.length (Con.days v5)) 1 (Con.dayG (Con.days v5)),.sl (List.length (Con.sub v5)) 12 (Con.deep v5),.int .u8 (Con.kind v6),.str (Con.src v6),.str (Con.dst v6),.str (Con.name v6),.int .u8 (Ex.kind (Con.x v6)),.str (Ex.rat (Con.x v6)),.str (Ex.name (Con.x v6)),.i (Ex.date (Con.x v6)),.sl (List.length (Ex.sub (Con.x v6))) 5 (Ex.exG (Ex.sub (Con.x v6))),.i (Con.date v6),.sl (List.length (Con.days v6)) 1 (Con.dayG (Con.days v6)),.sl (List.length (Con.sub v6)) 12 (Con.deep v6)])])) ?_;simp only [q32,q34,q35,q45,q46,Tree.holds,zf];have h6:t.zb.length<=2500:=hf.2.2.2.2.1
 repeat' apply WT
 all_goals refine⟨(t,e,t.zb,q),⟨by simp,by simp [Deal.cells],trivial,by show t.zb.length<_; omega,by show q.length<_; omega⟩,⟨(),trivial⟩,λ_ _=> ?_⟩
 all_goals repeat' apply WT
 all_goals refine⟨(Tm.prod e t.zb q).1,⟨⟨rfl,trivial⟩,trivial⟩,⟨(),trivial⟩,λ_ _=> ?_⟩
 all_goals repeat' apply WT
 all_goals refine⟨(p.pay,.mk 2 t.long t.short t.ccy (Tm.kon (Tm.prod e t.zb q).1) 0 [] []),⟨⟨⟨rfl,rfl⟩,zqe _,trivial⟩,trivial⟩,⟨(),trivial⟩,λ_ _=> ?_⟩
 all_goals repeat' apply WT
 all_goals refine⟨(t,(Tm.prod e t.zb q).2,p.fix),⟨by simp,by simp [Deal.cells],trivial,trivial⟩,⟨(),trivial⟩,λ_ _=> ?_⟩
 all_goals repeat' apply WT
 all_goals refine⟨(t,(Tm.prod e t.zb q).2,Tm.fixg t.name p.fix,q),⟨⟨⟨rfl,rfl⟩,QZ _,rfl,trivial⟩,by simp [Deal.cells],trivial,trivial⟩,⟨(),trivial⟩,λ_ _=> ?_⟩
 all_goals repeat' apply WT
 all_goals refine⟨(p.pay,Tm.pay t (Tm.fixg t.name p.fix) q),⟨⟨⟨rfl,rfl⟩,j0 _,trivial⟩,trivial⟩,⟨(),trivial⟩,λ_ _=> ?_⟩
 all_goals repeat' apply WT
 all_goals exact RetR.keep [0,1] rfl rfl (by show ∀ j,j<2->_; decide) rfl hq ⟨rfl,rfl,Con.Jc _ _⟩ (by simp [expH,expB,exp1,exp0,ren0,Deal.cells]) rfl
end Go.Proofs.Tryz
end
section
namespace Go.Nov
open Go.Sx
namespace Tm
theorem KH{f:Leg->Per->Leg}(hf:∀ s p,(f s p).acc.length<=s.acc.length+2/\Con.bigs (f s p).acc<=Con.bigs s.acc+30000/\Con.zz (f s p).acc<=Con.zz s.acc+4):∀ (l:List Per) (s:Leg),(l.foldl f s).acc.length<=s.acc.length+2*l.length/\Con.bigs (l.foldl f s).acc<=Con.bigs s.acc+30000*l.length/\Con.zz (l.foldl f s).acc<=Con.zz s.acc+4*l.length
 | [],s=>by simp
 | p::l,s=>by
  have h1:=KH hf l (f s p);have h2:=hf s p;simp only [List.foldl_cons,aL];omega
theorem zbu{f:Leg->Per->Leg}(hf:∀ s p,(f s p).acc.length<=s.acc.length+2/\Con.bigs (f s p).acc<=Con.bigs s.acc+30000/\Con.zz (f s p).acc<=Con.zz s.acc+4)(e:Int)(l:List Per)(i:Nat)(hl:l.length<=60):(ja f e l i).acc.length<=120/\Con.bigs (ja f e l i).acc<=1800000/\Con.zz (ja f e l i).acc<=240:=by
 have h:=KH hf (l.take i) ⟨e,[]⟩;have h2:(l.take i).length<=60:=by rw [aH]; omega
 unfold ja;simp only [List.length_nil,Con.bigs,Con.zz] at h;omega
theorem zeu{d:Deal}(h:fits d)(s:Leg)(p:Per):(legS d s p).acc.length<=s.acc.length+2/\Con.bigs (legS d s p).acc<=Con.bigs s.acc+30000/\Con.zz (legS d s p).acc<=Con.zz s.acc+4:=by
 have h':=h;obtain⟨h1,h2,h3,h4,h5,h6⟩:=h;have l1:(prod (prod s.e p.part d.zg).2 d.zb (prod s.e p.part d.zg).1).1.length<=2003:=JK;have l2:(prod s.e p.part d.zg).1.length<=2003:=JK;have:=XR (x:=fixg d.name p.fix) (r:=(prod s.e p.part d.zg).1) h';simp only [legS,Us,Kn,bO,at_,kon,fixg,pay,opx,Con.big,Con.bigs,Con.nodes,Con.zz,Ex.size,Ex.zu,Ex.zB,Ex.qk,List.length_nil,aL] at this l1 l2 ⊢;omega
def resE(e:Int)(c:Con):Int:=if e=0 then c.errC else e
def zd2(f:Leg->Per->Leg)(d:Deal)(l:List Per):Leg:=ja f (ke (perE d l) l l.length) l l.length
def Js(f:Leg->Per->Leg)(d:Deal)(l:List Per):Int:=if 40<l.length then 4 else resE (zd2 f d l).e (whole (zd2 f d l).acc)
def WO(f:Leg->Per->Leg)(d:Deal)(l:List Per):Con:=if Js f d l=0 then whole (zd2 f d l).acc else zero
end Tm
end Go.Nov
end
section
set_option maxRecDepth 100000
open Go Go.Sx Go.Proofs Go.Nov
namespace Go.Proofs.Tryz
attribute [local simp] eqKV eqA eqA0 eqH eqB eqL eqL0
noncomputable def K45:=Go.Sx.aA f45
noncomputable def allS:Ctr:={ X8 with sinks:=true }
theorem zoj:zd prog 54 allS:=zd.sink (c:=X8) zlg
noncomputable def zl2:Ctr:={ zca with sinks:=true }
theorem YJ:zd prog 33 zl2:=zd.sink (c:=zca) Yg
structure PeA where
 d:Deal
 l:List Per
 fl:Bool
def PeA.ok(x:PeA):Prop:=Tm.fits x.d/\x.l.length<=60/\∀ i,i<x.l.length->(x.l.getD i Per.nil).part.length<=300
def dbox(d:Deal):Blk:=.box [.str d.long,.str d.short,.str d.ccy,.str d.name,.str d.zb,.str d.zg]
theorem zp3(a:L8):eqG 1 1 (zj 1 [.str a]) (ratG [a]):=by
 intro j o hj ho;rcases(show j=0 by omega) with rfl;rcases(show o=0 by omega) with rfl;rfl
theorem zkw(l m:List Con):eqG (l.length+m.length) 12 (appG l.length (Con.conG l) (Con.conG m)) (Con.conG (l++m)):=by
 intro j o hj ho;unfold appG;by_cases h:j<l.length
 ·rw [aP h]; simp [Con.conG,List.getD,bT,h]
 ·rw [aO h]; simp [Con.conG,List.getD,bT,h]
def wm(d:Deal)(fl:Bool):Blk:=dbox d
def zQ(d:Deal)(fl:Bool):Tm.Leg->Per->Tm.Leg:=Tm.legS d
theorem zm5{d:Deal}{fl:Bool}(h:Tm.fits d)(s:Tm.Leg)(p:Per):(zQ d fl s p).acc.length<=s.acc.length+2/\Con.bigs (zQ d fl s p).acc<=Con.bigs s.acc+30000/\Con.zz (zQ d fl s p).acc<=Con.zz s.acc+4:=Tm.zeu h s p
noncomputable def zp2:=tb VJ (tb V3 (tb Zg (tb zdn (tb zks (tb zoj (tb YJ tz))))))
def xN(d:Deal)(fl:Bool)(e:Int):Heap:=[wm d fl,dbox d,.box (List.replicate 12 .undef),.dead,.box (d.cells e)]
def zb5(l:List Per)(i:Nat):KV:=[(1,perS l),(2,.fn 46 [] [.ptr 0 0]),(3,.ptr 1 0),(6,.ptr 2 0),(8,.ptr 4 0),Z 11,Z 14,(23,perS l),(24,.i (l.length:Int)),(25,.i (i:Int)),Z 37,Z 38,Z 39,Z 50,Z 51,Z 52,Z 53,Z 54,Z 55,Z 56,Z 57,Z 66,Z 67,Z 68]
def ZX(l:List Per)(i:Nat):KV:=[(1,perS l),(2,.fn 46 [] [.ptr 0 0]),(3,.ptr 1 0),(6,.ptr 2 0),(8,.ptr 4 0),(11,.i (Tm.Zv l i)),Z 14,Z 23,Z 24,Z 25,(37,perS l),(38,.i (l.length:Int)),(39,.i (i:Int)),Z 50,Z 51,Z 52,Z 53,Z 54,Z 55,Z 56,Z 57,Z 66,Z 67,Z 68]
def WD(d:Deal)(fl:Bool)(e:Int)(acc:List Con):Heap:=[wm d fl,dbox d,.box (List.replicate 12 .undef),.dead,.box (d.cells e),.arr acc.length 12 (Con.conG acc)]
def Qr(l:List Per)(n i:Nat):KV:=[Z 1,(2,.fn 46 [] [.ptr 0 0]),(3,.ptr 1 0),(6,.ptr 2 0),(8,.ptr 4 0),Z 11,(14,.osl 5 12 0 n),Z 23,Z 24,Z 25,Z 37,Z 38,Z 39,Z 50,Z 51,Z 52,Z 53,Z 54,Z 55,Z 56,Z 57,(66,perS l),(67,.i (l.length:Int)),(68,.i (i:Int))]
def Zt:Ctr:=ctrT false false (λx:PeA=>[x.d.av,perS x.l,.fn 46 [] [.ptr 0 0]]) (λx=>[wm x.d x.fl]) (λx=>x.ok) (λ_ (_:Unit)=>True) (λx _=>(.tup [(Tm.WO (zQ x.d x.fl) x.d x.l).conD,.i (Tm.Js (zQ x.d x.fl) x.d x.l)],[wm x.d x.fl]))
abbrev q47(A:List AV)(x:List Con):Prop:=eqL A [.sl x.length 12 (Con.conG x)]/\x.length<1099511627776
theorem zpl{O:Nat->Prop}{w0:World}{I0:List SE}{Hs:Nat->KV->Heap->Prop}{Q:AV×Heap->Prop}(d:Deal)(l:List Per)(fl:Bool)(e2:Int)(hf:Tm.fits d)(hl:l.length<=60)(hpt:∀ i,i<l.length->(l.getD i Per.nil).part.length<=300)
  (hq:Q (.tup [(if Tm.resE (Tm.ja (zQ d fl) e2 l l.length).e (Tm.whole (Tm.ja (zQ d fl) e2 l l.length).acc)=0 then Tm.whole (Tm.ja (zQ d fl) e2 l l.length).acc else Tm.zero).conD,.i (Tm.resE (Tm.ja (zQ d fl) e2 l l.length).e (Tm.whole (Tm.ja (zQ d fl) e2 l l.length).acc))],[wm d fl])) :
  zc prog f45 O 1 w0 I0 Hs (RetR Zt 1 Q) (.code (.loop (lps (inside (inside K45 0) 0) 0).1)::(lps (inside (inside K45 0) 0) 0).2) (mk f45.ntmps (Qr l 0 0) (WD d fl e2 [])):=by
 refine zc.loop (ι:={i:Nat // i<=l.length}) (λi=>Qr l (Tm.ja (zQ d fl) e2 l i.1).acc.length i.1) (λi=>WD d fl (Tm.ja (zQ d fl) e2 l i.1).e (Tm.ja (zQ d fl) e2 l i.1).acc) (λi=>l.length - i.1) ⟨0,aI _⟩ 0 ?_ ?_ (by kernel_rfl)
 ·exact⟨by simp [Qr,perS,za,Tm.ja],by simp [WD,wm,dbox,Deal.cells,List.replicate,Tm.ja,za],by kernel_rfl,by show 1<=6; decide⟩
 ·rintro⟨i,hil⟩;have hsz:=Tm.zbu (f:=zQ d fl) (zm5 hf) e2 l i hl;obtain⟨⟨e,acc⟩,hs⟩:∃ s,Tm.ja (zQ d fl) e2 l i=s:=⟨_,rfl⟩;rw [hs] at hsz;simp only [hs];simp only at hsz;refine zc.n zp2.h [1,2,3,6,8,11,14,23,24,25,37,38,39,50,51,52,53,54,55,56,57,66,67,68] (let v10:=Deal.ccy d;let v9:=Deal.long d;let v8:=Deal.short d;let v4:=l.getD (i:Int).toNat Per.nil;let v3:List AV:=[.i e,.str v9,.str v8,.str v10,.str d.name,.str d.zb,.str d.zg];let v2:List AV:=[.int .u8 0,.str #[].toList,.str #[].toList,.str #[].toList,.int .u8 0,.str #[].toList,.str #[].toList,.i 0,.nils,.i 0,.nils,.nils];let v1:List AV:=[.str v9,.str v8,.str v10,.str d.name,.str d.zb,.str d.zg];.D ((i:Int)<l.length) (.side ((0:Int)<=i/\(i:Int)<l.length) (.ex (q45 [.ptr 0 0,.str v4.part,.str d.zg] [.box [.i e,.str v9,.str v8,.str v10,.str d.name,.str d.zb,.str d.zg]]) λn=>let v13:=Tm.prod n.2.1 n.2.2.1 n.2.2.2;.A λn_1=>.ex (λ(x:OneA)=>eqL [.ptr 0 0,.agg [.i v4.fix,.i v4.pay,.str v4.part],.str v13.1,.ptr 1 0] [.ptr 0 0,.agg [.i x.p.fix,.i x.p.pay,.str x.p.part],.str x.q,.ptr 1 0]/\eqH [.box [.i v13.2,.str n.1.long,.str n.1.short,.str n.1.ccy,.str n.1.name,.str n.1.zb,.str n.1.zg],.box [.str v9,.str v8,.str v10,.str d.name,.str d.zb,.str d.zg]] [.box [.i x.e,.str x.d.long,.str x.d.short,.str x.d.ccy,.str x.d.name,.str x.d.zb,.str x.d.zg],.box [.str x.d.long,.str x.d.short,.str x.d.ccy,.str x.d.name,.str x.d.zb,.str x.d.zg]]/\2=2/\OneA.ok x) λn=>let v12:=Deal.zb n.d;.A λn_2=>.side (0=0/\acc.length<=acc.length/\(acc.length+2)*184<=140737488355328) (.S (i+1) (.leaf (.back 0 [Z 1,(2,.fn 46 [] [.ptr 0 0]),(3,.ptr 1 0),(6,.ptr 2 0),(8,.ptr 4 0),Z 11,(14,.osl 5 12 0 (acc.length+2)),Z 23,Z 24,Z 25,Z 37,Z 38,Z 39,Z 50,Z 51,Z 52,Z 53,Z 54,Z 55,Z 56,Z 57,(66,.sl l.length 3 (perG l)),(67,.i l.length),(68,.i (i+1))] [.box [.str n.d.long,.str n.d.short,.str n.d.ccy,.str n.d.name,.str v12,.str n.d.zg],.box v1,.box [.undef,.undef,.undef,.undef,.undef,.undef,.undef,.undef,.undef,.undef,.undef,.undef],.dead,.box [.i (Prod.snd (Tm.prod n.e v12 n.q)),.str n.d.long,.str n.d.short,.str n.d.ccy,.str n.d.name,.str v12,.str n.d.zg],.arr (acc.length+2) 12 (appG acc.length (Con.conG acc) (Con.conG (VU n.d n.e n.p n.q))),.box [.i v4.fix,.i v4.pay,.str v4.part]]))))) (.ex (q47 [.sl acc.length 12 (zi (Con.conG acc) 0)]) λn=>let v7:=Tm.whole n;let v11:=q36 [v7.conD];let v6:zZ:=.ret [.agg v2,.i e] [.box v1,.box v1,.box v2,.dead,.box v3,.dead,.box v7.zl,.box v2];.A λn_1=>.D (e=0) (.ex (q31 [v7.conD]) λn_2=>.all (λ(r:Int)=>r=Con.errC n_2) λn_3=>let v5:List AV:=[.i n_3,.str v9,.str v8,.str v10,.str d.name,.str d.zb,.str d.zg];.D (e=0) (.N (n_3=0) (.R [.agg v2,.i n_3] [.box v1,.box v1,.box v2,.dead,.box v5,.dead,.box v7.zl,.box v2]) (.ex v11 λn_4=>.A λn_5=>.R [n_4.conD,.i 0] [.box v1,.box v1,.box n_4.zl,.dead,.box v5,.dead,.box v7.zl,.box n_4.zl])) (.N (e=0) (.leaf v6) (.ex v11 λn_4=>.A λn_5=>.R [n_4.conD,.i 0] [.box v1,.box v1,.box n_4.zl,.dead,.box v3,.dead,.box v7.zl,.box n_4.zl]))) (.N (e=0) (.leaf v6) (.ex v11 λn_2=>.A λn_3=>.R [n_2.conD,.i 0] [.box v1,.box v1,.box n_2.zl,.dead,.box v3,.dead,.box v7.zl,.box n_2.zl])))) ?_;simp only [q31,q36,q45,q47,Tree.holds,zf,inR,lo,hi,aD];refine⟨λhlt=> ?_,λhge=> ?_⟩
  ·have hlt:i<l.length:=by have:=aB hlt; omega
   have hpi:=hpt i hlt;have h6:d.zg.length<=2500:=hf.2.2.2.2.2;have hss:=Tm.za0 (f:=zQ d fl) (e:=e2) hlt;rw [hs] at hss;replace hss:Tm.ja (zQ d fl) e2 l (i+1)=⟨(Tm.prod (Tm.prod e (l.getD i Per.nil).part d.zg).2 d.zb (Tm.prod e (l.getD i Per.nil).part d.zg).1).2,acc++VU d (Tm.prod e (l.getD i Per.nil).part d.zg).2 (l.getD i Per.nil) (Tm.prod e (l.getD i Per.nil).part d.zg).1⟩:=hss;refine⟨by omega,λ_=> ?_⟩;refine⟨(d,e,(l.getD i Per.nil).part,d.zg),⟨by simp,by simp [Deal.cells],trivial,by show(l.getD i Per.nil).part.length<_; omega,by show d.zg.length<_; omega⟩,⟨(),trivial⟩,λ_ _=> ?_⟩;refine⟨⟨d,(Tm.prod e (l.getD i Per.nil).part d.zg).2,(l.getD i Per.nil),(Tm.prod e (l.getD i Per.nil).part d.zg).1⟩,⟨⟨⟨rfl,rfl⟩,⟨⟨rfl,rfl⟩,⟨rfl,rfl⟩,rfl,trivial⟩,rfl,⟨rfl,rfl⟩,trivial⟩,by simp [Deal.cells],trivial,hf,by have:=Tm.JK (e:=e) (a:=(l.getD i Per.nil).part) (b:=d.zg); show(Tm.prod e (l.getD i Per.nil).part d.zg).1.length<_; omega⟩,⟨(),trivial⟩,λ_ _=> ?_⟩;refine⟨⟨trivial,aJ _,by omega⟩,λ_=>⟨by omega,λ_=> ?_⟩⟩;rw [aP trivial];refine⟨⟨i+1,hlt⟩,by show l.length - (i+1)<l.length - i; omega,?_,?_,by kernel_rfl,by show 1<=6; decide⟩
   ·rw [hss]; simp [Qr,perS,za,VU]
   ·rw [hss];refine⟨by simp [wm,dbox],by simp [dbox],by simp [List.replicate],trivial,by simp [Deal.cells],⟨by simp [VU],rfl,zkw acc (VU d (Tm.prod e (l.getD i Per.nil).part d.zg).2 (l.getD i Per.nil) (Tm.prod e (l.getD i Per.nil).part d.zg).1)⟩,trivial⟩
  ·have hge:i=l.length:=by have:=aC hge; omega
   subst hge;rw [hs] at hq;simp only at hq;have hw:=Tm.xC acc;obtain⟨c,hc⟩:∃ c,Tm.whole acc=c:=⟨_,rfl⟩;rw [hc] at hq hw;refine⟨acc,⟨⟨⟨rfl,rfl,WS _ _ _⟩,trivial⟩,by omega⟩,⟨(),trivial⟩,λ_ _=> ?_⟩;simp only [hc];unfold Tm.resE at hq;refine⟨λh=> ?_,λh=> ?_⟩
   ·rw [aP (aB h)] at hq;refine⟨c,⟨⟨j0 c,trivial⟩,by omega,by omega⟩,⟨_,rfl⟩,?_⟩;rintro _ rfl;refine⟨λ_=>⟨λh1=> ?_,λh1=> ?_⟩,λh1=>absurd (h.symm.trans h1) (by decide)⟩
    ·rw [aO (by simpa using h1)] at hq;exact RetR.keep [0] rfl rfl (by show ∀ j,j<1->_; decide) rfl hq zero_eq (by simp [expH,expB,exp1,exp0,ren0,wm,dbox]) rfl
    ·have h1:c.errC=0:=by simpa using h1
     rw [aP h1,h1] at hq;refine⟨c,⟨⟨j0 c,trivial⟩,by omega⟩,⟨(),trivial⟩,λ_ _=> ?_⟩;exact RetR.uw [0] rfl rfl (by show ∀ j,j<1->_; decide) rfl hq (LeA.refl _) (by simp [expH,expB,exp1,exp0,ren0,wm,dbox]) rfl
   ·have h:=aC h;rw [aO h,aO h] at hq;refine⟨λ_=> ?_,λh1=>absurd h1 (by simp [h])⟩;exact RetR.keep [0] rfl rfl (by show ∀ j,j<1->_; decide) rfl hq zero_eq (by simp [expH,expB,exp1,exp0,ren0,wm,dbox]) rfl
theorem zoh{O:Nat->Prop}{w0:World}{I0:List SE}{Hs:Nat->KV->Heap->Prop}{Q:AV×Heap->Prop}(d:Deal)(l:List Per)(fl:Bool)(e1:Int)(hf:Tm.fits d)(hl:l.length<=60)(hpt:∀ i,i<l.length->(l.getD i Per.nil).part.length<=300)
  (hq:Q (.tup [(if Tm.resE (Tm.ja (zQ d fl) (Tm.ke e1 l l.length) l l.length).e (Tm.whole (Tm.ja (zQ d fl) (Tm.ke e1 l l.length) l l.length).acc)=0 then Tm.whole (Tm.ja (zQ d fl) (Tm.ke e1 l l.length) l l.length).acc else Tm.zero).conD,.i (Tm.resE (Tm.ja (zQ d fl) (Tm.ke e1 l l.length) l l.length).e (Tm.whole (Tm.ja (zQ d fl) (Tm.ke e1 l l.length) l l.length).acc))],[wm d fl])) :
  zc prog f45 O 1 w0 I0 Hs (RetR Zt 1 Q) (.code (.loop (lps (inside K45 0) 0).1)::(lps (inside K45 0) 0).2) (mk f45.ntmps (ZX l 0) (xN d fl e1)):=by
 refine zc.loop (ι:={i:Nat // i<=l.length}) (λi=>ZX l i.1) (λi=>xN d fl (Tm.ke e1 l i.1)) (λi=>l.length - i.1) ⟨0,aI _⟩ 0 ?_ ?_ (by kernel_rfl)
 ·refine⟨by simp [ZX,perS,za],?_,by kernel_rfl,by show 1<=5; decide⟩;have:Tm.ke e1 l 0=e1:=by unfold Tm.ke; split<;>simp_all [Tm.badT]
  simp [xN,wm,dbox,Deal.cells,this,List.replicate]
 ·rintro⟨i,hil⟩;obtain⟨e',he'⟩:∃ e',Tm.ke e1 l i=e':=⟨_,rfl⟩;simp only [he'];refine zc.n zp2.h [1,2,3,6,8,11,14,23,24,25,37,38,39,50,51,52,53,54,55,56,57,66,67,68] (let v9:=lps (inside (inside K45 0) 0) 0;let v7:=inR .i64 (i+1);let v6:List AV:=[.i e',.str d.long,.str d.short,.str d.ccy,.str d.name,.str d.zb,.str d.zg];let v5:List AV:=[.undef,.undef,.undef,.undef,.undef,.undef,.undef,.undef,.undef,.undef,.undef,.undef];let v4:=l.getD (i:Int).toNat Per.nil;let v8:List AV:=[.i v4.fix,.i v4.pay,.str v4.part];let v3:List (Nat×AV):=[(1,.sl l.length 3 (perG l)),(2,.fn 46 [] [.ptr 0 0]),(3,.ptr 1 0),(6,.ptr 2 0),(8,.ptr 4 0),(11,.i v4.pay),Z 14,Z 23,Z 24,Z 25,(37,.sl l.length 3 (perG l)),(38,.i l.length),(39,.i (i+1)),Z 50,Z 51,Z 52,Z 53,Z 54,Z 55,Z 56,Z 57,Z 66,Z 67,Z 68];let v2:List AV:=[.str d.long,.str d.short,.str d.ccy,.str d.name,.str d.zb,.str d.zg];let v1:zZ:=.back 0 v3 [.box v2,.box v2,.box v5,.dead,.box v6,.box v8];.D ((i:Int)<l.length) (.side ((0:Int)<=i/\(i:Int)<l.length) (.ite (bif decide (Per.pay v4 <Per.fix v4) then true else bif decide ((0:Int)<i) then decide (Per.pay v4 <=Tm.Zv l i) else false) (.D (e'=(0:Int)) (.side v7 (.leaf (.back 0 v3 [.box v2,.box v2,.box v5,.dead,.box [.i 40,.str d.long,.str d.short,.str d.ccy,.str d.name,.str d.zb,.str d.zg],.box v8]))) (.side v7 (.leaf v1))) (.side v7 (.leaf v1)))) (.leaf (.loop v9.1 v9.2 [(1,.sl l.length 3 (perG l)),(2,.fn 46 [] [.ptr 0 0]),(3,.ptr 1 0),(6,.ptr 2 0),(8,.ptr 4 0),(11,.i (Tm.Zv l i)),(14,.nils),Z 23,Z 24,Z 25,(37,.sl l.length 3 (perG l)),(38,.i l.length),(39,.i i),Z 50,Z 51,Z 52,Z 53,Z 54,Z 55,Z 56,Z 57,(66,.sl l.length 3 (perG l)),(67,.i l.length),(68,.i 0)] [.box v2,.box v2,.box v5,.dead,.box v6]))) ?_;simp only [Tree.holds,zf,inR,lo,hi,aD];refine⟨λhlt=> ?_,λhge=> ?_⟩
  ·have hlt:i<l.length:=by have:=aB hlt; omega
   have hs:=Tm.za4 (e:=e1) (l:=l) (i:=i) rfl;rw [he'] at hs;have hp:=Tm.zbw l i;refine⟨by omega,λ_=>⟨λhc=>⟨λhz=>⟨by omega,λ_=> ?_⟩,λhz=>⟨by omega,λ_=> ?_⟩⟩,λhc=>⟨by omega,λ_=> ?_⟩⟩⟩
   all_goals
    rw [aP trivial];refine⟨⟨i+1,hlt⟩,by show l.length - (i+1)<l.length - i; omega,by simp [ZX,perS,za,hp],?_,by kernel_rfl,by show 1<=5; decide⟩
   ·rw [aP (by simpa using hc),aP (aB hz)] at hs;simp [xN,wm,dbox,Deal.cells,hs,List.replicate]
   ·rw [aP (by simpa using hc),aO (aC hz)] at hs;simp [xN,wm,dbox,Deal.cells,hs,List.replicate]
   ·rw [aO (by simp at hc ⊢; omega)] at hs;simp [xN,wm,dbox,Deal.cells,hs,List.replicate]
  ·have hge:i=l.length:=by have:=aC hge; omega
   subst hge;rw [he'] at hq;refine zc.bear 14 12 (Con.conG []) rfl (by decide) (by kernel_rfl) ?_;refine zc.weak (S:=Qr l 0 0) (H:=WD d fl e' []) ⟨by simp [Qr,y9,perS,za],by simp [WD,wm,dbox,Deal.cells,List.replicate,za],by kernel_rfl,by show 1<=6; decide⟩ ?_;exact zpl d l fl e' hf hl hpt hq
theorem zau:zd prog 45 Zt:=by
 refine zH (fn:=f45) (c:=f45.body.getD .skip) rfl rfl rfl (λh=>by cases h) λp hp O w0 I0 Q hl0 hq=> ?_
 obtain⟨d,l,fl⟩:=p;replace hq:=hq () trivial;obtain⟨hf,hl,hpt⟩:=hp;simp only at hf hl hpt hq;unfold Tm.WO Tm.Js at hq;refine zc.n zp2.h [1,2,3,6,8,11,14,23,24,25,37,38,39,50,51,52,53,54,55,56,57,66,67,68] (let v2:List AV:=[.int .u8 0,.str #[].toList,.str #[].toList,.str #[].toList,.int .u8 0,.str #[].toList,.str #[].toList,.i 0,.nils,.i 0,.nils,.nils];let v1:List AV:=[.str d.long,.str d.short,.str d.ccy,.str d.name,.str d.zb,.str d.zg];.D ((40:Int)<l.length) (.R [.agg v2,.i 4] [.box v1,.box v1,.box v2]) (.ex (λ(x:Deal×Int×List L8)=>eqL [.ptr 0 0,.osl 1 1 0 2] [.ptr 0 0,.osl 1 1 0 x.2.2.length]/\eqH [.box [.i 0,.str d.long,.str d.short,.str d.ccy,.str d.name,.str d.zb,.str d.zg],.arr 2 1 (zj 1 [.str d.zb,.str d.zg])] [.box [.i x.2.1,.str x.1.long,.str x.1.short,.str x.1.ccy,.str x.1.name,.str x.1.zb,.str x.1.zg],.arr x.2.2.length 1 (ratG x.2.2)]/\2=2/\x.2.2.length<1099511627776/\∀ (r:L8),r∈x.2.2->r.length<1099511627776) λn=>.A λn_1=>.leaf (.loop (lps K45 0).1 (lps K45 0).2 [(1,.sl l.length 3 (perG l)),(2,.fn 46 [] [.ptr 0 0]),(3,.ptr 1 0),(6,.ptr 2 0),(8,.ptr 4 0),Z 11,Z 14,(23,.sl l.length 3 (perG l)),(24,.i l.length),(25,.i 0),Z 37,Z 38,Z 39,Z 50,Z 51,Z 52,Z 53,Z 54,Z 55,Z 56,Z 57,Z 66,Z 67,Z 68] [.box v1,.box v1,.box v2,.box v1,.box [.i (Tm.first n.2.1 n.2.2),.str n.1.long,.str n.1.short,.str n.1.ccy,.str n.1.name,.str n.1.zb,.str n.1.zg],.arr n.2.2.length 1 (ratG n.2.2)]))) ?_;simp only [Tree.holds,zf];refine⟨λh=> ?_,λh=> ?_⟩
 ·have h40:=aB h;simp only [aP (show 40<l.length by omega)] at hq;rw [aO (show ¬ (4:Int)=0 by decide)] at hq;exact RetR.keep [0] rfl rfl (by show ∀ j,j<1->_; decide) rfl hq zero_eq (by simp [expH,expB,exp1,exp0,ren0,wm,dbox]) rfl
 have h40:=aC h;simp only [aO (show ¬ 40<l.length by omega)] at hq;refine⟨(d,0,[d.zb,d.zg]),⟨by simp,by simp [Deal.cells,Xa],trivial,by show 2<2^40; decide,uX hf⟩,⟨(),trivial⟩,λ_ _=> ?_⟩;unfold Tm.zd2 Tm.perE at hq;obtain⟨e0,he0⟩:∃ e,Tm.first 0 [d.zb,d.zg]=e:=⟨_,rfl⟩;rw [he0] at hq;simp only [he0];refine zc.loop (ι:={i:Nat // i<=l.length}) (λi=>zb5 l i.1) (λi=>xN d fl (Tm.first e0 ((l.map Per.part).take i.1))) (λi=>l.length - i.1) ⟨0,aI _⟩ 0 ?_ ?_ (by kernel_rfl)
 ·exact⟨by simp [zb5,perS,za],by simp [xN,wm,dbox,Deal.cells,Tm.first,List.replicate],by kernel_rfl,by show 1<=5; decide⟩
 ·rintro⟨i,hil⟩;obtain⟨e',he'⟩:∃ e',Tm.first e0 ((l.map Per.part).take i)=e':=⟨_,rfl⟩;simp only [he'];refine zc.n zp2.h [1,2,3,6,8,11,14,23,24,25,37,38,39,50,51,52,53,54,55,56,57,66,67,68] (let v3:List AV:=[.undef,.undef,.undef,.undef,.undef,.undef,.undef,.undef,.undef,.undef,.undef,.undef];let v2:=l.getD (i:Int).toNat Per.nil;let v1:List AV:=[.str d.long,.str d.short,.str d.ccy,.str d.name,.str d.zb,.str d.zg];.D ((i:Int)<l.length) (.side ((0:Int)<=i/\(i:Int)<l.length) (.ex (λ(x:Deal×Int×List L8)=>eqL [.ptr 0 0,.osl 1 1 0 1] [.ptr 0 0,.osl 1 1 0 x.2.2.length]/\eqH [.box [.i e',.str d.long,.str d.short,.str d.ccy,.str d.name,.str d.zb,.str d.zg],.arr 1 1 (zj 1 [.str v2.part])] [.box [.i x.2.1,.str x.1.long,.str x.1.short,.str x.1.ccy,.str x.1.name,.str x.1.zb,.str x.1.zg],.arr x.2.2.length 1 (ratG x.2.2)]/\2=2/\x.2.2.length<1099511627776/\∀ (r:L8),r∈x.2.2->r.length<1099511627776) λn=>.A λn_1=>.S (i+1) (.leaf (.back 0 [(1,.sl l.length 3 (perG l)),(2,.fn 46 [] [.ptr 0 0]),(3,.ptr 1 0),(6,.ptr 2 0),(8,.ptr 4 0),Z 11,Z 14,(23,.sl l.length 3 (perG l)),(24,.i l.length),(25,.i (i+1)),Z 37,Z 38,Z 39,Z 50,Z 51,Z 52,Z 53,Z 54,Z 55,Z 56,Z 57,Z 66,Z 67,Z 68] [.box v1,.box v1,.box v3,.dead,.box [.i (Tm.first n.2.1 n.2.2),.str n.1.long,.str n.1.short,.str n.1.ccy,.str n.1.name,.str n.1.zb,.str n.1.zg],.box [.i v2.fix,.i v2.pay,.str v2.part],.arr n.2.2.length 1 (ratG n.2.2)])))) (.leaf (.loop (lps (inside K45 0) 0).1 (lps (inside K45 0) 0).2 [(1,.sl l.length 3 (perG l)),(2,.fn 46 [] [.ptr 0 0]),(3,.ptr 1 0),(6,.ptr 2 0),(8,.ptr 4 0),(11,.i (-9223372036854775808:Int)),Z 14,(23,.sl l.length 3 (perG l)),(24,.i l.length),(25,.i i),(37,.sl l.length 3 (perG l)),(38,.i l.length),(39,.i 0),Z 50,Z 51,Z 52,Z 53,Z 54,Z 55,Z 56,Z 57,Z 66,Z 67,Z 68] [.box v1,.box v1,.box v3,.dead,.box [.i e',.str d.long,.str d.short,.str d.ccy,.str d.name,.str d.zb,.str d.zg]]))) ?_;simp only [Tree.holds,zf,inR,lo,hi,aD];refine⟨λhlt=> ?_,λhge=> ?_⟩
  ·have hlt:i<l.length:=by have:=aB hlt; omega
   have hpi:=hpt i hlt;have ht:=Tm.We (e:=e0) (l:=l.map Per.part) (i:=i) (by simpa using hlt);rw [he'] at ht;have hg:(l.map Per.part).getD i []=(l.getD i Per.nil).part:=by simp [List.getD,hlt]
   rw [hg] at ht;have ht2:Tm.first e' [(l.getD i Per.nil).part]=Tm.first e0 ((l.map Per.part).take (i+1)):=by rw [ht]; rfl
   refine⟨by omega,λ_=>⟨(d,e',[(l.getD i Per.nil).part]),⟨by simp,by simp [Deal.cells,zp3],trivial,by show 1<2^40; decide,λr hr=>by rw [List.mem_singleton.1 hr]; omega⟩,⟨(),trivial⟩,λ_ _=>⟨by omega,λ_=> ?_⟩⟩⟩;rw [aP trivial];exact⟨⟨i+1,hlt⟩,by show l.length - (i+1)<l.length - i; omega,by simp [zb5,perS,za],by show eqH _ (xN d fl (Tm.first e0 ((l.map Per.part).take (i+1)))); rw [<- ht2]; simp [xN,wm,dbox,Deal.cells,List.replicate],by kernel_rfl,by show 1<=5; decide⟩
  ·have hge:i=l.length:=by have:=aC hge; omega
   subst hge;have hz:(l.map Per.part).take l.length=l.map Per.part:=by rw [<- List.length_map (f:=Per.part),bD]
   rw [hz] at he';rw [he'] at hq;refine zc.weak (S:=ZX l 0) (H:=xN d fl e') ⟨by simp [ZX,perS,za,Tm.Zv],by simp [xN,wm,dbox,Deal.cells,List.replicate],by kernel_rfl,by show 1<=5; decide⟩ ?_;exact zoh d l fl e' hf hl hpt hq
noncomputable def K9:=Go.Sx.aA f9
structure xR where
 d:Deal
 l:List Per
 days:List Int
def zqu:Ctr:=ctrP true (λp:xR=>[p.d.av,perS p.l,Con.dayS p.days]) (λp=>p.l.length<2^60) (λp r=>r=false->Tm.short p.d p.l p.days) (λ_ (r:Bool)=>(.bool r,[]))
def SLo(l:List Per)(i:Nat):KV:=[(1,perS l),(7,.i (i:Int))]
theorem zp0:zd prog 9 zqu:=by
 refine zh' f9 λp hp O w0 Q hq=> ?_
 obtain⟨d,l,days⟩:=p;replace hp:l.length<2^60:=hp;refine zc.n zD [1,7] (let v1:List Blk:=[.box [.str d.long,.str d.short,.str d.ccy,.str d.name,.str d.zb,.str d.zg]];.ite (bif bif bif bif bif bif bif decide ((200:Int)<(d.long.length:Int)) then true else decide ((200:Int)<(d.short.length:Int)) then true else decide ((200:Int)<(d.ccy.length:Int)) then true else decide ((200:Int)<(d.name.length:Int)) then true else decide ((2500:Int)<(d.zb.length:Int)) then true else decide ((2500:Int)<(d.zg.length:Int)) then true else decide ((60:Int)<l.length) then true else decide ((200:Int)<days.length)) (.R [.bool true] v1) (.leaf (.loop (lps K9 0).1 (lps K9 0).2 [(1,.sl l.length 3 (perG l)),(7,.i 0)] v1))) ?_;simp only [Tree.holds,zf];have hqt:Q (.bool true,[]):=hq true (λh=>by cases h);refine⟨λh=>RetR.scal hqt rfl (by simp [resV]),λh=> ?_⟩
 have hs:Tm.fits d/\l.length<=60/\days.length<=200:=by
  simp only [Bool.cond_true_left,Bool.or_eq_false_iff,aV] at h;unfold Tm.fits;omega
 refine zc.loop (ι:={i:Nat // i<=l.length/\∀ j,j<i->(l.getD j Per.nil).part.length<=300}) (λi=>SLo l i.1) (λi=>[.box [.str d.long,.str d.short,.str d.ccy,.str d.name,.str d.zb,.str d.zg]]) (λi=>l.length - i.1) ⟨0,aI _,λj hj=>absurd hj (Nat.not_lt_zero j)⟩ 0 ?_ ?_ (by kernel_rfl)
 ·exact⟨by simp [SLo,perS,za],by simp,by kernel_rfl,aI _⟩
 ·rintro⟨i,hil,hall⟩;refine zc.n zD [1,7] (let v1:List Blk:=[.box [.str d.long,.str d.short,.str d.ccy,.str d.name,.str d.zb,.str d.zg]];.D ((i:Int)<l.length) (.side ((0:Int)<=i/\(i:Int)<l.length) (.D ((300:Int)<(↑(List.length (Per.part (l.getD (i:Int).toNat Per.nil))):Int)) (.R [.bool true] v1) (.S (i+1) (.leaf (.back 0 [(1,.sl l.length 3 (perG l)),(7,.i (i+1))] v1))))) (.R [.bool false] v1)) ?_;simp only [Tree.holds,zf,inR,lo,hi,aD];refine⟨λhlt=> ?_,λhge=> ?_⟩
  ·have hlt:i<l.length:=by have:=aB hlt; omega
   refine⟨by omega,λ_=>⟨λ_=>RetR.scal hqt rfl (by simp [resV]),λh3=>⟨by omega,λ_=> ?_⟩⟩⟩;rw [aP trivial];have h3:(l.getD i Per.nil).part.length<=300:=by have:=aC h3; omega
   refine⟨⟨i+1,hlt,λj hj=> ?_⟩,by show l.length - (i+1)<l.length - i; omega,by simp [SLo,perS,za],by simp,by kernel_rfl,aI _⟩;rcases Nat.lt_succ_iff_lt_or_eq.1 hj with hj | rfl
   ·exact hall j hj
   ·exact h3
  ·have hge:i=l.length:=by have:=aC hge; omega
   subst hge;exact RetR.scal (hq false λ_=>⟨hs.1,hs.2.1,hs.2.2,hall⟩) rfl (by simp [resV])
end Go.Proofs.Tryz
end
section
namespace Go.Nov
open Go.Sx
namespace Tm
end Tm
end Go.Nov
end
section
namespace Go.Nov
end Go.Nov
end
section
set_option maxRecDepth 100000
open Go Go.Sx Go.Proofs Go.Nov
namespace Go.Proofs.Tryz
attribute [local simp] eqKV eqA eqA0 eqH eqB eqL eqL0
noncomputable def GSwp:=tb zau tz
def zrb:Ctr:=ctrP false (λx:PeA=>[x.d.av,perS x.l]) (λx=>x.ok) (λ_ (_:Unit)=>True) (λx _=>(.tup [(Tm.WO (Tm.legS x.d) x.d x.l).conD,.i (Tm.Js (Tm.legS x.d) x.d x.l)],[]))
theorem zq7:zd prog 19 zrb:=by
 refine zh' f19 λp hp O w0 Q hq=> ?_
 obtain⟨d,l,fl⟩:=p;replace hq:=hq () trivial;refine zc.n GSwp.h [] (.ex (λ(x:PeA)=>eqL [d.av,.sl l.length 3 (perG l),.fn 46 [] [.ptr 0 0]] [x.d.av,.sl x.l.length 3 (perG x.l),.fn 46 [] [.ptr 0 0]]/\eqH [.box [.str d.long,.str d.short,.str d.ccy,.str d.name,.str d.zb,.str d.zg]] [.box [.str x.d.long,.str x.d.short,.str x.d.ccy,.str x.d.name,.str x.d.zb,.str x.d.zg]]/\1=1/\PeA.ok x) λn=>let v1:=Tm.WO (zQ n.d n.fl) n.d n.l;.A λn_1=>.R [v1.conD,.i (Tm.Js (zQ n.d n.fl) n.d n.l)] [.box [.str n.d.long,.str n.d.short,.str n.d.ccy,.str n.d.name,.str n.d.zb,.str n.d.zg],.box v1.zl]) ?_;simp only [Tree.holds,zf];refine⟨⟨d,l,fl⟩,⟨⟨⟨rfl,rfl,rfl,rfl,rfl,rfl,trivial⟩,⟨rfl,rfl,za _ _ _⟩,rfl,trivial⟩,by simp,trivial,hp⟩,⟨(),trivial⟩,λ_ _=> ?_⟩;exact RetR.le0 hq (λh=>by cases h) (LeA.refl _)
end Go.Proofs.Tryz
end
section
namespace Go.Nov
open Go.Sx
structure Ev where
 v:L8
 e:Int
 b:Bool
 g:Int
abbrev Ev.nil:Ev:=⟨[],0,false,0⟩
def jW(k:Int)(a b:L8):L8×Int:=
 if k=7 then(if(cmpR a b).2≠0 then([],(cmpR a b).2) else(if(cmpR a b).1<0 then b else a,0))
 else(if(cmpR b a).2≠0 then([],(cmpR b a).2) else(if(cmpR b a).1<0 then b else a,0))
def opR(k:Int)(a b:L8):L8×Int:=if k=4 then addR a b else if k=5 then subR a b else if k=6 then mulR a b else jW k a b
def fixR(f:List Fx)(a:L8)(d:Int):L8×Int:=if(qu f a d).2=true then((qu f a d).1,0) else([],30)
def xJ{α:Type}(z:α)(l0 l1:Ev)(f:L8->L8->α×Int):α×Int:=if l0.e≠0 then(z,l0.e) else if l1.e≠0 then(z,l1.e) else f l0.v l1.v
def valN(f:List Fx)(day k:Int)(r n:L8)(d:Int)(l:List Ev):L8×Int:=
 if k=1 then(r,0) else if k=2 then fixR f n d else if k=3 then fixR f n day
 else if k=9 then(if(l.getD 0 Ev.nil).g≠0 then([],(l.getD 0 Ev.nil).g) else if(l.getD 0 Ev.nil).b then((l.getD 1 Ev.nil).v,(l.getD 1 Ev.nil).e) else((l.getD 2 Ev.nil).v,(l.getD 2 Ev.nil).e))
 else xJ [] (l.getD 0 Ev.nil) (l.getD 1 Ev.nil) (opR k)
def Yz(k:Int)(a b:L8):Bool×Int:=if(cmpR a b).2≠0 then(false,(cmpR a b).2) else(if k=11 then decide ((cmpR a b).1<0) else decide ((cmpR a b).1=0),0)
def hldN(k:Int)(l:List Ev):Bool×Int:=
 if 13<=k then(if(l.getD 0 Ev.nil).g≠0 then(false,(l.getD 0 Ev.nil).g) else if k=15 then(!(l.getD 0 Ev.nil).b,0)
  else if(l.getD 0 Ev.nil).b=decide (k=14) then((l.getD 0 Ev.nil).b,0) else((l.getD 1 Ev.nil).b,(l.getD 1 Ev.nil).g))
 else xJ false (l.getD 0 Ev.nil) (l.getD 1 Ev.nil) (Yz k)
def evN(f:List Fx)(day k:Int)(r n:L8)(d:Int)(l:List Ev):Ev:=⟨(valN f day k r n d l).1,(valN f day k r n d l).2,(hldN k l).1,(hldN k l).2⟩
namespace Ex
mutual
def ev(f:List Fx)(day:Int):Ex->Ev
 | mk k r n d s=>evN f day k r n d (evs f day s)
def evs(f:List Fx)(day:Int):List Ex->List Ev
 | []=>[]
 | x::l=>ev f day x::evs f day l
end
theorem qZ{f:List Fx}{day:Int}{s:List Ex}{i:Nat}(h:i<s.length):(evs f day s).getD i Ev.nil=(s.getD i nil).ev f day:=by
 induction s generalizing i with
 | nil=>simp at h
 | cons x s ih=>
  rw [evs];cases i with
  | zero=>rfl
  | succ i=>exact ih (by simpa using h)
theorem VD{x:Ex}(h:x.zt=1):(x.kind=1/\errR x.rat=0)\/x.kind=2\/x.kind=3 \/
  ((4<=x.kind/\x.kind<=8)/\x.sub.length=2/\(x.sub.getD 0 nil).zt=1/\(x.sub.getD 1 nil).zt=1) \/
  (x.kind=9/\x.sub.length=3/\(x.sub.getD 0 nil).zt=2/\(x.sub.getD 1 nil).zt=1/\(x.sub.getD 2 nil).zt=1):=by
 rw [Wk] at h;by_cases hk:qH x.kind=true
 ·have hk2:(4<=x.kind/\x.kind<=9)\/(11<=x.kind/\x.kind<=15):=by
   by_cases h1:4<=x.kind/\x.kind<=9
   ·exact .inl h1
   ·by_cases h2:11<=x.kind/\x.kind<=15
    ·exact .inr h2
    ·rw [zc6 h1 h2] at hk; cases hk
  have two:∀ {k:Int} {ps:List Int} {w:Int},ur k=some (ps,w)->wO k x.rat x.name x.date (zP x.sub)=1->w=1/\x.sub.length=ps.length/\∀ i,i<x.sub.length->(x.sub.getD i nil).zt=ps.getD i 0:=by
   intro k ps w hs hn;rw [Qg hs] at hn;split at hn
   ·rename_i hc;exact⟨hn,Zi.1 hc.2⟩
   ·cases hn
  generalize x.kind=k at h hk2 ⊢;have hk3:k=4\/k=5\/k=6\/k=7\/k=8\/k=9\/k=11\/k=12\/k=13\/k=14\/k=15:=by omega
  right; right; right;rcases hk3 with rfl | rfl | rfl | rfl | rfl | rfl | rfl | rfl | rfl | rfl | rfl
  iterate 5
   ·left;obtain⟨_,h2,h3⟩:=two rfl h;exact⟨by decide,h2,h3 0 (by rw [h2]; decide),h3 1 (by rw [h2]; decide)⟩
  ·right;obtain⟨_,h2,h3⟩:=two rfl h;exact⟨rfl,h2,h3 0 (by rw [h2]; decide),h3 1 (by rw [h2]; decide),h3 2 (by rw [h2]; decide)⟩
  all_goals
   obtain⟨h1,_⟩:=two rfl h;cases h1
 ·have hk:qH x.kind=false:=by simpa using hk
  rw [jt hk] at h;split at h
  ·rename_i hl;simp only [qV,bA] at hl;obtain⟨_,hl⟩:=hl;split at hl
   ·rename_i h1;simp only [bA,aK] at hl;exact .inl ⟨h1,hl.1.1⟩
   ·split at hl
    ·rename_i h2; exact .inr (.inl h2)
    ·split at hl
     ·rename_i h3; exact .inr (.inr (.inl h3))
     ·cases hl
  ·cases h
theorem Yt{x:Ex}(h:x.zt=2):((x.kind=11\/x.kind=12)/\x.sub.length=2/\(x.sub.getD 0 nil).zt=1/\(x.sub.getD 1 nil).zt=1) \/
  ((x.kind=13\/x.kind=14)/\x.sub.length=2/\(x.sub.getD 0 nil).zt=2/\(x.sub.getD 1 nil).zt=2)\/(x.kind=15/\x.sub.length=1/\(x.sub.getD 0 nil).zt=2):=by
 rw [Wk] at h;by_cases hk:qH x.kind=true
 ·have hk2:(4<=x.kind/\x.kind<=9)\/(11<=x.kind/\x.kind<=15):=by
   by_cases h1:4<=x.kind/\x.kind<=9
   ·exact .inl h1
   ·by_cases h2:11<=x.kind/\x.kind<=15
    ·exact .inr h2
    ·rw [zc6 h1 h2] at hk; cases hk
  have two:∀ {k:Int} {ps:List Int} {w:Int},ur k=some (ps,w)->wO k x.rat x.name x.date (zP x.sub)=2->w=2/\x.sub.length=ps.length/\∀ i,i<x.sub.length->(x.sub.getD i nil).zt=ps.getD i 0:=by
   intro k ps w hs hn;rw [Qg hs] at hn;split at hn
   ·rename_i hc;exact⟨hn,Zi.1 hc.2⟩
   ·cases hn
  generalize x.kind=k at h hk2 ⊢;have hk3:k=4\/k=5\/k=6\/k=7\/k=8\/k=9\/k=11\/k=12\/k=13\/k=14\/k=15:=by omega
  rcases hk3 with rfl | rfl | rfl | rfl | rfl | rfl | rfl | rfl | rfl | rfl | rfl
  iterate 6
   ·obtain⟨h1,_⟩:=two rfl h;cases h1
  ·obtain⟨_,h2,h3⟩:=two rfl h;exact .inl ⟨.inl rfl,h2,h3 0 (by rw [h2]; decide),h3 1 (by rw [h2]; decide)⟩
  ·obtain⟨_,h2,h3⟩:=two rfl h;exact .inl ⟨.inr rfl,h2,h3 0 (by rw [h2]; decide),h3 1 (by rw [h2]; decide)⟩
  ·obtain⟨_,h2,h3⟩:=two rfl h;exact .inr (.inl ⟨.inl rfl,h2,h3 0 (by rw [h2]; decide),h3 1 (by rw [h2]; decide)⟩)
  ·obtain⟨_,h2,h3⟩:=two rfl h;exact .inr (.inl ⟨.inr rfl,h2,h3 0 (by rw [h2]; decide),h3 1 (by rw [h2]; decide)⟩)
  ·obtain⟨_,h2,h3⟩:=two rfl h;exact .inr (.inr ⟨rfl,h2,h3 0 (by rw [h2]; decide)⟩)
 ·have hk:qH x.kind=false:=by simpa using hk
  rw [jt hk] at h;split at h<;>cases h
end Ex
theorem zml{f:List Fx}{a:L8}{d:Int}(h:(qu f a d).2=false):(qu f a d).1=[]:=by
 unfold qu at h ⊢;split
 ·rename_i y hy; rw [hy] at h; cases h
 ·rfl
theorem XG{f:List Fx}(hf:f.all okF=true){a:L8}{d:Int}(h:(fixR f a d).2=0):errR (fixR f a d).1=0:=by
 unfold fixR at h ⊢;split
 ·rename_i h1;unfold qu at h1 ⊢;split at h1
  ·rename_i y hy;have hm:=List.mem_of_find?_eq_some hy;have:=bG.1 hf _ hm;simp only [okF,bA,aK] at this;exact this.2
  ·cases h1
 ·rename_i h1;rw [aO h1] at h;cases h
theorem zjs{k:Int}{a b:L8}(ha:errR a=0)(hb:errR b=0)(h:(jW k a b).2=0):errR (jW k a b).1=0:=by
 unfold jW at h ⊢;split
 ·rename_i h1;rw [aP h1] at h;split
  ·rename_i h2; rw [aP h2] at h; exact absurd h h2
  ·simp only; split<;>assumption
 ·rename_i h1;rw [aO h1] at h;split
  ·rename_i h2; rw [aP h2] at h; exact absurd h h2
  ·simp only; split<;>assumption
theorem zti{k:Int}{a b:L8}(ha:errR a=0)(hb:errR b=0)(h:(opR k a b).2=0):errR (opR k a b).1=0:=by
 unfold opR at h ⊢;split
 ·rename_i h1; rw [aP h1] at h; exact(zoc ha hb h).1
 ·rename_i h1;rw [aO h1] at h;split
  ·rename_i h2; rw [aP h2] at h; exact(yX ha hb h).1
  ·rename_i h2;rw [aO h2] at h;split
   ·rename_i h3; rw [aP h3] at h; exact(yW ha hb h).1
   ·rename_i h3;rw [aO h3] at h;exact zjs ha hb h
theorem jK{a:L8}(h:errR a=0):a.length<=2003:=by
 have h1:=(kG h).2.2.1;rw [<- h1];unfold qstr wz;have g1:=ky (decide ((qv a).num<0)) (qv a).num.natAbs;have g2:=ky (decide (((qv a).den:Int)<0)) ((qv a).den:Int).natAbs;split
 ·omega
 ·simp only [bO,aL,List.length_nil];omega
theorem Ex.Z8{f:List Fx}(hf:f.all okF=true)(day:Int):∀ x:Ex,x.zt=1->(x.ev f day).e=0->errR (x.ev f day).v=0
 | .mk k r n d s,hs,he=>by
  have hc:=Ex.VD hs;simp only [Ex.kind,Ex.rat,Ex.sub] at hc;rw [Ex.ev] at he ⊢;simp only [evN] at he ⊢;unfold valN at he ⊢;rcases hc with ⟨rfl,h1⟩ | rfl | rfl | ⟨⟨h1,h2⟩,h3,h4,h5⟩ | ⟨rfl,h3,h4,h5,h6⟩
  ·simpa using h1
  ·simp only [show ¬ (2:Int)=1 by decide,if_false,if_true] at he ⊢;exact XG hf he
  ·simp only [show ¬ (3:Int)=1 by decide,show ¬ (3:Int)=2 by decide,if_false,if_true] at he ⊢;exact XG hf he
  ·rw [aO (by omega),aO (by omega),aO (by omega),aO (by omega)] at he ⊢;rw [Ex.qZ (by omega),Ex.qZ (by omega)] at he ⊢;unfold xJ at he ⊢;have w0:s.getD 0 Ex.nil∈s:=by simp [List.getD,aF (show 0<s.length by omega)]
   have w1:s.getD 1 Ex.nil∈s:=by simp [List.getD,aF (show 1<s.length by omega)]
   split
   ·rename_i g; rw [aP g] at he; exact absurd he g
   ·rename_i g;rw [aO g] at he;split
    ·rename_i g2; rw [aP g2] at he; exact absurd he g2
    ·rename_i g2;rw [aO g2] at he;rw [Classical.not_not] at g g2;exact zti (Ex.Z8 hf day _ h4 g) (Ex.Z8 hf day _ h5 g2) he
  ·simp only [show ¬ (9:Int)=1 by decide,show ¬ (9:Int)=2 by decide,show ¬ (9:Int)=3 by decide,if_false,if_true] at he ⊢;rw [Ex.qZ (by omega),Ex.qZ (by omega),Ex.qZ (by omega)] at he ⊢;have w1:s.getD 1 Ex.nil∈s:=by simp [List.getD,aF (show 1<s.length by omega)]
   have w2:s.getD 2 Ex.nil∈s:=by simp [List.getD,aF (show 2<s.length by omega)]
   split
   ·rename_i g; rw [aP g] at he; exact absurd he g
   ·rename_i g;rw [aO g] at he;split
    ·rename_i g2; rw [aP g2] at he; exact Ex.Z8 hf day _ h5 he
    ·rename_i g2; rw [aO g2] at he; exact Ex.Z8 hf day _ h6 he
termination_by x=>x.size
decreasing_by
 all_goals
  rw [Ex.size];have a0:=Ex.qo (s:=s) (i:=0);have a1:=Ex.qo (s:=s) (i:=1);have a2:=Ex.qo (s:=s) (i:=2)
  first
  | (have:=a0 (by omega); omega)
  | (have:=a1 (by omega); omega)
  | (have:=a2 (by omega); omega)
theorem zgo{a b:L8}(ha:errR a=0)(hb:errR b=0):zG b a=zG a b:=by
 have h1:jc a b=0:=by unfold jc; rw [aP ha]; exact hb
 have h2:jc b a=0:=by unfold jc; rw [aP hb]; exact ha
 unfold zG;have n0:¬ (0:Int)≠0:=by simp
 rw [h1,h2,aO n0,aO n0];by_cases h:(mulI (numR a) (denR b)).2≠0\/(mulI (numR b) (denR a)).2≠0
 ·rw [aP h,aP h.symm]
 ·rw [aO h,aO λh2=>h h2.symm]
theorem zhv{a b:L8}(ha:errR a=0)(hb:errR b=0):(cmpR b a).2=(cmpR a b).2/\((cmpR b a).1<0↔0<(cmpR a b).1):=by
 have hs:=zgo ha hb;rcases za9 ha hb with h1 | h1
 ·have hc:zG a b≠0:=λh0=>by
   have:cmpR a b=y8 (mulI (numR a) (denR b)).1 (mulI (numR b) (denR a)).1:=by unfold cmpR; rw [h0]; rfl
   rcases yP ha hb with h | ⟨_,m1,m2,k1,k2⟩
   ·rw [h] at h0; cases h0
   ·rw [m1] at k1; rw [m2] at k2;rw [this,m1,m2] at h1;unfold y8 at h1;rw [aP (zk.2 ⟨jG k1,jG k2⟩)] at h1;exact absurd (show(0:Int)=14 from congrArg Prod.snd h1) (by decide)
  have:cmpR b a=(0,zG b a):=by unfold cmpR; rw [aP (by rw [hs]; exact hc)]
  have h2:cmpR a b=(0,zG a b):=by unfold cmpR; rw [aP hc]
  rw [this,h2,hs];exact⟨rfl,Iff.rfl⟩
 ·rcases za9 hb ha with h2 | h2
  ·have hc:zG a b=0:=by
    by_cases h0:zG a b=0
    ·exact h0
    ·have:cmpR a b=(0,zG a b):=by unfold cmpR; rw [aP h0]
     rw [this] at h1;exact absurd (congrArg Prod.snd h1) h0
   rcases yP hb ha with h | ⟨_,m1,m2,k1,k2⟩
   ·rw [hs,hc] at h; cases h
   ·rw [m1] at k1; rw [m2] at k2;unfold cmpR at h2;rw [hs,hc,aO (by simp),m1,m2] at h2;unfold y8 at h2;rw [aP (zk.2 ⟨jG k1,jG k2⟩)] at h2;exact absurd (show(0:Int)=14 from congrArg Prod.snd h2) (by decide)
  ·rw [h1,h2];refine⟨rfl,?_⟩;simp only;by_cases g1:qv a<qv b
   ·have g2:¬ qv b<qv a:=λg=>(Rat.lt_iff_le_and_not_ge.1 g1).2 (Rat.le_of_lt g)
    rw [aP g1,aO g2,aP g1]; decide
   ·rw [aO g1,aO g1];by_cases g2:qv b<qv a
    ·rw [aP g2,aP g2]; decide
    ·rw [aO g2,aO g2]
end Go.Nov
end
section
namespace Go.Nov
def askE(x:Ex)(want day:Int)(f:List Fx)(c:List Ch):Int:=if x.errX≠0 then x.errX else if x.zt≠want then 32 else if errE f c≠0 then errE f c else if dayB day then 0 else 2
def jR(x:Ex)(day:Int)(f:List Fx)(c:List Ch):L8×Int:=if askE x 1 day f c≠0 then([],askE x 1 day f c) else if(x.ev f day).e≠0 then([],(x.ev f day).e) else((x.ev f day).v,0)
def xS(x:Ex)(day:Int)(f:List Fx)(c:List Ch):Bool×Int:=if askE x 2 day f c≠0 then(false,askE x 2 day f c) else if(x.ev f day).g≠0 then(false,(x.ev f day).g) else((x.ev f day).b,0)
theorem zu7{x:Ex}{want day:Int}{f:List Fx}{c:List Ch}(h:x.errX≠0):askE x want day f c=x.errX:=by unfold askE; rw [aP h]
theorem zud{x:Ex}{want day:Int}{f:List Fx}{c:List Ch}(h:x.errX=0)(h2:¬ x.zt=want):askE x want day f c=32:=by unfold askE; rw [aO (by rw [h]; simp),aP h2]
theorem zr9{x:Ex}{want day:Int}{f:List Fx}{c:List Ch}(h:x.errX=0)(h2:x.zt=want):askE x want day f c=if errE f c=0 then(if dayB day=true then 0 else 2) else errE f c:=by
 unfold askE;rw [aO (by rw [h]; simp),aO (by rw [h2]; simp)];by_cases g:errE f c=0
 ·rw [aP g,aO (by rw [g]; simp)]
 ·rw [aO g,aP g]
theorem WI{x:Ex}{want day:Int}{f:List Fx}{c:List Ch}(h:askE x want day f c=0):x.errX=0/\x.zt=want/\errE f c=0/\dayB day=true:=by
 unfold askE at h;split at h
 ·rename_i g; exact absurd h g
 ·rename_i g1;split at h
  ·cases h
  ·rename_i g2;split at h
   ·rename_i g; exact absurd h g
   ·rename_i g3;split at h
    ·rename_i g4;exact⟨Classical.not_not.1 g1,Classical.not_not.1 g2,Classical.not_not.1 g3,g4⟩
    ·cases h
end Go.Nov
end
section
namespace Go.Nov
open Go.Sx
structure Fl where
 date:Int
 src:L8
 dst:L8
 ccy:L8
 amt:L8
def Fl.nil:Fl:=⟨0,[],[],[],[]⟩
def Fl.cell(f:Fl):Nat->AV
 | 0=>.i f.date
 | 1=>.str f.src
 | 2=>.str f.dst
 | 3=>.str f.ccy
 | 4=>.str f.amt
 | _=>.undef
def flG(l:List Fl):Nat->Nat->AV:=λj=>(l.getD j Fl.nil).cell
def flS(l:List Fl):AV:=.sl l.length 5 (flG l)
def Fl.av(f:Fl):AV:=.agg [.i f.date,.str f.src,.str f.dst,.str f.ccy,.str f.amt]
def payF(d:Int)(a b n r:L8):List Fl:=if r=[48] then [] else if r.getD 0 0=45 then [⟨d,b,a,n,r.drop 1⟩] else [⟨d,a,b,n,r⟩]
def firstM(is:Int->Except Int Bool)(day fin:Int):List Int->Except Int Int
 | []=>.ok fin
 | d::l=>if fin<=d then .ok fin else if day<=d then(match is d with
  | .error e=>.error e
  | .ok true=>.ok d
  | .ok false=>firstM is day fin l) else firstM is day fin l
def qW(k:L8):List Fl->Except Int (List Fl)
 | []=>.ok []
 | f::l=>if(mulR f.amt k).2≠0 then .error (mulR f.amt k).2 else match qW k l with
  | .error e=>.error e
  | .ok m=>.ok (payF f.date f.src f.dst f.ccy (mulR f.amt k).1++m)
def valM(x:Ex)(d:Int)(f:List Fx)(c:List Ch):Except Int (L8):=if(jR x d f c).2=0 then .ok (jR x d f c).1 else .error (jR x d f c).2
def holM(x:Ex)(d:Int)(f:List Fx)(c:List Ch):Except Int Bool:=if(xS x d f c).2=0 then .ok (xS x d f c).1 else .error (xS x d f c).2
def andM{α β:Type}(x:Except Int α)(k:α->Except Int β):Except Int β:=match x with
 | .error e=>.error e
 | .ok a=>k a
mutual
def flM(f:List Fx)(c:List Ch):Con->Int->Int->Except Int (List Fl)
 | .mk k a b n x d l s=>λday fin=>
  if fin<=day then .ok []
  else if k=2 then andM (valM x day f c) λr=>.ok (payF day a b n r)
  else if k=3 then andM ((flMs f c s).getD 0 (λ_ _=>.ok []) day fin) λu=>andM ((flMs f c s).getD 1 (λ_ _=>.ok []) day fin) λv=>.ok (u++v)
  else if k=4 then andM (valM x day f c) λr=>andM ((flMs f c s).getD 0 (λ_ _=>.ok []) day fin) λu=>qW r u
  else if k=5 then andM (holM x day f c) λt=>(flMs f c s).getD (if t=true then 0 else 1) (λ_ _=>.ok []) day fin
  else if k=6 then(if day<=d then(flMs f c s).getD 0 (λ_ _=>.ok []) d fin else .ok [])
  else if k=7 then(flMs f c s).getD (if qh c a n day=true then 0 else 1) (λ_ _=>.ok []) day fin
  else if k=8 then andM (firstM (λt=>.ok (qh c a n t)) day fin l) λt=>(flMs f c s).getD 0 (λ_ _=>.ok []) t fin
  else if k=9 then andM (firstM (λt=>holM x t f c) day fin l) λt=>(flMs f c s).getD 0 (λ_ _=>.ok []) day t
  else if k=10 then andM (firstM (λt=>holM x t f c) day fin l) λt=>(flMs f c s).getD 0 (λ_ _=>.ok []) t fin
  else .ok []
def flMs(f:List Fx)(c:List Ch):List Con->List (Int->Int->Except Int (List Fl))
 | []=>[]
 | e::s=>flM f c e::flMs f c s
end
theorem Ya(f:List Fx)(c:List Ch):∀ (s:List Con) (i:Nat),i<s.length->(flMs f c s).getD i (λ_ _=>.ok [])=flM f c (s.getD i Con.nil)
 | [],_,h=>by simp at h
 | e::s,0,_=>by rw [flMs]; rfl
 | e::s,i+1,h=>by rw [flMs,List.getD_cons_succ,List.getD_cons_succ]; exact Ya f c s i (by simpa using h)
def insF(x:Fl):List Fl->List Fl
 | []=>[x]
 | y::l=>if y.date<=x.date then y::insF x l else x::y::l
def ordM(l:List Fl):List Fl:=l.foldl (λm x=>insF x m) []
def befM(c:Con)(day fin:Int)(f:List Fx)(h:List Ch):List Fl×Int:=
 if c.errC≠0 then([],c.errC) else if errE f h≠0 then([],errE f h) else if day<0\/99999<day\/fin<0\/100000<fin then([],2) else match flM f h c day fin with
  | .error e=>([],e)
  | .ok l=>(ordM l,0)
def jm(c:Con)(day:Int)(f:List Fx)(h:List Ch):List Fl×Int:=befM c day 100000 f h
def jx(l:List Fl):Prop:=l.Pairwise λx y=>x.date<=y.date
def onF(d:Int)(l:List Fl):List Fl:=l.filter λy=>decide (y.date=d)
theorem qj(d:Int)(x:Fl)(l:List Fl):onF d (x::l)=if x.date=d then x::onF d l else onF d l:=by
 unfold onF; rw [List.filter_cons]; by_cases h:x.date=d<;>simp [h]
theorem zcx(d:Int)(l m:List Fl):onF d (l++m)=onF d l++onF d m:=by unfold onF; rw [List.filter_append]
theorem UA{d:Int}{l:List Fl}(h:∀ y∈l,d<y.date):onF d l=[]:=by
 unfold onF;rw [List.filter_eq_nil_iff];intro y hy;have:=h y hy;simp; omega
theorem Kd:∀ {l m:List Fl},jx l->jx m->(∀ d,onF d l=onF d m)->l=m
 | [],[],_,_,_=>rfl
 | [],y::m,_,_,h=>by have:=h y.date; rw [qj,aP rfl] at this; cases this
 | x::l,[],_,_,h=>by have:=h x.date; rw [qj,aP rfl] at this; cases this
 | x::l,y::m,hl,hm,h=>by
  unfold jx at hl hm;rw [List.pairwise_cons] at hl hm;have mem:∀ {z:Fl} {n:List Fl},z∈onF z.date n->z∈n:=λhz=>(List.mem_filter.1 hz).1
  have h1:y.date<=x.date:=by
   have:x∈onF x.date (y::m):=by rw [<- h,qj,aP rfl]; simp
   rcases aM.1 (mem this) with e | e
   ·rw [e]; exact Int.le_refl _
   ·exact hm.1 x e
  have h2:x.date<=y.date:=by
   have:y∈onF y.date (x::l):=by rw [h,qj,aP rfl]; simp
   rcases aM.1 (mem this) with e | e
   ·rw [e]; exact Int.le_refl _
   ·exact hl.1 y e
  have h3:y.date=x.date:=by omega
  have h4:=h x.date;rw [qj,qj,aP rfl,aP h3] at h4;have h5:x=y:=(List.cons.inj h4).1;subst h5;congr 1;refine Kd hl.2 hm.2 λd=> ?_
  have:=h d;rw [qj,qj] at this;split at this
  ·exact(List.cons.inj this).2
  ·exact this
theorem zeb(x z:Fl):∀ l:List Fl,z∈insF x l↔z=x\/z∈l
 | []=>by simp [insF]
 | y::l=>by
  rw [insF];split
  ·rw [aM,zeb x z l,aM];exact⟨λh=>by rcases h with h | h | h<;>simp [h],λh=>by rcases h with h | h | h<;>simp [h]⟩
  ·simp
theorem UF(x:Fl):∀ {l:List Fl},jx l->jx (insF x l)
 | [],_=>by unfold jx; simp [insF]
 | y::l,h=>by
  unfold jx at h;rw [List.pairwise_cons] at h;rw [insF];split
  ·rename_i hle;unfold jx;rw [List.pairwise_cons];refine⟨λz hz=> ?_,UF x h.2⟩;rcases(zeb x z l).1 hz with e | e
   ·rw [e]; exact hle
   ·exact h.1 z e
  ·rename_i hlt;unfold jx;rw [List.pairwise_cons,List.pairwise_cons];refine⟨λz hz=> ?_,h⟩;rcases aM.1 hz with e | e
   ·rw [e]; omega
   ·have:=h.1 z e; omega
theorem zli(x:Fl)(d:Int):∀ {l:List Fl},jx l->onF d (insF x l)=onF d l++onF d [x]
 | [],_=>by rw [insF]; rfl
 | y::l,h=>by
  have h0:=h;unfold jx at h;rw [List.pairwise_cons] at h;rw [insF];split
  ·rw [qj,qj,zli x d h.2];split<;>simp
  ·rename_i hlt;rw [qj d x];by_cases hx:x.date=d
   ·have hn:onF d (y::l)=[]:=UA λz hz=>by
     rcases aM.1 hz with e | e
     ·rw [e]; omega
     ·have:=h.1 z e; omega
    rw [aP hx,hn,qj,aP hx]; rfl
   ·rw [aO hx,qj d x,aO hx];show _=_++[];rw [List.append_nil]
theorem XC:∀ (l m:List Fl),jx m->jx (l.foldl (λm x=>insF x m) m)/\∀ d,onF d (l.foldl (λm x=>insF x m) m)=onF d m++onF d l
 | [],m,h=>⟨h,λd=>by show onF d m=onF d m++[]; rw [List.append_nil]⟩
 | x::l,m,h=>by
  obtain⟨h1,h2⟩:=XC l (insF x m) (UF x h);refine⟨h1,λd=> ?_⟩;rw [List.foldl_cons,h2,zli x d h,List.append_assoc,<- zcx]; rfl
theorem zj3(l:List Fl):jx (ordM l):=(XC l [] List.Pairwise.nil).1
theorem zsu(d:Int)(l:List Fl):onF d (ordM l)=onF d l:=by
 have:=(XC l [] List.Pairwise.nil).2 d;simpa [ordM,onF] using this
def qw:Nat->List Fl->List Fl->List Fl
 | n+1,x::a,y::b=>if y.date<x.date then y::qw n (x::a) b else x::qw n a (y::b)
 | _,a,b=>a++b
theorem ug(n:Nat)(a:List Fl):qw n a []=a:=by cases n<;>cases a<;>simp [qw]
theorem xx(n:Nat)(b:List Fl):qw n [] b=b:=by cases n<;>simp [qw]
theorem yL(z:Fl):∀ (n:Nat) (a b:List Fl),z∈qw n a b↔z∈a\/z∈b
 | 0,a,b=>by simp [qw]
 | n+1,[],b=>by rw [xx]; simp
 | n+1,x::a,[]=>by rw [ug]; simp
 | n+1,x::a,y::b=>by
  rw [qw];split
  ·rw [aM,yL z n (x::a) b,aM (l:=b)];exact⟨λh=>by rcases h with h | h | h<;>simp [h],λh=>by rcases h with h | h | h<;>simp [h]⟩
  ·rw [aM,yL z n a (y::b),aM (l:=a)];exact⟨λh=>by rcases h with h | h | h<;>simp [h],λh=>by rcases h with (h | h) | h<;>simp [h]⟩
theorem Qc:∀ (n:Nat) (a b:List Fl),a.length+b.length<=n->jx a->jx b->jx (qw n a b)/\∀ d,onF d (qw n a b)=onF d a++onF d b
 | n,[],b,_,_,hb=>by rw [xx]; exact⟨hb,λd=>rfl⟩
 | n,x::a,[],_,ha,_=>by rw [ug]; exact⟨ha,λd=>by show _=_++[]; rw [List.append_nil]⟩
 | 0,x::a,y::b,h,_,_=>by simp at h
 | n+1,x::a,y::b,h,ha,hb=>by
  have ha':=ha;have hb':=hb;unfold jx at ha' hb';rw [List.pairwise_cons] at ha' hb';simp only [aL] at h;rw [qw];split
  ·rename_i hlt;obtain⟨h1,h2⟩:=Qc n (x::a) b (by simp only [aL]; omega) ha hb'.2;refine⟨?_,λd=> ?_⟩
   ·unfold jx;rw [List.pairwise_cons];refine⟨λz hz=> ?_,h1⟩;rcases(yL z n _ _).1 hz with e | e
    ·rcases aM.1 e with e | e
     ·rw [e]; omega
     ·have:=ha'.1 z e; omega
    ·exact hb'.1 z e
   ·rw [qj,h2,qj d y b];by_cases hy:y.date=d
    ·have hn:onF d (x::a)=[]:=UA λz hz=>by
      rcases aM.1 hz with e | e
      ·rw [e]; omega
      ·have:=ha'.1 z e; omega
     rw [aP hy,aP hy,hn]; rfl
    ·rw [aO hy,aO hy]
  ·rename_i hge;obtain⟨h1,h2⟩:=Qc n a (y::b) (by simp only [aL]; omega) ha'.2 hb;refine⟨?_,λd=> ?_⟩
   ·unfold jx;rw [List.pairwise_cons];refine⟨λz hz=> ?_,h1⟩;rcases(yL z n _ _).1 hz with e | e
    ·exact ha'.1 z e
    ·rcases aM.1 e with e | e
     ·rw [e]; omega
     ·have:=hb'.1 z e; omega
   ·rw [qj,h2,qj d x a];split<;>simp
def ordP:Nat->List Fl->List Fl
 | 0,l=>l
 | n+1,l=>if l.length<2 then l else qw l.length (ordP n (l.take (l.length/2))) (ordP n (l.drop (l.length/2)))
theorem Z4:∀ (n:Nat) (l:List Fl),l.length<=n->jx (ordP n l)/\(∀ d,onF d (ordP n l)=onF d l)/\(ordP n l).length=l.length
 | 0,l,h=>by
  obtain rfl:l=[]:=aU.1 (by omega);exact⟨List.Pairwise.nil,λd=>rfl,rfl⟩
 | n+1,l,h=>by
  rw [ordP];split
  ·rename_i h2;refine⟨?_,λd=>rfl,rfl⟩
   match l,h2 with
   | [],_=>exact List.Pairwise.nil
   | [x],_=>unfold jx; simp
  ·have e1:(l.take (l.length/2)).length<=n:=by rw [aH]; omega
   have e2:(l.drop (l.length/2)).length<=n:=by rw [bV]; omega
   obtain⟨a1,a2,a3⟩:=Z4 n _ e1;obtain⟨b1,b2,b3⟩:=Z4 n _ e2
   have hlen:(ordP n (l.take (l.length/2))).length+(ordP n (l.drop (l.length/2))).length=l.length:=by
    rw [a3,b3,aH,bV]; omega
   obtain⟨c1,c2⟩:=Qc l.length _ _ (by omega) a1 b1;refine⟨c1,λd=> ?_,?_⟩
   ·rw [c2,a2,b2,<- zcx,bU]
   ·rw [Qy,hlen]
where
 Qy:∀ {n:Nat} {a b:List Fl},(qw n a b).length=a.length+b.length
  | 0,a,b=>by simp [qw]
  | n+1,[],b=>by rw [xx]; simp
  | n+1,x::a,[]=>by rw [ug]; simp
  | n+1,x::a,y::b=>by
   rw [qw];split
   ·rw [aL,Qy]; simp; omega
   ·rw [aL,Qy]; simp; omega
theorem Z2{n:Nat}{l:List Fl}(h:l.length<=n):ordP n l=ordM l:=by
 obtain⟨h1,h2,_⟩:=Z4 n l h;exact Kd h1 (zj3 l) λd=>by rw [h2,zsu]
end Go.Nov
end
section
namespace Go.Sx
variable [Stat]
def Zz(T:TypeId)(e:Int):List PanicEntry:=[{ v:=.iface T (.agg #[.i e]),recovered:=false }]
def okM{α:Type} : Except Int α->Bool
 | .ok _=>true
 | .error _=>false
def getM{α:Type}(d:α):Except Int α->α
 | .ok a=>a
 | .error _=>d
def ctrS{X:Type}(inp:X->List AV)(hin:X->Heap)(pre:X->Prop)(ok:X->Bool)(out:X->AV×Heap):Ctr where
 fresh:=false
 spec args hc:=.ex (λx=>eqL args (inp x)/\eqH hc (hin x)/\hc.length=(hin x).length/\pre x) λx=>.ite (ok x) (.leaf (out x)) (.leaf (.bot,hin x))
theorem y6{Xp:List PanicEntry->Prop}{P:Program}{fn:Func}{X:Type}{inp:X->List AV}{hin:X->Heap}{pre:X->Prop}{ok:X->Bool}{out:X->AV×Heap}{g:Nat}{c:Code}(hf:P.funcs[g]?=some fn)(hb:fn.body=some c) (hn:(fn.name == "runtime.NumGoroutine")=false)
  (H:∀ x,pre x->∀ (O:Nat->Prop) (w0:World) (I0:List SE) (Q:AV×Heap->Prop),I0.length=(hin x).length->(ok x=true->Q (out x)) ->
   UW Xp P fn O (hin x).length w0 I0 (λ_ _ _=>False) (RetR (ctrS inp hin pre ok out) (hin x).length Q) [.code c] (wS fn (inp x) (hin x))):z9 Xp P g (ctrS inp hin pre ok out):=by
 intro args hc Q hq _;obtain⟨x,⟨h1,h2,h3,h4⟩,h5,h6⟩:=hq;refine qF.le h1 (qF.leH h2 h3 (zib hf hb hn (λh=>by cases h) λO w0 I0 hl=> ?_));exact H x h4 O w0 I0 Q hl h5
theorem qF.up{P:Program}{Xp:List PanicEntry->Prop}{g:Nat}{c:Ctr}{args:List AV}{hc:Heap}{Q:AV×Heap->Prop}(h:qF Xp P g c args hc (upQ Q)):qF Xp P g c args hc Q:=by
 intro O w σ vals hg hh hr;refine q9.map (λ_ h=>h) ?_ (h O w σ vals hg hh hr);rintro v w' ⟨r,hs,Z',hq,h1,h2,h3,h4,h5,h6⟩;rcases hq with hq | ⟨r',szs,hu,hq⟩
 ·exact⟨r,hs,Z',hq,h1,h2,h3,h4,h5,h6⟩
 ·have hx:Ext (λb=>Own O Z' b\/(c.fresh=true/\b<w.heap.size)) w' (λb=>Own O (Z'++vB szs.length) b\/(c.fresh=true/\b<w.heap.size)) w':=
   ⟨rfl,rfl,rfl,aJ _,λ_ _ _=>rfl,λb hb=>.inl (hb.imp uf id)⟩
  have hl:hs.length=Z'.length:=h2.len.symm;refine⟨r',hs++Ku szs,Z'++vB szs.length,hq,Ks hx (by rw [<- hl]; exact hu) h1,zd8 hx h2 szs,⟨h3.old,λi e ad he had=> ?_,h3.stat.own λb hb=>uf hb⟩,by simp; omega,h5.Xr (xG [] w' Z' _),?_⟩
  ·rcases vW he with ⟨_,he⟩ | ⟨_,rfl⟩
   ·exact h3.dis i e ad he had
   ·cases had
  ·exact⟨h6.os,h6.tape,h6.output,h6.size,h6.keep,λb hb=>h6.grow b (uR hb)⟩
theorem zi9{Xp:List PanicEntry->Prop}{P:Program}{fn:Func}{X:Type}{inp:X->List AV}{hin:X->Heap}{pre:X->Prop}{ok:X->Bool}{out:X->AV×Heap}{g:Nat}{c:Code}(hf:P.funcs[g]?=some fn)(hb:fn.body=some c) (hn:(fn.name == "runtime.NumGoroutine")=false)
  (H:∀ x,pre x->∀ (O:Nat->Prop) (w0:World) (I0:List SE) (Q:AV×Heap->Prop),I0.length=(hin x).length->(ok x=true->Q (out x)) ->
   UW Xp P fn O (hin x).length w0 I0 (λ_ _ _=>False) (RetR (ctrS inp hin pre ok out) (hin x).length (upQ Q)) [.code c] (wS fn (inp x) (hin x))):z9 Xp P g (ctrS inp hin pre ok out):=by
 intro args hc Q hq _;obtain⟨x,⟨h1,h2,h3,h4⟩,h5,h6⟩:=hq;refine qF.le h1 (qF.leH h2 h3 (qF.up (zib hf hb hn (λh=>by cases h) λO w0 I0 hl=> ?_)));exact H x h4 O w0 I0 Q hl h5
theorem z9.zpa{Xp:List PanicEntry->Prop}{P:Program}{X:Type}{inp:X->List AV}{pre:X->Prop}{ok:X->Bool}{out:X->AV×Heap}{out':X->AV}{g:Nat}(h:z9 Xp P g (ctrS inp (λ_=>[]) pre ok out))
  (he:∀ x,LeA (exp2 (out x).2 [] (out x).1) (out' x)):z9 Xp P g (ctrS inp (λ_=>[]) pre ok λx=>(out' x,[])):=by
 intro args hc Q hq _;obtain⟨x,⟨h1,h2,h3,h4⟩,h5,h6⟩:=hq;have h0:hc=[]:=aU.1 h3;subst h0;have k:=h args [] (λp=>(ok x=true/\p=out x)\/p=(.bot,[])) ⟨x,⟨h1,h2,h3,h4⟩,λho=>.inl ⟨ho,rfl⟩,λho=>.inr rfl⟩ (λh=>by cases h);intro O w σ vals hg hh hr;have hZ:σ=[]:=aU.1 (by simpa using hh.len);subst hZ;refine q9.map (λ_ h=>h) ?_ (k O w [] vals hg hh hr);rintro v w' ⟨a,hs,Z',hq,g1,g2,g3,g4,g5,g6⟩;rcases hq with ⟨ho,e⟩ | e
 ·have ea:a=(out x).1:=by rw [<- e]
  have eh:hs=(out x).2:=by rw [<- e]
  have sub:∀ b,Own O Z' b->(Own O Z' b\/((ctrS inp (λ_=>[]) pre ok out).fresh=true/\b<w.heap.size)):=λb hb=>.inl hb
  have XX:Exp O w' Z' hs [] [] (λb=>Own O [] b\/((ctrS inp (λ_=>[]) pre ok λx=>(out' x,([]:Heap))).fresh=true/\b<w.heap.size)):=
   ⟨g3,⟨g2.len,g2.inj,g2.lt,λi e b he hb=>WK sub (g2.blk i e b he hb)⟩,rfl,by simp,λj=>by simp,λb hb=>by
    rcases hb with hb | ⟨hb,_⟩
    ·exact .inl hb
    ·cases hb⟩
  have hin':∀ b,(Own O [] b\/((ctrS inp (λ_=>[]) pre ok λx=>(out' x,([]:Heap))).fresh=true/\b<w.heap.size))->Own O Z' b:=λb hb=>by
   rcases hb with (hb | ⟨e,he,_⟩) | ⟨hb,_⟩
   ·exact .inl hb
   ·simp at he
   ·cases hb
  refine⟨out' x,[],[],h5 ho,he x _ _ _ _ ?_,⟨rfl,λi j e f a b he=>by simp at he,λi e a he=>by simp at he,λi e b he=>by simp at he⟩,⟨g3.old,λi e ad he=>by simp at he,g3.stat.own λb hb=>by
   rcases hb with hb | ⟨e,he,_⟩
   ·exact .inl hb
   ·simp at he⟩,aJ _,λi e he=>by simp at he,⟨g6.os,g6.tape,g6.output,g6.size,λb hb hno=>g6.keep b hb hno,λb hb=>by obtain⟨_,he,_⟩:=hb; simp at he⟩⟩
  rw [<- ea,<- eh];exact uV XX (.inl hin') (w7 sub g1)
 ·cases e;exact g1.elim
theorem YM{P:Program}{g:Nat}{fn:Func}{c:Code}(hf:P.funcs[g]?=some fn)(hb:fn.body=some c) (hn:(fn.name == "runtime.NumGoroutine")=false) {T:TypeId} {Xp:List PanicEntry->Prop} {X:Type} (av:X->AV) (val:X->Value)
  (hav:∀ x own w σ v,Rep own w (av x) σ v↔v=val x)
  (W:∀ x e w,Calls P g #[val x,.i e] w λen w'=>w'=w/\((e=0/\en = .returned (val x))\/(e≠0/\en = .panicked [{ v:=.iface T (.agg #[.i e]),recovered:=false }]))) :
  z9 Xp P g (ctrS (λ(x:X×Int)=>[av x.1,.i x.2]) (λ_=>[]) (λx=>x.2≠0->Xp (Zz T x.2)) (λx=>decide (x.2=0)) (λx=>(av x.1,[]))):=by
 intro args hc Q hq _;obtain⟨⟨x,e⟩,⟨h1,h2,h3,h4⟩,h5,h6⟩:=hq;obtain rfl:hc=[]:=aU.1 h3;refine qF.le h1 ?_;intro O w σ vals hg hh hr;simp only [RepL] at hr;obtain⟨v0,r0,rfl,h0,v1,r1,rfl,h1,rfl⟩:=hr;rw [hav] at h0;simp only [Rep] at h1;subst h0 h1;have hn':¬ fn.name = "runtime.NumGoroutine" :=by simpa using hn
 left;refine⟨by simp [callFunc,hf,hn',hb],?_⟩;refine(W x e w).mono ?_;rintro en w' ⟨rfl,⟨he,rfl⟩ | ⟨he,rfl⟩⟩
 ·left;refine⟨_,rfl,av x,[],σ,h5 (aX he),(hav ..).2 rfl,⟨hh.len,hh.inj,hh.lt,λ_ _ _ _ h=>by simp at h⟩,hg,aJ _,Vq _ _ _,Ext.refl _ _⟩
 ·right;exact⟨_,rfl,h4 he,rfl,rfl,rfl,aJ _,λ_ _ _=>rfl,λ_ h=>h.elim⟩
end Go.Sx
end
section
set_option maxRecDepth 100000
open Go Go.Sx Go.Proofs Go.Nov
namespace Go.Proofs.Tryz
attribute [local simp] eqKV eqA eqA0 eqH eqB eqL eqL0
def zrn:Ctr:=ctrP false (λp:Fl=>[.i p.date,.str p.src,.str p.dst,.str p.ccy,.str p.amt]) (λp=>p.amt≠[]/\p.amt.length<2^40) (λ_ (_:Unit)=>True) (λp _=>(.osl 0 5 0 (payF p.date p.src p.dst p.ccy p.amt).length,[.arr (payF p.date p.src p.dst p.ccy p.amt).length 5 (flG (payF p.date p.src p.dst p.ccy p.amt))]))
theorem zoi:zd prog 125 zrn:=by
 refine Yd (fn:=f125) (c:=f125.body.getD .skip) rfl rfl rfl λp hp O w0 Q hq=> ?_
 obtain⟨d,a,b,n,r⟩:=p;obtain⟨h1,h2⟩:=hp;simp only at h1 h2;replace hq:=hq () trivial;simp only at hq;refine zc.n zD [] (.D (r=#[(48:UInt8)].toList) (.R [.nils] []) (.side ((0:Int)<=0/\(0:Int)<r.length) (.D ((↑(UInt8.toNat (r.getD 0 (0:UInt8))):Int)=45) (.side ((0:Int)<=1/\(1:Int)<=r.length) (.R [.osl 0 5 0 1] [.arr 1 5 (zj 5 [.i d,.str b,.str a,.str n,.str (List.drop 1 (List.take r.length r))])])) (.R [.osl 0 5 0 1] [.arr 1 5 (zj 5 [.i d,.str a,.str b,.str n,.str r])])))) ?_;simp only [Tree.holds,zf];have hl:0<r.length:=List.length_pos_iff.2 h1
 have e45:decide (((r.getD 0 0).toNat:Int)=45)=decide (r.getD 0 0=45):=by
  by_cases e:r.getD 0 0=45
  ·rw [e]; rfl
  ·rw [aW e,aW];intro h;refine e (UInt8.toNat_inj.1 ?_);show _=45;omega
 rw [e45];unfold payF at hq;refine⟨λh=> ?_,λh=>⟨⟨Int.le_refl _,by omega⟩,λ_=>⟨λh'=>⟨⟨by decide,by omega⟩,λ_=> ?_⟩,λh'=> ?_⟩⟩⟩
 ·rw [aP (aB h)] at hq;exact RetR.le0 (Q:=upQ Q) (r:=.nils) (.inr ⟨.osl 0 5 0 0,[(5,flG [])],⟨⟨aJ _,Nat.zero_lt_one⟩,rfl,rfl⟩,hq⟩) (λh=>by cases h) (LeA.refl _)
 ·rw [aO (aC h),aP (aB h')] at hq;rw [bD]
  exact RetR.zdg (Q:=upQ Q) [0] rfl rfl (by simp) rfl (.inl hq) (LeA.refl _) ⟨LeB.arr λj o hj ho=>by
   rcases(show j=0 by omega) with rfl;rcases(show o=0\/o=1\/o=2\/o=3\/o=4 by omega) with rfl | rfl | rfl | rfl | rfl<;>exact LeA.refl _,trivial⟩
 ·rw [aO (aC h),aO (aC h')] at hq
  exact RetR.zdg (Q:=upQ Q) [0] rfl rfl (by simp) rfl (.inl hq) (LeA.refl _) ⟨LeB.arr λj o hj ho=>by
   rcases(show j=0 by omega) with rfl;rcases(show o=0\/o=1\/o=2\/o=3\/o=4 by omega) with rfl | rfl | rfl | rfl | rfl<;>exact LeA.refl _,trivial⟩
end Go.Proofs.Tryz
end
