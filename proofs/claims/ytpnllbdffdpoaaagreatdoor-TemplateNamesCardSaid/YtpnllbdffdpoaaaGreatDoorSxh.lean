/- Part 8 of the proof. -/
import Derived.Test.YtpnllbdffdpoaaaGreatDoorSxg
set_option linter.unusedVariables false
set_option linter.unusedSimpArgs false
set_option linter.unusedSectionVars false
section
set_option maxRecDepth 100000
open Go Go.Sx Go.Proofs Go.Nov
namespace Go.Proofs.Tryz
attribute [local simp] eqKV eqA eqA0 eqH eqB eqL eqL0
def opS:Ctr:={ opC with sinks:=true }
theorem UF:zg prog 36 opS:=ztf.sink
def zcf:Ctr:={ zpd with sinks:=true }
theorem QV:zg prog 39 zcf:=zoh.sink
def payS:Ctr:={ payC with sinks:=true }
theorem Q0:zg prog 35 payS:=zri.sink
def onS:Ctr:={ onC with sinks:=true }
theorem K7:zg prog 34 onS:=zt4.sink
def zqa:Ctr:={ YZ with sinks:=true }
theorem zgp:zg prog 69 zqa:=zta.sink
def zgn:Ctr:={ zhw with sinks:=true }
theorem zer:zg prog 69 zgn:=zs6.sink
noncomputable def GBgn:=tb Z3 tz
noncomputable def JV:Ctr:=inlC prog GBgn.g 100 f32
theorem yx:zg prog 32 JV:=ub hmix GBgn.h rfl rfl
noncomputable def GDo1:=tb Z4 (tb zgp (tb vX tz))
noncomputable def GDo2:=tb Z4 (tb zer (tb vX tz))
noncomputable def zb2:Ctr:=inlC prog GDo1.g 100 f33
theorem X9:zg prog 33 zb2:=ub hmix GDo1.h rfl rfl
noncomputable def zps:Ctr:=inlC prog GDo2.g 100 f33
theorem ziy:zg prog 33 zps:=ub hmix GDo2.h rfl rfl
noncomputable def zie:Ctr:={ zps with sinks:=true }
theorem zfp:zg prog 33 zie:=ziy.sink
noncomputable def GFw:=tb yx (tb X9 (tb UF (tb Jh (tb zb8 (tb QV (tb Q0 (tb K7 tz)))))))
noncomputable def GFo2:=tb yx (tb zfp (tb UF (tb Jh (tb zb8 (tb QV (tb Q0 (tb K7 tz)))))))
theorem uM(a b:L8):eqG 2 1 (zj 1 [.str a,.str b]) (ratG [a,b]):=by
 intro j o hj ho;rcases(show j=0\/j=1 by omega) with rfl | rfl<;>rcases(show o=0 by omega) with rfl<;>rfl
theorem kE(e:Ex):eqA (exD e) e.exA:=by
 simp only [exD,Ex.exA,Ex.exS,eqA];exact⟨⟨rfl,rfl⟩,rfl,rfl,⟨rfl,rfl⟩,⟨rfl,rfl,Ex.zQ e⟩,trivial⟩
theorem kz{d:Deal}(h:Tm.fits d):∀ r∈[d.zb,d.ze],r.length<2^40:=by
 obtain⟨h1,h2,h3,h4,h5,h6⟩:=h;intro r hr;rcases aM.1 hr with rfl | hr
 ·omega
 ·rcases aM.1 hr with rfl | hr
  ·omega
  ·cases hr
theorem zero_eq{n:Int} : eqA2 (.tup [.agg [.int .u8 0,.str [],.str [],.str [],.int .u8 0,.str [],.str [],.i 0,.nils,.i 0,.nils,.nils],.i n]) (.tup [Tm.zero.conD,.i n]):=by
 simp [eqA2,eqL1,Tm.zero,Con.conD,Con.outD,Con.dayS,Ex.exS,Con.kind,Con.src,Con.dst,Con.name,Con.x,Con.date,Con.days,Con.sub,Ex.kind,Ex.rat,Ex.name,Ex.date,Ex.sub]
def Jt:Ctr:=ctrP false (λp:Deal×Int=>[p.1.av,.i p.2]) (λp=>Tm.fits p.1) (λp (_:Unit)=>True) (λp _=>(.tup [(Tm.out (Tm.res p.1 (Tm.fwd p.1 p.2)) (Tm.fwd p.1 p.2)).conD,.i (Tm.res p.1 (Tm.fwd p.1 p.2))],[]))
theorem X8{d:Deal}{c:Con}{Q:AV×Heap->Prop}(hq:Q (.tup [(Tm.out (Tm.res d c) c).conD,.i (Tm.res d c)],[]))(h:¬ Tm.first 0 [d.zb,d.ze]=0):Q (.tup [Tm.zero.conD,.i (Tm.first 0 [d.zb,d.ze])],[]):=by
 unfold Tm.res Tm.out at hq;rw [aO h,aO h] at hq;exact hq
theorem YU{d:Deal}{c:Con}{Q:AV×Heap->Prop}(hq:Q (.tup [(Tm.out (Tm.res d c) c).conD,.i (Tm.res d c)],[]))(h:Tm.first 0 [d.zb,d.ze]=0)(hc:¬ c.errC=0):Q (.tup [Tm.zero.conD,.i c.errC],[]):=by
 unfold Tm.res Tm.out at hq;rw [aP h,aO hc] at hq;exact hq
theorem zdd{d:Deal}{c:Con}{Q:AV×Heap->Prop}(hq:Q (.tup [(Tm.out (Tm.res d c) c).conD,.i (Tm.res d c)],[]))(h:Tm.first 0 [d.zb,d.ze]=0)(hc:c.errC=0):Q (.tup [c.conD,.i 0],[]):=by
 unfold Tm.res Tm.out at hq;rw [aP h,aP hc,hc] at hq;exact hq
abbrev q37(A:List AV)(x:Con):Prop:=eqL A [(Con.conA x)]/\Con.big x<274877906944
abbrev q36(A:List AV)(x:Int×Con):Prop:=eqL A [.i x.1,(Con.conA x.2)]/\True
abbrev q35(A:List AV)(H:Heap)(x:Deal×Int×Ex×L8):Prop:=eqL A [.ptr 0 0,x.2.2.1.exA,.str x.2.2.2]/\eqH H [.box [.i x.2.1,.str x.1.long,.str x.1.short,.str x.1.ccy,.str x.1.name,.str x.1.zb,.str x.1.ze]]/\1=1/\True
abbrev q34(A:List AV)(x:Int×List Ex):Prop:=eqL A [.int .u8 x.1,.sl x.2.length 5 (Ex.exG x.2)]/\True
abbrev q33(A:List AV)(H:Heap)(x:Deal×Int):Prop:=eqL A [.ptr 0 0]/\eqH H [.box [.i x.2,.str x.1.long,.str x.1.short,.str x.1.ccy,.str x.1.name,.str x.1.zb,.str x.1.ze]]/\1=1/\True
theorem JH:zg prog 12 Jt:=by
 refine zm' f12 λp hp O w0 Q hq=> ?_
 obtain⟨d,day⟩:=p;replace hq:=hq () trivial;replace hp:Tm.fits d:=hp;simp only at hq;have hbig:=Tm.zn0 (day:=day) hp;refine zd.n GFw.h [] (let v2:List AV:=[.str d.long,.str d.short,.str d.ccy,.str d.name,.str d.zb,.str d.ze];let v1:List AV:=[.int .u8 0,.str #[].toList,.str #[].toList,.str #[].toList,.int .u8 0,.str #[].toList,.str #[].toList,.i 0,.nils,.i 0,.nils,.nils];.ex (λ(x:Deal×Int×List L8)=>eqL [.ptr 0 0,.osl 1 1 0 2] [.ptr 0 0,.osl 1 1 0 x.2.2.length]/\eqH [.box [.i 0,.str d.long,.str d.short,.str d.ccy,.str d.name,.str d.zb,.str d.ze],.arr 2 1 (zj 1 [.str d.zb,.str d.ze])] [.box [.i x.2.1,.str x.1.long,.str x.1.short,.str x.1.ccy,.str x.1.name,.str x.1.zb,.str x.1.ze],.arr x.2.2.length 1 (ratG x.2.2)]/\2=2/\x.2.2.length<1099511627776/\∀ (r:L8),r∈x.2.2->r.length<1099511627776) λn=>let v9:=ratG n.2.2;.A λn_1=>.ex (q33 [.ptr 0 0] [.box [.i (Tm.first n.2.1 n.2.2),.str n.1.long,.str n.1.short,.str n.1.ccy,.str n.1.name,.str n.1.zb,.str n.1.ze]]) λn_2=>let v7:=Tm.spot n_2.1.name;.A λn_3=>.ex (q32 [.str d.zb]) λn_4=>let v8:=Tm.kon n_4;.A λn_5=>.ex (q34 [.int .u8 5,.sl 2 5 (zf (zj 5 [.int .u8 (Ex.kind v7),.str (Ex.rat v7),.str (Ex.name v7),.i (Ex.date v7),.sl (List.length (Ex.sub v7)) 5 (Ex.deep v7),.int .u8 (Ex.kind v8),.str (Ex.rat v8),.str (Ex.name v8),.i (Ex.date v8),.sl (List.length (Ex.sub v8)) 5 (Ex.deep v8)]) 0)]) λn_6=>.A λn_7=>.ex (q35 [.ptr 0 0,(exD (Tm.opx n_6.1 n_6.2)),.str d.ze] [.box [.i n_2.2,.str n_2.1.long,.str n_2.1.short,.str n_2.1.ccy,.str n_2.1.name,.str n_2.1.zb,.str n_2.1.ze]]) λn_8=>let v3:List AV:=[.i n_8.2.1,.str n_8.1.long,.str n_8.1.short,.str n_8.1.ccy,.str n_8.1.name,.str n_8.1.zb,.str n_8.1.ze];.A λn_9=>.ex (q36 [.i day,(Con.conD (Tm.pay n_8.1 n_8.2.2.1 n_8.2.2.2))]) λn_10=>let v4:=Tm.at_ n_10.1 n_10.2;let v10:=q37 [(Con.conD v4)];let v6:qe:=.ret [.agg v1,.i n_8.2.1] [.box v2,.box v1,.box v2,.box v3,.arr n.2.2.length 1 v9,.dead,.box (Con.zc v4),.box v1];.A λn_11=>.D (n_8.2.1=0) (.ex (q31 [(Con.conD v4)]) λn_12=>.all (λ(r:Int)=>r=Con.errC n_12) λn_13=>let v5:List AV:=[.i n_13,.str n_8.1.long,.str n_8.1.short,.str n_8.1.ccy,.str n_8.1.name,.str n_8.1.zb,.str n_8.1.ze];.D (n_8.2.1=0) (.N (n_13=0) (.R [.agg v1,.i n_13] [.box v2,.box v1,.box v2,.box v5,.arr n.2.2.length 1 v9,.dead,.box (Con.zc v4),.box v1]) (.ex v10 λn_14=>.A λn_15=>.R [(Con.conD n_14),.i 0] [.box v2,.box (Con.zc n_14),.box v2,.box v5,.arr n.2.2.length 1 v9,.dead,.box (Con.zc v4),.box (Con.zc n_14)])) (.N (n_8.2.1=0) (.leaf v6) (.ex v10 λn_14=>.A λn_15=>.R [(Con.conD n_14),.i 0] [.box v2,.box (Con.zc n_14),.box v2,.box v3,.arr n.2.2.length 1 v9,.dead,.box (Con.zc v4),.box (Con.zc n_14)]))) (.N (n_8.2.1=0) (.leaf v6) (.ex v10 λn_12=>.A λn_13=>.R [(Con.conD n_12),.i 0] [.box v2,.box (Con.zc n_12),.box v2,.box v3,.arr n.2.2.length 1 v9,.dead,.box (Con.zc v4),.box (Con.zc n_12)]))) ?_;simp only [q31,q32,q33,q34,q35,q36,q37,Tree.holds,zh];refine⟨(d,0,[d.zb,d.ze]),⟨by simp,by simp [Deal.cells,uM],trivial,by show 2<2^40; decide,kz hp⟩,⟨(),trivial⟩,λ_ _=> ?_⟩;refine⟨(d,Tm.first 0 [d.zb,d.ze]),⟨by simp,by simp [Deal.cells],trivial,trivial⟩,⟨(),trivial⟩,λ_ _=> ?_⟩;refine⟨d.zb,⟨by simp,trivial⟩,⟨(),trivial⟩,λ_ _=> ?_⟩;refine⟨(5,[Tm.spot d.name,Tm.kon d.zb]),⟨⟨⟨rfl,rfl⟩,⟨rfl,rfl,Ex.QB _ _⟩,trivial⟩,trivial⟩,⟨(),trivial⟩,λ_ _=> ?_⟩;refine⟨(d,Tm.first 0 [d.zb,d.ze],Tm.opx 5 [Tm.spot d.name,Tm.kon d.zb],d.ze),⟨⟨⟨rfl,rfl⟩,kE _,rfl,trivial⟩,by simp [Deal.cells],trivial,trivial⟩,⟨(),trivial⟩,λ_ _=> ?_⟩;refine⟨(day,Tm.pay d (Tm.opx 5 [Tm.spot d.name,Tm.kon d.zb]) d.ze),⟨⟨⟨rfl,rfl⟩,qc _,trivial⟩,trivial⟩,⟨(),trivial⟩,λ_ _=> ?_⟩;obtain⟨c,hc⟩:∃ c,Tm.fwd d day=c:=⟨_,rfl⟩;have hn:c.nodes<=1000000:=by rw [<- hc]; show(Tm.fwd d day).nodes<=_; simp [Tm.fwd,Tm.at_,Tm.pay,Con.nodes,Con.zu]
 change (_->∃ n_12,_)/\_;simp only [<- show Tm.fwd d day=Tm.at_ day (Tm.pay d (Tm.opx 5 [Tm.spot d.name,Tm.kon d.zb]) d.ze) from rfl];rw [hc] at hq hbig;simp only [hc];have hq1:=X8 hq;have hq2:=YU hq;have hq3:=zdd hq;clear hq;generalize Tm.first 0 [d.zb,d.ze]=e at hq1 hq2 hq3 ⊢;refine⟨λh=> ?_,λh=> ?_⟩
 ·have he:=aB h;refine⟨c,⟨⟨qc c,trivial⟩,by omega,hn⟩,⟨_,rfl⟩,?_⟩;rintro _ rfl;refine⟨λ_=>⟨λh1=> ?_,λh1=> ?_⟩,λh1=>absurd (h.symm.trans h1) (by decide)⟩
  ·exact RetR.out0 (hq2 he (by simpa using h1)) (λh=>by cases h) zero_eq
  ·refine⟨c,⟨⟨qc c,trivial⟩,by omega⟩,⟨(),trivial⟩,λ_ _=> ?_⟩;exact RetR.le0 (hq3 he (by simpa using h1)) (λh=>by cases h) (LeA.refl _)
 ·have he:=aC h;refine⟨λ_=>RetR.out0 (hq1 he) (λh=>by cases h) zero_eq,λh1=>absurd h1 (by simp [he])⟩
def zb3:Ctr:=ctrP false (λp:Deal×Int×Bool=>[p.1.av,.i p.2.1,.bool p.2.2]) (λp=>Tm.fits p.1) (λp (_:Unit)=>True) (λp _=>(.tup [(Tm.out (Tm.res p.1 (Tm.pff p.1 p.2.1 p.2.2)) (Tm.pff p.1 p.2.1 p.2.2)).conD,.i (Tm.res p.1 (Tm.pff p.1 p.2.1 p.2.2))],[]))
abbrev q38(A:List AV)(H:Heap)(x:Deal×Int×Ex×Bool):Prop:=eqL A [.ptr 0 0,x.2.2.1.exA,.bool x.2.2.2]/\eqH H [.box [.i x.2.1,.str x.1.long,.str x.1.short,.str x.1.ccy,.str x.1.name,.str x.1.zb,.str x.1.ze]]/\1=1/\True
theorem zfu:zg prog 13 zb3:=by
 refine zm' f13 λp hp O w0 Q hq=> ?_
 obtain⟨d,day,put⟩:=p;replace hq:=hq () trivial;replace hp:Tm.fits d:=hp;simp only at hq;have hbig:=Tm.zoz (day:=day) (put:=put) hp;refine zd.n GFw.h [] (let v2:List AV:=[.str d.long,.str d.short,.str d.ccy,.str d.name,.str d.zb,.str d.ze];let v1:List AV:=[.int .u8 0,.str #[].toList,.str #[].toList,.str #[].toList,.int .u8 0,.str #[].toList,.str #[].toList,.i 0,.nils,.i 0,.nils,.nils];.ex (λ(x:Deal×Int×List L8)=>eqL [.ptr 0 0,.osl 1 1 0 2] [.ptr 0 0,.osl 1 1 0 x.2.2.length]/\eqH [.box [.i 0,.str d.long,.str d.short,.str d.ccy,.str d.name,.str d.zb,.str d.ze],.arr 2 1 (zj 1 [.str d.zb,.str d.ze])] [.box [.i x.2.1,.str x.1.long,.str x.1.short,.str x.1.ccy,.str x.1.name,.str x.1.zb,.str x.1.ze],.arr x.2.2.length 1 (ratG x.2.2)]/\2=2/\x.2.2.length<1099511627776/\∀ (r:L8),r∈x.2.2->r.length<1099511627776) λn=>let v7:=ratG n.2.2;.A λn_1=>.ex (q33 [.ptr 0 0] [.box [.i (Tm.first n.2.1 n.2.2),.str n.1.long,.str n.1.short,.str n.1.ccy,.str n.1.name,.str n.1.zb,.str n.1.ze]]) λn_2=>.A λn_3=>.ex (q38 [.ptr 0 0,(exD (Tm.spot n_2.1.name)),.bool put] [.box [.i n_2.2,.str n_2.1.long,.str n_2.1.short,.str n_2.1.ccy,.str n_2.1.name,.str n_2.1.zb,.str n_2.1.ze]]) λn_4=>.A λn_5=>.ex (q35 [.ptr 0 0,(exD (Tm.over n_4.1.zb n_4.2.2.1 n_4.2.2.2)),.str d.ze] [.box [.i n_4.2.1,.str n_4.1.long,.str n_4.1.short,.str n_4.1.ccy,.str n_4.1.name,.str n_4.1.zb,.str n_4.1.ze]]) λn_6=>let v3:List AV:=[.i n_6.2.1,.str n_6.1.long,.str n_6.1.short,.str n_6.1.ccy,.str n_6.1.name,.str n_6.1.zb,.str n_6.1.ze];.A λn_7=>.ex (q36 [.i day,(Con.conD (Tm.pay n_6.1 n_6.2.2.1 n_6.2.2.2))]) λn_8=>let v4:=Tm.at_ n_8.1 n_8.2;let v8:=q37 [(Con.conD v4)];let v6:qe:=.ret [.agg v1,.i n_6.2.1] [.box v2,.box v1,.box v2,.box v3,.arr n.2.2.length 1 v7,.box (Con.zc v4),.box v1];.A λn_9=>.D (n_6.2.1=0) (.ex (q31 [(Con.conD v4)]) λn_10=>.all (λ(r:Int)=>r=Con.errC n_10) λn_11=>let v5:List AV:=[.i n_11,.str n_6.1.long,.str n_6.1.short,.str n_6.1.ccy,.str n_6.1.name,.str n_6.1.zb,.str n_6.1.ze];.D (n_6.2.1=0) (.N (n_11=0) (.R [.agg v1,.i n_11] [.box v2,.box v1,.box v2,.box v5,.arr n.2.2.length 1 v7,.box (Con.zc v4),.box v1]) (.ex v8 λn_12=>.A λn_13=>.R [(Con.conD n_12),.i 0] [.box v2,.box (Con.zc n_12),.box v2,.box v5,.arr n.2.2.length 1 v7,.box (Con.zc v4),.box (Con.zc n_12)])) (.N (n_6.2.1=0) (.leaf v6) (.ex v8 λn_12=>.A λn_13=>.R [(Con.conD n_12),.i 0] [.box v2,.box (Con.zc n_12),.box v2,.box v3,.arr n.2.2.length 1 v7,.box (Con.zc v4),.box (Con.zc n_12)]))) (.N (n_6.2.1=0) (.leaf v6) (.ex v8 λn_10=>.A λn_11=>.R [(Con.conD n_10),.i 0] [.box v2,.box (Con.zc n_10),.box v2,.box v3,.arr n.2.2.length 1 v7,.box (Con.zc v4),.box (Con.zc n_10)]))) ?_;simp only [q31,q33,q35,q36,q37,q38,Tree.holds,zh];refine⟨(d,0,[d.zb,d.ze]),⟨by simp,by simp [Deal.cells,uM],trivial,by show 2<2^40; decide,kz hp⟩,⟨(),trivial⟩,λ_ _=> ?_⟩;refine⟨(d,Tm.first 0 [d.zb,d.ze]),⟨by simp,by simp [Deal.cells],trivial,trivial⟩,⟨(),trivial⟩,λ_ _=> ?_⟩;refine⟨(d,Tm.first 0 [d.zb,d.ze],Tm.spot d.name,put),⟨⟨⟨rfl,rfl⟩,kE _,rfl,trivial⟩,by simp [Deal.cells],trivial,trivial⟩,⟨(),trivial⟩,λ_ _=> ?_⟩;refine⟨(d,Tm.first 0 [d.zb,d.ze],Tm.over d.zb (Tm.spot d.name) put,d.ze),⟨⟨⟨rfl,rfl⟩,kE _,rfl,trivial⟩,by simp [Deal.cells],trivial,trivial⟩,⟨(),trivial⟩,λ_ _=> ?_⟩;refine⟨(day,Tm.pay d (Tm.over d.zb (Tm.spot d.name) put) d.ze),⟨⟨⟨rfl,rfl⟩,qc _,trivial⟩,trivial⟩,⟨(),trivial⟩,λ_ _=> ?_⟩;obtain⟨c,hc⟩:∃ c,Tm.pff d day put=c:=⟨_,rfl⟩;have hn:c.nodes<=1000000:=by rw [<- hc]; show(Tm.pff d day put).nodes<=_; simp [Tm.pff,Tm.at_,Tm.pay,Con.nodes,Con.zu]
 change (_->∃ n_12,_)/\_;simp only [<- show Tm.pff d day put=Tm.at_ day (Tm.pay d (Tm.over d.zb (Tm.spot d.name) put) d.ze) from rfl];rw [hc] at hq hbig;simp only [hc];have hq1:=X8 hq;have hq2:=YU hq;have hq3:=zdd hq;clear hq;generalize Tm.first 0 [d.zb,d.ze]=e at hq1 hq2 hq3 ⊢;refine⟨λh=> ?_,λh=> ?_⟩
 ·have he:=aB h;refine⟨c,⟨⟨qc c,trivial⟩,by omega,hn⟩,⟨_,rfl⟩,?_⟩;rintro _ rfl;refine⟨λ_=>⟨λh1=> ?_,λh1=> ?_⟩,λh1=>absurd (h.symm.trans h1) (by decide)⟩
  ·exact RetR.out0 (hq2 he (by simpa using h1)) (λh=>by cases h) zero_eq
  ·refine⟨c,⟨⟨qc c,trivial⟩,by omega⟩,⟨(),trivial⟩,λ_ _=> ?_⟩;exact RetR.le0 (hq3 he (by simpa using h1)) (λh=>by cases h) (LeA.refl _)
 ·have he:=aC h;refine⟨λ_=>RetR.out0 (hq1 he) (λh=>by cases h) zero_eq,λh1=>absurd h1 (by simp [he])⟩
theorem Con.uV(e:Con):eqG 1 12 (zf (zj 12 (Con.zc e)) 0) (Con.conG [e]):=by
 intro j o hj ho;rcases(show j=0 by omega) with rfl;simp only [zf,zj,Nat.zero_add];rcases(show o=0\/o=1\/o=2\/o=3\/o=4\/o=5\/o=6\/o=7\/o=8\/o=9\/o=10\/o=11 by omega) with rfl | rfl | rfl | rfl | rfl | rfl | rfl | rfl | rfl | rfl | rfl | rfl<;>rfl
structure OptA where
 d:Deal
 ch:L8
 days:List Int
 put:Bool
def OptA.con(p:OptA):Con:=Tm.opt p.d p.ch p.days p.put
def KJ:Ctr:=ctrD false (λp:OptA=>[p.d.av,.str p.ch,Con.dayS p.days,.bool p.put]) (λp=>Tm.fits p.d/\p.ch.length<=200/\p.days.length<=200) (λp=>decide (Tm.res p.d p.con=0)) (λp (_:Unit)=>True) (λp _=>(.tup [p.con.outD (Ex.exS p.con.x.sub) (.osl 0 1 0 p.con.days.length) (.sl p.con.sub.length 12 p.con.deep),.i 0],[.arr p.con.days.length 1 (Con.dayG p.con.days)])) (λp=>(.tup [Tm.zero.conD,.i (Tm.res p.d p.con)],[]))
theorem zfs:zg prog 28 KJ:=by
 refine znr (fn:=f28) (c:=f28.body.getD .skip) rfl rfl rfl λp hp O w0 Q hq hq'=> ?_
 obtain⟨d,ch,days,put⟩:=p;replace hp:Tm.fits d/\ch.length<=200/\days.length<=200:=hp;have hbig:=Tm.zok (ch:=ch) (days:=days) (put:=put) hp.1 hp.2.1 hp.2.2;replace hp:=hp.1;refine zd.n GFo2.h [] (let v13:=Deal.long d;let v5:List AV:=[.int .u8 0,.str #[].toList,.str #[].toList,.str #[].toList,.int .u8 0,.str #[].toList,.str #[].toList,.i 0,.nils,.i 0,.nils,.nils];let v2:List AV:=[.str v13,.str d.short,.str d.ccy,.str d.name,.str d.zb,.str d.ze];.ex (λ(x:Deal×Int×List L8)=>eqL [.ptr 0 0,.osl 1 1 0 2] [.ptr 0 0,.osl 1 1 0 x.2.2.length]/\eqH [.box [.i 0,.str v13,.str d.short,.str d.ccy,.str d.name,.str d.zb,.str d.ze],.arr 2 1 (zj 1 [.str d.zb,.str d.ze])] [.box [.i x.2.1,.str x.1.long,.str x.1.short,.str x.1.ccy,.str x.1.name,.str x.1.zb,.str x.1.ze],.arr x.2.2.length 1 (ratG x.2.2)]/\2=2/\x.2.2.length<1099511627776/\∀ (r:L8),r∈x.2.2->r.length<1099511627776) λn=>let v12:=ratG n.2.2;.A λn_1=>.ex (q33 [.ptr 0 0] [.box [.i (Tm.first n.2.1 n.2.2),.str n.1.long,.str n.1.short,.str n.1.ccy,.str n.1.name,.str n.1.zb,.str n.1.ze]]) λn_2=>.A λn_3=>.ex (q38 [.ptr 0 0,(exD (Tm.spot n_2.1.name)),.bool put] [.box [.i n_2.2,.str n_2.1.long,.str n_2.1.short,.str n_2.1.ccy,.str n_2.1.name,.str n_2.1.zb,.str n_2.1.ze]]) λn_4=>.A λn_5=>.ex (q35 [.ptr 0 0,(exD (Tm.over n_4.1.zb n_4.2.2.1 n_4.2.2.2)),.str d.ze] [.box [.i n_4.2.1,.str n_4.1.long,.str n_4.1.short,.str n_4.1.ccy,.str n_4.1.name,.str n_4.1.zb,.str n_4.1.ze]]) λn_6=>let v11:=zf (zj 12 (Con.zc (Tm.pay n_6.1 n_6.2.2.1 n_6.2.2.2))) 0;let v9:List AV:=[.i n_6.2.1,.str n_6.1.long,.str n_6.1.short,.str n_6.1.ccy,.str n_6.1.name,.str n_6.1.zb,.str n_6.1.ze];let v4:=[AV.agg [.int .u8 8,.str v13,.str #[].toList,.str ch,.int .u8 0,.str #[].toList,.str #[].toList,.i 0,AV.nils,.i 0,.sl days.length 1 (Con.dayG days),.sl 1 12 v11]];let v3:List AV:=[.int .u8 8,.str v13,.str #[].toList,.str ch,.int .u8 0,.str #[].toList,.str #[].toList,.i 0,.nils,.i 0,.sl days.length 1 (Con.dayG days),.sl 1 12 v11];let v1:qe:=.ret [.agg v5,.i n_6.2.1] [.box v2,.box v5,.box v2,.box v9,.arr n.2.2.length 1 v12,.dead,.box v3,.box v5];.A λn_7=>.D (n_6.2.1=0) (.ex (q31 v4) λn_8=>.all (λ(r:Int)=>r=Con.errC n_8) λn_9=>let v10:List AV:=[.i n_9,.str n_6.1.long,.str n_6.1.short,.str n_6.1.ccy,.str n_6.1.name,.str n_6.1.zb,.str n_6.1.ze];.D (n_6.2.1=0) (.N (n_9=0) (.R [.agg v5,.i n_9] [.box v2,.box v5,.box v2,.box v10,.arr n.2.2.length 1 v12,.dead,.box v3,.box v5]) (.ex (q37 v4) λn_10=>let v6:List AV:=[.int .u8 n_10.kind,.str n_10.src,.str n_10.dst,.str n_10.name,.int .u8 (Ex.kind n_10.x),.str (Ex.rat n_10.x),.str (Ex.name n_10.x),.i (Ex.date n_10.x),.sl (List.length (Ex.sub n_10.x)) 5 (Ex.exG (Ex.sub n_10.x)),.i n_10.date,.osl 8 1 0 n_10.days.length,.sl n_10.sub.length 12 (Con.deep n_10)];.A λn_11=>.R [.agg v6,.i 0] [.box v2,.box v6,.box v2,.box v10,.arr n.2.2.length 1 v12,.dead,.box v3,.box v6,.arr n_10.days.length 1 (Con.dayG n_10.days)])) (.N (n_6.2.1=0) (.leaf v1) (.ex (q37 v4) λn_10=>let v7:List AV:=[.int .u8 n_10.kind,.str n_10.src,.str n_10.dst,.str n_10.name,.int .u8 (Ex.kind n_10.x),.str (Ex.rat n_10.x),.str (Ex.name n_10.x),.i (Ex.date n_10.x),.sl (List.length (Ex.sub n_10.x)) 5 (Ex.exG (Ex.sub n_10.x)),.i n_10.date,.osl 8 1 0 n_10.days.length,.sl n_10.sub.length 12 (Con.deep n_10)];.A λn_11=>.R [.agg v7,.i 0] [.box v2,.box v7,.box v2,.box v9,.arr n.2.2.length 1 v12,.dead,.box v3,.box v7,.arr n_10.days.length 1 (Con.dayG n_10.days)]))) (.N (n_6.2.1=0) (.leaf v1) (.ex (q37 v4) λn_8=>let v8:List AV:=[.int .u8 n_8.kind,.str n_8.src,.str n_8.dst,.str n_8.name,.int .u8 (Ex.kind n_8.x),.str (Ex.rat n_8.x),.str (Ex.name n_8.x),.i (Ex.date n_8.x),.sl (List.length (Ex.sub n_8.x)) 5 (Ex.exG (Ex.sub n_8.x)),.i n_8.date,.osl 8 1 0 n_8.days.length,.sl n_8.sub.length 12 (Con.deep n_8)];.A λn_9=>.R [.agg v8,.i 0] [.box v2,.box v8,.box v2,.box v9,.arr n.2.2.length 1 v12,.dead,.box v3,.box v8,.arr n_8.days.length 1 (Con.dayG n_8.days)]))) ?_;simp only [q31,q33,q35,q37,q38,Tree.holds,zh];refine⟨(d,0,[d.zb,d.ze]),⟨by simp,by simp [Deal.cells,uM],trivial,by show 2<2^40; decide,kz hp⟩,⟨(),trivial⟩,λ_ _=> ?_⟩;refine⟨(d,Tm.first 0 [d.zb,d.ze]),⟨by simp,by simp [Deal.cells],trivial,trivial⟩,⟨(),trivial⟩,λ_ _=> ?_⟩;refine⟨(d,Tm.first 0 [d.zb,d.ze],Tm.spot d.name,put),⟨⟨⟨rfl,rfl⟩,kE _,rfl,trivial⟩,by simp [Deal.cells],trivial,trivial⟩,⟨(),trivial⟩,λ_ _=> ?_⟩;refine⟨(d,Tm.first 0 [d.zb,d.ze],Tm.over d.zb (Tm.spot d.name) put,d.ze),⟨⟨⟨rfl,rfl⟩,kE _,rfl,trivial⟩,by simp [Deal.cells],trivial,trivial⟩,⟨(),trivial⟩,λ_ _=> ?_⟩;have hn:(Tm.opt d ch days put).nodes<=1000000:=by simp [Tm.opt,Tm.call,Tm.pay,Con.nodes,Con.zu]
 have hq1:=λh=>hq (by simpa using h) () trivial
 have hq2:=λh=>hq' (by simpa using h)
 clear hq hq';simp only [OptA.con] at hq1 hq2;have harg:eqA (.agg [.int .u8 8,.str d.long,.str [],.str ch,.int .u8 0,.str [],.str [],.i 0,.nils,.i 0,.sl days.length 1 (Con.dayG days),.sl 1 12 (zf (zj 12 (Con.zc (Tm.pay d (Tm.over d.zb (Tm.spot d.name) put) d.ze))) 0)]) (Tm.opt d ch days put).conA:=⟨⟨rfl,rfl⟩,rfl,rfl,rfl,⟨rfl,rfl⟩,rfl,rfl,⟨rfl,rfl⟩,rfl,⟨rfl,rfl⟩,⟨rfl,rfl,za _ _ _⟩,⟨rfl,rfl,Con.uV _⟩,trivial⟩;generalize Tm.opt d ch days put=c at hq1 hq2 hbig hn harg;unfold Tm.res at hq1 hq2;refine⟨λh=> ?_,λh=> ?_⟩
 ·have he:=aB h
  dsimp only at he
  rw [aP he] at hq1 hq2;refine⟨c,⟨⟨harg,trivial⟩,by omega,hn⟩,⟨_,rfl⟩,?_⟩;rintro _ rfl;refine⟨λ_=>⟨λh1=> ?_,λh1=> ?_⟩,λh1=>absurd (h.symm.trans h1) (by decide)⟩
  ·exact RetR.out0 (hq2 (by simpa using h1)) (λh=>by cases h) zero_eq
  ·refine⟨c,⟨⟨harg,trivial⟩,by omega⟩,⟨(),trivial⟩,λ_ _=> ?_⟩;refine RetR.outs [8] rfl rfl (hq1 (by simpa using h1)) (λh=>by cases h) ?_ ?_ rfl
   ·exact⟨⟨⟨rfl,rfl⟩,rfl,rfl,rfl,⟨rfl,rfl⟩,rfl,rfl,⟨rfl,rfl⟩,⟨rfl,rfl,za _ _ _⟩,⟨rfl,rfl⟩,⟨rfl,rfl,rfl,rfl⟩,⟨rfl,rfl,za _ _ _⟩,trivial⟩,⟨rfl,rfl⟩,trivial⟩
   ·exact⟨⟨rfl,rfl,za _ _ _⟩,trivial⟩
 ·have he:=aC h
  dsimp only at he
  rw [aO he] at hq1 hq2;refine⟨λ_=>RetR.out0 (hq2 he) (λh=>by cases h) zero_eq,λh1=>absurd h1 (by simp; exact he)⟩
theorem xF{A B:Prop}(ha:A)(hb:B):(∃ _:Bool,True)/\∀ n:Bool,True->(n=true->A)/\(n=false->B):=⟨⟨true,trivial⟩,λ_ _=>⟨λ_=>ha,λ_=>hb⟩⟩
end Go.Proofs.Tryz
end
section
namespace Go.Nov
open Go.Sx
structure Per where
 fix:Int
 pay:Int
 part:L8
namespace Per
def nil:Per:=⟨0,0,[]⟩
def cell(p:Per):Nat->AV
 | 0=>.i p.fix
 | 1=>.i p.pay
 | 2=>.str p.part
 | _=>.undef
def av(p:Per):AV:=.agg [.i p.fix,.i p.pay,.str p.part]
end Per
def perG(l:List Per):Nat->Nat->AV:=λj=>(l.getD j Per.nil).cell
def perS(l:List Per):AV:=.sl l.length 3 (perG l)
namespace Tm
def short(d:Deal)(l:List Per)(days:List Int):Prop:=fits d/\l.length<=60/\days.length<=200/\∀ i,i<l.length->(l.getD i Per.nil).part.length<=300
end Tm
end Go.Nov
end
section
namespace Go.Nov
structure OrdT{α:Type}(c:α->α->Int):Prop extends OrdK c where
 irr:∀ a,c a a=0
 tot:∀ a b,c a b<0\/c a b=0\/c b a<0
 sym:∀ a b,c a b=0->c b a=0
 eqt:∀ a b d,c a b=0->c b d=0->c a d=0
 eq2:∀ a b d,c a b=0->c b d<0->c a d<0
section
variable {α:Type} {c:α->α->Int} {z x y:α} (hk:OrdT c)
include hk
end
end Go.Nov
end
section
namespace Go.Nov
def negS(a:L8):L8:=if a=[48] then a else if a.getD 0 0=45 then a.drop 1 else [45]++a
theorem JR(z:Int):z=0/\(wz z).1=[48]\/z≠0/\room z.natAbs/\(wz z).1=sgn (decide (z<0)) (txt z.natAbs)\/¬ room z.natAbs:=by
 by_cases h0:z=0
 ·left; subst h0; exact⟨rfl,rfl⟩
 ·right;by_cases hr:room z.natAbs
  ·left;refine⟨h0,hr,?_⟩;unfold wz wr;have hr':(dec z.natAbs).length<=1000:=hr;rw [aO (by omega),aO (by omega)]
  ·exact .inr hr
theorem Wh(b:L8):sgn true b=45::b:=rfl
theorem Z6(b:L8):sgn false b=b:=rfl
theorem zgb{r:Rat}(h:kD r):negS (qstr r)=qstr (-r):=by
 have hn:(-r).num = -r.num:=rfl;have hd:(-r).den=r.den:=rfl
 have tail:∀ t:L8,(r.den=1->t=[])->(r.den≠1->t=[47]++(wz (r.den:Int)).1)->qstr r=(wz r.num).1++t/\qstr (-r)=(wz (-r.num)).1++t:=by
  intro t h1 h2;unfold qstr;rw [hn,hd];by_cases hd1:r.den=1
  ·rw [aP hd1,aP hd1,h1 hd1]; simp
  ·rw [aO hd1,aO hd1,h2 hd1]; simp
 obtain⟨t,ht1,ht2⟩:∃ t:L8,(r.den=1->t=[])/\(r.den≠1->t=[47]++(wz (r.den:Int)).1):=by
  by_cases hd1:r.den=1
  ·exact⟨[],λ_=>rfl,λh=>absurd hd1 h⟩
  ·exact⟨_,λh=>absurd h hd1,λ_=>rfl⟩
 obtain⟨e1,e2⟩:=tail t ht1 ht2;rw [e1,e2];rcases JR r.num with ⟨z0,zs⟩ | ⟨z0,zr,zs⟩ | zr
 ·have hr0:r=0:=Rat.num_eq_zero.1 z0;have ht:t=[]:=ht1 (by rw [hr0]; rfl);rw [z0,ht];rfl
 ·rcases JR (-r.num) with ⟨z0',_⟩ | ⟨_,_,zs'⟩ | zr'
  ·omega
  ·rw [zs,zs',Int.natAbs_neg];have hx:r.num.natAbs≠0:=by omega
   obtain⟨f1,f2⟩:=y8 hx;have fne:=Kv hx;by_cases hlt:r.num<0
   ·rw [aX hlt,aW (by omega),Wh,Z6];unfold negS;rw [aO (by simp),aP (by simp)];rfl
   ·rw [aW hlt,aX (by omega),Wh,Z6];generalize txt r.num.natAbs=b at *
    cases b with
    | nil=>exact absurd rfl fne
    | cons c b=>
     simp only [List.getD_cons_zero] at f1 f2;unfold negS;rw [aO (by simp [f1]),aO (by simpa using f2)];rfl
  ·rw [Int.natAbs_neg] at zr'; exact absurd zr zr'
 ·exact absurd h.1 zr
theorem zjs{r:Rat}(h:kD r):kD (-r):=by
 refine⟨?_,h.2⟩;show room (-r.num).natAbs;rw [Int.natAbs_neg]; exact h.1
theorem znk{a:L8}(h:errR a=0):errR (negS a)=0/\qv (negS a) = -qv a/\numR (negS a)=(wz (-zI (numR a))).1/\denR (negS a)=denR a:=by
 obtain⟨h1,h2,h3,h4⟩:=WC h;have e:negS a=qstr (-qv a):=by rw [<- zgb h4,h3]
 have hr:=zjs h4;obtain⟨p1,p2,_⟩:=yS hr;rw [e];refine⟨y4 hr,Q5 hr,?_,?_⟩
 ·rw [p1];show(wz (-(qv a).num)).1=_;rw [h1]
 ·rw [p2];show(wz ((qv a).den:Int)).1=_;rw [h2,KQ (qP h).2.1]
end Go.Nov
end
section
namespace Go.Nov
open Go.Sx
structure Ca where
 name:L8
 into:L8
 date:Int
 ratio:L8
 extra:L8
theorem uK{a:L8}(h:errR a=0):(a.getD 0 0=45↔qv a<0)/\(a=[48]↔qv a=0)/\a≠[]:=by
 obtain⟨p1,p2,p3,p4⟩:=WC h;generalize qv a=r at p1 p2 p3 p4
 have ht:∃ t:L8,a=(wz r.num).1++t/\(r.den=1->t=[]):=by
  rw [<- p3];unfold qstr;by_cases hd1:r.den=1
  ·rw [aP hd1]; exact⟨[],by simp,λ_=>rfl⟩
  ·rw [aO hd1]; exact⟨[47]++(wz r.den).1,by simp,λh=>absurd h hd1⟩
 obtain⟨t,e,ht⟩:=ht
 have hneg:r<0↔r.num<0:=by
  rw [Rat.lt_iff];simp
 rcases JR r.num with ⟨z0,zs⟩ | ⟨z0,zr,zs⟩ | zr
 ·have hr0:r=0:=Rat.num_eq_zero.1 z0;have ht:=ht (by rw [hr0]; rfl);rw [zs,ht] at e;subst e;rw [hneg,z0];exact⟨⟨λh=>absurd h (by decide),λh=>absurd h (by decide)⟩,⟨λ_=>hr0,λ_=>rfl⟩,by simp⟩
 ·have hr0:r≠0:=λh=>z0 (by rw [h]; rfl)
  have hx:r.num.natAbs≠0:=by omega
  obtain⟨f1,f2⟩:=y8 hx;have fne:=Kv hx;rw [zs] at e;rw [hneg];by_cases hlt:r.num<0
  ·rw [aX hlt,Wh] at e;subst e;exact⟨⟨λ_=>hlt,λ_=>rfl⟩,⟨λh=>by simp at h,λh=>absurd h hr0⟩,by simp⟩
  ·rw [aW hlt,Z6] at e;generalize txt r.num.natAbs=b at *
   cases b with
   | nil=>exact absurd rfl fne
   | cons c b=>
    simp only [List.getD_cons_zero] at f1 f2;subst e;exact⟨⟨λh=>absurd h f2,λh=>absurd h hlt⟩,⟨λh=>by simp [f1] at h,λh=>absurd h hr0⟩,by simp⟩
 ·exact absurd p4.1 zr
theorem zo5{a:L8}(h:errR a=0):0<qv a↔a≠[48]/\a.getD 0 0≠45:=by
 obtain⟨h1,h2,h3⟩:=uK h;rw [ne_eq,ne_eq,h1,h2];generalize qv a=r;have:=Rat.lt_iff (a:=r) (b:=0);constructor
 ·intro h; exact⟨by grind,by grind⟩
 ·rintro⟨h4,h5⟩; grind
theorem zjv(z w:L8×Int):(frac z w).1.length<=2003:=by
 unfold frac;split
 ·simp
 ·unfold wo;split
  ·simp
  ·split
   ·simp
   ·exact zfl _ _ _
theorem zke(a b:L8):(mulR a b).1.length<=2003:=by
 unfold mulR;split
 ·simp
 ·exact zjv _ _
namespace Ca
def ok(a:Ca):Bool:=qE a.name&&(qE a.into&&(dayB a.date&&(decide (errR a.ratio=0)&&(decide (0<qv a.ratio)&&decide (errR a.extra=0)))))
def old(a:Ca)(x:L8):L8×Int:=if(mulR a.ratio x).2≠0 then([],(mulR a.ratio x).2) else addR (mulR a.ratio x).1 a.extra
def hit(a:Ca)(f:Fx):Bool:=decide (f.name=a.into)&&decide (a.date<=f.date)
def keep(a:Ca)(f:Fx):Bool:= !decide (f.name=a.name)||decide (f.date<a.date)
def mk'(a:Ca)(f:Fx):Fx:=⟨a.name,f.date,(a.old f.value).1⟩
def fresh(a:Ca)(l:List Fx):List Fx:=(l.filter a.hit).map a.mk'
def kept(a:Ca)(l:List Fx):List Fx:=l.filter a.keep
def bad(a:Ca)(f:Fx):Bool:=a.hit f&&decide ((a.old f.value).2≠0)
def err(a:Ca)(l:List Fx):Int:=match l.find? a.bad with
 | some f=>(a.old f.value).2
 | none=>0
def at_(a:Ca)(l:List Fx):Nat:=l.findIdx λf=>Op.bytesLess a.name f.name
def join(a:Ca)(l m:List Fx):List Fx:=l.take (a.at_ l)++m++l.drop (a.at_ l)
def before(a:Ca)(f:List Fx)(c:List Ch):(List Fx×List Ch)×Int:=
 if a.ok=false then(([],[]),8) else if errE f c≠0 then(([],[]),errE f c) else if a.err f≠0 then(([],[]),a.err f)
 else if 1000<(a.kept f).length+(a.fresh f).length then(([],[]),22) else((a.join (a.kept f) (a.fresh f),c),0)
end Ca
end Go.Nov
end
section
namespace Go.Nov
open Go.Sx
namespace Tm
def zl:Con:=.mk 1 [] [] [] (.mk 0 [] [] 0 []) 0 [] []
def both(a b:Con):Con:=.mk 3 [] [] [] (.mk 0 [] [] 0 []) 0 [] [a,b]
def xh:Nat->List Con->Con
 | 0,_=>zl
 | n+1,l=>if l.length=0 then zl else if l.length=1 then l.getD 0 Con.nil else both (xh n (l.take ((l.length+1)/2))) (xh n (l.drop ((l.length+1)/2)))
theorem kT:∀ (n m:Nat) (l:List Con),l.length<=n->l.length<=m->xh n l=xh m l
 | 0,0,l,_,_=>rfl
 | 0,m+1,l,h,_=>by
  have:l.length=0:=by omega
  simp [xh,this]
 | n+1,0,l,_,h=>by
  have:l.length=0:=by omega
  simp [xh,this]
 | n+1,m+1,l,h1,h2=>by
  simp only [xh];by_cases h:l.length=0
  ·rw [aP h,aP h]
  ·rw [aO h,aO h];by_cases g:l.length=1
   ·rw [aP g,aP g]
   ·rw [aO g,aO g,kT n m _ (by rw [aH]; omega) (by rw [aH]; omega),kT n m _ (by rw [bV]; omega) (by rw [bV]; omega)]
def whole(l:List Con):Con:=xh l.length l
theorem JG(l:List Con):whole l=if l.length=0 then zl else if l.length=1 then l.getD 0 Con.nil else both (whole (l.take ((l.length+1)/2))) (whole (l.drop ((l.length+1)/2))):=by
 unfold whole;rw [kT l.length (l.length+1) l (aJ _) (Nat.le_succ _)];simp only [xh];by_cases h:l.length=0
 ·rw [aP h,aP h]
 ·rw [aO h,aO h];by_cases g:l.length=1
  ·rw [aP g,aP g]
  ·rw [aO g,aO g,kT l.length _ _ (by rw [aH]; omega) (aJ _),kT l.length _ _ (by rw [bV]; omega) (aJ _)]
theorem Wo(l m:List Con):Con.bigs (l++m)=Con.bigs l+Con.bigs m:=by
 induction l with
 | nil=>simp [Con.bigs]
 | cons c l ih=>simp only [List.cons_append,Con.bigs,ih]; omega
theorem ZN(l m:List Con):Con.zu (l++m)=Con.zu l+Con.zu m:=by
 induction l with
 | nil=>simp [Con.zu]
 | cons c l ih=>simp only [List.cons_append,Con.zu,ih]; omega
theorem xL:∀ (n:Nat) (l:List Con),l.length<=n->1<=l.length->(whole l).big<=Con.bigs l+2*(l.length - 1)/\(whole l).nodes<=Con.zu l+(l.length - 1)
 | 0,l,h,h'=>by omega
 | n+1,l,h,h'=>by
  rw [JG,aO (by omega:¬ l.length=0)];by_cases h1:l.length=1
  ·rw [aP h1]
   match l,h1 with
   | [c],_=>simp [Con.bigs,Con.zu]
  ·rw [aO h1];obtain⟨a1,a2⟩:=xL n (l.take ((l.length+1)/2)) (by rw [aH]; omega) (by rw [aH]; omega);obtain⟨b1,b2⟩:=xL n (l.drop ((l.length+1)/2)) (by rw [bV]; omega) (by rw [bV]; omega);have e1:=Wo (l.take ((l.length+1)/2)) (l.drop ((l.length+1)/2));have e2:=ZN (l.take ((l.length+1)/2)) (l.drop ((l.length+1)/2));rw [bU] at e1 e2;rw [aH] at a1 a2;rw [bV] at b1 b2;simp only [both,Con.big,Con.bigs,Con.nodes,Con.zu,Ex.size,Ex.zz,Ex.z9,Ex.zY,List.length_nil];omega
theorem xu(l:List Con):(whole l).big<=Con.bigs l+2*l.length+2/\(whole l).nodes<=Con.zu l+l.length+1:=by
 by_cases h:l.length=0
 ·have:l=[]:=aU.1 h;subst this;decide
 ·have:=xL l.length l (aJ _) (by omega);omega
structure Leg where
 e:Int
 acc:List Con
def prod(e:Int)(a b:L8):L8×Int:=if e≠0 then([48],e) else mulR a b
theorem xY{e:Int}{a b:L8} : (prod e a b).1.length<=2003:=by
 unfold prod;split
 ·simp
 ·exact zke a b
def legS(d:Deal)(s:Leg)(p:Per):Leg:=
 ⟨(prod (prod s.e p.part d.ze).2 d.zb (prod s.e p.part d.ze).1).2,s.acc++[at_ p.pay (.mk 2 d.long d.short d.ccy (kon (prod (prod s.e p.part d.ze).2 d.zb (prod s.e p.part d.ze).1).1) 0 [] []),at_ p.pay (pay d (fixg d.name p.fix) (prod s.e p.part d.ze).1)]⟩
def legC(d:Deal)(fl:Bool)(s:Leg)(p:Per):Leg:=
 ⟨(prod s.e p.part d.ze).2,s.acc++[at_ p.pay (pay d (over d.zb (fixg d.name p.fix) fl) (prod s.e p.part d.ze).1)]⟩
def badT(l:List Per)(i:Nat):Bool:=(List.range i).any λj=>decide ((l.getD j Per.nil).pay<(l.getD j Per.nil).fix)||(decide (0<j)&&decide ((l.getD j Per.nil).pay<=(l.getD (j - 1) Per.nil).pay))
theorem zfx(l:List Per)(i:Nat):badT l (i+1)=(badT l i||(decide ((l.getD i Per.nil).pay<(l.getD i Per.nil).fix)||(decide (0<i)&&decide ((l.getD i Per.nil).pay<=(l.getD (i - 1) Per.nil).pay)))):=by
 unfold badT;rw [List.range_succ,List.any_append];simp
def kR(l:List Per)(i:Nat):Int:=if i=0 then -9223372036854775808 else(l.getD (i - 1) Per.nil).pay
def perE(d:Deal)(l:List Per):Int:=first (first 0 [d.zb,d.ze]) (l.map Per.part)
def jw(e:Int)(l:List Per)(i:Nat):Int:=if e=0 then(if badT l i=true then 40 else 0) else e
theorem W6(l:List Per)(i:Nat):kR l (i+1)=(l.getD i Per.nil).pay:=by simp [kR]
theorem Jg{e:Int}{l:List Per}{i:Nat}{b:Bool}(hb:b=(decide ((l.getD i Per.nil).pay<(l.getD i Per.nil).fix)||(decide (0<(i:Int))&&decide ((l.getD i Per.nil).pay<=kR l i)))):jw e l (i+1)=if b=true then(if jw e l i=0 then 40 else jw e l i) else jw e l i:=by
 have hs:badT l (i+1)=(badT l i||b):=by
  rw [zfx,hb];congr 2;by_cases h:i=0
  ·simp [h]
  ·have:kR l i=(l.getD (i - 1) Per.nil).pay:=by simp [kR,h]
   rw [this];simp
 unfold jw;rw [hs];by_cases he:e=0
 ·cases badT l i<;>cases b<;>simp [he]
 ·cases b<;>simp [he]
def zS(f:Leg->Per->Leg)(e:Int)(l:List Per)(i:Nat):Leg:=(l.take i).foldl f ⟨e,[]⟩
theorem Jc{f:Leg->Per->Leg}{e:Int}{l:List Per}{i:Nat}(h:i<l.length):zS f e l (i+1)=f (zS f e l i) (l.getD i Per.nil):=by
 have:l.take (i+1)=l.take i++[l.getD i Per.nil]:=by rw [List.take_add_one]; simp [List.getD,h]
 unfold zS;rw [this,List.foldl_append];rfl
end Tm
end Go.Nov
end
section
set_option maxRecDepth 100000
open Go Go.Sx Go.Proofs Go.Nov
namespace Go.Proofs.Tryz
attribute [local simp] eqKV eqA eqA0 eqH eqB eqL eqL0
theorem zf5(l:List Con)(k:Nat)(hk:k<=l.length):eqG k 12 (zf (Con.conG l) 0) (Con.conG (l.take k)):=by
 intro j o hj ho;simp [zf,Con.conG,List.getD,bR,hj]
theorem zdo(l:List Con)(k:Nat):eqG (l.length - k) 12 (zf (Con.conG l) k) (Con.conG (l.drop k)):=by
 intro j o hj ho;simp [zf,Con.conG,List.getD,List.getElem?_drop]
theorem Con.yn{x y:Con}{k d:Int}{a b n:L8}{z:Ex}{l:List Int}{c:List AV}(h:LeL c (x.zc++y.zc)):LeA (.sl 2 12 (zf (zj 12 c) 0)) (.sl 2 12 (Con.mk k a b n z d l [x,y]).deep):=by
 refine LeA.sl rfl λj o hj ho=> ?_
 rw [Con.zQ (Con.mk k a b n z d l [x,y]) j o (by show j<2; omega) ho];have:=LeL.dAt (j*12+o) h;simp only [zf,zj,Nat.zero_add];rcases(show j=0\/j=1 by omega) with rfl | rfl<;>rcases(show o=0\/o=1\/o=2\/o=3\/o=4\/o=5\/o=6\/o=7\/o=8\/o=9\/o=10\/o=11 by omega) with rfl | rfl | rfl | rfl | rfl | rfl | rfl | rfl | rfl | rfl | rfl | rfl<;>exact this
theorem zol(x y:Con):LeA (.agg [.int .u8 3,.str [],.str [],.str [],.int .u8 0,.str [],.str [],.i 0,.nils,.i 0,.nils,.sl 2 12 (zf (zj 12 (x.zc++y.zc)) 0)]) (Tm.both x y).conD:=
 LeA.agg ⟨LeA.refl _,LeA.refl _,LeA.refl _,LeA.refl _,LeA.refl _,LeA.refl _,LeA.refl _,LeA.refl _,LeA.nils,LeA.refl _,LeA.nils,Con.yn (LeL.refl _),trivial⟩
theorem zjq:LeA (.agg [.int .u8 1,.str [],.str [],.str [],.int .u8 0,.str [],.str [],.i 0,.nils,.i 0,.nils,.nils]) Tm.zl.conD:=
 LeA.agg ⟨LeA.refl _,LeA.refl _,LeA.refl _,LeA.refl _,LeA.refl _,LeA.refl _,LeA.refl _,LeA.refl _,LeA.nils,LeA.refl _,LeA.nils,LeA.nils,trivial⟩
def zd6(n:Nat):Ctr:=ctrP false (λl:List Con=>[Con.conS l]) (λl=>l.length<n/\l.length<2^40) (λ_ (_:Unit)=>True) (λl _=>((Tm.whole l).conD,[]))
noncomputable def GAlc(n:Nat):Nat->Option Ctr:=λf=>if f=54 then some (zd6 n) else none
theorem zp7{n:Nat}(ih:zg prog 54 (zd6 n)):∀ g c,GAlc n g=some c->zg prog g c:=okIf ih zn
theorem zl2(n:Nat)(ih:zg prog 54 (zd6 n)):zg prog 54 (zd6 (n+1)):=by
 refine zm' f54 λl hp O w0 Q hq=> ?_
 obtain⟨h1,h2⟩:=hp;replace hq:=hq () trivial;rw [Tm.JG] at hq;refine zd.n (zp7 ih) [] (let v5:=Int.toNat ((l.length:Int) - Int.tdiv (l.length:Int) (2:Int));let v3:List AV:=[.int .u8 1,.str #[].toList,.str #[].toList,.str #[].toList,.int .u8 0,.str #[].toList,.str #[].toList,.i 0,.nils,.i 0,.nils,.nils];let v2:List AV:=[.int .u8 3,.str #[].toList,.str #[].toList,.str #[].toList,.int .u8 0,.str #[].toList,.str #[].toList,.i 0,.nils,.i 0,.nils,.osl 1 12 0 2];.D ((l.length:Int)=0) (.R [.agg v3] [.box v3]) (.D ((l.length:Int)=1) (.side ((0:Int)<=0/\(0:Int)<l.length) (.R [(Con.conD (l.getD 0 Con.nil))] [.box (Con.zc (l.getD 0 Con.nil))])) (.side ((2:Int)≠0/\inR .i64 (Int.tdiv (l.length:Int) (2:Int))) (.S ((l.length:Int) - Int.tdiv (l.length:Int) (2:Int)) (.side ((0:Int)<=l.length - Int.tdiv (l.length:Int) (2:Int)/\(l.length:Int) - Int.tdiv (l.length:Int) (2:Int)<=l.length - Int.tdiv (l.length:Int) (2:Int)/\(l.length:Int) - Int.tdiv (l.length:Int) (2:Int)<=l.length) (.side ((0:Int)<=l.length - Int.tdiv (l.length:Int) (2:Int)/\(l.length:Int) - Int.tdiv (l.length:Int) (2:Int)<=l.length) (.ex (λ(x:List Con)=>eqL [.sl v5 12 (zf (Con.conG l) 0)] [.sl x.length 12 (Con.conG x)]/\x.length<n/\x.length<1099511627776) λn_1=>let v1:=Tm.whole n_1;.A λn_2=>.ex (λ(x:List Con)=>eqL [.sl (l.length - Int.toNat ((l.length:Int) - Int.tdiv (l.length:Int) (2:Int))) 12 (zf (Con.conG l) v5)] [.sl x.length 12 (Con.conG x)]/\x.length<n/\x.length<1099511627776) λn=>let v4:=Tm.whole n;.A λn_3=>.R [.agg v2] [.box v2,.arr 2 12 (zj 12 [.int .u8 (Con.kind v1),.str (Con.src v1),.str (Con.dst v1),.str (Con.name v1),.int .u8 (Ex.kind (Con.x v1)),.str (Ex.rat (Con.x v1)),.str (Ex.name (Con.x v1)),.i (Ex.date (Con.x v1)),.sl (List.length (Ex.sub (Con.x v1))) 5 (Ex.exG (Ex.sub (Con.x v1))),.i (Con.date v1),.sl (List.length (Con.days v1)) 1 (Con.dayG (Con.days v1)),.sl (List.length (Con.sub v1)) 12 (Con.deep v1),.int .u8 (Con.kind v4),.str (Con.src v4),.str (Con.dst v4),.str (Con.name v4),.int .u8 (Ex.kind (Con.x v4)),.str (Ex.rat (Con.x v4)),.str (Ex.name (Con.x v4)),.i (Ex.date (Con.x v4)),.sl (List.length (Ex.sub (Con.x v4))) 5 (Ex.exG (Ex.sub (Con.x v4))),.i (Con.date v4),.sl (List.length (Con.days v4)) 1 (Con.dayG (Con.days v4)),.sl (List.length (Con.sub v4)) 12 (Con.deep v4)])]))))))) ?_;simp only [Tree.holds,zh];have e0:((l.length:Int)).tdiv 2=((l.length/2:Nat):Int):=rfl;have e1:(l.length:Int) - ((l.length/2:Nat):Int)=(((l.length+1)/2:Nat):Int):=by omega
 simp only [e0,e1,aD,inR,lo,hi];obtain⟨k,hk⟩:∃ k,(l.length+1)/2=k:=⟨_,rfl⟩;rw [hk] at hq ⊢;refine⟨λh=> ?_,λh=>⟨λg=> ?_,λg=> ?_⟩⟩
 ·have h:=aB h;rw [aP (by omega)] at hq;exact RetR.le0 hq (λh=>by cases h) zjq
 ·have h:=aC h;have g:=aB g;rw [aO (by omega),aP (by omega)] at hq;exact⟨by omega,λ_=>RetR.le0 hq (λh=>by cases h) (LeA.refl _)⟩
 ·have h:=aC h;have g:=aC g;rw [aO (by omega),aO (by omega)] at hq;have l1:(l.take k).length=k:=by rw [aH]; omega
  have l2:(l.drop k).length=l.length - k:=bV;refine⟨⟨by omega,by omega⟩,λ_=>⟨by omega,λ_=>⟨by omega,λ_=>⟨by omega,λ_=> ?_⟩⟩⟩⟩;refine⟨l.take k,⟨⟨⟨l1.symm,rfl,zf5 l k (by omega)⟩,trivial⟩,by omega,by omega⟩,⟨(),trivial⟩,λ_ _=> ?_⟩;refine⟨l.drop k,⟨⟨⟨l2.symm,rfl,zdo l k⟩,trivial⟩,by omega,by omega⟩,⟨(),trivial⟩,λ_ _=> ?_⟩;exact RetR.le0 hq (λh=>by cases h) (zol _ _)
def Xd:Ctr:=ctrP false (λl:List Con=>[Con.conS l]) (λl=>l.length<2^40) (λ_ (_:Unit)=>True) (λl _=>((Tm.whole l).conD,[]))
theorem zjy:zg prog 54 Xd:=vB List.length zl2
noncomputable def K145:=Go.Sx.aA f145
def zcj:Ctr:=ctr2 true (λx y=>(canon x).length<100000/\(canon y).length<100000) (λx y d=>d=x+y) (λ_ _ d=>(magS d,[]))
def SPl(x y:Nat)(o:List Nat)(c i:Nat):KV:=[(1,magS y),(5,.osl 0 1 0 o.length),(6,.int .u32 (c:Int)),(21,magS x),(22,.i ((canon x).length:Int)),(23,.i (i:Int))]
structure IPl(x y:Nat) where
 o:List Nat
 c:Nat
 i:Nat
 len:o.length=i
 le:i<=(canon x).length
 dg:dig o
 c1:c<=1
 eq:val o+B^i*c=val ((canon x).take i)+val ((canon y).take i)
theorem zru{x y o c i d c':Nat}{l m:List Nat}(h:o+B^i*c=val (l.take i)+val (m.take i))(he:d+B*c'=l.getD i 0+m.getD i 0+c):o+B^i*d+B^(i+1)*c'=val (l.take (i+1))+val (m.take (i+1)):=by
 rw [zy,zy,Nat.pow_succ];have:=congrArg (B^i * ·) he;simp only [bN] at this;rw [bI];omega
theorem RetR.zsx{ctr:Ctr}{Q:AV×Heap->Prop}{h:Heap}{i m n:Nat}{k:IntKind}{l:List Nat}{G:Nat->Nat->AV}(hq:Q (natS k l,[]))(hb:h[i]?=some (.arr m 1 G))(hn:n<=m)(hl:l.length=n)(hG:∀ j,j<n->G j 0 = .int k ((l.getD j 0:Nat):Int)):RetR ctr 0 Q [.osl i 1 0 n] h:=by
 refine RetR.out0 hq (λ_=> ?_) ?_
 ·refine zit hb (by omega) λj o hj ho=> ?_
  have:o=0:=by omega
  subst this;simp only [zf,Nat.zero_add,hG j hj,qF]
 ·have e:exp2 h [] (resV [.osl i 1 0 n])=exp0 h [] (.osl i 1 0 n):=rfl;rw [e,XI hb (by omega),zsu];simp only [eqA2,natS];refine⟨hl.symm,rfl,λj o hj ho=> ?_⟩;have:o=0:=by omega
  subst this;rw [hG j hj]; rfl
theorem YG{O:Nat->Prop}{w0:World}{Q:AV×Heap->Prop}(x y:Nat)(hx:(canon x).length<100000)(hlen:(canon y).length<=(canon x).length)(hq:Q (magS (x+y),[]))(kv:KV)(h:Heap)(hle:LeK 0 f145.ntmps kv h (SPl x y [] 0 0) [.arr 0 1 (natG .u32 [])]) :
  zd prog f145 O 0 w0 [] (λ_ _ _=>False) (RetR zcj 0 Q) (.code (.loop (lps K145 0).1)::(lps K145 0).2) (mk f145.ntmps kv h):=by
 refine zd.loop (ι:=IPl x y) (λs=>SPl x y s.o s.c s.i) (λs=>[.arr s.o.length 1 (natG .u32 s.o)]) (λs=>(canon x).length - s.i) ⟨[],0,0,rfl,aI _,by simp [dig],by omega,by simp [val]⟩ 0 hle ?_ (by kernel_rfl);rintro⟨o,c,i,ho,hle,hd,hc,he⟩;subst ho;have hB:B=1000000000:=rfl;refine zd.n G1.h [1,5,6,21,22,23] (let v8:=natG .u32 o;let v7:=inR .i64 (o.length+1);let v4:=o.length+1;let v1:=Int.toNat o.length;let v6:=Int.tdiv ((↑(List.getD (canon x) v1 0):Int)+c) (1000000000:Int);let v5:=zj 1 [.int .u32 (Int.tmod ((↑(List.getD (canon x) v1 0):Int)+c) (1000000000:Int))];let v3:=Int.tdiv ((↑(List.getD (canon x) v1 0):Int)+c+(↑(List.getD (canon y) v1 0):Int)) (1000000000:Int);let v2:=zj 1 [.int .u32 (Int.tmod ((↑(List.getD (canon x) v1 0):Int)+c+(↑(List.getD (canon y) v1 0):Int)) (1000000000:Int))];.D ((o.length:Int)<((canon x).length:Int)) (.side ((0:Int)<=o.length/\(o.length:Int)<((canon x).length:Int)) (.side (inR .u32 ((↑(List.getD (canon x) v1 0):Int)+c)) (.D ((o.length:Int)<((canon y).length:Int)) (.side ((0:Int)<=o.length/\(o.length:Int)<((canon y).length:Int)) (.side (inR .u32 ((↑(List.getD (canon x) v1 0):Int)+c+(↑(List.getD (canon y) v1 0):Int))) (.side ((1000000000:Int)≠0/\inR .u32 v3) (.side ((1000000000:Int)≠0) (.side (0=0/\o.length<=o.length/\v4 *4<=140737488355328) (.side v7 (.leaf (.back 0 [(1,.sl (canon y).length 1 (natG .u32 (canon y))),(5,.osl 0 1 0 v4),(6,.int .u32 v3),(21,.sl (canon x).length 1 (natG .u32 (canon x))),(22,.i (canon x).length),(23,.i (o.length+1))] [.arr v4 1 (appG o.length v8 (zf v2 0)),.arr 1 1 v2])))))))) (.side ((1000000000:Int)≠0/\inR .u32 v6) (.side ((1000000000:Int)≠0) (.side (0=0/\o.length<=o.length/\v4 *4<=140737488355328) (.side v7 (.leaf (.back 0 [(1,.sl (canon y).length 1 (natG .u32 (canon y))),(5,.osl 0 1 0 v4),(6,.int .u32 v6),(21,.sl (canon x).length 1 (natG .u32 (canon x))),(22,.i (canon x).length),(23,.i (o.length+1))] [.arr v4 1 (appG o.length v8 (zf v5 0)),.arr 1 1 v5]))))))))) (.side (0=0/\o.length<=o.length/\v4 *4<=140737488355328) (.ex (λ(u:List Nat)=>u.length=o.length+1/\0+(o.length+1)<=o.length+1/\o.length+1<4611686018427387904/\eqG v4 1 (appG o.length v8 (zf (zj 1 [.int .u32 c]) 0)) (natG .u32 u)/\dig (List.take v4 (List.drop 0 u))) λn=>.all (λ(x:Nat)=>x=val (List.take v4 (List.drop 0 n))) λn=>.R [.osl 0 1 0 (canon n).length] [.arr v4 1 (appG o.length v8 (zf (zj 1 [.int .u32 c]) 0)),.arr 1 1 (zj 1 [.int .u32 c])]))) ?_;simp only [Tree.holds,zh,inR,lo,hi,aD,y5];have ha:=zX (zo x) o.length;have hb:=zX (zo y) o.length
 have hnext:∀ d c':Nat,d<B->c'<=1->o.length<(canon x).length->d+B*c'=(canon x).getD o.length 0+(canon y).getD o.length 0+c ->
   ∃ s:IPl x y,s.o=o++[d]/\s.c=c'/\s.i=o.length+1:=λd c' h1 h2 h3 h4=>
  ⟨⟨o++[d],c',o.length+1,by simp,h3,j3.2 ⟨hd,by simp [dig,h1]⟩,h2,by rw [WA]; exact zru (x:=x) (y:=y) he h4⟩,rfl,rfl,rfl⟩
 have hdiv:∀ v:Nat,(v:Int).tdiv 1000000000=((v/B:Nat):Int)/\(v:Int).tmod 1000000000=((v%B:Nat):Int):=λv=>⟨rfl,rfl⟩
 have hq2:∀ v:Nat,v<2*B->v/B<=1/\v%B<B/\v%B+B*(v/B)=v:=λv hv=>⟨by have:=Nat.div_lt_of_lt_mul (show v<B*2 by omega); omega,Nat.mod_lt _ (by omega),Nat.mod_add_div _ _⟩
 refine⟨λhlt=> ?_,λhge=> ?_⟩
 ·have hlt:o.length<(canon x).length:=by have:=aB hlt; omega
  refine⟨by omega,λ_=>⟨by omega,λ_=>⟨λhb2=> ?_,λhb2=> ?_⟩⟩⟩
  ·have hb2:o.length<(canon y).length:=by have:=aB hb2; omega
   refine⟨by omega,λ_=>⟨by omega,λ_=> ?_⟩⟩;obtain⟨v,hv⟩:∃ v,(canon x).getD o.length 0+c+(canon y).getD o.length 0=v:=⟨_,rfl⟩;have ev:(((canon x).getD o.length 0:Nat):Int)+(c:Int)+(((canon y).getD o.length 0:Nat):Int)=(v:Int):=by omega
   rw [ev,(hdiv v).1,(hdiv v).2];obtain⟨g1,g2,g3⟩:=hq2 v (by omega);generalize v/B=q at g1 g3 ⊢;generalize v%B=r at g2 g3 ⊢;refine⟨⟨by decide,by omega,by omega⟩,λ_=>⟨by decide,λ_=>⟨⟨trivial,aJ _,by omega⟩,λ_=>⟨by omega,λ_=> ?_⟩⟩⟩⟩;obtain⟨s,h1,h2,h3⟩:=hnext r q g2 g1 hlt (by omega);rw [aP trivial];exact⟨s,by show _ - s.i<_; omega,by simp [SPl,h1,h2,h3,magS,natS,za],by rw [h1]; exact vT rfl,by kernel_rfl,aI _⟩
  ·have hb2:(canon y).length<=o.length:=by have:=aC hb2; omega
   have hb0:(canon y).getD o.length 0=0:=by simp [List.getD,aZ hb2]
   obtain⟨v,hv⟩:∃ v,(canon x).getD o.length 0+c=v:=⟨_,rfl⟩;have ev:(((canon x).getD o.length 0:Nat):Int)+(c:Int)=(v:Int):=by omega
   rw [ev,(hdiv v).1,(hdiv v).2];obtain⟨g1,g2,g3⟩:=hq2 v (by omega);generalize v/B=q at g1 g3 ⊢;generalize v%B=r at g2 g3 ⊢;refine⟨⟨by decide,by omega,by omega⟩,λ_=>⟨by decide,λ_=>⟨⟨trivial,aJ _,by omega⟩,λ_=>⟨by omega,λ_=> ?_⟩⟩⟩⟩;obtain⟨s,h1,h2,h3⟩:=hnext r q g2 g1 hlt (by omega);rw [aP trivial];exact⟨s,by show _ - s.i<_; omega,by simp [SPl,h1,h2,h3,magS,natS,za],by rw [h1]; exact vT rfl,by kernel_rfl,aI _⟩
 ·have hge:o.length=(canon x).length:=by have:=aC hge; omega
  have hv:val (o++[c])=x+y:=by
   rw [WA];rw [hge,bD,bF hlen,zq,zq] at he;rw [hge]; exact he
  have hdo:dig (o++[c]):=j3.2 ⟨hd,by simp [dig]; omega⟩
  have hpush:eqG (o.length+1) 1 (appG o.length (natG .u32 o) (zf (zj 1 [.int .u32 (c:Int)]) 0)) (natG .u32 (o++[c])):=by
   have:=uL (k:=.u32) (l:=o) (v:=(c:Int)) (by omega);simpa using this
  have hall:List.take (o.length+1) (List.drop 0 (o++[c]))=o++[c]:=by rw [List.drop_zero]; exact bF (by simp)
  refine⟨⟨trivial,aJ _,by omega⟩,λ_=>⟨o++[c],⟨by simp,by omega,by omega,hpush,by rw [hall]; exact hdo⟩,⟨_,rfl⟩,?_⟩⟩;intro X hX;have hX:X=x+y:=by rw [hX,hall,hv]
  subst hX;have htr:ja (o++[c])=canon (x+y):=by rw [qb hdo,hv]
  have htl:(canon (x+y)).length=tlen (o++[c]):=by rw [<- htr,ja,aH]; have:=q8 (o++[c]); omega
  rw [htl];have hle2:=q8 (o++[c]);have hln:(o++[c]).length=o.length+1:=by simp
  refine RetR.zsx (l:=canon (x+y)) (k:=.u32) hq rfl (by omega) htl λj hj=> ?_
  have:=hpush j 0 (by omega) (by omega);rw [this,<- htr];simp only [natG,ja];rw [zcg hj]
theorem zbq:zg prog 145 zcj:=by
 refine Zt (fn:=f145) (c:=f145.body.getD .skip) rfl rfl rfl λx y hp O w0 Q hq=> ?_
 replace hq:=hq _ rfl;obtain⟨hx,hy⟩:=hp;refine zd.n G1.h [1,5,6,21,22,23] (let v1:=lps K145 0;.D (((canon x).length:Int)<((canon y).length:Int)) (.S ((canon y).length+1) (.side ((0:Int)<=0/\(0:Int)<=((canon y).length:Int)+(1:Int)/\inR .i64 ((canon y).length+1)/\Int.toNat ((canon y).length+1)*4<=140737488355328) (.leaf (.loop v1.1 v1.2 [(1,.sl (canon x).length 1 (natG .u32 (canon x))),(5,.osl 0 1 0 0),(6,.int .u32 0),(21,.sl (canon y).length 1 (natG .u32 (canon y))),(22,.i (canon y).length),(23,.i 0)] [.arr 0 1 (wg [.int .u32 0])])))) (.S ((canon x).length+1) (.side ((0:Int)<=0/\(0:Int)<=((canon x).length:Int)+(1:Int)/\inR .i64 ((canon x).length+1)/\Int.toNat ((canon x).length+1)*4<=140737488355328) (.leaf (.loop v1.1 v1.2 [(1,.sl (canon y).length 1 (natG .u32 (canon y))),(5,.osl 0 1 0 0),(6,.int .u32 0),(21,.sl (canon x).length 1 (natG .u32 (canon x))),(22,.i (canon x).length),(23,.i 0)] [.arr 0 1 (wg [.int .u32 0])]))))) ?_;simp only [Tree.holds,zh,inR,lo,hi];refine⟨λh=> ?_,λh=> ?_⟩
 ·have h:(canon x).length<(canon y).length:=by have:=aB h; omega
  refine⟨by omega,λ_=>⟨⟨by omega,by omega,by omega,by omega⟩,λ_=> ?_⟩⟩;rw [Nat.add_comm] at hq;exact YG y x hy (by omega) hq _ _ ⟨by simp [SPl,magS,natS,za],by simp [eqG],by kernel_rfl,aI _⟩
 ·have h:(canon y).length<=(canon x).length:=by have:=aC h; omega
  refine⟨by omega,λ_=>⟨⟨by omega,by omega,by omega,by omega⟩,λ_=> ?_⟩⟩;exact YG x y hx h hq _ _ ⟨by simp [SPl,magS,natS,za],by simp [eqG],by kernel_rfl,aI _⟩
def zd3:Ctr:=ctrP false (λp:Bool×Nat=>[.bool p.1,magS p.2]) (λ_=>True) (λp r=>r=(p.1&&decide (0<p.2),p.2)) (λ_ (r:Bool×Nat)=>(numV r.1 r.2,[]))
theorem QP{x:Nat} : decide (0<((canon x).length:Int))=decide (0<x):=by
 by_cases h:x=0
 ·subst h; simp [canon]
 ·have h1:0<x:=bW h;have h2:(canon x).length≠0:=λh2=>h (yG.1 h2)
  rw [aX (by omega),aX h1]
theorem RetR.numV{ctr:Ctr}{Q:AV×Heap->Prop}{h:Heap}{b:Bool}{x:Nat}(hf:ctr.fresh=false)(hq:Q (numV b x,[])):RetR ctr 0 Q [.agg [.bool b,magS x]] h:=by
 refine RetR.out0 hq (λh=>by rw [hf] at h; cases h) ?_;simp [resV,exp2,exp1,exp0,ren0,frz1,eqA2,eqL1,eqA,eqL0,eqA0,Tryz.numV,magS,natS,za]
theorem zmr:zg prog 144 zd3:=by
 refine zm' f144 λp hp O w0 Q hq=> ?_
 obtain⟨b,x⟩:=p;replace hq:=hq _ rfl;refine zd.n zJ [] (let v1:List AV:=[.bool (bif b then decide ((0:Int)<((canon x).length:Int)) else false),.sl (canon x).length 1 (natG .u32 (canon x))];.R [.agg v1] [.box v1]) ?_;simp only [Tree.holds,zh];rw [QP];have e:(bif b then decide (0<x) else false)=(b&&decide (0<x)):=by cases b<;>rfl
 rw [e];exact RetR.numV rfl hq
def sumC:Ctr:=ctrP false (λp:(Bool×Nat)×(Bool×Nat)=>[numV p.1.1 p.1.2,numV p.2.1 p.2.2]) (λp=>(canon p.1.2).length<100000/\(canon p.2.2).length<100000)
 (λp r=>r=((sumS p.1.1 p.1.2 p.2.1 p.2.2).1&&decide (0<(sumS p.1.1 p.1.2 p.2.1 p.2.2).2),(sumS p.1.1 p.1.2 p.2.1 p.2.2).2)) (λ_ (r:Bool×Nat)=>(numV r.1 r.2,[]))
noncomputable def GSu:=tb zmr (tb zbq (tb yY (tb JP tz)))
abbrev q40(A:List AV)(x:Bool×Nat):Prop:=eqL A [.bool x.1,.sl (canon x.2).length 1 (natG .u32 (canon x.2))]/\True
abbrev q39(A:List AV)(x:Nat×Nat):Prop:=eqL A [.sl (canon x.1).length 1 (natG .u32 (canon x.1)),.sl (canon x.2).length 1 (natG .u32 (canon x.2))]/\List.length (canon x.1)<100000/\List.length (canon x.2)<100000
theorem zsj:zg prog 108 sumC:=by
 refine zm' f108 λp hp O w0 Q hq=> ?_
 obtain⟨⟨m,x⟩,⟨n,y⟩⟩:=p;obtain⟨h1,h2⟩:=hp;replace hq:=hq _ rfl;simp only at h1 h2 hq;refine zd.n GSu.h [] (let v8:=natG .u32 (canon x);let v7:=natG .u32 (canon y);let v3:List AV:=[.bool n,.sl (canon y).length 1 v7];let v2:List AV:=[.bool m,.sl (canon x).length 1 v8];let v1:=[AV.sl (canon x).length 1 v8,AV.sl (canon y).length 1 v7];.ite (m == n) (.ex (q39 v1) λn_1=>.all (λ(d:Nat)=>d=n_1.1+n_1.2) λn_2=>.ex (q40 [.bool m,.sl (canon n_2).length 1 (natG .u32 (canon n_2))]) λn_3=>.all (λ(r:Bool×Nat)=>r=(n_3.1&&decide (0<n_3.2),n_3.2)) λn_4=>let v4:List AV:=[.bool n_4.1,.sl (canon n_4.2).length 1 (natG .u32 (canon n_4.2))];.R [.agg v4] [.box v2,.box v3,.box v4]) (.ex (q11 v1) λn_1=>.all (λ(r:Int)=>r=cmp3 n_1.1 n_1.2) λn_2=>.D ((0:Int)<=n_2) (.ex (q12 v1) λn_3=>.all (λ(d:Nat)=>d=n_3.1 - n_3.2) λn_4=>.ex (q40 [.bool m,.sl (canon n_4).length 1 (natG .u32 (canon n_4))]) λn_5=>.all (λ(r:Bool×Nat)=>r=(n_5.1&&decide (0<n_5.2),n_5.2)) λn_6=>let v5:List AV:=[.bool n_6.1,.sl (canon n_6.2).length 1 (natG .u32 (canon n_6.2))];.R [.agg v5] [.box v2,.box v3,.box v5]) (.ex (q12 [.sl (canon y).length 1 v7,.sl (canon x).length 1 v8]) λn_3=>.all (λ(d:Nat)=>d=n_3.1 - n_3.2) λn_4=>.ex (q40 [.bool n,.sl (canon n_4).length 1 (natG .u32 (canon n_4))]) λn_5=>.all (λ(r:Bool×Nat)=>r=(n_5.1&&decide (0<n_5.2),n_5.2)) λn_6=>let v6:List AV:=[.bool n_6.1,.sl (canon n_6.2).length 1 (natG .u32 (canon n_6.2))];.R [.agg v6] [.box v2,.box v3,.box v6]))) ?_;simp only [q11,q12,q39,q40,Tree.holds,zh];have eL:∀ a b:Nat,eqL [.sl (canon a).length 1 (natG .u32 (canon a)),.sl (canon b).length 1 (natG .u32 (canon b))] [.sl (canon a).length 1 (natG .u32 (canon a)),.sl (canon b).length 1 (natG .u32 (canon b))]:=λa b=>⟨⟨rfl,rfl,za _ _ _⟩,⟨rfl,rfl,za _ _ _⟩,trivial⟩
 have eK:∀ (b:Bool) (a:Nat),eqL [.bool b,.sl (canon a).length 1 (natG .u32 (canon a))] [.bool b,.sl (canon a).length 1 (natG .u32 (canon a))]:=λb a=>⟨rfl,⟨rfl,rfl,za _ _ _⟩,trivial⟩
 have hcm:∀ v,v=cmp3 x y->(0<=v↔y<=x):=by
  rintro v rfl;unfold cmp3;split
  ·exact⟨λh=>by omega,λh=>by omega⟩
  ·split
   ·exact⟨λh=>by omega,λh=>by omega⟩
   ·exact⟨λh=>by omega,λh=>by omega⟩
 refine⟨λh=> ?_,λh=>⟨(x,y),⟨eL x y,by show(canon x).length<_; omega,by show(canon y).length<_; omega⟩,⟨_,rfl⟩,?_⟩⟩
 ·have h:m=n:=by simpa using h
  refine⟨(x,y),⟨eL x y,h1,h2⟩,⟨_,rfl⟩,?_⟩;rintro _ rfl;refine⟨(m,x+y),⟨eK m _,trivial⟩,⟨_,rfl⟩,?_⟩;rintro _ rfl;have e:sumS m x n y=(m,x+y):=aP h;rw [e] at hq;exact RetR.numV rfl hq
 ·have h:¬ m=n:=by simpa using h
  intro v hv;have hv:=hcm v hv;refine⟨λg=> ?_,λg=> ?_⟩
  ·have g:y<=x:=hv.1 (aB g);refine⟨(x,y),⟨eL x y,by show(canon x).length<_; omega,g⟩,⟨_,rfl⟩,?_⟩;rintro _ rfl;refine⟨(m,x - y),⟨eK m _,trivial⟩,⟨_,rfl⟩,?_⟩;rintro _ rfl;have e:sumS m x n y=(m,x - y):=by rw [sumS,aO h,aP g]
   rw [e] at hq;exact RetR.numV rfl hq
  ·have g:¬ y<=x:=λh3=>aC g (hv.2 h3)
   refine⟨(y,x),⟨eL y x,by show(canon y).length<_; omega,by show x<=y; omega⟩,⟨_,rfl⟩,?_⟩;rintro _ rfl;refine⟨(n,y - x),⟨eK n _,trivial⟩,⟨_,rfl⟩,?_⟩;rintro _ rfl;have e:sumS m x n y=(n,y - x):=by rw [sumS,aO h,aO g]
   rw [e] at hq;exact RetR.numV rfl hq
theorem qm{x n:Nat}(h:x<B^n)(hn:n<100000):(canon x).length<100000:=by have:=zF h; omega
theorem qY{s:L8}(h:errI s=0):numI s<B^112:=jW.2 (ur h)
theorem zb5{x y:Nat}(hx:x<B^112)(hy:y<B^112):x+y<B^113/\x*y<B^224:=by
 constructor
 ·have:B^113=B^112*B:=Nat.pow_succ B 112;have hB:B=1000000000:=rfl;generalize B^112=p at *
  rw [this,hB]; omega
 ·have:B^224=B^112*B^112:=by rw [<- Nat.pow_add]
  rw [this];exact Nat.mul_lt_mul_of_lt_of_lt hx hy
noncomputable def GAd:=tb K1 (tb zsj (tb Wp (tb XP (tb yY tz))))
def addC:Ctr:=ctrP true (λp:L8×L8=>[.str p.1,.str p.2]) (λp=>p.1.length<2^62/\p.2.length<2^62) (λp r=>r=addI p.1 p.2) (λ_ r=>(.tup [.str r.1,.i r.2],[]))
def subC:Ctr:=ctrP true (λp:L8×L8=>[.str p.1,.str p.2]) (λp=>p.1.length<2^62/\p.2.length<2^62) (λp r=>r=subI p.1 p.2) (λ_ r=>(.tup [.str r.1,.i r.2],[]))
def mulC:Ctr:=ctrP true (λp:L8×L8=>[.str p.1,.str p.2]) (λp=>p.1.length<2^62/\p.2.length<2^62) (λp r=>r=mulI p.1 p.2) (λ_ r=>(.tup [.str r.1,.i r.2],[]))
def zp9:Ctr:=ctrP true (λp:L8×L8=>[.str p.1,.str p.2]) (λp=>p.1.length<2^62/\p.2.length<2^62) (λp r=>r=VH p.1 p.2) (λ_ r=>(.tup [.i r.1,.i r.2],[]))
abbrev q41(A:List AV)(x:(Bool×Nat)×Bool×Nat):Prop:=eqL A [.agg [.bool x.1.1,.sl (canon x.1.2).length 1 (natG .u32 (canon x.1.2))],.agg [.bool x.2.1,.sl (canon x.2.2).length 1 (natG .u32 (canon x.2.2))]]/\List.length (canon x.1.2)<100000/\List.length (canon x.2.2)<100000
theorem zrq:zg prog 88 addC:=by
 refine zm' f88 λp hp O w0 Q hq=> ?_
 obtain⟨s,t⟩:=p;obtain⟨hs,ht⟩:=hp;replace hq:=hq _ rfl;simp only at hs ht hq;refine zd.n GAd.h [] (.ex (q17 [.str s,.str t]) λn=>.all (λ(r:Int×(Bool×Nat)×Bool×Nat)=>r=if zC n.1 n.2=0 then((0:Int),(negI n.1,numI n.1),negI n.2,numI n.2) else(zC n.1 n.2,(false,0),false,0)) λn=>let v4:=canon n.2.2.2;let v3:=canon n.2.1.2;let v1:List Blk:=[.box [.bool n.2.1.1,.sl v3.length 1 (natG .u32 v3)],.box [.bool n.2.2.1,.sl v4.length 1 (natG .u32 v4)]];.N (n.1=0) (.R [.str #[].toList,.i n.1] v1) (.ex (q41 [.agg [.bool n.2.1.1,.sl v3.length 1 (natG .u32 v3)],.agg [.bool n.2.2.1,.sl v4.length 1 (natG .u32 v4)]]) λn_1=>let v2:=sumS n_1.1.1 n_1.1.2 n_1.2.1 n_1.2.2;.all (λ(r:Bool×Nat)=>r=(Prod.fst v2 &&decide (0<Prod.snd v2),Prod.snd v2)) λn_2=>.ex (q19 [.agg [.bool n_2.1,.sl (canon n_2.2).length 1 (natG .u32 (canon n_2.2))]]) λn_3=>.all (λ(r:L8×Int)=>r=wr n_3.1 n_3.2) λn_4=>.R [.str n_4.1,.i n_4.2] v1)) ?_;simp only [q17,q19,q41,Tree.holds,zh];refine⟨(s,t),⟨by simp,by omega,by omega⟩,⟨_,rfl⟩,?_⟩;rintro _ rfl;simp only;by_cases he:zC s t=0
 ·obtain⟨e1,e2⟩:=zx.1 he;obtain⟨b1,b2⟩:=zb5 (qY e1) (qY e2);have c1:=qm (qY e1) (by decide);have c2:=qm (qY e2) (by decide);simp only [aP he];refine⟨λh=>(by simp at h),λ_=> ?_⟩;refine⟨((negI s,numI s),(negI t,numI t)),⟨⟨⟨rfl,⟨rfl,rfl,za _ _ _⟩,trivial⟩,⟨rfl,⟨rfl,rfl,za _ _ _⟩,trivial⟩,trivial⟩,c1,c2⟩,⟨_,rfl⟩,?_⟩;rintro _ rfl;refine⟨((sumS (negI s) (numI s) (negI t) (numI t)).1&&decide (0<(sumS (negI s) (numI s) (negI t) (numI t)).2),(sumS (negI s) (numI s) (negI t) (numI t)).2),⟨⟨⟨rfl,⟨rfl,rfl,za _ _ _⟩,trivial⟩,trivial⟩,?_⟩,⟨_,rfl⟩,?_⟩
  ·have:=qm (Nat.lt_of_le_of_lt (zbg (negI s) (numI s) (negI t) (numI t)) b1) (by decide);show(canon (sumS (negI s) (numI s) (negI t) (numI t)).2).length<1000000;omega
  rintro _ rfl;rw [zbo];have e:addI s t=wr (sumS (negI s) (numI s) (negI t) (numI t)).1 (sumS (negI s) (numI s) (negI t) (numI t)).2:=aP he;rw [e] at hq;exact RetR.scal hq rfl (by simp [resV])
 ·simp only [aO he];refine⟨λ_=> ?_,λh=>(by simp [he] at h)⟩;have e:addI s t=([],zC s t):=aO he;rw [e] at hq;exact RetR.scal hq rfl (by simp [resV])
theorem zqw:zg prog 79 subC:=by
 refine zm' f79 λp hp O w0 Q hq=> ?_
 obtain⟨s,t⟩:=p;obtain⟨hs,ht⟩:=hp;replace hq:=hq _ rfl;simp only at hs ht hq;refine zd.n GAd.h [] (.ex (q17 [.str s,.str t]) λn=>.all (λ(r:Int×(Bool×Nat)×Bool×Nat)=>r=if zC n.1 n.2=0 then((0:Int),(negI n.1,numI n.1),negI n.2,numI n.2) else(zC n.1 n.2,(false,0),false,0)) λn=>let v5:=canon n.2.1.2;let v4:=canon n.2.2.2;let v3:List AV:=[.bool n.2.1.1,.sl v5.length 1 (natG .u32 v5)];let v1:=bif !Prod.fst n.2.2 then decide ((0:Int)<((canon n.2.2.2).length:Int)) else false;.N (n.1=0) (.R [.str #[].toList,.i n.1] [.box v3,.box [.bool n.2.2.1,.sl v4.length 1 (natG .u32 v4)]]) (.ex (q41 [.agg [.bool n.2.1.1,.sl v5.length 1 (natG .u32 v5)],.agg [.bool v1,.sl v4.length 1 (natG .u32 v4)]]) λn_1=>let v2:=sumS n_1.1.1 n_1.1.2 n_1.2.1 n_1.2.2;.all (λ(r:Bool×Nat)=>r=(Prod.fst v2 &&decide (0<Prod.snd v2),Prod.snd v2)) λn_2=>.ex (q19 [.agg [.bool n_2.1,.sl (canon n_2.2).length 1 (natG .u32 (canon n_2.2))]]) λn_3=>.all (λ(r:L8×Int)=>r=wr n_3.1 n_3.2) λn_4=>.R [.str n_4.1,.i n_4.2] [.box v3,.box [.bool v1,.sl v4.length 1 (natG .u32 v4)]])) ?_;simp only [q17,q19,q41,Tree.holds,zh];refine⟨(s,t),⟨by simp,by omega,by omega⟩,⟨_,rfl⟩,?_⟩;rintro _ rfl;simp only;by_cases he:zC s t=0
 ·obtain⟨e1,e2⟩:=zx.1 he;obtain⟨b1,b2⟩:=zb5 (qY e1) (qY e2);have c1:=qm (qY e1) (by decide);have c2:=qm (qY e2) (by decide);simp only [aP he];refine⟨λh=>(by simp at h),λ_=> ?_⟩;have eN:(bif !negI t then decide (0<((canon (numI t)).length:Int)) else false)=(!negI t&&decide (0<numI t)):=by rw [QP]; cases negI t<;>rfl
  rw [eN];refine⟨((negI s,numI s),(!negI t&&decide (0<numI t),numI t)),⟨⟨⟨rfl,⟨rfl,rfl,za _ _ _⟩,trivial⟩,⟨rfl,⟨rfl,rfl,za _ _ _⟩,trivial⟩,trivial⟩,c1,c2⟩,⟨_,rfl⟩,?_⟩;rintro _ rfl;simp only [zec];refine⟨((sumS (negI s) (numI s) (!negI t) (numI t)).1&&decide (0<(sumS (negI s) (numI s) (!negI t) (numI t)).2),(sumS (negI s) (numI s) (!negI t) (numI t)).2),⟨⟨⟨rfl,⟨rfl,rfl,za _ _ _⟩,trivial⟩,trivial⟩,?_⟩,⟨_,rfl⟩,?_⟩
  ·have:=qm (Nat.lt_of_le_of_lt (zbg (negI s) (numI s) (!negI t) (numI t)) b1) (by decide);show(canon (sumS (negI s) (numI s) (!negI t) (numI t)).2).length<1000000;omega
  rintro _ rfl;rw [zbo];have e:subI s t=wr (sumS (negI s) (numI s) (!negI t) (numI t)).1 (sumS (negI s) (numI s) (!negI t) (numI t)).2:=aP he;rw [e] at hq;exact RetR.scal hq rfl (by simp [resV])
 ·simp only [aO he];refine⟨λ_=> ?_,λh=>(by simp [he] at h)⟩;have e:subI s t=([],zC s t):=aO he;rw [e] at hq;exact RetR.scal hq rfl (by simp [resV])
theorem zr7:zg prog 77 mulC:=by
 refine zm' f77 λp hp O w0 Q hq=> ?_
 obtain⟨s,t⟩:=p;obtain⟨hs,ht⟩:=hp;replace hq:=hq _ rfl;simp only at hs ht hq;refine zd.n GAd.h [] (.ex (q17 [.str s,.str t]) λn=>.all (λ(r:Int×(Bool×Nat)×Bool×Nat)=>r=if zC n.1 n.2=0 then((0:Int),(negI n.1,numI n.1),negI n.2,numI n.2) else(zC n.1 n.2,(false,0),false,0)) λn=>let v5:=canon n.2.1.2;let v4:=canon n.2.2.2;let v3:List AV:=[.bool n.2.2.1,.sl v4.length 1 (natG .u32 v4)];let v2:List AV:=[.bool n.2.1.1,.sl v5.length 1 (natG .u32 v5)];.N (n.1=0) (.R [.str #[].toList,.i n.1] [.box v2,.box v3]) (.ex (q11 [.sl v5.length 1 (natG .u32 v5),.sl v4.length 1 (natG .u32 v4)]) λn_1=>let v1:=List.length (canon n_1.1)+List.length (canon n_1.2);.all (λ(p:Nat)=>p=n_1.1*n_1.2) λn_2=>.ex (q19 [.agg [.bool !Prod.fst n.2.1 == n.2.2.1,.sl (canon n_2).length 1 (zf (natG .u32 (padN v1 n_2)) 0)]]) λn_3=>.all (λ(r:L8×Int)=>r=wr n_3.1 n_3.2) λn_4=>.R [.str n_4.1,.i n_4.2] [.box v2,.box v3,.arr v1 1 (natG .u32 (padN v1 n_2))])) ?_;simp only [q11,q17,q19,Tree.holds,zh];refine⟨(s,t),⟨by simp,by omega,by omega⟩,⟨_,rfl⟩,?_⟩;rintro _ rfl;simp only;by_cases he:zC s t=0
 ·obtain⟨e1,e2⟩:=zx.1 he;obtain⟨b1,b2⟩:=zb5 (qY e1) (qY e2);have c1:=qm (qY e1) (by decide);have c2:=qm (qY e2) (by decide);simp only [aP he];refine⟨λh=>(by simp at h),λ_=> ?_⟩;refine⟨(numI s,numI t),⟨⟨⟨rfl,rfl,za _ _ _⟩,⟨rfl,rfl,za _ _ _⟩,trivial⟩,by show(canon (numI s)).length<1000000; omega,by show(canon (numI t)).length<1000000; omega⟩,⟨_,rfl⟩,?_⟩;rintro _ rfl;refine⟨(negI s != negI t,numI s*numI t),⟨⟨⟨rfl,⟨rfl,rfl,λj o hj ho=>by simp only [zf,natG,Nat.zero_add,padN,uv hj]⟩,trivial⟩,trivial⟩,?_⟩,⟨_,rfl⟩,?_⟩
  ·have:=qm b2 (by decide);show(canon (numI s*numI t)).length<1000000;omega
  rintro _ rfl;have e:mulI s t=wr (negI s != negI t) (numI s*numI t):=aP he;rw [e] at hq;exact RetR.scal hq rfl (by simp [resV])
 ·simp only [aO he];refine⟨λ_=> ?_,λh=>(by simp [he] at h)⟩;have e:mulI s t=([],zC s t):=aO he;rw [e] at hq;exact RetR.scal hq rfl (by simp [resV])
theorem zos:zg prog 80 zp9:=by
 refine zm' f80 λp hp O w0 Q hq=> ?_
 obtain⟨s,t⟩:=p;obtain⟨hs,ht⟩:=hp;replace hq:=hq _ rfl;simp only at hs ht hq;refine zd.n GAd.h [] (.ex (q17 [.str s,.str t]) λn=>.all (λ(r:Int×(Bool×Nat)×Bool×Nat)=>r=if zC n.1 n.2=0 then((0:Int),(negI n.1,numI n.1),negI n.2,numI n.2) else(zC n.1 n.2,(false,0),false,0)) λn=>let v3:=canon n.2.2.2;let v2:=canon n.2.1.2;let v1:List Blk:=[.box [.bool n.2.1.1,.sl v2.length 1 (natG .u32 v2)],.box [.bool n.2.2.1,.sl v3.length 1 (natG .u32 v3)]];.N (n.1=0) (.R [.i 0,.i n.1] v1) (.ite (bif n.2.1.1 then !Prod.fst n.2.2 else false) (.R [.i (-1:Int),.i 0] v1) (.ite (bif n.2.2.1 then !Prod.fst n.2.1 else false) (.R [.i 1,.i 0] v1) (.ite n.2.1.1 (.ex (q11 [.sl v3.length 1 (natG .u32 v3),.sl v2.length 1 (natG .u32 v2)]) λn_1=>.all (λ(r:Int)=>r=cmp3 n_1.1 n_1.2) λn_2=>.R [.i n_2,.i 0] v1) (.ex (q11 [.sl v2.length 1 (natG .u32 v2),.sl v3.length 1 (natG .u32 v3)]) λn_1=>.all (λ(r:Int)=>r=cmp3 n_1.1 n_1.2) λn_2=>.R [.i n_2,.i 0] v1))))) ?_;simp only [q11,q17,Tree.holds,zh];refine⟨(s,t),⟨by simp,by omega,by omega⟩,⟨_,rfl⟩,?_⟩;rintro _ rfl;simp only;by_cases he:zC s t=0
 ·obtain⟨e1,e2⟩:=zx.1 he;obtain⟨b1,b2⟩:=zb5 (qY e1) (qY e2);have c1:=qm (qY e1) (by decide);have c2:=qm (qY e2) (by decide);simp only [aP he];refine⟨λh=>(by simp at h),λ_=> ?_⟩;have e:VH s t=(cmpZ (negI s) (numI s) (negI t) (numI t),0):=aP he;rw [e] at hq;have ec:∀ a b:Nat,cmp3 a b=cmpN a b:=λ_ _=>rfl
  simp only [cmpZ] at hq;have f1:fits (numI s):=by show(canon (numI s)).length<1000000; omega
  have f2:fits (numI t):=by show(canon (numI t)).length<1000000; omega
  refine⟨λh=> ?_,λh1=>⟨λh=> ?_,λh2=>⟨λh=>⟨(numI t,numI s),⟨⟨⟨rfl,rfl,za _ _ _⟩,⟨rfl,rfl,za _ _ _⟩,trivial⟩,f2,f1⟩,⟨_,rfl⟩,?_⟩,λh=>⟨(numI s,numI t),⟨⟨⟨rfl,rfl,za _ _ _⟩,⟨rfl,rfl,za _ _ _⟩,trivial⟩,f1,f2⟩,⟨_,rfl⟩,?_⟩⟩⟩⟩
  ·cases hm:negI s<;>cases hn:negI t<;>rw [hm,hn] at h hq<;>first | (cases h; done) | exact RetR.scal hq rfl (by simp [resV])
  ·cases hm:negI s<;>cases hn:negI t<;>rw [hm,hn] at h h1 hq<;>first | (cases h; done) | (cases h1; done) | exact RetR.scal hq rfl (by simp [resV])
  ·rintro _ rfl;rw [ec];cases hm:negI s<;>cases hn:negI t<;>rw [hm,hn] at h1 h2 hq<;>rw [hm] at h<;>first | (cases h; done) | (cases h1; done) | (cases h2; done) | exact RetR.scal hq rfl (by simp [resV])
  ·rintro _ rfl;rw [ec];cases hm:negI s<;>cases hn:negI t<;>rw [hm,hn] at h1 h2 hq<;>rw [hm] at h<;>first | (cases h; done) | (cases h1; done) | (cases h2; done) | exact RetR.scal hq rfl (by simp [resV])
 ·simp only [aO he];refine⟨λ_=> ?_,λh=>(by simp [he] at h)⟩;have e:VH s t=(0,zC s t):=aO he;rw [e] at hq;exact RetR.scal hq rfl (by simp [resV])
def dmC:Ctr:=ctrP true (λp:L8×L8=>[.str p.1,.str p.2]) (λp=>p.1.length<2^62/\p.2.length<2^62) (λp r=>r=dmI p.1 p.2) (λ_ r=>(.tup [.str r.1,.str r.2.1,.i r.2.2],[]))
noncomputable def GDm:=tb K1 (tb Vv (tb zbq (tb JP (tb Wp tz))))
theorem zf4:zg prog 143 dmC:=by
 refine zm' f143 λp hp O w0 Q hq=> ?_
 obtain⟨s,t⟩:=p;obtain⟨hs,ht⟩:=hp;replace hq:=hq _ rfl;simp only at hs ht hq;refine zd.n GDm.h [] (.ex (q17 [.str s,.str t]) λn=>.all (λ(r:Int×(Bool×Nat)×Bool×Nat)=>r=if zC n.1 n.2=0 then((0:Int),(negI n.1,numI n.1),negI n.2,numI n.2) else(zC n.1 n.2,(false,0),false,0)) λn=>let v5:=canon n.2.1.2;let v4:List AV:=[.bool n.2.1.1,.sl v5.length 1 (natG .u32 v5)];let v3:=canon n.2.2.2;let v6:List AV:=[.bool n.2.2.1,.sl v3.length 1 (natG .u32 v3)];let v2:List Blk:=[.box v4,.box v6,.arr 1 1 (zj 1 [.int .u32 1])];let v1:List Blk:=[.box v4,.box v6];.N (n.1=0) (.R [.str #[].toList,.str #[].toList,.i n.1] v1) (.D (((canon n.2.2.2).length:Int)=0) (.R [.str #[].toList,.str #[].toList,.i 16] v1) (.ex (q18 [.sl v5.length 1 (natG .u32 v5),.sl v3.length 1 (natG .u32 v3)]) λn_1=>.all (λ(r:Nat×Nat)=>r=(n_1.1/n_1.2,n_1.1%n_1.2)) λn_2=>let v8:=canon n_2.2;let v7:=canon n_2.1;.ite (bif n.2.1.1 then decide ((0:Int)<((canon n_2.2).length:Int)) else false) (.ex (q39 [.sl v7.length 1 (natG .u32 v7),.sl 1 1 (zf (zj 1 [.int .u32 1]) 0)]) λn_3=>.all (λ(d:Nat)=>d=n_3.1+n_3.2) λn_4=>.ex (q12 [.sl v3.length 1 (natG .u32 v3),.sl v8.length 1 (natG .u32 v8)]) λn_5=>.all (λ(d:Nat)=>d=n_5.1 - n_5.2) λn_6=>.ex (q19 [.agg [.bool !Prod.fst n.2.1 == n.2.2.1,.sl (canon n_4).length 1 (natG .u32 (canon n_4))]]) λn_7=>.all (λ(r:L8×Int)=>r=wr n_7.1 n_7.2) λn_8=>.N (n_8.2=0) (.R [.str #[].toList,.str #[].toList,.i n_8.2] v2) (.ex (q19 [.agg [.bool false,.sl (canon n_6).length 1 (natG .u32 (canon n_6))]]) λn_9=>.all (λ(r:L8×Int)=>r=wr n_9.1 n_9.2) λn_10=>.R [.str n_8.1,.str n_10.1,.i 0] v2)) (.ex (q19 [.agg [.bool !Prod.fst n.2.1 == n.2.2.1,.sl v7.length 1 (natG .u32 v7)]]) λn_3=>.all (λ(r:L8×Int)=>r=wr n_3.1 n_3.2) λn_4=>.N (n_4.2=0) (.R [.str #[].toList,.str #[].toList,.i n_4.2] v1) (.ex (q19 [.agg [.bool false,.sl v8.length 1 (natG .u32 v8)]]) λn_5=>.all (λ(r:L8×Int)=>r=wr n_5.1 n_5.2) λn_6=>.R [.str n_4.1,.str n_6.1,.i 0] v1))))) ?_;simp only [q12,q17,q18,q19,q39,Tree.holds,zh];refine⟨(s,t),⟨by simp,by omega,by omega⟩,⟨_,rfl⟩,?_⟩;rintro _ rfl;simp only;by_cases he:zC s t=0
 ·obtain⟨e1,e2⟩:=zx.1 he;have c1:=qm (qY e1) (by decide);have c2:=qm (qY e2) (by decide);simp only [aP he];refine⟨λh=>(by simp at h),λ_=> ?_⟩;refine⟨λh0=> ?_,λh0=> ?_⟩
  ·have h0:numI t=0:=yG.1 (by have:=aB h0; omega);have e:dmI s t=([],[],16):=by rw [dmI,aO (by rw [he]; decide),aP h0]
   rw [e] at hq;exact RetR.scal hq rfl (by simp [resV])
  have h0:numI t≠0:=λh=>aC h0 (by rw [yG.2 h]; rfl)
  have e:dmI s t=((wr (negI s != negI t) (dmQ s t)).1,(wr false (dmM s t)).1,0):=by rw [dmI,aO (by rw [he]; decide),aO h0]
  rw [e] at hq;have rq:=zim e1 h0;have rm:=zku (s:=s) e2 h0;have eL:∀ a b:Nat,eqL [.sl (canon a).length 1 (natG .u32 (canon a)),.sl (canon b).length 1 (natG .u32 (canon b))] [.sl (canon a).length 1 (natG .u32 (canon a)),.sl (canon b).length 1 (natG .u32 (canon b))]:=λa b=>⟨⟨rfl,rfl,za _ _ _⟩,⟨rfl,rfl,za _ _ _⟩,trivial⟩
  have eV:∀ (b:Bool) (a:Nat),eqL [.agg [.bool b,.sl (canon a).length 1 (natG .u32 (canon a))]] [.agg [.bool b,.sl (canon a).length 1 (natG .u32 (canon a))]]:=λb a=>⟨⟨rfl,⟨rfl,rfl,za _ _ _⟩,trivial⟩,trivial⟩
  have big:∀ {a:Nat},room a->(canon a).length<1000000:=λ{a} h=>by
   obtain⟨h3,h4,_⟩:=Ql (kI (neg:=false) h);have:=qm (qY h3) (by decide);rw [h4] at this; omega
  refine⟨(numI s,numI t),⟨eL _ _,c1,c2,bW h0⟩,⟨_,rfl⟩,?_⟩;rintro _ rfl;simp only;rw [QP];have hmod:=Nat.mod_lt (numI s) (bW h0);refine⟨λhc=> ?_,λhc=> ?_⟩
  ·have hc:negI s=true/\0<numI s%numI t:=by
    cases hn:negI s with
    | false=>rw [hn] at hc; cases hc
    | true=>rw [hn] at hc; exact⟨rfl,aB hc⟩
   have eQ:dmQ s t=numI s/numI t+1:=aP hc;have eM:dmM s t=numI t - numI s%numI t:=aP hc;rw [eQ,eM] at hq;rw [eQ] at rq;rw [eM] at rm
   have hone:canon 1=[1]:=by
    rw [jl (by decide)];exact congrArg (1 :: ·) zU
   have rdiv:=room_le (Nat.div_le_self (numI s) (numI t)) (jN e1)
   have hdl:(canon (numI s/numI t)).length<100000:=by
    have:=qm (Nat.lt_of_le_of_lt (Nat.div_le_self (numI s) (numI t)) (qY e1)) (by decide);exact this
   refine⟨(numI s/numI t,1),⟨⟨⟨rfl,rfl,za _ _ _⟩,⟨by rw [hone]; rfl,rfl,?_⟩,trivial⟩,hdl,by show(canon 1).length<100000; rw [hone]; decide⟩,⟨_,rfl⟩,?_⟩
   ·intro j o hj ho;have:j=0:=by omega
    subst this;have:o=0:=by omega
    subst this;show AV.int .u32 1 = .int .u32 (((canon 1).getD 0 0:Nat):Int);rw [hone]; rfl
   rintro _ rfl;refine⟨(numI t,numI s%numI t),⟨eL _ _,by show(canon (numI t)).length<1000000; omega,by show numI s%numI t<=numI t; omega⟩,⟨_,rfl⟩,?_⟩;rintro _ rfl;refine⟨(negI s != negI t,numI s/numI t+1),⟨eV _ _,big rq⟩,⟨_,rfl⟩,?_⟩;rintro _ rfl;have hz:=kI (neg:=(negI s != negI t)) rq;refine⟨λh=>by simp [hz] at h,λ_=>⟨(false,numI t - numI s%numI t),⟨eV _ _,big rm⟩,⟨_,rfl⟩,?_⟩⟩;rintro _ rfl;exact RetR.scal hq rfl (by simp [resV])
  ·have hc:¬ (negI s=true/\0<numI s%numI t):=by
    rintro⟨g1,g2⟩;rw [g1,aX g2] at hc;cases hc
   have eQ:dmQ s t=numI s/numI t:=aO hc;have eM:dmM s t=numI s%numI t:=aO hc;rw [eQ,eM] at hq;rw [eQ] at rq;rw [eM] at rm;refine⟨(negI s != negI t,numI s/numI t),⟨eV _ _,big rq⟩,⟨_,rfl⟩,?_⟩;rintro _ rfl;have hz:=kI (neg:=(negI s != negI t)) rq;refine⟨λh=>by simp [hz] at h,λ_=>⟨(false,numI s%numI t),⟨eV _ _,big rm⟩,⟨_,rfl⟩,?_⟩⟩;rintro _ rfl;exact RetR.scal hq rfl (by simp [resV])
 ·simp only [aO he];refine⟨λ_=> ?_,λh=>(by simp [he] at h)⟩;have e:dmI s t=([],[],zC s t):=aP he;rw [e] at hq;exact RetR.scal hq rfl (by simp [resV])
def Uu:Ctr:=ctrP true (λs:L8=>[.str s]) (λs=>s.length<2^62) (λs r=>r=if errR s=0 then(numR s,denR s,0) else([],[],errR s)) (λ_ (r:L8×L8×Int)=>(.tup [.str r.1,.str r.2.1,.i r.2.2],[]))
noncomputable def GPa:=tb kW (tb XO tz)
theorem zjp:zg prog 102 Uu:=by
 refine zm' f102 λs hs O w0 Q hq=> ?_
 replace hq:=hq _ rfl;refine zd.n GPa.h [] (.ex (q15 [.str s]) λn=>.all (λ(r:Int)=>r=errR n) λn=>.N (n=0) (.R [.str #[].toList,.str #[].toList,.i n] []) (.ex (q15 [.str s]) λn=>.all (λ(r:L8×L8×Bool)=>r=cutR n) λn=>.ite (!Prod.snd n.2) (.R [.str n.1,.str #[(49:UInt8)].toList,.i 0] []) (.R [.str n.1,.str n.2.1,.i 0] []))) ?_;simp only [q15,Tree.holds,zh];refine⟨s,⟨by simp,hs⟩,⟨_,rfl⟩,?_⟩;rintro _ rfl;refine⟨λh=> ?_,λh=>⟨s,⟨by simp,hs⟩,⟨_,rfl⟩,?_⟩⟩
 ·have h:errR s≠0:=by simpa using h
  rw [aO h] at hq;exact RetR.scal hq rfl (by simp [resV])
 ·have h:errR s=0:=by simpa using h
  rw [aP h] at hq;rintro _ rfl;refine⟨λg=> ?_,λg=> ?_⟩
  ·have e:denR s=[49]:=by unfold denR; rw [aO (by simpa using g)]
   rw [e] at hq;exact RetR.scal hq rfl (by simp [resV,numR])
  ·have e:denR s=(cutR s).2.1:=by unfold denR; rw [aP (by simpa using g)]
   rw [e] at hq;exact RetR.scal hq rfl (by simp [resV,numR])
def zck:Ctr:=ctrP true (λp:L8×L8=>[.str p.1,.str p.2]) (λp=>p.1.length<2^62/\p.2.length<2^62) (λp r=>r=wo p.1 p.2) (λ_ r=>(.tup [.str r.1,.i r.2],[]))
noncomputable def GMk:=tb zj2 (tb zf4 tz)
theorem zm7:zg prog 107 zck:=by
 refine zm' f107 λp hp O w0 Q hq=> ?_
 obtain⟨s,t⟩:=p;obtain⟨hs,ht⟩:=hp;replace hq:=hq _ rfl;simp only at hs ht hq;refine zd.n GMk.h [] (.ex (q17 [.str s,.str t]) λn=>.all (λ(r:L8×Int)=>r=gcdR n.1 n.2) λn=>.N (n.2=0) (.R [.str #[].toList,.i n.2] []) (.D (t=#[(48:UInt8)].toList) (.R [.str #[].toList,.i 16] []) (.side ((0:Int)<=0/\(0:Int)<t.length) (.D ((↑(UInt8.toNat (t.getD 0 (0:UInt8))):Int)=45) (.side (1+n.1.length<=9223372036854775807) (.ex (q17 [.str s,.str (#[(45:UInt8)].toList++n.1)]) λn_1=>.all (λ(r:L8×L8×Int)=>r=dmI n_1.1 n_1.2) λn_2=>.ex (q17 [.str t,.str (#[(45:UInt8)].toList++n.1)]) λn=>.all (λ(r:L8×L8×Int)=>r=dmI n.1 n.2) λn=>.D (n.1=#[(49:UInt8)].toList) (.R [.str n_2.1,.i 0] []) (.side (n_2.1.length+1<=9223372036854775807) (.side (List.length (n_2.1++#[(47:UInt8)].toList)+n.1.length<=9223372036854775807) (.R [.str (n_2.1++#[(47:UInt8)].toList++n.1),.i 0] []))))) (.ex (q17 [.str s,.str n.1]) λn_1=>.all (λ(r:L8×L8×Int)=>r=dmI n_1.1 n_1.2) λn_2=>.ex (q17 [.str t,.str n.1]) λn=>.all (λ(r:L8×L8×Int)=>r=dmI n.1 n.2) λn=>.D (n.1=#[(49:UInt8)].toList) (.R [.str n_2.1,.i 0] []) (.side (n_2.1.length+1<=9223372036854775807) (.side (List.length (n_2.1++#[(47:UInt8)].toList)+n.1.length<=9223372036854775807) (.R [.str (n_2.1++#[(47:UInt8)].toList++n.1),.i 0] [])))))))) ?_;simp only [q17,Tree.holds,zh,inR,lo,hi,aD];refine⟨(s,t),⟨by simp,by omega,by omega⟩,⟨_,rfl⟩,?_⟩;rintro _ rfl;by_cases he:zC s t=0
 ·obtain⟨e1,e2⟩:=zx.1 he;have eg:gcdR s t=wr false (Nat.gcd (numI s) (numI t)):=aP he;by_cases h0:numI t=0
  ·have ht0:t=[48]:=(uN e2).2 h0;have hg0:Nat.gcd (numI s) (numI t)=numI s:=by rw [h0,Nat.gcd_zero_right]
   have hz:(gcdR s t).2=0:=by rw [eg,hg0]; exact kI (jN e1)
   have e:wo s t=([],16):=by rw [wo,aO (by rw [he]; decide),aP h0]
   rw [e] at hq;refine⟨λh=>(by simp [hz] at h),λ_=>⟨λ_=>RetR.scal hq rfl (by simp [resV]),λh=>(by simp [ht0] at h)⟩⟩
  ·obtain⟨g0,gr⟩:=YD (s:=s) e2 h0;have hz:(gcdR s t).2=0:=by rw [eg]; exact kI gr
   have ht0:t≠[48]:=λh=>h0 ((uN e2).1 h)
   have htn:t≠[]:=by rintro rfl; simp [YR] at e2
   have hneg:=Vk htn;have e:wo s t=(V6 (negI s != negI t) (numI s) (numI t),0):=by rw [wo,aO (by rw [he]; decide),aO h0]
   rw [e,V6] at hq;have ds:Nat.gcd (numI s) (numI t) ∣ numI s:=Nat.gcd_dvd_left _ _;have dt:Nat.gcd (numI s) (numI t) ∣ numI t:=Nat.gcd_dvd_right _ _;generalize hgg:Nat.gcd (numI s) (numI t)=g at *
   have rt:=room_le (Nat.div_le_self (numI t) g) (jN e2);have l1:=kj false g;have l2:=kj true g
   have fin:∀ b:Bool,b=negI t->∀ (z w:L8×L8×Int),z=dmI s (wr b g).1->w=dmI t (wr b g).1 ->
     (decide (w.1=[49])=true->RetR zck 0 Q [.str z.1,.i 0] [])/\(decide (w.1=[49])=false->z.1.length+1<=9223372036854775807/\(z.1.length+1<=9223372036854775807->(z.1++[47]).length+w.1.length<=9223372036854775807/\((z.1++[47]).length+w.1.length<=9223372036854775807->RetR zck 0 Q [.str (z.1++[47]++w.1),.i 0] []))):=by
    rintro b rfl z w rfl rfl;rw [Yl e1 g0 gr ds,Yl e2 g0 gr dt];simp only;have:(negI t != negI t)=false:=by simp
    rw [this];have k1:=kj (negI s != negI t) (numI s/g);have k2:=kj false (numI t/g);refine⟨λh=> ?_,λh=>⟨by omega,λ_=>⟨by simp; omega,λ_=> ?_⟩⟩⟩
    ·have h1:=(za8 rt).1 (aB h);rw [aP h1] at hq;exact RetR.scal hq rfl (by simp [resV])
    ·have h1:¬ numI t/g=1:=λh1=>aC h ((za8 rt).2 h1)
     rw [aO h1] at hq;exact RetR.scal hq rfl (by simp [resV])
   rw [eg] at hz ⊢;refine⟨λh=>(by simp [hz] at h),λ_=>⟨λh=>absurd (aB h) ht0,λ_=>⟨⟨by omega,by have:=List.length_pos_iff.2 htn; omega⟩,λ_=>⟨λhb=>⟨by omega,λ_=> ?_⟩,λhb=> ?_⟩⟩⟩⟩
   ·have hn:negI t=true:=by
     rw [hneg,aK];exact Y7 (aB hb)
    rw [zis g0 gr];refine⟨(s,(wr true g).1),⟨by simp,by show s.length<_; omega,by show(wr true g).1.length<_; omega⟩,⟨_,rfl⟩,?_⟩;intro z hz;refine⟨(t,(wr true g).1),⟨by simp,by show t.length<_; omega,by show(wr true g).1.length<_; omega⟩,⟨_,rfl⟩,?_⟩;intro w hw;exact fin true hn.symm z w hz hw
   ·have hn:negI t=false:=by
     rw [hneg,aV];intro h;apply aC hb;rw [h]; rfl
    refine⟨(s,(wr false g).1),⟨by simp,by show s.length<_; omega,by show(wr false g).1.length<_; omega⟩,⟨_,rfl⟩,?_⟩;intro z hz;refine⟨(t,(wr false g).1),⟨by simp,by show t.length<_; omega,by show(wr false g).1.length<_; omega⟩,⟨_,rfl⟩,?_⟩;intro w hw;exact fin false hn.symm z w hz hw
 ·have eg:gcdR s t=([],zC s t):=aO he;have e:wo s t=([],zC s t):=aP he;rw [e] at hq;rw [eg];exact⟨λ_=>RetR.scal hq rfl (by simp [resV]),λh=>by simp [he] at h⟩
noncomputable def K75:=Go.Sx.aA f75
structure Pr where
 n:L8
 m:L8
 d:L8
 c:L8
 e:Int
def Pr.box(p:Pr):Blk:=.box [.str p.n,.str p.m,.str p.d,.str p.c,.i p.e]
def Pr.err(p:Pr)(e:Int):Pr:=⟨p.n,p.m,p.d,p.c,e⟩
inductive QOp where
 | add | sub | mul
def QOp.fn:QOp->Nat
 | .add=>88
 | .sub=>79
 | .mul=>77
def QOp.has:QOp->Prop
 | .sub=>True
 | _=>True
def QOp.op:QOp->L8->L8->L8×Int
 | .add=>addI
 | .sub=>subI
 | .mul=>mulI
def j2(a b:L8):Pr:=if errR a≠0 then⟨[],[],[],[],errR a⟩ else if errR b≠0 then⟨numR a,[],denR a,[],errR b⟩ else⟨numR a,numR b,denR a,denR b,0⟩
def zlj:Ctr:=ctrT false false (λp:L8×L8=>[.str p.1,.str p.2]) (λ_=>[]) (λp=>p.1.length<2^62/\p.2.length<2^62) (λp r=>r=j2 p.1 p.2) (λ_ (r:Pr)=>(.ptr 0 0,[r.box]))
def zi4:Ctr:=ctrT false false (λp:Pr×QOp=>[.ptr 0 0,.fn p.2.fn [] []]) (λp=>[p.1.box]) (λ_=>True) (λ_ (_:Unit)=>True) (λp _=>(.fn 103 [] [.ptr 1 0,.ptr 2 0],[p.1.box,.box [.ptr 0 0],.box [.fn p.2.fn [] []]]))
structure KX where
 p:Pr
 o:QOp
 x:L8
 y:L8
def Up:Ctr:=ctrT false false (λk:KX=>[.str k.x,.str k.y,.ptr 0 0,.ptr 2 0]) (λk=>[.box [.ptr 1 0],k.p.box,.box [.fn k.o.fn [] []]]) (λk=>k.x.length<2^62/\k.y.length<2^62/\k.o.has) (λk r=>r=if k.p.e≠0 then([],k.p.e) else k.o.op k.x k.y)
 (λk (r:L8×Int)=>(.str r.1,[.box [.ptr 1 0],(k.p.err r.2).box,.box [.fn k.o.fn [] []]]))
def zga:Ctr:=ctrT false false (λk:Pr×L8×L8=>[.ptr 0 0,.str k.2.1,.str k.2.2]) (λk=>[k.1.box]) (λk=>k.2.1.length<2^62/\k.2.2.length<2^62) (λk r=>r=if k.1.e≠0 then([],k.1.e) else wo k.2.1 k.2.2)
 (λk (r:L8×Int)=>(.tup [.str r.1,.i r.2],[k.1.box]))
theorem zll:zg prog 76 zi4:=by
 refine zD (fn:=f76) (c:=f76.body.getD .skip) rfl rfl rfl (λh=>by cases h) λp hp O w0 I0 Q hl0 hq=> ?_
 obtain⟨p,o⟩:=p;replace hq:=hq () trivial;refine zd.n zJ [] (.R [.fn 103 [] [.ptr 1 0,.ptr 2 0]] [.box [.str p.n,.str p.m,.str p.d,.str p.c,.i p.e],.box [.ptr 0 0],.box [.fn (QOp.fn o) [] []]]) ?_;simp only [Tree.holds,zh];refine RetR.keep [0,1,2] rfl rfl (by show ∀ j,j<1->_; decide) rfl hq ?_ ?_ rfl
 ·rfl
 ·exact⟨⟨rfl,rfl,rfl,rfl,⟨rfl,rfl⟩,trivial⟩,⟨⟨rfl,rfl⟩,trivial⟩,⟨rfl,trivial⟩,trivial⟩
noncomputable def GK1:=tb zrq (tb zqw (tb zr7 tz))
theorem zha:zg prog 103 Up:=by
 refine zD (fn:=f103) (c:=f103.body.getD .skip) rfl rfl rfl (λh=>by cases h) λk hk O w0 I0 Q hl0 hq=> ?_
 obtain⟨⟨n,m,d,c,e⟩,o,x,y⟩:=k;obtain⟨h1,h2,h3⟩:=hk;replace hq:=hq _ rfl;simp only at h1 h2 h3 hq
 have fin:∀ r:L8×Int,(if e≠0 then([],e) else o.op x y)=r->RetR Up 3 Q [.str r.1] [.box [.ptr 1 0],.box [.str n,.str m,.str d,.str c,.i r.2],.box [.fn o.fn [] []]]:=by
  rintro r rfl;refine RetR.keep [0,1,2] rfl rfl (by show ∀ j,j<3->_; decide) rfl hq ?_ ?_ rfl
  ·rfl
  ·exact⟨⟨⟨rfl,rfl⟩,trivial⟩,⟨rfl,rfl,rfl,rfl,⟨rfl,rfl⟩,trivial⟩,⟨rfl,trivial⟩,trivial⟩
 cases o with
 | add=>
  refine zd.n GK1.h [] (.N (e=0) (.R [.str #[].toList] [.box [.ptr 1 0],.box [.str n,.str m,.str d,.str c,.i e],.box [.fn 88 [] []]]) (.ex (q17 [.str x,.str y]) λn_1=>.all (λ(r:L8×Int)=>r=addI n_1.1 n_1.2) λn_2=>.R [.str n_2.1] [.box [.ptr 1 0],.box [.str n,.str m,.str d,.str c,.i n_2.2],.box [.fn 88 [] []]])) ?_;simp only [q17,Tree.holds,zh];refine⟨λh=> ?_,λh=>⟨(x,y),⟨by simp,h1,h2⟩,⟨_,rfl⟩,?_⟩⟩
  ·have h:e≠0:=by simpa using h
   exact fin ([],e) (aP h)
  ·have h:e=0:=by simpa using h
   rintro _ rfl;exact fin (addI x y) (aO (by simp [h]))
 | sub=>
  refine zd.n GK1.h [] (.N (e=0) (.R [.str #[].toList] [.box [.ptr 1 0],.box [.str n,.str m,.str d,.str c,.i e],.box [.fn 79 [] []]]) (.ex (q17 [.str x,.str y]) λn_1=>.all (λ(r:L8×Int)=>r=subI n_1.1 n_1.2) λn_2=>.R [.str n_2.1] [.box [.ptr 1 0],.box [.str n,.str m,.str d,.str c,.i n_2.2],.box [.fn 79 [] []]])) ?_;simp only [q17,Tree.holds,zh];refine⟨λh=> ?_,λh=>⟨(x,y),⟨by simp,h1,h2⟩,⟨_,rfl⟩,?_⟩⟩
  ·have h:e≠0:=by simpa using h
   exact fin ([],e) (aP h)
  ·have h:e=0:=by simpa using h
   rintro _ rfl;exact fin (subI x y) (aO (by simp [h]))
 | mul=>
  refine zd.n GK1.h [] (.N (e=0) (.R [.str #[].toList] [.box [.ptr 1 0],.box [.str n,.str m,.str d,.str c,.i e],.box [.fn 77 [] []]]) (.ex (q17 [.str x,.str y]) λn_1=>.all (λ(r:L8×Int)=>r=mulI n_1.1 n_1.2) λn_2=>.R [.str n_2.1] [.box [.ptr 1 0],.box [.str n,.str m,.str d,.str c,.i n_2.2],.box [.fn 77 [] []]])) ?_;simp only [q17,Tree.holds,zh];refine⟨λh=> ?_,λh=>⟨(x,y),⟨by simp,h1,h2⟩,⟨_,rfl⟩,?_⟩⟩
  ·have h:e≠0:=by simpa using h
   exact fin ([],e) (aP h)
  ·have h:e=0:=by simpa using h
   rintro _ rfl;exact fin (mulI x y) (aO (by simp [h]))
noncomputable def GMd:=tb zm7 tz
theorem zmq:zg prog 78 zga:=by
 refine zD (fn:=f78) (c:=f78.body.getD .skip) rfl rfl rfl (λh=>by cases h) λk hk O w0 I0 Q hl0 hq=> ?_
 obtain⟨⟨n,m,d,c,e⟩,x,y⟩:=k;obtain⟨h1,h2⟩:=hk;replace hq:=hq _ rfl;simp only at h1 h2 hq
 have fin:∀ r:L8×Int,(if e≠0 then([],e) else wo x y)=r->RetR zga 1 Q [.str r.1,.i r.2] [.box [.str n,.str m,.str d,.str c,.i e]]:=by
  rintro r rfl;refine RetR.keep [0] rfl rfl (by show ∀ j,j<1->_; decide) rfl hq ?_ ?_ rfl
  ·exact⟨rfl,⟨rfl,rfl⟩,trivial⟩
  ·exact⟨⟨rfl,rfl,rfl,rfl,⟨rfl,rfl⟩,trivial⟩,trivial⟩
 refine zd.n GMd.h [] (let v1:List Blk:=[.box [.str n,.str m,.str d,.str c,.i e]];.N (e=0) (.R [.str #[].toList,.i e] v1) (.ex (q17 [.str x,.str y]) λn_1=>.all (λ(r:L8×Int)=>r=wo n_1.1 n_1.2) λn_2=>.R [.str n_2.1,.i n_2.2] v1)) ?_;simp only [q17,Tree.holds,zh];refine⟨λh=> ?_,λh=>⟨(x,y),⟨by simp,h1,h2⟩,⟨_,rfl⟩,?_⟩⟩
 ·have h:e≠0:=by simpa using h
  exact fin ([],e) (aP h)
 ·have h:e=0:=by simpa using h
  rintro _ rfl;exact fin (wo x y) (aO (by simp [h]))
def Pst(a b:L8):Nat->Pr
 | 0=>⟨[],[],[],[],0⟩
 | 1=>if errR a≠0 then⟨[],[],[],[],errR a⟩ else⟨numR a,[],denR a,[],0⟩
 | _=>j2 a b
def SBq(a b:L8)(i:Nat):KV:=[(5,.ptr 0 0),(12,.agg [.str a,.str b]),(13,.i (i:Int))]
noncomputable def GBq:=tb zjp tz
theorem zgu:zg prog 75 zlj:=by
 refine zD (fn:=f75) (c:=f75.body.getD .skip) rfl rfl rfl (λh=>by cases h) λp hp O w0 I0 Q hl0 hq=> ?_
 obtain rfl:I0=[]:=aU.1 hl0;obtain⟨a,b⟩:=p;obtain⟨h1,h2⟩:=hp;replace hq:=hq _ rfl;simp only at h1 h2 hq;refine zd.n GBq.h [5,12,13] (.leaf (.loop (lps K75 0).1 (lps K75 0).2 [(5,.ptr 0 0),(12,.agg [.str a,.str b]),(13,.i 0)] [.box [.str #[].toList,.str #[].toList,.str #[].toList,.str #[].toList,.i 0]])) ?_;simp only [Tree.holds,zh];refine zd.loop (ι:={i:Nat // i<=2}) (λi=>SBq a b i.1) (λi=>[(Pst a b i.1).box]) (λi=>2 - i.1) ⟨0,aI _⟩ 0 ?_ ?_ (by kernel_rfl)
 ·exact⟨by simp [SBq],by simp [Pst,Pr.box],by kernel_rfl,aI _⟩
 rintro⟨i,hil⟩
 match i,hil with
 | 0,_=>
  refine zd.n GBq.h [5,12,13] (let v2:List Blk:=[.box [.str [],.str [],.str [],.str [],.i 0]];let v1:List (Nat×AV):=[(5,.ptr 0 0),(12,.agg [.str a,.str b]),(13,.i 1)];.ite true (.side ((0:Int)<=0/\(0:Int)<2/\1<=List.length [AV.str a,AV.str b]) (.ite true (.ex (q15 [.str a]) λn=>.all (λ(r:L8×L8×Int)=>r=if errR n=0 then(numR n,denR n,(0:Int)) else([],[],errR n)) λn=>.side ((0:Int)<=0/\(0:Int)<2) (.side ((0:Int)<=0/\(0:Int)<2) (.S 1 (.leaf (.back 0 v1 [.box [.str n.1,.str [],.str n.2.1,.str [],.i n.2.2]]))))) (.S 1 (.leaf (.back 0 v1 v2))))) (.R [.ptr 0 0] v2)) ?_;simp only [q15,Tree.holds,zh,inR,lo,hi,aD];refine⟨λ_=>⟨by simp,λ_=>⟨λ_=>⟨a,⟨by simp,h1⟩,⟨_,rfl⟩,?_⟩,λh=>(by cases h)⟩⟩,λh=>(by cases h)⟩;intro r hr;refine⟨by decide,λ_=>⟨by decide,λ_=>⟨by decide,λ_=> ?_⟩⟩⟩;rw [aP trivial];refine⟨⟨1,by decide⟩,by decide,by simp [SBq],?_,by kernel_rfl,aI _⟩
  have e:Pst a b 1=⟨r.1,[],r.2.1,[],r.2.2⟩:=by
   rw [hr];by_cases h:errR a=0
   ·simp [Pst,h]
   ·simp [Pst,h]
  show eqH _ [(Pst a b 1).box];rw [e];simp [Pr.box]
 | 1,_=>
  obtain⟨⟨n,m,d,c,e⟩,hp⟩:∃ p,Pst a b 1=p:=⟨_,rfl⟩;simp only [hp];refine zd.n GBq.h [5,12,13] (let v2:List Blk:=[.box [.str n,.str m,.str d,.str c,.i e]];let v1:List (Nat×AV):=[(5,.ptr 0 0),(12,.agg [.str a,.str b]),(13,.i 2)];.ite true (.side ((0:Int)<=1/\(1:Int)<2/\2<=List.length [AV.str a,AV.str b]) (.D (e=0) (.ex (q15 [.str b]) λn_1=>.all (λ(r:L8×L8×Int)=>r=if errR n_1=0 then(numR n_1,denR n_1,(0:Int)) else([],[],errR n_1)) λn_2=>.side ((0:Int)<=1/\(1:Int)<2) (.side ((0:Int)<=1/\(1:Int)<2) (.S 2 (.leaf (.back 0 v1 [.box [.str n,.str n_2.1,.str d,.str n_2.2.1,.i n_2.2.2]]))))) (.S 2 (.leaf (.back 0 v1 v2))))) (.R [.ptr 0 0] v2)) ?_;simp only [q15,Tree.holds,zh,inR,lo,hi,aD];refine⟨λ_=>⟨by simp,λ_=>⟨λh=>⟨b,⟨by simp,h2⟩,⟨_,rfl⟩,?_⟩,λh=>⟨by decide,λ_=> ?_⟩⟩⟩,λh=>(by cases h)⟩
  ·have h:e=0:=by simpa using h
   intro r hr;refine⟨by decide,λ_=>⟨by decide,λ_=>⟨by decide,λ_=> ?_⟩⟩⟩;rw [aP trivial];refine⟨⟨2,by decide⟩,by decide,by simp [SBq],?_,by kernel_rfl,aI _⟩
   have e2:Pst a b 2=⟨n,r.1,d,r.2.1,r.2.2⟩:=by
    rw [hr];by_cases ha:errR a=0
    ·simp only [Pst,ha] at hp;simp at hp;obtain⟨rfl,rfl,rfl,rfl,_⟩:=hp;by_cases hb:errR b=0
     ·simp [Pst,j2,ha,hb]
     ·simp [Pst,j2,ha,hb]
    ·simp only [Pst] at hp;rw [aP ha] at hp;cases hp;exact absurd h ha
   show eqH _ [(Pst a b 2).box];rw [e2];simp [Pr.box]
  ·have h:e≠0:=by simpa using h
   rw [aP trivial];refine⟨⟨2,by decide⟩,by decide,by simp [SBq],?_,by kernel_rfl,aI _⟩
   have e2:Pst a b 2=⟨n,m,d,c,e⟩:=by
    by_cases ha:errR a=0
    ·simp only [Pst,ha] at hp;simp at hp;exact absurd hp.2.2.2.2.symm h
    ·rw [<- hp];simp only [Pst,j2];rw [aP ha,aP ha]
   show eqH _ [(Pst a b 2).box];rw [e2];simp [Pr.box]
 | 2,_=>
  obtain⟨⟨n,m,d,c,e⟩,hp⟩:∃ p,Pst a b 2=p:=⟨_,rfl⟩;simp only [hp];refine zd.n GBq.h [5,12,13] (.ite false (.side ((0:Int)<=2/\(2:Int)<2/\3<=List.length [AV.str a,AV.str b]) .fail) (.R [.ptr 0 0] [.box [.str n,.str m,.str d,.str c,.i e]])) ?_;simp only [Tree.holds,zh,inR,lo,hi,aD];refine⟨λh=>(by cases h),λ_=> ?_⟩;have hp:j2 a b=⟨n,m,d,c,e⟩:=hp;rw [hp] at hq;refine RetR.out1 0 (by show 0<1; decide) hq (λh=>by cases h) ?_ ?_
  ·exact⟨rfl,rfl⟩
  ·exact⟨rfl,rfl,rfl,rfl,⟨rfl,rfl⟩,trivial⟩
theorem k9(a b:L8):((j2 a b).e≠0/\wy a b=(j2 a b).e)\/((j2 a b).e=0/\errR a=0/\errR b=0/\(j2 a b).n=numR a/\(j2 a b).m=numR b/\(j2 a b).d=denR a/\(j2 a b).c=denR b):=by
 unfold j2;by_cases ha:errR a=0
 ·rw [aO (by rw [ha]; simp)];by_cases hb:errR b=0
  ·rw [aO (by rw [hb]; simp)];exact .inr ⟨rfl,ha,hb,rfl,rfl,rfl,rfl⟩
  ·rw [aP hb];exact .inl ⟨hb,by unfold wy; rw [aP ha]⟩
 ·rw [aP ha];exact .inl ⟨ha,by unfold wy; rw [aO ha]⟩
theorem y3(a b:L8):(j2 a b).n.length<=a.length/\(j2 a b).m.length<=b.length/\(j2 a b).d.length<=a.length+1/\(j2 a b).c.length<=b.length+1:=by
 have h1:=Yu a;have h2:=Yu b;have h3:=Yr a;have h4:=Yr b;unfold j2;split
 ·simp
 ·split
  ·simp; omega
  ·simp only; omega
theorem kx_l(x y:L8):eqL [.str x,.str y,.ptr 0 0,.ptr 2 0] [.str x,.str y,.ptr 0 0,.ptr 2 0]:=⟨rfl,rfl,⟨rfl,rfl⟩,⟨rfl,rfl⟩,trivial⟩
theorem kx_b(p:Pr):eqH [.box [.str p.n,.str p.m,.str p.d,.str p.c,.i p.e]] [.box [.str p.n,.str p.m,.str p.d,.str p.c,.i p.e]]:=⟨⟨rfl,rfl,rfl,rfl,⟨rfl,rfl⟩,trivial⟩,trivial⟩
theorem kx_h(p:Pr)(f:Nat):eqH [.box [.ptr 1 0],.box [.str p.n,.str p.m,.str p.d,.str p.c,.i p.e],.box [.fn f [] []]] [.box [.ptr 1 0],.box [.str p.n,.str p.m,.str p.d,.str p.c,.i p.e],.box [.fn f [] []]]:=⟨⟨⟨rfl,rfl⟩,trivial⟩,(kx_b p).1,⟨rfl,trivial⟩,trivial⟩
theorem kx_k(f:Nat):eqL [.ptr 0 0,.fn f [] []] [.ptr 0 0,.fn f [] []]:=⟨⟨rfl,rfl⟩,rfl,trivial⟩
theorem kx_m(x y:L8):eqL [.ptr 0 0,.str x,.str y] [.ptr 0 0,.str x,.str y]:=⟨⟨rfl,rfl⟩,rfl,rfl,trivial⟩
theorem qH(p:Pr)(o:QOp)(x y:L8){r:L8×Int}(h:r=if p.e≠0 then([],p.e) else o.op x y):r.1.length<=1001:=by
 rw [h];refine zoi ?_;cases o
 ·exact zi9 x y
 ·exact zi6 x y
 ·exact zlb x y
noncomputable def GQA:=tb zgu (tb zll (tb zha (tb zmq (tb zos tz))))
def zbr:Ctr:=ctrP true (λp:L8×L8=>[.str p.1,.str p.2]) (λp=>p.1.length<2^61/\p.2.length<2^61) (λp r=>r=addR p.1 p.2) (λ_ r=>(.tup [.str r.1,.i r.2],[]))
def zd7:Ctr:=ctrP true (λp:L8×L8=>[.str p.1,.str p.2]) (λp=>p.1.length<2^61/\p.2.length<2^61) (λp r=>r=subR p.1 p.2) (λ_ r=>(.tup [.str r.1,.i r.2],[]))
def VA:Ctr:=ctrP true (λp:L8×L8=>[.str p.1,.str p.2]) (λp=>p.1.length<2^61/\p.2.length<2^61) (λp r=>r=mulR p.1 p.2) (λ_ r=>(.tup [.str r.1,.i r.2],[]))
def zpn:Ctr:=ctrP true (λp:L8×L8=>[.str p.1,.str p.2]) (λp=>p.1.length<2^61/\p.2.length<2^61) (λp r=>r=cmpR p.1 p.2) (λ_ r=>(.tup [.i r.1,.i r.2],[]))
abbrev q45(A:List AV)(H:Heap)(x:Pr×L8×L8):Prop:=eqL A [.ptr 0 0,.str x.2.1,.str x.2.2]/\eqH H [.box [.str x.1.n,.str x.1.m,.str x.1.d,.str x.1.c,.i x.1.e]]/\1=1/\x.2.1.length<4611686018427387904/\x.2.2.length<4611686018427387904
abbrev q44(A:List AV)(H:Heap)(x:KX):Prop:=eqL A [.str x.x,.str x.y,.ptr 0 0,.ptr 2 0]/\eqH H [.box [.ptr 1 0],.box [.str x.p.n,.str x.p.m,.str x.p.d,.str x.p.c,.i x.p.e],.box [.fn (QOp.fn x.o) [] []]]/\3=3/\x.x.length<4611686018427387904/\x.y.length<4611686018427387904/\QOp.has x.o
abbrev q43(A:List AV)(H:Heap)(x:Pr×QOp):Prop:=eqL A [.ptr 0 0,.fn (QOp.fn x.2) [] []]/\eqH H [.box [.str x.1.n,.str x.1.m,.str x.1.d,.str x.1.c,.i x.1.e]]/\1=1/\True
abbrev q42(A:List AV)(H:Heap)(x:L8×L8):Prop:=eqL A [.str x.1,.str x.2]/\eqH H []/\0=0/\x.1.length<4611686018427387904/\x.2.length<4611686018427387904
theorem KB:zg prog 57 zbr:=by
 refine zm' f57 λp hp O w0 Q hq=> ?_
 obtain⟨a,b⟩:=p;obtain⟨h1,h2⟩:=hp;replace hq:=hq _ rfl;simp only at h1 h2 hq;refine zd.n GQA.h [] (let v5:=[AV.ptr 1 0];.ex (q42 [.str a,.str b] []) λn=>.all (λ(r:Pr)=>r=j2 n.1 n.2) λn=>.ex (q43 [.ptr 0 0,.fn 77 [] []] [.box [.str n.n,.str n.m,.str n.d,.str n.c,.i n.e]]) λn=>.A λn_1=>.ex (q43 [.ptr 0 0,.fn 88 [] []] [.box [.str n.1.n,.str n.1.m,.str n.1.d,.str n.1.c,.i n.1.e]]) λn_2=>.A λn_3=>.side ((0:Int)<=0/\(0:Int)<2) (.side ((0:Int)<=1/\(1:Int)<2) (.side ((0:Int)<=1/\(1:Int)<2) (.side ((0:Int)<=0/\(0:Int)<2) (.side ((0:Int)<=0/\(0:Int)<2) (.side ((0:Int)<=1/\(1:Int)<2) (.ex (q44 [.str n_2.1.n,.str n_2.1.c,.ptr 0 0,.ptr 2 0] [.box v5,.box [.str n_2.1.n,.str n_2.1.m,.str n_2.1.d,.str n_2.1.c,.i n_2.1.e],.box [.fn (QOp.fn n.2) [] []]]) λn=>.all (λ(r:L8×Int)=>r=if Pr.e n.p≠0 then([],Pr.e n.p) else QOp.op n.o n.x n.y) λn_4=>let v1:=Pr.err n.p n_4.2;.side (Pr.c v1=Pr.c n_2.1) (.side (Pr.d v1=Pr.d n_2.1) (.side (Pr.d v1=Pr.d n_2.1) (.side (Pr.m v1=Pr.m n_2.1) (.ex (q44 [.str n_2.1.m,.str n_2.1.d,.ptr 0 0,.ptr 2 0] [.box v5,.box [.str v1.n,.str v1.m,.str v1.d,.str v1.c,.i v1.e],.box [.fn (QOp.fn n.o) [] []]]) λn=>.all (λ(r:L8×Int)=>r=if Pr.e n.p≠0 then([],Pr.e n.p) else QOp.op n.o n.x n.y) λn_5=>let v3:=Pr.err n.p n_5.2;.side (Pr.c v3=Pr.c n_2.1) (.side (Pr.d v3=Pr.d n_2.1) (.ex (q44 [.str n_4.1,.str n_5.1,.ptr 0 0,.ptr 2 0] [.box v5,.box [.str v3.n,.str v3.m,.str v3.d,.str v3.c,.i v3.e],.box [.fn (QOp.fn n_2.2) [] []]]) λn_6=>.all (λ(r:L8×Int)=>r=if Pr.e n_6.p≠0 then([],Pr.e n_6.p) else QOp.op n_6.o n_6.x n_6.y) λn_7=>let v2:=Pr.err n_6.p n_7.2;.side (Pr.c v2=Pr.c n_2.1) (.side (Pr.d v2=Pr.d n_2.1) (.ex (q44 [.str n_2.1.d,.str n_2.1.c,.ptr 0 0,.ptr 2 0] [.box v5,.box [.str v2.n,.str v2.m,.str v2.d,.str v2.c,.i v2.e],.box [.fn (QOp.fn n.o) [] []]]) λn=>.all (λ(r:L8×Int)=>r=if Pr.e n.p≠0 then([],Pr.e n.p) else QOp.op n.o n.x n.y) λn_8=>let v4:=Pr.err n.p n_8.2;.ex (q45 [.ptr 0 0,.str n_7.1,.str n_8.1] [.box [.str v4.n,.str v4.m,.str v4.d,.str v4.c,.i v4.e]]) λn_9=>.all (λ(r:L8×Int)=>r=if Pr.e n_9.1≠0 then([],Pr.e n_9.1) else wo n_9.2.1 n_9.2.2) λn_10=>.R [.str n_10.1,.i n_10.2] [.box [.str n_9.1.n,.str n_9.1.m,.str n_9.1.d,.str n_9.1.c,.i n_9.1.e],.box [.ptr 0 0],.box [.fn (QOp.fn n.o) [] []],.box [.ptr 0 0],.box [.fn (QOp.fn n_6.o) [] []]]))))))))))))))) ?_;simp only [q42,q43,q44,q45,Tree.holds,zh];refine⟨(a,b),⟨⟨rfl,rfl,trivial⟩,trivial,by trivial,by show a.length<_; omega,by show b.length<_; omega⟩,⟨_,rfl⟩,?_⟩;intro p hp;have hc:=k9 a b;obtain⟨l1,l2,l3,l4⟩:=y3 a b;rw [<- hp] at hc l1 l2 l3 l4;refine⟨(p,.mul),⟨kx_k _,kx_b p,by trivial,trivial⟩,⟨(),trivial⟩,?_⟩;intro _ _;refine⟨(p,.add),⟨kx_k _,kx_b p,by trivial,trivial⟩,⟨(),trivial⟩,?_⟩;intro _ _
 iterate 6 refine⟨by decide,λ_=> ?_⟩
 refine⟨⟨p,.mul,p.n,p.c⟩,⟨kx_l _ _,kx_h (p) _,by trivial,by show(p.n).length<_; omega,by show(p.c).length<_; omega,by trivial⟩,⟨_,rfl⟩,?_⟩;intro r1 hr1;have kr1:=qH _ _ _ _ hr1
 iterate 4 refine⟨rfl,λ_=> ?_⟩
 refine⟨⟨p.err r1.2,.mul,p.m,p.d⟩,⟨kx_l _ _,kx_h (p.err r1.2) _,by trivial,by show(p.m).length<_; omega,by show(p.d).length<_; omega,by trivial⟩,⟨_,rfl⟩,?_⟩;intro r2 hr2;have kr2:=qH _ _ _ _ hr2
 iterate 2 refine⟨rfl,λ_=> ?_⟩
 refine⟨⟨(p.err r1.2).err r2.2,.add,r1.1,r2.1⟩,⟨kx_l _ _,kx_h ((p.err r1.2).err r2.2) _,by trivial,by show(r1.1).length<_; omega,by show(r2.1).length<_; omega,by trivial⟩,⟨_,rfl⟩,?_⟩;intro r3 hr3;have kr3:=qH _ _ _ _ hr3
 iterate 2 refine⟨rfl,λ_=> ?_⟩
 refine⟨⟨((p.err r1.2).err r2.2).err r3.2,.mul,p.d,p.c⟩,⟨kx_l _ _,kx_h (((p.err r1.2).err r2.2).err r3.2) _,by trivial,by show(p.d).length<_; omega,by show(p.c).length<_; omega,by trivial⟩,⟨_,rfl⟩,?_⟩;intro r4 hr4;have kr4:=qH _ _ _ _ hr4;refine⟨((((p.err r1.2).err r2.2).err r3.2).err r4.2,r3.1,r4.1),⟨kx_m _ _,kx_b _,by trivial,by show(r3.1).length<_; omega,by show(r4.1).length<_; omega⟩,⟨_,rfl⟩,?_⟩;intro r5 hr5;have hfin:=Qq hc (λ{s t} =>zgx (s:=s) (t:=t)) hr1 hr2 hr3 hr4 hr5;have e:r5=addR a b:=hfin;rw [<- e] at hq;exact RetR.scal hq rfl (by simp [resV])
theorem Xs:zg prog 43 zd7:=by
 refine zm' f43 λp hp O w0 Q hq=> ?_
 obtain⟨a,b⟩:=p;obtain⟨h1,h2⟩:=hp;replace hq:=hq _ rfl;simp only at h1 h2 hq;refine zd.n GQA.h [] (let v5:=[AV.ptr 1 0];.ex (q42 [.str a,.str b] []) λn=>.all (λ(r:Pr)=>r=j2 n.1 n.2) λn=>.ex (q43 [.ptr 0 0,.fn 77 [] []] [.box [.str n.n,.str n.m,.str n.d,.str n.c,.i n.e]]) λn=>.A λn_1=>.ex (q43 [.ptr 0 0,.fn 79 [] []] [.box [.str n.1.n,.str n.1.m,.str n.1.d,.str n.1.c,.i n.1.e]]) λn_2=>.A λn_3=>.side ((0:Int)<=0/\(0:Int)<2) (.side ((0:Int)<=1/\(1:Int)<2) (.side ((0:Int)<=1/\(1:Int)<2) (.side ((0:Int)<=0/\(0:Int)<2) (.side ((0:Int)<=0/\(0:Int)<2) (.side ((0:Int)<=1/\(1:Int)<2) (.ex (q44 [.str n_2.1.n,.str n_2.1.c,.ptr 0 0,.ptr 2 0] [.box v5,.box [.str n_2.1.n,.str n_2.1.m,.str n_2.1.d,.str n_2.1.c,.i n_2.1.e],.box [.fn (QOp.fn n.2) [] []]]) λn=>.all (λ(r:L8×Int)=>r=if Pr.e n.p≠0 then([],Pr.e n.p) else QOp.op n.o n.x n.y) λn_4=>let v1:=Pr.err n.p n_4.2;.side (Pr.c v1=Pr.c n_2.1) (.side (Pr.d v1=Pr.d n_2.1) (.side (Pr.d v1=Pr.d n_2.1) (.side (Pr.m v1=Pr.m n_2.1) (.ex (q44 [.str n_2.1.m,.str n_2.1.d,.ptr 0 0,.ptr 2 0] [.box v5,.box [.str v1.n,.str v1.m,.str v1.d,.str v1.c,.i v1.e],.box [.fn (QOp.fn n.o) [] []]]) λn=>.all (λ(r:L8×Int)=>r=if Pr.e n.p≠0 then([],Pr.e n.p) else QOp.op n.o n.x n.y) λn_5=>let v3:=Pr.err n.p n_5.2;.side (Pr.c v3=Pr.c n_2.1) (.side (Pr.d v3=Pr.d n_2.1) (.ex (q44 [.str n_4.1,.str n_5.1,.ptr 0 0,.ptr 2 0] [.box v5,.box [.str v3.n,.str v3.m,.str v3.d,.str v3.c,.i v3.e],.box [.fn (QOp.fn n_2.2) [] []]]) λn_6=>.all (λ(r:L8×Int)=>r=if Pr.e n_6.p≠0 then([],Pr.e n_6.p) else QOp.op n_6.o n_6.x n_6.y) λn_7=>let v2:=Pr.err n_6.p n_7.2;.side (Pr.c v2=Pr.c n_2.1) (.side (Pr.d v2=Pr.d n_2.1) (.ex (q44 [.str n_2.1.d,.str n_2.1.c,.ptr 0 0,.ptr 2 0] [.box v5,.box [.str v2.n,.str v2.m,.str v2.d,.str v2.c,.i v2.e],.box [.fn (QOp.fn n.o) [] []]]) λn=>.all (λ(r:L8×Int)=>r=if Pr.e n.p≠0 then([],Pr.e n.p) else QOp.op n.o n.x n.y) λn_8=>let v4:=Pr.err n.p n_8.2;.ex (q45 [.ptr 0 0,.str n_7.1,.str n_8.1] [.box [.str v4.n,.str v4.m,.str v4.d,.str v4.c,.i v4.e]]) λn_9=>.all (λ(r:L8×Int)=>r=if Pr.e n_9.1≠0 then([],Pr.e n_9.1) else wo n_9.2.1 n_9.2.2) λn_10=>.R [.str n_10.1,.i n_10.2] [.box [.str n_9.1.n,.str n_9.1.m,.str n_9.1.d,.str n_9.1.c,.i n_9.1.e],.box [.ptr 0 0],.box [.fn (QOp.fn n.o) [] []],.box [.ptr 0 0],.box [.fn (QOp.fn n_6.o) [] []]]))))))))))))))) ?_;simp only [q42,q43,q44,q45,Tree.holds,zh];refine⟨(a,b),⟨⟨rfl,rfl,trivial⟩,trivial,by trivial,by show a.length<_; omega,by show b.length<_; omega⟩,⟨_,rfl⟩,?_⟩;intro p hp;have hc:=k9 a b;obtain⟨l1,l2,l3,l4⟩:=y3 a b;rw [<- hp] at hc l1 l2 l3 l4;refine⟨(p,.mul),⟨kx_k _,kx_b p,by trivial,trivial⟩,⟨(),trivial⟩,?_⟩;intro _ _;refine⟨(p,.sub),⟨kx_k _,kx_b p,by trivial,trivial⟩,⟨(),trivial⟩,?_⟩;intro _ _
 iterate 6 refine⟨by decide,λ_=> ?_⟩
 refine⟨⟨p,.mul,p.n,p.c⟩,⟨kx_l _ _,kx_h (p) _,by trivial,by show(p.n).length<_; omega,by show(p.c).length<_; omega,by trivial⟩,⟨_,rfl⟩,?_⟩;intro r1 hr1;have kr1:=qH _ _ _ _ hr1
 iterate 4 refine⟨rfl,λ_=> ?_⟩
 refine⟨⟨p.err r1.2,.mul,p.m,p.d⟩,⟨kx_l _ _,kx_h (p.err r1.2) _,by trivial,by show(p.m).length<_; omega,by show(p.d).length<_; omega,by trivial⟩,⟨_,rfl⟩,?_⟩;intro r2 hr2;have kr2:=qH _ _ _ _ hr2
 iterate 2 refine⟨rfl,λ_=> ?_⟩
 refine⟨⟨(p.err r1.2).err r2.2,.sub,r1.1,r2.1⟩,⟨kx_l _ _,kx_h ((p.err r1.2).err r2.2) _,by trivial,by show(r1.1).length<_; omega,by show(r2.1).length<_; omega,by trivial⟩,⟨_,rfl⟩,?_⟩;intro r3 hr3;have kr3:=qH _ _ _ _ hr3
 iterate 2 refine⟨rfl,λ_=> ?_⟩
 refine⟨⟨((p.err r1.2).err r2.2).err r3.2,.mul,p.d,p.c⟩,⟨kx_l _ _,kx_h (((p.err r1.2).err r2.2).err r3.2) _,by trivial,by show(p.d).length<_; omega,by show(p.c).length<_; omega,by trivial⟩,⟨_,rfl⟩,?_⟩;intro r4 hr4;have kr4:=qH _ _ _ _ hr4;refine⟨((((p.err r1.2).err r2.2).err r3.2).err r4.2,r3.1,r4.1),⟨kx_m _ _,kx_b _,by trivial,by show(r3.1).length<_; omega,by show(r4.1).length<_; omega⟩,⟨_,rfl⟩,?_⟩;intro r5 hr5;have hfin:=Qq hc (λ{s t} =>zlu (s:=s) (t:=t)) hr1 hr2 hr3 hr4 hr5;have e:r5=subR a b:=hfin;rw [<- e] at hq;exact RetR.scal hq rfl (by simp [resV])
theorem uD:zg prog 42 VA:=by
 refine zm' f42 λp hp O w0 Q hq=> ?_
 obtain⟨a,b⟩:=p;obtain⟨h1,h2⟩:=hp;replace hq:=hq _ rfl;simp only at h1 h2 hq;refine zd.n GQA.h [] (.ex (q42 [.str a,.str b] []) λn=>.all (λ(r:Pr)=>r=j2 n.1 n.2) λn=>.ex (q43 [.ptr 0 0,.fn 77 [] []] [.box [.str n.n,.str n.m,.str n.d,.str n.c,.i n.e]]) λn=>.A λn_1=>.side ((0:Int)<=0/\(0:Int)<2) (.side ((0:Int)<=1/\(1:Int)<2) (.side ((0:Int)<=0/\(0:Int)<2) (.side ((0:Int)<=1/\(1:Int)<2) (.ex (q44 [.str n.1.n,.str n.1.m,.ptr 0 0,.ptr 2 0] [.box [.ptr 1 0],.box [.str n.1.n,.str n.1.m,.str n.1.d,.str n.1.c,.i n.1.e],.box [.fn (QOp.fn n.2) [] []]]) λn_2=>.all (λ(r:L8×Int)=>r=if Pr.e n_2.p≠0 then([],Pr.e n_2.p) else QOp.op n_2.o n_2.x n_2.y) λn_3=>let v1:=Pr.err n_2.p n_3.2;.side (Pr.c v1=Pr.c n.1) (.side (Pr.d v1=Pr.d n.1) (.ex (q44 [.str n.1.d,.str n.1.c,.ptr 0 0,.ptr 2 0] [.box [.ptr 1 0],.box [.str v1.n,.str v1.m,.str v1.d,.str v1.c,.i v1.e],.box [.fn (QOp.fn n_2.o) [] []]]) λn=>.all (λ(r:L8×Int)=>r=if Pr.e n.p≠0 then([],Pr.e n.p) else QOp.op n.o n.x n.y) λn_4=>let v2:=Pr.err n.p n_4.2;.ex (q45 [.ptr 0 0,.str n_3.1,.str n_4.1] [.box [.str v2.n,.str v2.m,.str v2.d,.str v2.c,.i v2.e]]) λn_5=>.all (λ(r:L8×Int)=>r=if Pr.e n_5.1≠0 then([],Pr.e n_5.1) else wo n_5.2.1 n_5.2.2) λn_6=>.R [.str n_6.1,.i n_6.2] [.box [.str n_5.1.n,.str n_5.1.m,.str n_5.1.d,.str n_5.1.c,.i n_5.1.e],.box [.ptr 0 0],.box [.fn (QOp.fn n.o) [] []]]))))))) ?_;simp only [q42,q43,q44,q45,Tree.holds,zh];refine⟨(a,b),⟨⟨rfl,rfl,trivial⟩,trivial,by trivial,by show a.length<_; omega,by show b.length<_; omega⟩,⟨_,rfl⟩,?_⟩;intro p hp;have hc:=k9 a b;obtain⟨l1,l2,l3,l4⟩:=y3 a b;rw [<- hp] at hc l1 l2 l3 l4;refine⟨(p,.mul),⟨kx_k _,kx_b p,by trivial,trivial⟩,⟨(),trivial⟩,?_⟩;intro _ _
 iterate 4 refine⟨by decide,λ_=> ?_⟩
 refine⟨⟨p,.mul,p.n,p.m⟩,⟨kx_l _ _,kx_h (p) _,by trivial,by show(p.n).length<_; omega,by show(p.m).length<_; omega,by trivial⟩,⟨_,rfl⟩,?_⟩;intro r1 hr1;have kr1:=qH _ _ _ _ hr1
 iterate 2 refine⟨rfl,λ_=> ?_⟩
 refine⟨⟨p.err r1.2,.mul,p.d,p.c⟩,⟨kx_l _ _,kx_h (p.err r1.2) _,by trivial,by show(p.d).length<_; omega,by show(p.c).length<_; omega,by trivial⟩,⟨_,rfl⟩,?_⟩;intro r2 hr2;have kr2:=qH _ _ _ _ hr2;refine⟨((p.err r1.2).err r2.2,r1.1,r2.1),⟨kx_m _ _,kx_b _,by trivial,by show(r1.1).length<_; omega,by show(r2.1).length<_; omega⟩,⟨_,rfl⟩,?_⟩;intro r3 hr3
 have hv:errR a=0->errR b=0->zC p.n p.m=0/\zC p.d p.c=0:=by
  intro ha hb;obtain⟨a1,a2,_⟩:=qP ha;obtain⟨b1,b2,_⟩:=qP hb;rcases hc with ⟨g1,g2⟩ | ⟨_,_,_,g1,g2,g3,g4⟩
  ·exact absurd g2 (by unfold wy; rw [aP ha,hb]; exactλh=>g1 h.symm)
  ·rw [g1,g2,g3,g4]; exact⟨zx.2 ⟨a1,b1⟩,zx.2 ⟨a2,b2⟩⟩
 have hfin:=zfv hc hr1 hr2 hr3 hv
 have e:r3=mulR a b:=by
  rw [hfin];unfold mulR;rcases hc with ⟨g1,g2⟩ | ⟨_,_,_,g1,g2,g3,g4⟩
  ·rw [aP (by rw [g2]; exact g1),aP (by rw [g2]; exact g1)]
  ·rw [g1,g2,g3,g4]
 rw [<- e] at hq;exact RetR.scal hq rfl (by simp [resV])
theorem zp4:zg prog 44 zpn:=by
 refine zm' f44 λp hp O w0 Q hq=> ?_
 obtain⟨a,b⟩:=p;obtain⟨h1,h2⟩:=hp;replace hq:=hq _ rfl;simp only at h1 h2 hq;refine zd.n GQA.h [] (.ex (q42 [.str a,.str b] []) λn=>.all (λ(r:Pr)=>r=j2 n.1 n.2) λn=>.ex (q43 [.ptr 0 0,.fn 77 [] []] [.box [.str n.n,.str n.m,.str n.d,.str n.c,.i n.e]]) λn=>.A λn_1=>.side ((0:Int)<=0/\(0:Int)<2) (.side ((0:Int)<=1/\(1:Int)<2) (.side ((0:Int)<=1/\(1:Int)<2) (.side ((0:Int)<=0/\(0:Int)<2) (.ex (q44 [.str n.1.n,.str n.1.c,.ptr 0 0,.ptr 2 0] [.box [.ptr 1 0],.box [.str n.1.n,.str n.1.m,.str n.1.d,.str n.1.c,.i n.1.e],.box [.fn (QOp.fn n.2) [] []]]) λn_2=>.all (λ(r:L8×Int)=>r=if Pr.e n_2.p≠0 then([],Pr.e n_2.p) else QOp.op n_2.o n_2.x n_2.y) λn_3=>let v2:=Pr.err n_2.p n_3.2;.side (Pr.d v2=Pr.d n.1) (.side (Pr.m v2=Pr.m n.1) (.ex (q44 [.str n.1.m,.str n.1.d,.ptr 0 0,.ptr 2 0] [.box [.ptr 1 0],.box [.str v2.n,.str v2.m,.str v2.d,.str v2.c,.i v2.e],.box [.fn (QOp.fn n_2.o) [] []]]) λn=>.all (λ(r:L8×Int)=>r=if Pr.e n.p≠0 then([],Pr.e n.p) else QOp.op n.o n.x n.y) λn_4=>let v3:=Pr.err n.p n_4.2;let v1:List Blk:=[.box [.str v3.n,.str v3.m,.str v3.d,.str v3.c,.i v3.e],.box [.ptr 0 0],.box [.fn (QOp.fn n.o) [] []]];.N (Pr.e v3=(0:Int)) (.R [.i 0,.i v3.e] v1) (.ex (q17 [.str n_3.1,.str n_4.1]) λn_5=>.all (λ(r:Int×Int)=>r=VH n_5.1 n_5.2) λn_6=>.R [.i n_6.1,.i n_6.2] v1)))))))) ?_;simp only [q17,q42,q43,q44,Tree.holds,zh];refine⟨(a,b),⟨⟨rfl,rfl,trivial⟩,trivial,by trivial,by show a.length<_; omega,by show b.length<_; omega⟩,⟨_,rfl⟩,?_⟩;intro p hp;have hc:=k9 a b;obtain⟨l1,l2,l3,l4⟩:=y3 a b;rw [<- hp] at hc l1 l2 l3 l4;refine⟨(p,.mul),⟨kx_k _,kx_b p,by trivial,trivial⟩,⟨(),trivial⟩,?_⟩;intro _ _
 iterate 4 refine⟨by decide,λ_=> ?_⟩
 refine⟨⟨p,.mul,p.n,p.c⟩,⟨kx_l _ _,kx_h (p) _,by trivial,by show(p.n).length<_; omega,by show(p.c).length<_; omega,by trivial⟩,⟨_,rfl⟩,?_⟩;intro r1 hr1;have kr1:=qH _ _ _ _ hr1
 iterate 2 refine⟨rfl,λ_=> ?_⟩
 refine⟨⟨p.err r1.2,.mul,p.m,p.d⟩,⟨kx_l _ _,kx_h (p.err r1.2) _,by trivial,by show(p.m).length<_; omega,by show(p.d).length<_; omega,by trivial⟩,⟨_,rfl⟩,?_⟩;intro r2 hr2;have kr2:=qH _ _ _ _ hr2;have hfin:=zf0 hc hr1 hr2;refine⟨λh=> ?_,λh=>⟨(r1.1,r2.1),⟨⟨rfl,rfl,trivial⟩,by show r1.1.length<_; omega,by show r2.1.length<_; omega⟩,⟨_,rfl⟩,?_⟩⟩
 ·have h:r2.2≠0:=by
   intro h0;have h':(!decide (r2.2=0))=true:=h;rw [h0] at h'; cases h'
  rw [aP h] at hfin;rw [<- hfin] at hq;exact RetR.scal hq rfl (by simp [resV,Pr.err])
 ·have h:r2.2=0:=by
   have h':(!decide (r2.2=0))=false:=h;cases hd:decide (r2.2=0) with
   | true=>exact aB hd
   | false=>rw [hd] at h'; cases h'
  rw [aO (by rw [h]; simp)] at hfin;rintro _ rfl;rw [<- hfin] at hq;exact RetR.scal hq rfl (by simp [resV])
noncomputable def GPd:=tb uD (tb vX tz)
def zcs:Ctr:=ctrT false false (λp:Deal×Int×L8×L8=>[.ptr 0 0,.str p.2.2.1,.str p.2.2.2]) (λp=>[.box (p.1.cells p.2.1)]) (λp=>p.2.2.1.length<2^60/\p.2.2.2.length<2^60) (λ_ (_:Unit)=>True) (λp _=>(.str (Tm.prod p.2.1 p.2.2.1 p.2.2.2).1,[.box (p.1.cells (Tm.prod p.2.1 p.2.2.1 p.2.2.2).2)]))
abbrev q46(A:List AV)(x:L8×L8):Prop:=eqL A [.str x.1,.str x.2]/\x.1.length<2305843009213693952/\x.2.length<2305843009213693952
theorem KW:zg prog 47 zcs:=by
 refine zD (fn:=f47) (c:=f47.body.getD .skip) rfl rfl rfl (λh=>by cases h) λp hp O w0 I0 Q hl0 hq=> ?_
 obtain⟨t,e,a,b⟩:=p;obtain⟨h1,h2⟩:=hp;replace hq:=hq () trivial;simp only at hq h1 h2;refine zd.n GPd.h [] (let v1:List Blk:=[.box [.i e,.str t.long,.str t.short,.str t.ccy,.str t.name,.str t.zb,.str t.ze]];.N (e=0) (.R [.str #[(48:UInt8)].toList] v1) (.ex (q46 [.str a,.str b]) λn=>.all (λ(r:L8×Int)=>r=mulR n.1 n.2) λn=>.D (e=0) (.R [.str n.1] [.box [.i n.2,.str t.long,.str t.short,.str t.ccy,.str t.name,.str t.zb,.str t.ze]]) (.R [.str n.1] v1))) ?_;simp only [q46,Tree.holds,zh];unfold Tm.prod at hq;refine⟨λh=> ?_,λh=> ?_⟩
 ·rw [aP (by simpa using h)] at hq;exact RetR.keep [0] rfl rfl (by show ∀ j,j<1->_; decide) rfl hq (by simp [resV,exp2,exp1,exp0,ren0,eqA2]) (by simp [expH,expB,exp1,exp0,ren0,Deal.cells]) rfl
 ·have he:e=0:=by simpa using h
  rw [aO (by simpa using h)] at hq;subst he;refine⟨(a,b),⟨⟨rfl,rfl,trivial⟩,by show a.length<_; omega,by show b.length<_; omega⟩,⟨_,rfl⟩,?_⟩;rintro _ rfl;refine⟨λ_=> ?_,λh=>absurd h (by decide)⟩;exact RetR.keep [0] rfl rfl (by show ∀ j,j<1->_; decide) rfl hq (by simp [resV,exp2,exp1,exp0,ren0,eqA2]) (by simp [expH,expB,exp1,exp0,ren0,Deal.cells]) rfl
def zgv:Ctr:=ctrT false false (λp:Deal×Int×Int=>[.ptr 0 0,.i p.2.2]) (λp=>[.box (p.1.cells p.2.1)]) (λ_=>True) (λ_ (_:Unit)=>True) (λp _=>(exD (Tm.fixg p.1.name p.2.2),[.box (p.1.cells p.2.1)]))
theorem zbi:zg prog 48 zgv:=by
 refine zD (fn:=f48) (c:=f48.body.getD .skip) rfl rfl rfl (λh=>by cases h) λp hp O w0 I0 Q hl0 hq=> ?_
 obtain⟨t,e,d⟩:=p;replace hq:=hq () trivial;refine zd.n zJ [] (let v1:List AV:=[.int .u8 2,.str #[].toList,.str t.name,.i d,.nils];.R [.agg v1] [.box [.i e,.str t.long,.str t.short,.str t.ccy,.str t.name,.str t.zb,.str t.ze],.box v1]) ?_;simp only [Tree.holds,zh];refine RetR.keep [0] rfl rfl (by show ∀ j,j<1->_; decide) rfl hq ?_ (by simp [expH,expB,exp1,exp0,ren0,Deal.cells]) rfl;exact⟨⟨rfl,rfl⟩,rfl,rfl,⟨rfl,rfl⟩,rfl,trivial⟩
theorem Con.QB(e f:Con):eqG 2 12 (zf (zj 12 (e.zc++f.zc)) 0) (Con.conG [e,f]):=by
 intro j o hj ho;simp only [zf,zj,Nat.zero_add];rcases(show j=0\/j=1 by omega) with rfl | rfl<;>rcases(show o=0\/o=1\/o=2\/o=3\/o=4\/o=5\/o=6\/o=7\/o=8\/o=9\/o=10\/o=11 by omega) with rfl | rfl | rfl | rfl | rfl | rfl | rfl | rfl | rfl | rfl | rfl | rfl<;>rfl
theorem zox{a b c:L8}(x:Ex):eqA (.agg [.int .u8 2,.str a,.str b,.str c,.int .u8 x.kind,.str x.rat,.str x.name,.i x.date,.sl x.sub.length 5 x.deep,.i 0,.nils,.nils]) (Con.mk 2 a b c x 0 [] []).conA:=
 ⟨⟨rfl,rfl⟩,rfl,rfl,rfl,⟨rfl,rfl⟩,rfl,rfl,⟨rfl,rfl⟩,⟨rfl,rfl,Ex.zQ x⟩,⟨rfl,rfl⟩,rfl,rfl,trivial⟩
def Vx(d:Deal)(e:Int)(p:Per)(q:L8):List Con:=[Tm.at_ p.pay (.mk 2 d.long d.short d.ccy (Tm.kon (Tm.prod e d.zb q).1) 0 [] []),Tm.at_ p.pay (Tm.pay d (Tm.fixg d.name p.fix) q)]
structure OneA where
 d:Deal
 e:Int
 p:Per
 q:L8
def OneA.ok(x:OneA):Prop:=Tm.fits x.d/\x.q.length<2^40
noncomputable def GSw1:=tb KW (tb Jh (tb K7 (tb Q0 (tb zbi tz))))
def zkn:Ctr:=ctrT false false (λx:OneA=>[.ptr 0 0,x.p.av,.str x.q,.ptr 1 0]) (λx=>[.box (x.d.cells x.e),.box [.str x.d.long,.str x.d.short,.str x.d.ccy,.str x.d.name,.str x.d.zb,.str x.d.ze]]) (λx=>x.ok) (λ_ (_:Unit)=>True) (λx _=>(.sl 2 12 (Con.conG (Vx x.d x.e x.p x.q)),[.box (x.d.cells (Tm.prod x.e x.d.zb x.q).2),.box [.str x.d.long,.str x.d.short,.str x.d.ccy,.str x.d.name,.str x.d.zb,.str x.d.ze]]))
abbrev q48(A:List AV)(H:Heap)(x:Deal×Int×Int):Prop:=eqL A [.ptr 0 0,.i x.2.2]/\eqH H [.box [.i x.2.1,.str x.1.long,.str x.1.short,.str x.1.ccy,.str x.1.name,.str x.1.zb,.str x.1.ze]]/\1=1/\True
abbrev q47(A:List AV)(H:Heap)(x:Deal×Int×L8×L8):Prop:=eqL A [.ptr 0 0,.str x.2.2.1,.str x.2.2.2]/\eqH H [.box [.i x.2.1,.str x.1.long,.str x.1.short,.str x.1.ccy,.str x.1.name,.str x.1.zb,.str x.1.ze]]/\1=1/\x.2.2.1.length<1152921504606846976/\x.2.2.2.length<1152921504606846976
theorem zjd:zg prog 46 zkn:=by
 refine zD (fn:=f46) (c:=f46.body.getD .skip) rfl rfl rfl (λh=>by cases h) λp hp O w0 I0 Q hl0 hq=> ?_
 obtain⟨t,e,p,q⟩:=p;obtain⟨hf,h2⟩:=hp;replace hq:=hq () trivial;simp only at hq hf h2;refine zd.n GSw1.h [] (let v19:=[AV.ptr 0 0,AV.i p.fix];let v16:=Deal.ccy t;let v15:=Deal.long t;let v14:List AV:=[.i p.fix,.i p.pay,.str p.part];let v13:=Deal.short t;let v9:=q47 [.ptr 0 0,.str t.zb,.str q] [.box [.i e,.str v15,.str v13,.str v16,.str t.name,.str t.zb,.str t.ze]];let v8:List AV:=[.str v15,.str v13,.str v16,.str t.name,.str t.zb,.str t.ze];.all (λ(x:Bool)=>True) λn=>.ite n (.ex v9 λn=>let v17:=Tm.prod n.2.1 n.2.2.1 n.2.2.2;let v7:=q48 v19 [.box [.i v17.2,.str n.1.long,.str n.1.short,.str n.1.ccy,.str n.1.name,.str n.1.zb,.str n.1.ze]];.A λn_1=>.all (λ(x:Bool)=>True) λn_2=>.ite n_2 (.ex (q32 [.str v17.1]) λn_3=>let v10:=Tm.kon n_3;.A λn_4=>.ex (q36 [.i p.pay,.agg [.int .u8 2,.str v15,.str v13,.str v16,.int .u8 (Ex.kind v10),.str (Ex.rat v10),.str (Ex.name v10),.i (Ex.date v10),.sl (List.length (Ex.sub v10)) 5 (Ex.deep v10),.i 0,AV.nils,AV.nils]]) λn_5=>let v1:=Tm.at_ n_5.1 n_5.2;.A λn_6=>.ex v7 λn=>.A λn_7=>.ex (q35 [.ptr 0 0,(exD (Tm.fixg n.1.name n.2.2)),.str q] [.box [.i n.2.1,.str n.1.long,.str n.1.short,.str n.1.ccy,.str n.1.name,.str n.1.zb,.str n.1.ze]]) λn=>.A λn_8=>.ex (q36 [.i p.pay,(Con.conD (Tm.pay n.1 n.2.2.1 n.2.2.2))]) λn_9=>let v2:=Tm.at_ n_9.1 n_9.2;.A λn_10=>.R [.osl 4 12 0 2] [.box [.i n.2.1,.str n.1.long,.str n.1.short,.str n.1.ccy,.str n.1.name,.str n.1.zb,.str n.1.ze],.box v8,.box v14,.box [.int .u8 2,.str v15,.str v13,.str v16,.int .u8 (Ex.kind v10),.str (Ex.rat v10),.str (Ex.name v10),.i (Ex.date v10),.sl (List.length (Ex.sub v10)) 5 (Ex.deep v10),.i 0,.nils,.nils],.arr 2 12 (zj 12 [.int .u8 (Con.kind v1),.str (Con.src v1),.str (Con.dst v1),.str (Con.name v1),.int .u8 (Ex.kind (Con.x v1)),.str (Ex.rat (Con.x v1)),.str (Ex.name (Con.x v1)),.i (Ex.date (Con.x v1)),.sl (List.length (Ex.sub (Con.x v1))) 5 (Ex.exG (Ex.sub (Con.x v1))),.i (Con.date v1),.sl (List.length (Con.days v1)) 1 (Con.dayG (Con.days v1)),.sl (List.length (Con.sub v1)) 12 (Con.deep v1),.int .u8 (Con.kind v2),.str (Con.src v2),.str (Con.dst v2),.str (Con.name v2),.int .u8 (Ex.kind (Con.x v2)),.str (Ex.rat (Con.x v2)),.str (Ex.name (Con.x v2)),.i (Ex.date (Con.x v2)),.sl (List.length (Ex.sub (Con.x v2))) 5 (Ex.exG (Ex.sub (Con.x v2))),.i (Con.date v2),.sl (List.length (Con.days v2)) 1 (Con.dayG (Con.days v2)),.sl (List.length (Con.sub v2)) 12 (Con.deep v2)])]) (.ex (q32 [.str v17.1]) λn_3=>let v11:=Tm.kon n_3;.A λn_4=>.ex (q36 [.i p.pay,.agg [.int .u8 2,.str v15,.str v13,.str v16,.int .u8 (Ex.kind v11),.str (Ex.rat v11),.str (Ex.name v11),.i (Ex.date v11),.sl (List.length (Ex.sub v11)) 5 (Ex.deep v11),.i 0,AV.nils,AV.nils]]) λn_5=>let v3:=Tm.at_ n_5.1 n_5.2;.A λn_6=>.ex v7 λn=>.A λn_7=>.ex (q35 [.ptr 0 0,(exD (Tm.fixg n.1.name n.2.2)),.str q] [.box [.i n.2.1,.str n.1.long,.str n.1.short,.str n.1.ccy,.str n.1.name,.str n.1.zb,.str n.1.ze]]) λn=>.A λn_8=>.ex (q36 [.i p.pay,(Con.conD (Tm.pay n.1 n.2.2.1 n.2.2.2))]) λn_9=>let v4:=Tm.at_ n_9.1 n_9.2;.A λn_10=>.R [.osl 4 12 0 2] [.box [.i n.2.1,.str n.1.long,.str n.1.short,.str n.1.ccy,.str n.1.name,.str n.1.zb,.str n.1.ze],.box v8,.box v14,.box [.int .u8 2,.str v15,.str v13,.str v16,.int .u8 (Ex.kind v11),.str (Ex.rat v11),.str (Ex.name v11),.i (Ex.date v11),.sl (List.length (Ex.sub v11)) 5 (Ex.deep v11),.i 0,.nils,.nils],.arr 2 12 (zj 12 [.int .u8 (Con.kind v3),.str (Con.src v3),.str (Con.dst v3),.str (Con.name v3),.int .u8 (Ex.kind (Con.x v3)),.str (Ex.rat (Con.x v3)),.str (Ex.name (Con.x v3)),.i (Ex.date (Con.x v3)),.sl (List.length (Ex.sub (Con.x v3))) 5 (Ex.exG (Ex.sub (Con.x v3))),.i (Con.date v3),.sl (List.length (Con.days v3)) 1 (Con.dayG (Con.days v3)),.sl (List.length (Con.sub v3)) 12 (Con.deep v3),.int .u8 (Con.kind v4),.str (Con.src v4),.str (Con.dst v4),.str (Con.name v4),.int .u8 (Ex.kind (Con.x v4)),.str (Ex.rat (Con.x v4)),.str (Ex.name (Con.x v4)),.i (Ex.date (Con.x v4)),.sl (List.length (Ex.sub (Con.x v4))) 5 (Ex.exG (Ex.sub (Con.x v4))),.i (Con.date v4),.sl (List.length (Con.days v4)) 1 (Con.dayG (Con.days v4)),.sl (List.length (Con.sub v4)) 12 (Con.deep v4)])])) (.ex v9 λn=>let v18:=Tm.prod n.2.1 n.2.2.1 n.2.2.2;.A λn_1=>.ex (q32 [.str v18.1]) λn_2=>let v12:=Tm.kon n_2;.A λn_3=>.ex (q36 [.i p.pay,.agg [.int .u8 2,.str v15,.str v13,.str v16,.int .u8 (Ex.kind v12),.str (Ex.rat v12),.str (Ex.name v12),.i (Ex.date v12),.sl (List.length (Ex.sub v12)) 5 (Ex.deep v12),.i 0,AV.nils,AV.nils]]) λn_4=>let v5:=Tm.at_ n_4.1 n_4.2;.A λn_5=>.ex (q48 v19 [.box [.i v18.2,.str n.1.long,.str n.1.short,.str n.1.ccy,.str n.1.name,.str n.1.zb,.str n.1.ze]]) λn=>.A λn_6=>.ex (q35 [.ptr 0 0,(exD (Tm.fixg n.1.name n.2.2)),.str q] [.box [.i n.2.1,.str n.1.long,.str n.1.short,.str n.1.ccy,.str n.1.name,.str n.1.zb,.str n.1.ze]]) λn=>.A λn_7=>.ex (q36 [.i p.pay,(Con.conD (Tm.pay n.1 n.2.2.1 n.2.2.2))]) λn_8=>let v6:=Tm.at_ n_8.1 n_8.2;.A λn_9=>.R [.osl 4 12 0 2] [.box [.i n.2.1,.str n.1.long,.str n.1.short,.str n.1.ccy,.str n.1.name,.str n.1.zb,.str n.1.ze],.box v8,.box v14,.box [.int .u8 2,.str v15,.str v13,.str v16,.int .u8 (Ex.kind v12),.str (Ex.rat v12),.str (Ex.name v12),.i (Ex.date v12),.sl (List.length (Ex.sub v12)) 5 (Ex.deep v12),.i 0,.nils,.nils],.arr 2 12 (zj 12 [.int .u8 (Con.kind v5),.str (Con.src v5),.str (Con.dst v5),.str (Con.name v5),.int .u8 (Ex.kind (Con.x v5)),.str (Ex.rat (Con.x v5)),.str (Ex.name (Con.x v5)),.i (Ex.date (Con.x v5)),.sl (List.length (Ex.sub (Con.x v5))) 5 (Ex.exG (Ex.sub (Con.x v5))),.i (Con.date v5),.sl (List.length (Con.days v5)) 1 (Con.dayG (Con.days v5)),.sl (List.length (Con.sub v5)) 12 (Con.deep v5),.int .u8 (Con.kind v6),.str (Con.src v6),.str (Con.dst v6),.str (Con.name v6),.int .u8 (Ex.kind (Con.x v6)),.str (Ex.rat (Con.x v6)),.str (Ex.name (Con.x v6)),.i (Ex.date (Con.x v6)),.sl (List.length (Ex.sub (Con.x v6))) 5 (Ex.exG (Ex.sub (Con.x v6))),.i (Con.date v6),.sl (List.length (Con.days v6)) 1 (Con.dayG (Con.days v6)),.sl (List.length (Con.sub v6)) 12 (Con.deep v6)])])) ?_;simp only [q32,q35,q36,q47,q48,Tree.holds,zh];have h6:t.zb.length<=2500:=hf.2.2.2.2.1
 repeat' apply xF
 all_goals refine⟨(t,e,t.zb,q),⟨by simp,by simp [Deal.cells],trivial,by show t.zb.length<_; omega,by show q.length<_; omega⟩,⟨(),trivial⟩,λ_ _=> ?_⟩
 all_goals repeat' apply xF
 all_goals refine⟨(Tm.prod e t.zb q).1,⟨⟨rfl,trivial⟩,trivial⟩,⟨(),trivial⟩,λ_ _=> ?_⟩
 all_goals repeat' apply xF
 all_goals refine⟨(p.pay,.mk 2 t.long t.short t.ccy (Tm.kon (Tm.prod e t.zb q).1) 0 [] []),⟨⟨⟨rfl,rfl⟩,zox _,trivial⟩,trivial⟩,⟨(),trivial⟩,λ_ _=> ?_⟩
 all_goals repeat' apply xF
 all_goals refine⟨(t,(Tm.prod e t.zb q).2,p.fix),⟨by simp,by simp [Deal.cells],trivial,trivial⟩,⟨(),trivial⟩,λ_ _=> ?_⟩
 all_goals repeat' apply xF
 all_goals refine⟨(t,(Tm.prod e t.zb q).2,Tm.fixg t.name p.fix,q),⟨⟨⟨rfl,rfl⟩,kE _,rfl,trivial⟩,by simp [Deal.cells],trivial,trivial⟩,⟨(),trivial⟩,λ_ _=> ?_⟩
 all_goals repeat' apply xF
 all_goals refine⟨(p.pay,Tm.pay t (Tm.fixg t.name p.fix) q),⟨⟨⟨rfl,rfl⟩,qc _,trivial⟩,trivial⟩,⟨(),trivial⟩,λ_ _=> ?_⟩
 all_goals repeat' apply xF
 all_goals exact RetR.keep [0,1] rfl rfl (by show ∀ j,j<2->_; decide) rfl hq ⟨rfl,rfl,Con.QB _ _⟩ (by simp [expH,expB,exp1,exp0,ren0,Deal.cells]) rfl
noncomputable def GCp1:=tb zbi (tb QV (tb Q0 (tb K7 tz)))
def capL(d:Deal)(fl:Bool)(p:Per)(q:L8):List Con:=[Tm.at_ p.pay (Tm.pay d (Tm.over d.zb (Tm.fixg d.name p.fix) fl) q)]
def zq8:Ctr:=ctrT false false (λx:OneA×Bool=>[.ptr 0 0,x.1.p.av,.str x.1.q,.ptr 1 0]) (λx=>[.box (x.1.d.cells x.1.e),.box [.bool x.2]]) (λx=>x.1.ok) (λ_ (_:Unit)=>True) (λx _=>(.sl 1 12 (Con.conG (capL x.1.d x.2 x.1.p x.1.q)),[.box (x.1.d.cells x.1.e),.box [.bool x.2]]))
theorem zmw:zg prog 49 zq8:=by
 refine zD (fn:=f49) (c:=f49.body.getD .skip) rfl rfl rfl (λh=>by cases h) λp hp O w0 I0 Q hl0 hq=> ?_
 obtain⟨⟨t,e,p,q⟩,fl⟩:=p;obtain⟨hf,h2⟩:=hp;replace hq:=hq () trivial;simp only at hq hf h2;refine zd.n GCp1.h [] (.ex (q48 [.ptr 0 0,.i p.fix] [.box [.i e,.str t.long,.str t.short,.str t.ccy,.str t.name,.str t.zb,.str t.ze]]) λn=>.A λn_1=>.ex (q38 [.ptr 0 0,(exD (Tm.fixg n.1.name n.2.2)),.bool fl] [.box [.i n.2.1,.str n.1.long,.str n.1.short,.str n.1.ccy,.str n.1.name,.str n.1.zb,.str n.1.ze]]) λn=>.A λn_2=>.ex (q35 [.ptr 0 0,(exD (Tm.over n.1.zb n.2.2.1 n.2.2.2)),.str q] [.box [.i n.2.1,.str n.1.long,.str n.1.short,.str n.1.ccy,.str n.1.name,.str n.1.zb,.str n.1.ze]]) λn=>.A λn_3=>.ex (q36 [.i p.pay,(Con.conD (Tm.pay n.1 n.2.2.1 n.2.2.2))]) λn_4=>.A λn_5=>.R [.osl 3 12 0 1] [.box [.i n.2.1,.str n.1.long,.str n.1.short,.str n.1.ccy,.str n.1.name,.str n.1.zb,.str n.1.ze],.box [.bool fl],.box [.i p.fix,.i p.pay,.str p.part],.arr 1 12 (zj 12 (Con.zc (Tm.at_ n_4.1 n_4.2)))]) ?_;simp only [q35,q36,q38,q48,Tree.holds,zh]
 repeat' apply xF
 all_goals refine⟨(t,e,p.fix),⟨by simp,by simp [Deal.cells],trivial,trivial⟩,⟨(),trivial⟩,λ_ _=> ?_⟩
 all_goals repeat' apply xF
 all_goals refine⟨(t,e,Tm.fixg t.name p.fix,fl),⟨⟨⟨rfl,rfl⟩,kE _,rfl,trivial⟩,by simp [Deal.cells],trivial,trivial⟩,⟨(),trivial⟩,λ_ _=> ?_⟩
 all_goals repeat' apply xF
 all_goals refine⟨(t,e,Tm.over t.zb (Tm.fixg t.name p.fix) fl,q),⟨⟨⟨rfl,rfl⟩,kE _,rfl,trivial⟩,by simp [Deal.cells],trivial,trivial⟩,⟨(),trivial⟩,λ_ _=> ?_⟩
 all_goals repeat' apply xF
 all_goals refine⟨(p.pay,Tm.pay t (Tm.over t.zb (Tm.fixg t.name p.fix) fl) q),⟨⟨⟨rfl,rfl⟩,qc _,trivial⟩,trivial⟩,⟨(),trivial⟩,λ_ _=> ?_⟩
 all_goals repeat' apply xF
 all_goals exact RetR.keep [0,1] rfl rfl (by show ∀ j,j<2->_; decide) rfl hq ⟨rfl,rfl,Con.uV _⟩ (by simp [expH,expB,exp1,exp0,ren0,Deal.cells]) rfl
end Go.Proofs.Tryz
end
section
namespace Go.Nov
open Go.Sx
namespace Tm
theorem Kh{f:Leg->Per->Leg}(hf:∀ s p,(f s p).acc.length<=s.acc.length+2/\Con.bigs (f s p).acc<=Con.bigs s.acc+30000/\Con.zu (f s p).acc<=Con.zu s.acc+4):∀ (l:List Per) (s:Leg),(l.foldl f s).acc.length<=s.acc.length+2*l.length/\Con.bigs (l.foldl f s).acc<=Con.bigs s.acc+30000*l.length/\Con.zu (l.foldl f s).acc<=Con.zu s.acc+4*l.length
 | [],s=>by simp
 | p::l,s=>by
  have h1:=Kh hf l (f s p);have h2:=hf s p;simp only [List.foldl_cons,aL];omega
theorem W5{f:Leg->Per->Leg}(hf:∀ s p,(f s p).acc.length<=s.acc.length+2/\Con.bigs (f s p).acc<=Con.bigs s.acc+30000/\Con.zu (f s p).acc<=Con.zu s.acc+4)(e:Int)(l:List Per)(i:Nat)(hl:l.length<=60):(zS f e l i).acc.length<=120/\Con.bigs (zS f e l i).acc<=1800000/\Con.zu (zS f e l i).acc<=240:=by
 have h:=Kh hf (l.take i) ⟨e,[]⟩;have h2:(l.take i).length<=60:=by rw [aH]; omega
 unfold zS;simp only [List.length_nil,Con.bigs,Con.zu] at h;omega
theorem zdq{d:Deal}(h:fits d)(s:Leg)(p:Per):(legS d s p).acc.length<=s.acc.length+2/\Con.bigs (legS d s p).acc<=Con.bigs s.acc+30000/\Con.zu (legS d s p).acc<=Con.zu s.acc+4:=by
 have h':=h;obtain⟨h1,h2,h3,h4,h5,h6⟩:=h;have l1:(prod (prod s.e p.part d.ze).2 d.zb (prod s.e p.part d.ze).1).1.length<=2003:=xY;have l2:(prod s.e p.part d.ze).1.length<=2003:=xY;have:=Zw (x:=fixg d.name p.fix) (r:=(prod s.e p.part d.ze).1) h';simp only [legS,Wo,ZN,bO,at_,kon,fixg,pay,opx,Con.big,Con.bigs,Con.nodes,Con.zu,Ex.size,Ex.zz,Ex.z9,Ex.zY,List.length_nil,aL] at this l1 l2 ⊢;omega
theorem zfg{k n:L8}{z:Int}{fl:Bool} : (over k (fixg n z) fl).size+(over k (fixg n z) fl).z9<=20+k.length+n.length:=by
 cases fl<;>simp only [over,opx,fixg,kon,Ex.size,Ex.zz,Ex.z9,Ex.zY,List.length_nil,aL,aP,Bool.false_eq_true,if_false]<;>omega
theorem zdm{d:Deal}{fl:Bool}(h:fits d)(s:Leg)(p:Per):(legC d fl s p).acc.length<=s.acc.length+2/\Con.bigs (legC d fl s p).acc<=Con.bigs s.acc+30000/\Con.zu (legC d fl s p).acc<=Con.zu s.acc+4:=by
 have h':=h;obtain⟨h1,h2,h3,h4,h5,h6⟩:=h;have l2:(prod s.e p.part d.ze).1.length<=2003:=xY;have:=Zw (x:=over d.zb (fixg d.name p.fix) fl) (r:=(prod s.e p.part d.ze).1) h';have:=zfg (k:=d.zb) (n:=d.name) (z:=p.fix) (fl:=fl);simp only [legC,Wo,ZN,bO,at_,Con.bigs,Con.nodes,Con.zu,List.length_nil,aL];rw [show(Con.mk 6 [] [] [] (Ex.mk 0 [] [] 0 []) p.pay [] [pay d (over d.zb (fixg d.name p.fix) fl) (prod s.e p.part d.ze).1]).big=1+0+0+0+0+1+0+((pay d (over d.zb (fixg d.name p.fix) fl) (prod s.e p.part d.ze).1).big+0) by simp [Con.big,Con.bigs,Ex.size,Ex.zz,Ex.z9,Ex.zY]];simp only [pay,Con.nodes,Con.zu] at this ⊢;simp only [pay] at *
 omega
def resE(e:Int)(c:Con):Int:=if e=0 then c.errC else e
def Ym(f:Leg->Per->Leg)(d:Deal)(l:List Per):Leg:=zS f (jw (perE d l) l l.length) l l.length
def qU(f:Leg->Per->Leg)(d:Deal)(l:List Per):Int:=if 40<l.length then 4 else resE (Ym f d l).e (whole (Ym f d l).acc)
def jy(f:Leg->Per->Leg)(d:Deal)(l:List Per):Con:=if qU f d l=0 then whole (Ym f d l).acc else zero
end Tm
end Go.Nov
end
section
set_option maxRecDepth 100000
open Go Go.Sx Go.Proofs Go.Nov
namespace Go.Proofs.Tryz
attribute [local simp] eqKV eqA eqA0 eqH eqB eqL eqL0
noncomputable def K45:=Go.Sx.aA f45
noncomputable def allS:Ctr:={ Xd with sinks:=true }
theorem zbc:zg prog 54 allS:=zg.sink (c:=Xd) zjy
noncomputable def Y1:Ctr:={ zb2 with sinks:=true }
theorem uT:zg prog 33 Y1:=zg.sink (c:=zb2) X9
structure PeA where
 d:Deal
 l:List Per
 fl:Bool
def PeA.ok(x:PeA):Prop:=Tm.fits x.d/\x.l.length<=60/\∀ i,i<x.l.length->(x.l.getD i Per.nil).part.length<=300
def dbox(d:Deal):Blk:=.box [.str d.long,.str d.short,.str d.ccy,.str d.name,.str d.zb,.str d.ze]
theorem KC(a:L8):eqG 1 1 (zj 1 [.str a]) (ratG [a]):=by
 intro j o hj ho;rcases(show j=0 by omega) with rfl;rcases(show o=0 by omega) with rfl;rfl
theorem Yz(l m:List Con):eqG (l.length+m.length) 12 (appG l.length (Con.conG l) (Con.conG m)) (Con.conG (l++m)):=by
 intro j o hj ho;unfold appG;by_cases h:j<l.length
 ·rw [aP h]; simp [Con.conG,List.getD,bT,h]
 ·rw [aO h]; simp [Con.conG,List.getD,bT,h]
def wi(d:Deal)(fl:Bool):Blk:=dbox d
def bCap(d:Deal)(fl:Bool):Blk:=.box [.bool fl]
def zR(d:Deal)(fl:Bool):Tm.Leg->Per->Tm.Leg:=Tm.legS d
def qz(d:Deal)(fl:Bool):Tm.Leg->Per->Tm.Leg:=Tm.legC d fl
theorem zkm{d:Deal}{fl:Bool}(h:Tm.fits d)(s:Tm.Leg)(p:Per):(zR d fl s p).acc.length<=s.acc.length+2/\Con.bigs (zR d fl s p).acc<=Con.bigs s.acc+30000/\Con.zu (zR d fl s p).acc<=Con.zu s.acc+4:=Tm.zdq h s p
theorem znd{d:Deal}{fl:Bool}(h:Tm.fits d)(s:Tm.Leg)(p:Per):(qz d fl s p).acc.length<=s.acc.length+2/\Con.bigs (qz d fl s p).acc<=Con.bigs s.acc+30000/\Con.zu (qz d fl s p).acc<=Con.zu s.acc+4:=Tm.zdm h s p
noncomputable def znf:=tb yx (tb Z3 (tb vX (tb KW (tb zjd (tb zbc (tb uT tz))))))
def xC(d:Deal)(fl:Bool)(e:Int):Heap:=[wi d fl,dbox d,.box (List.replicate 12 .undef),.dead,.box (d.cells e)]
def za3(l:List Per)(i:Nat):KV:=[(1,perS l),(2,.fn 46 [] [.ptr 0 0]),(3,.ptr 1 0),(6,.ptr 2 0),(8,.ptr 4 0),Z 11,Z 14,(23,perS l),(24,.i (l.length:Int)),(25,.i (i:Int)),Z 37,Z 38,Z 39,Z 50,Z 51,Z 52,Z 53,Z 54,Z 55,Z 56,Z 57,Z 66,Z 67,Z 68]
def Z9(l:List Per)(i:Nat):KV:=[(1,perS l),(2,.fn 46 [] [.ptr 0 0]),(3,.ptr 1 0),(6,.ptr 2 0),(8,.ptr 4 0),(11,.i (Tm.kR l i)),Z 14,Z 23,Z 24,Z 25,(37,perS l),(38,.i (l.length:Int)),(39,.i (i:Int)),Z 50,Z 51,Z 52,Z 53,Z 54,Z 55,Z 56,Z 57,Z 66,Z 67,Z 68]
def Wm(d:Deal)(fl:Bool)(e:Int)(acc:List Con):Heap:=[wi d fl,dbox d,.box (List.replicate 12 .undef),.dead,.box (d.cells e),.arr acc.length 12 (Con.conG acc)]
def ZQ(l:List Per)(n i:Nat):KV:=[Z 1,(2,.fn 46 [] [.ptr 0 0]),(3,.ptr 1 0),(6,.ptr 2 0),(8,.ptr 4 0),Z 11,(14,.osl 5 12 0 n),Z 23,Z 24,Z 25,Z 37,Z 38,Z 39,Z 50,Z 51,Z 52,Z 53,Z 54,Z 55,Z 56,Z 57,(66,perS l),(67,.i (l.length:Int)),(68,.i (i:Int))]
def uW:Ctr:=ctrT false false (λx:PeA=>[x.d.av,perS x.l,.fn 46 [] [.ptr 0 0]]) (λx=>[wi x.d x.fl]) (λx=>x.ok) (λ_ (_:Unit)=>True) (λx _=>(.tup [(Tm.jy (zR x.d x.fl) x.d x.l).conD,.i (Tm.qU (zR x.d x.fl) x.d x.l)],[wi x.d x.fl]))
abbrev q49(A:List AV)(x:List Con):Prop:=eqL A [.sl x.length 12 (Con.conG x)]/\x.length<1099511627776
theorem zo0{O:Nat->Prop}{w0:World}{I0:List SE}{Hs:Nat->KV->Heap->Prop}{Q:AV×Heap->Prop}(d:Deal)(l:List Per)(fl:Bool)(e2:Int)(hf:Tm.fits d)(hl:l.length<=60)(hpt:∀ i,i<l.length->(l.getD i Per.nil).part.length<=300)
  (hq:Q (.tup [(if Tm.resE (Tm.zS (zR d fl) e2 l l.length).e (Tm.whole (Tm.zS (zR d fl) e2 l l.length).acc)=0 then Tm.whole (Tm.zS (zR d fl) e2 l l.length).acc else Tm.zero).conD,.i (Tm.resE (Tm.zS (zR d fl) e2 l l.length).e (Tm.whole (Tm.zS (zR d fl) e2 l l.length).acc))],[wi d fl])) :
  zd prog f45 O 1 w0 I0 Hs (RetR uW 1 Q) (.code (.loop (lps (inside (inside K45 0) 0) 0).1)::(lps (inside (inside K45 0) 0) 0).2) (mk f45.ntmps (ZQ l 0 0) (Wm d fl e2 [])):=by
 refine zd.loop (ι:={i:Nat // i<=l.length}) (λi=>ZQ l (Tm.zS (zR d fl) e2 l i.1).acc.length i.1) (λi=>Wm d fl (Tm.zS (zR d fl) e2 l i.1).e (Tm.zS (zR d fl) e2 l i.1).acc) (λi=>l.length - i.1) ⟨0,aI _⟩ 0 ?_ ?_ (by kernel_rfl)
 ·exact⟨by simp [ZQ,perS,za,Tm.zS],by simp [Wm,wi,dbox,Deal.cells,List.replicate,Tm.zS,za],by kernel_rfl,by show 1<=6; decide⟩
 ·rintro⟨i,hil⟩;have hsz:=Tm.W5 (f:=zR d fl) (zkm hf) e2 l i hl;obtain⟨⟨e,acc⟩,hs⟩:∃ s,Tm.zS (zR d fl) e2 l i=s:=⟨_,rfl⟩;rw [hs] at hsz;simp only [hs];simp only at hsz;refine zd.n znf.h [1,2,3,6,8,11,14,23,24,25,37,38,39,50,51,52,53,54,55,56,57,66,67,68] (let v10:=Deal.ccy d;let v9:=Deal.long d;let v8:=Deal.short d;let v4:=l.getD (i:Int).toNat Per.nil;let v3:List AV:=[.i e,.str v9,.str v8,.str v10,.str d.name,.str d.zb,.str d.ze];let v2:List AV:=[.int .u8 0,.str #[].toList,.str #[].toList,.str #[].toList,.int .u8 0,.str #[].toList,.str #[].toList,.i 0,.nils,.i 0,.nils,.nils];let v1:List AV:=[.str v9,.str v8,.str v10,.str d.name,.str d.zb,.str d.ze];.D ((i:Int)<l.length) (.side ((0:Int)<=i/\(i:Int)<l.length) (.ex (q47 [.ptr 0 0,.str v4.part,.str d.ze] [.box [.i e,.str v9,.str v8,.str v10,.str d.name,.str d.zb,.str d.ze]]) λn=>let v13:=Tm.prod n.2.1 n.2.2.1 n.2.2.2;.A λn_1=>.ex (λ(x:OneA)=>eqL [.ptr 0 0,.agg [.i v4.fix,.i v4.pay,.str v4.part],.str v13.1,.ptr 1 0] [.ptr 0 0,.agg [.i x.p.fix,.i x.p.pay,.str x.p.part],.str x.q,.ptr 1 0]/\eqH [.box [.i v13.2,.str n.1.long,.str n.1.short,.str n.1.ccy,.str n.1.name,.str n.1.zb,.str n.1.ze],.box [.str v9,.str v8,.str v10,.str d.name,.str d.zb,.str d.ze]] [.box [.i x.e,.str x.d.long,.str x.d.short,.str x.d.ccy,.str x.d.name,.str x.d.zb,.str x.d.ze],.box [.str x.d.long,.str x.d.short,.str x.d.ccy,.str x.d.name,.str x.d.zb,.str x.d.ze]]/\2=2/\OneA.ok x) λn=>let v12:=Deal.zb n.d;.A λn_2=>.side (0=0/\acc.length<=acc.length/\(acc.length+2)*184<=140737488355328) (.S (i+1) (.leaf (.back 0 [Z 1,(2,.fn 46 [] [.ptr 0 0]),(3,.ptr 1 0),(6,.ptr 2 0),(8,.ptr 4 0),Z 11,(14,.osl 5 12 0 (acc.length+2)),Z 23,Z 24,Z 25,Z 37,Z 38,Z 39,Z 50,Z 51,Z 52,Z 53,Z 54,Z 55,Z 56,Z 57,(66,.sl l.length 3 (perG l)),(67,.i l.length),(68,.i (i+1))] [.box [.str n.d.long,.str n.d.short,.str n.d.ccy,.str n.d.name,.str v12,.str n.d.ze],.box v1,.box [.undef,.undef,.undef,.undef,.undef,.undef,.undef,.undef,.undef,.undef,.undef,.undef],.dead,.box [.i (Prod.snd (Tm.prod n.e v12 n.q)),.str n.d.long,.str n.d.short,.str n.d.ccy,.str n.d.name,.str v12,.str n.d.ze],.arr (acc.length+2) 12 (appG acc.length (Con.conG acc) (Con.conG (Vx n.d n.e n.p n.q))),.box [.i v4.fix,.i v4.pay,.str v4.part]]))))) (.ex (q49 [.sl acc.length 12 (zf (Con.conG acc) 0)]) λn=>let v7:=Tm.whole n;let v11:=q37 [(Con.conD v7)];let v6:qe:=.ret [.agg v2,.i e] [.box v1,.box v1,.box v2,.dead,.box v3,.dead,.box (Con.zc v7),.box v2];.A λn_1=>.D (e=0) (.ex (q31 [(Con.conD v7)]) λn_2=>.all (λ(r:Int)=>r=Con.errC n_2) λn_3=>let v5:List AV:=[.i n_3,.str v9,.str v8,.str v10,.str d.name,.str d.zb,.str d.ze];.D (e=0) (.N (n_3=0) (.R [.agg v2,.i n_3] [.box v1,.box v1,.box v2,.dead,.box v5,.dead,.box (Con.zc v7),.box v2]) (.ex v11 λn_4=>.A λn_5=>.R [(Con.conD n_4),.i 0] [.box v1,.box v1,.box (Con.zc n_4),.dead,.box v5,.dead,.box (Con.zc v7),.box (Con.zc n_4)])) (.N (e=0) (.leaf v6) (.ex v11 λn_4=>.A λn_5=>.R [(Con.conD n_4),.i 0] [.box v1,.box v1,.box (Con.zc n_4),.dead,.box v3,.dead,.box (Con.zc v7),.box (Con.zc n_4)]))) (.N (e=0) (.leaf v6) (.ex v11 λn_2=>.A λn_3=>.R [(Con.conD n_2),.i 0] [.box v1,.box v1,.box (Con.zc n_2),.dead,.box v3,.dead,.box (Con.zc v7),.box (Con.zc n_2)])))) ?_;simp only [q31,q37,q47,q49,Tree.holds,zh,inR,lo,hi,aD];refine⟨λhlt=> ?_,λhge=> ?_⟩
  ·have hlt:i<l.length:=by have:=aB hlt; omega
   have hpi:=hpt i hlt;have h6:d.ze.length<=2500:=hf.2.2.2.2.2;have hss:=Tm.Jc (f:=zR d fl) (e:=e2) hlt;rw [hs] at hss;replace hss:Tm.zS (zR d fl) e2 l (i+1)=⟨(Tm.prod (Tm.prod e (l.getD i Per.nil).part d.ze).2 d.zb (Tm.prod e (l.getD i Per.nil).part d.ze).1).2,acc++Vx d (Tm.prod e (l.getD i Per.nil).part d.ze).2 (l.getD i Per.nil) (Tm.prod e (l.getD i Per.nil).part d.ze).1⟩:=hss;refine⟨by omega,λ_=> ?_⟩;refine⟨(d,e,(l.getD i Per.nil).part,d.ze),⟨by simp,by simp [Deal.cells],trivial,by show(l.getD i Per.nil).part.length<_; omega,by show d.ze.length<_; omega⟩,⟨(),trivial⟩,λ_ _=> ?_⟩;refine⟨⟨d,(Tm.prod e (l.getD i Per.nil).part d.ze).2,(l.getD i Per.nil),(Tm.prod e (l.getD i Per.nil).part d.ze).1⟩,⟨⟨⟨rfl,rfl⟩,⟨⟨rfl,rfl⟩,⟨rfl,rfl⟩,rfl,trivial⟩,rfl,⟨rfl,rfl⟩,trivial⟩,by simp [Deal.cells],trivial,hf,by have:=Tm.xY (e:=e) (a:=(l.getD i Per.nil).part) (b:=d.ze); show(Tm.prod e (l.getD i Per.nil).part d.ze).1.length<_; omega⟩,⟨(),trivial⟩,λ_ _=> ?_⟩;refine⟨⟨trivial,aJ _,by omega⟩,λ_=>⟨by omega,λ_=> ?_⟩⟩;rw [aP trivial];refine⟨⟨i+1,hlt⟩,by show l.length - (i+1)<l.length - i; omega,?_,?_,by kernel_rfl,by show 1<=6; decide⟩
   ·rw [hss]; simp [ZQ,perS,za,Vx]
   ·rw [hss];refine⟨by simp [wi,dbox],by simp [dbox],by simp [List.replicate],trivial,by simp [Deal.cells],⟨by simp [Vx],rfl,Yz acc (Vx d (Tm.prod e (l.getD i Per.nil).part d.ze).2 (l.getD i Per.nil) (Tm.prod e (l.getD i Per.nil).part d.ze).1)⟩,trivial⟩
  ·have hge:i=l.length:=by have:=aC hge; omega
   subst hge;rw [hs] at hq;simp only at hq;have hw:=Tm.xu acc;obtain⟨c,hc⟩:∃ c,Tm.whole acc=c:=⟨_,rfl⟩;rw [hc] at hq hw;refine⟨acc,⟨⟨⟨rfl,rfl,uw _ _ _⟩,trivial⟩,by omega⟩,⟨(),trivial⟩,λ_ _=> ?_⟩;simp only [hc];unfold Tm.resE at hq;refine⟨λh=> ?_,λh=> ?_⟩
   ·rw [aP (aB h)] at hq;refine⟨c,⟨⟨qc c,trivial⟩,by omega,by omega⟩,⟨_,rfl⟩,?_⟩;rintro _ rfl;refine⟨λ_=>⟨λh1=> ?_,λh1=> ?_⟩,λh1=>absurd (h.symm.trans h1) (by decide)⟩
    ·rw [aO (by simpa using h1)] at hq;exact RetR.keep [0] rfl rfl (by show ∀ j,j<1->_; decide) rfl hq zero_eq (by simp [expH,expB,exp1,exp0,ren0,wi,dbox]) rfl
    ·have h1:c.errC=0:=by simpa using h1
     rw [aP h1,h1] at hq;refine⟨c,⟨⟨qc c,trivial⟩,by omega⟩,⟨(),trivial⟩,λ_ _=> ?_⟩;exact RetR.xO [0] rfl rfl (by show ∀ j,j<1->_; decide) rfl hq (LeA.refl _) (by simp [expH,expB,exp1,exp0,ren0,wi,dbox]) rfl
   ·have h:=aC h;rw [aO h,aO h] at hq;refine⟨λ_=> ?_,λh1=>absurd h1 (by simp [h])⟩;exact RetR.keep [0] rfl rfl (by show ∀ j,j<1->_; decide) rfl hq zero_eq (by simp [expH,expB,exp1,exp0,ren0,wi,dbox]) rfl
theorem zmt{O:Nat->Prop}{w0:World}{I0:List SE}{Hs:Nat->KV->Heap->Prop}{Q:AV×Heap->Prop}(d:Deal)(l:List Per)(fl:Bool)(e1:Int)(hf:Tm.fits d)(hl:l.length<=60)(hpt:∀ i,i<l.length->(l.getD i Per.nil).part.length<=300)
  (hq:Q (.tup [(if Tm.resE (Tm.zS (zR d fl) (Tm.jw e1 l l.length) l l.length).e (Tm.whole (Tm.zS (zR d fl) (Tm.jw e1 l l.length) l l.length).acc)=0 then Tm.whole (Tm.zS (zR d fl) (Tm.jw e1 l l.length) l l.length).acc else Tm.zero).conD,.i (Tm.resE (Tm.zS (zR d fl) (Tm.jw e1 l l.length) l l.length).e (Tm.whole (Tm.zS (zR d fl) (Tm.jw e1 l l.length) l l.length).acc))],[wi d fl])) :
  zd prog f45 O 1 w0 I0 Hs (RetR uW 1 Q) (.code (.loop (lps (inside K45 0) 0).1)::(lps (inside K45 0) 0).2) (mk f45.ntmps (Z9 l 0) (xC d fl e1)):=by
 refine zd.loop (ι:={i:Nat // i<=l.length}) (λi=>Z9 l i.1) (λi=>xC d fl (Tm.jw e1 l i.1)) (λi=>l.length - i.1) ⟨0,aI _⟩ 0 ?_ ?_ (by kernel_rfl)
 ·refine⟨by simp [Z9,perS,za],?_,by kernel_rfl,by show 1<=5; decide⟩;have:Tm.jw e1 l 0=e1:=by unfold Tm.jw; split<;>simp_all [Tm.badT]
  simp [xC,wi,dbox,Deal.cells,this,List.replicate]
 ·rintro⟨i,hil⟩;obtain⟨e',he'⟩:∃ e',Tm.jw e1 l i=e':=⟨_,rfl⟩;simp only [he'];refine zd.n znf.h [1,2,3,6,8,11,14,23,24,25,37,38,39,50,51,52,53,54,55,56,57,66,67,68] (let v9:=lps (inside (inside K45 0) 0) 0;let v7:=inR .i64 (i+1);let v6:List AV:=[.i e',.str d.long,.str d.short,.str d.ccy,.str d.name,.str d.zb,.str d.ze];let v5:List AV:=[.undef,.undef,.undef,.undef,.undef,.undef,.undef,.undef,.undef,.undef,.undef,.undef];let v4:=l.getD (i:Int).toNat Per.nil;let v8:List AV:=[.i v4.fix,.i v4.pay,.str v4.part];let v3:List (Nat×AV):=[(1,.sl l.length 3 (perG l)),(2,.fn 46 [] [.ptr 0 0]),(3,.ptr 1 0),(6,.ptr 2 0),(8,.ptr 4 0),(11,.i v4.pay),Z 14,Z 23,Z 24,Z 25,(37,.sl l.length 3 (perG l)),(38,.i l.length),(39,.i (i+1)),Z 50,Z 51,Z 52,Z 53,Z 54,Z 55,Z 56,Z 57,Z 66,Z 67,Z 68];let v2:List AV:=[.str d.long,.str d.short,.str d.ccy,.str d.name,.str d.zb,.str d.ze];let v1:qe:=.back 0 v3 [.box v2,.box v2,.box v5,.dead,.box v6,.box v8];.D ((i:Int)<l.length) (.side ((0:Int)<=i/\(i:Int)<l.length) (.ite (bif decide (Per.pay v4 <Per.fix v4) then true else bif decide ((0:Int)<i) then decide (Per.pay v4 <=Tm.kR l i) else false) (.D (e'=(0:Int)) (.side v7 (.leaf (.back 0 v3 [.box v2,.box v2,.box v5,.dead,.box [.i 40,.str d.long,.str d.short,.str d.ccy,.str d.name,.str d.zb,.str d.ze],.box v8]))) (.side v7 (.leaf v1))) (.side v7 (.leaf v1)))) (.leaf (.loop v9.1 v9.2 [(1,.sl l.length 3 (perG l)),(2,.fn 46 [] [.ptr 0 0]),(3,.ptr 1 0),(6,.ptr 2 0),(8,.ptr 4 0),(11,.i (Tm.kR l i)),(14,.nils),Z 23,Z 24,Z 25,(37,.sl l.length 3 (perG l)),(38,.i l.length),(39,.i i),Z 50,Z 51,Z 52,Z 53,Z 54,Z 55,Z 56,Z 57,(66,.sl l.length 3 (perG l)),(67,.i l.length),(68,.i 0)] [.box v2,.box v2,.box v5,.dead,.box v6]))) ?_;simp only [Tree.holds,zh,inR,lo,hi,aD];refine⟨λhlt=> ?_,λhge=> ?_⟩
  ·have hlt:i<l.length:=by have:=aB hlt; omega
   have hs:=Tm.Jg (e:=e1) (l:=l) (i:=i) rfl;rw [he'] at hs;have hp:=Tm.W6 l i;refine⟨by omega,λ_=>⟨λhc=>⟨λhz=>⟨by omega,λ_=> ?_⟩,λhz=>⟨by omega,λ_=> ?_⟩⟩,λhc=>⟨by omega,λ_=> ?_⟩⟩⟩
   all_goals
    rw [aP trivial];refine⟨⟨i+1,hlt⟩,by show l.length - (i+1)<l.length - i; omega,by simp [Z9,perS,za,hp],?_,by kernel_rfl,by show 1<=5; decide⟩
   ·rw [aP (by simpa using hc),aP (aB hz)] at hs;simp [xC,wi,dbox,Deal.cells,hs,List.replicate]
   ·rw [aP (by simpa using hc),aO (aC hz)] at hs;simp [xC,wi,dbox,Deal.cells,hs,List.replicate]
   ·rw [aO (by simp at hc ⊢; omega)] at hs;simp [xC,wi,dbox,Deal.cells,hs,List.replicate]
  ·have hge:i=l.length:=by have:=aC hge; omega
   subst hge;rw [he'] at hq;refine zd.bear 14 12 (Con.conG []) rfl (by decide) (by kernel_rfl) ?_;refine zd.weak (S:=ZQ l 0 0) (H:=Wm d fl e' []) ⟨by simp [ZQ,xE,perS,za],by simp [Wm,wi,dbox,Deal.cells,List.replicate,za],by kernel_rfl,by show 1<=6; decide⟩ ?_;exact zo0 d l fl e' hf hl hpt hq
theorem US:zg prog 45 uW:=by
 refine zD (fn:=f45) (c:=f45.body.getD .skip) rfl rfl rfl (λh=>by cases h) λp hp O w0 I0 Q hl0 hq=> ?_
 obtain⟨d,l,fl⟩:=p;replace hq:=hq () trivial;obtain⟨hf,hl,hpt⟩:=hp;simp only at hf hl hpt hq;unfold Tm.jy Tm.qU at hq;refine zd.n znf.h [1,2,3,6,8,11,14,23,24,25,37,38,39,50,51,52,53,54,55,56,57,66,67,68] (let v2:List AV:=[.int .u8 0,.str #[].toList,.str #[].toList,.str #[].toList,.int .u8 0,.str #[].toList,.str #[].toList,.i 0,.nils,.i 0,.nils,.nils];let v1:List AV:=[.str d.long,.str d.short,.str d.ccy,.str d.name,.str d.zb,.str d.ze];.D ((40:Int)<l.length) (.R [.agg v2,.i 4] [.box v1,.box v1,.box v2]) (.ex (λ(x:Deal×Int×List L8)=>eqL [.ptr 0 0,.osl 1 1 0 2] [.ptr 0 0,.osl 1 1 0 x.2.2.length]/\eqH [.box [.i 0,.str d.long,.str d.short,.str d.ccy,.str d.name,.str d.zb,.str d.ze],.arr 2 1 (zj 1 [.str d.zb,.str d.ze])] [.box [.i x.2.1,.str x.1.long,.str x.1.short,.str x.1.ccy,.str x.1.name,.str x.1.zb,.str x.1.ze],.arr x.2.2.length 1 (ratG x.2.2)]/\2=2/\x.2.2.length<1099511627776/\∀ (r:L8),r∈x.2.2->r.length<1099511627776) λn=>.A λn_1=>.leaf (.loop (lps K45 0).1 (lps K45 0).2 [(1,.sl l.length 3 (perG l)),(2,.fn 46 [] [.ptr 0 0]),(3,.ptr 1 0),(6,.ptr 2 0),(8,.ptr 4 0),Z 11,Z 14,(23,.sl l.length 3 (perG l)),(24,.i l.length),(25,.i 0),Z 37,Z 38,Z 39,Z 50,Z 51,Z 52,Z 53,Z 54,Z 55,Z 56,Z 57,Z 66,Z 67,Z 68] [.box v1,.box v1,.box v2,.box v1,.box [.i (Tm.first n.2.1 n.2.2),.str n.1.long,.str n.1.short,.str n.1.ccy,.str n.1.name,.str n.1.zb,.str n.1.ze],.arr n.2.2.length 1 (ratG n.2.2)]))) ?_;simp only [Tree.holds,zh];refine⟨λh=> ?_,λh=> ?_⟩
 ·have h40:=aB h;simp only [aP (show 40<l.length by omega)] at hq;rw [aO (show ¬ (4:Int)=0 by decide)] at hq;exact RetR.keep [0] rfl rfl (by show ∀ j,j<1->_; decide) rfl hq zero_eq (by simp [expH,expB,exp1,exp0,ren0,wi,dbox]) rfl
 have h40:=aC h;simp only [aO (show ¬ 40<l.length by omega)] at hq;refine⟨(d,0,[d.zb,d.ze]),⟨by simp,by simp [Deal.cells,uM],trivial,by show 2<2^40; decide,kz hf⟩,⟨(),trivial⟩,λ_ _=> ?_⟩;unfold Tm.Ym Tm.perE at hq;obtain⟨e0,he0⟩:∃ e,Tm.first 0 [d.zb,d.ze]=e:=⟨_,rfl⟩;rw [he0] at hq;simp only [he0];refine zd.loop (ι:={i:Nat // i<=l.length}) (λi=>za3 l i.1) (λi=>xC d fl (Tm.first e0 ((l.map Per.part).take i.1))) (λi=>l.length - i.1) ⟨0,aI _⟩ 0 ?_ ?_ (by kernel_rfl)
 ·exact⟨by simp [za3,perS,za],by simp [xC,wi,dbox,Deal.cells,Tm.first,List.replicate],by kernel_rfl,by show 1<=5; decide⟩
 ·rintro⟨i,hil⟩;obtain⟨e',he'⟩:∃ e',Tm.first e0 ((l.map Per.part).take i)=e':=⟨_,rfl⟩;simp only [he'];refine zd.n znf.h [1,2,3,6,8,11,14,23,24,25,37,38,39,50,51,52,53,54,55,56,57,66,67,68] (let v3:List AV:=[.undef,.undef,.undef,.undef,.undef,.undef,.undef,.undef,.undef,.undef,.undef,.undef];let v2:=l.getD (i:Int).toNat Per.nil;let v1:List AV:=[.str d.long,.str d.short,.str d.ccy,.str d.name,.str d.zb,.str d.ze];.D ((i:Int)<l.length) (.side ((0:Int)<=i/\(i:Int)<l.length) (.ex (λ(x:Deal×Int×List L8)=>eqL [.ptr 0 0,.osl 1 1 0 1] [.ptr 0 0,.osl 1 1 0 x.2.2.length]/\eqH [.box [.i e',.str d.long,.str d.short,.str d.ccy,.str d.name,.str d.zb,.str d.ze],.arr 1 1 (zj 1 [.str v2.part])] [.box [.i x.2.1,.str x.1.long,.str x.1.short,.str x.1.ccy,.str x.1.name,.str x.1.zb,.str x.1.ze],.arr x.2.2.length 1 (ratG x.2.2)]/\2=2/\x.2.2.length<1099511627776/\∀ (r:L8),r∈x.2.2->r.length<1099511627776) λn=>.A λn_1=>.S (i+1) (.leaf (.back 0 [(1,.sl l.length 3 (perG l)),(2,.fn 46 [] [.ptr 0 0]),(3,.ptr 1 0),(6,.ptr 2 0),(8,.ptr 4 0),Z 11,Z 14,(23,.sl l.length 3 (perG l)),(24,.i l.length),(25,.i (i+1)),Z 37,Z 38,Z 39,Z 50,Z 51,Z 52,Z 53,Z 54,Z 55,Z 56,Z 57,Z 66,Z 67,Z 68] [.box v1,.box v1,.box v3,.dead,.box [.i (Tm.first n.2.1 n.2.2),.str n.1.long,.str n.1.short,.str n.1.ccy,.str n.1.name,.str n.1.zb,.str n.1.ze],.box [.i v2.fix,.i v2.pay,.str v2.part],.arr n.2.2.length 1 (ratG n.2.2)])))) (.leaf (.loop (lps (inside K45 0) 0).1 (lps (inside K45 0) 0).2 [(1,.sl l.length 3 (perG l)),(2,.fn 46 [] [.ptr 0 0]),(3,.ptr 1 0),(6,.ptr 2 0),(8,.ptr 4 0),(11,.i (-9223372036854775808:Int)),Z 14,(23,.sl l.length 3 (perG l)),(24,.i l.length),(25,.i i),(37,.sl l.length 3 (perG l)),(38,.i l.length),(39,.i 0),Z 50,Z 51,Z 52,Z 53,Z 54,Z 55,Z 56,Z 57,Z 66,Z 67,Z 68] [.box v1,.box v1,.box v3,.dead,.box [.i e',.str d.long,.str d.short,.str d.ccy,.str d.name,.str d.zb,.str d.ze]]))) ?_;simp only [Tree.holds,zh,inR,lo,hi,aD];refine⟨λhlt=> ?_,λhge=> ?_⟩
  ·have hlt:i<l.length:=by have:=aB hlt; omega
   have hpi:=hpt i hlt;have ht:=Tm.xo (e:=e0) (l:=l.map Per.part) (i:=i) (by simpa using hlt);rw [he'] at ht;have hg:(l.map Per.part).getD i []=(l.getD i Per.nil).part:=by simp [List.getD,hlt]
   rw [hg] at ht;have ht2:Tm.first e' [(l.getD i Per.nil).part]=Tm.first e0 ((l.map Per.part).take (i+1)):=by rw [ht]; rfl
   refine⟨by omega,λ_=>⟨(d,e',[(l.getD i Per.nil).part]),⟨by simp,by simp [Deal.cells,KC],trivial,by show 1<2^40; decide,λr hr=>by rw [List.mem_singleton.1 hr]; omega⟩,⟨(),trivial⟩,λ_ _=>⟨by omega,λ_=> ?_⟩⟩⟩;rw [aP trivial];exact⟨⟨i+1,hlt⟩,by show l.length - (i+1)<l.length - i; omega,by simp [za3,perS,za],by show eqH _ (xC d fl (Tm.first e0 ((l.map Per.part).take (i+1)))); rw [<- ht2]; simp [xC,wi,dbox,Deal.cells,List.replicate],by kernel_rfl,by show 1<=5; decide⟩
  ·have hge:i=l.length:=by have:=aC hge; omega
   subst hge;have hz:(l.map Per.part).take l.length=l.map Per.part:=by rw [<- List.length_map (f:=Per.part),bD]
   rw [hz] at he';rw [he'] at hq;refine zd.weak (S:=Z9 l 0) (H:=xC d fl e') ⟨by simp [Z9,perS,za,Tm.kR],by simp [xC,wi,dbox,Deal.cells,List.replicate],by kernel_rfl,by show 1<=5; decide⟩ ?_;exact zmt d l fl e' hf hl hpt hq
noncomputable def zqf:=tb yx (tb Z3 (tb vX (tb KW (tb zmw (tb zbc (tb uT tz))))))
def HCap(d:Deal)(fl:Bool)(e:Int):Heap:=[bCap d fl,dbox d,.box (List.replicate 12 .undef),.dead,.box (d.cells e)]
def zk8(l:List Per)(i:Nat):KV:=[(1,perS l),(2,.fn 49 [] [.ptr 0 0]),(3,.ptr 1 0),(6,.ptr 2 0),(8,.ptr 4 0),Z 11,Z 14,(23,perS l),(24,.i (l.length:Int)),(25,.i (i:Int)),Z 37,Z 38,Z 39,Z 50,Z 51,Z 52,Z 53,Z 54,Z 55,Z 56,Z 57,Z 66,Z 67,Z 68]
def Va(l:List Per)(i:Nat):KV:=[(1,perS l),(2,.fn 49 [] [.ptr 0 0]),(3,.ptr 1 0),(6,.ptr 2 0),(8,.ptr 4 0),(11,.i (Tm.kR l i)),Z 14,Z 23,Z 24,Z 25,(37,perS l),(38,.i (l.length:Int)),(39,.i (i:Int)),Z 50,Z 51,Z 52,Z 53,Z 54,Z 55,Z 56,Z 57,Z 66,Z 67,Z 68]
def Y9(d:Deal)(fl:Bool)(e:Int)(acc:List Con):Heap:=[bCap d fl,dbox d,.box (List.replicate 12 .undef),.dead,.box (d.cells e),.arr acc.length 12 (Con.conG acc)]
def VV(l:List Per)(n i:Nat):KV:=[Z 1,(2,.fn 49 [] [.ptr 0 0]),(3,.ptr 1 0),(6,.ptr 2 0),(8,.ptr 4 0),Z 11,(14,.osl 5 12 0 n),Z 23,Z 24,Z 25,Z 37,Z 38,Z 39,Z 50,Z 51,Z 52,Z 53,Z 54,Z 55,Z 56,Z 57,(66,perS l),(67,.i (l.length:Int)),(68,.i (i:Int))]
def QF:Ctr:=ctrT false false (λx:PeA=>[x.d.av,perS x.l,.fn 49 [] [.ptr 0 0]]) (λx=>[bCap x.d x.fl]) (λx=>x.ok) (λ_ (_:Unit)=>True) (λx _=>(.tup [(Tm.jy (qz x.d x.fl) x.d x.l).conD,.i (Tm.qU (qz x.d x.fl) x.d x.l)],[bCap x.d x.fl]))
theorem zsd{O:Nat->Prop}{w0:World}{I0:List SE}{Hs:Nat->KV->Heap->Prop}{Q:AV×Heap->Prop}(d:Deal)(l:List Per)(fl:Bool)(e2:Int)(hf:Tm.fits d)(hl:l.length<=60)(hpt:∀ i,i<l.length->(l.getD i Per.nil).part.length<=300)
  (hq:Q (.tup [(if Tm.resE (Tm.zS (qz d fl) e2 l l.length).e (Tm.whole (Tm.zS (qz d fl) e2 l l.length).acc)=0 then Tm.whole (Tm.zS (qz d fl) e2 l l.length).acc else Tm.zero).conD,.i (Tm.resE (Tm.zS (qz d fl) e2 l l.length).e (Tm.whole (Tm.zS (qz d fl) e2 l l.length).acc))],[bCap d fl])) :
  zd prog f45 O 1 w0 I0 Hs (RetR QF 1 Q) (.code (.loop (lps (inside (inside K45 0) 0) 0).1)::(lps (inside (inside K45 0) 0) 0).2) (mk f45.ntmps (VV l 0 0) (Y9 d fl e2 [])):=by
 refine zd.loop (ι:={i:Nat // i<=l.length}) (λi=>VV l (Tm.zS (qz d fl) e2 l i.1).acc.length i.1) (λi=>Y9 d fl (Tm.zS (qz d fl) e2 l i.1).e (Tm.zS (qz d fl) e2 l i.1).acc) (λi=>l.length - i.1) ⟨0,aI _⟩ 0 ?_ ?_ (by kernel_rfl)
 ·exact⟨by simp [VV,perS,za,Tm.zS],by simp [Y9,bCap,dbox,Deal.cells,List.replicate,Tm.zS,za],by kernel_rfl,by show 1<=6; decide⟩
 ·rintro⟨i,hil⟩;have hsz:=Tm.W5 (f:=qz d fl) (znd hf) e2 l i hl;obtain⟨⟨e,acc⟩,hs⟩:∃ s,Tm.zS (qz d fl) e2 l i=s:=⟨_,rfl⟩;rw [hs] at hsz;simp only [hs];simp only at hsz;refine zd.n zqf.h [1,2,3,6,8,11,14,23,24,25,37,38,39,50,51,52,53,54,55,56,57,66,67,68] (let v14:=Deal.ccy d;let v12:=Deal.long d;let v11:=Deal.short d;let v4:=l.getD (i:Int).toNat Per.nil;let v3:List AV:=[.i e,.str v12,.str v11,.str v14,.str d.name,.str d.zb,.str d.ze];let v2:List AV:=[.str v12,.str v11,.str v14,.str d.name,.str d.zb,.str d.ze];let v1:List AV:=[.int .u8 0,.str #[].toList,.str #[].toList,.str #[].toList,.int .u8 0,.str #[].toList,.str #[].toList,.i 0,.nils,.i 0,.nils,.nils];.D ((i:Int)<l.length) (.side ((0:Int)<=i/\(i:Int)<l.length) (.ex (q47 [.ptr 0 0,.str v4.part,.str d.ze] [.box [.i e,.str v12,.str v11,.str v14,.str d.name,.str d.zb,.str d.ze]]) λn=>let v13:=Tm.prod n.2.1 n.2.2.1 n.2.2.2;.A λn_1=>.ex (λ(x:OneA×Bool)=>let v9:=OneA.d x.1;eqL [.ptr 0 0,.agg [.i v4.fix,.i v4.pay,.str v4.part],.str v13.1,.ptr 1 0] [.ptr 0 0,.agg [.i x.1.p.fix,.i x.1.p.pay,.str x.1.p.part],.str x.1.q,.ptr 1 0]/\eqH [.box [.i v13.2,.str n.1.long,.str n.1.short,.str n.1.ccy,.str n.1.name,.str n.1.zb,.str n.1.ze],.box [.bool fl]] [.box [.i x.1.e,.str v9.long,.str v9.short,.str v9.ccy,.str v9.name,.str v9.zb,.str v9.ze],.box [.bool x.2]]/\2=2/\OneA.ok x.1) λn=>let v8:=OneA.d n.1;.A λn_2=>.side (0=0/\acc.length<=acc.length/\(acc.length+1)*184<=140737488355328) (.S (i+1) (.leaf (.back 0 [Z 1,(2,.fn 49 [] [.ptr 0 0]),(3,.ptr 1 0),(6,.ptr 2 0),(8,.ptr 4 0),Z 11,(14,.osl 5 12 0 (acc.length+1)),Z 23,Z 24,Z 25,Z 37,Z 38,Z 39,Z 50,Z 51,Z 52,Z 53,Z 54,Z 55,Z 56,Z 57,(66,.sl l.length 3 (perG l)),(67,.i l.length),(68,.i (i+1))] [.box [.bool n.2],.box v2,.box [.undef,.undef,.undef,.undef,.undef,.undef,.undef,.undef,.undef,.undef,.undef,.undef],.dead,.box [.i n.1.e,.str v8.long,.str v8.short,.str v8.ccy,.str v8.name,.str v8.zb,.str v8.ze],.arr (acc.length+1) 12 (appG acc.length (Con.conG acc) (Con.conG (capL v8 n.2 n.1.p n.1.q))),.box [.i v4.fix,.i v4.pay,.str v4.part]]))))) (.ex (q49 [.sl acc.length 12 (zf (Con.conG acc) 0)]) λn=>let v7:=Tm.whole n;let v10:=q37 [(Con.conD v7)];let v5:qe:=.ret [.agg v1,.i e] [.box [.bool fl],.box v2,.box v1,.dead,.box v3,.dead,.box (Con.zc v7),.box v1];.A λn_1=>.D (e=0) (.ex (q31 [(Con.conD v7)]) λn_2=>.all (λ(r:Int)=>r=Con.errC n_2) λn_3=>let v6:List AV:=[.i n_3,.str v12,.str v11,.str v14,.str d.name,.str d.zb,.str d.ze];.D (e=0) (.N (n_3=0) (.R [.agg v1,.i n_3] [.box [.bool fl],.box v2,.box v1,.dead,.box v6,.dead,.box (Con.zc v7),.box v1]) (.ex v10 λn_4=>.A λn_5=>.R [(Con.conD n_4),.i 0] [.box [.bool fl],.box v2,.box (Con.zc n_4),.dead,.box v6,.dead,.box (Con.zc v7),.box (Con.zc n_4)])) (.N (e=0) (.leaf v5) (.ex v10 λn_4=>.A λn_5=>.R [(Con.conD n_4),.i 0] [.box [.bool fl],.box v2,.box (Con.zc n_4),.dead,.box v3,.dead,.box (Con.zc v7),.box (Con.zc n_4)]))) (.N (e=0) (.leaf v5) (.ex v10 λn_2=>.A λn_3=>.R [(Con.conD n_2),.i 0] [.box [.bool fl],.box v2,.box (Con.zc n_2),.dead,.box v3,.dead,.box (Con.zc v7),.box (Con.zc n_2)])))) ?_;simp only [q31,q37,q47,q49,Tree.holds,zh,inR,lo,hi,aD];refine⟨λhlt=> ?_,λhge=> ?_⟩
  ·have hlt:i<l.length:=by have:=aB hlt; omega
   have hpi:=hpt i hlt;have h6:d.ze.length<=2500:=hf.2.2.2.2.2;have hss:=Tm.Jc (f:=qz d fl) (e:=e2) hlt;rw [hs] at hss;replace hss:Tm.zS (qz d fl) e2 l (i+1)=⟨(Tm.prod e (l.getD i Per.nil).part d.ze).2,acc++capL d fl (l.getD i Per.nil) (Tm.prod e (l.getD i Per.nil).part d.ze).1⟩:=hss;refine⟨by omega,λ_=> ?_⟩;refine⟨(d,e,(l.getD i Per.nil).part,d.ze),⟨by simp,by simp [Deal.cells],trivial,by show(l.getD i Per.nil).part.length<_; omega,by show d.ze.length<_; omega⟩,⟨(),trivial⟩,λ_ _=> ?_⟩;refine⟨(⟨d,(Tm.prod e (l.getD i Per.nil).part d.ze).2,(l.getD i Per.nil),(Tm.prod e (l.getD i Per.nil).part d.ze).1⟩,fl),⟨⟨⟨rfl,rfl⟩,⟨⟨rfl,rfl⟩,⟨rfl,rfl⟩,rfl,trivial⟩,rfl,⟨rfl,rfl⟩,trivial⟩,by simp [Deal.cells],trivial,hf,by have:=Tm.xY (e:=e) (a:=(l.getD i Per.nil).part) (b:=d.ze); show(Tm.prod e (l.getD i Per.nil).part d.ze).1.length<_; omega⟩,⟨(),trivial⟩,λ_ _=> ?_⟩;refine⟨⟨trivial,aJ _,by omega⟩,λ_=>⟨by omega,λ_=> ?_⟩⟩;rw [aP trivial];refine⟨⟨i+1,hlt⟩,by show l.length - (i+1)<l.length - i; omega,?_,?_,by kernel_rfl,by show 1<=6; decide⟩
   ·rw [hss]; simp [VV,perS,za,capL]
   ·rw [hss];refine⟨by simp [bCap,dbox],by simp [dbox],by simp [List.replicate],trivial,by simp [Deal.cells],⟨by simp [capL],rfl,Yz acc (capL d fl (l.getD i Per.nil) (Tm.prod e (l.getD i Per.nil).part d.ze).1)⟩,trivial⟩
  ·have hge:i=l.length:=by have:=aC hge; omega
   subst hge;rw [hs] at hq;simp only at hq;have hw:=Tm.xu acc;obtain⟨c,hc⟩:∃ c,Tm.whole acc=c:=⟨_,rfl⟩;rw [hc] at hq hw;refine⟨acc,⟨⟨⟨rfl,rfl,uw _ _ _⟩,trivial⟩,by omega⟩,⟨(),trivial⟩,λ_ _=> ?_⟩;simp only [hc];unfold Tm.resE at hq;refine⟨λh=> ?_,λh=> ?_⟩
   ·rw [aP (aB h)] at hq;refine⟨c,⟨⟨qc c,trivial⟩,by omega,by omega⟩,⟨_,rfl⟩,?_⟩;rintro _ rfl;refine⟨λ_=>⟨λh1=> ?_,λh1=> ?_⟩,λh1=>absurd (h.symm.trans h1) (by decide)⟩
    ·rw [aO (by simpa using h1)] at hq;exact RetR.keep [0] rfl rfl (by show ∀ j,j<1->_; decide) rfl hq zero_eq (by simp [expH,expB,exp1,exp0,ren0,bCap,dbox]) rfl
    ·have h1:c.errC=0:=by simpa using h1
     rw [aP h1,h1] at hq;refine⟨c,⟨⟨qc c,trivial⟩,by omega⟩,⟨(),trivial⟩,λ_ _=> ?_⟩;exact RetR.xO [0] rfl rfl (by show ∀ j,j<1->_; decide) rfl hq (LeA.refl _) (by simp [expH,expB,exp1,exp0,ren0,bCap,dbox]) rfl
   ·have h:=aC h;rw [aO h,aO h] at hq;refine⟨λ_=> ?_,λh1=>absurd h1 (by simp [h])⟩;exact RetR.keep [0] rfl rfl (by show ∀ j,j<1->_; decide) rfl hq zero_eq (by simp [expH,expB,exp1,exp0,ren0,bCap,dbox]) rfl
theorem zr1{O:Nat->Prop}{w0:World}{I0:List SE}{Hs:Nat->KV->Heap->Prop}{Q:AV×Heap->Prop}(d:Deal)(l:List Per)(fl:Bool)(e1:Int)(hf:Tm.fits d)(hl:l.length<=60)(hpt:∀ i,i<l.length->(l.getD i Per.nil).part.length<=300)
  (hq:Q (.tup [(if Tm.resE (Tm.zS (qz d fl) (Tm.jw e1 l l.length) l l.length).e (Tm.whole (Tm.zS (qz d fl) (Tm.jw e1 l l.length) l l.length).acc)=0 then Tm.whole (Tm.zS (qz d fl) (Tm.jw e1 l l.length) l l.length).acc else Tm.zero).conD,.i (Tm.resE (Tm.zS (qz d fl) (Tm.jw e1 l l.length) l l.length).e (Tm.whole (Tm.zS (qz d fl) (Tm.jw e1 l l.length) l l.length).acc))],[bCap d fl])) :
  zd prog f45 O 1 w0 I0 Hs (RetR QF 1 Q) (.code (.loop (lps (inside K45 0) 0).1)::(lps (inside K45 0) 0).2) (mk f45.ntmps (Va l 0) (HCap d fl e1)):=by
 refine zd.loop (ι:={i:Nat // i<=l.length}) (λi=>Va l i.1) (λi=>HCap d fl (Tm.jw e1 l i.1)) (λi=>l.length - i.1) ⟨0,aI _⟩ 0 ?_ ?_ (by kernel_rfl)
 ·refine⟨by simp [Va,perS,za],?_,by kernel_rfl,by show 1<=5; decide⟩;have:Tm.jw e1 l 0=e1:=by unfold Tm.jw; split<;>simp_all [Tm.badT]
  simp [HCap,bCap,dbox,Deal.cells,this,List.replicate]
 ·rintro⟨i,hil⟩;obtain⟨e',he'⟩:∃ e',Tm.jw e1 l i=e':=⟨_,rfl⟩;simp only [he'];refine zd.n zqf.h [1,2,3,6,8,11,14,23,24,25,37,38,39,50,51,52,53,54,55,56,57,66,67,68] (let v9:=lps (inside (inside K45 0) 0) 0;let v7:=inR .i64 (i+1);let v6:List AV:=[.i e',.str d.long,.str d.short,.str d.ccy,.str d.name,.str d.zb,.str d.ze];let v5:List AV:=[.undef,.undef,.undef,.undef,.undef,.undef,.undef,.undef,.undef,.undef,.undef,.undef];let v4:List AV:=[.str d.long,.str d.short,.str d.ccy,.str d.name,.str d.zb,.str d.ze];let v3:=l.getD (i:Int).toNat Per.nil;let v8:List AV:=[.i v3.fix,.i v3.pay,.str v3.part];let v2:List (Nat×AV):=[(1,.sl l.length 3 (perG l)),(2,.fn 49 [] [.ptr 0 0]),(3,.ptr 1 0),(6,.ptr 2 0),(8,.ptr 4 0),(11,.i v3.pay),Z 14,Z 23,Z 24,Z 25,(37,.sl l.length 3 (perG l)),(38,.i l.length),(39,.i (i+1)),Z 50,Z 51,Z 52,Z 53,Z 54,Z 55,Z 56,Z 57,Z 66,Z 67,Z 68];let v1:qe:=.back 0 v2 [.box [.bool fl],.box v4,.box v5,.dead,.box v6,.box v8];.D ((i:Int)<l.length) (.side ((0:Int)<=i/\(i:Int)<l.length) (.ite (bif decide (Per.pay v3 <Per.fix v3) then true else bif decide ((0:Int)<i) then decide (Per.pay v3 <=Tm.kR l i) else false) (.D (e'=(0:Int)) (.side v7 (.leaf (.back 0 v2 [.box [.bool fl],.box v4,.box v5,.dead,.box [.i 40,.str d.long,.str d.short,.str d.ccy,.str d.name,.str d.zb,.str d.ze],.box v8]))) (.side v7 (.leaf v1))) (.side v7 (.leaf v1)))) (.leaf (.loop v9.1 v9.2 [(1,.sl l.length 3 (perG l)),(2,.fn 49 [] [.ptr 0 0]),(3,.ptr 1 0),(6,.ptr 2 0),(8,.ptr 4 0),(11,.i (Tm.kR l i)),(14,.nils),Z 23,Z 24,Z 25,(37,.sl l.length 3 (perG l)),(38,.i l.length),(39,.i i),Z 50,Z 51,Z 52,Z 53,Z 54,Z 55,Z 56,Z 57,(66,.sl l.length 3 (perG l)),(67,.i l.length),(68,.i 0)] [.box [.bool fl],.box v4,.box v5,.dead,.box v6]))) ?_;simp only [Tree.holds,zh,inR,lo,hi,aD];refine⟨λhlt=> ?_,λhge=> ?_⟩
  ·have hlt:i<l.length:=by have:=aB hlt; omega
   have hs:=Tm.Jg (e:=e1) (l:=l) (i:=i) rfl;rw [he'] at hs;have hp:=Tm.W6 l i;refine⟨by omega,λ_=>⟨λhc=>⟨λhz=>⟨by omega,λ_=> ?_⟩,λhz=>⟨by omega,λ_=> ?_⟩⟩,λhc=>⟨by omega,λ_=> ?_⟩⟩⟩
   all_goals
    rw [aP trivial];refine⟨⟨i+1,hlt⟩,by show l.length - (i+1)<l.length - i; omega,by simp [Va,perS,za,hp],?_,by kernel_rfl,by show 1<=5; decide⟩
   ·rw [aP (by simpa using hc),aP (aB hz)] at hs;simp [HCap,bCap,dbox,Deal.cells,hs,List.replicate]
   ·rw [aP (by simpa using hc),aO (aC hz)] at hs;simp [HCap,bCap,dbox,Deal.cells,hs,List.replicate]
   ·rw [aO (by simp at hc ⊢; omega)] at hs;simp [HCap,bCap,dbox,Deal.cells,hs,List.replicate]
  ·have hge:i=l.length:=by have:=aC hge; omega
   subst hge;rw [he'] at hq;refine zd.bear 14 12 (Con.conG []) rfl (by decide) (by kernel_rfl) ?_;refine zd.weak (S:=VV l 0 0) (H:=Y9 d fl e' []) ⟨by simp [VV,xE,perS,za],by simp [Y9,bCap,dbox,Deal.cells,List.replicate,za],by kernel_rfl,by show 1<=6; decide⟩ ?_;exact zsd d l fl e' hf hl hpt hq
theorem ze7:zg prog 45 QF:=by
 refine zD (fn:=f45) (c:=f45.body.getD .skip) rfl rfl rfl (λh=>by cases h) λp hp O w0 I0 Q hl0 hq=> ?_
 obtain⟨d,l,fl⟩:=p;replace hq:=hq () trivial;obtain⟨hf,hl,hpt⟩:=hp;simp only at hf hl hpt hq;unfold Tm.jy Tm.qU at hq;refine zd.n zqf.h [1,2,3,6,8,11,14,23,24,25,37,38,39,50,51,52,53,54,55,56,57,66,67,68] (let v2:List AV:=[.str d.long,.str d.short,.str d.ccy,.str d.name,.str d.zb,.str d.ze];let v1:List AV:=[.int .u8 0,.str #[].toList,.str #[].toList,.str #[].toList,.int .u8 0,.str #[].toList,.str #[].toList,.i 0,.nils,.i 0,.nils,.nils];.D ((40:Int)<l.length) (.R [.agg v1,.i 4] [.box [.bool fl],.box v2,.box v1]) (.ex (λ(x:Deal×Int×List L8)=>eqL [.ptr 0 0,.osl 1 1 0 2] [.ptr 0 0,.osl 1 1 0 x.2.2.length]/\eqH [.box [.i 0,.str d.long,.str d.short,.str d.ccy,.str d.name,.str d.zb,.str d.ze],.arr 2 1 (zj 1 [.str d.zb,.str d.ze])] [.box [.i x.2.1,.str x.1.long,.str x.1.short,.str x.1.ccy,.str x.1.name,.str x.1.zb,.str x.1.ze],.arr x.2.2.length 1 (ratG x.2.2)]/\2=2/\x.2.2.length<1099511627776/\∀ (r:L8),r∈x.2.2->r.length<1099511627776) λn=>.A λn_1=>.leaf (.loop (lps K45 0).1 (lps K45 0).2 [(1,.sl l.length 3 (perG l)),(2,.fn 49 [] [.ptr 0 0]),(3,.ptr 1 0),(6,.ptr 2 0),(8,.ptr 4 0),Z 11,Z 14,(23,.sl l.length 3 (perG l)),(24,.i l.length),(25,.i 0),Z 37,Z 38,Z 39,Z 50,Z 51,Z 52,Z 53,Z 54,Z 55,Z 56,Z 57,Z 66,Z 67,Z 68] [.box [.bool fl],.box v2,.box v1,.box v2,.box [.i (Tm.first n.2.1 n.2.2),.str n.1.long,.str n.1.short,.str n.1.ccy,.str n.1.name,.str n.1.zb,.str n.1.ze],.arr n.2.2.length 1 (ratG n.2.2)]))) ?_;simp only [Tree.holds,zh];refine⟨λh=> ?_,λh=> ?_⟩
 ·have h40:=aB h;simp only [aP (show 40<l.length by omega)] at hq;rw [aO (show ¬ (4:Int)=0 by decide)] at hq;exact RetR.keep [0] rfl rfl (by show ∀ j,j<1->_; decide) rfl hq zero_eq (by simp [expH,expB,exp1,exp0,ren0,bCap,dbox]) rfl
 have h40:=aC h;simp only [aO (show ¬ 40<l.length by omega)] at hq;refine⟨(d,0,[d.zb,d.ze]),⟨by simp,by simp [Deal.cells,uM],trivial,by show 2<2^40; decide,kz hf⟩,⟨(),trivial⟩,λ_ _=> ?_⟩;unfold Tm.Ym Tm.perE at hq;obtain⟨e0,he0⟩:∃ e,Tm.first 0 [d.zb,d.ze]=e:=⟨_,rfl⟩;rw [he0] at hq;simp only [he0];refine zd.loop (ι:={i:Nat // i<=l.length}) (λi=>zk8 l i.1) (λi=>HCap d fl (Tm.first e0 ((l.map Per.part).take i.1))) (λi=>l.length - i.1) ⟨0,aI _⟩ 0 ?_ ?_ (by kernel_rfl)
 ·exact⟨by simp [zk8,perS,za],by simp [HCap,bCap,dbox,Deal.cells,Tm.first,List.replicate],by kernel_rfl,by show 1<=5; decide⟩
 ·rintro⟨i,hil⟩;obtain⟨e',he'⟩:∃ e',Tm.first e0 ((l.map Per.part).take i)=e':=⟨_,rfl⟩;simp only [he'];refine zd.n zqf.h [1,2,3,6,8,11,14,23,24,25,37,38,39,50,51,52,53,54,55,56,57,66,67,68] (let v3:List AV:=[.undef,.undef,.undef,.undef,.undef,.undef,.undef,.undef,.undef,.undef,.undef,.undef];let v2:=l.getD (i:Int).toNat Per.nil;let v1:List AV:=[.str d.long,.str d.short,.str d.ccy,.str d.name,.str d.zb,.str d.ze];.D ((i:Int)<l.length) (.side ((0:Int)<=i/\(i:Int)<l.length) (.ex (λ(x:Deal×Int×List L8)=>eqL [.ptr 0 0,.osl 1 1 0 1] [.ptr 0 0,.osl 1 1 0 x.2.2.length]/\eqH [.box [.i e',.str d.long,.str d.short,.str d.ccy,.str d.name,.str d.zb,.str d.ze],.arr 1 1 (zj 1 [.str v2.part])] [.box [.i x.2.1,.str x.1.long,.str x.1.short,.str x.1.ccy,.str x.1.name,.str x.1.zb,.str x.1.ze],.arr x.2.2.length 1 (ratG x.2.2)]/\2=2/\x.2.2.length<1099511627776/\∀ (r:L8),r∈x.2.2->r.length<1099511627776) λn=>.A λn_1=>.S (i+1) (.leaf (.back 0 [(1,.sl l.length 3 (perG l)),(2,.fn 49 [] [.ptr 0 0]),(3,.ptr 1 0),(6,.ptr 2 0),(8,.ptr 4 0),Z 11,Z 14,(23,.sl l.length 3 (perG l)),(24,.i l.length),(25,.i (i+1)),Z 37,Z 38,Z 39,Z 50,Z 51,Z 52,Z 53,Z 54,Z 55,Z 56,Z 57,Z 66,Z 67,Z 68] [.box [.bool fl],.box v1,.box v3,.dead,.box [.i (Tm.first n.2.1 n.2.2),.str n.1.long,.str n.1.short,.str n.1.ccy,.str n.1.name,.str n.1.zb,.str n.1.ze],.box [.i v2.fix,.i v2.pay,.str v2.part],.arr n.2.2.length 1 (ratG n.2.2)])))) (.leaf (.loop (lps (inside K45 0) 0).1 (lps (inside K45 0) 0).2 [(1,.sl l.length 3 (perG l)),(2,.fn 49 [] [.ptr 0 0]),(3,.ptr 1 0),(6,.ptr 2 0),(8,.ptr 4 0),(11,.i (-9223372036854775808:Int)),Z 14,(23,.sl l.length 3 (perG l)),(24,.i l.length),(25,.i i),(37,.sl l.length 3 (perG l)),(38,.i l.length),(39,.i 0),Z 50,Z 51,Z 52,Z 53,Z 54,Z 55,Z 56,Z 57,Z 66,Z 67,Z 68] [.box [.bool fl],.box v1,.box v3,.dead,.box [.i e',.str d.long,.str d.short,.str d.ccy,.str d.name,.str d.zb,.str d.ze]]))) ?_;simp only [Tree.holds,zh,inR,lo,hi,aD];refine⟨λhlt=> ?_,λhge=> ?_⟩
  ·have hlt:i<l.length:=by have:=aB hlt; omega
   have hpi:=hpt i hlt;have ht:=Tm.xo (e:=e0) (l:=l.map Per.part) (i:=i) (by simpa using hlt);rw [he'] at ht;have hg:(l.map Per.part).getD i []=(l.getD i Per.nil).part:=by simp [List.getD,hlt]
   rw [hg] at ht;have ht2:Tm.first e' [(l.getD i Per.nil).part]=Tm.first e0 ((l.map Per.part).take (i+1)):=by rw [ht]; rfl
   refine⟨by omega,λ_=>⟨(d,e',[(l.getD i Per.nil).part]),⟨by simp,by simp [Deal.cells,KC],trivial,by show 1<2^40; decide,λr hr=>by rw [List.mem_singleton.1 hr]; omega⟩,⟨(),trivial⟩,λ_ _=>⟨by omega,λ_=> ?_⟩⟩⟩;rw [aP trivial];exact⟨⟨i+1,hlt⟩,by show l.length - (i+1)<l.length - i; omega,by simp [zk8,perS,za],by show eqH _ (HCap d fl (Tm.first e0 ((l.map Per.part).take (i+1)))); rw [<- ht2]; simp [HCap,bCap,dbox,Deal.cells,List.replicate],by kernel_rfl,by show 1<=5; decide⟩
  ·have hge:i=l.length:=by have:=aC hge; omega
   subst hge;have hz:(l.map Per.part).take l.length=l.map Per.part:=by rw [<- List.length_map (f:=Per.part),bD]
   rw [hz] at he';rw [he'] at hq;refine zd.weak (S:=Va l 0) (H:=HCap d fl e') ⟨by simp [Va,perS,za,Tm.kR],by simp [HCap,bCap,dbox,Deal.cells,List.replicate],by kernel_rfl,by show 1<=5; decide⟩ ?_;exact zr1 d l fl e' hf hl hpt hq
end Go.Proofs.Tryz
end
section
namespace Go.Nov
open Go.Sx
namespace Tm
end Tm
end Go.Nov
end
section
namespace Go.Nov
end Go.Nov
end
section
set_option maxRecDepth 100000
open Go Go.Sx Go.Proofs Go.Nov
namespace Go.Proofs.Tryz
attribute [local simp] eqKV eqA eqA0 eqH eqB eqL eqL0
noncomputable def GSwp:=tb US tz
noncomputable def GCap:=tb ze7 tz
def zpr:Ctr:=ctrP false (λx:PeA=>[x.d.av,perS x.l]) (λx=>x.ok) (λ_ (_:Unit)=>True) (λx _=>(.tup [(Tm.jy (Tm.legS x.d) x.d x.l).conD,.i (Tm.qU (Tm.legS x.d) x.d x.l)],[]))
theorem zop:zg prog 19 zpr:=by
 refine zm' f19 λp hp O w0 Q hq=> ?_
 obtain⟨d,l,fl⟩:=p;replace hq:=hq () trivial;refine zd.n GSwp.h [] (.ex (λ(x:PeA)=>eqL [d.av,.sl l.length 3 (perG l),.fn 46 [] [.ptr 0 0]] [x.d.av,.sl x.l.length 3 (perG x.l),.fn 46 [] [.ptr 0 0]]/\eqH [.box [.str d.long,.str d.short,.str d.ccy,.str d.name,.str d.zb,.str d.ze]] [.box [.str x.d.long,.str x.d.short,.str x.d.ccy,.str x.d.name,.str x.d.zb,.str x.d.ze]]/\1=1/\PeA.ok x) λn=>let v1:=Tm.jy (zR n.d n.fl) n.d n.l;.A λn_1=>.R [(Con.conD v1),.i (Tm.qU (zR n.d n.fl) n.d n.l)] [.box [.str n.d.long,.str n.d.short,.str n.d.ccy,.str n.d.name,.str n.d.zb,.str n.d.ze],.box (Con.zc v1)]) ?_;simp only [Tree.holds,zh];refine⟨⟨d,l,fl⟩,⟨⟨⟨rfl,rfl,rfl,rfl,rfl,rfl,trivial⟩,⟨rfl,rfl,za _ _ _⟩,rfl,trivial⟩,by simp,trivial,hp⟩,⟨(),trivial⟩,λ_ _=> ?_⟩;exact RetR.le0 hq (λh=>by cases h) (LeA.refl _)
def capC:Ctr:=ctrP false (λx:PeA=>[x.d.av,perS x.l,.bool x.fl]) (λx=>x.ok) (λ_ (_:Unit)=>True) (λx _=>(.tup [(Tm.jy (Tm.legC x.d x.fl) x.d x.l).conD,.i (Tm.qU (Tm.legC x.d x.fl) x.d x.l)],[]))
theorem zqe:zg prog 20 capC:=by
 refine zm' f20 λp hp O w0 Q hq=> ?_
 obtain⟨d,l,fl⟩:=p;replace hq:=hq () trivial;refine zd.n GCap.h [] (.ex (λ(x:PeA)=>eqL [d.av,.sl l.length 3 (perG l),.fn 49 [] [.ptr 0 0]] [x.d.av,.sl x.l.length 3 (perG x.l),.fn 49 [] [.ptr 0 0]]/\eqH [.box [.bool fl]] [.box [.bool x.fl]]/\1=1/\PeA.ok x) λn=>let v1:=Tm.jy (qz n.d n.fl) n.d n.l;.A λn_1=>.R [(Con.conD v1),.i (Tm.qU (qz n.d n.fl) n.d n.l)] [.box [.str d.long,.str d.short,.str d.ccy,.str d.name,.str d.zb,.str d.ze],.box [.bool n.fl],.box (Con.zc v1)]) ?_;simp only [Tree.holds,zh];refine⟨⟨d,l,fl⟩,⟨⟨⟨rfl,rfl,rfl,rfl,rfl,rfl,trivial⟩,⟨rfl,rfl,za _ _ _⟩,rfl,trivial⟩,by simp,trivial,hp⟩,⟨(),trivial⟩,λ_ _=> ?_⟩;exact RetR.le0 hq (λh=>by cases h) (LeA.refl _)
end Go.Proofs.Tryz
end
