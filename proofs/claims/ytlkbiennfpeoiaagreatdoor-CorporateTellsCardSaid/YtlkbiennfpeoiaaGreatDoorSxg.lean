/- Part 7 of the proof. -/
import Derived.Test.YtlkbiennfpeoiaaGreatDoorSxf
set_option linter.unusedVariables false
set_option linter.unusedSimpArgs false
set_option linter.unusedSectionVars false
section
set_option maxRecDepth 100000
open Go Go.Sx Go.Proofs Go.Nov
namespace Go.Proofs.Tryz
attribute [local simp] eqKV eqA eqA0 eqH eqB eqL eqL0
def KW:Ctr:=ctrP true (fun x:Ex=>[x.exA]) (fun x=>x.size<2^62) (fun x r=>r=x.size) (fun _ (r:Nat)=>(.int .i64 (r:Int),[]))
def zh1:Ctr:=ctrP true (fun p:Ex×Nat=>[p.1.exA,.int .i64 (p.2:Int)]) (fun p=>p.1.size<2^62∧p.2<2^40) (fun p r=>r=min p.1.depth (p.2+1)) (fun _ (r:Nat)=>(.int .i64 (r:Int),[]))
def W6:Ctr:=ctrP true (fun x:Ex=>[x.exA]) (fun x=>x.size<2^62) (fun x r=>r=x.depth) (fun _ (r:Nat)=>(.int .i64 (r:Int),[]))
def ye:Ctr:=ctrP true (fun x:Ex=>[x.exA]) (fun x=>x.size<2^40∧x.zq<2^40) (fun x r=>r=x.errX) (fun _ (r:Int)=>(.int .i64 r,[]))
def Qg(z:Int):Ctr:=ctrP true (fun x:Ex=>[x.exA]) (fun x=>x.size<2^40∧x.zq<2^40) (fun x r=>r=(decide (x.errX=0)&&decide (x.qn=z))) (fun _ (r:Bool)=>(.bool r,[]))
theorem eqX(x:Ex):eqL [.agg [.int .u8 x.kind,.str x.rat,.str x.name,.int .i64 x.date,.sl x.sub.length 5 (Ex.exG x.sub)]] [x.exA]:=wH rfl rfl rfl rfl rfl (za _ _ _)
theorem WS{x:Ex}{n:Nat}(hn:decide (500<(x.size:Int))=false→(60<n↔60<x.depth)) :
  ((bif decide (500<(x.size:Int)) then true else decide (60<(n:Int)))=true→x.errX=4)∧((bif decide (500<(x.size:Int)) then true else decide (60<(n:Int)))=false→x.errX=if x.qn=0 then 8 else 0):=by
 by_cases h:500<x.size
 ·have e:decide (500<(x.size:Int))=true:=decide_eq_true (by omega)
  rw [e]
  exact⟨fun _=>if_pos (.inl h),fun h=>by cases h⟩
 ·have e:decide (500<(x.size:Int))=false:=decide_eq_false (by omega)
  have h2:=hn e
  rw [e]
  simp only [cond_false]
  by_cases h3:60<n
  ·exact⟨fun _=>if_pos (.inr (h2.1 h3)),fun h=>by have:=of_decide_eq_false h; omega⟩
  ·refine⟨fun h=>by have:=of_decide_eq_true h; omega,fun _=> ?_⟩
   unfold Ex.errX
   rw [if_neg]
   rintro(h4 | h4)
   ·exact h h4
   ·exact h3 (h2.2 h4)
noncomputable def GCk:Nat→Option Ctr:=fun f=>if f=78 then some (KW) else if f=79 then some (zh1) else if f=80 then some (Kg) else none
theorem zlf:∀ g c,GCk g=some c→zc Tryz.prog g c:=okIf zb1 (okIf zha (okIf UY (zp)))
theorem Vw:zc Tryz.prog 37 ye:=by
 refine zf (fn:=Tryz.f37) (c:=Tryz.f37.body.getD .skip) rfl rfl rfl fun x hx O w0 Q hq=> ?_
 replace hq:=hq _ rfl
 obtain⟨h1,h2⟩:=hx
 refine zb.run hmix zlf [] 400 (T:=.ex (fun(x_1:Ex)=>eqL [AV.agg [AV.int .u8 x.kind,AV.str x.rat,AV.str x.name,AV.int .i64 x.date,AV.sl x.sub.length 5 (Ex.exG x.sub)]] [AV.agg [AV.int .u8 x_1.kind,AV.str x_1.rat,AV.str x_1.name,AV.int .i64 x_1.date,AV.sl x_1.sub.length 5 (Ex.exG x_1.sub)]]∧Ex.size x_1<4611686018427387904) fun n=>.all (fun(r:Nat)=>r=Ex.size n) fun n=>.ex (fun(x_1:Ex×Nat)=>decide ((500:Int)<n)=false→eqL [AV.agg [AV.int .u8 x.kind,AV.str x.rat,AV.str x.name,AV.int .i64 x.date,AV.sl x.sub.length 5 (Ex.exG x.sub)],AV.int .i64 60] [AV.agg [AV.int .u8 x_1.1.kind,AV.str x_1.1.rat,AV.str x_1.1.name,AV.int .i64 x_1.1.date,AV.sl x_1.1.sub.length 5 (Ex.exG x_1.1.sub)],AV.int .i64 x_1.2]∧Ex.size x_1.1<4611686018427387904∧x_1.2<1099511627776) fun n_1=>.all (fun(x:Nat)=>decide ((500:Int)<n)=false→x=min n_1.1.depth (n_1.2+1)) fun n_2=>.ite (bif decide ((500:Int)<n) then true else decide ((60:Int)<n_2)) (.leaf (.ret [.int .i64 4] [.box [.int .u8 x.kind,.str x.rat,.str x.name,.int .i64 x.date,.sl x.sub.length 5 (Ex.exG x.sub)]])) (.ex (fun(x_1:Ex)=>eqL [AV.agg [AV.int .u8 x.kind,AV.str x.rat,AV.str x.name,AV.int .i64 x.date,AV.sl x.sub.length 5 (Ex.exG x.sub)]] [AV.agg [AV.int .u8 x_1.kind,AV.str x_1.rat,AV.str x_1.name,AV.int .i64 x_1.date,AV.sl x_1.sub.length 5 (Ex.exG x_1.sub)]]∧Ex.size x_1<1152921504606846976∧Ex.zq x_1<1099511627776) fun n=>.all (fun(r:Int)=>r=Ex.qn n) fun n=>.ite (decide (n=0)) (.leaf (.ret [.int .i64 8] [.box [.int .u8 x.kind,.str x.rat,.str x.name,.int .i64 x.date,.sl x.sub.length 5 (Ex.exG x.sub)]])) (.leaf (.ret [.int .i64 0] [.box [.int .u8 x.kind,.str x.rat,.str x.name,.int .i64 x.date,.sl x.sub.length 5 (Ex.exG x.sub)]])))) (by kernel_rfl) ?_
 simp only [Tree.holds,zd,inR,lo,hi,Int.toNat_natCast]
 refine⟨x,⟨wH rfl rfl rfl rfl rfl (za _ _ _),by omega⟩,⟨_,rfl⟩,?_⟩
 rintro _ rfl
 refine⟨(x,60),fun _=>⟨⟨⟨⟨rfl,rfl⟩,rfl,rfl,⟨rfl,rfl⟩,⟨rfl,rfl,za _ _ _⟩,trivial⟩,⟨rfl,rfl⟩,trivial⟩,by show x.size<_; omega,by show 60<1099511627776; omega⟩,⟨_,fun _=>rfl⟩,?_⟩
 intro c hc
 have em:=WS (x:=x) (n:=c) fun h=>by have:=hc h; simp only at this; omega
 refine⟨fun h=> ?_,fun h=>⟨x,⟨eqX x,by omega,by omega⟩,⟨_,rfl⟩,?_⟩⟩
 ·rw [em.1 h] at hq
  exact RetR.scal hq rfl (by simp [resV])
 ·have e:=em.2 h
  rintro _ rfl
  refine⟨fun g=> ?_,fun g=> ?_⟩
  ·rw [e,if_pos (of_decide_eq_true g)] at hq
   exact RetR.scal hq rfl (by simp [resV])
  ·rw [e,if_neg (of_decide_eq_false g)] at hq
   exact RetR.scal hq rfl (by simp [resV])
noncomputable def GCr:Nat→Option Ctr:=fun f=>if f=77 then some (KW) else if f=84 then some (W6) else if f=85 then some (Jl) else none
theorem zld:∀ g c,GCr g=some c→zc Tryz.prog g c:=okIf J3 (okIf WC (okIf X6 (zp)))
theorem J9:zc Tryz.prog 39 ye:=by
 refine zf (fn:=Tryz.f39) (c:=Tryz.f39.body.getD .skip) rfl rfl rfl fun x hx O w0 Q hq=> ?_
 replace hq:=hq _ rfl
 obtain⟨h1,h2⟩:=hx
 refine zb.run hmix zld [] 400 (T:=.ex (fun(x_1:Ex)=>eqL [AV.agg [AV.int .u8 x.kind,AV.str x.rat,AV.str x.name,AV.int .i64 x.date,AV.sl x.sub.length 5 (Ex.exG x.sub)]] [AV.agg [AV.int .u8 x_1.kind,AV.str x_1.rat,AV.str x_1.name,AV.int .i64 x_1.date,AV.sl x_1.sub.length 5 (Ex.exG x_1.sub)]]∧Ex.size x_1<4611686018427387904) fun n=>.all (fun(r:Nat)=>r=Ex.size n) fun n=>.ex (fun(x_1:Ex)=>decide ((500:Int)<n)=false→eqL [AV.agg [AV.int .u8 x.kind,AV.str x.rat,AV.str x.name,AV.int .i64 x.date,AV.sl x.sub.length 5 (Ex.exG x.sub)]] [AV.agg [AV.int .u8 x_1.kind,AV.str x_1.rat,AV.str x_1.name,AV.int .i64 x_1.date,AV.sl x_1.sub.length 5 (Ex.exG x_1.sub)]]∧Ex.size x_1<4611686018427387904) fun n_1=>.all (fun(x:Nat)=>decide ((500:Int)<n)=false→x=Ex.depth n_1) fun n_2=>.ite (bif decide ((500:Int)<n) then true else decide ((60:Int)<n_2)) (.leaf (.ret [.int .i64 4] [.box [.int .u8 x.kind,.str x.rat,.str x.name,.int .i64 x.date,.sl x.sub.length 5 (Ex.exG x.sub)]])) (.ex (fun(x_1:Ex)=>eqL [AV.agg [AV.int .u8 x.kind,AV.str x.rat,AV.str x.name,AV.int .i64 x.date,AV.sl x.sub.length 5 (Ex.exG x.sub)]] [AV.agg [AV.int .u8 x_1.kind,AV.str x_1.rat,AV.str x_1.name,AV.int .i64 x_1.date,AV.sl x_1.sub.length 5 (Ex.exG x_1.sub)]]∧Ex.size x_1<1099511627776∧Ex.zq x_1<1099511627776) fun n=>.all (fun(r:Int)=>r=Ex.qn n) fun n=>.ite (decide (n=0)) (.leaf (.ret [.int .i64 8] [.box [.int .u8 x.kind,.str x.rat,.str x.name,.int .i64 x.date,.sl x.sub.length 5 (Ex.exG x.sub)]])) (.leaf (.ret [.int .i64 0] [.box [.int .u8 x.kind,.str x.rat,.str x.name,.int .i64 x.date,.sl x.sub.length 5 (Ex.exG x.sub)]])))) (by kernel_rfl) ?_
 simp only [Tree.holds,zd,inR,lo,hi,Int.toNat_natCast]
 refine⟨x,⟨wH rfl rfl rfl rfl rfl (za _ _ _),by omega⟩,⟨_,rfl⟩,?_⟩
 rintro _ rfl
 refine⟨x,fun _=>⟨eqX x,by omega⟩,⟨_,fun _=>rfl⟩,?_⟩
 intro c hc
 have em:=WS (x:=x) (n:=c) fun h=>by have:=hc h; omega
 refine⟨fun h=> ?_,fun h=>⟨x,⟨eqX x,by omega,by omega⟩,⟨_,rfl⟩,?_⟩⟩
 ·rw [em.1 h] at hq
  exact RetR.scal hq rfl (by simp [resV])
 ·have e:=em.2 h
  rintro _ rfl
  refine⟨fun g=> ?_,fun g=> ?_⟩
  ·rw [e,if_pos (of_decide_eq_true g)] at hq
   exact RetR.scal hq rfl (by simp [resV])
  ·rw [e,if_neg (of_decide_eq_false g)] at hq
   exact RetR.scal hq rfl (by simp [resV])
noncomputable def GNu:Nat→Option Ctr:=fun f=>if f=37 then some (ye) else if f=80 then some (Kg) else none
theorem zeb:∀ g c,GNu g=some c→zc Tryz.prog g c:=okIf Vw (okIf UY (zp))
theorem zm1:zc Tryz.prog 114 (Qg 1):=by
 refine zf (fn:=Tryz.f114) (c:=Tryz.f114.body.getD .skip) rfl rfl rfl fun x hx O w0 Q hq=> ?_
 replace hq:=hq _ rfl
 obtain⟨h1,h2⟩:=hx
 refine zb.run hmix zeb [] 400 (T:=.ex (fun(x_1:Ex)=>eqL [AV.agg [AV.int .u8 x.kind,AV.str x.rat,AV.str x.name,AV.int .i64 x.date,AV.sl x.sub.length 5 (Ex.exG x.sub)]] [AV.agg [AV.int .u8 x_1.kind,AV.str x_1.rat,AV.str x_1.name,AV.int .i64 x_1.date,AV.sl x_1.sub.length 5 (Ex.exG x_1.sub)]]∧Ex.size x_1<1099511627776∧Ex.zq x_1<1099511627776) fun n=>.all (fun(r:Int)=>r=Ex.errX n) fun n=>.ex (fun(x_1:Ex)=>decide (n=0)=true→eqL [AV.agg [AV.int .u8 x.kind,AV.str x.rat,AV.str x.name,AV.int .i64 x.date,AV.sl x.sub.length 5 (Ex.exG x.sub)]] [AV.agg [AV.int .u8 x_1.kind,AV.str x_1.rat,AV.str x_1.name,AV.int .i64 x_1.date,AV.sl x_1.sub.length 5 (Ex.exG x_1.sub)]]∧Ex.size x_1<1152921504606846976∧Ex.zq x_1<1099511627776) fun n_1=>.all (fun(x:Int)=>decide (n=0)=true→x=Ex.qn n_1) fun n_2=>.leaf (.ret [.bool (bif decide (n=0) then decide (n_2=1) else false)] [.box [.int .u8 x.kind,.str x.rat,.str x.name,.int .i64 x.date,.sl x.sub.length 5 (Ex.exG x.sub)]])) (by kernel_rfl) ?_
 simp only [Tree.holds,zd,inR,lo,hi,Int.toNat_natCast]
 refine⟨x,⟨eqX x,by omega,by omega⟩,⟨_,rfl⟩,?_⟩
 rintro _ rfl
 refine⟨x,fun _=>⟨eqX x,by omega,by omega⟩,⟨_,fun _=>rfl⟩,?_⟩
 intro c hc
 refine RetR.scal hq rfl ?_
 cases h:decide (x.errX=0) with
 | false=>rfl
 | true=>rw [hc h]; rfl
theorem zg2:zc Tryz.prog 115 (Qg 2):=by
 refine zf (fn:=Tryz.f115) (c:=Tryz.f115.body.getD .skip) rfl rfl rfl fun x hx O w0 Q hq=> ?_
 replace hq:=hq _ rfl
 obtain⟨h1,h2⟩:=hx
 refine zb.run hmix zeb [] 400 (T:=.ex (fun(x_1:Ex)=>eqL [AV.agg [AV.int .u8 x.kind,AV.str x.rat,AV.str x.name,AV.int .i64 x.date,AV.sl x.sub.length 5 (Ex.exG x.sub)]] [AV.agg [AV.int .u8 x_1.kind,AV.str x_1.rat,AV.str x_1.name,AV.int .i64 x_1.date,AV.sl x_1.sub.length 5 (Ex.exG x_1.sub)]]∧Ex.size x_1<1099511627776∧Ex.zq x_1<1099511627776) fun n=>.all (fun(r:Int)=>r=Ex.errX n) fun n=>.ex (fun(x_1:Ex)=>decide (n=0)=true→eqL [AV.agg [AV.int .u8 x.kind,AV.str x.rat,AV.str x.name,AV.int .i64 x.date,AV.sl x.sub.length 5 (Ex.exG x.sub)]] [AV.agg [AV.int .u8 x_1.kind,AV.str x_1.rat,AV.str x_1.name,AV.int .i64 x_1.date,AV.sl x_1.sub.length 5 (Ex.exG x_1.sub)]]∧Ex.size x_1<1152921504606846976∧Ex.zq x_1<1099511627776) fun n_1=>.all (fun(x:Int)=>decide (n=0)=true→x=Ex.qn n_1) fun n_2=>.leaf (.ret [.bool (bif decide (n=0) then decide (n_2=2) else false)] [.box [.int .u8 x.kind,.str x.rat,.str x.name,.int .i64 x.date,.sl x.sub.length 5 (Ex.exG x.sub)]])) (by kernel_rfl) ?_
 simp only [Tree.holds,zd,inR,lo,hi,Int.toNat_natCast]
 refine⟨x,⟨eqX x,by omega,by omega⟩,⟨_,rfl⟩,?_⟩
 rintro _ rfl
 refine⟨x,fun _=>⟨eqX x,by omega,by omega⟩,⟨_,fun _=>rfl⟩,?_⟩
 intro c hc
 refine RetR.scal hq rfl ?_
 cases h:decide (x.errX=0) with
 | false=>rfl
 | true=>rw [hc h]; rfl
noncomputable def GNr:Nat→Option Ctr:=fun f=>if f=39 then some (ye) else if f=85 then some (Jl) else none
theorem zdg:∀ g c,GNr g=some c→zc Tryz.prog g c:=okIf J9 (okIf X6 (zp))
theorem zke:zc Tryz.prog 127 (Qg 1):=by
 refine zf (fn:=Tryz.f127) (c:=Tryz.f127.body.getD .skip) rfl rfl rfl fun x hx O w0 Q hq=> ?_
 replace hq:=hq _ rfl
 obtain⟨h1,h2⟩:=hx
 refine zb.run hmix zdg [] 400 (T:=.ex (fun(x_1:Ex)=>eqL [AV.agg [AV.int .u8 x.kind,AV.str x.rat,AV.str x.name,AV.int .i64 x.date,AV.sl x.sub.length 5 (Ex.exG x.sub)]] [AV.agg [AV.int .u8 x_1.kind,AV.str x_1.rat,AV.str x_1.name,AV.int .i64 x_1.date,AV.sl x_1.sub.length 5 (Ex.exG x_1.sub)]]∧Ex.size x_1<1099511627776∧Ex.zq x_1<1099511627776) fun n=>.all (fun(r:Int)=>r=Ex.errX n) fun n=>.ex (fun(x_1:Ex)=>decide (n=0)=true→eqL [AV.agg [AV.int .u8 x.kind,AV.str x.rat,AV.str x.name,AV.int .i64 x.date,AV.sl x.sub.length 5 (Ex.exG x.sub)]] [AV.agg [AV.int .u8 x_1.kind,AV.str x_1.rat,AV.str x_1.name,AV.int .i64 x_1.date,AV.sl x_1.sub.length 5 (Ex.exG x_1.sub)]]∧Ex.size x_1<1099511627776∧Ex.zq x_1<1099511627776) fun n_1=>.all (fun(x:Int)=>decide (n=0)=true→x=Ex.qn n_1) fun n_2=>.leaf (.ret [.bool (bif decide (n=0) then decide (n_2=1) else false)] [.box [.int .u8 x.kind,.str x.rat,.str x.name,.int .i64 x.date,.sl x.sub.length 5 (Ex.exG x.sub)]])) (by kernel_rfl) ?_
 simp only [Tree.holds,zd,inR,lo,hi,Int.toNat_natCast]
 refine⟨x,⟨eqX x,by omega,by omega⟩,⟨_,rfl⟩,?_⟩
 rintro _ rfl
 refine⟨x,fun _=>⟨eqX x,by omega,by omega⟩,⟨_,fun _=>rfl⟩,?_⟩
 intro c hc
 refine RetR.scal hq rfl ?_
 cases h:decide (x.errX=0) with
 | false=>rfl
 | true=>rw [hc h]; rfl
theorem zbq:zc Tryz.prog 128 (Qg 2):=by
 refine zf (fn:=Tryz.f128) (c:=Tryz.f128.body.getD .skip) rfl rfl rfl fun x hx O w0 Q hq=> ?_
 replace hq:=hq _ rfl
 obtain⟨h1,h2⟩:=hx
 refine zb.run hmix zdg [] 400 (T:=.ex (fun(x_1:Ex)=>eqL [AV.agg [AV.int .u8 x.kind,AV.str x.rat,AV.str x.name,AV.int .i64 x.date,AV.sl x.sub.length 5 (Ex.exG x.sub)]] [AV.agg [AV.int .u8 x_1.kind,AV.str x_1.rat,AV.str x_1.name,AV.int .i64 x_1.date,AV.sl x_1.sub.length 5 (Ex.exG x_1.sub)]]∧Ex.size x_1<1099511627776∧Ex.zq x_1<1099511627776) fun n=>.all (fun(r:Int)=>r=Ex.errX n) fun n=>.ex (fun(x_1:Ex)=>decide (n=0)=true→eqL [AV.agg [AV.int .u8 x.kind,AV.str x.rat,AV.str x.name,AV.int .i64 x.date,AV.sl x.sub.length 5 (Ex.exG x.sub)]] [AV.agg [AV.int .u8 x_1.kind,AV.str x_1.rat,AV.str x_1.name,AV.int .i64 x_1.date,AV.sl x_1.sub.length 5 (Ex.exG x_1.sub)]]∧Ex.size x_1<1099511627776∧Ex.zq x_1<1099511627776) fun n_1=>.all (fun(x:Int)=>decide (n=0)=true→x=Ex.qn n_1) fun n_2=>.leaf (.ret [.bool (bif decide (n=0) then decide (n_2=2) else false)] [.box [.int .u8 x.kind,.str x.rat,.str x.name,.int .i64 x.date,.sl x.sub.length 5 (Ex.exG x.sub)]])) (by kernel_rfl) ?_
 simp only [Tree.holds,zd,inR,lo,hi,Int.toNat_natCast]
 refine⟨x,⟨eqX x,by omega,by omega⟩,⟨_,rfl⟩,?_⟩
 rintro _ rfl
 refine⟨x,fun _=>⟨eqX x,by omega,by omega⟩,⟨_,fun _=>rfl⟩,?_⟩
 intro c hc
 refine RetR.scal hq rfl ?_
 cases h:decide (x.errX=0) with
 | false=>rfl
 | true=>rw [hc h]; rfl
noncomputable def K14:List Go.Sx.Item:=[.code (Tryz.f14.body.getD .skip)]
def zgn(n:Nat):Ctr:=ctrP true (fun p:Ex×Ex=>[p.1.exA,p.2.exA]) (fun p=>p.1.size<n∧p.1.size<2^60) (fun p r=>(r=true↔p.1=p.2)) (fun _ (r:Bool)=>(.bool r,[]))
theorem zjl(p:Prop):∃ b:Bool,b=true↔p:=by
 by_cases h:p
 ·exact⟨true,by simp [h]⟩
 ·exact⟨false,by simp [h]⟩
def JF:Ctr:=ctrP true (fun p:Ex×Ex=>[p.1.exA,p.2.exA]) (fun p=>p.1.size<2^60) (fun p r=>(r=true↔p.1=p.2)) (fun _ (r:Bool)=>(.bool r,[]))
def SSm(i:Nat):KV:=[(2,.ptr 0 0),(3,.ptr 1 0),(5,.int .i64 (i:Int))]
def HSm(x y:Ex):Heap:=[.box [.int .u8 x.kind,.str x.rat,.str x.name,.int .i64 x.date,Ex.exS x.sub],.box [.int .u8 y.kind,.str y.rat,.str y.name,.int .i64 y.date,Ex.exS y.sub]]
theorem Xn(n:Nat)(ih:zc Tryz.prog 14 (zgn n)):zc Tryz.prog 14 (zgn (n+1)):=by
 refine zf (fn:=Tryz.f14) (c:=Tryz.f14.body.getD .skip) rfl rfl rfl fun p hp O w0 Q hq=> ?_
 obtain⟨x,y⟩:=p
 obtain⟨h1,h2⟩:=hp
 simp only at h1 h2 hq
 rw [Ex.size_eq] at h1 h2
 have hlen:=Ex.zy x.sub
 refine zb.run hmix (qj ih) [2,3,5] 400 (T:=.ite (bif bif bif bif !decide (Ex.kind x=Ex.kind y) then true else !decide (Ex.rat x=Ex.rat y) then true else !decide (Ex.name x=Ex.name y) then true else !decide (Ex.date x=Ex.date y) then true else !decide ((↑x.sub.length:Int)=y.sub.length)) (.leaf (.ret [.bool false] [.box [.int .u8 x.kind,.str x.rat,.str x.name,.int .i64 x.date,.sl x.sub.length 5 (Ex.exG x.sub)],.box [.int .u8 y.kind,.str y.rat,.str y.name,.int .i64 y.date,.sl y.sub.length 5 (Ex.exG y.sub)]])) (.leaf (.loop (Prod.fst (lps K14 0)) (Prod.snd (lps K14 0)) [(2,.ptr 0 0),(3,.ptr 1 0),(5,.int .i64 0)] [.box [.int .u8 x.kind,.str x.rat,.str x.name,.int .i64 x.date,.sl x.sub.length 5 (Ex.exG x.sub)],.box [.int .u8 y.kind,.str y.rat,.str y.name,.int .i64 y.date,.sl y.sub.length 5 (Ex.exG y.sub)]]))) (by kernel_rfl) ?_
 simp only [Tree.holds,zd,inR,lo,hi,Int.toNat_natCast]
 refine⟨fun h=> ?_,fun h=> ?_⟩
 ·refine RetR.scal (hq false ⟨fun h=>(by cases h),fun he=> ?_⟩) rfl (by simp [resV])
  subst he
  simp at h
 ·simp at h
  obtain⟨⟨⟨⟨g1,g2⟩,g3⟩,g4⟩,g5⟩:=h
  have g5:x.sub.length=y.sub.length:=by omega
  refine zb.loop (ι:={i:Nat // i≤x.sub.length∧∀ j,j<i→x.sub.getD j Ex.nil=y.sub.getD j Ex.nil}) (fun i=>SSm i.1) (fun _=>HSm x y) (fun i=>x.sub.length - i.1) ⟨0,Nat.zero_le _,fun j hj=>by omega⟩ 0 ?_ ?_ (by kernel_rfl)
  ·exact⟨by simp [SSm],by simp [HSm,Ex.exS,za],by kernel_rfl,Nat.zero_le _⟩
  ·rintro⟨i,hil,hib⟩
   refine zb.run hmix (qj ih) [2,3,5] 400 (T:=.ite (decide ((↑i:Int)<x.sub.length)) (.side ((0:Int)≤i∧(↑i:Int)<x.sub.length) (.side ((0:Int)≤i∧(↑i:Int)<y.sub.length) (.ex (fun(x_1:Ex×Ex)=>eqL [AV.agg [AV.int .u8 (Ex.kind (List.getD x.sub (↑i:Int).toNat Ex.nil)),AV.str (Ex.rat (List.getD x.sub (↑i:Int).toNat Ex.nil)),AV.str (Ex.name (List.getD x.sub (↑i:Int).toNat Ex.nil)),AV.int .i64 (Ex.date (List.getD x.sub (↑i:Int).toNat Ex.nil)),AV.sl (List.length (Ex.sub (List.getD x.sub (↑i:Int).toNat Ex.nil))) 5 (Ex.deep (List.getD x.sub (↑i:Int).toNat Ex.nil))],AV.agg [AV.int .u8 (Ex.kind (List.getD y.sub (↑i:Int).toNat Ex.nil)),AV.str (Ex.rat (List.getD y.sub (↑i:Int).toNat Ex.nil)),AV.str (Ex.name (List.getD y.sub (↑i:Int).toNat Ex.nil)),AV.int .i64 (Ex.date (List.getD y.sub (↑i:Int).toNat Ex.nil)),AV.sl (List.length (Ex.sub (List.getD y.sub (↑i:Int).toNat Ex.nil))) 5 (Ex.deep (List.getD y.sub (↑i:Int).toNat Ex.nil))]] [AV.agg [AV.int .u8 x_1.1.kind,AV.str x_1.1.rat,AV.str x_1.1.name,AV.int .i64 x_1.1.date,AV.sl x_1.1.sub.length 5 (Ex.exG x_1.1.sub)],AV.agg [AV.int .u8 x_1.2.kind,AV.str x_1.2.rat,AV.str x_1.2.name,AV.int .i64 x_1.2.date,AV.sl x_1.2.sub.length 5 (Ex.exG x_1.2.sub)]]∧Ex.size x_1.1<n∧Ex.size x_1.1<1152921504606846976) fun n=>.all (fun(r:Bool)=>r=true↔n.1=n.2) fun n=>.ite (!n) (.leaf (.ret [.bool false] [.box [.int .u8 x.kind,.str x.rat,.str x.name,.int .i64 x.date,.sl x.sub.length 5 (Ex.exG x.sub)],.box [.int .u8 y.kind,.str y.rat,.str y.name,.int .i64 y.date,.sl y.sub.length 5 (Ex.exG y.sub)]])) (.side (inR .i64 ((↑i:Int)+(1:Int))) (.leaf (.back 0 [(2,.ptr 0 0),(3,.ptr 1 0),(5,.int .i64 ((↑i:Int)+(1:Int)))] [.box [.int .u8 x.kind,.str x.rat,.str x.name,.int .i64 x.date,.sl x.sub.length 5 (Ex.exG x.sub)],.box [.int .u8 y.kind,.str y.rat,.str y.name,.int .i64 y.date,.sl y.sub.length 5 (Ex.exG y.sub)]])))))) (.leaf (.ret [.bool true] [.box [.int .u8 x.kind,.str x.rat,.str x.name,.int .i64 x.date,.sl x.sub.length 5 (Ex.exG x.sub)],.box [.int .u8 y.kind,.str y.rat,.str y.name,.int .i64 y.date,.sl y.sub.length 5 (Ex.exG y.sub)]]))) (by kernel_rfl) ?_
   simp only [Tree.holds,zd,inR,lo,hi,Int.toNat_natCast]
   refine⟨fun hlt=> ?_,fun hge=> ?_⟩
   ·have hlt:i<x.sub.length:=by have:=of_decide_eq_true hlt; omega
    have hg:=Ex.qg hlt
    refine⟨by omega,fun _=>⟨by omega,fun _=>⟨(x.sub.getD i Ex.nil,y.sub.getD i Ex.nil),⟨⟨⟨⟨rfl,rfl⟩,rfl,rfl,⟨rfl,rfl⟩,⟨rfl,rfl,Ex.zA _⟩,trivial⟩,⟨⟨rfl,rfl⟩,rfl,rfl,⟨rfl,rfl⟩,⟨rfl,rfl,Ex.zA _⟩,trivial⟩,trivial⟩,by show(x.sub.getD i Ex.nil).size<n; omega,by show(x.sub.getD i Ex.nil).size<_; omega⟩,zjl _,?_⟩⟩⟩
    intro e he
    simp only at he
    refine⟨fun g=> ?_,fun g=>⟨by omega,fun _=> ?_⟩⟩
    ·refine RetR.scal (hq false ⟨fun h=>(by cases h),fun h3=> ?_⟩) rfl (by simp [resV])
     have:e=true:=he.2 (by rw [h3])
     rw [this] at g; cases g
    ·rw [if_pos trivial]
     have g:e=true:=by simpa using g
     refine⟨⟨i+1,hlt,fun j hj=> ?_⟩,by show x.sub.length - (i+1)<x.sub.length - i; omega,by simp [SSm],by simp [HSm,Ex.exS,za],by kernel_rfl,Nat.zero_le _⟩
     rcases Nat.lt_or_ge j i with h1 | h1
     ·exact hib j h1
     ·have:j=i:=by omega
      rw [this]; exact he.1 g
   ·have hge:i=x.sub.length:=by have:=of_decide_eq_false hge; omega
    subst hge
    exact RetR.scal (hq true ⟨fun _=>Ex.Q2.2 ⟨g1,g2,g3,g4,Ex.ZI g5 hib⟩,fun _=>rfl⟩) rfl (by simp [resV])
theorem WI:zc Tryz.prog 14 JF:=zR (fun p=>p.1.size) Xn
end Go.Proofs.Tryz
end
section
namespace Go.Sx
variable [Stat]
section
variable {own own' O:Nat→Prop} {w w':World} {σ σ':List SE} {P:Program} {fn:Func} {Xp:List PanicEntry→Prop}
def upA0(d k:Nat):AV→AV→Prop
 | .nils,.osl i _ off n=>(d≤i∧i<d+k)∧off=0∧n=0
 | a,b=>a=b
def upL0(d k:Nat):List AV→List AV→Prop
 | [],[]=>True
 | a::l,b::m=>upA0 d k a b∧upL0 d k l m
 | _,_=>False
def upA1(d k:Nat):AV→AV→Prop
 | .agg l,.agg m=>upL0 d k l m
 | a,b=>upA0 d k a b
def upL1(d k:Nat):List AV→List AV→Prop
 | [],[]=>True
 | a::l,b::m=>upA1 d k a b∧upL1 d k l m
 | _,_=>False
def upA2(d k:Nat):AV→AV→Prop
 | .tup l,.tup m=>upL1 d k l m
 | a,b=>upA1 d k a b
def jW(k:Nat):List SE:=List.replicate k ⟨none,0⟩
theorem Qa.mono{g:Nat}{vals:Array Value}{R R':Value→World→Prop}(hR:∀ v w',R v w'→R' v w')(h:Qa P g vals w R):Qa P g vals w R':=by
 rcases h with ⟨h1,h2⟩ | ⟨v,w',h1,h2⟩
 ·exact .inl ⟨h1,h2.mono fun e w' ⟨v,he,hv⟩=>⟨v,he,hR v w' hv⟩⟩
 ·exact .inr ⟨v,w',h1,hR v w' h2⟩
theorem je{k i:Nat}{e:SE}(h:(σ++jW k)[i]?=some e):(i<σ.length∧σ[i]?=some e)∨(σ.length≤i∧e=⟨none,0⟩):=by
 rw [List.getElem?_append] at h
 split at h
 ·rename_i hi; exact .inl ⟨hi,h⟩
 ·rename_i hi
  right
  refine⟨by omega,?_⟩
  simp only [jW,List.getElem?_replicate] at h
  split at h
  ·cases h; rfl
  ·cases h
theorem JJ{k b:Nat}(h:Mine (σ++jW k) b):Mine σ b:=by
 obtain⟨e,he,ad,h1,h2⟩:=h
 rcases List.mem_append.1 he with he | he
 ·exact⟨e,he,ad,h1,h2⟩
 ·have:=List.eq_of_mem_replicate he
  subst this
  cases h1
theorem ZC{k b:Nat}(h:Own O (σ++jW k) b):Own O σ b:=by
 rcases h with h | h
 ·exact .inl h
 ·exact .inr (JJ h)
theorem km(K:List Nat)(w:World)(σ:List SE)(k:Nat):Hold K w σ w (σ++jW k):=fun i e he _=>by
 have hi:=(List.getElem?_eq_some_iff.1 he).1
 exact⟨by rw [List.getElem?_append_left hi]; exact he,fun ad _ cs el h=>⟨cs,el,h,rfl⟩⟩
theorem Vx{k:Nat}(hx:Ext own w own' w){a b:AV}{v:Value}(hu:upA0 σ.length k a b)(ha:Rep own w a σ v):Rep own' w b (σ++jW k) v:=by
 unfold upA0 at hu
 split at hu
 ·obtain⟨⟨h1,h2⟩,rfl,rfl⟩:=hu
  rename_i i sz _ _
  simp only [Rep] at ha ⊢
  refine⟨⟨none,0⟩,?_,by simp,none,0,ha,Nat.le_refl _,.inl rfl⟩
  rw [List.getElem?_append_right h1,jW,List.getElem?_replicate,if_pos (by omega)]
 ·subst hu
  exact qe (K:=[]) hx (km [] w σ k) _ _ (jl _) ha
theorem QA{k:Nat}(hx:Ext own w own' w):∀ {l m:List AV} {vs:List Value},upL0 σ.length k l m→RepL own w l σ vs→RepL own' w m (σ++jW k) vs
 | [],[],vs,_,h=>by simpa [RepL] using h
 | a::l,b::m,vs,hl,h=>by
  simp only [RepL] at h ⊢
  obtain⟨v,r,hv,h1,h2⟩:=h
  exact⟨v,r,hv,Vx hx hl.1 h1,QA hx hl.2 h2⟩
 | [],_::_,_,hl,_=>hl.elim
 | _::_,[],_,hl,_=>hl.elim
theorem Wq{k:Nat}(hx:Ext own w own' w){a b:AV}{v:Value}(hu:upA1 σ.length k a b)(ha:Rep own w a σ v):Rep own' w b (σ++jW k) v:=by
 unfold upA1 at hu
 split at hu
 ·simp only [Rep] at ha ⊢
  obtain⟨vs,hv,hr⟩:=ha
  exact⟨vs,hv,QA hx hu hr⟩
 ·exact Vx hx hu ha
theorem yG{k:Nat}(hx:Ext own w own' w):∀ {l m:List AV} {vs:List Value},upL1 σ.length k l m→RepL own w l σ vs→RepL own' w m (σ++jW k) vs
 | [],[],vs,_,h=>by simpa [RepL] using h
 | a::l,b::m,vs,hl,h=>by
  simp only [RepL] at h ⊢
  obtain⟨v,r,hv,h1,h2⟩:=h
  exact⟨v,r,hv,Wq hx hl.1 h1,yG hx hl.2 h2⟩
 | [],_::_,_,hl,_=>hl.elim
 | _::_,[],_,hl,_=>hl.elim
theorem Vj{k:Nat}(hx:Ext own w own' w){a b:AV}{v:Value}(hu:upA2 σ.length k a b)(ha:Rep own w a σ v):Rep own' w b (σ++jW k) v:=by
 unfold upA2 at hu
 split at hu
 ·simp only [Rep] at ha ⊢
  obtain⟨vs,hv,hr⟩:=ha
  exact⟨vs,hv,yG hx hu hr⟩
 ·exact Wq hx hu ha
def kz(szs:List (Nat×(Nat→Nat→AV))):Heap:=szs.map fun s=>.arr 0 s.1 s.2
theorem zjb(hx:Ext own w own' w){hs:Heap}(hh:HRep own w σ hs)(szs:List (Nat×(Nat→Nat→AV))):HRep own' w (σ++jW szs.length) (hs++kz szs):=by
 have hl:=hh.len
 refine⟨by simp [jW,kz,hl],fun i j e f a b he hf ha hb hij=> ?_,fun i e a he ha=> ?_,fun i e b he hb=> ?_⟩
 ·rcases je he with ⟨_,he⟩ | ⟨_,rfl⟩
  ·rcases je hf with ⟨_,hf⟩ | ⟨_,rfl⟩
   ·exact hh.inj i j e f a b he hf ha hb hij
   ·cases hb
  ·cases ha
 ·rcases je he with ⟨_,he⟩ | ⟨_,rfl⟩
  ·exact hh.lt i e a he ha
  ·cases ha
 ·rcases je he with ⟨hi,he⟩ | ⟨hi,rfl⟩
  ·rw [List.getElem?_append_left (by omega)] at hb
   have:=jh (K:=[]) hx (km [] w σ szs.length) (hh.blk i e b he hb) (fun _ _=>rfl)
   rwa [jt] at this
  ·rw [List.getElem?_append_right (by omega)] at hb
   simp only [kz,List.getElem?_map] at hb
   cases hz:szs[i - hs.length]? with
   | none=>simp [hz] at hb
   | some s=>
    simp only [hz,Option.map_some,Option.some.injEq] at hb
    subst hb
    exact⟨rfl,.inl rfl⟩
def upQ(Q:AV×Heap→Prop)(p:AV×Heap):Prop:=Q p∨∃ (r:AV) (szs:List (Nat×(Nat→Nat→AV))),upA2 p.2.length szs.length p.1 r∧Q (r,p.2++kz szs)
theorem jy.up{g:Nat}{c:Ctr}{args:List AV}{hc:Heap}{Q:AV×Heap→Prop}(h:jy P g c args hc (upQ Q)):jy P g c args hc Q:=by
 intro O w σ vals hg hh hr
 refine Qa.mono ?_ (h O w σ vals hg hh hr)
 rintro v w' ⟨r,hs,σ',hq,h1,h2,h3,h4,h5,h6⟩
 rcases hq with hq | ⟨r',szs,hu,hq⟩
 ·exact⟨r,hs,σ',hq,h1,h2,h3,h4,h5,h6⟩
 ·have hx:Ext (fun b=>Own O σ' b∨(c.fresh=true∧b<w.heap.size)) w' (fun b=>Own O (σ'++jW szs.length) b∨(c.fresh=true∧b<w.heap.size)) w':=
   ⟨rfl,rfl,rfl,Nat.le_refl _,fun _ _ _=>rfl,fun b hb=>.inl (hb.imp ZC id)⟩
  have hl:hs.length=σ'.length:=h2.len.symm
  refine⟨r',hs++kz szs,σ'++jW szs.length,hq,Vj hx (by rw [← hl]; exact hu) h1,zjb hx h2 szs,⟨h3.old,fun i e ad he had=> ?_,h3.stat.own fun b hb=>ZC hb⟩,by simp; omega,h5.YV (km [] w' σ' _),?_⟩
  ·rcases je he with ⟨_,he⟩ | ⟨_,rfl⟩
   ·exact h3.dis i e ad he had
   ·cases had
  ·exact⟨h6.os,h6.tape,h6.output,h6.size,h6.keep,fun b hb=>h6.grow b (JJ hb)⟩
theorem zdl{X R:Type}{fresh:Bool}{inp:X→List AV}{pre:X→Prop}{post:X→R→Prop}{out:X→R→AV×Heap}{g:Nat}{c:Code}(hf:P.funcs[g]?=some fn)(hb:fn.body=some c) (hn:(fn.name == "runtime.NumGoroutine")=false)
  (H:∀ x,pre x→∀ (O:Nat→Prop) (w0:World) (Q:AV×Heap→Prop),(∀ r,post x r→Q (out x r)) →
   zb P fn O 0 w0 [] (fun _ _ _=>False) (RetR (ctrP fresh inp pre post out) 0 (upQ Q)) [.code c] (entry fn (inp x))):zc P g (ctrP fresh inp pre post out):=by
 intro args hc Q hq _
 simp only [ctrP] at hq
 split at hq
 ·obtain⟨x,⟨h1,h4⟩,h5,h6⟩:=hq
  refine jy.le h1 (jy.up (fn_k hf hb hn (fun h=>rfl) fun O w0 σ0 hl=> ?_))
  have h0:σ0=[]:=List.length_eq_zero_iff.1 (by simpa using hl)
  subst h0
  exact H x h4 O w0 Q h6
 ·exact hq.elim
def upKV(d k:Nat):KV→KV→Prop
 | [],[]=>True
 | (i,a)::l,(j,b)::m=>i=j∧upA2 d k a b∧upKV d k l m
 | _,_=>False
def upB(d k:Nat):Blk→Blk→Prop
 | .box l,.box m=>upL1 d k l m
 | a,b=>a=b
def upH(d k:Nat):Heap→Heap→Prop
 | [],[]=>True
 | b::l,c::m=>upB d k b c∧upH d k l m
 | _,_=>False
theorem Wx{d k:Nat} : ∀ {l m:KV} (t:Nat),upKV d k l m→upA2 d k (look l t) (look m t)
 | [],[],t,_=>by simp [look,upA2,upA1,upA0]
 | (i,a)::l,(j,b)::m,t,h=>by
  obtain⟨rfl,h1,h2⟩:=h
  simp only [look]
  split
  ·exact h1
  ·exact Wx t h2
 | [],_::_,_,h=>h.elim
 | _::_,[],_,h=>h.elim
theorem UP{d k:Nat} : ∀ {l m:Heap},upH d k l m→l.length=m.length
 | [],[],_=>rfl
 | _::l,_::m,h=>by simp [UP h.2]
 | [],_::_,h=>h.elim
 | _::_,[],h=>h.elim
theorem za5{d k:Nat} : ∀ {l m:Heap} {i:Nat} {b':Blk},upH d k l m→m[i]?=some b'→∃ b,l[i]?=some b∧upB d k b b'
 | b::l,c::m,0,b',h,h1=>by simp at h1; subst h1; exact⟨b,rfl,h.1⟩
 | b::l,c::m,i+1,b',h,h1=>by simpa using za5 h.2 (by simpa using h1)
 | [],[],_,_,_,h1=>by simp at h1
 | [],_::_,_,_,h,_=>h.elim
 | _::_,[],_,_,h,_=>h.elim
theorem zcx{k:Nat}(hx:Ext own w own' w){e:SE}{b b':Blk}(hu:upB σ.length k b b')(hb:BRep own w σ e b):BRep own' w (σ++jW k) e b':=by
 unfold upB at hu
 split at hu
 ·simp only [BRep] at hb ⊢
  obtain⟨ad,vs,el,h1,h2,h3,h4⟩:=hb
  exact⟨ad,vs,el,h1,h2,h3,yG hx hu h4⟩
 ·subst hu
  have:=jh (K:=[]) hx (km [] w σ k) hb (fun _ _=>rfl)
  rwa [jt] at this
variable {pin:Nat} {w0:World} {σ0:List SE} {a:Act}
theorem up_mod{kv kv2:KV}{h h2:Heap}{n:Nat}(hm:Mod O pin w0 σ0 w σ (mk n kv h) a){szs:List (Nat×(Nat→Nat→AV))}(hkv:upKV h.length szs.length kv kv2)(hh2:upH h.length szs.length h h2)(hno:(pk n kv).all zO=true)(hno2:(pk n kv2).all zO=true):Mod O pin w0 σ0 w (σ++jW szs.length) (mk n kv2 (h2++kz szs)) a:=by
 have hx:Ext (Own O σ) w (Own O (σ++jW szs.length)) w:=⟨rfl,rfl,rfl,Nat.le_refl _,fun _ _ _=>rfl,fun b hb=>.inl (ZC hb)⟩
 have hl:h.length=σ.length:=hm.hp.len.symm
 rw [hl] at hkv hh2
 have hl2:=UP hh2
 refine⟨⟨hm.good.old,fun i e ad he had=> ?_,hm.good.stat.ext hx⟩,?_,by simp [hm.size,mk,pk],fun u=> ?_,hm.df.ext hx,hm.since.trans ⟨hx,fun _ _ _=>rfl,wS.of (km [] w σ _) (by simp)⟩,hm.lim⟩
 ·rcases je he with ⟨_,he⟩ | ⟨_,rfl⟩
  ·exact hm.good.dis i e ad he had
  ·cases had
 ·have hh:=hm.hp
  refine⟨by simp [mk,jW,kz,← hl2,hl],fun i j e f x y he hf ha hb hij=> ?_,fun i e x he ha=> ?_,fun i e b he hb=> ?_⟩
  ·rcases je he with ⟨_,he⟩ | ⟨_,rfl⟩
   ·rcases je hf with ⟨_,hf⟩ | ⟨_,rfl⟩
    ·exact hh.inj i j e f x y he hf ha hb hij
    ·cases hb
   ·cases ha
  ·rcases je he with ⟨_,he⟩ | ⟨_,rfl⟩
   ·exact hh.lt i e x he ha
   ·cases ha
  ·simp only [mk] at hb
   rcases je he with ⟨hi,he⟩ | ⟨hi,rfl⟩
   ·rw [List.getElem?_append_left (by omega)] at hb
    obtain⟨b0,h1,h3⟩:=za5 hh2 hb
    exact zcx hx h3 (hh.blk i e b0 he h1)
   ·rw [List.getElem?_append_right (by omega)] at hb
    simp only [kz,List.getElem?_map] at hb
    cases hz:szs[i - h2.length]? with
    | none=>simp [hz] at hb
    | some s=>
     simp only [hz,Option.map_some,Option.some.injEq] at hb
     subst hb
     exact⟨rfl,.inl rfl⟩
 ·have hu:=hm.tm u
  have key:∀ (kv:KV) (h:Heap),(pk n kv).all zO=true→zO ((mk n kv h).tmps.getD u .undef)=true:=by
   intro kv h hno
   by_cases hlt:u<(mk n kv h).tmps.length
   ·simp only [List.getD,List.getElem?_eq_getElem hlt,Option.getD_some]
    exact List.all_eq_true.1 hno _ (List.getElem_mem hlt)
   ·simp only [List.getD]
    rw [List.getElem?_eq_none (by omega)]; rfl
  have n1:=key kv h hno
  have n2:=key kv2 (h2++kz szs) hno2
  have hr:Rep (Own O σ) w ((mk n kv h).tmps.getD u .undef) σ (a.tmps.getD u undef):=by
   generalize (mk n kv h).tmps.getD u .undef=x at hu n1
   cases x with
   | opt _ _ _=>simp [zO] at n1
   | _=>simpa only [TRep] using hu
  have hup:upA2 σ.length szs.length ((mk n kv h).tmps.getD u .undef) ((mk n kv2 (h2++kz szs)).tmps.getD u .undef):=by
   by_cases hlt:u<n
   ·simp only [mk]
    rw [jD hlt,jD hlt]
    exact Wx u hkv
   ·simp [mk,pk,List.getD,hlt,upA2,upA1,upA0]
  have:=Vj hx hup hr
  generalize (mk n kv2 (h2++kz szs)).tmps.getD u .undef=y at this n2
  cases y with
  | opt _ _ _=>simp [zO] at n2
  | _=>simpa only [TRep] using this
theorem zb.up{M:Option Nat}{Hs:Nat→KV→Heap→Prop}{R:List AV→Heap→Prop}{k:List Item}{kv:KV}{h:Heap}(szs:List (Nat×(Nat→Nat→AV)))(kv2:KV)(h2:Heap)(hkv:upKV h.length szs.length kv kv2)(hh2:upH h.length szs.length h h2)(hno:(pk fn.ntmps kv).all zO=true)(hno2:(pk fn.ntmps kv2).all zO=true)
  (H:zJ Xp M P fn O pin w0 σ0 Hs R k (mk fn.ntmps kv2 (h2++kz szs))):zJ Xp M P fn O pin w0 σ0 Hs R k (mk fn.ntmps kv h):=
 fun w σ a hm=>H w _ a (up_mod hm hkv hh2 hno hno2)
theorem RetR.outs{ctr:Ctr}{Q:AV×Heap→Prop}{rs:List AV}{h:Heap}{r:AV}{hs:Heap}(L:List Nat)(hnd:jM L=true)(hlt:(L.all fun i=>decide (i<h.length))=true)(hq:Q (r,hs))(hn:ctr.fresh=true→new2 h L (resV rs)∧∀ i∈L,newB (h.getD i .dead))
  (he:eqA2 (exp2 h L (resV rs)) r) (hb:eqH (expH h L) hs) (hl:hs.length=L.length):RetR ctr 0 Q rs h:=
 ⟨L,hnd,fun i hi=>by have:=List.all_eq_true.1 hlt i hi; simpa using this,by simp,hn,r,hs,qJ he,.inl hb,hl,hq⟩
theorem RetR.keep{ctr:Ctr}{m:Nat}{Q:AV×Heap→Prop}{rs:List AV}{h:Heap}{r:AV}{hs:Heap}(L:List Nat)(hnd:jM L=true)(hlt:(L.all fun i=>decide (i<h.length))=true)(hj:∀ j,j<m→L[j]?=some j)(hf:ctr.fresh=false)(hq:Q (r,hs))
  (he:eqA2 (exp2 h L (resV rs)) r) (hb:eqH (expH h L) hs) (hl:hs.length=L.length):RetR ctr m Q rs h:=
 ⟨L,hnd,fun i hi=>by have:=List.all_eq_true.1 hlt i hi; simpa using this,hj,(fun hh=>absurd hh (by rw [hf]; decide)),r,hs,qJ he,.inl hb,hl,hq⟩
end
end Go.Sx
end
section
set_option maxRecDepth 100000
open Go Go.Sx Go.Proofs Go.Nov
namespace Go.Proofs.Tryz
attribute [local simp] eqKV eqA eqA0 eqH eqB eqL eqL0
noncomputable def K36:List Go.Sx.Item:=[.code (Tryz.f36.body.getD .skip)]
def exD(x:Ex):AV:=.agg [.int .u8 x.kind,.str x.rat,.str x.name,.int .i64 x.date,.sl x.sub.length 5 x.deep]
def zfz(n:Nat):Ctr:=ctrP false (fun x:Ex=>[x.exA]) (fun x=>x.size<n∧x.size<2^40) (fun _ (_:Unit)=>True) (fun x _=>(exD x,[]))
theorem X0{s:List Ex}{i:Nat} : eqG (i+1) 5 (appG i (Ex.exG s) (zg (zh 5 [.int .u8 (s.getD i Ex.nil).kind,.str (s.getD i Ex.nil).rat,.str (s.getD i Ex.nil).name,.int .i64 (s.getD i Ex.nil).date,.sl (s.getD i Ex.nil).sub.length 5 (s.getD i Ex.nil).deep]) 0)) (Ex.exG s):=by
 intro j o hj ho
 simp only [appG,zg,zh]
 by_cases h:j<i
 ·rw [if_pos h]
 ·have:j=i:=by omega
  subst this
  rw [if_neg h]
  have e:j - j=0:=by omega
  match o,ho with
  | 0,_=>simp [e,Ex.exG,Ex.cell]
  | 1,_=>simp [e,Ex.exG,Ex.cell]
  | 2,_=>simp [e,Ex.exG,Ex.cell]
  | 3,_=>simp [e,Ex.exG,Ex.cell]
  | 4,_=>simp [e,Ex.exG,Ex.cell]
theorem Xg{C:Ctr}{Q:AV×Heap→Prop}{x:Ex}{h:Heap}{b:Nat}(hC:C.fresh=false)(hb:h[b]?=some (.arr x.sub.length 5 (Ex.exG x.sub)))(hq:Q (exD x,[])):RetR C 0 Q [.agg [.int .u8 x.kind,.str x.rat,.str x.name,.int .i64 x.date,.osl b 5 0 x.sub.length]] h:=by
 refine RetR.out0 hq (fun h=>by rw [hC] at h; cases h) ?_
 simp only [resV,exp2,exp1,List.map_cons,List.map_nil,exp0,ren0,z6,frz1,j5,hb,eqA2,eqA,eqL0,eqA0,exD,true_and,and_true]
 simp only [if_true]
 refine⟨trivial,trivial,fun j o hj ho=> ?_⟩
 have:=Ex.zA x j o hj ho
 simpa [zg] using this.symm
def SRt(i:Nat):KV:=[(1,.ptr 0 0),(2,.ptr 1 0),(3,.ptr 2 0),(4,.int .i64 (i:Int))]
def HRt1(x:Ex):Heap:=[.box [.int .u8 x.kind,.str x.rat,.str x.name,.int .i64 x.date,Ex.exS x.sub],.box [.int .u8 0,.str [],.str [],.int .i64 0,.nils],.box [.int .u8 x.kind,.str x.rat,.str x.name,.int .i64 x.date,.osl 3 5 0 0]]
def HRt(x:Ex)(i:Nat):Heap:=[.box [.int .u8 x.kind,.str x.rat,.str x.name,.int .i64 x.date,Ex.exS x.sub],.box [.int .u8 0,.str [],.str [],.int .i64 0,.nils],.box [.int .u8 x.kind,.str x.rat,.str x.name,.int .i64 x.date,.osl 3 5 0 i],.arr i 5 (Ex.exG x.sub)]
theorem Y8(n:Nat)(ih:zc Tryz.prog 36 (zfz n)):zc Tryz.prog 36 (zfz (n+1)):=by
 refine zf (fn:=Tryz.f36) (c:=Tryz.f36.body.getD .skip) rfl rfl rfl fun x hx O w0 Q hq=> ?_
 obtain⟨h1,h2⟩:=hx
 replace hq:=hq () trivial
 rw [Ex.size_eq] at h1 h2
 have hlen:=Ex.zy x.sub
 refine zb.run hmix (qj ih) [1,2,3,4] 400 (T:=.leaf (.loop (Prod.fst (lps K36 0)) (Prod.snd (lps K36 0)) [(1,.ptr 0 0),(2,.ptr 1 0),(3,.ptr 2 0),(4,.int .i64 0)] [.box [.int .u8 x.kind,.str x.rat,.str x.name,.int .i64 x.date,.sl x.sub.length 5 (Ex.exG x.sub)],.box [.int .u8 0,.str #[].toList,.str #[].toList,.int .i64 0,.nils],.box [.int .u8 x.kind,.str x.rat,.str x.name,.int .i64 x.date,.nils]])) (by kernel_rfl) ?_
 simp only [Tree.holds,zd,inR,lo,hi,Int.toNat_natCast]
 refine zb.up [(5,Ex.exG x.sub)] (SRt 0) (HRt1 x) (by simp [SRt,upKV,upA2,upA1,upA0]) (by simp [HRt1,upH,upB,upL1,upA1,upA0,Ex.exS]) (by kernel_rfl) (by kernel_rfl) ?_
 refine zb.loop (ι:={i:Nat // i≤x.sub.length}) (fun i=>SRt i.1) (fun i=>HRt x i.1) (fun i=>x.sub.length - i.1) ⟨0,Nat.zero_le _⟩ 0 ?_ ?_ (by kernel_rfl)
 ·exact⟨by simp [SRt],by simp [HRt,HRt1,kz,Ex.exS,za],by kernel_rfl,Nat.zero_le _⟩
 ·rintro⟨i,hil⟩
  refine zb.run hmix (qj ih) [1,2,3,4] 400 (T:=.ite (decide ((↑i:Int)<x.sub.length)) (.side ((0:Int)≤i∧(↑i:Int)<x.sub.length) (.ex (fun(x_1:Ex)=>eqL [AV.agg [AV.int .u8 (Ex.kind (List.getD x.sub (↑i:Int).toNat Ex.nil)),AV.str (Ex.rat (List.getD x.sub (↑i:Int).toNat Ex.nil)),AV.str (Ex.name (List.getD x.sub (↑i:Int).toNat Ex.nil)),AV.int .i64 (Ex.date (List.getD x.sub (↑i:Int).toNat Ex.nil)),AV.sl (List.length (Ex.sub (List.getD x.sub (↑i:Int).toNat Ex.nil))) 5 (Ex.deep (List.getD x.sub (↑i:Int).toNat Ex.nil))]] [AV.agg [AV.int .u8 x_1.kind,AV.str x_1.rat,AV.str x_1.name,AV.int .i64 x_1.date,AV.sl x_1.sub.length 5 (Ex.exG x_1.sub)]]∧Ex.size x_1<n∧Ex.size x_1<1099511627776) fun n=>.all (fun(x:Unit)=>True) fun n_1=>.side (0=0∧i≤i∧(i+1)*72≤140737488355328) (.side (inR .i64 ((↑i:Int)+(1:Int))) (.leaf (.back 0 [(1,.ptr 0 0),(2,.ptr 1 0),(3,.ptr 2 0),(4,.int .i64 ((↑i:Int)+(1:Int)))] [.box [.int .u8 x.kind,.str x.rat,.str x.name,.int .i64 x.date,.sl x.sub.length 5 (Ex.exG x.sub)],.box [.int .u8 0,.str [],.str [],.int .i64 0,.nils],.box [.int .u8 x.kind,.str x.rat,.str x.name,.int .i64 x.date,.osl 3 5 0 (i+1)],.arr (i+1) 5 (appG i (Ex.exG x.sub) (zg (zh 5 [.int .u8 n.kind,.str n.rat,.str n.name,.int .i64 n.date,.sl n.sub.length 5 n.deep]) 0)),.arr 1 5 (zh 5 [.int .u8 n.kind,.str n.rat,.str n.name,.int .i64 n.date,.sl n.sub.length 5 n.deep])]))))) (.leaf (.ret [.agg [.int .u8 x.kind,.str x.rat,.str x.name,.int .i64 x.date,.osl 3 5 0 i]] [.box [.int .u8 x.kind,.str x.rat,.str x.name,.int .i64 x.date,.sl x.sub.length 5 (Ex.exG x.sub)],.box [.int .u8 x.kind,.str x.rat,.str x.name,.int .i64 x.date,.osl 3 5 0 i],.box [.int .u8 x.kind,.str x.rat,.str x.name,.int .i64 x.date,.osl 3 5 0 i],.arr i 5 (Ex.exG x.sub)]))) (by kernel_rfl) ?_
  simp only [Tree.holds,zd,inR,lo,hi,Int.toNat_natCast]
  refine⟨fun hlt=> ?_,fun hge=> ?_⟩
  ·have hlt:i<x.sub.length:=by have:=of_decide_eq_true hlt; omega
   have hg:=Ex.qg hlt
   refine⟨by omega,fun _=>⟨x.sub.getD i Ex.nil,⟨wH rfl rfl rfl rfl rfl (Ex.zA _),by omega,by omega⟩,⟨(),trivial⟩,?_⟩⟩
   intro _ _
   refine⟨⟨trivial,Nat.le_refl _,by omega⟩,fun _=>⟨by omega,fun _=> ?_⟩⟩
   rw [if_pos trivial]
   refine⟨⟨i+1,hlt⟩,by show x.sub.length - (i+1)<x.sub.length - i; omega,by simp [SRt],?_,by kernel_rfl,Nat.zero_le _⟩
   exact⟨⟨⟨rfl,rfl⟩,rfl,rfl,⟨rfl,rfl⟩,⟨rfl,rfl,za _ _ _⟩,trivial⟩,⟨⟨rfl,rfl⟩,rfl,rfl,⟨rfl,rfl⟩,by simp,trivial⟩,⟨⟨rfl,rfl⟩,rfl,rfl,⟨rfl,rfl⟩,⟨rfl,rfl,rfl,rfl⟩,trivial⟩,⟨rfl,rfl,X0⟩,trivial⟩
  ·have hge:i=x.sub.length:=by have:=of_decide_eq_false hge; omega
   subst hge
   exact Xg rfl rfl hq
def K4:Ctr:=ctrP false (fun x:Ex=>[x.exA]) (fun x=>x.size<2^40) (fun _ (_:Unit)=>True) (fun x _=>(exD x,[]))
theorem zd2:zc Tryz.prog 36 K4:=zR Ex.size Y8
noncomputable def K60:List Go.Sx.Item:=[.code (Tryz.f60.body.getD .skip)]
def ZO:Ctr:=ctrP true (fun x:Ex=>[x.exA]) (fun _=>True) (fun x r=>r=q9 x) (fun _ (r:Bool)=>(.bool r,[]))
theorem VQ:zc Tryz.prog 108 ZO:=by
 refine zf (fn:=Tryz.f108) (c:=Tryz.f108.body.getD .skip) rfl rfl rfl fun x hx O w0 Q hq=> ?_
 replace hq:=hq _ rfl
 obtain⟨k,r,m,d,s⟩:=x
 refine zb.run hmix zF [] 400 (T:=.leaf (.ret [.bool (bif bif bif bif decide (Ex.kind (Ex.mk k r m d s)=(0:Int)) then decide (Ex.rat (Ex.mk k r m d s)=#[].toList) else false then decide (Ex.name (Ex.mk k r m d s)=#[].toList) else false then decide (Ex.date (Ex.mk k r m d s)=(0:Int)) else false then decide ((↑(List.length (Ex.sub (Ex.mk k r m d s))):Int)=0) else false)] [.box [.int .u8 (Ex.kind (Ex.mk k r m d s)),.str (Ex.rat (Ex.mk k r m d s)),.str (Ex.name (Ex.mk k r m d s)),.int .i64 (Ex.date (Ex.mk k r m d s)),.sl (List.length (Ex.sub (Ex.mk k r m d s))) 5 (Ex.exG (Ex.sub (Ex.mk k r m d s)))]])) (by kernel_rfl) ?_
 simp only [Tree.holds,zd]
 refine RetR.scal hq rfl ?_
 refine congrArg AV.bool ?_
 rw [Bool.eq_iff_iff]
 simp [q9,Ex.kind,Ex.rat,Ex.name,Ex.date,Ex.sub,and_assoc]
theorem QW:zc Tryz.prog 125 ZO:=by
 refine zf (fn:=Tryz.f125) (c:=Tryz.f125.body.getD .skip) rfl rfl rfl fun x hx O w0 Q hq=> ?_
 replace hq:=hq _ rfl
 obtain⟨k,r,m,d,s⟩:=x
 refine zb.run hmix zF [] 400 (T:=.leaf (.ret [.bool (bif bif bif bif decide (Ex.kind (Ex.mk k r m d s)=(0:Int)) then decide (Ex.rat (Ex.mk k r m d s)=#[].toList) else false then decide (Ex.name (Ex.mk k r m d s)=#[].toList) else false then decide (Ex.date (Ex.mk k r m d s)=(0:Int)) else false then decide ((↑(List.length (Ex.sub (Ex.mk k r m d s))):Int)=0) else false)] [.box [.int .u8 (Ex.kind (Ex.mk k r m d s)),.str (Ex.rat (Ex.mk k r m d s)),.str (Ex.name (Ex.mk k r m d s)),.int .i64 (Ex.date (Ex.mk k r m d s)),.sl (List.length (Ex.sub (Ex.mk k r m d s))) 5 (Ex.exG (Ex.sub (Ex.mk k r m d s)))]])) (by kernel_rfl) ?_
 simp only [Tree.holds,zd]
 refine RetR.scal hq rfl ?_
 refine congrArg AV.bool ?_
 rw [Bool.eq_iff_iff]
 simp [q9,Ex.kind,Ex.rat,Ex.name,Ex.date,Ex.sub,and_assoc]
def U2:Ctr:=ctrT false false (fun c:Con=>[c.conA]) (fun _=>[]) (fun _=>True) (fun _ (_:Unit)=>True) (fun c _=>(.fn 110 [] [.ptr 0 0],[.box (Con.V0 c.kind c.src c.dst c.name c.x c.date c.days c.sub)]))
theorem K0:zc Tryz.prog 62 U2:=by
 refine qD (fn:=Tryz.f62) (c:=Tryz.f62.body.getD .skip) rfl rfl rfl (fun h=>by cases h) fun c hp O w0 σ0 Q hl hq=> ?_
 have h0:σ0=[]:=List.length_eq_zero_iff.1 (by simpa using hl)
 subst h0
 refine zb.run hmix zF [0] 400 (T:=.leaf (.ret [.fn 110 [] [.ptr 0 0]] [.box (Con.ze c)])) (by kernel_rfl) ?_
 simp only [Tree.holds,zd]
 refine RetR.out1 0 (by simp) (hq () trivial) (fun h=>by cases h) (by simp [resV,exp2,exp1,exp0,z6,ren0,eqA2]) ?_
 simp only [Con.V0,expB,exp1,List.map_cons,List.map_nil,exp0,Ex.exS,Con.dayS,Con.conS]
 exact⟨⟨rfl,rfl⟩,rfl,rfl,rfl,⟨rfl,rfl⟩,rfl,rfl,⟨rfl,rfl⟩,⟨rfl,rfl,za _ _ _⟩,⟨rfl,rfl⟩,⟨rfl,rfl,za _ _ _⟩,⟨rfl,rfl,za _ _ _⟩,trivial⟩
noncomputable def GZ1:Nat→Option Ctr:=fun f=>if f=108 then some (ZO) else if f=78 then some (uD) else if f=62 then some (U2) else none
theorem UJ:∀ g c,GZ1 g=some c→zc Tryz.prog g c:=okIf VQ (okIf zb1 (okIf K0 (zp)))
def zec:Ctr:=ctrP true (fun c:Con=>[c.conA]) (fun c=>c.big<2^40∧c.nodes≤1000000) (fun c r=>r=c.size) (fun _ (r:Nat)=>(.int .i64 (r:Int),[]))
theorem zQ(c:Con):eqA c.conA c.conA:=by
 simp only [Con.conA,Ex.exS,Con.dayS,Con.conS,eqA]
 exact⟨⟨rfl,rfl⟩,rfl,rfl,rfl,⟨rfl,rfl⟩,rfl,rfl,⟨rfl,rfl⟩,⟨rfl,rfl,za _ _ _⟩,⟨rfl,rfl⟩,⟨rfl,rfl,za _ _ _⟩,⟨rfl,rfl,za _ _ _⟩,trivial⟩
theorem Va{own:Nat→Prop}{w:World}{σ:List SE} : ∀ {l:List AV} {vs:List Value},l.all KC=true→RepL own w l σ vs→RepL own w l [] vs
 | [],vs,_,h=>h
 | a::l,vs,hf,h=>by
  simp only [List.all_cons,Bool.and_eq_true] at hf
  simp only [RepL] at h ⊢
  obtain⟨v,r,rfl,h1,h2⟩:=h
  exact⟨v,r,rfl,Yj hf.1 h1,Va hf.2 h2⟩
theorem zm0{O:Nat→Prop}{pin:Nat}{w0 w:World}{σ0 σ:List SE}{st:St}{a:Act}(hm:Mod O pin w0 σ0 w σ st a):∀ b,Go.Sx.Own O σ b→b<w.heap.size:=by
 rintro b (hO | ⟨e,he,ad,h1,rfl⟩)
 ·exact hm.good.old b hO
 ·obtain⟨j,hj⟩:=List.getElem?_of_mem he
  exact hm.hp.lt j e ad hj h1
theorem zk(c:Con):eqL c.ze c.ze:=by
 simp only [Con.ze,Con.V0,Ex.exS,Con.dayS,Con.conS]
 exact⟨⟨rfl,rfl⟩,rfl,rfl,rfl,⟨rfl,rfl⟩,rfl,rfl,⟨rfl,rfl⟩,⟨rfl,rfl,za _ _ _⟩,⟨rfl,rfl⟩,⟨rfl,rfl,za _ _ _⟩,⟨rfl,rfl,za _ _ _⟩,trivial⟩
theorem zD(x:Ex):eqA x.exA x.exA:=by
 simp only [Ex.exA,Ex.exS,eqA]
 exact⟨⟨rfl,rfl⟩,rfl,rfl,⟨rfl,rfl⟩,⟨rfl,rfl,za _ _ _⟩,trivial⟩
theorem QS{O:Nat→Prop}{pin:Nat}{w0 w:World}{σ0 σ:List SE}{st:St}{a:Act}(hm:Mod O pin w0 σ0 w σ st a){i:Nat}{c:Con}(hb:st.heap[i]?=some (.box c.ze))(hn:c.nodes≤1000000){vb:List Value}(hv:RepL (Go.Sx.Own O σ) w [.ptr i 0] σ vb) :
  ∃ ev:Nat→Value,SeqStopsK Fence.wide 0 Tryz.prog 110 vb.toArray (fun x=> #[ev x]) (jn (Go.Sx.Own O σ)) (fun xs=>xs=List.range c.all.length) (fun pre=>pre <+: List.range c.all.length) c.all.length w∧∀ i,Rep (Go.Sx.Own O σ) w (c.all.getD i c).conA [] (ev i):=by
 simp only [RepL,Rep] at hv
 obtain⟨v,r,rfl,⟨e,ad,he,had,rfl⟩,rfl⟩:=hv
 obtain⟨ad',vs,el,g1,g2,g3,g4⟩:=hm.hp.blk i e _ he hb
 rw [had] at g1; cases g1
 have hr:Rep (Go.Sx.Own O σ) w c.conA [] (.agg vs.toArray):=by
  simp only [Con.conA]
  rw [Rep]
  exact⟨vs,rfl,Va rfl g4⟩
 have:=KE g3 hr hn (zm0 hm)
 rw [g2]
 exact this
def HCs(c:Con)(m:Nat):Heap:=[.box c.ze,.box [.int .i64 (m:Int)],.box c.ze]
theorem zhg:zc Tryz.prog 60 zec:=by
 refine zf (fn:=Tryz.f60) (c:=Tryz.f60.body.getD .skip) rfl rfl rfl fun c hc O w0 Q hq=> ?_
 obtain⟨h1,h2⟩:=hc
 replace hq:=hq _ rfl
 refine zb.run hmix UJ [2,3,6,7] 400 (T:=.ex (fun(x:Con)=>eqL [(Con.conA c)] [(Con.conA x)]∧eqH [] []∧0=0∧True) fun n=>.all (fun(x:Unit)=>True) fun n_1=>.leaf (.range (Prod.fst (rfs K60 0)) (Prod.snd (rfs K60 0)) [(2,.int .i64 0),(3,.ptr 1 0),(6,.fn 110 [] [.ptr 2 0]),(7,.undef)] [.box (Con.ze c),.box [.int .i64 0],.box (Con.ze n)])) (by kernel_rfl) ?_
 simp only [Tree.holds,zd]
 refine⟨c,⟨⟨zQ c,trivial⟩,trivial,trivial,trivial⟩,⟨(),trivial⟩,fun _ _=> ?_⟩
 refine zb.zfk (tg:=6) (tp:=7) (td:=4) (t:=31) (n:=12) (zs:=[.int .u8 0,.str [],.str [],.str [],.int .u8 0,.str [],.str [],.int .i64 0,.nils,.int .i64 0,.nils,.nils]) (cap:=[.ptr 2 0]) (gf:=110) (by kernel_rfl) (by kernel_rfl) (by kernel_rfl) rfl (enters_of Tryz.func110 (by kernel_rfl) rfl) (fun i:Nat=>(c.all.getD i c).conA) (fun i=>(c.all.getD i c).ze) (fun i=>⟨rfl,rfl,rfl,rfl⟩) (fun pre=>HCs c (pre.map fun i=>(c.all.getD i c).wt).sum) (fun _=>[]) (fun _=>False) (fun xs=>xs=List.range c.all.length) (fun pre=>pre <+: List.range c.all.length) c.all.length 3
  (by kernel_rfl) (by decide +kernel) (by decide +kernel) (by decide +kernel) (by decide) ⟨by simp,⟨zk c,⟨⟨rfl,rfl⟩,trivial⟩,zk c,trivial⟩,by kernel_rfl,Nat.zero_le _⟩ (by kernel_rfl) (Nat.zero_le _) (fun pre=>rfl) (fun pre=>by simp [HCs,alive]) (fun pre b hb=>by cases hb) ?_ ?_ ?_ (fun _ _ h=>h.elim)
 ·intro w σ a hm vb hvb
  exact QS hm (i:=2) rfl h2 hvb
 ·intro l pre i hlen W σ1
  have hwt:(c.all.getD i c).big≤c.big:=by
   by_cases hi:i<c.all.length
   ·exact Con.Qx c _ (by simp [List.getD,hi])
   ·simp [List.getD,hi]
  have hm:(pre.map fun i=>(c.all.getD i c).wt).sum≤pre.length*2^40:=by
   have hall:∀ j,(c.all.getD j c).wt≤2^40:=fun j=>by
    have h1':=Con.xH (c.all.getD j c).x
    have h2':(c.all.getD j c).big≤c.big:=by
     by_cases hi:j<c.all.length
     ·exact Con.Qx c _ (by simp [List.getD,hi])
     ·simp [List.getD,hi]
    rw [Con.ju] at h2'
    have:(c.all.getD j c).wt=1+wq (c.all.getD j c).x:=rfl
    omega
   clear hlen
   induction pre with
   | nil=>simp
   | cons j pre ih=>
    have:=hall j
    simp only [List.map_cons,List.sum_cons,List.length_cons]
    omega
  rw [List.map_append,List.sum_append]
  simp only [List.map_cons,List.map_nil,List.sum_cons,List.sum_nil,Nat.add_zero]
  rw [Con.zas] at hlen
  have hml:(pre.map fun i=>(c.all.getD i c).wt).sum≤1000000*2^40:=Nat.le_trans hm (Nat.mul_le_mul_right _ (by omega))
  generalize (pre.map fun i=>(c.all.getD i c).wt).sum=m at hml
  generalize c.all.getD i c=e at hwt
  rw [Con.ju e] at hwt
  refine zb.run hmix UJ [3,6,7] 400 (T:=.side (inR .i64 ((↑m:Int)+(1:Int))) (.ex (fun(x:Ex)=>eqL [(Ex.exA e.x)] [x.exA]∧True) fun n=>.all (fun(r:Bool)=>r=q9 n) fun n=>.ite (!n) (.ex (fun(x:Ex)=>eqL [(Ex.exA e.x)] [x.exA]∧Ex.size x<4611686018427387904) fun n=>.all (fun(r:Nat)=>r=Ex.size n) fun n=>.side (inR .i64 ((↑m:Int)+(1:Int)+n)) (.leaf (.back 0 [(3,.ptr 1 0),(6,.fn 110 [] [.ptr 2 0]),(7,(Con.conA e))] [.box (Con.ze c),.box [.int .i64 ((↑m:Int)+(1:Int)+n)],.box (Con.ze c)]))) (.leaf (.back 0 [(3,.ptr 1 0),(6,.fn 110 [] [.ptr 2 0]),(7,(Con.conA e))] [.box (Con.ze c),.box [.int .i64 ((↑m:Int)+(1:Int))],.box (Con.ze c)])))) (by kernel_rfl) ?_
  simp only [Tree.holds,zd,inR,lo,hi,Int.toNat_natCast]
  have hsx:e.wt=1+wq e.x:=rfl
  refine⟨by omega,fun _=>⟨e.x,⟨⟨zD e.x,trivial⟩,trivial⟩,⟨_,rfl⟩,?_⟩⟩
  rintro _ rfl
  refine⟨fun hb=>⟨e.x,⟨⟨zD e.x,trivial⟩,by show e.x.size<_; omega⟩,⟨_,rfl⟩,?_⟩,fun hb=> ?_⟩
  ·rintro _ rfl
   refine⟨by omega,fun _=>⟨trivial,⟨zk c,⟨⟨rfl,?_⟩,trivial⟩,zk c,trivial⟩,by kernel_rfl,Nat.le_refl _⟩⟩
   have:wq e.x=e.x.size:=by unfold wq; rw [show q9 e.x=false by simpa using hb]; rfl
   omega
  ·refine⟨trivial,⟨zk c,⟨⟨rfl,?_⟩,trivial⟩,zk c,trivial⟩,by kernel_rfl,Nat.le_refl _⟩
   have:wq e.x=0:=by unfold wq; rw [show q9 e.x=true by simpa using hb]; rfl
   omega
 ·intro xs hxs
  subst hxs
  have hsum:((List.range c.all.length).map fun i=>(c.all.getD i c).wt).sum=c.size:=by
   rw [Con.XA]
   congr 1
   apply List.ext_getElem (by simp)
   intro i h1 h2
   simp at h1
   simp [List.getD,h1]
  rw [hsum]
  generalize c.size=m at hq
  refine zb.run hmix UJ [2,3,6,7] 400 (T:=.leaf (.ret [.int .i64 m] [.box (Con.ze c),.box [.int .i64 m],.box (Con.ze c)])) (by kernel_rfl) ?_
  simp only [Tree.holds,zd]
  exact RetR.scal hq rfl rfl
noncomputable def K109:List Go.Sx.Item:=[.code (Tryz.f109.body.getD .skip)]
noncomputable def K61:List Go.Sx.Item:=[.code (Tryz.f61.body.getD .skip)]
noncomputable def K88:List Go.Sx.Item:=[.code (Tryz.f88.body.getD .skip)]
noncomputable def K87:List Go.Sx.Item:=[.code (Tryz.f87.body.getD .skip)]
def zad(n:Nat):Ctr:=ctrP true (fun x:Ex=>[x.exA]) (fun x=>x.size<n∧x.size<2^62) (fun x r=>r=x.depth) (fun _ (r:Nat)=>(.int .i64 (r:Int),[]))
def SEd(s:List Ex)(c i:Nat):KV:=[(3,.int .i64 (c:Int)),(7,Ex.exS s),(8,.int .i64 (s.length:Int)),(9,.int .i64 (i:Int))]
theorem KT(n:Nat)(ih:zc Tryz.prog 109 (zad n)):zc Tryz.prog 109 (zad (n+1)):=by
 refine zf (fn:=Tryz.f109) (c:=Tryz.f109.body.getD .skip) rfl rfl rfl fun x hp O w0 Q hq=> ?_
 obtain⟨hxn,hxs⟩:=hp
 replace hq:=hq _ rfl
 have hds:=Ex.wJ x
 rw [Ex.wZ] at hq hds
 rw [Ex.size_eq] at hxn hxs hds
 obtain⟨k,r,m,d,s⟩:=x
 simp only [Ex.sub] at hxn hxs hq hds
 have hlen:=Ex.zy s
 refine zb.run hmix (qj ih) [3,7,8,9] 400 (T:=.leaf (.loop (Prod.fst (lps K109 0)) (Prod.snd (lps K109 0)) [(3,.int .i64 0),(7,.sl s.length 5 (Ex.exG s)),(8,.int .i64 s.length),(9,.int .i64 0)] [.box [.int .u8 k,.str r,.str m,.int .i64 d,.sl s.length 5 (Ex.exG s)]])) (by kernel_rfl) ?_
 simp only [Tree.holds,zd,inR,lo,hi,Int.toNat_natCast]
 refine zb.loop (ι:={i:Nat // i≤s.length}) (fun i=>SEd s (Ex.zw (s.take i.1)) i.1) (fun _=>[]) (fun i=>s.length - i.1) ⟨0,Nat.zero_le _⟩ 0 ?_ ?_ (by kernel_rfl)
 ·exact⟨by simp [SEd,Ex.zw,Ex.exS,za],by simp,by kernel_rfl,Nat.zero_le _⟩
 ·rintro⟨i,hil⟩
  have hcb:Ex.zw (s.take i)≤Ex.zw s:=Ex.JG s i
  obtain⟨c,hc⟩:∃ c,Ex.zw (s.take i)=c:=⟨_,rfl⟩
  simp only [hc]
  refine zb.run hmix (qj ih) [3,7,8,9] 400 (T:=.ite (decide ((↑i:Int)<s.length)) (.side ((0:Int)≤i∧(↑i:Int)<s.length) (.ex (fun(x:Ex)=>eqL [(exD (s.getD (↑i:Int).toNat Ex.nil))] [x.exA]∧Ex.size x<n∧Ex.size x<4611686018427387904) fun n=>.all (fun(r:Nat)=>r=Ex.depth n) fun n=>.side (inR .i64 ((↑i:Int)+(1:Int))) (.leaf (.back 0 [(3,.int .i64 (max (↑c:Int) (↑n:Int))),(7,.sl s.length 5 (Ex.exG s)),(8,.int .i64 s.length),(9,.int .i64 ((↑i:Int)+(1:Int)))] [.box (Ex.cellsD (s.getD (↑i:Int).toNat Ex.nil))])))) (.side (inR .i64 ((↑c:Int)+(1:Int))) (.leaf (.ret [.int .i64 ((↑c:Int)+(1:Int))] [])))) (by kernel_rfl) ?_
  simp only [Tree.holds,zd,inR,lo,hi,Int.toNat_natCast]
  refine⟨fun hlt=> ?_,fun hge=> ?_⟩
  ·have hlt:i<s.length:=by have:=of_decide_eq_true hlt; omega
   have hg:=Ex.qg hlt
   have ht:=Ex.jr s i hlt
   refine⟨by omega,fun _=>⟨s.getD i Ex.nil,⟨⟨⟨⟨rfl,rfl⟩,rfl,rfl,⟨rfl,rfl⟩,⟨rfl,rfl,Ex.zA _⟩,trivial⟩,trivial⟩,by omega,by omega⟩,⟨_,rfl⟩,?_⟩⟩
   rintro _ rfl
   refine⟨by omega,fun _=> ?_⟩
   rw [if_pos trivial]
   refine⟨⟨i+1,hlt⟩,by show s.length - (i+1)<s.length - i; omega,?_,by simp,by kernel_rfl,Nat.zero_le _⟩
   simp [SEd,ht,hc,Ex.exS,za]; omega
  ·have hge:i=s.length:=by have:=of_decide_eq_false hge; omega
   subst hge
   rw [List.take_length] at hc
   refine⟨by omega,fun _=> ?_⟩
   exact RetR.scal hq rfl (by simp [resV]; omega)
def Wp:Ctr:=ctrP true (fun x:Ex=>[x.exA]) (fun x=>x.size<2^62) (fun x r=>r=x.depth) (fun _ (r:Nat)=>(.int .i64 (r:Int),[]))
theorem zcu:zc Tryz.prog 109 Wp:=zR Ex.size KT
theorem jm(e:Con):eqA (.agg [.int .u8 e.kind,.str e.src,.str e.dst,.str e.name,.int .u8 e.x.kind,.str e.x.rat,.str e.x.name,.int .i64 e.x.date,.sl e.x.sub.length 5 (Ex.exG e.x.sub),.int .i64 e.date,.sl e.days.length 1 (Con.dayG e.days),.sl e.sub.length 12 e.deep]) e.conA:=by
 simp only [Con.conA,Ex.exS,Con.dayS,Con.conS,eqA]
 exact⟨⟨rfl,rfl⟩,rfl,rfl,rfl,⟨rfl,rfl⟩,rfl,rfl,⟨rfl,rfl⟩,⟨rfl,rfl,za _ _ _⟩,⟨rfl,rfl⟩,⟨rfl,rfl,za _ _ _⟩,⟨rfl,rfl,Con.zA e⟩,trivial⟩
theorem vL(x:Ex):jL x≤x.size:=Nat.le_trans (Con.WW x) (Con.xH x)
def SCd(c:Con)(d i:Nat):KV:=[(3,.int .i64 (d:Int)),(14,Con.conS c.sub),(15,.int .i64 (c.sub.length:Int)),(16,.int .i64 (i:Int))]
def wO(n:Nat):Ctr:=ctrP true (fun c:Con=>[c.conA]) (fun c=>c.nodes<n∧c.big<2^40) (fun c r=>r=c.depth) (fun _ (r:Nat)=>(.int .i64 (r:Int),[]))
noncomputable def GDb:Nat→Option Ctr:=fun f=>if f=108 then some (ZO) else if f=109 then some (Wp) else none
theorem zm8:∀ g c,GDb g=some c→zc Tryz.prog g c:=okIf VQ (okIf zcu (zp))
noncomputable def GDc(n:Nat):Nat→Option Ctr:=fun f=>if f=61 then some (wO n) else GDb f
theorem zei{n:Nat}(h:zc Tryz.prog 61 (wO n)):∀ f c,GDc n f=some c→zc Tryz.prog f c:=by
 intro f c hf
 simp only [GDc] at hf
 split at hf
 ·rename_i hg; subst hg; cases hf; exact h
 ·exact zm8 f c hf
theorem XB(n:Nat)(ih:zc Tryz.prog 61 (wO n)):zc Tryz.prog 61 (wO (n+1)):=by
 refine zf (fn:=Tryz.f61) (c:=Tryz.f61.body.getD .skip) rfl rfl rfl fun c hp O w0 Q hq=> ?_
 obtain⟨hcn,hcb⟩:=hp
 replace hq:=hq _ rfl
 rw [Con.wZ] at hq
 refine zb.run hmix (zei ih) [3,14,15,16] 400 (T:=.ex (fun(x:Ex)=>eqL [(Ex.exA c.x)] [x.exA]∧True) fun n=>.all (fun(r:Bool)=>r=q9 n) fun n=>.ite (!n) (.ex (fun(x:Ex)=>eqL [(Ex.exA c.x)] [x.exA]∧Ex.size x<4611686018427387904) fun n=>.all (fun(r:Nat)=>r=Ex.depth n) fun n=>.leaf (.loop (Prod.fst (lps K61 0)) (Prod.snd (lps K61 0)) [(3,.int .i64 n),(14,.sl c.sub.length 12 (Con.conG c.sub)),(15,.int .i64 (↑c.sub.length:Int)),(16,.int .i64 0)] [.box (Con.ze c)])) (.leaf (.loop (Prod.fst (lps K61 0)) (Prod.snd (lps K61 0)) [(3,.int .i64 0),(14,.sl c.sub.length 12 (Con.conG c.sub)),(15,.int .i64 (↑c.sub.length:Int)),(16,.int .i64 0)] [.box (Con.ze c)]))) (by kernel_rfl) ?_
 simp only [Tree.holds,zd,inR,lo,hi,Int.toNat_natCast]
 have hb:=hcb
 rw [Con.ju] at hb
 rw [Con.qN] at hcn
 have hxd:=vL c.x
 have hsd:=Con.yN c.sub
 have hl:=Con.qQ c.sub
 have loop:∀ (d0:Nat) (h:Heap),d0=jL c.x→(∀ S,LeK 0 Tryz.f61.ntmps S h S []→True)→h=[.box c.ze]→zb Tryz.prog Tryz.f61 O 0 w0 [] (fun _ _ _=>False) (RetR (wO (n+1)) 0 Q) (.code (.loop (lps K61 0).1)::(lps K61 0).2) (mk Tryz.f61.ntmps [(3,.int .i64 (d0:Int)),(14,.sl c.sub.length 12 (Con.conG c.sub)),(15,.int .i64 (c.sub.length:Int)),(16,.int .i64 0)] h):=by
  rintro d0 h rfl _ rfl
  refine zb.loop (ι:={i:Nat // i≤c.sub.length}) (fun i=>SCd c (max (jL c.x) (Con.zw (c.sub.take i.1))) i.1) (fun _=>[]) (fun i=>c.sub.length - i.1) ⟨0,Nat.zero_le _⟩ 0 ?_ ?_ (by kernel_rfl)
  ·exact⟨by simp [SCd,Con.zw,Con.conS,za],by simp,by kernel_rfl,Nat.zero_le _⟩
  ·rintro⟨i,hil⟩
   have hdb:Con.zw (c.sub.take i)≤Con.zw c.sub:=Con.yl c.sub i
   obtain⟨d,hd⟩:∃ d,max (jL c.x) (Con.zw (c.sub.take i))=d:=⟨_,rfl⟩
   simp only [hd]
   refine zb.run hmix (zei ih) [3,14,15,16] 400 (T:=.ite (decide ((↑i:Int)<(↑c.sub.length:Int))) (.side ((0:Int)≤i∧(↑i:Int)<(↑c.sub.length:Int)) (.ex (fun(x:Con)=>eqL [(Con.conD (List.getD c.sub (↑i:Int).toNat Con.nil))] [(Con.conA x)]∧Con.nodes x<n∧Con.big x<1099511627776) fun n=>.all (fun(r:Nat)=>r=Con.depth n) fun n=>.side (inR .i64 ((↑i:Int)+(1:Int))) (.leaf (.back 0 [(3,.int .i64 (max (↑d:Int) (↑n:Int))),(14,.sl c.sub.length 12 (Con.conG c.sub)),(15,.int .i64 (↑c.sub.length:Int)),(16,.int .i64 ((↑i:Int)+(1:Int)))] [.box (Con.zz (List.getD c.sub (↑i:Int).toNat Con.nil))])))) (.side (inR .i64 ((↑d:Int)+(1:Int))) (.leaf (.ret [.int .i64 ((↑d:Int)+(1:Int))] [])))) (by kernel_rfl) ?_
   simp only [Tree.holds,zd,inR,lo,hi,Int.toNat_natCast]
   refine⟨fun hlt=> ?_,fun hge=> ?_⟩
   ·have hlt:i<c.sub.length:=by have:=of_decide_eq_true hlt; omega
    have hg:=Con.qq hlt
    have hgb:=Con.jB hlt
    have ht:=Con.jr c.sub i hlt
    refine⟨by omega,fun _=>⟨c.sub.getD i Con.nil,⟨⟨jm _,trivial⟩,by omega,by omega⟩,⟨_,rfl⟩,?_⟩⟩
    rintro _ rfl
    refine⟨by omega,fun _=> ?_⟩
    rw [if_pos trivial]
    refine⟨⟨i+1,hlt⟩,by show c.sub.length - (i+1)<c.sub.length - i; omega,?_,by simp,by kernel_rfl,Nat.zero_le _⟩
    simp [SCd,ht,Con.conS,za]; omega
   ·have hge:i=c.sub.length:=by have:=of_decide_eq_false hge; omega
    subst hge
    rw [List.take_length] at hd
    refine⟨by omega,fun _=> ?_⟩
    exact RetR.scal hq rfl (by simp [resV]; omega)
 refine⟨c.x,⟨⟨zD c.x,trivial⟩,trivial⟩,⟨_,rfl⟩,?_⟩
 rintro _ rfl
 refine⟨fun h=>⟨c.x,⟨⟨zD c.x,trivial⟩,by show c.x.size<_; omega⟩,⟨_,rfl⟩,?_⟩,fun h=> ?_⟩
 ·rintro _ rfl
  exact loop c.x.depth _ (by unfold jL; rw [show q9 c.x=false by simpa using h]; rfl) (fun _ _=>trivial) rfl
 ·exact loop 0 _ (by unfold jL; rw [show q9 c.x=true by simpa using h]; rfl) (fun _ _=>trivial) rfl
def yj:Ctr:=ctrP true (fun c:Con=>[c.conA]) (fun c=>c.big<2^40) (fun c r=>r=c.depth) (fun _ (r:Nat)=>(.int .i64 (r:Int),[]))
theorem zcs:zc Tryz.prog 61 yj:=zR Con.nodes XB
noncomputable def GDpr:Nat→Option Ctr:=fun f=>if f=125 then some (ZO) else if f=84 then some (W6) else none
theorem zjz:∀ g c,GDpr g=some c→zc Tryz.prog g c:=okIf QW (okIf WC (zp))
noncomputable def zl2(n:Nat):Nat→Option Ctr:=fun f=>if f=88 then some (wO n) else GDpr f
theorem X3{n:Nat}(h:zc Tryz.prog 88 (wO n)):∀ f c,zl2 n f=some c→zc Tryz.prog f c:=by
 intro f c hf
 simp only [zl2] at hf
 split at hf
 ·rename_i hg; subst hg; cases hf; exact h
 ·exact zjz f c hf
def SDpr(d i:Nat):KV:=[(1,.ptr 0 0),(3,.int .i64 (d:Int)),(4,.int .i64 (i:Int))]
def HDpr(c:Con):Heap:=[.box c.ze]
theorem zhj(n:Nat)(ih:zc Tryz.prog 88 (wO n)):zc Tryz.prog 88 (wO (n+1)):=by
 refine zf (fn:=Tryz.f88) (c:=Tryz.f88.body.getD .skip) rfl rfl rfl fun c hp O w0 Q hq=> ?_
 obtain⟨hcn,hcb⟩:=hp
 replace hq:=hq _ rfl
 rw [Con.wZ] at hq
 refine zb.run hmix (X3 ih) [1,3,4] 400 (T:=.ex (fun(x:Ex)=>eqL [(Ex.exA c.x)] [x.exA]∧True) fun n=>.all (fun(r:Bool)=>r=q9 n) fun n=>.ite (!n) (.ex (fun(x:Ex)=>eqL [(Ex.exA c.x)] [x.exA]∧Ex.size x<4611686018427387904) fun n=>.all (fun(r:Nat)=>r=Ex.depth n) fun n=>.leaf (.loop (Prod.fst (lps K88 0)) (Prod.snd (lps K88 0)) [(1,.ptr 0 0),(3,.int .i64 n),(4,.int .i64 0)] [.box (Con.ze c)])) (.leaf (.loop (Prod.fst (lps K88 0)) (Prod.snd (lps K88 0)) [(1,.ptr 0 0),(3,.int .i64 0),(4,.int .i64 0)] [.box (Con.ze c)]))) (by kernel_rfl) ?_
 simp only [Tree.holds,zd,inR,lo,hi,Int.toNat_natCast]
 have hb:=hcb
 rw [Con.ju] at hb
 rw [Con.qN] at hcn
 have hxd:=vL c.x
 have hxs:=Con.xH c.x
 have hsd:=Con.yN c.sub
 have hss:=Con.kD c.sub
 have hl:=Con.qQ c.sub
 have loop:∀ (d0:Nat) (h:Heap),d0=jL c.x→h=[.box c.ze]→zb Tryz.prog Tryz.f88 O 0 w0 [] (fun _ _ _=>False) (RetR (wO (n+1)) 0 Q) (.code (.loop (lps K88 0).1)::(lps K88 0).2) (mk Tryz.f88.ntmps [(1,.ptr 0 0),(3,.int .i64 (d0:Int)),(4,.int .i64 0)] h):=by
  rintro d0 h rfl rfl
  refine zb.loop (ι:={i:Nat // i≤c.sub.length}) (fun i=>SDpr (max (jL c.x) (Con.zw (c.sub.take i.1))) i.1) (fun _=>HDpr c) (fun i=>c.sub.length - i.1) ⟨0,Nat.zero_le _⟩ 0 ?_ ?_ (by kernel_rfl)
  ·exact⟨by simp [SDpr,Con.zw,Con.zo],⟨zk c,trivial⟩,by kernel_rfl,Nat.zero_le _⟩
  ·rintro⟨i,hil⟩
   have hdb:Con.zw (c.sub.take i)≤Con.zw c.sub:=Con.yl c.sub i
   have hsb:Con.zo (c.sub.take i)≤Con.zo c.sub:=Con.ur c.sub i
   obtain⟨d,hd⟩:∃ d,max (jL c.x) (Con.zw (c.sub.take i))=d:=⟨_,rfl⟩
   simp only [hd]
   refine zb.run hmix (X3 ih) [1,3,4] 400 (T:=.ite (decide ((↑i:Int)<(↑c.sub.length:Int))) (.side ((0:Int)≤i∧(↑i:Int)<(↑c.sub.length:Int)) (.ex (fun(x:Con)=>eqL [(Con.conD (List.getD c.sub (↑i:Int).toNat Con.nil))] [(Con.conA x)]∧Con.nodes x<n∧Con.big x<1099511627776) fun n=>.all (fun(r:Nat)=>r=Con.depth n) fun n=>.side (inR .i64 ((↑i:Int)+(1:Int))) (.leaf (.back 0 [(1,.ptr 0 0),(3,.int .i64 (max (↑d:Int) (↑n:Int))),(4,.int .i64 ((↑i:Int)+(1:Int)))] [.box (Con.ze c)])))) (.side (inR .i64 ((↑d:Int)+(1:Int))) (.leaf (.ret [.int .i64 ((↑d:Int)+(1:Int))] [.box (Con.ze c)])))) (by kernel_rfl) ?_
   simp only [Tree.holds,zd,inR,lo,hi,Int.toNat_natCast]
   refine⟨fun hlt=> ?_,fun hge=> ?_⟩
   ·have hlt:i<c.sub.length:=by have:=of_decide_eq_true hlt; omega
    have hg:=Con.qq hlt
    have hgb:=Con.jB hlt
    have hsl2:Con.zo (c.sub.take (i+1))≤Con.zo c.sub:=Con.ur c.sub (i+1)
    have ht:=Con.jr c.sub i hlt
    refine⟨by omega,fun _=>⟨c.sub.getD i Con.nil,⟨⟨jm _,trivial⟩,by omega,by omega⟩,⟨_,rfl⟩,?_⟩⟩
    rintro _ rfl
    iterate 1 refine⟨by omega,fun _=> ?_⟩
    rw [if_pos trivial]
    refine⟨⟨i+1,hlt⟩,by show c.sub.length - (i+1)<c.sub.length - i; omega,?_,⟨zk c,trivial⟩,by kernel_rfl,Nat.zero_le _⟩
    simp [SDpr,ht]; omega
   ·have hge:i=c.sub.length:=by have:=of_decide_eq_false hge; omega
    subst hge
    rw [List.take_length] at hd
    refine⟨by omega,fun _=> ?_⟩
    exact RetR.scal hq rfl (by simp [resV]; omega)
 refine⟨c.x,⟨⟨zD c.x,trivial⟩,trivial⟩,⟨_,rfl⟩,?_⟩
 rintro _ rfl
 refine⟨fun h=>⟨c.x,⟨⟨zD c.x,trivial⟩,by show c.x.size<_; omega⟩,⟨_,rfl⟩,?_⟩,fun h=> ?_⟩
 ·rintro _ rfl
  exact loop c.x.depth _ (by unfold jL; rw [show q9 c.x=false by simpa using h]; rfl) rfl
 ·exact loop 0 _ (by unfold jL; rw [show q9 c.x=true by simpa using h]; rfl) rfl
theorem Up:zc Tryz.prog 88 yj:=zR Con.nodes zhj
def uK(n:Nat):Ctr:=ctrP true (fun c:Con=>[c.conA]) (fun c=>c.nodes<n∧c.big<2^40) (fun c r=>r=c.size) (fun _ (r:Nat)=>(.int .i64 (r:Int),[]))
noncomputable def GSzr:Nat→Option Ctr:=fun f=>if f=125 then some (ZO) else if f=77 then some (uD) else none
theorem zj3:∀ g c,GSzr g=some c→zc Tryz.prog g c:=okIf QW (okIf J3 (zp))
noncomputable def zl4(n:Nat):Nat→Option Ctr:=fun f=>if f=87 then some (uK n) else GSzr f
theorem XT{n:Nat}(h:zc Tryz.prog 87 (uK n)):∀ f c,zl4 n f=some c→zc Tryz.prog f c:=by
 intro f c hf
 simp only [zl4] at hf
 split at hf
 ·rename_i hg; subst hg; cases hf; exact h
 ·exact zj3 f c hf
def SSzr(d i:Nat):KV:=[(1,.ptr 0 0),(3,.int .i64 (d:Int)),(4,.int .i64 (i:Int))]
def HSzr(c:Con):Heap:=[.box c.ze]
theorem zhi(n:Nat)(ih:zc Tryz.prog 87 (uK n)):zc Tryz.prog 87 (uK (n+1)):=by
 refine zf (fn:=Tryz.f87) (c:=Tryz.f87.body.getD .skip) rfl rfl rfl fun c hp O w0 Q hq=> ?_
 obtain⟨hcn,hcb⟩:=hp
 replace hq:=hq _ rfl
 rw [Con.size_eq] at hq
 refine zb.run hmix (XT ih) [1,3,4] 400 (T:=.ex (fun(x:Ex)=>eqL [(Ex.exA c.x)] [x.exA]∧True) fun n=>.all (fun(r:Bool)=>r=q9 n) fun n=>.ite (!n) (.ex (fun(x:Ex)=>eqL [(Ex.exA c.x)] [x.exA]∧Ex.size x<4611686018427387904) fun n=>.all (fun(r:Nat)=>r=Ex.size n) fun n=>.side (inR .i64 ((1:Int)+n)) (.leaf (.loop (Prod.fst (lps K87 0)) (Prod.snd (lps K87 0)) [(1,.ptr 0 0),(3,.int .i64 ((1:Int)+n)),(4,.int .i64 0)] [.box (Con.ze c)]))) (.leaf (.loop (Prod.fst (lps K87 0)) (Prod.snd (lps K87 0)) [(1,.ptr 0 0),(3,.int .i64 1),(4,.int .i64 0)] [.box (Con.ze c)]))) (by kernel_rfl) ?_
 simp only [Tree.holds,zd,inR,lo,hi,Int.toNat_natCast]
 have hb:=hcb
 rw [Con.ju] at hb
 rw [Con.qN] at hcn
 have hxd:=vL c.x
 have hxs:=Con.xH c.x
 have hsd:=Con.yN c.sub
 have hss:=Con.kD c.sub
 have hl:=Con.qQ c.sub
 have loop:∀ (d0:Nat) (h:Heap),d0=1+wq c.x→h=[.box c.ze]→zb Tryz.prog Tryz.f87 O 0 w0 [] (fun _ _ _=>False) (RetR (uK (n+1)) 0 Q) (.code (.loop (lps K87 0).1)::(lps K87 0).2) (mk Tryz.f87.ntmps [(1,.ptr 0 0),(3,.int .i64 (d0:Int)),(4,.int .i64 0)] h):=by
  rintro d0 h rfl rfl
  refine zb.loop (ι:={i:Nat // i≤c.sub.length}) (fun i=>SSzr (1+wq c.x+Con.zo (c.sub.take i.1)) i.1) (fun _=>HSzr c) (fun i=>c.sub.length - i.1) ⟨0,Nat.zero_le _⟩ 0 ?_ ?_ (by kernel_rfl)
  ·exact⟨by simp [SSzr,Con.zw,Con.zo],⟨zk c,trivial⟩,by kernel_rfl,Nat.zero_le _⟩
  ·rintro⟨i,hil⟩
   have hdb:Con.zw (c.sub.take i)≤Con.zw c.sub:=Con.yl c.sub i
   have hsb:Con.zo (c.sub.take i)≤Con.zo c.sub:=Con.ur c.sub i
   obtain⟨d,hd⟩:∃ d,1+wq c.x+Con.zo (c.sub.take i)=d:=⟨_,rfl⟩
   simp only [hd]
   refine zb.run hmix (XT ih) [1,3,4] 400 (T:=.ite (decide ((↑i:Int)<(↑c.sub.length:Int))) (.side ((0:Int)≤i∧(↑i:Int)<(↑c.sub.length:Int)) (.ex (fun(x:Con)=>eqL [(Con.conD (List.getD c.sub (↑i:Int).toNat Con.nil))] [(Con.conA x)]∧Con.nodes x<n∧Con.big x<1099511627776) fun n=>.all (fun(r:Nat)=>r=Con.size n) fun n=>.side (inR .i64 ((↑d:Int)+n)) (.side (inR .i64 ((↑i:Int)+(1:Int))) (.leaf (.back 0 [(1,.ptr 0 0),(3,.int .i64 ((↑d:Int)+n)),(4,.int .i64 ((↑i:Int)+(1:Int)))] [.box (Con.ze c)]))))) (.leaf (.ret [.int .i64 d] [.box (Con.ze c)]))) (by kernel_rfl) ?_
   simp only [Tree.holds,zd,inR,lo,hi,Int.toNat_natCast]
   refine⟨fun hlt=> ?_,fun hge=> ?_⟩
   ·have hlt:i<c.sub.length:=by have:=of_decide_eq_true hlt; omega
    have hg:=Con.qq hlt
    have hgb:=Con.jB hlt
    have hsl2:Con.zo (c.sub.take (i+1))≤Con.zo c.sub:=Con.ur c.sub (i+1)
    have ht:=Con.ki hlt
    refine⟨by omega,fun _=>⟨c.sub.getD i Con.nil,⟨⟨jm _,trivial⟩,by omega,by omega⟩,⟨_,rfl⟩,?_⟩⟩
    rintro _ rfl
    iterate 2 refine⟨by omega,fun _=> ?_⟩
    rw [if_pos trivial]
    refine⟨⟨i+1,hlt⟩,by show c.sub.length - (i+1)<c.sub.length - i; omega,?_,⟨zk c,trivial⟩,by kernel_rfl,Nat.zero_le _⟩
    simp [SSzr,ht]; omega
   ·have hge:i=c.sub.length:=by have:=of_decide_eq_false hge; omega
    subst hge
    rw [List.take_length] at hd
    exact RetR.scal hq rfl (by simp [resV]; omega)
 refine⟨c.x,⟨⟨zD c.x,trivial⟩,trivial⟩,⟨_,rfl⟩,?_⟩
 rintro _ rfl
 refine⟨fun h=>⟨c.x,⟨⟨zD c.x,trivial⟩,by show c.x.size<_; omega⟩,⟨_,rfl⟩,?_⟩,fun h=> ?_⟩
 ·rintro _ rfl
  refine⟨by omega,fun _=> ?_⟩
  have:=loop (1+c.x.size) _ (by unfold wq; rw [show q9 c.x=false by simpa using h]; rfl) rfl
  rw [Int.natCast_add] at this
  exact this
 ·exact loop 1 _ (by unfold wq; rw [show q9 c.x=true by simpa using h]; rfl) rfl
def Vk:Ctr:=ctrP true (fun c:Con=>[c.conA]) (fun c=>c.big<2^40) (fun c r=>r=c.size) (fun _ (r:Nat)=>(.int .i64 (r:Int),[]))
theorem zba:zc Tryz.prog 87 Vk:=zR Con.nodes zhi
end Go.Proofs.Tryz
end
section
namespace Go.Sx
variable [Stat]
section
variable {P:Program}
theorem WM(a:AV):eqA0 a a:=by
 cases a<;>simp [eqA0]
 exact fun _ _ _ _=>rfl
theorem Zx:∀ l:List AV,eqL0 l l
 | []=>trivial
 | a::l=>⟨WM a,Zx l⟩
theorem zgh(a:AV):eqA a a:=by
 cases a with
 | agg l=>exact Zx l
 | tup l=>exact Zx l
 | _=>unfold eqA; exact WM _
theorem QM:∀ l:List AV,eqL l l
 | []=>trivial
 | a::l=>by
  unfold eqL
  split
  ·rename_i h1 h2; cases h1
  ·rename_i h1 h2; cases h1; cases h2; exact QM l
  ·rename_i h1 h2; cases h1; cases h2; exact⟨zgh _,QM l⟩
  ·rename_i hx; exact(hx _ _ _ _ rfl rfl).elim
end
end Go.Sx
end
section
namespace Go.Sx
variable [Stat]
section
variable {P:Program} {Γ:Nat→Option Ctr} {fn:Func}
def inlC(P:Program)(Γ:Nat→Option Ctr)(n:Nat)(fn:Func):Ctr where
 fresh:=false
 spec args hc:=match fn.body with
  | some c=>(run P Γ hc.length n [.code c] (k8 fn args hc)).bind fun lf=>match lf with
   | .ret st=>(resX P st fn.results.toList).bind fun rs=>bif decide (hc.length≤st.heap.length) then .leaf (exp2 st.heap (List.range st.heap.length) (resV rs),expH st.heap (List.range st.heap.length)) else .fail
   | _=>.fail
  | none=>.fail
theorem nodup_range':∀ (n s:Nat),jM (List.range' s n)=true
 | 0,_=>rfl
 | n+1,s=>by
  rw [List.range'_succ]
  simp only [jM,Bool.and_eq_true]
  refine⟨?_,nodup_range' n (s+1)⟩
  simp [List.contains_eq_mem,List.mem_range'_1]
theorem zU(b:Blk):eqB b b:=by
 cases b with
 | dead=>trivial
 | box l=>exact QM l
 | arr n sz g=>exact⟨rfl,rfl,fun _ _ _ _=>rfl⟩
 | arrI k n f=>exact⟨rfl,fun _ _ _ _=>rfl⟩
 | arrS n f=>exact⟨rfl,fun _ _ _ _=>rfl⟩
 | map ag sh has get pe=>exact⟨⟨rfl,.inr rfl⟩,rfl,fun _=>rfl,fun _ _=>rfl⟩
theorem zZ(h:Heap):eqH h h:=by
 induction h with
 | nil=>trivial
 | cons b l ih=>exact⟨zU b,ih⟩
theorem zfv{g n:Nat}(hmix:P.follows .mixedOrders=true)(hΓ:∀ g c,Γ g=some c→zc P g c)(hf:P.funcs[g]?=some fn) (hn:(fn.name == "runtime.NumGoroutine")=false):zc P g (inlC P Γ n fn):=by
 intro args hc Q hq hfr
 simp only [inlC] at hq
 cases hb:fn.body with
 | none=>rw [hb] at hq; exact hq.elim
 | some c=>
  rw [hb] at hq
  simp only [Tree.zn] at hq
  refine vf.plain (zku hf hb hn hfr fun O w0 σ0 hl=>Safe.run hmix (fun g c h=>(hΓ g c h).x) n (Tree.qf (fun lf h=> ?_) hq))
  cases lf with
  | ret st=>
   simp only [Tree.zn] at h
   refine Tree.qf (fun rs h=> ?_) h
   cases hd:decide (hc.length≤st.heap.length) with
   | false=>rw [hd] at h; exact h.elim
   | true=>
    rw [hd] at h
    have h:Q (exp2 st.heap (List.range st.heap.length) (resV rs),expH st.heap (List.range st.heap.length)):=h
    have hd:=of_decide_eq_true hd
    exact⟨List.range st.heap.length,by rw [List.range_eq_range']; exact nodup_range' _ _,fun i hi=>List.mem_range.1 hi,fun j hj=>by rw [List.getElem?_range (by omega)],fun h=>(by cases h),_,_,LeA.refl _,.inl (zZ _),by simp [expH],h⟩
  | _=>exact h.elim
end
end Go.Sx
end
section
namespace Go.Nov
open Go.Sx
structure OrdK{α:Type}(c:α→α→Int):Prop where
 lt:∀ a b d,c a b<0→c b d<0→c a d<0
 eq:∀ a b d,c a b<0→c b d=0→c a d<0
section
variable {α:Type} {c:α→α→Int} {z x:α}
def YG(c:α→α→Int)(x:α):List α→List α
 | []=>[x]
 | o::l=>if c o x<0 then o::YG c x l else if c o x=0 then x::l else x::o::l
end
theorem zlw{α:Type}{p:α→Bool}{z:α}{l:List α}(h:∀ j,j<l.length→p (l.getD j z)=true):l.all p=true:=by
 rw [List.all_eq_true]
 intro x hx
 obtain⟨j,hj,rfl⟩:=List.getElem_of_mem hx
 have:=h j hj
 simpa [List.getD,hj] using this
theorem zix{α:Type}{p:α→Bool}{z:α}{l:List α}{j:Nat}(hj:j<l.length)(h:p (l.getD j z)=false):l.all p=false:=by
 rw [List.all_eq_false]
 exact⟨l[j],List.getElem_mem hj,by simpa [List.getD,hj] using h⟩
theorem zmw{f:List Fx}{c:List Ch} : errE f c=0↔¬ (1000<f.length∨1000<c.length)∧f.all okF=true∧c.all okC=true∧ordB cmpF Fx.nil f=true∧ordB cmpC Ch.nil c=true:=by
 unfold errE
 by_cases hb:1000<f.length∨1000<c.length
 ·rw [if_pos hb]; simp [hb]
 ·rw [if_neg hb]
  by_cases h:(f.all okF&&c.all okC&&ordB cmpF Fx.nil f&&ordB cmpC Ch.nil c)=true
  ·rw [if_pos h]
   simp only [Bool.and_eq_true] at h
   exact⟨fun _=>⟨hb,h.1.1.1,h.1.1.2,h.1.2,h.2⟩,fun _=>rfl⟩
  ·rw [if_neg h]
   refine⟨fun h2=>by omega,fun h2=>absurd ?_ h⟩
   simp [h2.2.1,h2.2.2.1,h2.2.2.2.1,h2.2.2.2.2]
def zkn(l:List Fx)(a:List UInt8)(d:Int):List UInt8×Bool:=match l.find? fun x=>decide (x.name=a)&&decide (x.date=d) with
 | some x=>(x.value,true)
 | none=>([],false)
def putF(f:List Fx)(c:List Ch)(x:Fx):(List Fx×List Ch)×Int:=
 if errE f c≠0 then(([],[]),errE f c) else if(zN x.name&&dayB x.date)=false then(([],[]),2) else if errR x.value≠0 then(([],[]),errR x.value)
 else if 1000<(YG cmpF x f).length then(([],[]),22) else((YG cmpF x f,c),0)
end Go.Nov
end
section
set_option maxRecDepth 100000
open Go Go.Sx Go.Proofs Go.Nov
namespace Go.Proofs.Tryz
attribute [local simp] eqKV eqA eqA0 eqH eqB eqL eqL0
noncomputable def K117:List Go.Sx.Item:=[.code (Tryz.f117.body.getD .skip)]
noncomputable def K126:List Go.Sx.Item:=[.code (Tryz.f126.body.getD .skip)]
def za9:Ctr:=ctrP true (fun l:List Int=>[Con.dayS l]) (fun l=>l.length<2^40) (fun l r=>r=vM l) (fun _ (r:Bool)=>(.bool r,[]))
noncomputable def Yo:Ctr:=inlC Tryz.prog noG 100 Tryz.f116
theorem Vr:zc Tryz.prog 116 Yo:=zfv hmix zF rfl rfl
noncomputable def GDy:Nat→Option Ctr:=fun f=>if f=116 then some (Yo) else none
theorem zfq:∀ g c,GDy g=some c→zc Tryz.prog g c:=okIf Vr (zp)
def Yc(l:List Int)(i:Nat):Prop:=∀ j,j<i→dayB (l.getD j 0)=true∧(0<j→l.getD (j - 1) 0<l.getD j 0)
theorem WA{l:List Int}(h1:1≤l.length)(h2:l.length≤100)(h:Yc l l.length):vM l=true:=by
 unfold vM
 rw [decide_eq_true h1,decide_eq_true h2,zlw (z:=0) fun j hj=>(h j hj).1]
 simp only [Bool.true_and]
 unfold incB
 refine zej fun j hj=> ?_
 rw [zab]
 exact(h (j+1) hj).2 (by omega)
theorem Xy{l:List Int}{i:Nat}(hi:i<l.length)(h:¬ (dayB (l.getD i 0)=true∧(0<i→l.getD (i - 1) 0<l.getD i 0))):vM l=false:=by
 unfold vM
 by_cases hd:dayB (l.getD i 0)=true
 ·have h:0<i∧¬ l.getD (i - 1) 0<l.getD i 0:=by
   refine⟨?_,?_⟩
   ·rcases Nat.eq_zero_or_pos i with h0 | h0
    ·exact absurd ⟨hd,fun h1=>by omega⟩ h
    ·exact h0
   ·exact fun h1=>h ⟨hd,fun _=>h1⟩
  have:incB l=false:=by
   unfold incB
   refine zdd (j:=i - 1) (by omega) ?_
   rw [zab,show i - 1+1=i by omega]
   exact h.2
  rw [this]; simp
 ·have:l.all dayB=false:=zix (z:=0) hi (by simpa using hd)
  rw [this]; simp
theorem Jm{l:List Int}{i:Nat}(h:Yc l i)(h1:dayB (l.getD i 0)=true∧(0<i→l.getD (i - 1) 0<l.getD i 0)):Yc l (i+1):=fun j hj=>by
 rcases Nat.lt_or_ge j i with h2 | h2
 ·exact h j h2
 ·rw [show j=i by omega]; exact h1
theorem VR{l:List Int}{i:Nat}{b:Bool}(hb:b=dayB (l.getD i 0)):(bif !b then true else bif decide (0<(i:Int)) then decide (l.getD i 0≤l.getD ((i:Int) - 1).toNat 0) else false)=false↔(dayB (l.getD i 0)=true∧(0<i→l.getD (i - 1) 0<l.getD i 0)):=by
 have e:((i:Int) - 1).toNat=i - 1:=by omega
 rw [e,← hb]
 cases b with
 | false=>simp
 | true=>
  by_cases h0:0<i
  ·have h1:0<(i:Int):=by omega
   rw [decide_eq_true h1]
   simp only [Bool.not_true,cond_false,cond_true,decide_eq_false_iff_not,true_and]
   exact⟨fun h _=>by omega,fun h=>by have:=h h0; omega⟩
  ·have h1:¬ 0<(i:Int):=by omega
   rw [decide_eq_false h1]
   simp [h0]
theorem KD{l:List Int}{i:Nat}{b:Bool}(hb:b=dayB (l.getD i 0)):(bif !b then true else bif decide (0<(i:Int)) then decide (l.getD i 0≤l.getD ((i:Int) - 1).toNat 0) else false)=true→¬ (dayB (l.getD i 0)=true∧(0<i→l.getD (i - 1) 0<l.getD i 0)):=fun h g=>by
 rw [(VR hb).2 g] at h; cases h
def SDy(l:List Int)(i:Nat):KV:=[(0,Con.dayS l),(13,Con.dayS l),(14,.int .i64 (l.length:Int)),(15,.int .i64 (i:Int)),(24,.undef),(25,.undef),(26,.undef),(27,.undef),(28,.undef),(29,.undef),(30,.undef),(31,.undef),(32,.undef),(33,.undef),(34,.undef)]
def SDyr(l:List Int)(i:Nat):KV:=[(0,Con.dayS l),(3,.int .i64 (i:Int)),(17,.undef),(18,.undef),(19,.undef),(20,.undef),(21,.undef),(22,.undef),(23,.undef),(24,.undef),(25,.undef),(26,.undef),(27,.undef),(28,.undef),(29,.undef),(30,.undef),(36,.undef),(37,.undef),(38,.undef)]
theorem zl9(d:Int):(bif decide (0≤d) then decide (d≤99999) else false)=dayB d:=by
 rw [Bool.eq_iff_iff]
 simp [dayB]
theorem zij:zc Tryz.prog 117 za9:=by
 refine zf (fn:=Tryz.f117) (c:=Tryz.f117.body.getD .skip) rfl rfl rfl fun l hl O w0 Q hq=> ?_
 replace hq:=hq _ rfl
 refine zb.run hmix zfq [0,13,14,15,24,25,26,27,28,29,30,31,32,33,34] 400 (T:=.ite (bif decide ((↑l.length:Int)<1) then true else decide ((100:Int)<l.length)) (.leaf (.ret [.bool false] [])) (.leaf (.loop (Prod.fst (lps K117 0)) (Prod.snd (lps K117 0)) [(0,.sl l.length 1 (Con.dayG l)),(13,.sl l.length 1 (Con.dayG l)),(14,.int .i64 l.length),(15,.int .i64 0),(24,.undef),(25,.undef),(26,.undef),(27,.undef),(28,.undef),(29,.undef),(30,.undef),(31,.undef),(32,.undef),(33,.undef),(34,.undef)] []))) (by kernel_rfl) ?_
 simp only [Tree.holds,zd,inR,lo,hi,Int.toNat_natCast]
 refine⟨fun h=> ?_,fun h=> ?_⟩
 ·have hb:vM l=false:=by
   unfold vM
   by_cases h1:1≤l.length
   ·by_cases h2:l.length≤100
    ·rw [decide_eq_false (by omega),decide_eq_false (by omega)] at h; cases h
    ·rw [decide_eq_false h2]; simp
   ·rw [decide_eq_false h1]; simp
  rw [hb] at hq
  exact RetR.scal hq rfl rfl
 have hlen:1≤l.length∧l.length≤100:=by
  by_cases h1:(l.length:Int)<1
  ·rw [decide_eq_true h1] at h; cases h
  ·rw [decide_eq_false h1] at h
   have:=of_decide_eq_false h
   omega
 clear h
 refine zb.loop (ι:={i:Nat // i≤l.length∧Yc l i}) (fun i=>SDy l i.1) (fun _=>[]) (fun i=>l.length - i.1) ⟨0,Nat.zero_le _,fun j hj=>by omega⟩ 0 ?_ ?_ (by kernel_rfl)
 ·exact⟨by simp [SDy,Con.dayS,za],by simp,by kernel_rfl,Nat.zero_le _⟩
 rintro⟨i,hil,hg⟩
 refine zb.run hmix zfq [0,13,14,15,24,25,26,27,28,29,30,31,32,33,34] 400 (T:=.ite (decide ((↑i:Int)<l.length)) (.side ((0:Int)≤i∧(↑i:Int)<l.length) (.side ((!bif decide ((0:Int)≤List.getD l (↑i:Int).toNat (0:Int)) then decide (l.getD (↑i:Int).toNat (0:Int)≤99999) else false)=false∧decide ((0:Int)<i)=true→inR .i64 ((↑i:Int) - (1:Int))) (.side ((!bif decide ((0:Int)≤List.getD l (↑i:Int).toNat (0:Int)) then decide (l.getD (↑i:Int).toNat (0:Int)≤99999) else false)=false∧decide ((0:Int)<i)=true→(0:Int)≤i - (1:Int)∧(↑i:Int) - (1:Int)<l.length) (.ite (bif !bif decide ((0:Int)≤List.getD l (↑i:Int).toNat (0:Int)) then decide (l.getD (↑i:Int).toNat (0:Int)≤99999) else false then true else bif decide ((0:Int)<i) then decide (l.getD (↑i:Int).toNat (0:Int)≤List.getD l (Int.toNat ((↑i:Int) - (1:Int))) (0:Int)) else false) (.leaf (.ret [.bool false] [])) (.side (inR .i64 ((↑i:Int)+(1:Int))) (.leaf (.back 0 [(0,.sl l.length 1 (Con.dayG l)),(13,.sl l.length 1 (Con.dayG l)),(14,.int .i64 l.length),(15,.int .i64 ((↑i:Int)+(1:Int))),(24,.undef),(25,.undef),(26,.undef),(27,.undef),(28,.undef),(29,.undef),(30,.undef),(31,.undef),(32,.undef),(33,.undef),(34,.undef)] []))))))) (.leaf (.ret [.bool true] []))) (by kernel_rfl) ?_
 simp only [Tree.holds,zd,inR,lo,hi,Int.toNat_natCast]
 refine⟨fun hlt=> ?_,fun hge=> ?_⟩
 ·have hlt:i<l.length:=by have:=of_decide_eq_true hlt; omega
  refine⟨by omega,fun _=>⟨fun h=>(by have:=of_decide_eq_true h.2; omega),fun _=>⟨fun h=>(by have:=of_decide_eq_true h.2; omega),fun _=>⟨fun ht=> ?_,fun ht=>⟨by omega,fun _=> ?_⟩⟩⟩⟩⟩
  ·rw [Xy hlt (KD (zl9 _) ht)] at hq
   exact RetR.scal hq rfl rfl
  ·rw [if_pos trivial]
   exact⟨⟨i+1,hlt,Jm hg ((VR (zl9 _)).1 ht)⟩,by show l.length - (i+1)<l.length - i; omega,by simp [SDy,Con.dayS,za],by simp,by kernel_rfl,Nat.zero_le _⟩
 ·have hge:i=l.length:=by have:=of_decide_eq_false hge; omega
  subst hge
  rw [WA hlen.1 hlen.2 hg] at hq
  exact RetR.scal hq rfl rfl
noncomputable def GDyr:Nat→Option Ctr:=fun f=>if f=52 then some (xp) else none
theorem UN:∀ g c,GDyr g=some c→zc Tryz.prog g c:=okIf Qn (zp)
theorem zgx:zc Tryz.prog 126 za9:=by
 refine zf (fn:=Tryz.f126) (c:=Tryz.f126.body.getD .skip) rfl rfl rfl fun l hl O w0 Q hq=> ?_
 replace hq:=hq _ rfl
 refine zb.run hmix UN [0,3,17,18,19,20,21,22,23,24,25,26,27,28,29,30,36,37,38] 400 (T:=.leaf (.loop (Prod.fst (lps K126 0)) (Prod.snd (lps K126 0)) [(0,.sl l.length 1 (Con.dayG l)),(3,.int .i64 0),(17,.undef),(18,.undef),(19,.undef),(20,.undef),(21,.undef),(22,.undef),(23,.undef),(24,.undef),(25,.undef),(26,.undef),(27,.undef),(28,.undef),(29,.undef),(30,.undef),(36,.undef),(37,.undef),(38,.undef)] [])) (by kernel_rfl) ?_
 simp only [Tree.holds,zd,inR,lo,hi,Int.toNat_natCast]
 refine zb.loop (ι:={i:Nat // i≤l.length∧Yc l i}) (fun i=>SDyr l i.1) (fun _=>[]) (fun i=>l.length - i.1) ⟨0,Nat.zero_le _,fun j hj=>by omega⟩ 0 ?_ ?_ (by kernel_rfl)
 ·exact⟨by simp [SDyr,Con.dayS,za],by simp,by kernel_rfl,Nat.zero_le _⟩
 rintro⟨i,hil,hg⟩
 refine zb.run hmix UN [0,3,17,18,19,20,21,22,23,24,25,26,27,28,29,30,36,37,38] 400 (T:=.ite (decide ((↑i:Int)<l.length)) (.side ((0:Int)≤i∧(↑i:Int)<l.length) (.ex (fun(x:Int)=>eqL [AV.int .i64 (l.getD (↑i:Int).toNat (0:Int))] [AV.int .i64 x]∧True) fun n=>.all (fun(r:Bool)=>r=dayB n) fun n=>.side ((!n)=false∧decide ((0:Int)<i)=true→(0:Int)≤i∧(↑i:Int)<l.length) (.side ((!n)=false∧decide ((0:Int)<i)=true→inR .i64 ((↑i:Int) - (1:Int))) (.side ((!n)=false∧decide ((0:Int)<i)=true→(0:Int)≤i - (1:Int)∧(↑i:Int) - (1:Int)<l.length) (.ite (bif !n then true else bif decide ((0:Int)<i) then decide (l.getD (↑i:Int).toNat (0:Int)≤List.getD l (Int.toNat ((↑i:Int) - (1:Int))) (0:Int)) else false) (.leaf (.ret [.bool false] [])) (.side (inR .i64 ((↑i:Int)+(1:Int))) (.leaf (.back 0 [(0,.sl l.length 1 (Con.dayG l)),(3,.int .i64 ((↑i:Int)+(1:Int))),(17,.undef),(18,.undef),(19,.undef),(20,.undef),(21,.undef),(22,.undef),(23,.undef),(24,.undef),(25,.undef),(26,.undef),(27,.undef),(28,.undef),(29,.undef),(30,.undef),(36,.undef),(37,.undef),(38,.undef)] [])))))))) (.leaf (.ret [.bool (bif decide ((1:Int)≤l.length) then decide ((↑l.length:Int)≤100) else false)] []))) (by kernel_rfl) ?_
 simp only [Tree.holds,zd,inR,lo,hi,Int.toNat_natCast]
 refine⟨fun hlt=> ?_,fun hge=> ?_⟩
 ·have hlt:i<l.length:=by have:=of_decide_eq_true hlt; omega
  refine⟨by omega,fun _=>⟨l.getD i 0,⟨by simp,trivial⟩,⟨_,rfl⟩,?_⟩⟩
  rintro _ rfl
  refine⟨fun _=>(by omega),fun _=>⟨fun h=>(by have:=of_decide_eq_true h.2; omega),fun _=>⟨fun h=>(by have:=of_decide_eq_true h.2; omega),fun _=>⟨fun ht=> ?_,fun ht=>⟨by omega,fun _=> ?_⟩⟩⟩⟩⟩
  ·rw [Xy hlt (KD rfl ht)] at hq
   exact RetR.scal hq rfl rfl
  ·rw [if_pos trivial]
   exact⟨⟨i+1,hlt,Jm hg ((VR rfl).1 ht)⟩,by show l.length - (i+1)<l.length - i; omega,by simp [SDyr,Con.dayS,za],by simp,by kernel_rfl,Nat.zero_le _⟩
 ·have hge:i=l.length:=by have:=of_decide_eq_false hge; omega
  subst hge
  have e:(bif decide (1≤(l.length:Int)) then decide ((l.length:Int)≤100) else false)=vM l:=by
   by_cases h1:1≤l.length
   ·by_cases h2:l.length≤100
    ·rw [WA h1 h2 hg,decide_eq_true (by omega),decide_eq_true (by omega)]; rfl
    ·rw [decide_eq_true (by omega),decide_eq_false (by omega)]; unfold vM; rw [decide_eq_false h2]; simp
   ·rw [decide_eq_false (by omega)]; unfold vM; rw [decide_eq_false h1]; simp
  rw [e]
  exact RetR.scal hq rfl rfl
def bitB(p q:Int):Bool:=decide (((p.toNat &&& q.toNat:Nat):Int)≠0)
def HHas(p:Int):Heap:=[.box [.int .i64 p]]
def hasC:Ctr:=ctrT false false (fun p:Int×Int=>[.int .i64 p.2,.ptr 0 0]) (fun p=>HHas p.1) (fun p=>0≤p.1∧p.1<512∧0≤p.2∧p.2<512) (fun p r=>r=bitB p.1 p.2) (fun p (r:Bool)=>(.bool r,HHas p.1))
theorem zg6:zc Tryz.prog 112 hasC:=by
 refine qD (fn:=Tryz.f112) (c:=Tryz.f112.body.getD .skip) rfl rfl rfl (fun h=>by cases h) fun p hp O w0 σ0 Q hl0 hq=> ?_
 obtain⟨p,q⟩:=p
 obtain⟨h1,h2,h3,h4⟩:=hp
 replace hq:=hq _ rfl
 simp only at h1 h2 h3 h4 hq
 refine zb.run hmix zF [] 400 (T:=.side (((0:Int)≤p∧p≤9223372036854775807)∧(0:Int)≤q∧q≤9223372036854775807) (.leaf (.ret [.bool !decide ((↑(Int.toNat p &&& Int.toNat q):Int)=0)] [.box [.int .i64 p]]))) (by kernel_rfl) ?_
 simp only [Tree.holds,zd,inR,lo,hi,Int.toNat_natCast]
 refine⟨by omega,fun _=> ?_⟩
 refine RetR.keep [0] rfl rfl (by show ∀ j,j<1→_; decide) rfl hq ?_ ?_ rfl
 ·show(!decide (((p.toNat &&& q.toNat:Nat):Int)=0))=bitB p q
  simp [bitB]
 ·exact⟨⟨⟨rfl,rfl⟩,trivial⟩,trivial⟩
noncomputable def GNd2:Nat→Option Ctr:=fun f=>if f=112 then some (hasC) else if f=49 then some (yC) else none
theorem zjd:∀ g c,GNd2 g=some c→zc Tryz.prog g c:=okIf zg6 (okIf VE (zp))
def zkw(p:Int):Heap:=[.box [.fn 112 [] [.ptr 1 0]],.box [.int .i64 p]]
def wi(b:Bool)(s:List UInt8):Bool:=if b=true then zN s else decide (s=[])
def zlb:Ctr:=ctrT false false (fun p:Int×Int×List UInt8=>[.int .i64 p.2.1,.str p.2.2,.ptr 0 0]) (fun p=>zkw p.1) (fun p=>0≤p.1∧p.1<512∧0≤p.2.1∧p.2.1<512∧p.2.2.length<2^62) (fun p r=>r=wi (bitB p.1 p.2.1) p.2.2) (fun p (r:Bool)=>(.bool r,zkw p.1))
theorem ziw:zc Tryz.prog 113 zlb:=by
 refine qD (fn:=Tryz.f113) (c:=Tryz.f113.body.getD .skip) rfl rfl rfl (fun h=>by cases h) fun p hp O w0 σ0 Q hl0 hq=> ?_
 obtain⟨p,q,s⟩:=p
 obtain⟨h1,h2,h3,h4,h5⟩:=hp
 replace hq:=hq _ rfl
 simp only at h1 h2 h3 h4 h5 hq
 refine zb.run hmix zjd [] 400 (T:=.ex (fun(x:Int×Int)=>eqL [AV.int .i64 q,AV.ptr 0 0] [AV.int .i64 x.2,AV.ptr 0 0]∧eqH [.box [AV.int .i64 p]] [.box [AV.int .i64 x.1]]∧1=1∧(0:Int)≤x.1∧x.1<512∧(0:Int)≤x.2∧x.2<512) fun n=>.all (fun(r:Bool)=>r=bitB n.1 n.2) fun n_1=>.ex (fun(x:List UInt8)=>n_1=true→eqL [AV.str s] [AV.str x]∧x.length<4611686018427387904) fun n_2=>.all (fun(x:Bool)=>n_1=true→x=zN n_2) fun n_3=>.ite ((bif n_1 then n_3 else false) == false) (.ex (fun(x:Int×Int)=>eqL [AV.int .i64 q,AV.ptr 0 0] [AV.int .i64 x.2,AV.ptr 0 0]∧eqH [.box [AV.int .i64 n.1]] [.box [AV.int .i64 x.1]]∧1=1∧(0:Int)≤x.1∧x.1<512∧(0:Int)≤x.2∧x.2<512) fun n=>.all (fun(r:Bool)=>r=bitB n.1 n.2) fun n_4=>.leaf (.ret [.bool (bif bif n_1 then n_3 else false then true else bif !n_4 then decide (s=#[].toList) else false)] [.box [.fn 112 [] [.ptr 1 0]],.box [.int .i64 n.1]])) (.leaf (.ret [.bool (bif bif n_1 then n_3 else false then true else bif !false then decide (s=#[].toList) else false)] [.box [.fn 112 [] [.ptr 1 0]],.box [.int .i64 n.1]]))) (by kernel_rfl) ?_
 simp only [Tree.holds,zd,inR,lo,hi,Int.toNat_natCast]
 refine⟨(p,q),⟨⟨⟨rfl,rfl⟩,⟨rfl,rfl⟩,trivial⟩,⟨⟨⟨rfl,rfl⟩,trivial⟩,trivial⟩,trivial,h1,h2,h3,h4⟩,⟨_,rfl⟩,?_⟩
 rintro b rfl
 refine⟨s,fun _=>⟨⟨rfl,trivial⟩,h5⟩,⟨zN s,fun _=>rfl⟩,fun m hm=>⟨fun hb=> ?_,fun hb=> ?_⟩⟩
 ·refine⟨(p,q),⟨⟨⟨rfl,rfl⟩,⟨rfl,rfl⟩,trivial⟩,⟨⟨⟨rfl,rfl⟩,trivial⟩,trivial⟩,trivial,h1,h2,h3,h4⟩,⟨_,rfl⟩,?_⟩
  rintro b rfl
  refine RetR.keep [0,1] rfl rfl (by show ∀ j,j<2→_; decide) rfl hq ?_ ?_ rfl
  ·simp only [exp2,exp1,exp0,resV,eqA2,wi]
   cases hbb:bitB p q with
   | true=>
    have:=hm hbb
    rw [hbb] at hb
    subst this
    have:zN s=false:=by simpa using hb
    rw [this]; rfl
   | false=>simp; rfl
  ·exact⟨⟨rfl,trivial⟩,⟨⟨rfl,rfl⟩,trivial⟩,trivial⟩
 ·refine RetR.keep [0,1] rfl rfl (by show ∀ j,j<2→_; decide) rfl hq ?_ ?_ rfl
  ·simp only [exp2,exp1,exp0,resV,eqA2,wi]
   cases hbb:bitB p q with
   | true=>
    have:=hm hbb
    rw [hbb] at hb
    subst this
    have:zN s=true:=by simpa using hb
    rw [this]; rfl
   | false=>rw [hbb] at hb; simp at hb
  ·exact⟨⟨rfl,trivial⟩,⟨⟨rfl,rfl⟩,trivial⟩,trivial⟩
noncomputable def GNd:Nat→Option Ctr:=fun f=>if f=112 then some (hasC) else if f=113 then some (zlb) else if f=114 then some ((Qg 1)) else if f=115 then some ((Qg 2)) else if f=108 then some (ZO) else if f=116 then some (Yo) else if f=117 then some (za9) else none
theorem Zz:∀ g c,GNd g=some c→zc Tryz.prog g c:=okIf zg6 (okIf ziw (okIf zm1 (okIf zg2 (okIf VQ (okIf Vr (okIf zij (zp)))))))
end Go.Proofs.Tryz
end
section
namespace Go.Sx
variable [Stat]
section
variable {O:Nat→Prop} {pin:Nat} {w0:World} {σ0:List SE} {P:Program} {fn:Func} {Xp:List PanicEntry→Prop}
def fstC:Code→Code
 | .seq a _=>a
 | c=>c
def sndC:Code→Code
 | .seq _ b=>b
 | c=>c
def blkC:Code→Code
 | .block _ c=>c
 | c=>c
def blkI:Code→Nat
 | .block i _=>i
 | _=>0
theorem zb.cut{M:Option Nat}{ι:Type}{Hs:Nat→KV→Heap→Prop}{R:List AV→Heap→Prop}{k:List Item}{c:Code}{st:St}(S:ι→KV)(H:ι→Heap)(dk:Nat)
  (h1:zJ Xp M P fn O pin w0 σ0 (fun d kv h=>if d=dk then ∃ x,LeK pin fn.ntmps kv h (S x) (H x) else Hs d kv h) R (.code c::.inLoop::k) st) (hd:j0 k=dk)
  (h2:∀ x,zJ Xp M P fn O pin w0 σ0 Hs R k (mk fn.ntmps (S x) (H x))):zJ Xp M P fn O pin w0 σ0 Hs R (.code c::k) st:=by
 subst hd
 intro w σ a hm
 have:=h1 w σ a hm
 simp only [wpK] at this ⊢
 refine wpIn_mono this fun e a' w' he=> ?_
 cases e with
 | normal=>
  simp only [wpK] at he
  obtain⟨st',σ',⟨kv,h,hh,rfl⟩,hm'⟩:=he
  rw [if_pos trivial] at hh
  obtain⟨x,hle⟩:=hh
  exact h2 x w' _ a' (hle.le.mod hm')
 | _=>
  simp only [wpK] at he
  refine jg (fun d a w hd hh=> ?_) he
  obtain⟨st',σ',⟨kv,h,hh,rfl⟩,hm'⟩:=hh
  rw [if_neg (by omega)] at hh
  exact⟨_,σ',⟨kv,h,hh,rfl⟩,hm'⟩
theorem zb.seq{M:Option Nat}{Hs:Nat→KV→Heap→Prop}{R:List AV→Heap→Prop}{k:List Item}{c:Code}{st:St}(hc:c = .seq (fstC c) (sndC c))
  (h:zJ Xp M P fn O pin w0 σ0 Hs R (.code (fstC c)::.code (sndC c)::k) st):zJ Xp M P fn O pin w0 σ0 Hs R (.code c::k) st:=by
 rw [hc]
 generalize fstC c=a at h
 generalize sndC c=b at h
 intro w σ act hm
 have:=h w σ act hm
 simp only [wpK] at this ⊢
 refine wpIn_seq (wpIn_mono this fun e a w h=> ?_)
 cases e<;>exact h
theorem zb.block{M:Option Nat}{Hs:Nat→KV→Heap→Prop}{R:List AV→Heap→Prop}{k:List Item}{c:Code}{st:St}(hc:c = .block (blkI c) (blkC c))
  (h:zJ Xp M P fn O pin w0 σ0 Hs R (.code (blkC c)::.inBlock (blkI c)::k) st):zJ Xp M P fn O pin w0 σ0 Hs R (.code c::k) st:=by
 rw [hc]
 generalize blkC c=a at h
 generalize blkI c=i at h
 intro w σ act hm
 have:=h w σ act hm
 simp only [wpK] at this ⊢
 refine wpIn_block (wpIn_mono this fun e a w h=> ?_)
 cases e<;>exact h
end
end Go.Sx
end
section
namespace Go.Sx
variable [Stat]
section
variable {O:Nat→Prop} {pin:Nat} {w0:World} {σ0:List SE} {P:Program} {fn:Func} {Xp:List PanicEntry→Prop}
def Z6:Nat→Code→List Item
 | n+1,.seq a b=>.code a::Z6 n b
 | _,c=>[.code c]
theorem JO{M:Option Nat}{H:Nat→Act→World→Prop}{B:Exit→Act→World→Prop}{k:List Item}{e:Exit}(he:e≠.normal){a:Act}{w:World} : ∀ (n:Nat) (c:Code),wpK M P H B (Z6 n c++k) e a w→wpK M P H B k e a w
 | 0,c,h=>by cases c<;>cases e<;>first | exact absurd rfl he | exact h
 | n+1,c,h=>by
  cases c with
  | seq x y=>cases e<;>first | exact absurd rfl he | exact JO he n y h
  | _=>cases e<;>first | exact absurd rfl he | exact h
theorem WT{M:Option Nat}{H:Nat→Act→World→Prop}{B:Exit→Act→World→Prop} : ∀ (n:Nat) (c:Code) (k:List Item) (a:Act) (w:World),wpK M P H B (Z6 n c++k) .normal a w→wpK M P H B (.code c::k) .normal a w
 | 0,c,k,a,w,h=>by cases c<;>exact h
 | n+1,c,k,a,w,h=>by
  cases c with
  | seq x y=>
   simp only [Z6,List.cons_append,wpK] at h ⊢
   refine wpIn_seq (wpIn_mono h fun e a w h=> ?_)
   cases e with
   | normal=>exact WT n y k a w h
   | _=>exact JO (by simp) n y h
  | _=>exact h
theorem zb.spine{M:Option Nat}{Hs:Nat→KV→Heap→Prop}{R:List AV→Heap→Prop}{k:List Item}{c:Code}{st:St}(n:Nat)(h:zJ Xp M P fn O pin w0 σ0 Hs R (Go.Sx.Z6 n c++k) st):zJ Xp M P fn O pin w0 σ0 Hs R (.code c::k) st:=
 fun w σ a hm=>WT n c k a w (h w σ a hm)
def QB:Item→Bool
 | .inLoop=>false
 | _=>true
theorem xl{M:Option Nat}{H H':Nat→Act→World→Prop}{B:Exit→Act→World→Prop}{k:List Item}(h1:∀ a w,H' (j0 k) a w→wpK M P H B k .normal a w)(h2:∀ d a w,d<j0 k→H' d a w→H d a w) :
  ∀ (ks:List Item),ks.all QB=true→∀ (e:Exit) (a:Act) (w:World),wpK M P H' B (ks++.inLoop::k) e a w→wpK M P H B (ks++k) e a w
 | [],_,e,a,w,h=>by
  cases e with
  | normal=>exact h1 a w h
  | _=>exact jg (k:=k) (fun d a w hd h=>h2 d a w hd h) h
 | .code c::ks,hf,e,a,w,h=>by
  have hf':ks.all QB=true:=by simpa [QB] using hf
  cases e with
  | normal=>exact wpIn_mono h fun e a w h=>xl h1 h2 ks hf' e a w h
  | _=>exact xl h1 h2 ks hf' _ a w h
 | .inBlock id::ks,hf,e,a,w,h=>by
  have hf':ks.all QB=true:=by simpa [QB] using hf
  cases e with
  | normal=>exact xl h1 h2 ks hf' _ a w h
  | exit i=>
   simp only [List.cons_append,wpK] at h ⊢
   split at h
   ·rename_i hi; rw [if_pos hi]; exact xl h1 h2 ks hf' _ a w h
   ·rename_i hi; rw [if_neg hi]; exact xl h1 h2 ks hf' _ a w h
  | _=>exact xl h1 h2 ks hf' _ a w h
 | .inLoop::ks,hf,e,a,w,h=>by simp [QB] at hf
theorem zb.cutL{M:Option Nat}{ι:Type}{Hs:Nat→KV→Heap→Prop}{R:List AV→Heap→Prop}{st:St}(L:List Item)(m dk:Nat)(S:ι→KV)(H:ι→Heap)(hf:(L.take m).all QB=true)(hd:j0 (L.drop m)=dk)
  (h1:zJ Xp M P fn O pin w0 σ0 (fun d kv h=>if d=dk then ∃ x,LeK pin fn.ntmps kv h (S x) (H x) else Hs d kv h) R (L.take m++.inLoop::L.drop m) st)
  (h2:∀ x,zJ Xp M P fn O pin w0 σ0 Hs R (L.drop m) (mk fn.ntmps (S x) (H x))):zJ Xp M P fn O pin w0 σ0 Hs R L st:=by
 subst hd
 intro w σ a hm
 have:=h1 w σ a hm
 rw [← List.take_append_drop m L]
 refine xl ?_ ?_ (L.take m) hf .normal a w this
 ·rintro a' w' ⟨st',σ',⟨kv,h,hh,rfl⟩,hm'⟩
  rw [if_pos rfl] at hh
  obtain⟨x,hle⟩:=hh
  exact h2 x w' _ a' (hle.le.mod hm')
 ·rintro d a' w' hd ⟨st',σ',⟨kv,h,hh,rfl⟩,hm'⟩
  rw [if_neg (by omega)] at hh
  exact⟨_,σ',⟨kv,h,hh,rfl⟩,hm'⟩
end
end Go.Sx
end
section
set_option maxRecDepth 100000
open Go Go.Sx Go.Proofs Go.Nov
def Go.Nov.Con.p(c:Con):Int:=kP c.kind
namespace Go.Proofs.Tryz
attribute [local simp] eqKV eqA eqA0 eqH eqB eqL eqL0
def zfy:Ctr:=ctrP true (fun c:Con=>[c.conA]) (fun c=>c.big<2^40) (fun c r=>r=c.x9) (fun _ (r:Bool)=>(.bool r,[]))
noncomputable def LN:List Go.Sx.Item:=Z6 12 (Tryz.f63.body.getD .skip)++[]
noncomputable def LN1:List Go.Sx.Item:=LN.drop 6
noncomputable def LN2:List Go.Sx.Item:=LN1.drop 1
noncomputable def LN3:List Go.Sx.Item:=LN2.drop 3
noncomputable def LN4:List Go.Sx.Item:=LN3.drop 1
noncomputable def LN5:List Go.Sx.Item:=LN4.drop 1
def HNd(c:Con):Heap:=[.box c.ze,.box [.int .i64 c.p],.box [.fn 112 [] [.ptr 1 0]]]
def SN1:KV:=[(1,.ptr 0 0),(5,.ptr 2 0),(6,.fn 113 [] [.ptr 2 0])]
def SN2(a:Bool):KV:=[(1,.ptr 0 0),(4,.bool a),(5,.ptr 2 0)]
def SN3(a:Bool)(m:Int):KV:=[(1,.ptr 0 0),(4,.bool a),(5,.ptr 2 0),(7,.int .i64 m)]
def SN4(a:Bool)(m:Int)(b:Bool):KV:=[(1,.ptr 0 0),(4,.bool a),(5,.ptr 2 0),(7,.int .i64 m),(8,.bool b)]
def SN5(a:Bool)(m:Int)(b d:Bool):KV:=[(1,.ptr 0 0),(4,.bool a),(7,.int .i64 m),(8,.bool b),(9,.bool d)]
namespace Nd
def words(c:Con):Prop:=wi (bitB c.p 1) c.src=true∧wi (bitB c.p 2) c.dst=true∧wi (bitB c.p 4) c.name=true∧¬ (bitB c.p 2=true∧c.src=c.dst)
def okX(c:Con):Bool:=if bitB c.p 8=true then numX c.x else if bitB c.p 16=true then truX c.x else q9 c.x
def subs(c:Con):Int:=if bitB c.p 256=true then 2 else if bitB c.p 128=true then 1 else 0
def right(c:Con):Bool:=if bitB c.p 32=true then dayB c.date else decide (c.date=0)
def list(c:Con):Bool:=if bitB c.p 64=true then vM c.days else decide (c.days.length=0)
end Nd
theorem zbk(k:Int):0≤kP k∧kP k<512:=by
 unfold kP
 repeat' split
 all_goals decide
theorem WG{c:Con}(hk:1≤c.kind∧c.kind≤10):c.x9=true↔Nd.words c∧Nd.okX c=true∧Nd.right c=true∧Nd.list c=true∧(c.sub.length:Int)=Nd.subs c:=by
 have hr:c.kind=1∨c.kind=2∨c.kind=3∨c.kind=4∨c.kind=5∨c.kind=6∨c.kind=7∨c.kind=8∨c.kind=9∨c.kind=10:=by omega
 unfold Con.x9 vN Nd.words Nd.okX Nd.right Nd.list Nd.subs Con.p kP wi bitB
 generalize c.kind=k at hr hk
 generalize c.src=a
 generalize c.dst=b
 generalize c.name=n
 generalize c.x=x
 generalize c.date=d
 generalize c.days=l
 generalize c.sub.length=m
 rcases hr with rfl | rfl | rfl | rfl | rfl | rfl | rfl | rfl | rfl | rfl
 all_goals
  simp
  grind
theorem XP{c:Con}(h:¬ ((1≤c.kind∧c.kind≤10)∧Nd.words c)):c.x9=false:=by
 by_cases hk:1≤c.kind∧c.kind≤10
 ·rw [Bool.eq_false_iff]
  exact fun hh=>h ⟨hk,((WG hk).1 hh).1⟩
 ·unfold Con.x9 vN
  rw [if_neg (by omega),if_neg (by omega),if_neg (by omega),if_neg (by omega),if_neg (by omega),if_neg (by omega),if_neg (by omega),if_neg (by omega),if_neg (by omega)]
theorem zie:zc Tryz.prog 63 zfy:=by
 refine zf (fn:=Tryz.f63) (c:=Tryz.f63.body.getD .skip) rfl rfl rfl fun c hc O w0 Q hq=> ?_
 replace hq:=hq _ rfl
 have hb:=hc
 rw [Con.ju] at hb
 obtain⟨hp0,hp1⟩:=zbk c.kind
 refine zb.spine 12 ?_
 refine zb.cutL (ι:={u:Unit // (1≤c.kind∧c.kind≤10)∧Nd.words c}) LN 6 0 (fun _=>SN1) (fun _=>HNd c) (by kernel_rfl) (by kernel_rfl) ?_ ?_
 ·refine zb.run hmix Zz [1,5,6] 400 (T:=.ite (decide ((1:Int)≤Con.kind c∧Con.kind c≤10)) (.ite false (.leaf (.ret [.bool false] [.box (Con.ze c),.box [.int .i64 (kP c.kind)]])) (.ex (fun(x:Int×Int×List UInt8)=>eqL [AV.int .i64 1,AV.str c.src,AV.ptr 0 0] [AV.int .i64 x.2.1,AV.str x.2.2,AV.ptr 0 0]∧eqH [.box [AV.fn 112 [] [AV.ptr 1 0]],.box [AV.int .i64 (kP c.kind)]] [.box [AV.fn 112 [] [AV.ptr 1 0]],.box [AV.int .i64 x.1]]∧2=2∧(0:Int)≤x.1∧x.1<512∧(0:Int)≤x.2.1∧x.2.1<512∧x.2.2.length<4611686018427387904) fun n=>.all (fun(r:Bool)=>r=wi (bitB n.1 n.2.1) n.2.2) fun n_1=>.ite ((!n_1) == false) (.ex (fun(x:Int×Int×List UInt8)=>eqL [AV.int .i64 2,AV.str c.dst,AV.ptr 0 0] [AV.int .i64 x.2.1,AV.str x.2.2,AV.ptr 0 0]∧eqH [.box [AV.fn 112 [] [AV.ptr 1 0]],.box [AV.int .i64 n.1]] [.box [AV.fn 112 [] [AV.ptr 1 0]],.box [AV.int .i64 x.1]]∧2=2∧(0:Int)≤x.1∧x.1<512∧(0:Int)≤x.2.1∧x.2.1<512∧x.2.2.length<4611686018427387904) fun n=>.all (fun(r:Bool)=>r=wi (bitB n.1 n.2.1) n.2.2) fun n_2=>.ite ((bif !n_1 then true else !n_2) == false) (.ex (fun(x:Int×Int×List UInt8)=>eqL [AV.int .i64 4,AV.str c.name,AV.ptr 0 0] [AV.int .i64 x.2.1,AV.str x.2.2,AV.ptr 0 0]∧eqH [.box [AV.fn 112 [] [AV.ptr 1 0]],.box [AV.int .i64 n.1]] [.box [AV.fn 112 [] [AV.ptr 1 0]],.box [AV.int .i64 x.1]]∧2=2∧(0:Int)≤x.1∧x.1<512∧(0:Int)≤x.2.1∧x.2.1<512∧x.2.2.length<4611686018427387904) fun n=>.all (fun(r:Bool)=>r=wi (bitB n.1 n.2.1) n.2.2) fun n_3=>.ite ((bif bif !n_1 then true else !n_2 then true else !n_3) == false) (.ex (fun(x:Int×Int)=>eqL [AV.int .i64 2,AV.ptr 0 0] [AV.int .i64 x.2,AV.ptr 0 0]∧eqH [.box [AV.int .i64 n.1]] [.box [AV.int .i64 x.1]]∧1=1∧(0:Int)≤x.1∧x.1<512∧(0:Int)≤x.2∧x.2<512) fun n=>.all (fun(r:Bool)=>r=bitB n.1 n.2) fun n_4=>.ite (bif bif bif !n_1 then true else !n_2 then true else !n_3 then true else bif n_4 then decide (Con.src c=Con.dst c) else false) (.leaf (.ret [.bool false] [.box (Con.ze c),.box [.int .i64 n.1],.box [.fn 112 [] [.ptr 1 0]]])) (.leaf (.back 0 [(1,.ptr 0 0),(5,.ptr 2 0),(6,.fn 113 [] [.ptr 2 0])] [.box (Con.ze c),.box [.int .i64 n.1],.box [.fn 112 [] [.ptr 1 0]]]))) (.ite (bif bif bif !n_1 then true else !n_2 then true else !n_3 then true else bif false then decide (Con.src c=Con.dst c) else false) (.leaf (.ret [.bool false] [.box (Con.ze c),.box [.int .i64 n.1],.box [.fn 112 [] [.ptr 1 0]]])) (.leaf (.back 0 [(1,.ptr 0 0),(5,.ptr 2 0),(6,.fn 113 [] [.ptr 2 0])] [.box (Con.ze c),.box [.int .i64 n.1],.box [.fn 112 [] [.ptr 1 0]]])))) (.ite ((bif bif !n_1 then true else !n_2 then true else !false) == false) (.ex (fun(x:Int×Int)=>eqL [AV.int .i64 2,AV.ptr 0 0] [AV.int .i64 x.2,AV.ptr 0 0]∧eqH [.box [AV.int .i64 n.1]] [.box [AV.int .i64 x.1]]∧1=1∧(0:Int)≤x.1∧x.1<512∧(0:Int)≤x.2∧x.2<512) fun n=>.all (fun(r:Bool)=>r=bitB n.1 n.2) fun n_3=>.ite (bif bif bif !n_1 then true else !n_2 then true else !false then true else bif n_3 then decide (Con.src c=Con.dst c) else false) (.leaf (.ret [.bool false] [.box (Con.ze c),.box [.int .i64 n.1],.box [.fn 112 [] [.ptr 1 0]]])) (.leaf (.back 0 [(1,.ptr 0 0),(5,.ptr 2 0),(6,.fn 113 [] [.ptr 2 0])] [.box (Con.ze c),.box [.int .i64 n.1],.box [.fn 112 [] [.ptr 1 0]]]))) (.ite (bif bif bif !n_1 then true else !n_2 then true else !false then true else bif false then decide (Con.src c=Con.dst c) else false) (.leaf (.ret [.bool false] [.box (Con.ze c),.box [.int .i64 n.1],.box [.fn 112 [] [.ptr 1 0]]])) (.leaf (.back 0 [(1,.ptr 0 0),(5,.ptr 2 0),(6,.fn 113 [] [.ptr 2 0])] [.box (Con.ze c),.box [.int .i64 n.1],.box [.fn 112 [] [.ptr 1 0]]]))))) (.ite ((bif !n_1 then true else !false) == false) (.ex (fun(x:Int×Int×List UInt8)=>eqL [AV.int .i64 4,AV.str c.name,AV.ptr 0 0] [AV.int .i64 x.2.1,AV.str x.2.2,AV.ptr 0 0]∧eqH [.box [AV.fn 112 [] [AV.ptr 1 0]],.box [AV.int .i64 n.1]] [.box [AV.fn 112 [] [AV.ptr 1 0]],.box [AV.int .i64 x.1]]∧2=2∧(0:Int)≤x.1∧x.1<512∧(0:Int)≤x.2.1∧x.2.1<512∧x.2.2.length<4611686018427387904) fun n=>.all (fun(r:Bool)=>r=wi (bitB n.1 n.2.1) n.2.2) fun n_2=>.ite ((bif bif !n_1 then true else !false then true else !n_2) == false) (.ex (fun(x:Int×Int)=>eqL [AV.int .i64 2,AV.ptr 0 0] [AV.int .i64 x.2,AV.ptr 0 0]∧eqH [.box [AV.int .i64 n.1]] [.box [AV.int .i64 x.1]]∧1=1∧(0:Int)≤x.1∧x.1<512∧(0:Int)≤x.2∧x.2<512) fun n=>.all (fun(r:Bool)=>r=bitB n.1 n.2) fun n_3=>.ite (bif bif bif !n_1 then true else !false then true else !n_2 then true else bif n_3 then decide (Con.src c=Con.dst c) else false) (.leaf (.ret [.bool false] [.box (Con.ze c),.box [.int .i64 n.1],.box [.fn 112 [] [.ptr 1 0]]])) (.leaf (.back 0 [(1,.ptr 0 0),(5,.ptr 2 0),(6,.fn 113 [] [.ptr 2 0])] [.box (Con.ze c),.box [.int .i64 n.1],.box [.fn 112 [] [.ptr 1 0]]]))) (.ite (bif bif bif !n_1 then true else !false then true else !n_2 then true else bif false then decide (Con.src c=Con.dst c) else false) (.leaf (.ret [.bool false] [.box (Con.ze c),.box [.int .i64 n.1],.box [.fn 112 [] [.ptr 1 0]]])) (.leaf (.back 0 [(1,.ptr 0 0),(5,.ptr 2 0),(6,.fn 113 [] [.ptr 2 0])] [.box (Con.ze c),.box [.int .i64 n.1],.box [.fn 112 [] [.ptr 1 0]]])))) (.ite ((bif bif !n_1 then true else !false then true else !false) == false) (.ex (fun(x:Int×Int)=>eqL [AV.int .i64 2,AV.ptr 0 0] [AV.int .i64 x.2,AV.ptr 0 0]∧eqH [.box [AV.int .i64 n.1]] [.box [AV.int .i64 x.1]]∧1=1∧(0:Int)≤x.1∧x.1<512∧(0:Int)≤x.2∧x.2<512) fun n=>.all (fun(r:Bool)=>r=bitB n.1 n.2) fun n_2=>.ite (bif bif bif !n_1 then true else !false then true else !false then true else bif n_2 then decide (Con.src c=Con.dst c) else false) (.leaf (.ret [.bool false] [.box (Con.ze c),.box [.int .i64 n.1],.box [.fn 112 [] [.ptr 1 0]]])) (.leaf (.back 0 [(1,.ptr 0 0),(5,.ptr 2 0),(6,.fn 113 [] [.ptr 2 0])] [.box (Con.ze c),.box [.int .i64 n.1],.box [.fn 112 [] [.ptr 1 0]]]))) (.ite (bif bif bif !n_1 then true else !false then true else !false then true else bif false then decide (Con.src c=Con.dst c) else false) (.leaf (.ret [.bool false] [.box (Con.ze c),.box [.int .i64 n.1],.box [.fn 112 [] [.ptr 1 0]]])) (.leaf (.back 0 [(1,.ptr 0 0),(5,.ptr 2 0),(6,.fn 113 [] [.ptr 2 0])] [.box (Con.ze c),.box [.int .i64 n.1],.box [.fn 112 [] [.ptr 1 0]]]))))))) (.ite true (.leaf (.ret [.bool false] [.box (Con.ze c),.box [.int .i64 0]])) (.ex (fun(x:Int×Int×List UInt8)=>eqL [AV.int .i64 1,AV.str c.src,AV.ptr 0 0] [AV.int .i64 x.2.1,AV.str x.2.2,AV.ptr 0 0]∧eqH [.box [AV.fn 112 [] [AV.ptr 1 0]],.box [AV.int .i64 0]] [.box [AV.fn 112 [] [AV.ptr 1 0]],.box [AV.int .i64 x.1]]∧2=2∧(0:Int)≤x.1∧x.1<512∧(0:Int)≤x.2.1∧x.2.1<512∧x.2.2.length<4611686018427387904) fun n=>.all (fun(r:Bool)=>r=wi (bitB n.1 n.2.1) n.2.2) fun n_1=>.ite ((!n_1) == false) (.ex (fun(x:Int×Int×List UInt8)=>eqL [AV.int .i64 2,AV.str c.dst,AV.ptr 0 0] [AV.int .i64 x.2.1,AV.str x.2.2,AV.ptr 0 0]∧eqH [.box [AV.fn 112 [] [AV.ptr 1 0]],.box [AV.int .i64 n.1]] [.box [AV.fn 112 [] [AV.ptr 1 0]],.box [AV.int .i64 x.1]]∧2=2∧(0:Int)≤x.1∧x.1<512∧(0:Int)≤x.2.1∧x.2.1<512∧x.2.2.length<4611686018427387904) fun n=>.all (fun(r:Bool)=>r=wi (bitB n.1 n.2.1) n.2.2) fun n_2=>.ite ((bif !n_1 then true else !n_2) == false) (.ex (fun(x:Int×Int×List UInt8)=>eqL [AV.int .i64 4,AV.str c.name,AV.ptr 0 0] [AV.int .i64 x.2.1,AV.str x.2.2,AV.ptr 0 0]∧eqH [.box [AV.fn 112 [] [AV.ptr 1 0]],.box [AV.int .i64 n.1]] [.box [AV.fn 112 [] [AV.ptr 1 0]],.box [AV.int .i64 x.1]]∧2=2∧(0:Int)≤x.1∧x.1<512∧(0:Int)≤x.2.1∧x.2.1<512∧x.2.2.length<4611686018427387904) fun n=>.all (fun(r:Bool)=>r=wi (bitB n.1 n.2.1) n.2.2) fun n_3=>.ite ((bif bif !n_1 then true else !n_2 then true else !n_3) == false) (.ex (fun(x:Int×Int)=>eqL [AV.int .i64 2,AV.ptr 0 0] [AV.int .i64 x.2,AV.ptr 0 0]∧eqH [.box [AV.int .i64 n.1]] [.box [AV.int .i64 x.1]]∧1=1∧(0:Int)≤x.1∧x.1<512∧(0:Int)≤x.2∧x.2<512) fun n=>.all (fun(r:Bool)=>r=bitB n.1 n.2) fun n_4=>.ite (bif bif bif !n_1 then true else !n_2 then true else !n_3 then true else bif n_4 then decide (Con.src c=Con.dst c) else false) (.leaf (.ret [.bool false] [.box (Con.ze c),.box [.int .i64 n.1],.box [.fn 112 [] [.ptr 1 0]]])) (.leaf (.back 0 [(1,.ptr 0 0),(5,.ptr 2 0),(6,.fn 113 [] [.ptr 2 0])] [.box (Con.ze c),.box [.int .i64 n.1],.box [.fn 112 [] [.ptr 1 0]]]))) (.ite (bif bif bif !n_1 then true else !n_2 then true else !n_3 then true else bif false then decide (Con.src c=Con.dst c) else false) (.leaf (.ret [.bool false] [.box (Con.ze c),.box [.int .i64 n.1],.box [.fn 112 [] [.ptr 1 0]]])) (.leaf (.back 0 [(1,.ptr 0 0),(5,.ptr 2 0),(6,.fn 113 [] [.ptr 2 0])] [.box (Con.ze c),.box [.int .i64 n.1],.box [.fn 112 [] [.ptr 1 0]]])))) (.ite ((bif bif !n_1 then true else !n_2 then true else !false) == false) (.ex (fun(x:Int×Int)=>eqL [AV.int .i64 2,AV.ptr 0 0] [AV.int .i64 x.2,AV.ptr 0 0]∧eqH [.box [AV.int .i64 n.1]] [.box [AV.int .i64 x.1]]∧1=1∧(0:Int)≤x.1∧x.1<512∧(0:Int)≤x.2∧x.2<512) fun n=>.all (fun(r:Bool)=>r=bitB n.1 n.2) fun n_3=>.ite (bif bif bif !n_1 then true else !n_2 then true else !false then true else bif n_3 then decide (Con.src c=Con.dst c) else false) (.leaf (.ret [.bool false] [.box (Con.ze c),.box [.int .i64 n.1],.box [.fn 112 [] [.ptr 1 0]]])) (.leaf (.back 0 [(1,.ptr 0 0),(5,.ptr 2 0),(6,.fn 113 [] [.ptr 2 0])] [.box (Con.ze c),.box [.int .i64 n.1],.box [.fn 112 [] [.ptr 1 0]]]))) (.ite (bif bif bif !n_1 then true else !n_2 then true else !false then true else bif false then decide (Con.src c=Con.dst c) else false) (.leaf (.ret [.bool false] [.box (Con.ze c),.box [.int .i64 n.1],.box [.fn 112 [] [.ptr 1 0]]])) (.leaf (.back 0 [(1,.ptr 0 0),(5,.ptr 2 0),(6,.fn 113 [] [.ptr 2 0])] [.box (Con.ze c),.box [.int .i64 n.1],.box [.fn 112 [] [.ptr 1 0]]]))))) (.ite ((bif !n_1 then true else !false) == false) (.ex (fun(x:Int×Int×List UInt8)=>eqL [AV.int .i64 4,AV.str c.name,AV.ptr 0 0] [AV.int .i64 x.2.1,AV.str x.2.2,AV.ptr 0 0]∧eqH [.box [AV.fn 112 [] [AV.ptr 1 0]],.box [AV.int .i64 n.1]] [.box [AV.fn 112 [] [AV.ptr 1 0]],.box [AV.int .i64 x.1]]∧2=2∧(0:Int)≤x.1∧x.1<512∧(0:Int)≤x.2.1∧x.2.1<512∧x.2.2.length<4611686018427387904) fun n=>.all (fun(r:Bool)=>r=wi (bitB n.1 n.2.1) n.2.2) fun n_2=>.ite ((bif bif !n_1 then true else !false then true else !n_2) == false) (.ex (fun(x:Int×Int)=>eqL [AV.int .i64 2,AV.ptr 0 0] [AV.int .i64 x.2,AV.ptr 0 0]∧eqH [.box [AV.int .i64 n.1]] [.box [AV.int .i64 x.1]]∧1=1∧(0:Int)≤x.1∧x.1<512∧(0:Int)≤x.2∧x.2<512) fun n=>.all (fun(r:Bool)=>r=bitB n.1 n.2) fun n_3=>.ite (bif bif bif !n_1 then true else !false then true else !n_2 then true else bif n_3 then decide (Con.src c=Con.dst c) else false) (.leaf (.ret [.bool false] [.box (Con.ze c),.box [.int .i64 n.1],.box [.fn 112 [] [.ptr 1 0]]])) (.leaf (.back 0 [(1,.ptr 0 0),(5,.ptr 2 0),(6,.fn 113 [] [.ptr 2 0])] [.box (Con.ze c),.box [.int .i64 n.1],.box [.fn 112 [] [.ptr 1 0]]]))) (.ite (bif bif bif !n_1 then true else !false then true else !n_2 then true else bif false then decide (Con.src c=Con.dst c) else false) (.leaf (.ret [.bool false] [.box (Con.ze c),.box [.int .i64 n.1],.box [.fn 112 [] [.ptr 1 0]]])) (.leaf (.back 0 [(1,.ptr 0 0),(5,.ptr 2 0),(6,.fn 113 [] [.ptr 2 0])] [.box (Con.ze c),.box [.int .i64 n.1],.box [.fn 112 [] [.ptr 1 0]]])))) (.ite ((bif bif !n_1 then true else !false then true else !false) == false) (.ex (fun(x:Int×Int)=>eqL [AV.int .i64 2,AV.ptr 0 0] [AV.int .i64 x.2,AV.ptr 0 0]∧eqH [.box [AV.int .i64 n.1]] [.box [AV.int .i64 x.1]]∧1=1∧(0:Int)≤x.1∧x.1<512∧(0:Int)≤x.2∧x.2<512) fun n=>.all (fun(r:Bool)=>r=bitB n.1 n.2) fun n_2=>.ite (bif bif bif !n_1 then true else !false then true else !false then true else bif n_2 then decide (Con.src c=Con.dst c) else false) (.leaf (.ret [.bool false] [.box (Con.ze c),.box [.int .i64 n.1],.box [.fn 112 [] [.ptr 1 0]]])) (.leaf (.back 0 [(1,.ptr 0 0),(5,.ptr 2 0),(6,.fn 113 [] [.ptr 2 0])] [.box (Con.ze c),.box [.int .i64 n.1],.box [.fn 112 [] [.ptr 1 0]]]))) (.ite (bif bif bif !n_1 then true else !false then true else !false then true else bif false then decide (Con.src c=Con.dst c) else false) (.leaf (.ret [.bool false] [.box (Con.ze c),.box [.int .i64 n.1],.box [.fn 112 [] [.ptr 1 0]]])) (.leaf (.back 0 [(1,.ptr 0 0),(5,.ptr 2 0),(6,.fn 113 [] [.ptr 2 0])] [.box (Con.ze c),.box [.int .i64 n.1],.box [.fn 112 [] [.ptr 1 0]]])))))))) (by kernel_rfl) ?_
  simp only [Tree.holds,zd,inR,lo,hi,Int.toNat_natCast]
  obtain⟨b1,e1⟩:∃ b,wi (bitB c.p 1) c.src=b:=⟨_,rfl⟩
  obtain⟨b2,e2⟩:∃ b,wi (bitB c.p 2) c.dst=b:=⟨_,rfl⟩
  obtain⟨b3,e3⟩:∃ b,wi (bitB c.p 4) c.name=b:=⟨_,rfl⟩
  obtain⟨b4,e4⟩:∃ b,bitB c.p 2=b:=⟨_,rfl⟩
  obtain⟨b5,e5⟩:∃ b,decide (c.src=c.dst)=b:=⟨_,rfl⟩
  have hbad:¬ ((1≤c.kind∧c.kind≤10)∧Nd.words c)→∀ h,RetR zfy 0 Q [.bool false] h:=fun hn h=>by
   have:c.x9=false:=XP hn
   rw [this] at hq
   exact RetR.scal hq rfl (by simp [resV])
  refine⟨fun hk=>⟨fun h=>(by cases h),fun _=> ?_⟩,fun hk=> ?_⟩
  ·have hk:=of_decide_eq_true hk
   refine⟨(c.p,1,c.src),⟨by simp,by simp [Con.p],trivial,hp0,hp1,(by simp only; omega),(by simp only; omega),by simp only; omega⟩,⟨_,rfl⟩,?_⟩
   rintro _ rfl
   simp only [e1]
   cases b1 with
   | false=>exact⟨fun h=>by simp at h,fun _=>⟨fun h=>by simp at h,fun _=>⟨fun h=>by simp at h,fun _=>⟨fun _=>hbad (fun h=>by have:=h.2.1; rw [e1] at this; cases this) _,fun h=>by simp at h⟩⟩⟩⟩
   | true=>
   refine⟨fun _=> ?_,fun h=>by simp at h⟩
   refine⟨(c.p,2,c.dst),⟨by simp,by simp [Con.p],trivial,hp0,hp1,(by simp only; omega),(by simp only; omega),by simp only; omega⟩,⟨_,rfl⟩,?_⟩
   rintro _ rfl
   simp only [e2]
   cases b2 with
   | false=>exact⟨fun h=>by simp at h,fun _=>⟨fun h=>by simp at h,fun _=>⟨fun _=>hbad (fun h=>by have:=h.2.2.1; rw [e2] at this; cases this) _,fun h=>by simp at h⟩⟩⟩
   | true=>
   refine⟨fun _=> ?_,fun h=>by simp at h⟩
   refine⟨(c.p,4,c.name),⟨by simp,by simp [Con.p],trivial,hp0,hp1,(by simp only; omega),(by simp only; omega),by simp only; omega⟩,⟨_,rfl⟩,?_⟩
   rintro _ rfl
   simp only [e3]
   cases b3 with
   | false=>exact⟨fun h=>by simp at h,fun _=>⟨fun _=>hbad (fun h=>by have:=h.2.2.2.1; rw [e3] at this; cases this) _,fun h=>by simp at h⟩⟩
   | true=>
   refine⟨fun _=> ?_,fun h=>by simp at h⟩
   refine⟨(c.p,2),⟨by simp,by simp [Con.p],trivial,hp0,hp1,(by simp only; omega),(by simp only; omega)⟩,⟨_,rfl⟩,?_⟩
   rintro _ rfl
   simp only [e4]
   refine⟨fun h=> ?_,fun h=> ?_⟩
   ·refine hbad (fun hn=>hn.2.2.2.2 ?_) _
    cases b4 with
    | false=>simp at h
    | true=>exact⟨e4,by simpa using h⟩
   ·rw [if_pos trivial]
    refine⟨⟨(),hk,e1,e2,e3,fun hh=> ?_⟩,by simp [SN1],⟨zk c,⟨⟨rfl,rfl⟩,trivial⟩,⟨rfl,trivial⟩,trivial⟩,by kernel_rfl,Nat.zero_le _⟩
    rw [e4] at hh
    rw [hh.1] at h
    simp [hh.2] at h
  ·have hk:=of_decide_eq_false hk
   refine⟨fun _=>hbad (fun h=>hk h.1) _,fun h=>by cases h⟩
 ·rintro⟨_,hk,hw⟩
  show j8 none Tryz.prog Tryz.f63 O 0 w0 [] _ _ LN1 _
  refine zb.cutL (ι:=Unit) LN1 1 0 (fun _=>SN2 (Nd.okX c)) (fun _=>HNd c) (by kernel_rfl) (by kernel_rfl) ?_ ?_
  ·refine zb.run hmix Zz [1,4,5] 400 (T:=.ex (fun(x:Int×Int)=>eqL [AV.int .i64 8,AV.ptr 0 0] [AV.int .i64 x.2,AV.ptr 0 0]∧eqH [.box [AV.int .i64 (Con.p c)]] [.box [AV.int .i64 x.1]]∧1=1∧(0:Int)≤x.1∧x.1<512∧(0:Int)≤x.2∧x.2<512) fun n=>.all (fun(r:Bool)=>r=bitB n.1 n.2) fun n_1=>.ite n_1 (.ex (fun(x:Ex)=>eqL [(Ex.exA c.x)] [x.exA]∧Ex.size x<1099511627776∧Ex.zq x<1099511627776) fun n_2=>.all (fun(r:Bool)=>r=(decide (Ex.errX n_2=0)&&decide (Ex.qn n_2=1))) fun n_3=>.leaf (.back 0 [(1,.ptr 0 0),(4,.bool n_3),(5,.ptr 2 0)] [.box (Con.ze c),.box [.int .i64 n.1],.box [.fn 112 [] [.ptr 1 0]]])) (.ex (fun(x:Int×Int)=>eqL [AV.int .i64 16,AV.ptr 0 0] [AV.int .i64 x.2,AV.ptr 0 0]∧eqH [.box [AV.int .i64 n.1]] [.box [AV.int .i64 x.1]]∧1=1∧(0:Int)≤x.1∧x.1<512∧(0:Int)≤x.2∧x.2<512) fun n=>.all (fun(r:Bool)=>r=bitB n.1 n.2) fun n_2=>.ite n_2 (.ex (fun(x:Ex)=>eqL [(Ex.exA c.x)] [x.exA]∧Ex.size x<1099511627776∧Ex.zq x<1099511627776) fun n_3=>.all (fun(r:Bool)=>r=(decide (Ex.errX n_3=0)&&decide (Ex.qn n_3=2))) fun n_4=>.leaf (.back 0 [(1,.ptr 0 0),(4,.bool n_4),(5,.ptr 2 0)] [.box (Con.ze c),.box [.int .i64 n.1],.box [.fn 112 [] [.ptr 1 0]]])) (.ex (fun(x:Ex)=>eqL [(Ex.exA c.x)] [x.exA]∧True) fun n_3=>.all (fun(r:Bool)=>r=q9 n_3) fun n_4=>.leaf (.back 0 [(1,.ptr 0 0),(4,.bool n_4),(5,.ptr 2 0)] [.box (Con.ze c),.box [.int .i64 n.1],.box [.fn 112 [] [.ptr 1 0]]])))) (by kernel_rfl) ?_
   simp only [Tree.holds,zd,inR,lo,hi,Int.toNat_natCast]
   have hx1:c.x.size<2^40:=by omega
   have hx2:c.x.zq<2^40:=by omega
   have leaf:∀ b,b=Nd.okX c→LeK 0 Tryz.f63.ntmps [(1,.ptr 0 0),(4,.bool b),(5,.ptr 2 0)] (HNd c) (SN2 (Nd.okX c)) (HNd c):=fun b hb=>by
    subst hb
    exact⟨by simp [SN2],⟨zk c,⟨⟨rfl,rfl⟩,trivial⟩,⟨rfl,trivial⟩,trivial⟩,by kernel_rfl,Nat.zero_le _⟩
   refine⟨(c.p,8),⟨by simp,by simp,trivial,hp0,hp1,(by simp only; omega),(by simp only; omega)⟩,⟨_,rfl⟩,?_⟩
   rintro _ rfl
   refine⟨fun h=> ?_,fun h=> ?_⟩
   ·refine⟨c.x,⟨(by first | exact⟨zD _,trivial⟩ | simp [za]),hx1,hx2⟩,⟨_,rfl⟩,?_⟩
    rintro _ rfl
    rw [if_pos trivial]
    exact⟨(),leaf _ (by unfold Nd.okX; rw [if_pos h]; rfl)⟩
   ·have h8:¬ bitB c.p 8=true:=by simpa using h
    refine⟨(c.p,16),⟨by simp,by simp,trivial,hp0,hp1,(by simp only; omega),(by simp only; omega)⟩,⟨_,rfl⟩,?_⟩
    rintro _ rfl
    refine⟨fun h=> ?_,fun h=> ?_⟩
    ·refine⟨c.x,⟨(by first | exact⟨zD _,trivial⟩ | simp [za]),hx1,hx2⟩,⟨_,rfl⟩,?_⟩
     rintro _ rfl
     rw [if_pos trivial]
     exact⟨(),leaf _ (by unfold Nd.okX; rw [if_neg h8,if_pos h]; rfl)⟩
    ·refine⟨c.x,⟨(by first | exact⟨zD _,trivial⟩ | simp [za]),trivial⟩,⟨_,rfl⟩,?_⟩
     rintro _ rfl
     rw [if_pos trivial]
     exact⟨(),leaf _ (by unfold Nd.okX; rw [if_neg h8,if_neg (by simpa using h)])⟩
  ·rintro⟨⟩
   obtain⟨a,ea⟩:∃ a,Nd.okX c=a:=⟨_,rfl⟩
   rw [ea]
   show j8 none Tryz.prog Tryz.f63 O 0 w0 [] _ _ LN2 _
   refine zb.cutL (ι:=Unit) LN2 3 0 (fun _=>SN3 a (Nd.subs c)) (fun _=>HNd c) (by kernel_rfl) (by kernel_rfl) ?_ ?_
   ·refine zb.run hmix Zz [1,4,5,7] 400 (T:=.ex (fun(x:Int×Int)=>eqL [AV.int .i64 128,AV.ptr 0 0] [AV.int .i64 x.2,AV.ptr 0 0]∧eqH [.box [AV.int .i64 (Con.p c)]] [.box [AV.int .i64 x.1]]∧1=1∧(0:Int)≤x.1∧x.1<512∧(0:Int)≤x.2∧x.2<512) fun n=>.all (fun(r:Bool)=>r=bitB n.1 n.2) fun n_1=>.ite n_1 (.ex (fun(x:Int×Int)=>eqL [AV.int .i64 256,AV.ptr 0 0] [AV.int .i64 x.2,AV.ptr 0 0]∧eqH [.box [AV.int .i64 n.1]] [.box [AV.int .i64 x.1]]∧1=1∧(0:Int)≤x.1∧x.1<512∧(0:Int)≤x.2∧x.2<512) fun n=>.all (fun(r:Bool)=>r=bitB n.1 n.2) fun n_2=>.ite n_2 (.leaf (.back 0 [(1,.ptr 0 0),(4,.bool a),(5,.ptr 2 0),(7,.int .i64 2)] [.box (Con.ze c),.box [.int .i64 n.1],.box [.fn 112 [] [.ptr 1 0]]])) (.leaf (.back 0 [(1,.ptr 0 0),(4,.bool a),(5,.ptr 2 0),(7,.int .i64 1)] [.box (Con.ze c),.box [.int .i64 n.1],.box [.fn 112 [] [.ptr 1 0]]]))) (.ex (fun(x:Int×Int)=>eqL [AV.int .i64 256,AV.ptr 0 0] [AV.int .i64 x.2,AV.ptr 0 0]∧eqH [.box [AV.int .i64 n.1]] [.box [AV.int .i64 x.1]]∧1=1∧(0:Int)≤x.1∧x.1<512∧(0:Int)≤x.2∧x.2<512) fun n=>.all (fun(r:Bool)=>r=bitB n.1 n.2) fun n_2=>.ite n_2 (.leaf (.back 0 [(1,.ptr 0 0),(4,.bool a),(5,.ptr 2 0),(7,.int .i64 2)] [.box (Con.ze c),.box [.int .i64 n.1],.box [.fn 112 [] [.ptr 1 0]]])) (.leaf (.back 0 [(1,.ptr 0 0),(4,.bool a),(5,.ptr 2 0),(7,.int .i64 0)] [.box (Con.ze c),.box [.int .i64 n.1],.box [.fn 112 [] [.ptr 1 0]]])))) (by kernel_rfl) ?_
    simp only [Tree.holds,zd,inR,lo,hi,Int.toNat_natCast]
    have leaf:∀ m:Int,m=Nd.subs c→LeK 0 Tryz.f63.ntmps [(1,.ptr 0 0),(4,.bool a),(5,.ptr 2 0),(7,.int .i64 m)] (HNd c) (SN3 a (Nd.subs c)) (HNd c):=fun m hm=>by
     subst hm
     exact⟨by simp [SN3],⟨zk c,⟨⟨rfl,rfl⟩,trivial⟩,⟨rfl,trivial⟩,trivial⟩,by kernel_rfl,Nat.zero_le _⟩
    refine⟨(c.p,128),⟨by simp,by simp,trivial,hp0,hp1,(by simp only; omega),(by simp only; omega)⟩,⟨_,rfl⟩,?_⟩
    rintro _ rfl
    refine⟨fun h1=> ?_,fun h1=> ?_⟩
    all_goals
     refine⟨(c.p,256),⟨by simp,by simp,trivial,hp0,hp1,(by simp only; omega),(by simp only; omega)⟩,⟨_,rfl⟩,?_⟩
     rintro _ rfl
     refine⟨fun h2=> ?_,fun h2=> ?_⟩
     all_goals
      rw [if_pos trivial]
      simp only at h1 h2
      exact⟨(),leaf _ (by unfold Nd.subs; simp [h1,h2])⟩
   ·rintro⟨⟩
    show j8 none Tryz.prog Tryz.f63 O 0 w0 [] _ _ LN3 _
    obtain⟨m,em⟩:∃ m,Nd.subs c=m:=⟨_,rfl⟩
    rw [em]
    refine zb.cutL (ι:=Unit) LN3 1 0 (fun _=>SN4 a m (Nd.right c)) (fun _=>HNd c) (by kernel_rfl) (by kernel_rfl) ?_ ?_
    ·refine zb.run hmix Zz [1,4,5,7,8] 400 (T:=.ex (fun(x:Int×Int)=>eqL [AV.int .i64 32,AV.ptr 0 0] [AV.int .i64 x.2,AV.ptr 0 0]∧eqH [.box [AV.int .i64 (Con.p c)]] [.box [AV.int .i64 x.1]]∧1=1∧(0:Int)≤x.1∧x.1<512∧(0:Int)≤x.2∧x.2<512) fun n=>.all (fun(r:Bool)=>r=bitB n.1 n.2) fun n_1=>.ite ((bif n_1 then bif decide ((0:Int)≤Con.date c) then decide (Con.date c≤99999) else false else false) == false) (.ex (fun(x:Int×Int)=>eqL [AV.int .i64 32,AV.ptr 0 0] [AV.int .i64 x.2,AV.ptr 0 0]∧eqH [.box [AV.int .i64 n.1]] [.box [AV.int .i64 x.1]]∧1=1∧(0:Int)≤x.1∧x.1<512∧(0:Int)≤x.2∧x.2<512) fun n=>.all (fun(r:Bool)=>r=bitB n.1 n.2) fun n_2=>.leaf (.back 0 [(1,.ptr 0 0),(4,.bool a),(5,.ptr 2 0),(7,.int .i64 m),(8,.bool (bif bif n_1 then bif decide ((0:Int)≤Con.date c) then decide (Con.date c≤99999) else false else false then true else bif !n_2 then decide (Con.date c=0) else false))] [.box (Con.ze c),.box [.int .i64 n.1],.box [.fn 112 [] [.ptr 1 0]]])) (.leaf (.back 0 [(1,.ptr 0 0),(4,.bool a),(5,.ptr 2 0),(7,.int .i64 m),(8,.bool (bif bif n_1 then bif decide ((0:Int)≤Con.date c) then decide (Con.date c≤99999) else false else false then true else bif !false then decide (Con.date c=0) else false))] [.box (Con.ze c),.box [.int .i64 n.1],.box [.fn 112 [] [.ptr 1 0]]]))) (by kernel_rfl) ?_
     simp only [Tree.holds,zd,inR,lo,hi,Int.toNat_natCast]
     have leaf:∀ b,b=Nd.right c→LeK 0 Tryz.f63.ntmps [(1,.ptr 0 0),(4,.bool a),(5,.ptr 2 0),(7,.int .i64 m),(8,.bool b)] (HNd c) (SN4 a m (Nd.right c)) (HNd c):=fun b hb=>by
      subst hb
      exact⟨by simp [SN4],⟨zk c,⟨⟨rfl,rfl⟩,trivial⟩,⟨rfl,trivial⟩,trivial⟩,by kernel_rfl,Nat.zero_le _⟩
     refine⟨(c.p,32),⟨by simp,by simp,trivial,hp0,hp1,(by simp only; omega),(by simp only; omega)⟩,⟨_,rfl⟩,?_⟩
     rintro _ rfl
     refine⟨fun h1=> ?_,fun h1=> ?_⟩
     ·refine⟨(c.p,32),⟨by simp,by simp,trivial,hp0,hp1,(by simp only; omega),(by simp only; omega)⟩,⟨_,rfl⟩,?_⟩
      rintro _ rfl
      rw [if_pos trivial]
      refine⟨(),leaf _ ?_⟩
      unfold Nd.right dayB
      simp only
      cases bitB c.p 32<;>simp [Bool.cond_eq_ite]
     ·rw [if_pos trivial]
      refine⟨(),leaf _ ?_⟩
      unfold Nd.right dayB
      simp only at h1 ⊢
      revert h1
      cases bitB c.p 32<;>simp [Bool.cond_eq_ite]
      exact fun h1 h2 _=>⟨h1,h2⟩
    ·rintro⟨⟩
     show j8 none Tryz.prog Tryz.f63 O 0 w0 [] _ _ LN4 _
     obtain⟨b,eb⟩:∃ b,Nd.right c=b:=⟨_,rfl⟩
     rw [eb]
     refine zb.cutL (ι:=Unit) LN4 1 0 (fun _=>SN5 a m b (Nd.list c)) (fun _=>HNd c) (by kernel_rfl) (by kernel_rfl) ?_ ?_
     ·refine zb.run hmix Zz [1,4,7,8,9] 400 (T:=.ex (fun(x:Int×Int)=>eqL [AV.int .i64 64,AV.ptr 0 0] [AV.int .i64 x.2,AV.ptr 0 0]∧eqH [.box [AV.int .i64 (Con.p c)]] [.box [AV.int .i64 x.1]]∧1=1∧(0:Int)≤x.1∧x.1<512∧(0:Int)≤x.2∧x.2<512) fun n=>.all (fun(r:Bool)=>r=bitB n.1 n.2) fun n_1=>.ex (fun(x:List Int)=>n_1=true→eqL [AV.sl c.days.length 1 (Con.dayG c.days)] [AV.sl x.length 1 (Con.dayG x)]∧x.length<1099511627776) fun n_2=>.all (fun(x:Bool)=>n_1=true→x=vM n_2) fun n_3=>.ite ((bif n_1 then n_3 else false) == false) (.ex (fun(x:Int×Int)=>eqL [AV.int .i64 64,AV.ptr 0 0] [AV.int .i64 x.2,AV.ptr 0 0]∧eqH [.box [AV.int .i64 n.1]] [.box [AV.int .i64 x.1]]∧1=1∧(0:Int)≤x.1∧x.1<512∧(0:Int)≤x.2∧x.2<512) fun n=>.all (fun(r:Bool)=>r=bitB n.1 n.2) fun n_4=>.leaf (.back 0 [(1,.ptr 0 0),(4,.bool a),(7,.int .i64 m),(8,.bool b),(9,.bool (bif bif n_1 then n_3 else false then true else bif !n_4 then decide ((↑c.days.length:Int)=0) else false))] [.box (Con.ze c),.box [.int .i64 n.1],.box [.fn 112 [] [.ptr 1 0]]])) (.leaf (.back 0 [(1,.ptr 0 0),(4,.bool a),(7,.int .i64 m),(8,.bool b),(9,.bool (bif bif n_1 then n_3 else false then true else bif !false then decide ((↑c.days.length:Int)=0) else false))] [.box (Con.ze c),.box [.int .i64 n.1],.box [.fn 112 [] [.ptr 1 0]]]))) (by kernel_rfl) ?_
      simp only [Tree.holds,zd,inR,lo,hi,Int.toNat_natCast]
      have leaf:∀ d,d=Nd.list c→LeK 0 Tryz.f63.ntmps [(1,.ptr 0 0),(4,.bool a),(7,.int .i64 m),(8,.bool b),(9,.bool d)] (HNd c) (SN5 a m b (Nd.list c)) (HNd c):=fun d hd=>by
       subst hd
       exact⟨by simp [SN5],⟨zk c,⟨⟨rfl,rfl⟩,trivial⟩,⟨rfl,trivial⟩,trivial⟩,by kernel_rfl,Nat.zero_le _⟩
      refine⟨(c.p,64),⟨by simp,by simp,trivial,hp0,hp1,(by simp only; omega),(by simp only; omega)⟩,⟨_,rfl⟩,?_⟩
      rintro _ rfl
      refine⟨c.days,fun _=>⟨by simp [za],by omega⟩,⟨_,fun _=>rfl⟩,fun n hn=> ?_⟩
      refine⟨fun h1=> ?_,fun h1=> ?_⟩
      ·refine⟨(c.p,64),⟨by simp,by simp,trivial,hp0,hp1,(by simp only; omega),(by simp only; omega)⟩,⟨_,rfl⟩,?_⟩
       rintro _ rfl
       rw [if_pos trivial]
       refine⟨(),leaf _ ?_⟩
       unfold Nd.list
       simp only at hn ⊢
       revert hn
       cases bitB c.p 64<;>simp [Bool.cond_eq_ite]
      ·rw [if_pos trivial]
       refine⟨(),leaf _ ?_⟩
       unfold Nd.list
       simp only at hn h1 ⊢
       revert hn h1
       cases bitB c.p 64<;>simp [Bool.cond_eq_ite]
       intro h2 h3
       rw [← h2,h3]
       rfl
     ·rintro⟨⟩
      show j8 none Tryz.prog Tryz.f63 O 0 w0 [] _ _ LN5 _
      obtain⟨d,ed⟩:∃ d,Nd.list c=d:=⟨_,rfl⟩
      rw [ed]
      refine zb.run hmix Zz [1,4,7,8,9] 400 (T:=.leaf (.ret [.bool (bif bif bif a then b else false then d else false then decide ((↑c.sub.length:Int)=m) else false)] [.box (Con.ze c),.box [.int .i64 (Con.p c)],.box [.fn 112 [] [.ptr 1 0]]])) (by kernel_rfl) ?_
      simp only [Tree.holds,zd,inR,lo,hi,Int.toNat_natCast]
      have hr:c.x9=(bif bif bif a then b else false then d else false then decide ((c.sub.length:Int)=m) else false):=by
       rw [Bool.eq_iff_iff,WG hk,ea,em,eb,ed]
       cases a<;>cases b<;>cases d<;>simp [hw]
      rw [hr] at hq
      exact RetR.scal hq rfl (by simp [resV])
end Go.Proofs.Tryz
end
section
set_option maxRecDepth 100000
open Go Go.Sx Go.Proofs Go.Nov
namespace Go.Proofs.Tryz
attribute [local simp] eqKV eqA eqA0 eqH eqB eqL eqL0
noncomputable def K89:List Go.Sx.Item:=[.code (Tryz.f89.body.getD .skip)]
theorem ym(a b:Bool):(bif a then b else false)=(a&&b):=by cases a<;>rfl
def J6(n:Nat):Ctr:=ctrP true (fun c:Con=>[c.conA]) (fun c=>c.nodes<n∧c.big<2^40) (fun c r=>r=c.form) (fun _ (r:Bool)=>(.bool r,[]))
noncomputable def GFo:Nat→Option Ctr:=fun f=>if f=51 then some (yC) else if f=52 then some (xp) else if f=127 then some ((Qg 1)) else if f=128 then some ((Qg 2)) else if f=125 then some (ZO) else if f=126 then some (za9) else none
theorem zmv:∀ g c,GFo g=some c→zc Tryz.prog g c:=okIf Jo (okIf Qn (okIf zke (okIf zbq (okIf QW (okIf zgx (zp))))))
noncomputable def GFoc(n:Nat):Nat→Option Ctr:=fun f=>if f=89 then some (J6 n) else GFo f
theorem za8{n:Nat}(h:zc Tryz.prog 89 (J6 n)):∀ f c,GFoc n f=some c→zc Tryz.prog f c:=by
  intro f c hf
  simp only [GFoc] at hf
  split at hf
  · rename_i hg; subst hg; cases hf; exact h
  · exact zmv f c hf
def SFo(i:Nat):KV:=[(1,.ptr 0 0),(3,.int .i64 (i:Int)),(74,.undef),(77,.undef),(80,.undef),(83,.undef),(86,.undef),(89,.undef),(96,.undef),(99,.undef),(100,.undef),(101,.undef),(104,.undef),(105,.undef),(106,.undef),(107,.undef),(108,.undef),(111,.undef),(114,.undef),(117,.undef),(120,.undef),(127,.undef),(130,.undef),(133,.undef),(136,.undef),(139,.undef),(142,.undef),(149,.undef),(152,.undef),(155,.undef),(158,.undef),(161,.undef),(164,.undef),(171,.undef),(174,.undef),(177,.undef),(180,.undef),(183,.undef),(186,.undef),(193,.undef),(196,.undef),(199,.undef),(202,.undef),(203,.undef),(204,.undef),(207,.undef),(210,.undef),(217,.undef),(220,.undef),(223,.undef),(226,.undef),(229,.undef),(232,.undef),(239,.undef),(242,.undef),(245,.undef),(248,.undef),(251,.undef),(254,.undef),(262,.undef),(265,.undef),(268,.undef),(271,.undef),(274,.undef),(277,.undef)]
def HFo(c:Con):Heap:=[.box c.ze]
theorem zbo(n:Nat)(ih:zc Tryz.prog 89 (J6 n)):zc Tryz.prog 89 (J6 (n+1)):=by
  refine zf (fn:=Tryz.f89) (c:=Tryz.f89.body.getD .skip) rfl rfl rfl fun c hp O w0 Q hq=> ?_
  obtain⟨hcn,hcb⟩:=hp
  replace hq:=hq _ rfl
  rw [Con.zjr] at hq
  refine zb.run hmix (za8 ih) [1,3,74,77,80,83,86,89,96,99,100,101,104,105,106,107,108,111,114,117,120,127,130,133,136,139,142,149,152,155,158,161,164,171,174,177,180,183,186,193,196,199,202,203,204,207,210,217,220,223,226,229,232,239,242,245,248,251,254,262,265,268,271,274,277] 400 (T:=.leaf (.loop (Prod.fst (lps K89 0)) (Prod.snd (lps K89 0)) [(1,.ptr 0 0),(3,.int .i64 0),(74,.undef),(77,.undef),(80,.undef),(83,.undef),(86,.undef),(89,.undef),(96,.undef),(99,.undef),(100,.undef),(101,.undef),(104,.undef),(105,.undef),(106,.undef),(107,.undef),(108,.undef),(111,.undef),(114,.undef),(117,.undef),(120,.undef),(127,.undef),(130,.undef),(133,.undef),(136,.undef),(139,.undef),(142,.undef),(149,.undef),(152,.undef),(155,.undef),(158,.undef),(161,.undef),(164,.undef),(171,.undef),(174,.undef),(177,.undef),(180,.undef),(183,.undef),(186,.undef),(193,.undef),(196,.undef),(199,.undef),(202,.undef),(203,.undef),(204,.undef),(207,.undef),(210,.undef),(217,.undef),(220,.undef),(223,.undef),(226,.undef),(229,.undef),(232,.undef),(239,.undef),(242,.undef),(245,.undef),(248,.undef),(251,.undef),(254,.undef),(262,.undef),(265,.undef),(268,.undef),(271,.undef),(274,.undef),(277,.undef)] [.box (Con.ze c)])) (by kernel_rfl) ?_
  simp only [Tree.holds,zd,inR,lo,hi,Int.toNat_natCast]
  have hb:=hcb
  rw [Con.ju] at hb
  rw [Con.qN] at hcn
  have hl:=Con.qQ c.sub
  refine zb.loop (ι:={i:Nat // i≤c.sub.length∧Con.wP (c.sub.take i)=true}) (fun i=>SFo i.1) (fun _=>HFo c) (fun i=>c.sub.length - i.1) ⟨0,Nat.zero_le _,by simp [Con.wP]⟩ 0 ?_ ?_ (by kernel_rfl)
  · exact⟨by simp [SFo],⟨zk c,trivial⟩,by kernel_rfl,Nat.zero_le _⟩
  rintro⟨i,hil,hf⟩
  refine zb.run hmix (za8 ih) [1,3,74,77,80,83,86,89,96,99,100,101,104,105,106,107,108,111,114,117,120,127,130,133,136,139,142,149,152,155,158,161,164,171,174,177,180,183,186,193,196,199,202,203,204,207,210,217,220,223,226,229,232,239,242,245,248,251,254,262,265,268,271,274,277] 400 (T:=.ite (decide ((↑i:Int)<(↑c.sub.length:Int))) (.side ((0:Int)≤i∧(↑i:Int)<(↑c.sub.length:Int)) (.ex (fun(x:Con)=>eqL [(Con.conD (List.getD c.sub (↑i:Int).toNat Con.nil))] [(Con.conA x)]∧Con.nodes x<n∧Con.big x<1099511627776) fun n=>.all (fun(r:Bool)=>r=Con.form n) fun n=>.ite (!n) (.leaf (.ret [.bool false] [.box (Con.ze c)])) (.side (inR .i64 ((↑i:Int)+(1:Int))) (.leaf (.back 0 [(1,.ptr 0 0),(3,.int .i64 ((↑i:Int)+(1:Int))),(74,.undef),(77,.undef),(80,.undef),(83,.undef),(86,.undef),(89,.undef),(96,.undef),(99,.undef),(100,.undef),(101,.undef),(104,.undef),(105,.undef),(106,.undef),(107,.undef),(108,.undef),(111,.undef),(114,.undef),(117,.undef),(120,.undef),(127,.undef),(130,.undef),(133,.undef),(136,.undef),(139,.undef),(142,.undef),(149,.undef),(152,.undef),(155,.undef),(158,.undef),(161,.undef),(164,.undef),(171,.undef),(174,.undef),(177,.undef),(180,.undef),(183,.undef),(186,.undef),(193,.undef),(196,.undef),(199,.undef),(202,.undef),(203,.undef),(204,.undef),(207,.undef),(210,.undef),(217,.undef),(220,.undef),(223,.undef),(226,.undef),(229,.undef),(232,.undef),(239,.undef),(242,.undef),(245,.undef),(248,.undef),(251,.undef),(254,.undef),(262,.undef),(265,.undef),(268,.undef),(271,.undef),(274,.undef),(277,.undef)] [.box (Con.ze c)]))))) (.ex (fun(x:List UInt8)=>eqL [AV.str c.src] [AV.str x]∧x.length<4611686018427387904) fun n=>.all (fun(r:Bool)=>r=zN n) fun n=>.ex (fun(x:List UInt8)=>eqL [AV.str c.name] [AV.str x]∧x.length<4611686018427387904) fun n_1=>.all (fun(r:Bool)=>r=zN n_1) fun n_2=>.ex (fun(x:Ex)=>eqL [(Ex.exA c.x)] [x.exA]∧True) fun n_3=>.all (fun(r:Bool)=>r=q9 n_3) fun n_4=>.ex (fun(x:List Int)=>eqL [AV.sl c.days.length 1 (Con.dayG c.days)] [AV.sl x.length 1 (Con.dayG x)]∧x.length<1099511627776) fun n_5=>.all (fun(r:Bool)=>r=vM n_5) fun n_6=>.ex (fun(x:Ex)=>eqL [(Ex.exA c.x)] [x.exA]∧Ex.size x<1099511627776∧Ex.zq x<1099511627776) fun n_7=>.all (fun(r:Bool)=>r=(decide (Ex.errX n_7=0)&&decide (Ex.qn n_7=1))) fun n_8=>.ex (fun(x:Ex)=>eqL [(Ex.exA c.x)] [x.exA]∧Ex.size x<1099511627776∧Ex.zq x<1099511627776) fun n_9=>.all (fun(r:Bool)=>r=(decide (Ex.errX n_9=0)&&decide (Ex.qn n_9=2))) fun n_10=>.ite (decide (Con.kind c=1)) (.leaf (.ret [.bool (bif bif bif bif bif bif decide ((↑c.sub.length:Int)=0) then decide (Con.src c=#[].toList) else false then decide (Con.dst c=#[].toList) else false then decide (Con.name c=#[].toList) else false then decide (Con.date c=0) else false then decide ((↑c.days.length:Int)=0) else false then n_4 else false)] [.box (Con.ze c)])) (.ite (decide (Con.kind c=2)) (.ex (fun(x:List UInt8)=>(bif decide ((↑c.sub.length:Int)=0) then n else false)=true→eqL [AV.str c.dst] [AV.str x]∧x.length<4611686018427387904) fun n_11=>.all (fun(x:Bool)=>(bif decide ((↑c.sub.length:Int)=0) then n else false)=true→x=zN n_11) fun n_12=>.leaf (.ret [.bool (bif bif bif bif bif bif bif decide ((↑c.sub.length:Int)=0) then n else false then n_12 else false then !decide (Con.src c=Con.dst c) else false then n_2 else false then n_8 else false then decide (Con.date c=0) else false then decide ((↑c.days.length:Int)=0) else false)] [.box (Con.ze c)])) (.ite (decide (Con.kind c=3)) (.leaf (.ret [.bool (bif bif bif bif bif bif decide ((↑c.sub.length:Int)=2) then decide (Con.src c=#[].toList) else false then decide (Con.dst c=#[].toList) else false then decide (Con.name c=#[].toList) else false then decide (Con.date c=0) else false then decide ((↑c.days.length:Int)=0) else false then n_4 else false)] [.box (Con.ze c)])) (.ite (decide (Con.kind c=4)) (.leaf (.ret [.bool (bif bif bif bif bif bif decide ((↑c.sub.length:Int)=1) then decide (Con.src c=#[].toList) else false then decide (Con.dst c=#[].toList) else false then decide (Con.name c=#[].toList) else false then decide (Con.date c=0) else false then decide ((↑c.days.length:Int)=0) else false then n_8 else false)] [.box (Con.ze c)])) (.ite (decide (Con.kind c=5)) (.leaf (.ret [.bool (bif bif bif bif bif bif decide ((↑c.sub.length:Int)=2) then decide (Con.src c=#[].toList) else false then decide (Con.dst c=#[].toList) else false then decide (Con.name c=#[].toList) else false then decide (Con.date c=0) else false then decide ((↑c.days.length:Int)=0) else false then n_10 else false)] [.box (Con.ze c)])) (.ite (decide (Con.kind c=6)) (.ex (fun(x:Int)=>(bif bif bif decide ((↑c.sub.length:Int)=1) then decide (Con.src c=#[].toList) else false then decide (Con.dst c=#[].toList) else false then decide (Con.name c=#[].toList) else false)=true→eqL [AV.int .i64 c.date] [AV.int .i64 x]∧True) fun n=>.all (fun(x:Bool)=>(bif bif bif decide ((↑c.sub.length:Int)=1) then decide (Con.src c=#[].toList) else false then decide (Con.dst c=#[].toList) else false then decide (Con.name c=#[].toList) else false)=true→x=dayB n) fun n=>.leaf (.ret [.bool (bif bif bif bif bif bif decide ((↑c.sub.length:Int)=1) then decide (Con.src c=#[].toList) else false then decide (Con.dst c=#[].toList) else false then decide (Con.name c=#[].toList) else false then n else false then decide ((↑c.days.length:Int)=0) else false then n_4 else false)] [.box (Con.ze c)])) (.ite (decide (Con.kind c=7)) (.leaf (.ret [.bool (bif bif bif bif bif bif decide ((↑c.sub.length:Int)=2) then n else false then decide (Con.dst c=#[].toList) else false then n_2 else false then decide (Con.date c=0) else false then decide ((↑c.days.length:Int)=0) else false then n_4 else false)] [.box (Con.ze c)])) (.ite (decide (Con.kind c=8)) (.leaf (.ret [.bool (bif bif bif bif bif bif decide ((↑c.sub.length:Int)=1) then n else false then decide (Con.dst c=#[].toList) else false then n_2 else false then decide (Con.date c=0) else false then n_6 else false then n_4 else false)] [.box (Con.ze c)])) (.ite (decide (Con.kind c=9)) (.ite (decide (Con.kind c=9)) (.leaf (.ret [.bool (bif bif bif bif bif bif decide ((↑c.sub.length:Int)=1) then decide (Con.src c=#[].toList) else false then decide (Con.dst c=#[].toList) else false then decide (Con.name c=#[].toList) else false then decide (Con.date c=0) else false then n_6 else false then n_10 else false)] [.box (Con.ze c)])) (.leaf (.ret [.bool false] [.box (Con.ze c)]))) (.ite (decide (Con.kind c=10)) (.leaf (.ret [.bool (bif bif bif bif bif bif decide ((↑c.sub.length:Int)=1) then decide (Con.src c=#[].toList) else false then decide (Con.dst c=#[].toList) else false then decide (Con.name c=#[].toList) else false then decide (Con.date c=0) else false then n_6 else false then n_10 else false)] [.box (Con.ze c)])) (.leaf (.ret [.bool false] [.box (Con.ze c)]))))))))))))) (by kernel_rfl) ?_
  simp only [Tree.holds,zd,inR,lo,hi,Int.toNat_natCast]
  refine⟨fun hlt=> ?_,fun hge=> ?_⟩
  · have hlt:i<c.sub.length:=by have:=of_decide_eq_true hlt; omega
    have hg:=Con.qq hlt
    have hgb:=Con.jB hlt
    have ht:=Con.J4 c.sub i hlt
    refine⟨by omega,fun _=>⟨c.sub.getD i Con.nil,⟨⟨jm _,trivial⟩,by omega,by omega⟩,⟨_,rfl⟩,?_⟩⟩
    rintro _ rfl
    refine⟨fun hb=> ?_,fun hb=>⟨by omega,fun _=> ?_⟩⟩
    · have hb:(c.sub.getD i Con.nil).form=false:=by simpa using hb
      rw [Con.Vt c.sub i hlt hb,Bool.and_false] at hq
      exact RetR.scal hq rfl rfl
    · have hb:(c.sub.getD i Con.nil).form=true:=by simpa using hb
      rw [if_pos trivial]
      exact⟨⟨i+1,hlt,by rw [ht,hf,hb]; rfl⟩,by show c.sub.length - (i+1)<c.sub.length - i; omega,by simp [SFo],⟨zk c,trivial⟩,by kernel_rfl,Nat.zero_le _⟩
  have hge:i=c.sub.length:=by have:=of_decide_eq_false hge; omega
  subst hge
  rw [List.take_length] at hf
  rw [hf,Bool.and_true] at hq
  have fin:∀ (E:Bool) (h:Heap),(E=true↔vN c.kind c.src c.dst c.name c.x c.date c.days c.sub.length=true)→RetR (J6 (n+1)) 0 Q [.bool E] h:=fun E h he=>by
    rw [← Bool.eq_iff_iff] at he
    rw [← he] at hq
    exact RetR.scal hq rfl rfl
  have e0:((c.sub.length:Int)=0)↔c.sub.length=0:=by omega
  have e1:((c.sub.length:Int)=1)↔c.sub.length=1:=by omega
  have e2:((c.sub.length:Int)=2)↔c.sub.length=2:=by omega
  have ed:((c.days.length:Int)=0)↔c.days=[]:=by rw [← List.length_eq_zero_iff]; omega
  refine⟨c.src,⟨⟨rfl,trivial⟩,by omega⟩,⟨_,rfl⟩,?_⟩
  rintro _ rfl
  refine⟨c.name,⟨⟨rfl,trivial⟩,by omega⟩,⟨_,rfl⟩,?_⟩
  rintro _ rfl
  refine⟨c.x,⟨⟨zD c.x,trivial⟩,trivial⟩,⟨_,rfl⟩,?_⟩
  rintro _ rfl
  refine⟨c.days,⟨⟨⟨rfl,rfl,za _ _ _⟩,trivial⟩,by omega⟩,⟨_,rfl⟩,?_⟩
  rintro _ rfl
  refine⟨c.x,⟨⟨zD c.x,trivial⟩,by omega,by omega⟩,⟨_,rfl⟩,?_⟩
  rintro _ rfl
  refine⟨c.x,⟨⟨zD c.x,trivial⟩,by omega,by omega⟩,⟨_,rfl⟩,?_⟩
  rintro _ rfl
  refine⟨fun hk=>fin _ _ ?_,fun _=>⟨fun hk=>⟨c.dst,fun _=>⟨⟨rfl,trivial⟩,by omega⟩,⟨_,fun _=>rfl⟩,fun b hb=>fin _ _ ?_⟩,fun _=>⟨fun hk=>fin _ _ ?_,fun _=>⟨fun hk=>fin _ _ ?_,fun _=>⟨fun hk=>fin _ _ ?_,fun _=>⟨fun hk=>⟨c.date,fun _=>⟨⟨⟨rfl,rfl⟩,trivial⟩,trivial⟩,⟨_,fun _=>rfl⟩,fun b hb=>fin _ _ ?_⟩,fun _=>⟨fun hk=>fin _ _ ?_,fun _=>⟨fun hk=>fin _ _ ?_,fun _=>⟨fun hk=> ?_,fun hk=> ?_⟩⟩⟩⟩⟩⟩⟩⟩⟩
  rotate_right 2
  · refine⟨fun _=>fin _ _ ?_,fun h=>by rw [h] at hk; cases hk⟩
    have hk:=of_decide_eq_true hk
    clear hq fin
    unfold vN numX truX
    simp only [hk]
    simp only [ym]
    simp [e0,e1,e2,ed,and_assoc]
  · refine⟨fun hk=>fin _ _ ?_,fun h10=> ?_⟩
    · have hk:=of_decide_eq_true hk
      clear hq fin
      unfold vN numX truX
      simp only [hk]
      simp only [ym]
      simp [e0,e1,e2,ed,and_assoc]
    · have q:∀ z:Int,decide (c.kind=z)=false→c.kind≠z:=fun z h=>of_decide_eq_false h
      have hn:vN c.kind c.src c.dst c.name c.x c.date c.days c.sub.length=false:=by
        unfold vN
        rw [if_neg (q _ ‹_›),if_neg (q _ ‹_›),if_neg (q _ ‹_›),if_neg (q _ ‹_›),if_neg (q _ ‹_›),if_neg (q _ ‹_›),if_neg (q _ ‹_›),if_neg (q _ ‹_›),if_neg (fun h=>h.elim (q _ hk) (q _ h10))]
      rw [hn] at hq
      exact RetR.scal hq rfl rfl
  all_goals first
    | (have hk:=of_decide_eq_true hk
       have hk2:((c.kind=2∨c.kind=6)→True):=fun _=>trivial
       clear hq fin
       unfold vN numX truX
       simp only [hk]
       try (simp only [ym,Bool.and_eq_true,decide_eq_true_eq] at hb)
       simp only [ym]
       simp [e0,e1,e2,ed,and_assoc]
       done)
    | (have hk:=of_decide_eq_true hk
       clear hq fin
       unfold vN numX truX
       simp only [hk]
       simp only [ym] at hb ⊢
       by_cases h1:c.sub.length=0
       · by_cases h2:zN c.src=true
         · rw [hb (by simp [e0,h1,h2])]
           simp [e0,e1,e2,ed,and_assoc]
         · simp [h2]
       · simp [e0,h1]
       done)
    | (have hk:=of_decide_eq_true hk
       clear hq fin
       unfold vN numX truX
       simp only [hk]
       simp only [ym] at hb ⊢
       by_cases h1:c.sub.length=1
       · by_cases h2:c.src=[]
         · by_cases h3:c.dst=[]
           · by_cases h4:c.name=[]
             · rw [hb (by simp [e1,h1,h2,h3,h4])]
               simp [e0,e1,e2,ed,and_assoc]
             · simp [h4]
           · simp [h3]
         · simp [h2]
       · simp [e1,h1]
       done)
def XW:Ctr:=ctrP true (fun c:Con=>[c.conA]) (fun c=>c.big<2^40) (fun c r=>r=c.form) (fun _ (r:Bool)=>(.bool r,[]))
theorem zh4:zc Tryz.prog 89 XW:=zR Con.nodes zbo
end Go.Proofs.Tryz
end
section
namespace Go.Sx
variable [Stat]
section
variable {O:Nat→Prop} {pin:Nat} {w0:World} {σ0:List SE} {P:Program} {fn:Func}
def noH(n:Nat):Heap:=.box [.ptr n 0]::List.replicate (n - 1) (.box [])
theorem za1{n:Nat}(h:1≤n):(noH n).length=n:=by simp [noH]; omega
theorem zcr(n:Nat):∀ b∈noH n,alive b:=by
 intro b hb
 unfold noH at hb
 rcases List.mem_cons.1 hb with rfl | hb
 ·trivial
 ·rw [List.eq_of_mem_replicate hb]; trivial
theorem zb.never{M:Option Nat}{Hs:Nat→KV→Heap→Prop}{R:List AV→Heap→Prop}{k:List Item}{kv:KV}{n:Nat}(hn:1≤n):j8 M P fn O pin w0 σ0 Hs R k (mk fn.ntmps kv (noH n)):=by
 intro w σ a hm
 have hl:σ.length=n:=by rw [hm.hp.len]; exact za1 hn
 have h0:σ[0]?=some (σ[0]'(by omega)):=List.getElem?_eq_getElem _
 have hb:=hm.hp.blk 0 _ (.box [.ptr n 0]) h0 rfl
 simp only [BRep] at hb
 obtain⟨ad,vs,el,_,_,_,q⟩:=hb
 simp only [RepL,Rep] at q
 obtain⟨v,r,_,⟨e,ad',he,_⟩,_⟩:=q
 have:=(List.getElem?_eq_some_iff.1 he).1
 omega
open Classical in
theorem zb.zli{α:Type}{Hs:Nat→KV→Heap→Prop}{R:List AV→Heap→Prop}{k:List Item}{c:Code}{kv:KV}{h:Heap}{tg tp td t n gf:Nat}{cap:List AV}{zs:List AV}(I:List α→Prop)(hc:V3 c tg tp td t=true)(hz:zeroCells P t=some zs)(hn:qh P t=some n)(hzl:zs.length=n)
  (he:∀ args w,(callFunc gf args).run P w = .ok (.enter gf args) w) (av:α→AV) (cs:α→List AV) (hcs:∀ x,cellsOf (av x)=some (cs x)∧(cs x).length=n∧(cs x).all oneA=true∧(cs x).all KC=true) (H Hx:List α→Heap) (X S Sp:List α→Prop) (N pinR:Nat)
  (hg:look kv tg = .fn gf [] cap) (htg:tg<fn.ntmps) (htp:tp<fn.ntmps) (htd:td<fn.ntmps) (hne:td≠tp) (hle:LeK pin fn.ntmps kv h kv (H [])) (hlow:(pk fn.ntmps kv).all (lowB pinR)=true) (hpin:pin≤pinR) (hpos:1≤pinR) (hI:I []) (hlen:∀ pre,(H pre).length=pinR)
  (halive:∀ pre,∀ b∈H pre,alive b) (halivex:∀ pre,∀ b∈Hx pre,alive b)
  (iter:∀ w σ a,Mod O pin w0 σ0 w σ (mk fn.ntmps kv (H [])) a→∀ vb,RepL (Own O σ) w cap σ vb→∃ ev:α→Value,SeqStopsK Fence.wide 0 P gf vb.toArray (fun x=> #[ev x]) (jn (Own O σ)) S Sp N w∧∀ x,Rep (Own O σ) w (av x) [] (ev x))
  (round:∀ l pre x,I pre→pre.length<N→∀ (W:World) (σ1:List SE),j8 (some l) P (bare fn) O pinR W σ1 (fun d kv' h'=>I (pre++[x])∧LeK pinR fn.ntmps [] h' [] (H (pre++[x]))) (fun _ h'=>X (pre++[x])∧LeK pinR fn.ntmps [] h' [] (Hx (pre++[x]))) [.code (xz c),.inLoop] (mk fn.ntmps ((td,.iptr n fun o=>(cs x).getD o .undef)::(tp,av x)::kv) (H pre)))
  (done:∀ xs,S xs→I xs→zb P fn O pin w0 σ0 Hs R k (mk fn.ntmps kv (H xs)))
  (stop:∀ pre,Sp pre→X pre→(resX P (mk fn.ntmps kv (Hx pre)) fn.results.toList).holds fun rs=>R rs (Hx pre)) :
  zb P fn O pin w0 σ0 Hs R (.code c::k) (mk fn.ntmps kv h):=by
 refine zb.zfk hc hz hn hzl he av cs hcs (fun pre=>if I pre then H pre else noH pinR) Hx X S Sp N pinR hg htg htp htd hne (by rw [if_pos hI]; exact hle) hlow hpin (fun pre=> ?_) (fun pre=> ?_) halivex ?_ ?_ ?_ stop
 ·split
  ·exact hlen pre
  ·exact za1 hpos
 ·split
  ·exact halive pre
  ·exact zcr _
 ·rw [if_pos hI]; exact iter
 ·intro l pre x hl W σ1
  by_cases h1:I pre
  ·simp only [if_pos h1]
   intro w σ a hm
   refine J8 ?_ (round l pre x h1 hl W σ1 w σ a hm)
   rintro d a' w' ⟨st,σ',⟨kv',h',⟨h2,h3⟩,rfl⟩,hm'⟩
   exact⟨_,σ',⟨kv',h',by rw [if_pos h2]; exact h3,rfl⟩,hm'⟩
  ·simp only [if_neg h1]
   exact zb.never (fn:=bare fn) hpos
 ·intro xs hs
  by_cases h1:I xs
  ·simp only [if_pos h1]; exact done xs hs h1
  ·simp only [if_neg h1]; exact zb.never hpos
end
end Go.Sx
end
section
set_option maxRecDepth 100000
open Go Go.Sx Go.Proofs Go.Nov
namespace Go.Proofs.Tryz
attribute [local simp] eqKV eqA eqA0 eqH eqB eqL eqL0
noncomputable def K22:List Go.Sx.Item:=[.code (Tryz.f22.body.getD .skip)]
def uz:Ctr:=ctrP true (fun c:Con=>[c.conA]) (fun c=>c.big<2^40∧c.nodes≤1000000) (fun c r=>r=c.errC) (fun _ (r:Int)=>(.int .i64 r,[]))
noncomputable def GCk0:Nat→Option Ctr:=fun f=>if f=87 then some (Vk) else if f=88 then some (yj) else if f=89 then some (XW) else none
theorem zih:∀ g c,GCk0 g=some c→zc Tryz.prog g c:=okIf zba (okIf Up (okIf zh4 (zp)))
theorem Uo:zc Tryz.prog 44 uz:=by
 refine zf (fn:=Tryz.f44) (c:=Tryz.f44.body.getD .skip) rfl rfl rfl fun c hc O w0 Q hq=> ?_
 obtain⟨h1,h2⟩:=hc
 replace hq:=hq _ rfl
 refine zb.run hmix zih [] 400 (T:=.ex (fun(x:Con)=>eqL [(Con.conA c)] [(Con.conA x)]∧Con.big x<1099511627776) fun n=>.all (fun(r:Nat)=>r=Con.size n) fun n=>.ex (fun(x:Con)=>decide ((500:Int)<n)=false→eqL [(Con.conA c)] [(Con.conA x)]∧Con.big x<1099511627776) fun n_1=>.all (fun(x:Nat)=>decide ((500:Int)<n)=false→x=Con.depth n_1) fun n_2=>.ite (bif decide ((500:Int)<n) then true else decide ((60:Int)<n_2)) (.leaf (.ret [.int .i64 4] [.box (Con.ze c)])) (.ex (fun(x:Con)=>eqL [(Con.conA c)] [(Con.conA x)]∧Con.big x<1099511627776) fun n=>.all (fun(r:Bool)=>r=Con.form n) fun n=>.ite (!n) (.leaf (.ret [.int .i64 8] [.box (Con.ze c)])) (.leaf (.ret [.int .i64 0] [.box (Con.ze c)])))) (by kernel_rfl) ?_
 simp only [Tree.holds,zd]
 have hq1:(500<c.size∨60<c.depth)→Q (.int .i64 4,[]):=fun h=>by unfold Con.errC at hq; rw [if_pos h] at hq; exact hq
 have hq2:¬ (500<c.size∨60<c.depth)→Q (.int .i64 (if c.form=true then 0 else 8),[]):=fun h=>by unfold Con.errC at hq; rw [if_neg h] at hq; exact hq
 refine⟨c,⟨⟨zQ c,trivial⟩,h1⟩,⟨_,rfl⟩,?_⟩
 rintro _ rfl
 refine⟨c,fun _=>⟨⟨zQ c,trivial⟩,h1⟩,⟨_,fun _=>rfl⟩,fun n hn=> ?_⟩
 have key:(bif decide (500<(c.size:Int)) then true else decide (60<(n:Int)))=decide (500<c.size∨60<c.depth):=by
  by_cases g:500<c.size
  ·simp [g]; omega
  ·rw [hn (decide_eq_false (by omega)),Bool.eq_iff_iff]; simp [g]; omega
 rw [key]
 refine⟨fun h=>RetR.scal (hq1 (of_decide_eq_true h)) rfl (by simp [resV]),fun h=>⟨c,⟨⟨zQ c,trivial⟩,h1⟩,⟨_,rfl⟩,?_⟩⟩
 rintro _ rfl
 have hq2:=hq2 (of_decide_eq_false h)
 refine⟨fun h=> ?_,fun h=> ?_⟩
 ·rw [if_neg (by simpa using h)] at hq2; exact RetR.scal hq2 rfl (by simp [resV])
 ·rw [if_pos (by simpa using h)] at hq2; exact RetR.scal hq2 rfl (by simp [resV])
noncomputable def GCkk:Nat→Option Ctr:=fun f=>if f=60 then some (zec) else if f=61 then some (yj) else if f=62 then some (U2) else if f=63 then some (zfy) else none
theorem Kh:∀ g c,GCkk g=some c→zc Tryz.prog g c:=okIf zhg (okIf zcs (okIf K0 (okIf zie (zp))))
def HCk(c:Con)(m:Int):Heap:=[.box c.ze,.box [.int .i64 m],.box c.ze]
theorem zbl:zc Tryz.prog 22 uz:=by
 refine zf (fn:=Tryz.f22) (c:=Tryz.f22.body.getD .skip) rfl rfl rfl fun c hc O w0 Q hq=> ?_
 obtain⟨h1,h2⟩:=hc
 replace hq:=hq _ rfl
 refine zb.run hmix Kh [2,13,14] 400 (T:=.ex (fun(x:Con)=>eqL [(Con.conA c)] [(Con.conA x)]∧Con.big x<1099511627776∧Con.nodes x≤1000000) fun n=>.all (fun(r:Nat)=>r=Con.size n) fun n=>.ex (fun(x:Con)=>decide ((500:Int)<n)=false→eqL [(Con.conA c)] [(Con.conA x)]∧Con.big x<1099511627776) fun n_1=>.all (fun(x:Nat)=>decide ((500:Int)<n)=false→x=Con.depth n_1) fun n_2=>.ite (bif decide ((500:Int)<n) then true else decide ((60:Int)<n_2)) (.leaf (.ret [.int .i64 4] [.box (Con.ze c),.box [.int .i64 4]])) (.ex (fun(x:Con)=>eqL [(Con.conA c)] [(Con.conA x)]∧eqH [] []∧0=0∧True) fun n=>.all (fun(x:Unit)=>True) fun n_3=>.leaf (.range (Prod.fst (rfs K22 0)) (Prod.snd (rfs K22 0)) [(2,.ptr 1 0),(13,.fn 110 [] [.ptr 2 0]),(14,.undef)] [.box (Con.ze c),.box [.int .i64 0],.box (Con.ze n)]))) (by kernel_rfl) ?_
 simp only [Tree.holds,zd]
 have hq1:(500<c.size∨60<c.depth)→Q (.int .i64 4,[]):=fun h=>by unfold Con.errC at hq; rw [if_pos h] at hq; exact hq
 have hq2:¬ (500<c.size∨60<c.depth)→Q (.int .i64 (if c.form=true then 0 else 8),[]):=fun h=>by unfold Con.errC at hq; rw [if_neg h] at hq; exact hq
 refine⟨c,⟨⟨zQ c,trivial⟩,h1,h2⟩,⟨_,rfl⟩,?_⟩
 rintro _ rfl
 refine⟨c,fun _=>⟨⟨zQ c,trivial⟩,h1⟩,⟨_,fun _=>rfl⟩,fun n hn=> ?_⟩
 have key:(bif decide (500<(c.size:Int)) then true else decide (60<(n:Int)))=decide (500<c.size∨60<c.depth):=by
  by_cases g:500<c.size
  ·simp [g]; omega
  ·rw [hn (decide_eq_false (by omega)),Bool.eq_iff_iff]; simp [g]; omega
 rw [key]
 refine⟨fun h=>RetR.scal (hq1 (of_decide_eq_true h)) rfl (by simp [resV]),fun h=>⟨c,⟨⟨zQ c,trivial⟩,trivial,trivial,trivial⟩,⟨(),trivial⟩,fun _ _=> ?_⟩⟩
 have hq2:=hq2 (of_decide_eq_false h)
 clear hq hq1
 refine zb.zli (fun pre:List Nat=>∀ i∈pre,(c.all.getD i c).x9=true) (tg:=13) (tp:=14) (td:=3) (t:=31) (n:=12) (zs:=[.int .u8 0,.str [],.str [],.str [],.int .u8 0,.str [],.str [],.int .i64 0,.nils,.int .i64 0,.nils,.nils]) (cap:=[.ptr 2 0]) (gf:=110) (by kernel_rfl) (by kernel_rfl) (by kernel_rfl) rfl (enters_of Tryz.func110 (by kernel_rfl) rfl) (fun i:Nat=>(c.all.getD i c).conA) (fun i=>(c.all.getD i c).ze) (fun i=>⟨rfl,rfl,rfl,rfl⟩) (fun _=>HCk c 0) (fun _=>HCk c 8) (fun pre=>¬ c.form=true) (fun xs=>xs=List.range c.all.length) (fun pre=>pre <+: List.range c.all.length) c.all.length 3
  (by kernel_rfl) (by decide +kernel) (by decide +kernel) (by decide +kernel) (by decide) ⟨by simp,⟨zk c,⟨⟨rfl,rfl⟩,trivial⟩,zk c,trivial⟩,by kernel_rfl,Nat.zero_le _⟩ (by kernel_rfl) (Nat.zero_le _) (by decide) (fun i hi=>by cases hi) (fun pre=>rfl) (fun pre=>by simp [HCk,alive]) (fun pre b hb=>by simp [HCk] at hb; rcases hb with rfl | rfl | rfl<;>trivial) ?_ ?_ ?_ ?_
 ·intro w σ a hm vb hvb
  exact QS hm (i:=2) rfl h2 hvb
 ·intro l pre i hI hlen W σ1
  have hwt:(c.all.getD i c).big≤c.big∧(c.all.getD i c)∈c.all:=by
   by_cases hi:i<c.all.length
   ·have:(c.all.getD i c)∈c.all:=by simp [List.getD,hi]
    exact⟨Con.Qx c _ this,this⟩
   ·have:c.all.getD i c=c:=by simp [List.getD,hi]
    rw [this]
    exact⟨Nat.le_refl _,by rw [Con.all_eq]; simp⟩
  obtain⟨e,he⟩:∃ e,c.all.getD i c=e:=⟨_,rfl⟩
  rw [he] at hwt ⊢
  refine zb.run hmix Kh [2,13,14] 400 (T:=.ex (fun(x:Con)=>eqL [(Con.conA e)] [(Con.conA x)]∧Con.big x<1099511627776) fun n=>.all (fun(r:Bool)=>r=Con.x9 n) fun n=>.ite (!n) (.leaf (.ret [] [.box (Con.ze c),.box [.int .i64 8],.box (Con.ze c)])) (.leaf (.back 0 [(2,.ptr 1 0),(13,.fn 110 [] [.ptr 2 0]),(14,(Con.conA e))] [.box (Con.ze c),.box [.int .i64 0],.box (Con.ze c)]))) (by kernel_rfl) ?_
  simp only [Tree.holds,zd,inR,lo,hi,Int.toNat_natCast]
  refine⟨e,⟨⟨zQ e,trivial⟩,by omega⟩,⟨_,rfl⟩,?_⟩
  rintro _ rfl
  refine⟨fun h=>⟨fun hf=> ?_,?_⟩,fun h=>⟨fun j hj=> ?_,?_⟩⟩
  ·rw [Con.JW,List.all_eq_true] at hf
   have:=hf e hwt.2
   simp [this] at h
  ·exact⟨trivial,⟨zk c,⟨⟨rfl,rfl⟩,trivial⟩,zk c,trivial⟩,by kernel_rfl,Nat.le_refl _⟩
  ·rcases List.mem_append.1 hj with hj | hj
   ·exact hI j hj
   ·rw [List.mem_singleton.1 hj,he]; simpa using h
  ·exact⟨trivial,⟨zk c,⟨⟨rfl,rfl⟩,trivial⟩,zk c,trivial⟩,by kernel_rfl,Nat.le_refl _⟩
 ·intro xs hxs hI
  have hform:c.form=true:=by
   rw [Con.JW,List.all_eq_true]
   intro e hem
   obtain⟨j,hj,rfl⟩:=List.getElem_of_mem hem
   have:=hI j (by rw [hxs]; simpa using hj)
   simpa [List.getD,hj] using this
  rw [if_pos hform] at hq2
  refine zb.run hmix Kh [2,13,14] 400 (T:=.leaf (.ret [.int .i64 0] [.box (Con.ze c),.box [.int .i64 0],.box (Con.ze c)])) (by kernel_rfl) ?_
  simp only [Tree.holds,zd]
  exact RetR.scal hq2 rfl (by simp [resV])
 ·intro pre hpre hX
  rw [if_neg hX] at hq2
  exact(RetR.scal hq2 rfl (by simp [resV]):RetR uz 0 Q [.int .i64 8] (HCk c 8))
end Go.Proofs.Tryz
end
section
namespace Go.Nov
open Go.Sx
theorem uO(n sz:Nat)(g g':Nat→Nat→AV):eqG (0+n) sz (appG 0 g g') g':=by
 intro j o _ _
 simp [appG]
end Go.Nov
end
section
set_option maxRecDepth 100000
open Go Go.Sx Go.Proofs Go.Nov
namespace Go.Proofs.Tryz
attribute [local simp] eqKV eqA eqA0 eqH eqB eqL eqL0
noncomputable def K9:List Go.Sx.Item:=[.code (Tryz.f9.body.getD .skip)]
theorem zci(n sz:Nat)(g g':Nat→Nat→AV):eqG (0+n) sz (appG 0 g g') g':=uO n sz g g'
def VF:Ctr:=ctrP false (fun l:List Int=>[Con.dayS l]) (fun l=>l.length<2^40) (fun _ (_:Unit)=>True) (fun l _=>(.osl 0 1 0 l.length,[.arr l.length 1 (Con.dayG l)]))
theorem WL:zc Tryz.prog 42 VF:=by
 refine zdl (fn:=Tryz.f42) (c:=Tryz.f42.body.getD .skip) rfl rfl rfl fun l hl O w0 Q hq=> ?_
 replace hq:=hq () trivial
 refine zb.run hmix zF [] 400 (T:=.all (fun(b:Bool)=>0<l.length→b=false) fun n=>.ite n (.leaf (.ret [.nils] [])) (.side (0=0∧0≤0∧(0+l.length)*8≤140737488355328) (.leaf (.ret [.osl 0 1 0 (0+l.length)] [.arr (0+l.length) 1 (appG 0 (zh 1 []) (Con.dayG l))])))) (by kernel_rfl) ?_
 simp only [Tree.holds,zd]
 refine⟨⟨false,fun _=>rfl⟩,fun b hb=>⟨fun h=> ?_,fun h=>⟨⟨trivial,Nat.le_refl _,by omega⟩,fun _=> ?_⟩⟩⟩
 ·have h0:l=[]:=by
   rcases Nat.eq_zero_or_pos l.length with h0 | h0
   ·exact List.length_eq_zero_iff.1 h0
   ·rw [hb h0] at h; cases h
  subst h0
  refine RetR.scal (.inr ⟨.osl 0 1 0 0,[(1,Con.dayG [])],by simp [upA2,upA1,upA0],?_⟩) (r:=.nils) rfl (by simp [resV])
  exact hq
 ·refine RetR.outs [0] rfl rfl (.inl hq) (fun h=>by cases h) ?_ ?_ rfl
  ·simp [resV,exp2,exp1,exp0,z6,eqA2,eqL1]
  ·exact⟨⟨by omega,rfl,zci _ _ _ _⟩,trivial⟩
def VS(n:Nat):Ctr:=ctrP false (fun c:Con=>[c.conA]) (fun c=>c.nodes<n∧c.big<2^38) (fun _ (_:Unit)=>True) (fun c _=>(c.conD,[]))
def BTz:Blk:=.box [.int .u8 0,.str [],.str [],.str [],.int .u8 0,.str [],.str [],.int .i64 0,.nils,.int .i64 0,.nils,.nils]
theorem WU{s:List Con}{i:Nat} : eqG (i+1) 12 (appG i (Con.conG s) (zg (zh 12 [.int .u8 (s.getD i Con.nil).kind,.str (s.getD i Con.nil).src,.str (s.getD i Con.nil).dst,.str (s.getD i Con.nil).name,.int .u8 (s.getD i Con.nil).x.kind,.str (s.getD i Con.nil).x.rat,.str (s.getD i Con.nil).x.name,.int .i64 (s.getD i Con.nil).x.date,.sl (s.getD i Con.nil).x.sub.length 5 (Ex.exG (s.getD i Con.nil).x.sub),.int .i64 (s.getD i Con.nil).date,.sl (s.getD i Con.nil).days.length 1 (Con.dayG (s.getD i Con.nil).days),.sl (s.getD i Con.nil).sub.length 12 (s.getD i Con.nil).deep]) 0)) (Con.conG s):=by
 intro j o hj ho
 simp only [appG,zg,zh]
 by_cases h:j<i
 ·rw [if_pos h]
 ·have:j=i:=by omega
  subst this
  rw [if_neg h]
  have e:j - j=0:=by omega
  match o,ho with
  | 0,_=>simp [e,Con.conG,Con.cell]
  | 1,_=>simp [e,Con.conG,Con.cell]
  | 2,_=>simp [e,Con.conG,Con.cell]
  | 3,_=>simp [e,Con.conG,Con.cell]
  | 4,_=>simp [e,Con.conG,Con.cell]
  | 5,_=>simp [e,Con.conG,Con.cell]
  | 6,_=>simp [e,Con.conG,Con.cell]
  | 7,_=>simp [e,Con.conG,Con.cell]
  | 8,_=>simp [e,Con.conG,Con.cell]
  | 9,_=>simp [e,Con.conG,Con.cell]
  | 10,_=>simp [e,Con.conG,Con.cell]
  | 11,_=>simp [e,Con.conG,Con.cell]
theorem zP(n sz:Nat)(g:Nat→Nat→AV):eqG n sz (zg g 0) g:=fun j o _ _=>by simp [zg]
def Yi:Ctr:=ctrP false (fun c:Con=>[c.conA]) (fun c=>c.big<2^38) (fun _ (_:Unit)=>True) (fun c _=>(c.conD,[]))
noncomputable def GRt0:Nat→Option Ctr:=fun f=>if f=36 then some (K4) else none
theorem zif:∀ g c,GRt0 g=some c→zc Tryz.prog g c:=okIf zd2 (zp)
noncomputable def GRtc(n:Nat):Nat→Option Ctr:=fun f=>if f=9 then some (VS n) else GRt0 f
theorem za4{n:Nat}(ih:zc Tryz.prog 9 (VS n)):∀ g c,GRtc n g=some c→zc Tryz.prog g c:=fun g c h=>by
 unfold GRtc at h
 split at h
 ·rename_i e; cases h; subst e; exact ih
 ·exact zif g c h
def SRc(i:Nat):KV:=[(1,.ptr 0 0),(2,.ptr 1 0),(3,.ptr 2 0),(4,.int .i64 (i:Int))]
def HRc(c:Con)(i:Nat):Heap:=[.box c.ze,BTz,.box [.int .u8 c.kind,.str c.src,.str c.dst,.str c.name,.int .u8 c.x.kind,.str c.x.rat,.str c.x.name,.int .i64 c.x.date,.sl c.x.sub.length 5 c.x.deep,.int .i64 c.date,.osl 3 1 0 c.days.length,.osl 4 12 0 i],.arr c.days.length 1 (Con.dayG c.days),.arr i 12 (Con.conG c.sub)]
theorem zdf(n:Nat)(ih:zc Tryz.prog 9 (VS n)):zc Tryz.prog 9 (VS (n+1)):=by
 refine zf (fn:=Tryz.f9) (c:=Tryz.f9.body.getD .skip) rfl rfl rfl fun c hx O w0 Q hq=> ?_
 obtain⟨h1,h2⟩:=hx
 replace hq:=hq () trivial
 have hb:=h2
 rw [Con.ju] at hb
 refine zb.run hmix (za4 ih) [1,2,3,4] 400 (T:=.ex (fun(x:Ex)=>eqL [(Ex.exA c.x)] [x.exA]∧Ex.size x<1099511627776) fun n=>.all (fun(x:Unit)=>True) fun n_1=>.side (0=0∧0≤0∧(0+List.length c.days)*8≤140737488355328) (.leaf (.loop (Prod.fst (lps K9 0)) (Prod.snd (lps K9 0)) [(1,.ptr 0 0),(2,.ptr 1 0),(3,.ptr 2 0),(4,.int .i64 0)] [.box (Con.ze c),.box [.int .u8 0,.str #[].toList,.str #[].toList,.str #[].toList,.int .u8 0,.str #[].toList,.str #[].toList,.int .i64 0,.nils,.int .i64 0,.nils,.nils],.box [.int .u8 c.kind,.str c.src,.str c.dst,.str c.name,.int .u8 n.kind,.str n.rat,.str n.name,.int .i64 n.date,.sl n.sub.length 5 n.deep,.int .i64 c.date,.osl 3 1 0 (0+List.length c.days),.nils],.arr (0+List.length c.days) 1 (appG 0 (zh 1 []) (Con.dayG c.days))]))) (by kernel_rfl) ?_
 simp only [Tree.holds,zd,inR,lo,hi,Int.toNat_natCast]
 have hlb:=Con.qQ c.sub
 refine⟨c.x,⟨⟨zD c.x,trivial⟩,by show c.x.size<_; omega⟩,⟨(),trivial⟩,fun _ _=>⟨⟨trivial,Nat.le_refl _,by omega⟩,fun _=> ?_⟩⟩
 refine zb.zhw 2 11 12 (Con.conG c.sub) rfl rfl (by kernel_rfl) ?_
 refine zb.loop (ι:={i:Nat // i≤c.sub.length}) (fun i=>SRc i.1) (fun i=>HRc c i.1) (fun i=>c.sub.length - i.1) ⟨0,Nat.zero_le _⟩ 0 ?_ ?_ (by kernel_rfl)
 ·refine⟨by simp [SRc],?_,by kernel_rfl,Nat.zero_le _⟩
  refine⟨zk c,by simp [BTz],?_,⟨by omega,rfl,uO _ _ _ _⟩,⟨rfl,rfl,za _ _ _⟩,trivial⟩
  simp [Con.conS,za]
 ·rintro⟨i,hil⟩
  refine zb.run hmix (za4 ih) [1,2,3,4] 400 (T:=.ite (decide ((↑i:Int)<(↑c.sub.length:Int))) (.side ((0:Int)≤i∧(↑i:Int)<(↑c.sub.length:Int)) (.ex (fun(x:Con)=>eqL [(Con.conD (List.getD c.sub (↑i:Int).toNat Con.nil))] [(Con.conA x)]∧Con.nodes x<n∧Con.big x<274877906944) fun n=>.all (fun(x:Unit)=>True) fun n_1=>.side (0=0∧i≤i∧(i+1)*184≤140737488355328) (.side (inR .i64 ((↑i:Int)+(1:Int))) (.leaf (.back 0 [(1,.ptr 0 0),(2,.ptr 1 0),(3,.ptr 2 0),(4,.int .i64 ((↑i:Int)+(1:Int)))] [.box (Con.ze c),.box [.int .u8 0,.str [],.str [],.str [],.int .u8 0,.str [],.str [],.int .i64 0,.nils,.int .i64 0,.nils,.nils],.box [.int .u8 c.kind,.str c.src,.str c.dst,.str c.name,.int .u8 (Ex.kind c.x),.str (Ex.rat c.x),.str (Ex.name c.x),.int .i64 (Ex.date c.x),.sl (List.length (Ex.sub c.x)) 5 (Ex.deep c.x),.int .i64 c.date,.osl 3 1 0 c.days.length,.osl 4 12 0 (i+1)],.arr c.days.length 1 (Con.dayG c.days),.arr (i+1) 12 (appG i (Con.conG c.sub) (zg (zh 12 (Con.zz n)) 0)),.arr 1 12 (zh 12 (Con.zz n))]))))) (.leaf (.ret [.agg [.int .u8 c.kind,.str c.src,.str c.dst,.str c.name,.int .u8 (Ex.kind c.x),.str (Ex.rat c.x),.str (Ex.name c.x),.int .i64 (Ex.date c.x),.sl (List.length (Ex.sub c.x)) 5 (Ex.deep c.x),.int .i64 c.date,.osl 3 1 0 c.days.length,.osl 4 12 0 i]] [.box (Con.ze c),.box [.int .u8 c.kind,.str c.src,.str c.dst,.str c.name,.int .u8 (Ex.kind c.x),.str (Ex.rat c.x),.str (Ex.name c.x),.int .i64 (Ex.date c.x),.sl (List.length (Ex.sub c.x)) 5 (Ex.deep c.x),.int .i64 c.date,.osl 3 1 0 c.days.length,.osl 4 12 0 i],.box [.int .u8 c.kind,.str c.src,.str c.dst,.str c.name,.int .u8 (Ex.kind c.x),.str (Ex.rat c.x),.str (Ex.name c.x),.int .i64 (Ex.date c.x),.sl (List.length (Ex.sub c.x)) 5 (Ex.deep c.x),.int .i64 c.date,.osl 3 1 0 c.days.length,.osl 4 12 0 i],.arr c.days.length 1 (Con.dayG c.days),.arr i 12 (Con.conG c.sub)]))) (by kernel_rfl) ?_
  simp only [Tree.holds,zd,inR,lo,hi,Int.toNat_natCast]
  refine⟨fun hlt=> ?_,fun hge=> ?_⟩
  ·have hlt:i<c.sub.length:=by have:=of_decide_eq_true hlt; omega
   have g1:=Con.qq hlt
   have g2:=Con.jB hlt
   rw [Con.qN] at h1
   refine⟨by omega,fun _=>⟨c.sub.getD i Con.nil,⟨⟨jm _,trivial⟩,by omega,by omega⟩,⟨(),trivial⟩,fun _ _=> ?_⟩⟩
   refine⟨⟨trivial,Nat.le_refl _,by omega⟩,fun _=>⟨by omega,fun _=> ?_⟩⟩
   rw [if_pos trivial]
   refine⟨⟨i+1,hlt⟩,by show c.sub.length - (i+1)<c.sub.length - i; omega,by simp [SRc],?_,by kernel_rfl,Nat.zero_le _⟩
   refine⟨zk c,by simp [BTz],?_,⟨rfl,rfl,za _ _ _⟩,⟨rfl,rfl,WU⟩,trivial⟩
   simp [Con.conS,za]
  ·have hge:i=c.sub.length:=by have:=of_decide_eq_false hge; omega
   subst hge
   refine RetR.out0 hq (fun h=>by cases h) ?_
   simp only [Con.outD,resV,exp2,exp1,List.map_cons,List.map_nil,exp0,ren0,z6,frz1,j5,List.getElem?_cons_zero,List.getElem?_cons_succ,eqA2,eqA,eqL0,eqA0,Con.conD,Con.dayS,Ex.exS,true_and,and_true]
   simp only [if_true]
   exact⟨Ex.zA _,⟨trivial,trivial,zP _ _ _⟩,trivial,trivial,fun j o hj ho=>by have:=Con.zA c j o hj ho; simpa [zg] using this.symm⟩
theorem zll:zc Tryz.prog 9 Yi:=zR Con.nodes zdf
noncomputable def K46:List Go.Sx.Item:=[.code (Tryz.f46.body.getD .skip)]
noncomputable def K15:List Go.Sx.Item:=[.code (Tryz.f15.body.getD .skip)]
def zg0:Ctr:=ctrP true (fun p:List Int×List Int=>[Con.dayS p.1,Con.dayS p.2]) (fun p=>p.1.length<2^40) (fun p r=>(r=true↔p.1=p.2)) (fun _ (r:Bool)=>(.bool r,[]))
def SSd(l m:List Int)(i:Nat):KV:=[(0,Con.dayS l),(1,Con.dayS m),(5,.int .i64 (i:Int))]
theorem zee:zc Tryz.prog 46 zg0:=by
 refine zf (fn:=Tryz.f46) (c:=Tryz.f46.body.getD .skip) rfl rfl rfl fun p hp O w0 Q hq=> ?_
 obtain⟨l,m⟩:=p
 simp only at hp hq
 refine zb.run hmix zF [0,1,5] 400 (T:=.ite (!decide ((↑l.length:Int)=m.length)) (.leaf (.ret [.bool false] [])) (.leaf (.loop (Prod.fst (lps K46 0)) (Prod.snd (lps K46 0)) [(0,.sl l.length 1 (Con.dayG l)),(1,.sl m.length 1 (Con.dayG m)),(5,.int .i64 0)] []))) (by kernel_rfl) ?_
 simp only [Tree.holds,zd,inR,lo,hi,Int.toNat_natCast]
 refine⟨fun h=> ?_,fun h=> ?_⟩
 ·refine RetR.scal (hq false ⟨fun h=>(by cases h),fun he=> ?_⟩) rfl (by simp [resV])
  subst he
  simp at h
 ·have hl:l.length=m.length:=by simp at h; omega
  refine zb.loop (ι:={i:Nat // i≤l.length∧∀ j,j<i→l.getD j 0=m.getD j 0}) (fun i=>SSd l m i.1) (fun _=>[]) (fun i=>l.length - i.1) ⟨0,Nat.zero_le _,fun j hj=>by omega⟩ 0 ?_ ?_ (by kernel_rfl)
  ·exact⟨by simp [SSd,Con.dayS,za],trivial,by kernel_rfl,Nat.zero_le _⟩
  ·rintro⟨i,hil,hib⟩
   refine zb.run hmix zF [0,1,5] 400 (T:=.ite (decide ((↑i:Int)<l.length)) (.side ((0:Int)≤i∧(↑i:Int)<l.length) (.side ((0:Int)≤i∧(↑i:Int)<m.length) (.ite (!decide (l.getD (↑i:Int).toNat (0:Int)=List.getD m (↑i:Int).toNat (0:Int))) (.leaf (.ret [.bool false] [])) (.side (inR .i64 ((↑i:Int)+(1:Int))) (.leaf (.back 0 [(0,.sl l.length 1 (Con.dayG l)),(1,.sl m.length 1 (Con.dayG m)),(5,.int .i64 ((↑i:Int)+(1:Int)))] [])))))) (.leaf (.ret [.bool true] []))) (by kernel_rfl) ?_
   simp only [Tree.holds,zd,inR,lo,hi,Int.toNat_natCast]
   refine⟨fun hlt=> ?_,fun hge=> ?_⟩
   ·have hlt:i<l.length:=by have:=of_decide_eq_true hlt; omega
    refine⟨by omega,fun _=>⟨by omega,fun _=>⟨fun g=> ?_,fun g=>⟨by omega,fun _=> ?_⟩⟩⟩⟩
    ·refine RetR.scal (hq false ⟨fun h=>(by cases h),fun h3=> ?_⟩) rfl (by simp [resV])
     subst h3; simp at g
    ·have g:l.getD i 0=m.getD i 0:=by simpa using g
     rw [if_pos trivial]
     refine⟨⟨i+1,hlt,fun j hj=> ?_⟩,by show l.length - (i+1)<l.length - i; omega,by simp [SSd,Con.dayS,za],trivial,by kernel_rfl,Nat.zero_le _⟩
     rcases Nat.lt_or_ge j i with h1 | h1
     ·exact hib j h1
     ·have:j=i:=by omega
      rw [this]; exact g
   ·have hge:i=l.length:=by have:=of_decide_eq_false hge; omega
    subst hge
    refine RetR.scal (hq true ⟨fun _=> ?_,fun _=>rfl⟩) rfl (by simp [resV])
    apply List.ext_getElem hl
    intro j g1 g2
    have:=hib j g1
    simpa [List.getD,g1,g2] using this
theorem UL(p:Prop):∃ b:Bool,(b=true↔p):=by
 classical
 exact⟨decide p,by simp⟩
def VY(n:Nat):Ctr:=ctrP true (fun p:Con×Con=>[p.1.conA,p.2.conA]) (fun p=>p.1.nodes<n∧p.1.big<2^40) (fun p r=>(r=true↔p.1=p.2)) (fun _ (r:Bool)=>(.bool r,[]))
noncomputable def GSc0:Nat→Option Ctr:=fun f=>if f=14 then some (JF) else if f=46 then some (zg0) else none
theorem zi2:∀ g c,GSc0 g=some c→zc Tryz.prog g c:=okIf WI (okIf zee (zp))
noncomputable def GScn(n:Nat):Nat→Option Ctr:=fun f=>if f=15 then some (VY n) else GSc0 f
theorem UU{n:Nat}(ih:zc Tryz.prog 15 (VY n)):∀ g c,GScn n g=some c→zc Tryz.prog g c:=fun g c h=>by
 unfold GScn at h
 split at h
 ·rename_i e; cases h; subst e; exact ih
 ·exact zi2 g c h
def SSc(i:Nat):KV:=[(2,.ptr 0 0),(3,.ptr 1 0),(5,.int .i64 (i:Int)),(73,.undef),(74,.undef),(75,.undef),(76,.undef),(77,.undef)]
theorem Yq(n:Nat)(ih:zc Tryz.prog 15 (VY n)):zc Tryz.prog 15 (VY (n+1)):=by
 refine zf (fn:=Tryz.f15) (c:=Tryz.f15.body.getD .skip) rfl rfl rfl fun p hp O w0 Q hq=> ?_
 obtain⟨a,b⟩:=p
 obtain⟨h1,h2⟩:=hp
 simp only at h1 h2 hq
 refine zb.run hmix (UU ih) [2,3,5,73,74,75,76,77] 400 (T:=.ite (bif bif bif bif bif !decide (Con.kind a=Con.kind b) then true else !decide (Con.src a=Con.src b) then true else !decide (Con.dst a=Con.dst b) then true else !decide (Con.name a=Con.name b) then true else !decide (Con.date a=Con.date b) then true else !decide ((↑a.sub.length:Int)=(↑b.sub.length:Int))) (.leaf (.ret [.bool false] [.box (Con.ze a),.box (Con.ze b)])) (.leaf (.loop (Prod.fst (lps K15 0)) (Prod.snd (lps K15 0)) [(2,.ptr 0 0),(3,.ptr 1 0),(5,.int .i64 0),(73,.undef),(74,.undef),(75,.undef),(76,.undef),(77,.undef)] [.box (Con.ze a),.box (Con.ze b)]))) (by kernel_rfl) ?_
 simp only [Tree.holds,zd,inR,lo,hi,Int.toNat_natCast]
 have hb:=h2
 rw [Con.ju] at hb
 have hlb:=Con.qQ a.sub
 refine⟨fun h=> ?_,fun h=> ?_⟩
 ·refine RetR.scal (hq false ⟨fun h=>(by cases h),fun he=> ?_⟩) rfl (by simp [resV])
  subst he
  simp at h
 ·simp at h
  obtain⟨⟨⟨⟨⟨g1,g2⟩,g3⟩,g4⟩,g5⟩,g6⟩:=h
  have g6:a.sub.length=b.sub.length:=by omega
  refine zb.loop (ι:={i:Nat // i≤a.sub.length∧∀ j,j<i→a.sub.getD j Con.nil=b.sub.getD j Con.nil}) (fun i=>SSc i.1) (fun _=>[.box a.ze,.box b.ze]) (fun i=>a.sub.length - i.1) ⟨0,Nat.zero_le _,fun j hj=>by omega⟩ 0 ?_ ?_ (by kernel_rfl)
  ·exact⟨by simp [SSc],⟨zk a,zk b,trivial⟩,by kernel_rfl,Nat.zero_le _⟩
  ·rintro⟨i,hil,hib⟩
   refine zb.run hmix (UU ih) [2,3,5,73,74,75,76,77] 400 (T:=.ite (decide ((↑i:Int)<(↑a.sub.length:Int))) (.side ((0:Int)≤i∧(↑i:Int)<(↑a.sub.length:Int)) (.side ((0:Int)≤i∧(↑i:Int)<(↑b.sub.length:Int)) (.ex (fun(x:Con×Con)=>eqL [(Con.conD (List.getD a.sub (↑i:Int).toNat Con.nil)),(Con.conD (List.getD b.sub (↑i:Int).toNat Con.nil))] [(Con.conA x.1),(Con.conA x.2)]∧Con.nodes x.1<n∧Con.big x.1<1099511627776) fun n=>.all (fun(r:Bool)=>r=true↔n.1=n.2) fun n=>.ite (!n) (.leaf (.ret [.bool false] [.box (Con.ze a),.box (Con.ze b)])) (.side (inR .i64 ((↑i:Int)+(1:Int))) (.leaf (.back 0 [(2,.ptr 0 0),(3,.ptr 1 0),(5,.int .i64 ((↑i:Int)+(1:Int))),(73,.undef),(74,.undef),(75,.undef),(76,.undef),(77,.undef)] [.box (Con.ze a),.box (Con.ze b)])))))) (.ex (fun(x:Ex×Ex)=>eqL [(Ex.exA a.x),(Ex.exA b.x)] [x.1.exA,x.2.exA]∧Ex.size x.1<1152921504606846976) fun n=>.all (fun(r:Bool)=>r=true↔n.1=n.2) fun n=>.ex (fun(x:List Int×List Int)=>n=true→eqL [AV.sl a.days.length 1 (Con.dayG a.days),AV.sl b.days.length 1 (Con.dayG b.days)] [AV.sl x.1.length 1 (Con.dayG x.1),AV.sl x.2.length 1 (Con.dayG x.2)]∧x.1.length<1099511627776) fun n_1=>.all (fun(x:Bool)=>n=true→(x=true↔n_1.1=n_1.2)) fun n_2=>.leaf (.ret [.bool (bif n then n_2 else false)] [.box (Con.ze a),.box (Con.ze b)]))) (by kernel_rfl) ?_
   simp only [Tree.holds,zd,inR,lo,hi,Int.toNat_natCast]
   refine⟨fun hlt=> ?_,fun hge=> ?_⟩
   ·have hlt:i<a.sub.length:=by have:=of_decide_eq_true hlt; omega
    have e1:=Con.qq hlt
    have e2:=Con.jB hlt
    rw [Con.qN] at h1
    refine⟨by omega,fun _=>⟨by omega,fun _=>⟨(a.sub.getD i Con.nil,b.sub.getD i Con.nil),⟨⟨jm _,jm _,trivial⟩,by simp only; omega,by simp only; omega⟩,UL _,?_⟩⟩⟩
    intro e he
    simp only at he
    refine⟨fun g=> ?_,fun g=>⟨by omega,fun _=> ?_⟩⟩
    ·refine RetR.scal (hq false ⟨fun h=>(by cases h),fun h3=> ?_⟩) rfl (by simp [resV])
     have:e=true:=he.2 (by rw [h3])
     rw [this] at g; cases g
    ·rw [if_pos trivial]
     have g:e=true:=by simpa using g
     refine⟨⟨i+1,hlt,fun j hj=> ?_⟩,by show a.sub.length - (i+1)<a.sub.length - i; omega,by simp [SSc],⟨zk a,zk b,trivial⟩,by kernel_rfl,Nat.zero_le _⟩
     rcases Nat.lt_or_ge j i with h1 | h1
     ·exact hib j h1
     ·have:j=i:=by omega
      rw [this]; exact he.1 g
   ·have hge:i=a.sub.length:=by have:=of_decide_eq_false hge; omega
    subst hge
    have hls:=Con.ZI g6 hib
    refine⟨(a.x,b.x),⟨⟨zD a.x,zD b.x,trivial⟩,by simp only; omega⟩,UL _,fun e1 h1=> ?_⟩
    refine⟨(a.days,b.days),fun _=>⟨by simp [za],by simp only; omega⟩,?_,fun e2 h2=> ?_⟩
    ·obtain⟨b,hb⟩:=UL (a.days=b.days)
     exact⟨b,fun _=>hb⟩
    ·refine RetR.scal (hq (bif e1 then e2 else false) ?_) rfl (by simp [resV])
     rw [Con.Q2]
     simp only at h1 h2
     cases e1 with
     | false=>simp only [cond_false]; exact⟨fun h=>(by cases h),fun h=>by have:=h1.2 h.2.2.2.2.1; cases this⟩
     | true=>
      rw [cond_true,h2 rfl]
      exact⟨fun h=>⟨g1,g2,g3,g4,h1.1 rfl,g5,h,hls⟩,fun h=>h.2.2.2.2.2.2.1⟩
def Yk:Ctr:=ctrP true (fun p:Con×Con=>[p.1.conA,p.2.conA]) (fun p=>p.1.big<2^40) (fun p r=>(r=true↔p.1=p.2)) (fun _ (r:Bool)=>(.bool r,[]))
theorem zhe:zc Tryz.prog 15 Yk:=zR (fun p=>p.1.nodes) Yq
end Go.Proofs.Tryz
end
section
namespace Go.Sx
variable [Stat]
variable {P:Program} {fn:Func} {Xp:List PanicEntry→Prop}
def ctrG{X:Type}(inp:X→List AV)(hin:X→Heap)(pre:X→Prop)(outs:X→Tree (AV×Heap)):Ctr where
 fresh:=false
 spec args hc:=.ex (fun x=>eqL args (inp x)∧eqH hc (hin x)∧hc.length=(hin x).length∧pre x) outs
theorem Qm{X:Type}{inp:X→List AV}{hin:X→Heap}{pre:X→Prop}{outs:X→Tree (AV×Heap)}{g:Nat}{c:Code}(hf:P.funcs[g]?=some fn)(hb:fn.body=some c) (hn:(fn.name == "runtime.NumGoroutine")=false)
  (H:∀ x,pre x→∀ (O:Nat→Prop) (w0:World) (σ0:List SE) (Q:AV×Heap→Prop),σ0.length=(hin x).length→(outs x).holds Q →
   zb P fn O (hin x).length w0 σ0 (fun _ _ _=>False) (RetR (ctrG inp hin pre outs) (hin x).length (upQ Q)) [.code c] (k8 fn (inp x) (hin x))):zc P g (ctrG inp hin pre outs):=by
 intro args hc Q hq _
 obtain⟨x,⟨h1,h2,h3,h4⟩,h5⟩:=hq
 refine jy.le h1 (jy.leH h2 h3 (jy.up (fn_k hf hb hn (fun h=>by cases h) fun O w0 σ0 hl=> ?_)))
 exact H x h4 O w0 σ0 Q hl h5
end Go.Sx
end
section
namespace Go.Nov
def sumS(m:Bool)(x:Nat)(n:Bool)(y:Nat):Bool×Nat:=if m=n then(m,x+y) else if y≤x then(m,x - y) else(n,y - x)
def addI(s t:List UInt8):List UInt8×Int:=if zB s t=0 then wr (sumS (negI s) (numI s) (negI t) (numI t)).1 (sumS (negI s) (numI s) (negI t) (numI t)).2 else([],zB s t)
def subI(s t:List UInt8):List UInt8×Int:=if zB s t=0 then wr (sumS (negI s) (numI s) (!negI t) (numI t)).1 (sumS (negI s) (numI s) (!negI t) (numI t)).2 else([],zB s t)
def mulI(s t:List UInt8):List UInt8×Int:=if zB s t=0 then wr (negI s != negI t) (numI s*numI t) else([],zB s t)
def cmpZ(m:Bool)(x:Nat)(n:Bool)(y:Nat):Int:=if m=true∧n=false then -1 else if n=true∧m=false then 1 else if m=true then cmpN y x else cmpN x y
def Qb(s t:List UInt8):Int×Int:=if zB s t=0 then(cmpZ (negI s) (numI s) (negI t) (numI t),0) else(0,zB s t)
theorem Ql{d:Nat}(h:d<10):(byt d).toNat=48+d:=by
 unfold byt
 rw [UInt8.toNat_ofNat']
 omega
theorem ub{x:Nat}(h:x≠0):txt x=((dec x).map byt).reverse:=if_neg h
theorem Qy{x:Nat}(h:x≠0):(txt x).length=(dec x).length:=by rw [ub h]; simp
theorem zkc{x:Nat}(h:x≠0):allD (txt x):=by
 intro c hc
 rw [ub h] at hc
 simp only [List.mem_reverse,List.mem_map] at hc
 obtain⟨d,hd,rfl⟩:=hc
 have:d<10:=Ten.zi x d hd
 rw [Ql this]
 omega
theorem zlg{x:Nat}(h:x≠0):dg (txt x)=dec x:=by
 rw [ub h,dg,List.map_reverse,List.reverse_reverse,List.map_map]
 conv=>rhs; rw [← List.map_id (dec x)]
 refine List.map_congr_left fun d hd=> ?_
 have:d<10:=Ten.zi x d hd
 simp only [Function.comp,Ql this,id]
 omega
theorem zjh{x:Nat}(h:x≠0):numD (txt x)=x:=by
 rw [← VW,zlg h]
 exact Ten.zl x
theorem Z0{x:Nat}(h:x≠0):(txt x).getD 0 0≠48∧(txt x).getD 0 0≠45:=by
 have hl:=Kd h
 have ht:=zaw hl
 have hlt:=dec_lt x ((dec x).length - 1)
 have e:(txt x).getD 0 0=byt ((dec x).getD ((dec x).length - 1) 0):=by
  rw [ub h]
  simp only [List.getD_eq_getElem?_getD]
  rw [List.getElem?_reverse (by simpa using hl)]
  simp [List.getElem?_eq_getElem (show(dec x).length - 1<(dec x).length by omega)]
 rw [e]
 have hb:=Ql hlt
 constructor
 ·intro h2
  rw [h2] at hb
  have:(48:UInt8).toNat=48:=rfl
  omega
 ·intro h2
  rw [h2] at hb
  have:(45:UInt8).toNat=45:=rfl
  omega
theorem Y5{x:Nat}(h:x≠0):txt x≠[]:=by
 intro h2
 have:=Qy h
 rw [h2] at this
 have:=Kd h
 simp at *; omega
theorem zc9{x:Nat}(h:x≠0)(neg:Bool):parse (sgn neg (txt x))=(neg,txt x):=by
 cases neg with
 | true=>rfl
 | false=>
  simp only [sgn,Bool.false_eq_true,if_false]
  have h1:=(Z0 h).2
  cases ht:txt x with
  | nil=>exact absurd ht (Y5 h)
  | cons c b=>
   rw [ht] at h1
   have:c≠45:=h1
   simp [parse,this]
theorem zfn{x:Nat}(h:x≠0)(neg:Bool):qx neg (txt x)=true:=by
 have h1:=(Z0 h).1
 have h2:txt x≠[48]:=by
  intro h2
  rw [h2] at h1
  exact h1 rfl
 have h3:=Y5 h
 have h4:(txt x).all isD=true:=zax.2 (zkc h)
 simp only [List.getD_eq_getElem?_getD] at h1
 simp [qx,h3,h2,h1,h4]
theorem Vb{neg:Bool}{x:Nat}(h:(wr neg x).2=0):errI (wr neg x).1=0∧numI (wr neg x).1=x∧negI (wr neg x).1=(neg&&decide (x≠0)):=by
 unfold wr at h ⊢
 by_cases h0:x=0
 ·subst h0
  simp only [if_true]
  refine⟨rfl,rfl,?_⟩
  simp [negI,parse]
 ·rw [if_neg h0] at h ⊢
  by_cases h1:1000<(dec x).length
  ·rw [if_pos h1] at h; cases h
  ·rw [if_neg h1]
   simp only [errI,numI,negI,zc9 h0,zfn h0,if_true]
   rw [Qy h0,if_neg h1]
   exact⟨rfl,zjh h0,by simp [h0]⟩
theorem zmk(neg:Bool)(x:Nat):(wr neg x).2=0∨wr neg x=([],14):=by
 unfold wr
 split
 ·exact .inl rfl
 ·split
  ·exact .inr rfl
  ·exact .inl rfl
theorem zj1(neg:Bool)(b:List UInt8):(sgn neg b).length≤b.length+1:=by
 unfold sgn; split<;>simp
theorem yQ(neg:Bool)(x:Nat):(wr neg x).1.length≤1001:=by
 unfold wr
 split
 ·simp
 ·rename_i h0
  split
  ·simp
  ·rename_i h1
   have:=zj1 neg (txt x)
   rw [Qy h0] at this
   simp only
   omega
theorem zew(s t:List UInt8):(addI s t).1.length≤1001:=by
 unfold addI
 split
 ·exact yQ _ _
 ·simp
theorem zer(s t:List UInt8):(subI s t).1.length≤1001:=by
 unfold subI
 split
 ·exact yQ _ _
 ·simp
theorem zhk(s t:List UInt8):(mulI s t).1.length≤1001:=by
 unfold mulI
 split
 ·exact yQ _ _
 ·simp
theorem zj2(b:Bool)(x:Nat):wr (b&&decide (0<x)) x=wr b x:=by
 unfold wr
 by_cases h:x=0
 ·rw [if_pos h,if_pos h]
 ·rw [if_neg h,if_neg h]
  have:decide (0<x)=true:=decide_eq_true (Nat.pos_of_ne_zero h)
  rw [this,Bool.and_true]
theorem ziv(m:Bool)(x:Nat)(n:Bool)(y:Nat):(sumS m x n y).2≤x+y:=by
 unfold sumS
 split
 ·exact Nat.le_refl _
 ·split
  ·simp only; omega
  ·simp only; omega
end Go.Nov
end
section
namespace Go.Nov
def zg5(neg:Bool)(x y:Nat):List UInt8:=
 if y/Nat.gcd x y=1 then(wr neg (x/Nat.gcd x y)).1 else(wr neg (x/Nat.gcd x y)).1++[47]++(wr false (y/Nat.gcd x y)).1
def xF(n d:List UInt8):List UInt8×Int:=if zB n d≠0 then([],zB n d) else if numI d=0 then([],16) else(zg5 (negI n != negI d) (numI n) (numI d),0)
def kr(a b:List UInt8):Int:=if errR a=0 then errR b else errR a
def numR(a:List UInt8):List UInt8:=(cutR a).1
def denR(a:List UInt8):List UInt8:=if(cutR a).2.2 then(cutR a).2.1 else [49]
def frac(z w:List UInt8×Int):List UInt8×Int:=if z.2≠0∨w.2≠0 then([],14) else xF z.1 w.1
def qR(a b:List UInt8):Int:=if kr a b≠0 then kr a b else if(mulI (numR a) (denR b)).2≠0∨(mulI (numR b) (denR a)).2≠0 then 14 else 0
def addR(a b:List UInt8):List UInt8×Int:=if qR a b≠0 then([],qR a b) else frac (addI (mulI (numR a) (denR b)).1 (mulI (numR b) (denR a)).1) (mulI (denR a) (denR b))
def subR(a b:List UInt8):List UInt8×Int:=if qR a b≠0 then([],qR a b) else frac (subI (mulI (numR a) (denR b)).1 (mulI (numR b) (denR a)).1) (mulI (denR a) (denR b))
def mulR(a b:List UInt8):List UInt8×Int:=if kr a b≠0 then([],kr a b) else frac (mulI (numR a) (numR b)) (mulI (denR a) (denR b))
def cmpR(a b:List UInt8):Int×Int:=if qR a b≠0 then(0,qR a b) else Qb (mulI (numR a) (denR b)).1 (mulI (numR b) (denR a)).1
end Go.Nov
namespace Go.Nov
def dmQ(s t:List UInt8):Nat:=if negI s=true∧0<numI s%numI t then numI s/numI t+1 else numI s/numI t
def dmM(s t:List UInt8):Nat:=if negI s=true∧0<numI s%numI t then numI t - numI s%numI t else numI s%numI t
def dmI(s t:List UInt8):List UInt8×List UInt8×Int:=
 if zB s t≠0 then([],[],zB s t) else if numI t=0 then([],[],16) else((wr (negI s != negI t) (dmQ s t)).1,(wr false (dmM s t)).1,0)
theorem zhz{s:List UInt8}(h:errI s=0):∃ k,k≤1000∧numI s<10^k:=by
 obtain⟨_,h1,_,h2⟩:=uv h
 exact⟨_,h2,yi h1⟩
def room(x:Nat):Prop:=(dec x).length≤1000
theorem room_le{x y:Nat}(h:x≤y)(hy:room y):room x:=by
 rcases Nat.lt_or_ge (dec y).length (dec x).length with h1 | h1
 ·have:=Ten.qk h1
  omega
 ·exact Nat.le_trans h1 hy
theorem wW{s:List UInt8}(h:errI s=0):room (numI s):=by
 obtain⟨k,h1,h2⟩:=zhz h
 exact Nat.le_trans (yE h2) h1
theorem xm{neg:Bool}{x:Nat}(h:room x):(wr neg x).2=0:=by
 unfold wr
 split
 ·rfl
 ·rw [if_neg (by have:(dec x).length≤1000:=h; omega)]
theorem zf4{s t:List UInt8}(hs:errI s=0)(ht:numI t≠0):room (dmQ s t):=by
 have h:=wW hs
 unfold dmQ
 split
 ·rename_i hc
  by_cases h1:numI t=1
  ·rw [h1,Nat.mod_one] at hc; omega
  ·refine room_le ?_ h
   have h2:numI s/numI t≤numI s/2:=Nat.div_le_div_left (by omega) (by omega)
   have h3:numI s≠0:=fun h0=>by rw [h0,Nat.zero_mod] at hc; omega
   by_cases h4:numI s=1
   ·have:numI s/numI t=0:=Nat.div_eq_of_lt (by omega)
    omega
   ·omega
 ·exact room_le (Nat.div_le_self _ _) h
theorem zh3{s t:List UInt8}(ht:errI t=0)(h0:numI t≠0):room (dmM s t):=by
 have h:=wW ht
 have hm:=Nat.mod_lt (numI s) (Nat.pos_of_ne_zero h0)
 unfold dmM
 split
 ·exact room_le (Nat.sub_le _ _) h
 ·exact room_le (by omega) h
end Go.Nov
namespace Go.Nov
theorem Q7:wr false 1=([49],0):=by
 have h:dec 1=[1]:=by
  show Ten.canon 1=[1]
  rw [Ten.jb (by decide)]
  exact congrArg (1 :: ·) Ten.zT
 simp [wr,h,txt,sgn,byt]
theorem Uw{x:Nat}(h:room x):(wr false x).1=[49]↔x=1:=by
 constructor
 ·intro e
  have:=(Vb (xm (neg:=false) h)).2.1
  rw [e] at this
  exact this.symm
 ·rintro rfl
  rw [Q7]
theorem zf5{x:Nat}(h0:x≠0)(h:room x):[45]++(wr false x).1=(wr true x).1:=by
 unfold wr
 rw [if_neg h0,if_neg h0,if_neg (by have:(dec x).length≤1000:=h; omega),if_neg (by have:(dec x).length≤1000:=h; omega)]
 rfl
theorem xG{t:List UInt8}(h:errI t=0):t=[48]↔numI t=0:=by
 constructor
 ·rintro rfl; rfl
 ·intro h0
  obtain⟨neg,b,h1,h2,h3,h4,h5,h6⟩:=Qt h
  have hb:numD b=0:=by simpa [numI,h2] using h0
  cases b with
  | nil=>exact absurd rfl h5
  | cons c r=>
   have hc:=h4 c (by simp)
   have e:numD (c::r)=(c.toNat - 48)*10^r.length+numD r:=by
    have:=kp [c] r
    simp only [List.singleton_append] at this
    rw [this]
    simp [numD]
   rw [e] at hb
   have hc0:c.toNat=48:=by
    rcases Nat.eq_zero_or_pos (c.toNat - 48) with h7 | h7
    ·omega
    ·have:=Nat.mul_pos h7 (Nat.pow_pos (n:=r.length) (show 0<10 by decide))
     omega
   have hc1:c=48:=UInt8.toNat_inj.1 (by rw [hc0]; rfl)
   subst hc1
   have hr:r=[]:=by
    cases r with
    | nil=>rfl
    | cons d r=>
     have:=vZ (neg:=neg) (b:=48::d::r) rfl (by simp)
     rw [this] at h3; cases h3
   subst hr
   cases neg with
   | true=>cases h3
   | false=>simpa [sgn] using h1
theorem Xl{s:List UInt8}{b:Bool}{g:Nat}(hs:errI s=0)(h0:g≠0)(hg:room g)(hd:g ∣ numI s):dmI s (wr b g).1=((wr (negI s != b) (numI s/g)).1,[48],0):=by
 obtain⟨h1,h2,h3⟩:=Vb (xm (neg:=b) hg)
 have hb:negI (wr b g).1=b:=by rw [h3]; simp [h0]
 have he:zB s (wr b g).1=0:=zK.2 ⟨hs,h1⟩
 have hm:numI s%g=0:=Nat.mod_eq_zero_of_dvd hd
 unfold dmI
 rw [if_neg (by rw [he]; decide),h2,if_neg h0,hb]
 have hq:dmQ s (wr b g).1=numI s/g:=by
  unfold dmQ
  rw [h2,hm,if_neg (by omega)]
 have hr:dmM s (wr b g).1=0:=by
  unfold dmM
  rw [h2,hm,if_neg (by omega)]
 rw [hq,hr]
 rfl
theorem XC{s t:List UInt8}(ht:errI t=0)(h0:numI t≠0):Nat.gcd (numI s) (numI t)≠0∧room (Nat.gcd (numI s) (numI t)):=by
 have hp:=Nat.pos_of_ne_zero h0
 refine⟨fun h=> ?_,room_le (Nat.le_of_dvd hp (Nat.gcd_dvd_right _ _)) (wW ht)⟩
 have:=Nat.eq_zero_of_gcd_eq_zero_right h
 exact h0 this
end Go.Nov
namespace Go.Nov
theorem KU:errI [49]=0:=rfl
theorem vV{a:List UInt8}(h:errR a=0):errI (numR a)=0∧errI (denR a)=0∧negI (denR a)=false∧numI (denR a)≠0:=by
 unfold errR at h
 unfold numR denR
 cases hc:(cutR a).2.2 with
 | true=>
  rw [hc] at h
  simp only [if_true] at h ⊢
  split at h
  ·cases h
  ·rename_i h1
   simp only [not_or] at h1
   split at h
   ·cases h
   ·rename_i h2
    simp only [not_or,Classical.not_not] at h2
    refine⟨h2.1,h2.2,by simpa using h1.2.2.1,fun h0=> ?_⟩
    exact h1.2.2.2.1 ((xG h2.2).2 h0)
 | false=>
  rw [hc] at h
  simp only [Bool.false_eq_true,if_false] at h ⊢
  have:(cutR a).1=a:=by
   unfold cutR at hc ⊢
   split at hc
   ·cases hc
   ·rename_i hn; rw [if_neg hn]
  rw [this]
  exact⟨h,KU,rfl,by decide⟩
theorem Xw(a:List UInt8):(numR a).length≤a.length:=(Qv a).1
theorem Xt(a:List UInt8):(denR a).length≤a.length+1:=by
 unfold denR
 split
 ·exact Nat.le_trans (Qv a).2 (Nat.le_succ _)
 ·simp
theorem XR{s t:List UInt8}(h:zB s t=0):(mulI s t).2=0∧errI (mulI s t).1=0∨mulI s t=([],14):=by
 unfold mulI
 rw [if_pos h]
 exact(zmk _ _).imp (fun h=>⟨h,(Vb h).1⟩) id
end Go.Nov
namespace Go.Nov
def stp(e:Int)(f:List UInt8→List UInt8→List UInt8×Int)(x y:List UInt8):List UInt8×Int:=if e≠0 then([],e) else f x y
theorem zk4{e:Int}{f:List UInt8→List UInt8→List UInt8×Int}{x y:List UInt8}(h:(f x y).1.length≤1001):(stp e f x y).1.length≤1001:=by
 unfold stp
 split
 ·simp
 ·exact h
theorem Ug{e:Int}(h:e≠0)(f:List UInt8→List UInt8→List UInt8×Int)(x y:List UInt8):stp e f x y=([],e):=if_pos h
theorem UX(f:List UInt8→List UInt8→List UInt8×Int)(x y:List UInt8):stp 0 f x y=f x y:=if_neg (by simp)
section
variable {a b n m d c:List UInt8} {e:Int} (hp:(e≠0∧kr a b=e)∨(e=0∧errR a=0∧errR b=0∧n=numR a∧m=numR b∧d=denR a∧c=denR b))
include hp
theorem zcm{r1 r2:List UInt8×Int}(h1:r1=stp e mulI n c)(h2:r2=stp r1.2 mulI m d):(if r2.2≠0 then(0,r2.2) else Qb r1.1 r2.1)=cmpR a b:=by
 unfold cmpR
 rcases hp with ⟨he,h2e⟩ | ⟨rfl,ha,hb,rfl,rfl,rfl,rfl⟩
 ·have hc:qR a b=e:=by unfold qR; rw [if_pos (by rw [h2e]; exact he)]; exact h2e
  rw [Ug he] at h1
  subst h1
  rw [Ug he] at h2
  subst h2
  rw [hc,if_pos he,if_pos he]
 ·obtain⟨a1,a2,_⟩:=vV ha
  obtain⟨b1,b2,_⟩:=vV hb
  have he2:kr a b=0:=by unfold kr; rw [if_pos ha]; exact hb
  have e14:(14:Int)≠0:=by decide
  have hc:qR a b=if(mulI (numR a) (denR b)).2≠0∨(mulI (numR b) (denR a)).2≠0 then 14 else 0:=by unfold qR; rw [if_neg (by rw [he2]; simp)]
  rw [UX] at h1
  rcases XR (zK.2 ⟨a1,b2⟩) with ⟨g1,k1⟩ | g1
  ·rw [← h1] at g1
   rw [g1,UX] at h2
   rcases XR (zK.2 ⟨b1,a2⟩) with ⟨g2,k2⟩ | g2
   ·rw [← h2] at g2
    have hc0:qR a b=0:=by rw [hc,if_neg]; rw [← h1,← h2,g1,g2]; simp
    rw [hc0,if_neg (by rw [g2]; simp),if_neg (by simp),← h1,← h2]
   ·rw [← h2] at g2
    have hc0:qR a b=14:=by rw [hc,if_pos]; rw [← h2,g2]; simp
    rw [hc0,g2,if_pos e14,if_pos e14]
  ·rw [← h1] at g1
   have hc0:qR a b=14:=by rw [hc,if_pos]; rw [← h1,g1]; simp
   have q2:r2=([],14):=by rw [h2,g1]; exact Ug e14 _ _ _
   rw [hc0,q2,if_pos e14,if_pos e14]
end
end Go.Nov
end
section
namespace Go.Nov
theorem zln{b:List UInt8}(h:allD b)(hn:b≠[])(hz:b.getD 0 0≠48):numD b≠0∧txt (numD b)=b:=by
 have hd:=ze1 h
 have hl:0<b.length:=List.length_pos_iff.2 hn
 have htl:Ten.tlen (dg b)=(dg b).length:=by
  rcases Nat.lt_or_ge (Ten.tlen (dg b)) (dg b).length with h1 | h1
  ·exfalso
   have h2:=Ten.jc (dg b) ((dg b).length - 1) (by omega)
   rw [xY] at h2
   have e:(dg b).getD (b.length - 1) 0=(b.getD 0 0).toNat - 48:=by
    simp only [dg,List.getD_eq_getElem?_getD]
    rw [List.getElem?_reverse (by simp; omega)]
    simp [List.getElem?_eq_getElem hl,show b.length - 1 - (b.length - 1)=0 by omega]
   rw [e] at h2
   have h3:48≤(b.getD 0 0).toNat:=by
    cases b with
    | nil=>exact absurd rfl hn
    | cons c r=>exact(h c (by simp)).1
   apply hz
   apply UInt8.toNat_inj.1
   show _=48
   omega
  ·exact Nat.le_antisymm (Ten.qi _) h1
 have hc:dec (numD b)=dg b:=by
  rw [← VW]
  exact Ten.Vc hd htl
 have h0:numD b≠0:=by
  intro h0
  rw [h0] at hc
  have:dg b=[]:=by rw [← hc]; exact Ten.zT
  have:=congrArg List.length this
  rw [xY,List.length_nil] at this
  omega
 refine⟨h0,?_⟩
 rw [ub h0,hc,dg,← List.map_reverse,List.reverse_reverse,List.map_map]
 conv=>rhs; rw [← List.map_id b]
 refine List.map_congr_left fun c hcm=> ?_
 obtain⟨h1,h2⟩:=h c hcm
 apply UInt8.toNat_inj.1
 simp only [Function.comp,id]
 rw [Ql (by omega)]
 omega
theorem US{s:List UInt8}(h:errI s=0):wr (negI s) (numI s)=(s,0):=by
 obtain⟨neg,b,h1,h2,h3,h4,h5,h6⟩:=Qt h
 have e1:negI s=neg:=by simp [negI,h2]
 have e2:numI s=numD b:=by simp [numI,h2]
 rw [e1,e2]
 by_cases hz:b.getD 0 0=48
 ·have hb:b=[48]:=by
   cases b with
   | nil=>exact absurd rfl h5
   | cons c r=>
    cases r with
    | nil=>have:c=48:=hz; rw [this]
    | cons d r=>rw [vZ hz (by simp)] at h3; cases h3
  subst hb
  cases neg with
  | true=>cases h3
  | false=>rw [h1]; rfl
 ·obtain⟨g1,g2⟩:=zln h4 h5 hz
  unfold wr
  rw [if_neg g1,g2,if_neg,h1]
  have:=Qy g1
  rw [g2] at this
  omega
def zI(s:List UInt8):Int:=if negI s then -(numI s:Int) else numI s
theorem Ju(s:List UInt8):(zI s).natAbs=numI s:=by unfold zI; split<;>simp
theorem zmx{s:List UInt8}(h:errI s=0):negI s=decide (zI s<0):=by
 unfold zI
 cases hn:negI s with
 | false=>simp
 | true=>
  simp only [if_true]
  have:numI s≠0:=by
   intro h0
   have:=(xG h).2 h0
   rw [this] at hn
   cases hn
  exact(decide_eq_true (by omega)).symm
def wz(z:Int):List UInt8×Int:=wr (decide (z<0)) z.natAbs
theorem VZ{s:List UInt8}(h:errI s=0):wz (zI s)=(s,0):=by
 unfold wz
 rw [Ju,← zmx h,US h]
theorem zmz{neg:Bool}{x:Nat}(h:(wr neg x).2=0):zI (wr neg x).1=if neg then -(x:Int) else x:=by
 obtain⟨h1,h2,h3⟩:=Vb h
 unfold zI
 rw [h2,h3]
 by_cases h0:x=0
 ·subst h0; simp
 ·cases neg<;>simp [h0]
theorem zkm{z:Int}(h:(wz z).2=0):zI (wz z).1=z:=by
 unfold wz at h ⊢
 rw [zmz h]
 by_cases hz:z<0
 ·rw [decide_eq_true hz]; simp only [if_true]; omega
 ·rw [decide_eq_false hz]; simp only [Bool.false_eq_true,if_false]; omega
theorem zkp{z:Int}(h:(wz z).2=0):errI (wz z).1=0:=(Vb h).1
theorem zng{neg:Bool}{x:Nat} : wr neg x=wz (if neg then -(x:Int) else x):=by
 unfold wz
 by_cases h0:x=0
 ·subst h0
  cases neg<;>rfl
 ·cases neg with
  | false=>simp only [Bool.false_eq_true,if_false,Int.natAbs_natCast]; rw [decide_eq_false (by omega)]
  | true=>simp only [if_true,Int.natAbs_neg,Int.natAbs_natCast]; rw [decide_eq_true (by omega)]
theorem VN{s t:List UInt8}(h:zB s t=0):mulI s t=wz (zI s*zI t):=by
 unfold mulI
 rw [if_pos h,zng]
 congr 1
 unfold zI
 cases negI s<;>cases negI t<;>simp [Int.neg_mul,Int.mul_neg]
theorem zlp(m:Bool)(x:Nat)(n:Bool)(y:Nat)(hm:m=true→x≠0)(hn:n=true→y≠0):cmpZ m x n y=cmpI (if m then -(x:Int) else x) (if n then -(y:Int) else y):=by
 unfold cmpZ cmpI cmpN
 cases m<;>cases n
 ·simp only [Bool.false_eq_true,false_and,if_false]
  repeat' split
  all_goals first | rfl | omega
 ·have:=hn rfl
  simp only [Bool.false_eq_true,false_and,if_false,true_and,and_self,if_true]
  repeat' split
  all_goals first | rfl | omega
 ·have:=hm rfl
  simp only [and_self,if_true,Bool.false_eq_true,if_false]
  repeat' split
  all_goals first | rfl | omega
 ·simp only [Bool.true_eq_false,and_false,if_false,if_true]
  repeat' split
  all_goals first | rfl | omega
def qv(a:List UInt8):Rat:=Rat.divInt (zI (numR a)) (zI (denR a))
def qstr(r:Rat):List UInt8:=if r.den=1 then(wz r.num).1 else(wz r.num).1++[47]++(wz r.den).1
def zkz(r:Rat):Prop:=room r.num.natAbs∧room r.den
theorem JY{a:List UInt8}(h:errR a=0):(qv a).num=zI (numR a)∧((qv a).den:Int)=zI (denR a)∧qstr (qv a)=a∧zkz (qv a):=by
 obtain⟨e1,e2,e3,e4⟩:=vV h
 have hz:zI (denR a)=numI (denR a):=by unfold zI; rw [e3]; rfl
 have hcop:Nat.gcd (numI (numR a)) (numI (denR a))=1:=by
  unfold errR at h
  cases hc:(cutR a).2.2 with
  | true=>
   rw [hc,if_pos rfl] at h
   have hd:denR a=(cutR a).2.1:=by unfold denR; rw [hc]; rfl
   rw [hd] at e2 e4 ⊢
   unfold numR at e1 ⊢
   split at h
   ·cases h
   split at h
   ·cases h
   split at h
   ·cases h
   ·rename_i hg
    rw [Classical.not_not] at hg
    unfold gcdR at hg
    rw [if_pos (zK.2 ⟨e1,e2⟩)] at hg
    exact(Uw (XC e2 e4).2).1 hg
  | false=>
   have:denR a=[49]:=by unfold denR; rw [hc]; rfl
   rw [this]
   exact Nat.gcd_one_right _
 have hq:qv a=⟨zI (numR a),numI (denR a),e4,by rw [Ju]; exact hcop⟩:=by
  unfold qv
  rw [hz,Rat.mk_eq_divInt]
 have hroom:zkz (qv a):=by
  rw [hq]
  exact⟨by show room (zI (numR a)).natAbs; rw [Ju]; exact wW e1,wW e2⟩
 refine⟨by rw [hq],by rw [hq,hz],?_,hroom⟩
 rw [hq]
 unfold qstr
 simp only
 rw [← hz,VZ e1,VZ e2]
 cases hc:(cutR a).2.2 with
 | true=>
  have hd:denR a=(cutR a).2.1:=by unfold denR; rw [hc]; rfl
  have hn1:numI (denR a)≠1:=by
   intro h1
   have:denR a=[49]:=by
    have:=(US e2)
    rw [e3,h1,Q7] at this
    exact(congrArg Prod.fst this).symm
   unfold errR at h
   rw [hc,if_pos rfl,if_pos (by rw [← hd,this]; simp)] at h
   cases h
  rw [if_neg hn1,hd]
  simp only [numR]
  unfold cutR at hc ⊢
  split at hc
  ·rename_i hs
   rw [if_pos hs]
   simp only
   have h47:=Jb hs
   have:a=a.take (zC a)++([a.getD (zC a) 0]++a.drop (zC a+1)):=by
    conv=>lhs; rw [← List.take_append_drop (zC a) a]
    congr 1
    rw [List.drop_eq_getElem_cons hs]
    simp [List.getD,List.getElem?_eq_getElem hs]
   rw [h47] at this
   rw [List.append_assoc]
   exact this.symm
  ·cases hc
 | false=>
  have hd:denR a=[49]:=by unfold denR; rw [hc]; rfl
  rw [hd]
  have:numI [49]=1:=rfl
  rw [if_pos this]
  unfold numR
  unfold cutR at hc ⊢
  split at hc
  ·cases hc
  ·rename_i hs
   rw [if_neg hs]
end Go.Nov
end
section
namespace Go.Nov
section
variable {a b:List UInt8} (ha:errR a=0) (hb:errR b=0)
include ha hb
theorem zhb:errI (numR a)=0∧errI (denR a)=0∧errI (numR b)=0∧errI (denR b)=0∧zI (denR a)≠0∧zI (denR b)≠0∧kr a b=0:=by
 obtain⟨a1,a2,_,a4⟩:=vV ha
 obtain⟨b1,b2,_,b4⟩:=vV hb
 exact⟨a1,a2,b1,b2,fun h=>a4 (by rw [← Ju,h]; rfl),fun h=>b4 (by rw [← Ju,h]; rfl),by unfold kr; rw [if_pos ha]; exact hb⟩
theorem zj4:qR a b=14∨(qR a b=0∧mulI (numR a) (denR b)=wz (zI (numR a)*zI (denR b))∧mulI (numR b) (denR a)=wz (zI (numR b)*zI (denR a))∧(mulI (numR a) (denR b)).2=0∧(mulI (numR b) (denR a)).2=0):=by
 obtain⟨a1,a2,b1,b2,a4,b4,h2⟩:=zhb ha hb
 have m1:=VN (zK.2 ⟨a1,b2⟩)
 have m2:=VN (zK.2 ⟨b1,a2⟩)
 unfold qR
 rw [if_neg (by rw [h2]; simp)]
 by_cases h:(mulI (numR a) (denR b)).2≠0∨(mulI (numR b) (denR a)).2≠0
 ·left; rw [if_pos h]
 ·right
  rw [if_neg h]
  simp only [not_or,Classical.not_not] at h
  exact⟨rfl,m1,m2,h.1,h.2⟩
theorem zlu:cmpR a b=(0,14)∨cmpR a b=(if qv a<qv b then -1 else if qv b<qv a then 1 else 0,0):=by
 obtain⟨a1,a2,b1,b2,a4,b4,h2⟩:=zhb ha hb
 obtain⟨p1,p2,_,_⟩:=JY ha
 obtain⟨r1,r2,_,_⟩:=JY hb
 unfold cmpR
 rcases zj4 ha hb with h | ⟨h,m1,m2,k1,k2⟩
 ·left; rw [h]; rfl
 ·right
  rw [h,if_neg (by simp)]
  rw [m1] at k1
  rw [m2] at k2
  have e1:=zkp k1
  have e2:=zkp k2
  rw [m1,m2]
  unfold Qb
  rw [if_pos (zK.2 ⟨e1,e2⟩)]
  congr 1
  have hx:∀ s:List UInt8,errI s=0→negI s=true→numI s≠0:=fun s he hn h0=>by
   rw [(xG he).2 h0] at hn; cases hn
  rw [zlp _ _ _ _ (hx _ e1) (hx _ e2)]
  show cmpI (zI (wz (zI (numR a)*zI (denR b))).1) (zI (wz (zI (numR b)*zI (denR a))).1)=_
  rw [zkm k1,zkm k2,← p1,← p2,← r1,← r2]
  unfold cmpI
  simp only [Rat.lt_iff]
end
end Go.Nov
end
section
namespace Go.Nov
end Go.Nov
end
section
namespace Go.Nov
open Go.Sx
structure TOp where
 kind:Int
 a:Int
 b:Int
 rat:List UInt8
abbrev TOp.nil:TOp:=⟨0,0,0,[]⟩
def TOp.cell(o:TOp):Nat→AV
 | 0=>.int .u8 o.kind
 | 1=>.int .i64 o.a
 | 2=>.int .i64 o.b
 | 3=>.str o.rat
 | _=>.undef
def opG(l:List TOp):Nat→Nat→AV:=fun j=>(l.getD j TOp.nil).cell
def opS(l:List TOp):AV:=.sl l.length 4 (opG l)
structure Tp where
 n:Int
 ops:List TOp
def Tp.av(t:Tp):AV:=.agg [.int .i64 t.n,opS t.ops]
end Go.Nov
end
section
namespace Go.Nov
open Go.Sx
structure Deal where
 long:List UInt8
 short:List UInt8
 ccy:List UInt8
 name:List UInt8
 Zw:List UInt8
 WH:List UInt8
def Deal.av(d:Deal):AV:=.agg [.str d.long,.str d.short,.str d.ccy,.str d.name,.str d.Zw,.str d.WH]
def Deal.cells(d:Deal)(e:Int):List AV:=[.int .i64 e,.str d.long,.str d.short,.str d.ccy,.str d.name,.str d.Zw,.str d.WH]
namespace Tm
def kon(r:List UInt8):Ex:=.mk 1 r [] 0 []
def spot(n:List UInt8):Ex:=.mk 3 [] n 0 []
def opx(k:Int)(s:List Ex):Ex:=.mk k [] [] 0 s
def over(k:List UInt8)(x:Ex)(below:Bool):Ex:=opx 7 [kon [48],opx 5 (if below=true then [kon k,x] else [x,kon k])]
def pay(d:Deal)(x:Ex)(r:List UInt8):Con:=.mk 2 d.short d.long d.ccy (opx 6 [x,kon r]) 0 [] []
def at_(day:Int)(c:Con):Con:=.mk 6 [] [] [] (.mk 0 [] [] 0 []) day [] [c]
def call(d:Deal)(ch:List UInt8)(days:List Int)(c:Con):Con:=.mk 8 d.long [] ch (.mk 0 [] [] 0 []) 0 days [c]
def first(e:Int)(l:List (List UInt8)):Int:=l.foldl (fun e r=>if e=0 then errR r else e) e
def zero:Con:=.mk 0 [] [] [] (.mk 0 [] [] 0 []) 0 [] []
def fits(d:Deal):Prop:=d.long.length≤200∧d.short.length≤200∧d.ccy.length≤200∧d.name.length≤200∧d.Zw.length≤2500∧d.WH.length≤2500
def res(d:Deal)(c:Con):Int:=if first 0 [d.Zw,d.WH]=0 then c.errC else first 0 [d.Zw,d.WH]
def out(e:Int)(c:Con):Con:=if e=0 then c else zero
def opt(d:Deal)(ch:List UInt8)(days:List Int)(put:Bool):Con:=call d ch days (pay d (over d.Zw (spot d.name) put) d.WH)
end Tm
end Go.Nov
end
section
namespace Go.Sx
open Go.Nov
variable [Stat]
theorem LeL.dAt:∀ {l m:List AV} (i:Nat),LeL l m→LeA (l.getD i .undef) (m.getD i .undef)
 | [],[],_,_=>LeA.refl _
 | [],_::_,_,h=>by simp [LeL] at h
 | _::_,[],_,h=>by simp [LeL] at h
 | a::l,b::m,0,h=>by simp only [LeL] at h; exact h.1
 | a::l,b::m,i+1,h=>by
  simp only [LeL] at h
  have:=LeL.dAt i h.2
  simpa [List.getD] using this
theorem RetR.xB{ctr:Ctr}{m:Nat}{Q:AV×Heap→Prop}{rs:List AV}{h:Heap}{r:AV}{hs:Heap}(L:List Nat)(hnd:jM L=true)(hlt:(L.all fun i=>decide (i<h.length))=true)(hj:∀ j,j<m→L[j]?=some j)(hf:ctr.fresh=false)(hq:Q (r,hs))
  (he:LeA (exp2 h L (resV rs)) r) (hb:eqH (expH h L) hs) (hl:hs.length=L.length):RetR ctr m Q rs h:=
 ⟨L,hnd,fun i hi=>by have:=List.all_eq_true.1 hlt i hi; simpa using this,hj,(fun hh=>absurd hh (by rw [hf]; decide)),r,hs,he,.inl hb,hl,hq⟩
theorem RetR.vu{ctr:Ctr}{m:Nat}{Q:AV×Heap→Prop}{rs:List AV}{h:Heap}{r:AV}{hs:Heap}(L:List Nat)(hnd:jM L=true)(hlt:(L.all fun i=>decide (i<h.length))=true)(hj:∀ j,j<m→L[j]?=some j)(hf:ctr.fresh=false)(hq:Q (r,hs))
  (he:LeA (exp2 h L (resV rs)) r) (hb:leHs (expH h L) hs):RetR ctr m Q rs h:=
 ⟨L,hnd,fun i hi=>by have:=List.all_eq_true.1 hlt i hi; simpa using this,hj,(fun hh=>absurd hh (by rw [hf]; decide)),r,hs,he,.inr hb,by rw [KB hb]; simp [expH],hq⟩
end Go.Sx
namespace Go.Nov
open Go.Sx
variable [Go.Sx.Stat]
theorem Ex.vy{x y:Ex}{k d:Int}{r n:List UInt8}{c:List AV}(h:LeL c (x.cellsD++y.cellsD)):LeA (.sl 2 5 (zg (zh 5 c) 0)) (.sl 2 5 (Ex.mk k r n d [x,y]).deep):=by
 refine LeA.sl rfl fun j o hj ho=> ?_
 rw [Ex.zA (Ex.mk k r n d [x,y]) j o (by show j<2; omega) ho]
 have:=LeL.dAt (j*5+o) h
 simp only [zg,zh,Nat.zero_add]
 rcases(show j=0∨j=1 by omega) with rfl | rfl<;>rcases(show o=0∨o=1∨o=2∨o=3∨o=4 by omega) with rfl | rfl | rfl | rfl | rfl<;>exact this
theorem Ex.zaj(x y:Ex):eqG 2 5 (zg (zh 5 (x.cellsD++y.cellsD)) 0) (Ex.exG [x,y]):=by
 intro j o hj ho
 simp only [zg,zh,Nat.zero_add]
 rcases(show j=0∨j=1 by omega) with rfl | rfl<;>rcases(show o=0∨o=1∨o=2∨o=3∨o=4 by omega) with rfl | rfl | rfl | rfl | rfl<;>rfl
theorem Ex.js(z:Ex):LeA (.sl z.sub.length 5 (Ex.exG z.sub)) (.sl z.sub.length 5 z.deep):=LeA.sl rfl fun j o hj ho=>by rw [Ex.zA z j o hj ho]; exact LeA.refl _
theorem Con.js(z:Con):LeA (.sl z.sub.length 12 (Con.conG z.sub)) (.sl z.sub.length 12 z.deep):=LeA.sl rfl fun j o hj ho=>by rw [Con.zA z j o hj ho]; exact LeA.refl _
end Go.Nov
end
section
set_option maxRecDepth 100000
open Go Go.Sx Go.Proofs Go.Nov
namespace Go.Proofs.Tryz
attribute [local simp] eqKV eqA eqA0 eqH eqB eqL eqL0
end Go.Proofs.Tryz
end
section
namespace Go.Nov
structure OrdT{α:Type}(c:α→α→Int):Prop extends OrdK c where
 irr:∀ a,c a a=0
 tot:∀ a b,c a b<0∨c a b=0∨c b a<0
 sym:∀ a b,c a b=0→c b a=0
 eqt:∀ a b d,c a b=0→c b d=0→c a d=0
 eq2:∀ a b d,c a b=0→c b d<0→c a d<0
section
variable {α:Type} {c:α→α→Int} {z x y:α} (hk:OrdT c)
include hk
end
end Go.Nov
end
section
namespace Go.Nov
theorem zgk(z:Int):z=0∧(wz z).1=[48]∨z≠0∧room z.natAbs∧(wz z).1=sgn (decide (z<0)) (txt z.natAbs)∨¬ room z.natAbs:=by
 by_cases h0:z=0
 ·left; subst h0; exact⟨rfl,rfl⟩
 ·right
  by_cases hr:room z.natAbs
  ·left
   refine⟨h0,hr,?_⟩
   unfold wz wr
   have hr':(dec z.natAbs).length≤1000:=hr
   rw [if_neg (by omega),if_neg (by omega)]
  ·exact .inr hr
theorem zgw(b:List UInt8):sgn true b=45::b:=rfl
theorem zbt(b:List UInt8):sgn false b=b:=rfl
end Go.Nov
end
section
namespace Go.Nov
open Go.Sx
structure Ca where
 name:List UInt8
 into:List UInt8
 date:Int
 ratio:List UInt8
 extra:List UInt8
def Ca.av(a:Ca):AV:=.agg [.str a.name,.str a.into,.int .i64 a.date,.str a.ratio,.str a.extra]
theorem KF{a:List UInt8}(h:errR a=0):(a.getD 0 0=45↔qv a<0)∧(a=[48]↔qv a=0)∧a≠[]:=by
 obtain⟨p1,p2,p3,p4⟩:=JY h
 generalize qv a=r at p1 p2 p3 p4
 have ht:∃ t:List UInt8,a=(wz r.num).1++t∧(r.den=1→t=[]):=by
  rw [← p3]
  unfold qstr
  by_cases hd1:r.den=1
  ·rw [if_pos hd1]; exact⟨[],by simp,fun _=>rfl⟩
  ·rw [if_neg hd1]; exact⟨[47]++(wz r.den).1,by simp,fun h=>absurd h hd1⟩
 obtain⟨t,e,ht⟩:=ht
 have hneg:r<0↔r.num<0:=by
  rw [Rat.lt_iff]
  simp
 rcases zgk r.num with ⟨z0,zs⟩ | ⟨z0,zr,zs⟩ | zr
 ·have hr0:r=0:=Rat.num_eq_zero.1 z0
  have ht:=ht (by rw [hr0]; rfl)
  rw [zs,ht] at e
  subst e
  rw [hneg,z0]
  exact⟨⟨fun h=>absurd h (by decide),fun h=>absurd h (by decide)⟩,⟨fun _=>hr0,fun _=>rfl⟩,by simp⟩
 ·have hr0:r≠0:=fun h=>z0 (by rw [h]; rfl)
  have hx:r.num.natAbs≠0:=by omega
  obtain⟨f1,f2⟩:=Z0 hx
  have fne:=Y5 hx
  rw [zs] at e
  rw [hneg]
  by_cases hlt:r.num<0
  ·rw [decide_eq_true hlt,zgw] at e
   subst e
   exact⟨⟨fun _=>hlt,fun _=>rfl⟩,⟨fun h=>by simp at h,fun h=>absurd h hr0⟩,by simp⟩
  ·rw [decide_eq_false hlt,zbt] at e
   generalize txt r.num.natAbs=b at *
   cases b with
   | nil=>exact absurd rfl fne
   | cons c b=>
    simp only [List.getD_cons_zero] at f1 f2
    subst e
    exact⟨⟨fun h=>absurd h f2,fun h=>absurd h hlt⟩,⟨fun h=>by simp [f1] at h,fun h=>absurd h hr0⟩,by simp⟩
 ·exact absurd p4.1 zr
theorem zjv{a:List UInt8}(h:errR a=0):0<qv a↔a≠[48]∧a.getD 0 0≠45:=by
 obtain⟨h1,h2,h3⟩:=KF h
 rw [ne_eq,ne_eq,h1,h2]
 generalize qv a=r
 have:=Rat.lt_iff (a:=r) (b:=0)
 constructor
 ·intro h; exact⟨by grind,by grind⟩
 ·rintro⟨h4,h5⟩; grind
theorem zac:errR [48]=0:=by decide +kernel
theorem znd:qv [48]=0:=by decide +kernel
theorem zhu{a:List UInt8} : (errR a≠0→(cmpR a [48]).2≠0)∧(errR a=0→(cmpR a [48]).2=0∧(cmpR a [48]).1=if qv a<0 then -1 else if 0<qv a then 1 else 0):=by
 constructor
 ·intro h
  have h2:kr a [48]=errR a:=by unfold kr; rw [if_neg h]
  have hc:qR a [48]=errR a:=by unfold qR; rw [h2,if_pos h]
  unfold cmpR
  rw [hc,if_pos h]
  exact h
 ·intro h
  have hn:(cmpR a [48]).2≠14→_:=fun g=>(zlu h zac).resolve_left (fun k=>g (by rw [k]))
  have key:(cmpR a [48]).2≠14:=by
   obtain⟨a1,a2,b1,b2,a4,b4,h2⟩:=zhb h zac
   have hx:mulI (numR a) (denR [48])=(numR a,0):=by
    rw [show denR [48]=[49] from by decide +kernel,VN (zK.2 ⟨a1,KU⟩),show zI [49]=1 from by decide +kernel,Int.mul_one]
    exact VZ a1
   have hy:mulI (numR [48]) (denR a)=([48],0):=by
    rw [VN (zK.2 ⟨b1,a2⟩),show zI (numR [48])=0 from by decide +kernel,Int.zero_mul]
    decide +kernel
   have hc:qR a [48]=0:=by
    unfold qR
    rw [h2,if_neg (by simp),hx,hy]
    simp
   unfold cmpR
   rw [hc,if_neg (by simp),hx,hy]
   unfold Qb
   rw [if_pos (zK.2 ⟨a1,by decide +kernel⟩)]
   simp
  have:=hn key
  rw [this,znd]
  exact⟨rfl,rfl⟩
namespace Ca
def ok(a:Ca):Bool:=zN a.name&&(zN a.into&&(dayB a.date&&(decide (errR a.ratio=0)&&(decide (0<qv a.ratio)&&decide (errR a.extra=0)))))
def old(a:Ca)(x:List UInt8):List UInt8×Int:=if(mulR a.ratio x).2≠0 then([],(mulR a.ratio x).2) else addR (mulR a.ratio x).1 a.extra
def hit(a:Ca)(f:Fx):Bool:=decide (f.name=a.into)&&decide (a.date≤f.date)
def keep(a:Ca)(f:Fx):Bool:= !decide (f.name=a.name)||decide (f.date<a.date)
def mk'(a:Ca)(f:Fx):Fx:=⟨a.name,f.date,(a.old f.value).1⟩
def fresh(a:Ca)(l:List Fx):List Fx:=(l.filter a.hit).map a.mk'
def kept(a:Ca)(l:List Fx):List Fx:=l.filter a.keep
def bad(a:Ca)(f:Fx):Bool:=a.hit f&&decide ((a.old f.value).2≠0)
def err(a:Ca)(l:List Fx):Int:=match l.find? a.bad with
 | some f=>(a.old f.value).2
 | none=>0
def at_(a:Ca)(l:List Fx):Nat:=l.findIdx fun f=>Op.bytesLess a.name f.name
def join(a:Ca)(l m:List Fx):List Fx:=l.take (a.at_ l)++m++l.drop (a.at_ l)
def before(a:Ca)(f:List Fx)(c:List Ch):(List Fx×List Ch)×Int:=
 if a.ok=false then(([],[]),8) else if errE f c≠0 then(([],[]),errE f c) else if a.err f≠0 then(([],[]),a.err f)
 else if 1000<(a.kept f).length+(a.fresh f).length then(([],[]),22) else((a.join (a.kept f) (a.fresh f),c),0)
end Ca
end Go.Nov
end
section
namespace Go.Nov
open Go.Sx
namespace Ca
def rel(a:Ca)(y:Ex):Ex:=
 if a.extra=[48] then(if a.ratio=[49] then y else Tm.opx 6 [Tm.kon a.ratio,y])
 else Tm.opx 4 [if a.ratio=[49] then y else Tm.opx 6 [Tm.kon a.ratio,y],Tm.kon a.extra]
def onX(a:Ca)(k:Int)(n:List UInt8)(d:Int):Bool:=decide (n=a.name)&&(decide (k=3)||decide (k=2)&&decide (a.date≤d))
mutual
def chg(a:Ca):Ex→Ex
 | .mk k r n d s=>if a.onX k n d=true then a.rel (.mk k [] a.into d []) else .mk k r n d (chgs a s)
def chgs(a:Ca):List Ex→List Ex
 | []=>[]
 | x::l=>chg a x::chgs a l
end
mutual
def adj(a:Ca):Ex→Ex
 | .mk k r n d s=>if a.onX k n d=true then a.rel (.mk k r a.into d s) else .mk k r n d (adjs a s)
def adjs(a:Ca):List Ex→List Ex
 | []=>[]
 | x::l=>adj a x::adjs a l
end
theorem Yg(a:Ca):∀ l,chgs a l=l.map (chg a)
 | []=>by rw [chgs]; rfl
 | x::l=>by rw [chgs,Yg a l]; rfl
theorem XZ(a:Ca):∀ l,adjs a l=l.map (adj a)
 | []=>by rw [adjs]; rfl
 | x::l=>by rw [adjs,XZ a l]; rfl
theorem zhh(a:Ca)(x:Ex):chg a x=if a.onX x.kind x.name x.date=true then a.rel (.mk x.kind [] a.into x.date []) else .mk x.kind x.rat x.name x.date (x.sub.map (chg a)):=by
 cases x; rw [chg,Yg]; rfl
theorem Yp(a:Ca)(x:Ex):adj a x=if a.onX x.kind x.name x.date=true then a.rel (.mk x.kind x.rat a.into x.date x.sub) else .mk x.kind x.rat x.name x.date (x.sub.map (adj a)):=by
 cases x; rw [adj,XZ]; rfl
mutual
def whole(f:Ex→Ex):Con→Con
 | .mk k a b n x d l s=>.mk k a b n (f x) d l (jH f s)
def jH(f:Ex→Ex):List Con→List Con
 | []=>[]
 | c::l=>whole f c::jH f l
end
theorem QQ(f:Ex→Ex):∀ l,jH f l=l.map (whole f)
 | []=>by rw [jH]; rfl
 | x::l=>by rw [jH,QQ f l]; rfl
theorem kG(f:Ex→Ex)(c:Con):whole f c = .mk c.kind c.src c.dst c.name (f c.x) c.date c.days (c.sub.map (whole f)):=by
 cases c; rw [whole,QQ]; rfl
end Ca
end Go.Nov
end
section
set_option maxRecDepth 100000
open Go Go.Sx Go.Proofs Go.Nov
namespace Go.Proofs.Tryz
attribute [local simp] eqKV eqA eqA0 eqH eqB eqL eqL0
noncomputable def K40:List Go.Sx.Item:=[.code (Tryz.f40.body.getD .skip)]
def zdq:Ctr:=ctrP false (fun p:Ca×Ex=>[p.1.av,p.2.exA]) (fun _=>True) (fun _ (_:Unit)=>True) (fun p _=>(exD (p.1.rel (.mk p.2.kind [] p.1.into p.2.date [])),[]))
theorem zfi:zc Tryz.prog 86 zdq:=by
 refine zf (fn:=Tryz.f86) (c:=Tryz.f86.body.getD .skip) rfl rfl rfl fun p hp O w0 Q hq=> ?_
 obtain⟨⟨nm,io,dy,rt,et⟩,k,r,n,d,s⟩:=p
 replace hq:=hq () trivial
 refine zb.run hmix zF [] 400 (T:=.ite (!decide (rt=#[(49:UInt8)].toList)) (.ite (!decide (et=#[(48:UInt8)].toList)) (.leaf (.ret [.agg [.int .u8 4,.str #[].toList,.str #[].toList,.int .i64 0,.osl 5 5 0 2]] [.box [.str nm,.str io,.int .i64 dy,.str rt,.str et],.box [.int .u8 (Ex.kind (Ex.mk k r n d s)),.str (Ex.rat (Ex.mk k r n d s)),.str (Ex.name (Ex.mk k r n d s)),.int .i64 (Ex.date (Ex.mk k r n d s)),.sl (List.length (Ex.sub (Ex.mk k r n d s))) 5 (Ex.exG (Ex.sub (Ex.mk k r n d s)))],.box [.int .u8 4,.str #[].toList,.str #[].toList,.int .i64 0,.osl 5 5 0 2],.box [.int .u8 4,.str #[].toList,.str #[].toList,.int .i64 0,.osl 5 5 0 2],.arr 2 5 (zh 5 [.int .u8 1,.str rt,.str #[].toList,.int .i64 0,.nils,.int .u8 (Ex.kind (Ex.mk k r n d s)),.str #[].toList,.str io,.int .i64 (Ex.date (Ex.mk k r n d s)),.nils]),.box [.int .u8 6,.str #[].toList,.str #[].toList,.int .i64 0,.osl 4 5 0 2,.int .u8 1,.str et,.str #[].toList,.int .i64 0,.nils]])) (.leaf (.ret [.agg [.int .u8 6,.str #[].toList,.str #[].toList,.int .i64 0,.osl 4 5 0 2]] [.box [.str nm,.str io,.int .i64 dy,.str rt,.str et],.box [.int .u8 (Ex.kind (Ex.mk k r n d s)),.str (Ex.rat (Ex.mk k r n d s)),.str (Ex.name (Ex.mk k r n d s)),.int .i64 (Ex.date (Ex.mk k r n d s)),.sl (List.length (Ex.sub (Ex.mk k r n d s))) 5 (Ex.exG (Ex.sub (Ex.mk k r n d s)))],.box [.int .u8 6,.str #[].toList,.str #[].toList,.int .i64 0,.osl 4 5 0 2],.box [.int .u8 6,.str #[].toList,.str #[].toList,.int .i64 0,.osl 4 5 0 2],.arr 2 5 (zh 5 [.int .u8 1,.str rt,.str #[].toList,.int .i64 0,.nils,.int .u8 (Ex.kind (Ex.mk k r n d s)),.str #[].toList,.str io,.int .i64 (Ex.date (Ex.mk k r n d s)),.nils])]))) (.ite (!decide (et=#[(48:UInt8)].toList)) (.leaf (.ret [.agg [.int .u8 4,.str #[].toList,.str #[].toList,.int .i64 0,.osl 4 5 0 2]] [.box [.str nm,.str io,.int .i64 dy,.str rt,.str et],.box [.int .u8 (Ex.kind (Ex.mk k r n d s)),.str (Ex.rat (Ex.mk k r n d s)),.str (Ex.name (Ex.mk k r n d s)),.int .i64 (Ex.date (Ex.mk k r n d s)),.sl (List.length (Ex.sub (Ex.mk k r n d s))) 5 (Ex.exG (Ex.sub (Ex.mk k r n d s)))],.box [.int .u8 4,.str #[].toList,.str #[].toList,.int .i64 0,.osl 4 5 0 2],.box [.int .u8 4,.str #[].toList,.str #[].toList,.int .i64 0,.osl 4 5 0 2],.arr 2 5 (zh 5 [.int .u8 (Ex.kind (Ex.mk k r n d s)),.str #[].toList,.str io,.int .i64 (Ex.date (Ex.mk k r n d s)),.nils,.int .u8 1,.str et,.str #[].toList,.int .i64 0,.nils])])) (.leaf (.ret [.agg [.int .u8 (Ex.kind (Ex.mk k r n d s)),.str #[].toList,.str io,.int .i64 (Ex.date (Ex.mk k r n d s)),.nils]] [.box [.str nm,.str io,.int .i64 dy,.str rt,.str et],.box [.int .u8 (Ex.kind (Ex.mk k r n d s)),.str (Ex.rat (Ex.mk k r n d s)),.str (Ex.name (Ex.mk k r n d s)),.int .i64 (Ex.date (Ex.mk k r n d s)),.sl (List.length (Ex.sub (Ex.mk k r n d s))) 5 (Ex.exG (Ex.sub (Ex.mk k r n d s)))],.box [.int .u8 (Ex.kind (Ex.mk k r n d s)),.str #[].toList,.str io,.int .i64 (Ex.date (Ex.mk k r n d s)),.nils],.box [.int .u8 (Ex.kind (Ex.mk k r n d s)),.str #[].toList,.str io,.int .i64 (Ex.date (Ex.mk k r n d s)),.nils]])))) (by kernel_rfl) ?_
 simp only [Tree.holds,zd]
 have hq2:∀ y:Ex,Ca.rel ⟨nm,io,dy,rt,et⟩ (.mk k [] io d [])=y→Q (exD y,[]):=fun y e=>by rw [← e]; exact hq
 unfold Ca.rel at hq2
 simp only at hq2
 refine⟨fun h1=>⟨fun h2=> ?_,fun h2=> ?_⟩,fun h1=>⟨fun h2=> ?_,fun h2=> ?_⟩⟩<;>simp at h1 h2
 ·rw [if_neg h2,if_neg h1] at hq2
  exact RetR.le0 (hq2 _ rfl) (fun h=>by cases h) (LeA.agg ⟨LeA.refl _,LeA.refl _,LeA.refl _,LeA.refl _,Ex.vy (x:=Tm.opx 6 [Tm.kon rt,Ex.mk k [] io d []]) (y:=Tm.kon et) ⟨LeA.refl _,LeA.refl _,LeA.refl _,LeA.refl _,Ex.vy (x:=Tm.kon rt) (y:=Ex.mk k [] io d []) ⟨LeA.refl _,LeA.refl _,LeA.refl _,LeA.refl _,LeA.nils,LeA.refl _,LeA.refl _,LeA.refl _,LeA.refl _,LeA.nils,trivial⟩,LeA.refl _,LeA.refl _,LeA.refl _,LeA.refl _,LeA.nils,trivial⟩,trivial⟩)
 ·rw [if_pos h2,if_neg h1] at hq2
  exact RetR.le0 (hq2 _ rfl) (fun h=>by cases h) (LeA.agg ⟨LeA.refl _,LeA.refl _,LeA.refl _,LeA.refl _,Ex.vy (x:=Tm.kon rt) (y:=Ex.mk k [] io d []) ⟨LeA.refl _,LeA.refl _,LeA.refl _,LeA.refl _,LeA.nils,LeA.refl _,LeA.refl _,LeA.refl _,LeA.refl _,LeA.nils,trivial⟩,trivial⟩)
 ·rw [if_neg h2,if_pos h1] at hq2
  exact RetR.le0 (hq2 _ rfl) (fun h=>by cases h) (LeA.agg ⟨LeA.refl _,LeA.refl _,LeA.refl _,LeA.refl _,Ex.vy (x:=Ex.mk k [] io d []) (y:=Tm.kon et) ⟨LeA.refl _,LeA.refl _,LeA.refl _,LeA.refl _,LeA.nils,LeA.refl _,LeA.refl _,LeA.refl _,LeA.refl _,LeA.nils,trivial⟩,trivial⟩)
 ·rw [if_pos h2,if_pos h1] at hq2
  exact RetR.le0 (hq2 _ rfl) (fun h=>by cases h) (LeA.agg ⟨LeA.refl _,LeA.refl _,LeA.refl _,LeA.refl _,LeA.nils,trivial⟩)
theorem xf(e:Ex):eqA (exD e) e.exA:=by
 simp only [exD,Ex.exA,Ex.exS,eqA]
 exact⟨⟨rfl,rfl⟩,rfl,rfl,⟨rfl,rfl⟩,⟨rfl,rfl,Ex.zA e⟩,trivial⟩
theorem ZB{f:Ex→Ex}{s:List Ex}{i:Nat}(h:i<s.length):eqG (i+1) 5 (appG i (Ex.exG (s.map f)) (zg (zh 5 (f (s.getD i Ex.nil)).cellsD) 0)) (Ex.exG (s.map f)):=by
 have e:f (s.getD i Ex.nil)=(s.map f).getD i Ex.nil:=by simp [List.getD,h]
 rw [e]
 exact X0
def chgC(n:Nat):Ctr:=ctrP false (fun p:Ca×Ex=>[p.1.av,p.2.exA]) (fun p=>p.2.size<n∧p.2.size<2^40) (fun _ (_:Unit)=>True) (fun p _=>(exD (p.1.chg p.2),[]))
noncomputable def GNo:Nat→Option Ctr:=fun f=>if f=86 then some (zdq) else none
theorem zlq:∀ g c,GNo g=some c→zc Tryz.prog g c:=okIf zfi (zp)
noncomputable def GChc(n:Nat):Nat→Option Ctr:=fun f=>if f=40 then some (chgC n) else GNo f
theorem zam{n:Nat}(h:zc Tryz.prog 40 (chgC n)):∀ f c,GChc n f=some c→zc Tryz.prog f c:=by
 intro f c hf
 simp only [GChc] at hf
 split at hf
 ·rename_i hg; subst hg; cases hf; exact h
 ·exact zlq f c hf
def xbox(x:Ex):Blk:=.box [.int .u8 x.kind,.str x.rat,.str x.name,.int .i64 x.date,Ex.exS x.sub]
def SCh(i:Nat):KV:=[(2,.ptr 0 0),(3,.ptr 1 0),(4,.ptr 2 0),(5,.ptr 3 0),(6,.int .i64 (i:Int))]
def HCh(a:Ca)(x:Ex)(i:Nat):Heap:=[.box [.str a.name,.str a.into,.int .i64 a.date,.str a.ratio,.str a.extra],xbox x,.box [.int .u8 0,.str [],.str [],.int .i64 0,.nils],.box [.int .u8 x.kind,.str x.rat,.str x.name,.int .i64 x.date,.osl 4 5 0 i],.arr i 5 (Ex.exG (x.sub.map (Ca.chg a)))]
def HCh1(a:Ca)(x:Ex):Heap:=[.box [.str a.name,.str a.into,.int .i64 a.date,.str a.ratio,.str a.extra],xbox x,.box [.int .u8 0,.str [],.str [],.int .i64 0,.nils],.box [.int .u8 x.kind,.str x.rat,.str x.name,.int .i64 x.date,.osl 4 5 0 0]]
theorem zen(n:Nat)(ih:zc Tryz.prog 40 (chgC n)):zc Tryz.prog 40 (chgC (n+1)):=by
 refine zf (fn:=Tryz.f40) (c:=Tryz.f40.body.getD .skip) rfl rfl rfl fun p hp O w0 Q hq=> ?_
 obtain⟨a,x⟩:=p
 obtain⟨h1,h2⟩:=hp
 simp only at h1 h2
 replace hq:=hq () trivial
 simp only [Ca.zhh] at hq
 rw [Ex.size_eq] at h1 h2
 have hlen:=Ex.zy x.sub
 refine zb.run hmix (zam ih) [2,3,4,5,6] 400 (T:=.ite (bif bif decide (Ex.kind x=3) then decide (Ex.name x=Ca.name a) else false then true else bif bif decide (Ex.kind x=2) then decide (Ex.name x=Ca.name a) else false then decide (Ca.date a≤Ex.date x) else false) (.ex (fun(x_1:Ca×Ex)=>eqL [AV.agg [AV.str (Ca.name a),AV.str (Ca.into a),AV.int .i64 (Ca.date a),AV.str (Ca.ratio a),AV.str (Ca.extra a)],x.exA] [AV.agg [AV.str (Ca.name x_1.1),AV.str (Ca.into x_1.1),AV.int .i64 (Ca.date x_1.1),AV.str (Ca.ratio x_1.1),AV.str (Ca.extra x_1.1)],x_1.2.exA]∧True) fun n=>.all (fun(x:Unit)=>True) fun n_1=>.leaf (.ret [(exD (Ca.rel n.1 (Ex.mk n.2.kind [] (Ca.into n.1) n.2.date [])))] [.box [.str (Ca.name a),.str (Ca.into a),.int .i64 (Ca.date a),.str (Ca.ratio a),.str (Ca.extra a)],.box [.int .u8 x.kind,.str x.rat,.str x.name,.int .i64 x.date,.sl x.sub.length 5 (Ex.exG x.sub)],.box (Ex.cellsD (Ca.rel n.1 (Ex.mk n.2.kind [] (Ca.into n.1) n.2.date [])))])) (.leaf (.loop (Prod.fst (lps K40 0)) (Prod.snd (lps K40 0)) [(2,.ptr 0 0),(3,.ptr 1 0),(4,.ptr 2 0),(5,.ptr 3 0),(6,.int .i64 0)] [.box [.str (Ca.name a),.str (Ca.into a),.int .i64 (Ca.date a),.str (Ca.ratio a),.str (Ca.extra a)],.box [.int .u8 x.kind,.str x.rat,.str x.name,.int .i64 x.date,.sl x.sub.length 5 (Ex.exG x.sub)],.box [.int .u8 0,.str #[].toList,.str #[].toList,.int .i64 0,.nils],.box [.int .u8 x.kind,.str x.rat,.str x.name,.int .i64 x.date,.nils]]))) (by kernel_rfl) ?_
 simp only [Tree.holds,zd,inR,lo,hi,Int.toNat_natCast]
 obtain⟨c,hc⟩:∃ c,a.onX x.kind x.name x.date=c:=⟨_,rfl⟩
 rw [hc] at hq
 have hcc:(bif bif decide (x.kind=3) then decide (x.name=a.name) else false then true else bif bif decide (x.kind=2) then decide (x.name=a.name) else false then decide (a.date≤x.date) else false)=c:=by
  rw [← hc]; unfold Ca.onX
  cases decide (x.kind=3)<;>cases decide (x.kind=2)<;>cases decide (x.name=a.name)<;>cases decide (a.date≤x.date)<;>rfl
 rw [hcc]
 refine⟨fun h=> ?_,fun h=> ?_⟩
 ·rw [if_pos h] at hq
  refine⟨(a,x),⟨⟨⟨rfl,rfl,⟨rfl,rfl⟩,rfl,rfl,trivial⟩,⟨⟨rfl,rfl⟩,rfl,rfl,⟨rfl,rfl⟩,⟨rfl,rfl,za _ _ _⟩,trivial⟩,trivial⟩,trivial⟩,⟨(),trivial⟩,fun _ _=> ?_⟩
  exact RetR.le0 hq (fun h=>by cases h) (LeA.refl _)
 rw [h,if_neg (by decide)] at hq
 refine zb.up [(5,Ex.exG (x.sub.map (Ca.chg a)))] (SCh 0) (HCh1 a x) (by simp [SCh,upKV,upA2,upA1,upA0]) (by simp [HCh1,xbox,upH,upB,upL1,upA1,upA0,Ex.exS]) (by kernel_rfl) (by kernel_rfl) ?_
 refine zb.loop (ι:={i:Nat // i≤x.sub.length}) (fun i=>SCh i.1) (fun i=>HCh a x i.1) (fun i=>x.sub.length - i.1) ⟨0,Nat.zero_le _⟩ 0 ?_ ?_ (by kernel_rfl)
 ·exact⟨by simp [SCh],by simp [HCh,HCh1,xbox,kz,Ex.exS,za],by kernel_rfl,Nat.zero_le _⟩
 ·rintro⟨i,hil⟩
  refine zb.run hmix (zam ih) [2,3,4,5,6] 400 (T:=.ite (decide ((↑i:Int)<x.sub.length)) (.side ((0:Int)≤i∧(↑i:Int)<x.sub.length) (.ex (fun(x_1:Ca×Ex)=>eqL [AV.agg [AV.str (Ca.name a),AV.str (Ca.into a),AV.int .i64 (Ca.date a),AV.str (Ca.ratio a),AV.str (Ca.extra a)],(exD (List.getD x.sub (↑i:Int).toNat Ex.nil))] [AV.agg [AV.str (Ca.name x_1.1),AV.str (Ca.into x_1.1),AV.int .i64 (Ca.date x_1.1),AV.str (Ca.ratio x_1.1),AV.str (Ca.extra x_1.1)],x_1.2.exA]∧Ex.size x_1.2<n∧Ex.size x_1.2<1099511627776) fun n=>.all (fun(x:Unit)=>True) fun n_1=>.side (0=0∧i≤i∧(i+1)*72≤140737488355328) (.side (inR .i64 ((↑i:Int)+(1:Int))) (.leaf (.back 0 [(2,.ptr 0 0),(3,.ptr 1 0),(4,.ptr 2 0),(5,.ptr 3 0),(6,.int .i64 ((↑i:Int)+(1:Int)))] [.box [.str (Ca.name a),.str (Ca.into a),.int .i64 (Ca.date a),.str (Ca.ratio a),.str (Ca.extra a)],.box [.int .u8 x.kind,.str x.rat,.str x.name,.int .i64 x.date,.sl x.sub.length 5 (Ex.exG x.sub)],.box [.int .u8 0,.str [],.str [],.int .i64 0,.nils],.box [.int .u8 x.kind,.str x.rat,.str x.name,.int .i64 x.date,.osl 4 5 0 (i+1)],.arr (i+1) 5 (appG i (Ex.exG (List.map (Ca.chg a) x.sub)) (zg (zh 5 (Ex.cellsD (Ca.chg n.1 n.2))) 0)),.arr 1 5 (zh 5 (Ex.cellsD (Ca.chg n.1 n.2)))]))))) (.leaf (.ret [.agg [.int .u8 x.kind,.str x.rat,.str x.name,.int .i64 x.date,.osl 4 5 0 i]] [.box [.str (Ca.name a),.str (Ca.into a),.int .i64 (Ca.date a),.str (Ca.ratio a),.str (Ca.extra a)],.box [.int .u8 x.kind,.str x.rat,.str x.name,.int .i64 x.date,.sl x.sub.length 5 (Ex.exG x.sub)],.box [.int .u8 x.kind,.str x.rat,.str x.name,.int .i64 x.date,.osl 4 5 0 i],.box [.int .u8 x.kind,.str x.rat,.str x.name,.int .i64 x.date,.osl 4 5 0 i],.arr i 5 (Ex.exG (List.map (Ca.chg a) x.sub))]))) (by kernel_rfl) ?_
  simp only [Tree.holds,zd,inR,lo,hi,Int.toNat_natCast]
  refine⟨fun hlt=> ?_,fun hge=> ?_⟩
  ·have hlt:i<x.sub.length:=by have:=of_decide_eq_true hlt; omega
   have hg:=Ex.qg hlt
   refine⟨by omega,fun _=>⟨(a,x.sub.getD i Ex.nil),⟨⟨⟨rfl,rfl,⟨rfl,rfl⟩,rfl,rfl,trivial⟩,xf _,trivial⟩,by show Ex.size (x.sub.getD i Ex.nil)<n; omega,by show Ex.size (x.sub.getD i Ex.nil)<_; omega⟩,⟨(),trivial⟩,?_⟩⟩
   intro _ _
   refine⟨⟨trivial,Nat.le_refl _,by omega⟩,fun _=>⟨by omega,fun _=> ?_⟩⟩
   rw [if_pos trivial]
   refine⟨⟨i+1,hlt⟩,by show x.sub.length - (i+1)<x.sub.length - i; omega,by simp [SCh],?_,by kernel_rfl,Nat.zero_le _⟩
   have e0:eqB (.box [.str a.name,.str a.into,.int .i64 a.date,.str a.ratio,.str a.extra]) (.box [.str a.name,.str a.into,.int .i64 a.date,.str a.ratio,.str a.extra]):=⟨rfl,rfl,⟨rfl,rfl⟩,rfl,rfl,trivial⟩
   exact⟨e0,⟨⟨rfl,rfl⟩,rfl,rfl,⟨rfl,rfl⟩,⟨rfl,rfl,za _ _ _⟩,trivial⟩,⟨⟨rfl,rfl⟩,rfl,rfl,⟨rfl,rfl⟩,by simp,trivial⟩,⟨⟨rfl,rfl⟩,rfl,rfl,⟨rfl,rfl⟩,⟨rfl,rfl,rfl,rfl⟩,trivial⟩,⟨rfl,rfl,ZB hlt⟩,trivial⟩
  ·have hge:i=(x.sub.map (Ca.chg a)).length:=by have:=of_decide_eq_false hge; simp; omega
   subst hge
   exact Xg (x:=.mk x.kind x.rat x.name x.date (x.sub.map (Ca.chg a))) rfl rfl hq
def Y9:Ctr:=ctrP false (fun p:Ca×Ex=>[p.1.av,p.2.exA]) (fun p=>p.2.size<2^40) (fun _ (_:Unit)=>True) (fun p _=>(exD (p.1.chg p.2),[]))
theorem zgv:zc Tryz.prog 40 Y9:=zR (fun p:Ca×Ex=>p.2.size) zen
noncomputable def K45:List Go.Sx.Item:=[.code (Tryz.f45.body.getD .skip)]
def whoC(n:Nat):Ctr:=ctrP false (fun p:Ca×Con=>[p.1.av,p.2.conA]) (fun p=>p.2.nodes<n∧p.2.big<2^38) (fun _ (_:Unit)=>True) (fun p _=>((Ca.whole p.1.chg p.2).conD,[]))
noncomputable def GWh:Nat→Option Ctr:=fun f=>if f=40 then some (Y9) else none
theorem zmh:∀ g c,GWh g=some c→zc Tryz.prog g c:=okIf zgv (zp)
noncomputable def GWhc(n:Nat):Nat→Option Ctr:=fun f=>if f=45 then some (whoC n) else GWh f
theorem V8{n:Nat}(h:zc Tryz.prog 45 (whoC n)):∀ f c,GWhc n f=some c→zc Tryz.prog f c:=by
 intro f c hf
 simp only [GWhc] at hf
 split at hf
 ·rename_i hg; subst hg; cases hf; exact h
 ·exact zmh f c hf
theorem kR{f:Con→Con}{s:List Con}{i:Nat}(h:i<s.length):eqG (i+1) 12 (appG i (Con.conG (s.map f)) (zg (zh 12 (f (s.getD i Con.nil)).zz) 0)) (Con.conG (s.map f)):=by
 have e:f (s.getD i Con.nil)=(s.map f).getD i Con.nil:=by simp [List.getD,h]
 rw [e]
 exact WU
def SWhA(i:Nat):KV:=[(2,.ptr 0 0),(3,.ptr 1 0),(4,.ptr 2 0),(5,.ptr 4 0),(6,.int .i64 (i:Int))]
def HWhA(f:Con→Con)(a:Ca)(x:Ex)(c:Con)(i:Nat):Heap:=[.box [.str a.name,.str a.into,.int .i64 a.date,.str a.ratio,.str a.extra],.box c.ze,BTz,.arr c.days.length 1 (Con.dayG c.days),.box [.int .u8 c.kind,.str c.src,.str c.dst,.str c.name,.int .u8 x.kind,.str x.rat,.str x.name,.int .i64 x.date,.sl x.sub.length 5 x.deep,.int .i64 c.date,.osl 3 1 0 c.days.length,.osl 5 12 0 i],.arr i 12 (Con.conG (c.sub.map f))]
def zf6(a:Ca)(x:Ex)(c:Con):Heap:=[.box [.str a.name,.str a.into,.int .i64 a.date,.str a.ratio,.str a.extra],.box c.ze,BTz,.arr (0+c.days.length) 1 (appG 0 (zh 1 []) (Con.dayG c.days)),.box [.int .u8 c.kind,.str c.src,.str c.dst,.str c.name,.int .u8 x.kind,.str x.rat,.str x.name,.int .i64 x.date,.sl x.sub.length 5 x.deep,.int .i64 c.date,.osl 3 1 0 (0+c.days.length),.nils]]
theorem zbf(n:Nat)(ih:zc Tryz.prog 45 (whoC n)){O:Nat→Prop}{w0:World}{Q:AV×Heap→Prop}(a:Ca)(c:Con)(x:Ex)(hx:x=a.chg c.x)(h1:c.nodes<n+1)(h2:c.big<2^38)(hq:Q ((Con.mk c.kind c.src c.dst c.name x c.date c.days (c.sub.map (Ca.whole a.chg))).conD,[])) :
  zb Tryz.prog Tryz.f45 O 0 w0 [] (fun _ _ _=>False) (RetR (whoC (n+1)) 0 Q) (.code (lps K45 0).1.loop::(lps K45 0).2) (mk Tryz.f45.ntmps (SWhA 0) (zf6 a x c)):=by
 have hb:=h2
 rw [Con.ju] at hb
 have hlb:=Con.qQ c.sub
 refine zb.zhw 4 11 12 (Con.conG (c.sub.map (Ca.whole a.chg))) rfl rfl (by kernel_rfl) ?_
 refine zb.loop (ι:={i:Nat // i≤c.sub.length}) (fun i=>SWhA i.1) (fun i=>HWhA (Ca.whole a.chg) a x c i.1) (fun i=>c.sub.length - i.1) ⟨0,Nat.zero_le _⟩ 0 ?_ ?_ (by kernel_rfl)
 ·refine⟨by simp [SWhA],?_,by kernel_rfl,Nat.zero_le _⟩
  refine⟨⟨rfl,rfl,⟨rfl,rfl⟩,rfl,rfl,trivial⟩,zk c,by simp [BTz],⟨by omega,rfl,uO _ _ _ _⟩,?_,⟨rfl,rfl,za _ _ _⟩,trivial⟩
  simp [Con.conS,za,zf6]
 ·rintro⟨i,hil⟩
  refine zb.run hmix (V8 ih) [2,3,4,5,6] 400 (T:=.ite (decide ((↑i:Int)<(↑c.sub.length:Int))) (.side ((0:Int)≤i∧(↑i:Int)<(↑c.sub.length:Int)) (.ex (fun(x:Ca×Con)=>eqL [AV.agg [AV.str (Ca.name a),AV.str (Ca.into a),AV.int .i64 (Ca.date a),AV.str (Ca.ratio a),AV.str (Ca.extra a)],(Con.conD (List.getD c.sub (↑i:Int).toNat Con.nil))] [AV.agg [AV.str (Ca.name x.1),AV.str (Ca.into x.1),AV.int .i64 (Ca.date x.1),AV.str (Ca.ratio x.1),AV.str (Ca.extra x.1)],(Con.conA x.2)]∧Con.nodes x.2<n∧Con.big x.2<274877906944) fun n=>.all (fun(x:Unit)=>True) fun n_1=>.side (0=0∧i≤i∧(i+1)*184≤140737488355328) (.side (inR .i64 ((↑i:Int)+(1:Int))) (.leaf (.back 0 [(2,.ptr 0 0),(3,.ptr 1 0),(4,.ptr 2 0),(5,.ptr 4 0),(6,.int .i64 ((↑i:Int)+(1:Int)))] [.box [.str (Ca.name a),.str (Ca.into a),.int .i64 (Ca.date a),.str (Ca.ratio a),.str (Ca.extra a)],.box (Con.ze c),.box [.int .u8 0,.str [],.str [],.str [],.int .u8 0,.str [],.str [],.int .i64 0,.nils,.int .i64 0,.nils,.nils],.arr c.days.length 1 (Con.dayG c.days),.box [.int .u8 c.kind,.str c.src,.str c.dst,.str c.name,.int .u8 x.kind,.str x.rat,.str x.name,.int .i64 x.date,.sl x.sub.length 5 x.deep,.int .i64 c.date,.osl 3 1 0 c.days.length,.osl 5 12 0 (i+1)],.arr (i+1) 12 (appG i (Con.conG (List.map (Ca.whole (Ca.chg a)) c.sub)) (zg (zh 12 (Con.zz (Ca.whole (Ca.chg n.1) n.2))) 0)),.arr 1 12 (zh 12 (Con.zz (Ca.whole (Ca.chg n.1) n.2)))]))))) (.leaf (.ret [.agg [.int .u8 c.kind,.str c.src,.str c.dst,.str c.name,.int .u8 x.kind,.str x.rat,.str x.name,.int .i64 x.date,.sl x.sub.length 5 x.deep,.int .i64 c.date,.osl 3 1 0 c.days.length,.osl 5 12 0 i]] [.box [.str (Ca.name a),.str (Ca.into a),.int .i64 (Ca.date a),.str (Ca.ratio a),.str (Ca.extra a)],.box (Con.ze c),.box [.int .u8 c.kind,.str c.src,.str c.dst,.str c.name,.int .u8 x.kind,.str x.rat,.str x.name,.int .i64 x.date,.sl x.sub.length 5 x.deep,.int .i64 c.date,.osl 3 1 0 c.days.length,.osl 5 12 0 i],.arr c.days.length 1 (Con.dayG c.days),.box [.int .u8 c.kind,.str c.src,.str c.dst,.str c.name,.int .u8 x.kind,.str x.rat,.str x.name,.int .i64 x.date,.sl x.sub.length 5 x.deep,.int .i64 c.date,.osl 3 1 0 c.days.length,.osl 5 12 0 i],.arr i 12 (Con.conG (List.map (Ca.whole (Ca.chg a)) c.sub))]))) (by kernel_rfl) ?_
  simp only [Tree.holds,zd,inR,lo,hi,Int.toNat_natCast]
  refine⟨fun hlt=> ?_,fun hge=> ?_⟩
  ·have hlt:i<c.sub.length:=by have:=of_decide_eq_true hlt; omega
   have g1:=Con.qq hlt
   have g2:=Con.jB hlt
   rw [Con.qN] at h1
   refine⟨by omega,fun _=>⟨(a,c.sub.getD i Con.nil),⟨⟨⟨rfl,rfl,⟨rfl,rfl⟩,rfl,rfl,trivial⟩,jm _,trivial⟩,by show Con.nodes (c.sub.getD i Con.nil)<n; omega,by show Con.big (c.sub.getD i Con.nil)<_; omega⟩,⟨(),trivial⟩,fun _ _=> ?_⟩⟩
   refine⟨⟨trivial,Nat.le_refl _,by omega⟩,fun _=>⟨by omega,fun _=> ?_⟩⟩
   rw [if_pos trivial]
   refine⟨⟨i+1,hlt⟩,by show c.sub.length - (i+1)<c.sub.length - i; omega,by simp [SWhA],?_,by kernel_rfl,Nat.zero_le _⟩
   refine⟨⟨rfl,rfl,⟨rfl,rfl⟩,rfl,rfl,trivial⟩,zk c,by simp [BTz],⟨rfl,rfl,za _ _ _⟩,?_,⟨rfl,rfl,kR hlt⟩,trivial⟩
   simp [Con.conS,za,zf6]
  ·have hge:i=(c.sub.map (Ca.whole a.chg)).length:=by have:=of_decide_eq_false hge; simp; omega
   subst hge
   refine RetR.out0 hq (fun h=>by cases h) ?_
   simp only [Con.outD,resV,exp2,exp1,List.map_cons,List.map_nil,exp0,ren0,z6,frz1,j5,List.getElem?_cons_zero,List.getElem?_cons_succ,eqA2,eqA,eqL0,eqA0,Con.conD,Con.dayS,Ex.exS,true_and,and_true]
   simp only [if_true]
   and_intros
   all_goals first
    | exact trivial
    | rfl
    | exact Ex.zA x
    | exact zP _ _ _
    | exact fun j o hj ho=>by have:=Con.zA (Con.mk c.kind c.src c.dst c.name x c.date c.days (c.sub.map (Ca.whole a.chg))) j o hj ho; simp only [zg,Nat.zero_add]; exact this.symm
def SWhB(i:Nat):KV:=[(2,.ptr 0 0),(3,.ptr 1 0),(4,.ptr 2 0),(5,.ptr 3 0),(6,.int .i64 (i:Int))]
def HWhB(f:Con→Con)(a:Ca)(x:Ex)(c:Con)(i:Nat):Heap:=[.box [.str a.name,.str a.into,.int .i64 a.date,.str a.ratio,.str a.extra],.box c.ze,BTz,.box [.int .u8 c.kind,.str c.src,.str c.dst,.str c.name,.int .u8 x.kind,.str x.rat,.str x.name,.int .i64 x.date,.sl x.sub.length 5 x.deep,.int .i64 c.date,.osl 4 1 0 c.days.length,.osl 5 12 0 i],.arr c.days.length 1 (Con.dayG c.days),.arr i 12 (Con.conG (c.sub.map f))]
def zh6(a:Ca)(x:Ex)(c:Con):Heap:=[.box [.str a.name,.str a.into,.int .i64 a.date,.str a.ratio,.str a.extra],.box c.ze,BTz,.box [.int .u8 c.kind,.str c.src,.str c.dst,.str c.name,.int .u8 x.kind,.str x.rat,.str x.name,.int .i64 x.date,.sl x.sub.length 5 x.deep,.int .i64 c.date,.osl 4 1 0 (0+c.days.length),.nils],.arr (0+c.days.length) 1 (appG 0 (zh 1 []) (Con.dayG c.days))]
theorem zbh(n:Nat)(ih:zc Tryz.prog 45 (whoC n)){O:Nat→Prop}{w0:World}{Q:AV×Heap→Prop}(a:Ca)(c:Con)(x:Ex)(hx:x=a.chg c.x)(h1:c.nodes<n+1)(h2:c.big<2^38)(hq:Q ((Con.mk c.kind c.src c.dst c.name x c.date c.days (c.sub.map (Ca.whole a.chg))).conD,[])) :
  zb Tryz.prog Tryz.f45 O 0 w0 [] (fun _ _ _=>False) (RetR (whoC (n+1)) 0 Q) (.code (lps K45 0).1.loop::(lps K45 0).2) (mk Tryz.f45.ntmps (SWhB 0) (zh6 a x c)):=by
 have hb:=h2
 rw [Con.ju] at hb
 have hlb:=Con.qQ c.sub
 refine zb.zhw 3 11 12 (Con.conG (c.sub.map (Ca.whole a.chg))) rfl rfl (by kernel_rfl) ?_
 refine zb.loop (ι:={i:Nat // i≤c.sub.length}) (fun i=>SWhB i.1) (fun i=>HWhB (Ca.whole a.chg) a x c i.1) (fun i=>c.sub.length - i.1) ⟨0,Nat.zero_le _⟩ 0 ?_ ?_ (by kernel_rfl)
 ·refine⟨by simp [SWhB],?_,by kernel_rfl,Nat.zero_le _⟩
  refine⟨⟨rfl,rfl,⟨rfl,rfl⟩,rfl,rfl,trivial⟩,zk c,by simp [BTz],?_,⟨by omega,rfl,uO _ _ _ _⟩,⟨rfl,rfl,za _ _ _⟩,trivial⟩
  simp [Con.conS,za,zh6]
 ·rintro⟨i,hil⟩
  refine zb.run hmix (V8 ih) [2,3,4,5,6] 400 (T:=.ite (decide ((↑i:Int)<(↑c.sub.length:Int))) (.side ((0:Int)≤i∧(↑i:Int)<(↑c.sub.length:Int)) (.ex (fun(x:Ca×Con)=>eqL [AV.agg [AV.str (Ca.name a),AV.str (Ca.into a),AV.int .i64 (Ca.date a),AV.str (Ca.ratio a),AV.str (Ca.extra a)],(Con.conD (List.getD c.sub (↑i:Int).toNat Con.nil))] [AV.agg [AV.str (Ca.name x.1),AV.str (Ca.into x.1),AV.int .i64 (Ca.date x.1),AV.str (Ca.ratio x.1),AV.str (Ca.extra x.1)],(Con.conA x.2)]∧Con.nodes x.2<n∧Con.big x.2<274877906944) fun n=>.all (fun(x:Unit)=>True) fun n_1=>.side (0=0∧i≤i∧(i+1)*184≤140737488355328) (.side (inR .i64 ((↑i:Int)+(1:Int))) (.leaf (.back 0 [(2,.ptr 0 0),(3,.ptr 1 0),(4,.ptr 2 0),(5,.ptr 3 0),(6,.int .i64 ((↑i:Int)+(1:Int)))] [.box [.str (Ca.name a),.str (Ca.into a),.int .i64 (Ca.date a),.str (Ca.ratio a),.str (Ca.extra a)],.box (Con.ze c),.box [.int .u8 0,.str [],.str [],.str [],.int .u8 0,.str [],.str [],.int .i64 0,.nils,.int .i64 0,.nils,.nils],.box [.int .u8 c.kind,.str c.src,.str c.dst,.str c.name,.int .u8 x.kind,.str x.rat,.str x.name,.int .i64 x.date,.sl x.sub.length 5 x.deep,.int .i64 c.date,.osl 4 1 0 c.days.length,.osl 5 12 0 (i+1)],.arr c.days.length 1 (Con.dayG c.days),.arr (i+1) 12 (appG i (Con.conG (List.map (Ca.whole (Ca.chg a)) c.sub)) (zg (zh 12 (Con.zz (Ca.whole (Ca.chg n.1) n.2))) 0)),.arr 1 12 (zh 12 (Con.zz (Ca.whole (Ca.chg n.1) n.2)))]))))) (.leaf (.ret [.agg [.int .u8 c.kind,.str c.src,.str c.dst,.str c.name,.int .u8 x.kind,.str x.rat,.str x.name,.int .i64 x.date,.sl x.sub.length 5 x.deep,.int .i64 c.date,.osl 4 1 0 c.days.length,.osl 5 12 0 i]] [.box [.str (Ca.name a),.str (Ca.into a),.int .i64 (Ca.date a),.str (Ca.ratio a),.str (Ca.extra a)],.box (Con.ze c),.box [.int .u8 c.kind,.str c.src,.str c.dst,.str c.name,.int .u8 x.kind,.str x.rat,.str x.name,.int .i64 x.date,.sl x.sub.length 5 x.deep,.int .i64 c.date,.osl 4 1 0 c.days.length,.osl 5 12 0 i],.box [.int .u8 c.kind,.str c.src,.str c.dst,.str c.name,.int .u8 x.kind,.str x.rat,.str x.name,.int .i64 x.date,.sl x.sub.length 5 x.deep,.int .i64 c.date,.osl 4 1 0 c.days.length,.osl 5 12 0 i],.arr c.days.length 1 (Con.dayG c.days),.arr i 12 (Con.conG (List.map (Ca.whole (Ca.chg a)) c.sub))]))) (by kernel_rfl) ?_
  simp only [Tree.holds,zd,inR,lo,hi,Int.toNat_natCast]
  refine⟨fun hlt=> ?_,fun hge=> ?_⟩
  ·have hlt:i<c.sub.length:=by have:=of_decide_eq_true hlt; omega
   have g1:=Con.qq hlt
   have g2:=Con.jB hlt
   rw [Con.qN] at h1
   refine⟨by omega,fun _=>⟨(a,c.sub.getD i Con.nil),⟨⟨⟨rfl,rfl,⟨rfl,rfl⟩,rfl,rfl,trivial⟩,jm _,trivial⟩,by show Con.nodes (c.sub.getD i Con.nil)<n; omega,by show Con.big (c.sub.getD i Con.nil)<_; omega⟩,⟨(),trivial⟩,fun _ _=> ?_⟩⟩
   refine⟨⟨trivial,Nat.le_refl _,by omega⟩,fun _=>⟨by omega,fun _=> ?_⟩⟩
   rw [if_pos trivial]
   refine⟨⟨i+1,hlt⟩,by show c.sub.length - (i+1)<c.sub.length - i; omega,by simp [SWhB],?_,by kernel_rfl,Nat.zero_le _⟩
   refine⟨⟨rfl,rfl,⟨rfl,rfl⟩,rfl,rfl,trivial⟩,zk c,by simp [BTz],?_,⟨rfl,rfl,za _ _ _⟩,⟨rfl,rfl,kR hlt⟩,trivial⟩
   simp [Con.conS,za,zh6]
  ·have hge:i=(c.sub.map (Ca.whole a.chg)).length:=by have:=of_decide_eq_false hge; simp; omega
   subst hge
   refine RetR.out0 hq (fun h=>by cases h) ?_
   simp only [Con.outD,resV,exp2,exp1,List.map_cons,List.map_nil,exp0,ren0,z6,frz1,j5,List.getElem?_cons_zero,List.getElem?_cons_succ,eqA2,eqA,eqL0,eqA0,Con.conD,Con.dayS,Ex.exS,true_and,and_true]
   simp only [if_true]
   and_intros
   all_goals first
    | exact trivial
    | rfl
    | exact Ex.zA x
    | exact zP _ _ _
    | exact fun j o hj ho=>by have:=Con.zA (Con.mk c.kind c.src c.dst c.name x c.date c.days (c.sub.map (Ca.whole a.chg))) j o hj ho; simp only [zg,Nat.zero_add]; exact this.symm
theorem zfr(n:Nat)(ih:zc Tryz.prog 45 (whoC n)):zc Tryz.prog 45 (whoC (n+1)):=by
 refine zf (fn:=Tryz.f45) (c:=Tryz.f45.body.getD .skip) rfl rfl rfl fun p hp O w0 Q hq=> ?_
 obtain⟨a,c⟩:=p
 obtain⟨h1,h2⟩:=hp
 simp only at h1 h2
 replace hq:=hq () trivial
 simp only [Ca.kG] at hq
 have hb:=h2
 rw [Con.ju] at hb
 refine zb.run hmix (V8 ih) [2,3,4,5,6] 400 (T:=.all (fun(x:Bool)=>True) fun n=>.ite n (.all (fun(x:Bool)=>True) fun n=>.ite n (.side (0=0∧0≤0∧(0+List.length c.days)*8≤140737488355328) (.all (fun(x:Bool)=>True) fun n=>.ite n (.ex (fun(x:Ca×Ex)=>eqL [AV.agg [AV.str (Ca.name a),AV.str (Ca.into a),AV.int .i64 (Ca.date a),AV.str (Ca.ratio a),AV.str (Ca.extra a)],(Ex.exA c.x)] [AV.agg [AV.str (Ca.name x.1),AV.str (Ca.into x.1),AV.int .i64 (Ca.date x.1),AV.str (Ca.ratio x.1),AV.str (Ca.extra x.1)],x.2.exA]∧Ex.size x.2<1099511627776) fun n=>.all (fun(x:Unit)=>True) fun n_1=>.leaf (.loop (Prod.fst (lps K45 0)) (Prod.snd (lps K45 0)) [(2,.ptr 0 0),(3,.ptr 1 0),(4,.ptr 2 0),(5,.ptr 4 0),(6,.int .i64 0)] [.box [.str (Ca.name a),.str (Ca.into a),.int .i64 (Ca.date a),.str (Ca.ratio a),.str (Ca.extra a)],.box (Con.ze c),.box [.int .u8 0,.str #[].toList,.str #[].toList,.str #[].toList,.int .u8 0,.str #[].toList,.str #[].toList,.int .i64 0,.nils,.int .i64 0,.nils,.nils],.arr (0+List.length c.days) 1 (appG 0 (zh 1 []) (Con.dayG c.days)),.box [.int .u8 c.kind,.str c.src,.str c.dst,.str c.name,.int .u8 (Ex.kind (Ca.chg n.1 n.2)),.str (Ex.rat (Ca.chg n.1 n.2)),.str (Ex.name (Ca.chg n.1 n.2)),.int .i64 (Ex.date (Ca.chg n.1 n.2)),.sl (List.length (Ex.sub (Ca.chg n.1 n.2))) 5 (Ex.deep (Ca.chg n.1 n.2)),.int .i64 c.date,.osl 3 1 0 (0+List.length c.days),.nils]])) (.ex (fun(x:Ca×Ex)=>eqL [AV.agg [AV.str (Ca.name a),AV.str (Ca.into a),AV.int .i64 (Ca.date a),AV.str (Ca.ratio a),AV.str (Ca.extra a)],(Ex.exA c.x)] [AV.agg [AV.str (Ca.name x.1),AV.str (Ca.into x.1),AV.int .i64 (Ca.date x.1),AV.str (Ca.ratio x.1),AV.str (Ca.extra x.1)],x.2.exA]∧Ex.size x.2<1099511627776) fun n=>.all (fun(x:Unit)=>True) fun n_1=>.leaf (.loop (Prod.fst (lps K45 0)) (Prod.snd (lps K45 0)) [(2,.ptr 0 0),(3,.ptr 1 0),(4,.ptr 2 0),(5,.ptr 4 0),(6,.int .i64 0)] [.box [.str (Ca.name a),.str (Ca.into a),.int .i64 (Ca.date a),.str (Ca.ratio a),.str (Ca.extra a)],.box (Con.ze c),.box [.int .u8 0,.str #[].toList,.str #[].toList,.str #[].toList,.int .u8 0,.str #[].toList,.str #[].toList,.int .i64 0,.nils,.int .i64 0,.nils,.nils],.arr (0+List.length c.days) 1 (appG 0 (zh 1 []) (Con.dayG c.days)),.box [.int .u8 c.kind,.str c.src,.str c.dst,.str c.name,.int .u8 (Ex.kind (Ca.chg n.1 n.2)),.str (Ex.rat (Ca.chg n.1 n.2)),.str (Ex.name (Ca.chg n.1 n.2)),.int .i64 (Ex.date (Ca.chg n.1 n.2)),.sl (List.length (Ex.sub (Ca.chg n.1 n.2))) 5 (Ex.deep (Ca.chg n.1 n.2)),.int .i64 c.date,.osl 3 1 0 (0+List.length c.days),.nils]])))) (.side (0=0∧0≤0∧(0+List.length c.days)*8≤140737488355328) (.ex (fun(x:Ca×Ex)=>eqL [AV.agg [AV.str (Ca.name a),AV.str (Ca.into a),AV.int .i64 (Ca.date a),AV.str (Ca.ratio a),AV.str (Ca.extra a)],(Ex.exA c.x)] [AV.agg [AV.str (Ca.name x.1),AV.str (Ca.into x.1),AV.int .i64 (Ca.date x.1),AV.str (Ca.ratio x.1),AV.str (Ca.extra x.1)],x.2.exA]∧Ex.size x.2<1099511627776) fun n=>.all (fun(x:Unit)=>True) fun n_1=>.leaf (.loop (Prod.fst (lps K45 0)) (Prod.snd (lps K45 0)) [(2,.ptr 0 0),(3,.ptr 1 0),(4,.ptr 2 0),(5,.ptr 4 0),(6,.int .i64 0)] [.box [.str (Ca.name a),.str (Ca.into a),.int .i64 (Ca.date a),.str (Ca.ratio a),.str (Ca.extra a)],.box (Con.ze c),.box [.int .u8 0,.str #[].toList,.str #[].toList,.str #[].toList,.int .u8 0,.str #[].toList,.str #[].toList,.int .i64 0,.nils,.int .i64 0,.nils,.nils],.arr (0+List.length c.days) 1 (appG 0 (zh 1 []) (Con.dayG c.days)),.box [.int .u8 c.kind,.str c.src,.str c.dst,.str c.name,.int .u8 (Ex.kind (Ca.chg n.1 n.2)),.str (Ex.rat (Ca.chg n.1 n.2)),.str (Ex.name (Ca.chg n.1 n.2)),.int .i64 (Ex.date (Ca.chg n.1 n.2)),.sl (List.length (Ex.sub (Ca.chg n.1 n.2))) 5 (Ex.deep (Ca.chg n.1 n.2)),.int .i64 c.date,.osl 3 1 0 (0+List.length c.days),.nils]])))) (.side (0=0∧0≤0∧(0+List.length c.days)*8≤140737488355328) (.ex (fun(x:Ca×Ex)=>eqL [AV.agg [AV.str (Ca.name a),AV.str (Ca.into a),AV.int .i64 (Ca.date a),AV.str (Ca.ratio a),AV.str (Ca.extra a)],(Ex.exA c.x)] [AV.agg [AV.str (Ca.name x.1),AV.str (Ca.into x.1),AV.int .i64 (Ca.date x.1),AV.str (Ca.ratio x.1),AV.str (Ca.extra x.1)],x.2.exA]∧Ex.size x.2<1099511627776) fun n=>.all (fun(x:Unit)=>True) fun n_1=>.leaf (.loop (Prod.fst (lps K45 0)) (Prod.snd (lps K45 0)) [(2,.ptr 0 0),(3,.ptr 1 0),(4,.ptr 2 0),(5,.ptr 3 0),(6,.int .i64 0)] [.box [.str (Ca.name a),.str (Ca.into a),.int .i64 (Ca.date a),.str (Ca.ratio a),.str (Ca.extra a)],.box (Con.ze c),.box [.int .u8 0,.str #[].toList,.str #[].toList,.str #[].toList,.int .u8 0,.str #[].toList,.str #[].toList,.int .i64 0,.nils,.int .i64 0,.nils,.nils],.box [.int .u8 c.kind,.str c.src,.str c.dst,.str c.name,.int .u8 (Ex.kind (Ca.chg n.1 n.2)),.str (Ex.rat (Ca.chg n.1 n.2)),.str (Ex.name (Ca.chg n.1 n.2)),.int .i64 (Ex.date (Ca.chg n.1 n.2)),.sl (List.length (Ex.sub (Ca.chg n.1 n.2))) 5 (Ex.deep (Ca.chg n.1 n.2)),.int .i64 c.date,.osl 4 1 0 (0+List.length c.days),.nils],.arr (0+List.length c.days) 1 (appG 0 (zh 1 []) (Con.dayG c.days))])))) (by kernel_rfl) ?_
 simp only [Tree.holds,zd,inR,lo,hi,Int.toNat_natCast]
 have hlb:=Con.qQ c.sub
 have ha:eqA a.av a.av:=⟨rfl,rfl,⟨rfl,rfl⟩,rfl,rfl,trivial⟩
 have h40:c.x.size<2^40:=by omega
 refine⟨⟨true,trivial⟩,fun _ _=>⟨fun _=>⟨⟨true,trivial⟩,fun _ _=>⟨fun _=>⟨⟨trivial,Nat.le_refl _,by omega⟩,fun _=>⟨⟨true,trivial⟩,fun _ _=>⟨fun _=> ?_,fun _=> ?_⟩⟩⟩,fun _=>⟨⟨trivial,Nat.le_refl _,by omega⟩,fun _=> ?_⟩⟩⟩,fun _=>⟨⟨trivial,Nat.le_refl _,by omega⟩,fun _=> ?_⟩⟩⟩
 all_goals refine⟨(a,c.x),⟨⟨ha,zD c.x,trivial⟩,h40⟩,⟨(),trivial⟩,fun _ _=> ?_⟩
 all_goals first
  | exact zbf n ih a c _ rfl h1 h2 hq
  | exact zbh n ih a c _ rfl h1 h2 hq
def zh9:Ctr:=ctrP false (fun p:Ca×Con=>[p.1.av,p.2.conA]) (fun p=>p.2.big<2^38) (fun _ (_:Unit)=>True) (fun p _=>((Ca.whole p.1.chg p.2).conD,[]))
theorem zmj:zc Tryz.prog 45 zh9:=zR (fun p:Ca×Con=>p.2.nodes) zfr
end Go.Proofs.Tryz
end
