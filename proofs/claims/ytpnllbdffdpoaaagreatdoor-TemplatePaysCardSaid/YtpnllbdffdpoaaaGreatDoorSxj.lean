/- Part 10 of the proof. -/
import Derived.Test.YtpnllbdffdpoaaaGreatDoorSxi
import Derived.SizedLaws
import Derived.ChangeArms
import Derived.Deep.Slices
import Derived.Carry
import Derived.LaidMore
import Derived.WideKeyElems2
import Derived.ProofKit
import Derived.OpenShut
import Derived.ReadAgain
import Derived.Test.YtpnllbdffdpoaaaGreatDoorRows
set_option linter.unusedVariables false
set_option linter.unusedSimpArgs false
set_option linter.unusedSectionVars false
section
set_option maxRecDepth 100000
open Go Go.Sx Go.Proofs Go.Nov
namespace Go.Proofs.Tryz
attribute [local simp] eqKV eqA eqA0 eqH eqB eqL eqL0
theorem zoa(neg:Bool)(x:Nat):errI (wF neg x)=(wr neg x).2/\((wr neg x).2=0->wF neg x=(wr neg x).1):=by
 unfold wF wr;by_cases h0:x=0
 ·rw [if_pos h0,if_pos h0]; exact⟨rfl,λ_=>rfl⟩
 ·rw [if_neg h0,if_neg h0]
  have e:errI (sgn neg (txt x))=if 1000<(dec x).length then 14 else 0:=by
   unfold errI;rw [VY h0];simp only [YX h0,if_true];rw [ux h0]
  by_cases h1:1000<(dec x).length
  ·rw [if_pos h1] at e ⊢;exact⟨e,λh=>(by cases h)⟩
  ·rw [if_neg h1] at e ⊢;exact⟨e,λ_=>rfl⟩
theorem zku(neg:Bool)(x:Nat):(wF neg x).length<=1+(dec x).length:=by
 unfold wF;by_cases h0:x=0
 ·rw [if_pos h0]; simp
 ·rw [if_neg h0];have:=zdc neg (txt x);rw [ux h0] at this;omega
def zro:Ctr:=ctrP true (λp:List Nat×Bool=>[nat6 p.1,.bool p.2]) (λp=>Ten.dig p.1/\p.1.length<2^31) (λp r=>r=wr p.2 (Ten.val p.1)) (λ_ r=>(.tup [.str r.1,.i r.2],[]))
noncomputable def GRr:=tb J1 (tb VJ tz)
theorem zr0:zd Tryz.prog 149 zro:=by
 refine zh (fn:=Tryz.f149) (c:=Tryz.f149.body.getD .skip) rfl rfl rfl λp hp O w0 Q hq=> ?_
 obtain⟨d,neg⟩:=p;obtain⟨hd,hl⟩:=hp;replace hq:=hq _ rfl;simp only at hd hl hq;refine zc.n GRr.h [] (.ex (q24 [.sl d.length 1 (natG .i64 d),.bool neg]) λn=>.all (λ(r:L8)=>r=wF n.2 (Ten.val n.1)) λn=>.ex (q22 [.str n]) λn_1=>.all (λ(r:Int)=>r=errI n_1) λn_2=>.N (n_2=0) (.R [.str #[].toList,.i 14] []) (.R [.str n,.i 0] [])) ?_;simp only [q22,q24,Tree.holds,ze];have hlen:(dec (Ten.val d)).length<=d.length:=xi (by have:=Ten.zX hd; have hB:Ten.B=10:=rfl; rw [hB] at this; exact this);have htl:=zku neg (Ten.val d);obtain⟨t1,t2⟩:=zoa neg (Ten.val d);refine⟨(d,neg),⟨⟨⟨rfl,rfl,za _ _ _⟩,rfl,trivial⟩,hd,by show d.length<_; omega⟩,⟨_,rfl⟩,?_⟩;rintro _ rfl;refine⟨wF neg (Ten.val d),⟨by simp,by omega⟩,⟨_,rfl⟩,?_⟩;intro e he;rw [t1] at he;refine⟨λh=> ?_,λh=> ?_⟩
 ·have h:e≠0:=by simpa using h
  rcases XJ neg (Ten.val d) with g | g
  ·exact absurd (he.trans g) h
  ·rw [g] at hq;exact RetR.scal hq rfl (by simp [resV])
 ·have h:e=0:=by simpa using h
  have g:(wr neg (Ten.val d)).2=0:=by rw [<- he,h]
  have e2:wr neg (Ten.val d)=(wF neg (Ten.val d),0):=by rw [t2 g,<- g]
  rw [e2] at hq;exact RetR.scal hq rfl (by simp [resV])
noncomputable def GRa:=tb zcp (tb uA (tb Ky (tb uJ (tb zr0 (tb zfu (tb zcu (tb zd7 (tb J1 tz))))))))
def zih:Ctr:=ctrP true (λp:L8×L8=>[.str p.1,.str p.2]) (λp=>p.1.length<2^40/\p.2.length<2^40) (λp r=>r=mulI p.1 p.2) (λ_ r=>(.tup [.str r.1,.i r.2],[]))
def zbl:Ctr:=ctrP true (λp:L8×L8=>[.str p.1,.str p.2]) (λp=>p.1.length<2^40/\p.2.length<2^40) (λp r=>r=kz p.1 p.2) (λ_ r=>(.tup [.i r.1,.i r.2],[]))
theorem eqL2(a b:List Nat):eqL [.sl a.length 1 (natG .i64 a),.sl b.length 1 (natG .i64 b)] [nat6 a,nat6 b]:=⟨⟨rfl,rfl,za _ _ _⟩,⟨rfl,rfl,za _ _ _⟩,trivial⟩
theorem eqLb(a:List Nat)(b:Bool):eqL [.sl a.length 1 (natG .i64 a),.bool b] [nat6 a,.bool b]:=⟨⟨rfl,rfl,za _ _ _⟩,rfl,trivial⟩
theorem zlk{s:L8}(h:errI s=0):0<(dg (parse s).2).length:=by
 obtain⟨_,_,h3,_⟩:=yh h;rw [xC];exact List.length_pos_iff.2 h3
theorem ze6:zd Tryz.prog 111 zih:=by
 refine zh (fn:=Tryz.f111) (c:=Tryz.f111.body.getD .skip) rfl rfl rfl λp hp O w0 Q hq=> ?_
 obtain⟨s,t⟩:=p;obtain⟨hs,ht⟩:=hp;replace hq:=hq _ rfl;simp only at hs ht hq;refine zc.n GRa.h [] (.ex (q23 [.str s,.str t]) λn=>.all (λ(r:Int)=>r=zx n.1 n.2) λn=>.N (n=0) (.R [.str #[].toList,.i n] []) (.ex (q22 [.str s]) λn=>.all (λ(r:List Nat×Bool×Bool)=>r=digR n) λn=>.ex (q22 [.str t]) λn_1=>.all (λ(r:List Nat×Bool×Bool)=>r=digR n_1) λn_2=>.ex (λ(x:List Nat×List Nat)=>eqL [.sl n.1.length 1 (natG .i64 n.1),.sl n_2.1.length 1 (natG .i64 n_2.1)] [.sl x.1.length 1 (natG .i64 x.1),.sl x.2.length 1 (natG .i64 x.2)]/\Ten.dig x.1/\Ten.dig x.2/\0<x.1.length/\0<x.2.length/\x.1.length<1073741824/\x.2.length<1073741824) λn_3=>.all (XD n_3) λn_4=>.ex (λ(x:List Nat×Bool)=>eqL [.sl n_4.length 1 (natG .i64 n_4),.bool !Prod.fst n.2 == n_2.2.1] [.sl x.1.length 1 (natG .i64 x.1),.bool x.2]/\Ten.dig x.1/\x.1.length<2147483648) λn=>.all (λ(r:L8×Int)=>r=wr n.2 (Ten.val n.1)) λn=>.R [.str n.1,.i n.2] [])) ?_;simp only [q22,q23,Tree.holds,ze];refine⟨(s,t),⟨by simp,hs,ht⟩,⟨_,rfl⟩,?_⟩;rintro _ rfl;simp only;refine⟨λhe=> ?_,λhe=> ?_⟩
 ·have he:zx s t≠0:=by
   intro h; simp [h] at he
  have e:mulI s t=([],zx s t):=if_neg he;rw [e] at hq;exact RetR.scal hq rfl (by simp [resV])
 have he:zx s t=0:=by
  refine Decidable.byContradiction λh=> ?_
  simp [h] at he
 obtain⟨h1,h2⟩:=zm.1 he;have e:mulI s t=wr (negI s != negI t) (numI s*numI t):=if_pos he;rw [e] at hq;refine⟨s,⟨by simp,hs⟩,⟨_,rfl⟩,?_⟩;rintro _ rfl;refine⟨t,⟨by simp,ht⟩,⟨_,rfl⟩,?_⟩;rintro _ rfl;obtain⟨a1,a2,a3,a4⟩:=ug h1;obtain⟨b1,b2,b3,b4⟩:=ug h2;have a5:=zlk h1;have b5:=zlk h2;rw [a1,b1];have ea:(parse s).1=negI s:=rfl;have eb:(parse t).1=negI t:=rfl;simp only [ea,eb];rw [<- a4,<- b4] at hq;generalize dg (parse s).2=x at *
 generalize dg (parse t).2=y at *
 refine⟨(x,y),⟨eqL2 x y,a2,b2,a5,b5,by show x.length<_; omega,by show y.length<_; omega⟩,zjx a2 b2,?_⟩;rintro z ⟨g1,g2,g3⟩;simp only at g1 g3;refine⟨(z,negI s != negI t),⟨eqLb z _,g2,by show z.length<_; omega⟩,⟨_,rfl⟩,?_⟩;rintro _ rfl;rw [<- g3] at hq;exact RetR.scal hq rfl (by simp [resV])
theorem zk7:zd Tryz.prog 82 zbl:=by
 refine zh (fn:=Tryz.f82) (c:=Tryz.f82.body.getD .skip) rfl rfl rfl λp hp O w0 Q hq=> ?_
 obtain⟨s,t⟩:=p;obtain⟨hs,ht⟩:=hp;replace hq:=hq _ rfl;simp only at hs ht hq;refine zc.n GRa.h [] (.ex (q23 [.str s,.str t]) λn=>.all (λ(r:Int)=>r=zx n.1 n.2) λn=>.N (n=0) (.R [.i 0,.i n] []) (.ex (q22 [.str s]) λn=>.all (λ(r:List Nat×Bool×Bool)=>r=digR n) λn=>.ex (q22 [.str t]) λn_1=>.all (λ(r:List Nat×Bool×Bool)=>r=digR n_1) λn_2=>.ite (bif n.2.1 then n_2.2.1 else false) (.ex (q21 [.sl n_2.1.length 1 (natG .i64 n_2.1),.sl n.1.length 1 (natG .i64 n.1)]) λn=>.all (λ(r:Int)=>r=cmpN (Ten.val n.1) (Ten.val n.2)) λn=>.R [.i n,.i 0] []) (.ite n.2.1 (.R [.i (-1:Int),.i 0] []) (.ite n_2.2.1 (.R [.i 1,.i 0] []) (.ex (q21 [.sl n.1.length 1 (natG .i64 n.1),.sl n_2.1.length 1 (natG .i64 n_2.1)]) λn=>.all (λ(r:Int)=>r=cmpN (Ten.val n.1) (Ten.val n.2)) λn=>.R [.i n,.i 0] []))))) ?_;simp only [q21,q22,q23,Tree.holds,ze];refine⟨(s,t),⟨by simp,hs,ht⟩,⟨_,rfl⟩,?_⟩;rintro _ rfl;simp only;refine⟨λhe=> ?_,λhe=> ?_⟩
 ·have he:zx s t≠0:=by
   intro h; simp [h] at he
  have e:kz s t=(0,zx s t):=if_neg he;rw [e] at hq;exact RetR.scal hq rfl (by simp [resV])
 have he:zx s t=0:=by
  refine Decidable.byContradiction λh=> ?_
  simp [h] at he
 obtain⟨h1,h2⟩:=zm.1 he;have e:kz s t=(cmpZ (negI s) (numI s) (negI t) (numI t),0):=if_pos he;rw [e] at hq;refine⟨s,⟨by simp,hs⟩,⟨_,rfl⟩,?_⟩;rintro _ rfl;refine⟨t,⟨by simp,ht⟩,⟨_,rfl⟩,?_⟩;rintro _ rfl;obtain⟨a1,a2,a3,a4⟩:=ug h1;obtain⟨b1,b2,b3,b4⟩:=ug h2;rw [a1,b1];have ea:(parse s).1=negI s:=rfl;have eb:(parse t).1=negI t:=rfl;simp only [ea,eb];rw [<- a4,<- b4] at hq;generalize dg (parse s).2=x at *
 generalize dg (parse t).2=y at *
 have hb:∀ (b:Bool) (u v:List Nat),Ten.dig u->Ten.dig v->u.length<=1000->v.length<=1000->cmpN (Ten.val u) (Ten.val v)=cmpZ (negI s) (Ten.val x) (negI t) (Ten.val y) ->
   ∃ n:List Nat×List Nat,(eqL [.sl u.length 1 (natG .i64 u),.sl v.length 1 (natG .i64 v)] [.sl n.1.length 1 (natG .i64 n.1),.sl n.2.length 1 (natG .i64 n.2)]/\Ten.dig n.1/\Ten.dig n.2/\n.1.length<4611686018427387904/\n.2.length<4611686018427387904) /\
    (∃ r,r=cmpN (Ten.val n.1) (Ten.val n.2))/\∀ r,r=cmpN (Ten.val n.1) (Ten.val n.2)->RetR zbl 0 Q [.i r,.i 0] []:=by
  intro b u v hu hv lu lv hc;refine⟨(u,v),⟨⟨⟨rfl,rfl,za _ _ _⟩,⟨rfl,rfl,za _ _ _⟩,trivial⟩,hu,hv,by show u.length<_; omega,by show v.length<_; omega⟩,⟨_,rfl⟩,?_⟩;rintro _ rfl;rw [<- hc] at hq;exact RetR.scal hq rfl (by simp [resV])
 refine⟨λh=>hb true y x b2 a2 b3 a3 ?_,λh=>⟨λg=> ?_,λg=>⟨λf=> ?_,λf=>hb true x y a2 b2 a3 b3 ?_⟩⟩⟩
 ·cases hm:negI s<;>cases hn:negI t<;>rw [hm,hn] at h<;>first | (cases h; done) | rfl
 ·have e:cmpZ (negI s) (Ten.val x) (negI t) (Ten.val y) = -1:=by
   rw [g] at h ⊢;have h:negI t=false:=h;rw [h]; rfl
  rw [e] at hq;exact RetR.scal hq rfl (by simp [resV])
 ·have e:cmpZ (negI s) (Ten.val x) (negI t) (Ten.val y)=1:=by rw [g,f]; rfl
  rw [e] at hq;exact RetR.scal hq rfl (by simp [resV])
 ·rw [g,f]; rfl
structure Q4 where
 n:L8
 d:L8
 m:L8
 c:L8
 e:Int
def zd5(a b:L8):Q4:=if qE a b≠0 then⟨[],[],[],[],qE a b⟩ else⟨numR a,denR a,numR b,denR b,0⟩
def zcd:Ctr:=ctrP true (λp:L8×L8=>[.str p.1,.str p.2]) (λp=>p.1.length<2^40/\p.2.length<2^40) (λp r=>r=zd5 p.1 p.2) (λ_ (r:Q4)=>(.tup [.str r.n,.str r.d,.str r.m,.str r.c,.i r.e],[]))
noncomputable def GRf:=tb zcn (tb WV tz)
theorem UE:zd Tryz.prog 110 zcd:=by
 refine zh (fn:=Tryz.f110) (c:=Tryz.f110.body.getD .skip) rfl rfl rfl λp hp O w0 Q hq=> ?_
 obtain⟨a,b⟩:=p;obtain⟨ha,hb⟩:=hp;replace hq:=hq _ rfl;simp only at ha hb hq;unfold zd5 qE at hq;refine zc.n GRf.h [] (.ex (q22 [.str a]) λn=>.all (λ(r:Int)=>r=errR n) λn=>.N (n=0) (.ex (q22 [.str a]) λn=>.all (λ(r:Int)=>r=errR n) λn=>.R [.str #[].toList,.str #[].toList,.str #[].toList,.str #[].toList,.i n] []) (.ex (q22 [.str b]) λn=>.all (λ(r:Int)=>r=errR n) λn=>.N (n=0) (.ex (q22 [.str b]) λn=>.all (λ(r:Int)=>r=errR n) λn=>.R [.str #[].toList,.str #[].toList,.str #[].toList,.str #[].toList,.i n] []) (.ex (q15 [.str a]) λn=>.all (λ(r:L8×L8)=>r=(Prod.fst (cutR n),if Prod.snd (Prod.snd (cutR n))=true then Prod.fst (Prod.snd (cutR n)) else [(49:UInt8)])) λn=>.ex (q15 [.str b]) λn_1=>.all (λ(r:L8×L8)=>r=(Prod.fst (cutR n_1),if Prod.snd (Prod.snd (cutR n_1))=true then Prod.fst (Prod.snd (cutR n_1)) else [(49:UInt8)])) λn_2=>.R [.str n.1,.str n.2,.str n_2.1,.str n_2.2,.i 0] []))) ?_;simp only [q15,q22,Tree.holds,ze];refine⟨a,⟨by simp,ha⟩,⟨_,rfl⟩,?_⟩;rintro _ rfl;refine⟨λh=> ?_,λh=>⟨b,⟨by simp,hb⟩,⟨_,rfl⟩,?_⟩⟩
 ·have h:errR a≠0:=by simpa using h
  rw [if_neg h,if_pos h] at hq;refine⟨a,⟨by simp,ha⟩,⟨_,rfl⟩,?_⟩;rintro _ rfl;exact RetR.scal hq rfl (by simp [resV])
 ·have h:errR a=0:=by simpa using h
  rw [if_pos h] at hq;rintro _ rfl;refine⟨λg=> ?_,λg=>⟨a,⟨by simp,by show a.length<_; omega⟩,⟨_,rfl⟩,?_⟩⟩
  ·have g:errR b≠0:=by simpa using g
   rw [if_pos g] at hq;refine⟨b,⟨by simp,hb⟩,⟨_,rfl⟩,?_⟩;rintro _ rfl;exact RetR.scal hq rfl (by simp [resV])
  ·have g:errR b=0:=by simpa using g
   rw [if_neg (by rw [g]; simp)] at hq;rintro _ rfl;refine⟨b,⟨by simp,by show b.length<_; omega⟩,⟨_,rfl⟩,?_⟩;rintro _ rfl;exact RetR.scal hq rfl (by simp [resV,numR,denR])
def Xs(a b:L8):L8×L8×Int:=if zK a b≠0 then([],[],zK a b) else((mulI (numR a) (denR b)).1,(mulI (numR b) (denR a)).1,0)
def zdv:Ctr:=ctrP true (λp:L8×L8=>[.str p.1,.str p.2]) (λp=>p.1.length<2^39/\p.2.length<2^39) (λp r=>r=Xs p.1 p.2) (λ_ r=>(.tup [.str r.1,.str r.2.1,.i r.2.2],[]))
noncomputable def GRc:=tb UE (tb ze6 tz)
theorem zh3:zd Tryz.prog 81 zdv:=by
 refine zh (fn:=Tryz.f81) (c:=Tryz.f81.body.getD .skip) rfl rfl rfl λp hp O w0 Q hq=> ?_
 obtain⟨a,b⟩:=p;obtain⟨ha,hb⟩:=hp;replace hq:=hq _ rfl;simp only at ha hb hq;have ea:zK a b=if qE a b≠0 then qE a b else if(mulI (numR a) (denR b)).2≠0\/(mulI (numR b) (denR a)).2≠0 then 14 else 0:=rfl
 unfold Xs at hq;refine zc.n GRc.h [] (.ex (q23 [.str a,.str b]) λn=>.all (λ(r:Q4)=>r=zd5 n.1 n.2) λn=>.N (Q4.e n=0) (.R [.str #[].toList,.str #[].toList,.i n.e] []) (.ex (q23 [.str n.n,.str n.c]) λn_1=>.all (λ(r:L8×Int)=>r=mulI n_1.1 n_1.2) λn_2=>.ex (q23 [.str n.m,.str n.d]) λn=>.all (λ(r:L8×Int)=>r=mulI n.1 n.2) λn=>.ite (bif !decide (n_2.2=0) then true else !decide (n.2=0)) (.R [.str #[].toList,.str #[].toList,.i 14] []) (.R [.str n_2.1,.str n.1,.i 0] []))) ?_;simp only [q23,Tree.holds,ze];refine⟨(a,b),⟨⟨rfl,rfl,trivial⟩,by show a.length<_; omega,by show b.length<_; omega⟩,⟨_,rfl⟩,?_⟩;rintro _ rfl;simp only [zd5];by_cases he:qE a b=0
 ·rw [if_neg (by rw [he]; simp)];rw [he,if_neg (by simp)] at ea;have l1:=Z9 a;have l2:=Z7 a;have l3:=Z9 b;have l4:=Z7 b;refine⟨λh=>(by cases h),λ_=> ?_⟩;refine⟨(numR a,denR b),⟨⟨rfl,rfl,trivial⟩,by simp only; omega,by simp only; omega⟩,⟨_,rfl⟩,?_⟩;rintro _ rfl;refine⟨(numR b,denR a),⟨⟨rfl,rfl,trivial⟩,by simp only; omega,by simp only; omega⟩,⟨_,rfl⟩,?_⟩;rintro _ rfl;simp only;by_cases h1:(mulI (numR a) (denR b)).2=0
  ·by_cases h2:(mulI (numR b) (denR a)).2=0
   ·rw [if_neg (by simp [h1,h2])] at ea;rw [ea,if_neg (by simp)] at hq;refine⟨λh=>(by simp [h1,h2] at h),λ_=>RetR.scal hq rfl (by simp [resV])⟩
   ·rw [if_pos (.inr h2)] at ea;rw [ea,if_pos (by decide)] at hq;refine⟨λ_=>RetR.scal hq rfl (by simp [resV]),λh=>(by simp [h1,h2] at h)⟩
  ·rw [if_pos (.inl h1)] at ea;rw [ea,if_pos (by decide)] at hq;refine⟨λ_=>RetR.scal hq rfl (by simp [resV]),λh=>(by simp [h1] at h)⟩
 ·rw [if_pos he];rw [if_pos he] at ea;rw [ea,if_pos he] at hq;refine⟨λ_=>RetR.scal hq rfl (by simp [resV]),λh=>(by simp [he] at h)⟩
def zj9:Ctr:=ctrP true (λs:L8=>[.str s]) (λs=>0<s.length/\s.length<2^40) (λs r=>r=negS s) (λ_ r=>(.str r,[]))
theorem zkz:zd Tryz.prog 51 zj9:=by
 refine zh (fn:=Tryz.f51) (c:=Tryz.f51.body.getD .skip) rfl rfl rfl λs hp O w0 Q hq=> ?_
 obtain⟨h0,hl⟩:=hp;replace hq:=hq _ rfl;unfold negS at hq;refine zc.n zu [] (.D (s=#[(48:UInt8)].toList) (.R [.str s] []) (.side ((0:Int)<=0/\(0:Int)<s.length) (.D ((↑(UInt8.toNat (s.getD 0 (0:UInt8))):Int)=45) (.side ((0:Int)<=1/\(1:Int)<=s.length) (.R [.str (List.drop 1 (List.take s.length s))] [])) (.side (1+s.length<=9223372036854775807) (.R [.str (#[(45:UInt8)].toList++s)] []))))) ?_;simp only [Tree.holds,ze,inR,lo,hi,Int.toNat_natCast];refine⟨λh=> ?_,λh=>⟨⟨by omega,by omega⟩,λ_=>⟨λg=>⟨by omega,λ_=> ?_⟩,λg=>⟨by show 1+s.length<=_; omega,λ_=> ?_⟩⟩⟩⟩
 ·have h:s=[48]:=by simpa using h
  rw [if_pos h] at hq;exact RetR.scal hq rfl (by simp [resV])
 ·have h:s≠[48]:=of_decide_eq_false h;have g:s.getD 0 0=45:=ZG (of_decide_eq_true g);rw [if_neg h,if_pos g] at hq;have e:List.drop (Int.toNat 1) (List.take s.length s)=s.drop 1:=by rw [List.take_length]; rfl
  exact RetR.scal hq rfl (by simp [resV])
 ·have h:s≠[48]:=of_decide_eq_false h;have g:¬ s.getD 0 0=45:=λh5=>of_decide_eq_false g (by rw [h5]; rfl)
  rw [if_neg h,if_neg g] at hq;exact RetR.scal hq rfl (by simp [resV])
def zlm:Ctr:=ctrP true (λp:L8×L8=>[.str p.1,.str p.2]) (λp=>p.1.length<2^39/\p.2.length<2^39) (λp r=>r=cmpR p.1 p.2) (λ_ r=>(.tup [.i r.1,.i r.2],[]))
noncomputable def GRh:=tb UE (tb zh3 (tb ze6 (tb zk7 tz)))
abbrev q60(A:List AV)(x:L8×L8):Prop:=eqL A [.str x.1,.str x.2]/\x.1.length<549755813888/\x.2.length<549755813888
theorem zj6:zd Tryz.prog 50 zlm:=by
 refine zh (fn:=Tryz.f50) (c:=Tryz.f50.body.getD .skip) rfl rfl rfl λp hp O w0 Q hq=> ?_
 obtain⟨a,b⟩:=p;obtain⟨ha,hb⟩:=hp;replace hq:=hq _ rfl;simp only at ha hb hq;unfold cmpR at hq;refine zc.n GRh.h [] (.ex (q60 [.str a,.str b]) λn=>.all (λ(r:L8×L8×Int)=>r=Xs n.1 n.2) λn=>.N (n.2.2=0) (.R [.i 0,.i n.2.2] []) (.ex (q23 [.str n.1,.str n.2.1]) λn=>.all (λ(r:Int×Int)=>r=kz n.1 n.2) λn=>.R [.i n.1,.i n.2] [])) ?_;simp only [q23,q60,Tree.holds,ze];refine⟨(a,b),⟨⟨rfl,rfl,trivial⟩,ha,hb⟩,⟨_,rfl⟩,?_⟩;rintro _ rfl;simp only [Xs];by_cases he:zK a b=0
 ·rw [if_neg (by rw [he]; simp)] at hq ⊢;refine⟨λh=>(by cases h),λ_=> ?_⟩;have l1:=Vb (numR a) (denR b);have l2:=Vb (numR b) (denR a);refine⟨((mulI (numR a) (denR b)).1,(mulI (numR b) (denR a)).1),⟨⟨rfl,rfl,trivial⟩,by simp only; omega,by simp only; omega⟩,⟨_,rfl⟩,?_⟩;rintro _ rfl;exact RetR.scal hq rfl (by simp [resV])
 ·rw [if_pos he] at hq ⊢;refine⟨λ_=>RetR.scal hq rfl (by simp [resV]),λh=>(by simp [he] at h)⟩
noncomputable def K23:List Go.Sx.Item:=[.code (Tryz.f23.body.getD .skip)]
def zc0:Ctr:=ctrP false (λk:FI=>[k.c.conA,.i k.day,envA k.f k.h]) FI.pre (λk r=>r=j3 k.c k.day k.f k.h) (λ_ (r:List Fl×Int)=>(.tup [flS r.1,.i r.2],[]))
noncomputable def GFs:=tb zfo tz
theorem JI:zd Tryz.prog 22 zc0:=by
 refine zh (fn:=Tryz.f22) (c:=Tryz.f22.body.getD .skip) rfl rfl rfl λk hp O w0 Q hq=> ?_
 obtain⟨c,day,fin,f,h⟩:=k;replace hq:=hq _ rfl;simp only at hq;refine zc.n GFs.h [] (.ex (λ(x:FI)=>eqL [(Con.conA c),.i day,.i 100000,.agg [.sl f.length 3 (fxG f),.sl h.length 4 (chG h)]] [(Con.conA x.c),.i x.day,.i x.fin,.agg [.sl x.f.length 3 (fxG x.f),.sl x.h.length 4 (chG x.h)]]/\FI.pre x) λn=>.all (λ(r:List Fl×Int)=>r=befM n.c n.day n.fin n.f n.h) λn=>.R [.sl n.1.length 5 (flG n.1),.i n.2] [.box c.zf,.box [.sl f.length 3 (fxG f),.sl h.length 4 (chG h)]]) ?_;simp only [Tree.holds,ze];refine⟨⟨c,day,100000,f,h⟩,⟨⟨qI c,⟨rfl,rfl⟩,⟨rfl,rfl⟩,⟨⟨rfl,rfl,λ_ _ _ _=>rfl⟩,⟨rfl,rfl,λ_ _ _ _=>rfl⟩,trivial⟩,trivial⟩,hp⟩,⟨_,rfl⟩,?_⟩;rintro _ rfl;exact RetR.le0 hq (λh=>by cases h) (LeA.refl _)
noncomputable def GPm:=tb zj6 (tb zkz tz)
def Yp:Ctr:=ctrP false (λp:Fl=>[.i p.date,.str p.src,.str p.dst,.str p.ccy,.str p.amt]) (λp=>errR p.amt=0) (λ_ (_:Unit)=>True) (λp _=>(flS (payF p.date p.src p.dst p.ccy p.amt),[]))
theorem zad:zd Tryz.prog 21 Yp:=by
 refine zh (fn:=Tryz.f21) (c:=Tryz.f21.body.getD .skip) rfl rfl rfl λp hp O w0 Q hq=> ?_
 obtain⟨d,a,b,n,r⟩:=p;replace hq:=hq () trivial;simp only at hq hp;refine zc.n GPm.h [] (.ex (q60 [.str r,.str #[(48:UInt8)].toList]) λn_1=>.all (λ(r:Int×Int)=>r=cmpR n_1.1 n_1.2) λn_2=>.D (n_2.1=0) (.R [.nils] []) (.D (n_2.1<0) (.ex (λ(x:L8)=>eqL [.str r] [.str x]/\0<x.length/\x.length<1099511627776) λn_3=>.all (λ(r:L8)=>r=negS n_3) λn_4=>.R [.osl 0 5 0 1] [.arr 1 5 (zj 5 [.i d,.str b,.str a,.str n,.str n_4])]) (.R [.osl 0 5 0 1] [.arr 1 5 (zj 5 [.i d,.str a,.str b,.str n,.str r])]))) ?_;simp only [q60,Tree.holds,ze];have hl:=j0 hp;obtain⟨s1,s2,s3⟩:=kZ hp;obtain⟨c1,c2⟩:=UL.2 hp;refine⟨(r,[48]),⟨⟨rfl,rfl,trivial⟩,by show r.length<_; omega,by show(1:Nat)<_; omega⟩,⟨_,rfl⟩,?_⟩;rintro _ rfl;simp only;rw [c2];unfold payF at hq;refine⟨λg=> ?_,λg=>⟨λg2=>⟨r,⟨⟨rfl,trivial⟩,List.length_pos_iff.2 s3,by omega⟩,⟨_,rfl⟩,?_⟩,λg2=> ?_⟩⟩
 ·have h0:r=[48]:=by
   have g:=of_decide_eq_true g;refine s2.2 ?_;split at g
   ·cases g
   ·split at g
    ·cases g
    ·grind
  rw [if_pos h0] at hq;exact RetR.le0 hq (λh=>by cases h) LeA.nils
 ·rintro _ rfl;have g2:=of_decide_eq_true g2
  have hn:qv r<0:=by
   split at g2
   ·assumption
   ·split at g2<;>cases g2
  have h1:=s1.2 hn;have h0:¬ r=[48]:=λe=>by rw [e] at h1; cases h1
  have e:negS r=r.drop 1:=by unfold negS; rw [if_neg h0,if_pos h1]
  rw [if_neg h0,if_pos h1] at hq;rw [e]
  exact RetR.le0 hq (λh=>by cases h) (LeA.sl rfl λj o hj ho=>by
   rcases(show j=0 by simpa using hj) with rfl;rcases(show o=0\/o=1\/o=2\/o=3\/o=4 by omega) with rfl | rfl | rfl | rfl | rfl<;>exact LeA.refl _)
 ·have g:=of_decide_eq_false g;have g2:=of_decide_eq_false g2;have hn:¬ qv r<0:=λh=>by rw [if_pos h] at g2; exact g2 (by decide)
  have hz:¬ qv r=0:=λh=>by rw [h] at g; exact g (by decide +kernel)
  have h1:¬ r.getD 0 0=45:=λh=>hn (s1.1 h)
  have h0:¬ r=[48]:=λh=>hz (s2.1 h)
  rw [if_neg h0,if_neg h1] at hq
  exact RetR.le0 hq (λh=>by cases h) (LeA.sl rfl λj o hj ho=>by
   rcases(show j=0 by simpa using hj) with rfl;rcases(show o=0\/o=1\/o=2\/o=3\/o=4 by omega) with rfl | rfl | rfl | rfl | rfl<;>exact LeA.refl _)
theorem Fl.same{x y:Fl}(h1:x.date=y.date)(h2:x.src=y.src)(h3:x.dst=y.dst)(h4:x.ccy=y.ccy)(h5:x.amt=y.amt):x=y:=by
 cases x; cases y; simp_all
def zak:Ctr:=ctrP true (λp:List Fl×List Fl=>[flS p.1,flS p.2]) (λp=>p.1.length<2^40) (λp r=>(r=true↔p.1=p.2)) (λ_ (r:Bool)=>(.bool r,[]))
def SSf(l m:List Fl)(i:Nat):KV:=[(0,flS l),(1,flS m),(5,.i (i:Int))]
theorem Ul:zd Tryz.prog 23 zak:=by
 refine zh (fn:=Tryz.f23) (c:=Tryz.f23.body.getD .skip) rfl rfl rfl λp hp O w0 Q hq=> ?_
 obtain⟨l,m⟩:=p;simp only at hp hq;refine zc.n zu [0,1,5] (.N ((l.length:Int)=m.length) (.R [.bool false] []) (.leaf (.loop (lps K23 0).1 (lps K23 0).2 [(0,.sl l.length 5 (flG l)),(1,.sl m.length 5 (flG m)),(5,.i 0)] []))) ?_;simp only [Tree.holds,ze];refine⟨λh=> ?_,λh=> ?_⟩
 ·refine RetR.scal (hq false ⟨λh=>(by cases h),λhe=> ?_⟩) rfl (by simp [resV]);subst he;simp at h
 ·have hl:l.length=m.length:=by simp at h; omega
  refine zc.loop (ι:={i:Nat // i<=l.length/\∀ j,j<i->l.getD j Fl.nil=m.getD j Fl.nil}) (λi=>SSf l m i.1) (λ_=>[]) (λi=>l.length - i.1) ⟨0,Nat.zero_le _,λj hj=>by omega⟩ 0 ?_ ?_ (by kernel_rfl)
  ·exact⟨by simp [SSf,flS,za],trivial,by kernel_rfl,Nat.zero_le _⟩
  ·rintro⟨i,hil,hib⟩;refine zc.n zu [0,1,5] (let v2:=m.getD (i:Int).toNat Fl.nil;let v1:=l.getD (i:Int).toNat Fl.nil;.D ((i:Int)<l.length) (.side ((0:Int)<=i/\(i:Int)<l.length) (.side ((0:Int)<=i/\(i:Int)<m.length) (.ite (!(decide (Fl.date v1=Fl.date v2)&&(decide (Fl.src v1=Fl.src v2)&&(decide (Fl.dst v1=Fl.dst v2)&&(decide (Fl.ccy v1=Fl.ccy v2)&&(decide (Fl.amt v1=Fl.amt v2)&&true)))))) (.R [.bool false] []) (.S (i+1) (.leaf (.back 0 [(0,.sl l.length 5 (flG l)),(1,.sl m.length 5 (flG m)),(5,.i (i+1))] [])))))) (.R [.bool true] [])) ?_;simp only [Tree.holds,ze,inR,lo,hi,Int.toNat_natCast];refine⟨λhlt=> ?_,λhge=> ?_⟩
   ·have hlt:i<l.length:=by have:=of_decide_eq_true hlt; omega
    refine⟨by omega,λ_=>⟨by omega,λ_=>⟨λg=> ?_,λg=>⟨by omega,λ_=> ?_⟩⟩⟩⟩
    ·refine RetR.scal (hq false ⟨λh=>(by cases h),λh3=> ?_⟩) rfl (by simp [resV]);subst h3; simp at g
    ·have g:l.getD i Fl.nil=m.getD i Fl.nil:=by
      rw [Bool.not_eq_false'] at g;simp only [Bool.and_eq_true,decide_eq_true_eq,and_true] at g;exact Fl.same g.1 g.2.1 g.2.2.1 g.2.2.2.1 g.2.2.2.2
     rw [if_pos trivial];refine⟨⟨i+1,hlt,λj hj=> ?_⟩,by show l.length - (i+1)<l.length - i; omega,by simp [SSf,flS,za],trivial,by kernel_rfl,Nat.zero_le _⟩;rcases Nat.lt_or_ge j i with h1 | h1
     ·exact hib j h1
     ·have:j=i:=by omega
      rw [this]; exact g
   ·have hge:i=l.length:=by have:=of_decide_eq_false hge; omega
    subst hge;refine RetR.scal (hq true ⟨λ_=> ?_,λ_=>rfl⟩) rfl (by simp [resV]);apply List.ext_getElem hl;intro j g1 g2;have:=hib j g1;simpa [List.getD,g1,g2] using this
end Go.Proofs.Tryz
end
section
namespace Go.Nov
open Go.Sx
namespace Tm
theorem XZ{d:Deal}{x:Ex}{r:L8}(h:fits d):(pay d x r).big<=1000+x.size+x.zR+r.length:=by
 obtain⟨h1,h2,h3,h4,h5,h6⟩:=h;simp only [pay,opx,kon,Con.big,Con.bigs,Ex.size,Ex.zJ,Ex.zR,Ex.jK,List.length_nil];omega
theorem zd4{d:Deal}{day:Int}(h:fits d):(fwd d day).big<100000:=by
 have h':=h;obtain⟨h1,h2,h3,h4,h5,h6⟩:=h;have:=XZ (x:=opx 5 [spot d.name,kon d.zb]) (r:=d.zg) h';simp only [fwd,at_,Con.big,Con.bigs,Ex.size,Ex.zJ,Ex.zR,Ex.jK,List.length_nil,opx,spot,kon] at this ⊢;omega
theorem zkl{k n:L8}{put:Bool} : (over k (spot n) put).size+(over k (spot n) put).zR<=20+k.length+n.length:=by
 cases put<;>simp only [over,opx,spot,kon,Ex.size,Ex.zJ,Ex.zR,Ex.jK,List.length_nil,List.length_cons,if_pos,Bool.false_eq_true,if_false]<;>omega
theorem XV{d:Deal}{day:Int}{put:Bool}(h:fits d):(pff d day put).big<100000:=by
 have h':=h;obtain⟨h1,h2,h3,h4,h5,h6⟩:=h;have:=XZ (x:=over d.zb (spot d.name) put) (r:=d.zg) h';have:=zkl (k:=d.zb) (n:=d.name) (put:=put);simp only [pff,at_,Con.big,Con.bigs,Ex.size,Ex.zJ,Ex.zR,Ex.jK,List.length_nil];omega
end Tm
end Go.Nov
end
section
namespace Go.Nov
open Go.Sx
structure Per where
 fix:Int
 pay:Int
 part:L8
namespace Per
def nil:Per:=⟨0,0,[]⟩
def cell(p:Per):Nat->AV
 | 0=>.i p.fix
 | 1=>.i p.pay
 | 2=>.str p.part
 | _=>.undef
def av(p:Per):AV:=.agg [.i p.fix,.i p.pay,.str p.part]
end Per
def perG(l:List Per):Nat->Nat->AV:=λj=>(l.getD j Per.nil).cell
def perS(l:List Per):AV:=.sl l.length 3 (perG l)
namespace Tm
def short(d:Deal)(l:List Per)(days:List Int):Prop:=fits d/\l.length<=60/\days.length<=200/\∀ i,i<l.length->(l.getD i Per.nil).part.length<=300
end Tm
end Go.Nov
end
section
namespace Go.Nov
open Go.Sx
namespace Tm
def zed:Con:=.mk 1 [] [] [] (.mk 0 [] [] 0 []) 0 [] []
def both(a b:Con):Con:=.mk 3 [] [] [] (.mk 0 [] [] 0 []) 0 [] [a,b]
def xq:Nat->List Con->Con
 | 0,_=>zed
 | n+1,l=>if l.length=0 then zed else if l.length=1 then l.getD 0 Con.nil else both (xq n (l.take ((l.length+1)/2))) (xq n (l.drop ((l.length+1)/2)))
theorem xc:∀ (n m:Nat) (l:List Con),l.length<=n->l.length<=m->xq n l=xq m l
 | 0,0,l,_,_=>rfl
 | 0,m+1,l,h,_=>by
  have:l.length=0:=by omega
  simp [xq,this]
 | n+1,0,l,_,h=>by
  have:l.length=0:=by omega
  simp [xq,this]
 | n+1,m+1,l,h1,h2=>by
  simp only [xq];by_cases h:l.length=0
  ·rw [if_pos h,if_pos h]
  ·rw [if_neg h,if_neg h];by_cases g:l.length=1
   ·rw [if_pos g,if_pos g]
   ·rw [if_neg g,if_neg g,xc n m _ (by rw [List.length_take]; omega) (by rw [List.length_take]; omega),xc n m _ (by rw [List.length_drop]; omega) (by rw [List.length_drop]; omega)]
def whole(l:List Con):Con:=xq l.length l
theorem YW(l:List Con):whole l=if l.length=0 then zed else if l.length=1 then l.getD 0 Con.nil else both (whole (l.take ((l.length+1)/2))) (whole (l.drop ((l.length+1)/2))):=by
 unfold whole;rw [xc l.length (l.length+1) l (Nat.le_refl _) (Nat.le_succ _)];simp only [xq];by_cases h:l.length=0
 ·rw [if_pos h,if_pos h]
 ·rw [if_neg h,if_neg h];by_cases g:l.length=1
  ·rw [if_pos g,if_pos g]
  ·rw [if_neg g,if_neg g,xc l.length _ _ (by rw [List.length_take]; omega) (Nat.le_refl _),xc l.length _ _ (by rw [List.length_drop]; omega) (Nat.le_refl _)]
theorem Ux(l m:List Con):Con.bigs (l++m)=Con.bigs l+Con.bigs m:=by
 induction l with
 | nil=>simp [Con.bigs]
 | cons c l ih=>simp only [List.cons_append,Con.bigs,ih]; omega
theorem Ks(l m:List Con):Con.z9 (l++m)=Con.z9 l+Con.z9 m:=by
 induction l with
 | nil=>simp [Con.z9]
 | cons c l ih=>simp only [List.cons_append,Con.z9,ih]; omega
theorem xY:∀ (n:Nat) (l:List Con),l.length<=n->1<=l.length->(whole l).big<=Con.bigs l+2*(l.length - 1)/\(whole l).nodes<=Con.z9 l+(l.length - 1)
 | 0,l,h,h'=>by omega
 | n+1,l,h,h'=>by
  rw [YW,if_neg (by omega:¬ l.length=0)];by_cases h1:l.length=1
  ·rw [if_pos h1]
   match l,h1 with
   | [c],_=>simp [Con.bigs,Con.z9]
  ·rw [if_neg h1];obtain⟨a1,a2⟩:=xY n (l.take ((l.length+1)/2)) (by rw [List.length_take]; omega) (by rw [List.length_take]; omega);obtain⟨b1,b2⟩:=xY n (l.drop ((l.length+1)/2)) (by rw [List.length_drop]; omega) (by rw [List.length_drop]; omega);have e1:=Ux (l.take ((l.length+1)/2)) (l.drop ((l.length+1)/2));have e2:=Ks (l.take ((l.length+1)/2)) (l.drop ((l.length+1)/2));rw [List.take_append_drop] at e1 e2;rw [List.length_take] at a1 a2;rw [List.length_drop] at b1 b2;simp only [both,Con.big,Con.bigs,Con.nodes,Con.z9,Ex.size,Ex.zJ,Ex.zR,Ex.jK,List.length_nil];omega
theorem zbn(l:List Con):(whole l).big<=Con.bigs l+2*l.length+2/\(whole l).nodes<=Con.z9 l+l.length+1:=by
 by_cases h:l.length=0
 ·have:l=[]:=List.length_eq_zero_iff.1 h;subst this;decide
 ·have:=xY l.length l (Nat.le_refl _) (by omega);omega
structure Leg where
 e:Int
 acc:List Con
def prod(e:Int)(a b:L8):L8×Int:=if e≠0 then([48],e) else mulR a b
theorem JS{e:Int}{a b:L8} : (prod e a b).1.length<=2003:=by
 unfold prod;split
 ·simp
 ·exact zmk a b
def legS(d:Deal)(s:Leg)(p:Per):Leg:=
 ⟨(prod (prod s.e p.part d.zg).2 d.zb (prod s.e p.part d.zg).1).2,s.acc++[at_ p.pay (.mk 2 d.long d.short d.ccy (kon (prod (prod s.e p.part d.zg).2 d.zb (prod s.e p.part d.zg).1).1) 0 [] []),at_ p.pay (pay d (fixg d.name p.fix) (prod s.e p.part d.zg).1)]⟩
def badT(l:List Per)(i:Nat):Bool:=(List.range i).any λj=>decide ((l.getD j Per.nil).pay<(l.getD j Per.nil).fix)||(decide (0<j)&&decide ((l.getD j Per.nil).pay<=(l.getD (j - 1) Per.nil).pay))
theorem zhm(l:List Per)(i:Nat):badT l (i+1)=(badT l i||(decide ((l.getD i Per.nil).pay<(l.getD i Per.nil).fix)||(decide (0<i)&&decide ((l.getD i Per.nil).pay<=(l.getD (i - 1) Per.nil).pay)))):=by
 unfold badT;rw [List.range_succ,List.any_append];simp
def Z3(l:List Per)(i:Nat):Int:=if i=0 then -9223372036854775808 else(l.getD (i - 1) Per.nil).pay
def perE(d:Deal)(l:List Per):Int:=first (first 0 [d.zb,d.zg]) (l.map Per.part)
def vW(e:Int)(l:List Per)(i:Nat):Int:=if e=0 then(if badT l i=true then 40 else 0) else e
theorem zcb(l:List Per)(i:Nat):Z3 l (i+1)=(l.getD i Per.nil).pay:=by simp [Z3]
theorem zai{e:Int}{l:List Per}{i:Nat}{b:Bool}(hb:b=(decide ((l.getD i Per.nil).pay<(l.getD i Per.nil).fix)||(decide (0<(i:Int))&&decide ((l.getD i Per.nil).pay<=Z3 l i)))):vW e l (i+1)=if b=true then(if vW e l i=0 then 40 else vW e l i) else vW e l i:=by
 have hs:badT l (i+1)=(badT l i||b):=by
  rw [zhm,hb];congr 2;by_cases h:i=0
  ·simp [h]
  ·have:Z3 l i=(l.getD (i - 1) Per.nil).pay:=by simp [Z3,h]
   rw [this];simp
 unfold vW;rw [hs];by_cases he:e=0
 ·cases badT l i<;>cases b<;>simp [he]
 ·cases b<;>simp [he]
def ja(f:Leg->Per->Leg)(e:Int)(l:List Per)(i:Nat):Leg:=(l.take i).foldl f ⟨e,[]⟩
theorem zae{f:Leg->Per->Leg}{e:Int}{l:List Per}{i:Nat}(h:i<l.length):ja f e l (i+1)=f (ja f e l i) (l.getD i Per.nil):=by
 have:l.take (i+1)=l.take i++[l.getD i Per.nil]:=by rw [List.take_add_one]; simp [List.getD,h]
 unfold ja;rw [this,List.foldl_append];rfl
theorem KI{f:Leg->Per->Leg}(hf:∀ s p,(f s p).acc.length<=s.acc.length+2/\Con.bigs (f s p).acc<=Con.bigs s.acc+30000/\Con.z9 (f s p).acc<=Con.z9 s.acc+4):∀ (l:List Per) (s:Leg),(l.foldl f s).acc.length<=s.acc.length+2*l.length/\Con.bigs (l.foldl f s).acc<=Con.bigs s.acc+30000*l.length/\Con.z9 (l.foldl f s).acc<=Con.z9 s.acc+4*l.length
 | [],s=>by simp
 | p::l,s=>by
  have h1:=KI hf l (f s p);have h2:=hf s p;simp only [List.foldl_cons,List.length_cons];omega
theorem zc9{f:Leg->Per->Leg}(hf:∀ s p,(f s p).acc.length<=s.acc.length+2/\Con.bigs (f s p).acc<=Con.bigs s.acc+30000/\Con.z9 (f s p).acc<=Con.z9 s.acc+4)(e:Int)(l:List Per)(i:Nat)(hl:l.length<=60):(ja f e l i).acc.length<=120/\Con.bigs (ja f e l i).acc<=1800000/\Con.z9 (ja f e l i).acc<=240:=by
 have h:=KI hf (l.take i) ⟨e,[]⟩;have h2:(l.take i).length<=60:=by rw [List.length_take]; omega
 unfold ja;simp only [List.length_nil,Con.bigs,Con.z9] at h;omega
theorem zfd{d:Deal}(h:fits d)(s:Leg)(p:Per):(legS d s p).acc.length<=s.acc.length+2/\Con.bigs (legS d s p).acc<=Con.bigs s.acc+30000/\Con.z9 (legS d s p).acc<=Con.z9 s.acc+4:=by
 have h':=h;obtain⟨h1,h2,h3,h4,h5,h6⟩:=h;have l1:(prod (prod s.e p.part d.zg).2 d.zb (prod s.e p.part d.zg).1).1.length<=2003:=JS;have l2:(prod s.e p.part d.zg).1.length<=2003:=JS;have:=XZ (x:=fixg d.name p.fix) (r:=(prod s.e p.part d.zg).1) h';simp only [legS,Ux,Ks,List.length_append,at_,kon,fixg,pay,opx,Con.big,Con.bigs,Con.nodes,Con.z9,Ex.size,Ex.zJ,Ex.zR,Ex.jK,List.length_nil,List.length_cons] at this l1 l2 ⊢;omega
def resE(e:Int)(c:Con):Int:=if e=0 then c.errC else e
def zdn(f:Leg->Per->Leg)(d:Deal)(l:List Per):Leg:=ja f (vW (perE d l) l l.length) l l.length
def J2(f:Leg->Per->Leg)(d:Deal)(l:List Per):Int:=if 40<l.length then 4 else resE (zdn f d l).e (whole (zdn f d l).acc)
def WW(f:Leg->Per->Leg)(d:Deal)(l:List Per):Con:=if J2 f d l=0 then whole (zdn f d l).acc else zero
end Tm
end Go.Nov
end
section
namespace Go.Nov
open Go.Sx
section
variable {x:Ex} {day:Int} {f:List Fx} {c:List Ch}
end
structure Lg(p q x y:Ex):Prop where
 p0:p.errX=0
 p1:p.zz=2
 q0:q.errX=0
 q1:q.zz=2
 x0:x.errX=0
 x1:x.zz=1
 y0:y.errX=0
 y1:y.zz=1
 s:p.size+q.size+x.size+y.size<500
 dp:p.depth<60
 dq:q.depth<60
 dx:x.depth<60
 dy:y.depth<60
section
variable {p q x y:Ex} {day:Int} {f:List Fx} {c:List Ch} (h:Lg p q x y)
include h
end
end Go.Nov
end
section
namespace Go.Nov
open Go.Sx
namespace Tm
theorem kr(r:L8):(kon r).zz=if errR r=0 then 1 else 0:=by
 unfold kon;rw [Ex.zz,Ex.ju,xn (by decide)];simp [jD]
theorem V9(n:L8):(spot n).zz=if zQ n=true then 1 else 0:=by
 unfold spot;rw [Ex.zz,Ex.ju,xn (by decide)];simp [jD]
theorem kb{k:Int}(hk:k=5\/k=6\/k=7)(x y:Ex):(opx k [x,y]).zz=if x.zz=1/\y.zz=1 then 1 else 0:=by
 unfold opx;rw [Ex.zz,Ex.ju,Ex.ju,Ex.ju];rcases hk with rfl | rfl | rfl<;>rw [Qp (ps:=[1,1]) (w:=1) (by decide)]<;>simp [zjt]
theorem zg6{x:Ex}(h:x.size<=50):numX x=decide (x.zz=1):=by
 unfold numX;by_cases hs:x.zz=1
 ·have hd:=Ex.jL x;have:x.errX=0:=by unfold Ex.errX; rw [if_neg (by omega),if_neg (by omega)]
  simp [this,hs]
 ·simp [hs]
theorem zf7{x:Ex}(h:x.size<=50)(hs:x.zz=1):x.errX=0:=by
 have hd:=Ex.jL x;unfold Ex.errX;rw [if_neg (by omega),if_neg (by omega)]
theorem za9{a b n:L8}{x:Ex}{day:Int}(hs:x.size<=50):(at_ day (.mk 2 a b n x 0 [] [])).errC=if dayB day=true/\zQ a=true/\zQ b=true/\a≠b/\zQ n=true/\x.zz=1 then 0 else 8:=by
 have h1:(at_ day (.mk 2 a b n x 0 [] [])).size<=60:=by
  unfold at_;rw [Con.size,Con.zJ,Con.zJ,Con.size,Con.zJ];have:=Con.Zu x;have h0:ky (.mk 0 [] [] 0 [])=0:=by decide
  omega
 have h2:=Con.JW (at_ day (.mk 2 a b n x 0 [] []))
 have hf:(at_ day (.mk 2 a b n x 0 [] [])).form=decide (dayB day=true/\zQ a=true/\zQ b=true/\a≠b/\zQ n=true/\x.zz=1):=by
  unfold at_;rw [Con.form,Con.xI,Con.xI,Con.form,Con.xI];simp only [kD,List.length_cons,List.length_nil,zg6 hs];have hb:jU (.mk 0 [] [] 0 [])=true:=by decide
  rw [hb];by_cases e1:dayB day=true<;>by_cases e2:zQ a=true<;>by_cases e3:zQ b=true<;>by_cases e4:a=b<;>by_cases e5:zQ n=true<;>by_cases e6:x.zz=1<;>simp_all
 unfold Con.errC;rw [if_neg (by omega),hf];simp
theorem zt3(f:List Fx)(h:List Ch)(day:Int)(c:Con)(fr fin:Int):flM f h (at_ day c) fr fin=if fin<=fr then .ok [] else if fr<=day then flM f h c day fin else .ok []:=by
 rw [J5];simp [at_,Con.kind,Con.date,Con.sub]
theorem zoz(f:List Fx)(h:List Ch)(a b n:L8)(x:Ex)(fr fin:Int):flM f h (.mk 2 a b n x 0 [] []) fr fin=if fin<=fr then .ok [] else Go.Nov.andM (valM x fr f h) λr=>.ok (payF fr a b n r):=by
 rw [J5];simp [Con.kind,Con.x,Con.src,Con.dst,Con.name]
theorem zgy{x:Ex}{day:Int}{f:List Fx}{h:List Ch}(hx:x.size<=50)(hs:x.zz=1)(he:errE f h=0)(hd:dayB day=true):valM x day f h=if(x.ev f day).e≠0 then .error (x.ev f day).e else .ok (x.ev f day).v:=by
 unfold valM jP;have ha:askE x 1 day f h=0:=by rw [zrr (zf7 hx hs) hs,if_pos he,if_pos hd]
 simp only [ha,ne_eq,not_true_eq_false,if_false];by_cases g:(x.ev f day).e=0<;>simp [g]
theorem uS(r:L8)(f:List Fx)(day:Int):((kon r).ev f day).v=r/\((kon r).ev f day).e=0:=by
 unfold kon; rw [Ex.ev,Ex.evs]; exact⟨rfl,rfl⟩
theorem zeg(n:L8)(f:List Fx)(day:Int):((spot n).ev f day).v=(fixR f n day).1/\((spot n).ev f day).e=(fixR f n day).2:=by
 unfold spot; rw [Ex.ev,Ex.evs]; exact⟨rfl,rfl⟩
theorem zbc{k:Int}(hk:k=5\/k=6\/k=7)(x y:Ex)(f:List Fx)(day:Int):((opx k [x,y]).ev f day).v=(xL [] (x.ev f day) (y.ev f day) (opR k)).1/\((opx k [x,y]).ev f day).e=(xL [] (x.ev f day) (y.ev f day) (opR k)).2:=by
 unfold opx;rw [Ex.ev,Ex.evs,Ex.evs,Ex.evs];rcases hk with rfl | rfl | rfl<;>exact⟨rfl,rfl⟩
theorem Qs{k:Int}(hk:k=5\/k=6\/k=7){x y:Ex}{f:List Fx}{day:Int}(hx:(x.ev f day).e=0)(hy:(y.ev f day).e=0):((opx k [x,y]).ev f day).v=(opR k (x.ev f day).v (y.ev f day).v).1/\((opx k [x,y]).ev f day).e=(opR k (x.ev f day).v (y.ev f day).v).2:=by
 obtain⟨h1,h2⟩:=zbc hk x y f day;rw [h1,h2];unfold xL;rw [if_neg (by simp [hx]),if_neg (by simp [hy])];exact⟨rfl,rfl⟩
theorem WH{k:Int}(hk:k=5\/k=6\/k=7){x y:Ex}{f:List Fx}{day e:Int}(he:e≠0)(hx:(x.ev f day).e=e):((opx k [x,y]).ev f day).e=e:=by
 rw [(zbc hk x y f day).2];unfold xL;rw [if_pos (by rw [hx]; exact he),hx]
theorem ze7{k:Int}(hk:k=5\/k=6\/k=7){x y:Ex}{f:List Fx}{day e:Int}(he:e≠0)(hx:(x.ev f day).e=0)(hy:(y.ev f day).e=e):((opx k [x,y]).ev f day).e=e:=by
 rw [(zbc hk x y f day).2];unfold xL;rw [if_neg (by simp [hx]),if_pos (by rw [hy]; exact he),hy]
theorem Yj(a b:L8):(subR a b).1.length<=2003:=by
 unfold subR;split
 ·simp
 ·exact Uh _ _
def posR(t:L8):L8:=if(cmpR t [48]).1<0 then [48] else t
theorem Ur{t:L8}{n:Nat}(h:t.length<=n)(h1:1<=n):(posR t).length<=n:=by
 unfold posR;split
 ·exact h1
 ·exact h
theorem Wj{t:L8}(ht:errR t=0):opR 7 [48] t=(posR t,0)/\(cmpR t [48]).2=0/\errR (posR t)=0:=by
 obtain⟨c1,c2⟩:=UL.2 ht;obtain⟨d1,d2⟩:=zic ht yY;have hz:qv t=0->t=[48]:=(kZ ht).2.1.2;refine⟨?_,c1,?_⟩
 ·show jV 7 [48] t=_;unfold jV posR;rw [if_pos rfl,d1,c1,if_neg (by simp)];congr 1;by_cases h1:0<(cmpR t [48]).1
  ·rw [if_pos (d2.2 h1),if_neg (by omega)]
  ·rw [if_neg (λx=>h1 (d2.1 x))];by_cases h2:(cmpR t [48]).1<0
   ·rw [if_pos h2]
   ·rw [if_neg h2]
    have h3:qv t=0:=by
     rw [c2] at h1 h2;by_cases n:qv t<0
     ·rw [if_pos n] at h2; exact absurd (by decide) h2
     ·rw [if_neg n] at h1;by_cases p:0<qv t
      ·rw [if_pos p] at h1; exact absurd (by decide) h1
      ·grind
    exact(hz h3).symm
 ·unfold posR;split
  ·exact yY
  ·exact ht
theorem zdl{a b n:L8}{x:Ex}{day fr:Int}{f:List Fx}{h:List Ch}(hs:x.size<=50)(hc:(at_ day (.mk 2 a b n x 0 [] [])).errC=0)(he:errE f h=0)(h0:0<=fr)(h1:fr<=99999) :
  j3 (at_ day (.mk 2 a b n x 0 [] [])) fr f h=if day<fr then([],0) else if(x.ev f day).e≠0 then([],(x.ev f day).e) else(payF day a b n (x.ev f day).v,0):=by
 have hw:=hc;rw [za9 hs] at hw
 have hcnd:dayB day=true/\zQ a=true/\zQ b=true/\a≠b/\zQ n=true/\x.zz=1:=by
  by_cases g:dayB day=true/\zQ a=true/\zQ b=true/\a≠b/\zQ n=true/\x.zz=1
  ·exact g
  ·rw [if_neg g] at hw; cases hw
 have hd:0<=day/\day<=99999:=by simpa [dayB] using hcnd.1
 unfold j3 befM;rw [if_neg (by simp [hc]),if_neg (by simp [he]),if_neg (by omega),zt3,if_neg (by omega)];by_cases g:day<fr
 ·rw [if_pos g,if_neg (by omega)]; rfl
 ·rw [if_neg g,if_pos (by omega),zoz,if_neg (by omega),zgy hs hcnd.2.2.2.2.2 he hcnd.1];by_cases g2:(x.ev f day).e=0
  ·rw [if_neg (by simp [g2]),if_neg (by simp [g2])];show(ordM (payF day a b n (x.ev f day).v),(0:Int))=_;congr 1;have:=yu day a b n (x.ev f day).v;generalize payF day a b n (x.ev f day).v=l at this
   match l,this with
   | [],_=>rfl
   | [x],_=>rfl
  ·rw [if_pos g2,if_pos g2]; rfl
theorem Yi(n k u:L8):(opx 6 [opx 5 [spot n,kon k],kon u]).size<=50:=by
 unfold opx spot kon; simp [Ex.size,Ex.zJ]
theorem Ue(n k u:L8)(put:Bool):(opx 6 [over k (spot n) put,kon u]).size<=50:=by
 unfold over opx spot kon; cases put<;>simp [Ex.size,Ex.zJ]
theorem zcx{a b:L8} : first 0 [a,b]=0↔errR a=0/\errR b=0:=by
 unfold first;by_cases h:errR a=0
 ·simp [h]
 ·simp [h]
theorem zhy{n k u:L8}(hk:errR k=0)(hu:errR u=0):(opx 6 [opx 5 [spot n,kon k],kon u]).zz=if zQ n=true then 1 else 0:=by
 rw [kb (.inr (.inl rfl)),kb (.inl rfl),V9,kr,kr,if_pos hk,if_pos hu];cases zQ n<;>simp
theorem zh2{x:Ex}{k:L8}{put:Bool}(hk:errR k=0):(over k x put).zz=if x.zz=1 then 1 else 0:=by
 unfold over;cases put with
 | true=>
  rw [if_pos rfl,kb (.inr (.inr rfl)),kb (.inl rfl),kr,kr,if_pos hk,if_pos yY];by_cases h:x.zz=1<;>simp [h]
 | false=>
  rw [if_neg (by decide),kb (.inr (.inr rfl)),kb (.inl rfl),kr,kr,if_pos hk,if_pos yY];by_cases h:x.zz=1<;>simp [h]
theorem zj0{n k u:L8}{put:Bool}(hk:errR k=0)(hu:errR u=0):(opx 6 [over k (spot n) put,kon u]).zz=if zQ n=true then 1 else 0:=by
 rw [kb (.inr (.inl rfl)),zh2 hk,V9,kr,if_pos hu];cases zQ n<;>simp
theorem QW{d:Deal}{day:Int}{put:Bool} : res d (pff d day put)=res d (fwd d day):=by
 unfold res;by_cases h:first 0 [d.zb,d.zg]=0
 ·rw [if_pos h,if_pos h];obtain⟨h1,h2⟩:=zcx.1 h;unfold pff fwd pay;rw [za9 (Ue _ _ _ _),za9 (Yi _ _ _),zj0 h1 h2,zhy h1 h2]
 ·rw [if_neg h,if_neg h]
theorem JL{d:Deal}{c:Con}(h:res d c=0):errR d.zb=0/\errR d.zg=0/\c.errC=0/\out (res d c) c=c:=by
 have h0:=h;unfold res at h;split at h
 ·rename_i g;obtain⟨h1,h2⟩:=zcx.1 g;exact⟨h1,h2,h,by unfold out; rw [if_pos h0]⟩
 ·rename_i g; exact absurd h g
theorem zjq{d:Deal}{day fr:Int}{f:List Fx}{h:List Ch}(hc:(fwd d day).errC=0)(he:errE f h=0)(h0:0<=fr)(h1:fr<=99999) :
  j3 (fwd d day) fr f h=if day<fr then([],0) else if(zC f d.name day).2=false then([],30) else if(subR (zC f d.name day).1 d.zb).2≠0 then([],(subR (zC f d.name day).1 d.zb).2) else if(mulR (subR (zC f d.name day).1 d.zb).1 d.zg).2≠0 then([],(mulR (subR (zC f d.name day).1 d.zb).1 d.zg).2) else(payF day d.short d.long d.ccy (mulR (subR (zC f d.name day).1 d.zb).1 d.zg).1,0):=by
 have hm:=zdl (Yi d.name d.zb d.zg) hc he h0 h1;refine hm.trans ?_;split
 ·rfl
 obtain⟨s1,s2⟩:=zeg d.name f day;obtain⟨k1,k2⟩:=uS d.zb f day;obtain⟨u1,u2⟩:=uS d.zg f day;unfold fixR at s1 s2;cases hf:(zC f d.name day).2 with
 | false=>
  rw [hf,if_neg (by decide)] at s2;have e1:((opx 6 [opx 5 [spot d.name,kon d.zb],kon d.zg]).ev f day).e=30:=WH (.inr (.inl rfl)) (by decide) (WH (.inl rfl) (by decide) s2);rw [e1,if_pos (by decide),if_pos rfl]
 | true=>
  rw [hf,if_pos rfl] at s1 s2;rw [if_neg (show ¬ (true=false) by decide)];obtain⟨a1,a2⟩:=Qs (k:=5) (.inl rfl) s2 k2;rw [s1,k1] at a1 a2;have a1:((opx 5 [spot d.name,kon d.zb]).ev f day).v=(subR (zC f d.name day).1 d.zb).1:=a1;have a2:((opx 5 [spot d.name,kon d.zb]).ev f day).e=(subR (zC f d.name day).1 d.zb).2:=a2;by_cases g:(subR (zC f d.name day).1 d.zb).2=0
  ·rw [if_neg (show ¬ ((subR (zC f d.name day).1 d.zb).2≠0) from λx=>x g)];obtain⟨b1,b2⟩:=Qs (k:=6) (.inr (.inl rfl)) (a2.trans g) u2;rw [a1,u1] at b1 b2;have b1:((opx 6 [opx 5 [spot d.name,kon d.zb],kon d.zg]).ev f day).v=(mulR (subR (zC f d.name day).1 d.zb).1 d.zg).1:=b1;have b2:((opx 6 [opx 5 [spot d.name,kon d.zb],kon d.zg]).ev f day).e=(mulR (subR (zC f d.name day).1 d.zb).1 d.zg).2:=b2;rw [b1,b2]
  ·rw [if_pos (show(subR (zC f d.name day).1 d.zb).2≠0 from g)];have e1:((opx 6 [opx 5 [spot d.name,kon d.zb],kon d.zg]).ev f day).e=(subR (zC f d.name day).1 d.zb).2:=WH (.inr (.inl rfl)) g a2;rw [e1,if_pos g]
def xM(put:Bool)(s k:L8):L8×Int:=if put=true then subR k s else subR s k
theorem zqy{x:Ex}{k s:L8}{put:Bool}{f:List Fx}{day:Int}(hs:errR s=0)(hk:errR k=0)(h1:(x.ev f day).v=s)(h2:(x.ev f day).e=0)(hd:(xM put s k).2=0):((over k x put).ev f day).e=0/\((over k x put).ev f day).v=posR (xM put s k).1/\errR (posR (xM put s k).1)=0:=by
 obtain⟨k1,k2⟩:=uS k f day;obtain⟨z1,z2⟩:=uS [48] f day
 have ht:errR (xM put s k).1=0:=by
  unfold xM at hd ⊢;cases put with
  | true=>exact(ZJ hk hs hd).1
  | false=>exact(ZJ hs hk hd).1
 have e5:((opx 5 (if put=true then [kon k,x] else [x,kon k])).ev f day).v=(xM put s k).1/\((opx 5 (if put=true then [kon k,x] else [x,kon k])).ev f day).e=0:=by
  unfold xM at hd ⊢;cases put with
  | true=>
   obtain⟨a1,a2⟩:=Qs (k:=5) (.inl rfl) k2 h2;rw [k1,h1] at a1 a2;exact⟨a1,a2.trans hd⟩
  | false=>
   obtain⟨a1,a2⟩:=Qs (k:=5) (.inl rfl) h2 k2;rw [k1,h1] at a1 a2;exact⟨a1,a2.trans hd⟩
 obtain⟨p1,p2,p3⟩:=Wj ht;obtain⟨b1,b2⟩:=Qs (k:=7) (.inr (.inr rfl)) z2 e5.2;rw [z1,e5.1,p1] at b1 b2;exact⟨b2,b1,p3⟩
theorem zkn{x:Ex}{k:L8}{put:Bool}{f:List Fx}{day e:Int}(he:e≠0)(h2:(x.ev f day).e=e):((over k x put).ev f day).e=e:=by
 obtain⟨k1,k2⟩:=uS k f day;obtain⟨z1,z2⟩:=uS [48] f day;refine ze7 (.inr (.inr rfl)) he z2 ?_;cases put with
 | true=>exact ze7 (.inl rfl) he k2 h2
 | false=>exact WH (.inl rfl) he h2
theorem Um{d:Deal}{day fr:Int}{put:Bool}{f:List Fx}{h:List Ch}(hc:(pff d day put).errC=0)(hk:errR d.zb=0)(he:errE f h=0)(h0:0<=fr)(h1:fr<=99999) :
  (day<fr->j3 (pff d day put) fr f h=([],0))/\(¬ day<fr->(zC f d.name day).2=false->j3 (pff d day put) fr f h=([],30)) /\
  (¬ day<fr->(zC f d.name day).2=true->errR (zC f d.name day).1=0->(xM put (zC f d.name day).1 d.zb).2=0->(mulR (posR (xM put (zC f d.name day).1 d.zb).1) d.zg).2=0->j3 (pff d day put) fr f h=(payF day d.short d.long d.ccy (mulR (posR (xM put (zC f d.name day).1 d.zb).1) d.zg).1,0)):=by
 have hm:=zdl (Ue d.name d.zb d.zg put) hc he h0 h1;have hm:j3 (pff d day put) fr f h=_:=hm;rw [hm];obtain⟨s1,s2⟩:=zeg d.name f day;obtain⟨u1,u2⟩:=uS d.zg f day;unfold fixR at s1 s2;refine⟨λg=>by rw [if_pos g],λg hf=> ?_,λg hf hs hd hmul=> ?_⟩
 ·rw [if_neg g];rw [hf,if_neg (by decide)] at s2;have e1:((opx 6 [over d.zb (spot d.name) put,kon d.zg]).ev f day).e=30:=WH (.inr (.inl rfl)) (by decide) (zkn (by decide) s2);rw [e1,if_pos (by decide)]
 ·rw [if_neg g];rw [hf,if_pos rfl] at s1 s2;obtain⟨o1,o2,o3⟩:=zqy (put:=put) hs hk s1 s2 hd;obtain⟨b1,b2⟩:=Qs (k:=6) (.inr (.inl rfl)) o1 u2;rw [o2,u1] at b1 b2;have b1:((opx 6 [over d.zb (spot d.name) put,kon d.zg]).ev f day).v=(mulR (posR (xM put (zC f d.name day).1 d.zb).1) d.zg).1:=b1;have b2:((opx 6 [over d.zb (spot d.name) put,kon d.zg]).ev f day).e=(mulR (posR (xM put (zC f d.name day).1 d.zb).1) d.zg).2:=b2;rw [b1,b2,hmul,if_neg (by simp)]
end Tm
end Go.Nov
end
section
set_option maxRecDepth 100000
open Go Go.Sx Go.Proofs Go.Nov
namespace Go.Proofs.Tryz
attribute [local simp] eqKV eqA eqA0 eqH eqB eqL eqL0
noncomputable def K69:List Go.Sx.Item:=[.code (Tryz.f69.body.getD .skip)]
theorem zgc(n sz:Nat)(g g':Nat->Nat->AV):eqG (0+n) sz (appG 0 g g') g':=zlu n sz g g'
def zd8:Ctr:=ctrP false (λl:List Int=>[Con.dayS l]) (λl=>l.length<2^40) (λ_ (_:Unit)=>True) (λl _=>(.osl 0 1 0 l.length,[.arr l.length 1 (Con.dayG l)]))
theorem zg0:zd Tryz.prog 99 zd8:=by
 refine Yh (fn:=Tryz.f99) (c:=Tryz.f99.body.getD .skip) rfl rfl rfl λl hl O w0 Q hq=> ?_
 replace hq:=hq () trivial;refine zc.n zu [] (.all (λ(b:Bool)=>0<l.length->b=false) λn=>.ite n (.R [.nils] []) (.side (0=0/\0<=0/\(0+l.length)*8<=140737488355328) (.R [.osl 0 1 0 (0+l.length)] [.arr (0+l.length) 1 (appG 0 (zj 1 []) (Con.dayG l))]))) ?_;simp only [Tree.holds,ze];refine⟨⟨false,λ_=>rfl⟩,λb hb=>⟨λh=> ?_,λh=>⟨⟨trivial,Nat.le_refl _,by omega⟩,λ_=> ?_⟩⟩⟩
 ·have h0:l=[]:=by
   rcases Nat.eq_zero_or_pos l.length with h0 | h0
   ·exact List.length_eq_zero_iff.1 h0
   ·rw [hb h0] at h; cases h
  subst h0;refine RetR.scal (.inr ⟨.osl 0 1 0 0,[(1,Con.dayG [])],by simp [upA2,upA1,upA0],?_⟩) (r:=.nils) rfl (by simp [resV]);exact hq
 ·refine RetR.outs [0] rfl rfl (.inl hq) (λh=>by cases h) ?_ ?_ rfl
  ·simp [resV,exp2,exp1,exp0,zO,eqA2,eqL1]
  ·exact⟨⟨by omega,rfl,zgc _ _ _ _⟩,trivial⟩
def Wh(n:Nat):Ctr:=ctrP false (λc:Con=>[c.conA]) (λc=>c.nodes<n/\c.big<2^38) (λ_ (_:Unit)=>True) (λc _=>(c.conD,[]))
noncomputable def GTw0:=tb zj7 (tb zg0 tz)
noncomputable def GTwc(n:Nat):Nat->Option Ctr:=λf=>if f=69 then some (Wh n) else GTw0.g f
theorem zej{n:Nat}(ih:zd Tryz.prog 69 (Wh n)):∀ g c,GTwc n g=some c->zd Tryz.prog g c:=λg c h=>by
 unfold GTwc at h;split at h
 ·rename_i e; cases h; subst e; exact ih
 ·exact GTw0.h g c h
def STc(c:Con)(i:Nat):KV:=[(1,.ptr 0 0),(2,.ptr 1 0),(3,.osl 3 12 0 i),(15,Con.conS c.sub),(16,.i (c.sub.length:Int)),(17,.i (i:Int))]
def BTc(c:Con)(s:AV):Blk:=.box [.int .u8 c.kind,.str c.src,.str c.dst,.str c.name,.int .u8 c.x.kind,.str c.x.rat,.str c.x.name,.i c.x.date,.sl c.x.sub.length 5 c.x.deep,.i c.date,.osl 2 1 0 c.days.length,s]
def BTz:Blk:=.box [.int .u8 0,.str [],.str [],.str [],.int .u8 0,.str [],.str [],.i 0,.nils,.i 0,.nils,.nils]
def RTc(c:Con):List AV:=[c.outD (.sl c.x.sub.length 5 c.x.deep) (.osl 2 1 0 c.days.length) (.osl 3 12 0 c.sub.length)]
def HTc(c:Con)(i:Nat):Heap:=[BTc c (Con.conS c.sub),BTz,.arr c.days.length 1 (Con.dayG c.days),.arr i 12 (Con.conG c.sub)]
theorem zgg{s:List Con}{i:Nat} : eqG (i+1) 12 (appG i (Con.conG s) (zi (zj 12 [.int .u8 (s.getD i Con.nil).kind,.str (s.getD i Con.nil).src,.str (s.getD i Con.nil).dst,.str (s.getD i Con.nil).name,.int .u8 (s.getD i Con.nil).x.kind,.str (s.getD i Con.nil).x.rat,.str (s.getD i Con.nil).x.name,.i (s.getD i Con.nil).x.date,.sl (s.getD i Con.nil).x.sub.length 5 (Ex.exG (s.getD i Con.nil).x.sub),.i (s.getD i Con.nil).date,.sl (s.getD i Con.nil).days.length 1 (Con.dayG (s.getD i Con.nil).days),.sl (s.getD i Con.nil).sub.length 12 (s.getD i Con.nil).deep]) 0)) (Con.conG s):=by
 intro j o hj ho;simp only [appG,zi,zj];by_cases h:j<i
 ·rw [if_pos h]
 ·have:j=i:=by omega
  subst this;rw [if_neg h];have e:j - j=0:=by omega
  match o,ho with
  | 0,_=>simp [e,Con.conG,Con.cell]
  | 1,_=>simp [e,Con.conG,Con.cell]
  | 2,_=>simp [e,Con.conG,Con.cell]
  | 3,_=>simp [e,Con.conG,Con.cell]
  | 4,_=>simp [e,Con.conG,Con.cell]
  | 5,_=>simp [e,Con.conG,Con.cell]
  | 6,_=>simp [e,Con.conG,Con.cell]
  | 7,_=>simp [e,Con.conG,Con.cell]
  | 8,_=>simp [e,Con.conG,Con.cell]
  | 9,_=>simp [e,Con.conG,Con.cell]
  | 10,_=>simp [e,Con.conG,Con.cell]
  | 11,_=>simp [e,Con.conG,Con.cell]
theorem zpd(n:Nat)(ih:zd Tryz.prog 69 (Wh n)){O:Nat->Prop}{w0:World}{C:Ctr}{Q:AV×Heap->Prop}(c:Con)(h1:c.nodes<n+1)(h2:c.big<2^38)(hR:∀ h:Heap,h[2]?=some (.arr c.days.length 1 (Con.dayG c.days))->h[3]?=some (.arr c.sub.length 12 (Con.conG c.sub))->RetR C 0 Q (RTc c) h) :
  zc Tryz.prog Tryz.f69 O 0 w0 [] (λ_ _ _=>False) (RetR C 0 Q) K69 (entry Tryz.f69 [c.conA]):=by
 refine zc.n (zej ih) [1,2,3,15,16,17] (.ex (λ(x:Ex)=>eqL [(Ex.exA c.x)] [x.exA]/\Ex.size x<1099511627776) λn=>.A λn_1=>.ex (q55 [.sl c.days.length 1 (Con.dayG c.days)]) λn_2=>.A λn_3=>.leaf (.loop (lps K69 0).1 (lps K69 0).2 [(1,.ptr 0 0),(2,.ptr 1 0),(3,.nils),(15,.sl c.sub.length 12 (Con.conG c.sub)),(16,.i c.sub.length),(17,.i 0)] [.box [.int .u8 c.kind,.str c.src,.str c.dst,.str c.name,.int .u8 n.kind,.str n.rat,.str n.name,.i n.date,.sl n.sub.length 5 n.deep,.i c.date,.osl 2 1 0 n_2.length,.sl c.sub.length 12 (Con.conG c.sub)],.box [.int .u8 0,.str #[].toList,.str #[].toList,.str #[].toList,.int .u8 0,.str #[].toList,.str #[].toList,.i 0,.nils,.i 0,.nils,.nils],.arr n_2.length 1 (Con.dayG n_2)])) ?_;simp only [q55,Tree.holds,ze,inR,lo,hi,Int.toNat_natCast];have hb:=h2;rw [Con.uK] at hb;refine⟨c.x,⟨⟨wX c.x,trivial⟩,by show c.x.size<_; omega⟩,⟨(),trivial⟩,λ_ _=>⟨c.days,⟨by simp [za],by omega⟩,⟨(),trivial⟩,λ_ _=> ?_⟩⟩;refine zc.bear 3 12 (Con.conG c.sub) rfl (by decide) (by kernel_rfl) ?_;refine zc.loop (ι:={i:Nat // i<=c.sub.length}) (λi=>STc c i.1) (λi=>HTc c i.1) (λi=>c.sub.length - i.1) ⟨0,Nat.zero_le _⟩ 0 ?_ ?_ (by kernel_rfl)
 ·refine⟨by simp [STc,kL,Con.conS,za],?_,by kernel_rfl,Nat.zero_le _⟩;simp [HTc,BTc,BTz,Con.conS,za]
 ·rintro⟨i,hil⟩;refine zc.n (zej ih) [1,2,3,15,16,17] (let v3:=Con.conG c.sub;let v2:=List.getD c.sub (i:Int).toNat Con.nil;let v1:List AV:=[.int .u8 c.kind,.str c.src,.str c.dst,.str c.name,.int .u8 (Ex.kind c.x),.str (Ex.rat c.x),.str (Ex.name c.x),.i (Ex.date c.x),.sl (List.length (Ex.sub c.x)) 5 (Ex.deep c.x),.i c.date,.osl 2 1 0 c.days.length,.osl 3 12 0 i];.D ((i:Int)<(c.sub.length:Int)) (.side ((0:Int)<=i/\(i:Int)<(c.sub.length:Int)) (.ex (λ(x:Con)=>eqL [v2.conD] [(Con.conA x)]/\Con.nodes x<n/\Con.big x<274877906944) λn=>.A λn_1=>.side (0=0/\i<=i/\(i+1)*184<=140737488355328) (.S (i+1) (.leaf (.back 0 [(1,.ptr 0 0),(2,.ptr 1 0),(3,.osl 3 12 0 (i+1)),(15,.sl c.sub.length 12 v3),(16,.i c.sub.length),(17,.i (i+1))] [.box [.int .u8 c.kind,.str c.src,.str c.dst,.str c.name,.int .u8 (Ex.kind c.x),.str (Ex.rat c.x),.str (Ex.name c.x),.i (Ex.date c.x),.sl (List.length (Ex.sub c.x)) 5 (Ex.deep c.x),.i c.date,.osl 2 1 0 c.days.length,.sl c.sub.length 12 v3],.box [.int .u8 0,.str [],.str [],.str [],.int .u8 0,.str [],.str [],.i 0,.nils,.i 0,.nils,.nils],.arr c.days.length 1 (Con.dayG c.days),.arr (i+1) 12 (appG i v3 (zi (zj 12 n.zq) 0)),.box v2.zq,.arr 1 12 (zj 12 n.zq)]))))) (.R [.agg v1] [.box v1,.box v1,.arr c.days.length 1 (Con.dayG c.days),.arr i 12 v3])) ?_;simp only [Tree.holds,ze,inR,lo,hi,Int.toNat_natCast];have hlb:=Con.JP c.sub;refine⟨λhlt=> ?_,λhge=> ?_⟩
  ·have hlt:i<c.sub.length:=by have:=of_decide_eq_true hlt; omega
   have g1:=Con.wT hlt;have g2:=Con.Wn hlt;rw [Con.vV] at h1;refine⟨by omega,λ_=>⟨c.sub.getD i Con.nil,⟨⟨j7 _,trivial⟩,by omega,by omega⟩,⟨(),trivial⟩,λ_ _=> ?_⟩⟩;refine⟨⟨trivial,Nat.le_refl _,by omega⟩,λ_=>⟨by omega,λ_=> ?_⟩⟩;rw [if_pos trivial];refine⟨⟨i+1,hlt⟩,by show c.sub.length - (i+1)<c.sub.length - i; omega,by simp [STc,Con.conS,za],?_,by kernel_rfl,Nat.zero_le _⟩;refine⟨?_,?_,⟨rfl,rfl,za _ _ _⟩,⟨rfl,rfl,zgg⟩,trivial⟩
   ·simp [BTc,Con.conS,za]
   ·simp [BTz]
  ·have hge:i=c.sub.length:=by have:=of_decide_eq_false hge; omega
   subst hge;exact hR _ rfl rfl
theorem Va(n sz:Nat)(g:Nat->Nat->AV):eqG n sz (zi g 0) g:=λj o _ _=>by simp [zi]
theorem zu5{C:Ctr}{Q:AV×Heap->Prop}{c:Con}{h:Heap}(hC:C.fresh=false)(h2:h[2]?=some (.arr c.days.length 1 (Con.dayG c.days)))(h3:h[3]?=some (.arr c.sub.length 12 (Con.conG c.sub)))(hq:Q (c.conD,[])):RetR C 0 Q (RTc c) h:=by
 refine RetR.out0 hq (λh=>by rw [hC] at h; cases h) ?_;simp only [RTc,Con.outD,resV,exp2,exp1,List.map_cons,List.map_nil,exp0,ren0,zO,frz1,jZ,h2,h3,eqA2,eqA,eqL0,eqA0,Con.conD,Con.dayS,Ex.exS,true_and,and_true];simp only [if_true];exact⟨Ex.qj _,⟨trivial,trivial,Va _ _ _⟩,trivial,trivial,λj o hj ho=>by have:=Con.qj c j o hj ho; simpa [zi] using this.symm⟩
theorem zq2(n:Nat)(ih:zd Tryz.prog 69 (Wh n)):zd Tryz.prog 69 (Wh (n+1)):=by
 refine zh (fn:=Tryz.f69) (c:=Tryz.f69.body.getD .skip) rfl rfl rfl λc hx O w0 Q hq=> ?_
 exact zpd n ih c hx.1 hx.2 λh a b=>zu5 rfl a b (hq () trivial)
def UM:Ctr:=ctrP false (λc:Con=>[c.conA]) (λc=>c.big<2^38) (λ_ (_:Unit)=>True) (λc _=>(c.conD,[]))
theorem zv8:zd Tryz.prog 69 UM:=vE Con.nodes zq2
noncomputable def K53:List Go.Sx.Item:=[.code (Tryz.f53.body.getD .skip)]
def opC:Ctr:=ctrP false (λp:Int×List Ex=>[.int .u8 p.1,Ex.exS p.2]) (λ_=>True) (λ_ (_:Unit)=>True) (λp _=>(exD (Tm.opx p.1 p.2),[]))
def konC:Ctr:=ctrP false (λr:L8=>[.str r]) (λ_=>True) (λ_ (_:Unit)=>True) (λr _=>(exD (Tm.kon r),[]))
theorem zvc:zd Tryz.prog 36 opC:=by
 refine zh (fn:=Tryz.f36) (c:=Tryz.f36.body.getD .skip) rfl rfl rfl λp hp O w0 Q hq=> ?_
 obtain⟨k,s⟩:=p;replace hq:=hq () trivial;refine zc.n zu [] (.R [.agg [.int .u8 k,.str #[].toList,.str #[].toList,.i 0,.sl s.length 5 (Ex.exG s)]] [.box [.int .u8 k,.str #[].toList,.str #[].toList,.i 0,.sl s.length 5 (Ex.exG s)]]) ?_;simp only [Tree.holds,ze];refine RetR.out0 hq (λh=>by cases h) ?_;exact⟨⟨rfl,rfl⟩,rfl,rfl,⟨rfl,rfl⟩,⟨rfl,rfl,λj o hj ho=>(Ex.qj (Tm.opx k s) j o hj ho).symm⟩,trivial⟩
theorem zaj:zd Tryz.prog 38 konC:=by
 refine zh (fn:=Tryz.f38) (c:=Tryz.f38.body.getD .skip) rfl rfl rfl λr hp O w0 Q hq=> ?_
 replace hq:=hq () trivial;refine zc.n zu [] (.R [.agg [.int .u8 1,.str r,.str #[].toList,.i 0,.nils]] [.box [.int .u8 1,.str r,.str #[].toList,.i 0,.nils]]) ?_;simp only [Tree.holds,ze];refine RetR.out0 hq (λh=>by cases h) ?_;exact⟨⟨rfl,rfl⟩,rfl,rfl,⟨rfl,rfl⟩,rfl,trivial⟩
noncomputable def YQ:Ctr:=inlC Tryz.prog noG 100 Tryz.f67
theorem Zn:zd Tryz.prog 67 YQ:=Qt hmix zu rfl rfl
noncomputable def GTnu:=tb uk (tb Zn tz)
def SNu(l:List L8)(i:Nat):KV:=[(0,.ptr 0 0),(6,.osl 1 1 0 l.length),(7,.i (l.length:Int)),(8,.i (i:Int))]
def Xe:Ctr:=ctrT false false (λp:Deal×Int×List (L8)=>[.ptr 0 0,.osl 1 1 0 p.2.2.length]) (λp=>[.box (p.1.cells p.2.1),.arr p.2.2.length 1 (ratG p.2.2)]) (λp=>p.2.2.length<2^40/\∀ r∈p.2.2,r.length<2^40) (λ_ (_:Unit)=>True) (λp _=>(.tup [],[.box (p.1.cells (Tm.first p.2.1 p.2.2)),.arr p.2.2.length 1 (ratG p.2.2)]))
theorem VA:zd Tryz.prog 53 Xe:=by
 refine zA (fn:=Tryz.f53) (c:=Tryz.f53.body.getD .skip) rfl rfl rfl (λh=>by cases h) λp hp O w0 I0 Q hl0 hq=> ?_
 obtain⟨t,e,l⟩:=p;obtain⟨hl,hr⟩:=hp;replace hq:=hq () trivial;simp only at hl hr hq;refine zc.n GTnu.h [0,6,7,8] (.leaf (.loop (lps K53 0).1 (lps K53 0).2 [(0,.ptr 0 0),(6,.osl 1 1 0 l.length),(7,.i l.length),(8,.i 0)] [.box [.i e,.str t.long,.str t.short,.str t.ccy,.str t.name,.str t.zb,.str t.zg],.arr l.length 1 (ratG l)])) ?_;simp only [Tree.holds,ze,inR,lo,hi,Int.toNat_natCast];show jI none Tryz.prog Tryz.f53 O 2 w0 I0 _ _ _ _;refine zc.loop (ι:={i:Nat // i<=l.length}) (λi=>SNu l i.1) (λi=>[.box (t.cells (Tm.first e (l.take i.1))),.arr l.length 1 (ratG l)]) (λi=>l.length - i.1) ⟨0,Nat.zero_le _⟩ 0 ?_ ?_ (by kernel_rfl)
 ·exact⟨by simp [SNu],by simp [Deal.cells,Tm.first,za],by kernel_rfl,Nat.le_refl _⟩
 ·rintro⟨i,hil⟩;obtain⟨e',he'⟩:∃ e',Tm.first e (l.take i)=e':=⟨_,rfl⟩;simp only [he'];refine zc.n GTnu.h [0,6,7,8] (let v3:=inR .i64 (i+1);let v2:List (Nat×AV):=[(0,.ptr 0 0),(6,.osl 1 1 0 l.length),(7,.i l.length),(8,.i (i+1))];let v1:List Blk:=[.box [.i e',.str t.long,.str t.short,.str t.ccy,.str t.name,.str t.zb,.str t.zg],.arr l.length 1 (ratG l)];.D ((i:Int)<l.length) (.side ((0:Int)<=i/\(i:Int)<l.length) (.ex (q15 [.str (l.getD (0+Int.toNat i) [])]) λn=>.all (λ(r:Int)=>r=errR n) λn=>.D (e'=(0:Int)) (.side v3 (.leaf (.back 0 v2 [.box [.i n,.str t.long,.str t.short,.str t.ccy,.str t.name,.str t.zb,.str t.zg],.arr l.length 1 (ratG l)]))) (.side v3 (.leaf (.back 0 v2 v1))))) (.R [] v1)) ?_;simp only [q15,Tree.holds,ze,inR,lo,hi,Int.toNat_natCast];refine⟨λhlt=> ?_,λhge=> ?_⟩
  ·have hlt:i<l.length:=by have:=of_decide_eq_true hlt; omega
   have ht:=Tm.Wk (e:=e) hlt;rw [he'] at ht;have hrl:=hr (l.getD i []) (by simp [List.getD,hlt]);refine⟨by omega,λ_=>⟨l.getD i [],⟨by simp,by omega⟩,⟨_,rfl⟩,?_⟩⟩;rintro _ rfl;refine⟨λh=>⟨by omega,λ_=> ?_⟩,λh=>⟨by omega,λ_=> ?_⟩⟩
   ·rw [if_pos (of_decide_eq_true h)] at ht;rw [if_pos trivial];exact⟨⟨i+1,hlt⟩,by show l.length - (i+1)<l.length - i; omega,by simp [SNu],by simp [Deal.cells,ht,za],by kernel_rfl,Nat.le_refl _⟩
   ·rw [if_neg (of_decide_eq_false h)] at ht;rw [if_pos trivial];exact⟨⟨i+1,hlt⟩,by show l.length - (i+1)<l.length - i; omega,by simp [SNu],by simp [Deal.cells,ht,za],by kernel_rfl,Nat.le_refl _⟩
  ·have hge:i=l.length:=by have:=of_decide_eq_false hge; omega
   rw [hge,List.take_length] at he';rw [he'] at hq;exact RetR.keep [0,1] rfl rfl (by show ∀ j,j<2->_; decide) rfl hq (by simp [resV,exp2,exp1,exp0,ren0,eqA2,eqL1]) (by simp [expH,expB,exp1,exp0,ren0,Deal.cells,za]) rfl
def zr8:Ctr:=ctrT false false (λp:Deal×Int=>[.ptr 0 0]) (λp=>[.box (p.1.cells p.2)]) (λ_=>True) (λ_ (_:Unit)=>True) (λp _=>(exD (Tm.spot p.1.name),[.box (p.1.cells p.2)]))
theorem zoq:zd Tryz.prog 37 zr8:=by
 refine zA (fn:=Tryz.f37) (c:=Tryz.f37.body.getD .skip) rfl rfl rfl (λh=>by cases h) λp hp O w0 I0 Q hl0 hq=> ?_
 obtain⟨t,e⟩:=p;replace hq:=hq () trivial;refine zc.n zu [] (let v1:List AV:=[.int .u8 3,.str #[].toList,.str t.name,.i 0,.nils];.R [.agg v1] [.box [.i e,.str t.long,.str t.short,.str t.ccy,.str t.name,.str t.zb,.str t.zg],.box v1]) ?_;simp only [Tree.holds,ze];refine RetR.keep [0] rfl rfl (by show ∀ j,j<1->_; decide) rfl hq ?_ (by simp [expH,expB,exp1,exp0,ren0,Deal.cells]) rfl;exact⟨⟨rfl,rfl⟩,rfl,rfl,⟨rfl,rfl⟩,rfl,trivial⟩
noncomputable def opI:Ctr:=inlC Tryz.prog noG 100 Tryz.f36
theorem zt2:zd Tryz.prog 36 opI:=Qt hmix zu rfl rfl
noncomputable def GPt:=tb zt2 (tb zaj tz)
def zre:Ctr:=ctrT false false (λp:Deal×Int×Ex×Bool=>[.ptr 0 0,p.2.2.1.exA,.bool p.2.2.2]) (λp=>[.box (p.1.cells p.2.1)]) (λ_=>True) (λ_ (_:Unit)=>True) (λp _=>(exD (Tm.over p.1.zb p.2.2.1 p.2.2.2),[.box (p.1.cells p.2.1)]))
theorem zqh:zd Tryz.prog 39 zre:=by
 refine zA (fn:=Tryz.f39) (c:=Tryz.f39.body.getD .skip) rfl rfl rfl (λh=>by cases h) λp hp O w0 I0 Q hl0 hq=> ?_
 obtain⟨t,e,x,b⟩:=p;replace hq:=hq () trivial;simp only at hq;refine zc.n GPt.h [] (let v7:=q33 [.str #[(48:UInt8)].toList];let v6:List AV:=[.int .u8 5,.str #[].toList,.str #[].toList,.i 0,.osl 4 5 0 2];let v5:List AV:=[.int .u8 x.kind,.str x.rat,.str x.name,.i x.date,.sl x.sub.length 5 (Ex.exG x.sub)];let v2:List AV:=[.i e,.str t.long,.str t.short,.str t.ccy,.str t.name,.str t.zb,.str t.zg];let v1:List AV:=[.int .u8 7,.str #[].toList,.str #[].toList,.i 0,.osl 6 5 0 2];.ex (q33 [.str t.zb]) λn=>let v13:=List.length (Ex.sub (Tm.kon n));let v8:=Ex.cellsD (Tm.kon n);let v4:=zj 5 [.int .u8 x.kind,.str x.rat,.str x.name,.i x.date,.sl x.sub.length 5 (Ex.exG x.sub),.int .u8 (Ex.kind (Tm.kon n)),.str (Ex.rat (Tm.kon n)),.str (Ex.name (Tm.kon n)),.i (Ex.date (Tm.kon n)),.sl v13 5 (Ex.deep (Tm.kon n))];let v3:=zj 5 [.int .u8 (Ex.kind (Tm.kon n)),.str (Ex.rat (Tm.kon n)),.str (Ex.name (Tm.kon n)),.i (Ex.date (Tm.kon n)),.sl v13 5 (Ex.deep (Tm.kon n)),.int .u8 x.kind,.str x.rat,.str x.name,.i x.date,.sl x.sub.length 5 (Ex.exG x.sub)];.A λn_1=>.ite b (.all (λ(x:Bool)=>True) λn_2=>.ite n_2 (.ex v7 λn_3=>let v9:=Tm.kon n_3;.A λn_4=>.R [.agg v1] [.box v2,.box v8,.box v1,.box v5,.arr 2 5 v3,.box v6,.box [.int .u8 (Ex.kind v9),.str (Ex.rat v9),.str (Ex.name v9),.i (Ex.date v9),.sl (List.length (Ex.sub v9)) 5 (Ex.deep v9),.int .u8 5,.str #[].toList,.str #[].toList,.i 0,.osl 4 5 0 2],.box v1]) (.ex v7 λn_3=>let v10:=Tm.kon n_3;.A λn_4=>.R [.agg v1] [.box v2,.box v8,.box v1,.box v5,.arr 2 5 v3,.box v6,.box [.int .u8 (Ex.kind v10),.str (Ex.rat v10),.str (Ex.name v10),.i (Ex.date v10),.sl (List.length (Ex.sub v10)) 5 (Ex.deep v10),.int .u8 5,.str #[].toList,.str #[].toList,.i 0,.osl 4 5 0 2],.box v1])) (.all (λ(x:Bool)=>True) λn_2=>.ite n_2 (.ex v7 λn_3=>let v11:=Tm.kon n_3;.A λn_4=>.R [.agg v1] [.box v2,.box v5,.box v1,.box v8,.arr 2 5 v4,.box v6,.box [.int .u8 (Ex.kind v11),.str (Ex.rat v11),.str (Ex.name v11),.i (Ex.date v11),.sl (List.length (Ex.sub v11)) 5 (Ex.deep v11),.int .u8 5,.str #[].toList,.str #[].toList,.i 0,.osl 4 5 0 2],.box v1]) (.ex v7 λn_3=>let v12:=Tm.kon n_3;.A λn_4=>.R [.agg v1] [.box v2,.box v5,.box v1,.box v8,.arr 2 5 v4,.box v6,.box [.int .u8 (Ex.kind v12),.str (Ex.rat v12),.str (Ex.name v12),.i (Ex.date v12),.sl (List.length (Ex.sub v12)) 5 (Ex.deep v12),.int .u8 5,.str #[].toList,.str #[].toList,.i 0,.osl 4 5 0 2],.box v1]))) ?_;simp only [q33,Tree.holds,ze];refine⟨t.zb,⟨⟨rfl,trivial⟩,trivial⟩,⟨(),trivial⟩,λ_ _=>⟨λh=> ?_,λh=> ?_⟩⟩
 ·subst h;refine⟨⟨true,trivial⟩,λ_ _=>⟨λ_=> ?_,λ_=> ?_⟩⟩
  all_goals
   refine⟨[48],⟨⟨rfl,trivial⟩,trivial⟩,⟨(),trivial⟩,λ_ _=> ?_⟩;exact RetR.kF [0] rfl rfl (by show ∀ j,j<1->_; decide) rfl hq (LeA.agg ⟨LeA.refl _,LeA.refl _,LeA.refl _,LeA.refl _,Ex.yJ (x:=Tm.kon [48]) (y:=Tm.opx 5 [Tm.kon t.zb,x]) ⟨LeA.refl _,LeA.refl _,LeA.refl _,LeA.refl _,LeA.refl _,LeA.refl _,LeA.refl _,LeA.refl _,LeA.refl _,Ex.yJ ⟨LeA.refl _,LeA.refl _,LeA.refl _,LeA.refl _,LeA.refl _,LeA.refl _,LeA.refl _,LeA.refl _,LeA.refl _,Ex.xW x,trivial⟩,trivial⟩,trivial⟩) (by simp [expH,expB,exp1,exp0,ren0,Deal.cells]) rfl
 ·subst h;refine⟨⟨true,trivial⟩,λ_ _=>⟨λ_=> ?_,λ_=> ?_⟩⟩
  all_goals
   refine⟨[48],⟨⟨rfl,trivial⟩,trivial⟩,⟨(),trivial⟩,λ_ _=> ?_⟩;exact RetR.kF [0] rfl rfl (by show ∀ j,j<1->_; decide) rfl hq (LeA.agg ⟨LeA.refl _,LeA.refl _,LeA.refl _,LeA.refl _,Ex.yJ (x:=Tm.kon [48]) (y:=Tm.opx 5 [x,Tm.kon t.zb]) ⟨LeA.refl _,LeA.refl _,LeA.refl _,LeA.refl _,LeA.refl _,LeA.refl _,LeA.refl _,LeA.refl _,LeA.refl _,Ex.yJ ⟨LeA.refl _,LeA.refl _,LeA.refl _,LeA.refl _,Ex.xW x,LeA.refl _,LeA.refl _,LeA.refl _,LeA.refl _,LeA.refl _,trivial⟩,trivial⟩,trivial⟩) (by simp [expH,expB,exp1,exp0,ren0,Deal.cells]) rfl
def payC:Ctr:=ctrT false false (λp:Deal×Int×Ex×L8=>[.ptr 0 0,p.2.2.1.exA,.str p.2.2.2]) (λp=>[.box (p.1.cells p.2.1)]) (λ_=>True) (λ_ (_:Unit)=>True) (λp _=>((Tm.pay p.1 p.2.2.1 p.2.2.2).conD,[.box (p.1.cells p.2.1)]))
theorem zti:zd Tryz.prog 35 payC:=by
 refine zA (fn:=Tryz.f35) (c:=Tryz.f35.body.getD .skip) rfl rfl rfl (λh=>by cases h) λp hp O w0 I0 Q hl0 hq=> ?_
 obtain⟨t,e,x,r⟩:=p;replace hq:=hq () trivial;simp only at hq;refine zc.n GPt.h [] (let v1:List AV:=[.int .u8 2,.str t.short,.str t.long,.str t.ccy,.int .u8 6,.str #[].toList,.str #[].toList,.i 0,.osl 3 5 0 2,.i 0,.nils,.nils];.ex (q33 [.str r]) λn=>.A λn_1=>.R [.agg v1] [.box [.i e,.str t.long,.str t.short,.str t.ccy,.str t.name,.str t.zb,.str t.zg],.box [.int .u8 x.kind,.str x.rat,.str x.name,.i x.date,.sl x.sub.length 5 (Ex.exG x.sub)],.box v1,.arr 2 5 (zj 5 [.int .u8 x.kind,.str x.rat,.str x.name,.i x.date,.sl x.sub.length 5 (Ex.exG x.sub),.int .u8 (Ex.kind (Tm.kon n)),.str (Ex.rat (Tm.kon n)),.str (Ex.name (Tm.kon n)),.i (Ex.date (Tm.kon n)),.sl (List.length (Ex.sub (Tm.kon n))) 5 (Ex.deep (Tm.kon n))]),.box [.int .u8 6,.str #[].toList,.str #[].toList,.i 0,.osl 3 5 0 2]]) ?_;simp only [q33,Tree.holds,ze];refine⟨r,⟨⟨rfl,trivial⟩,trivial⟩,⟨(),trivial⟩,λ_ _=> ?_⟩;exact RetR.kF [0] rfl rfl (by show ∀ j,j<1->_; decide) rfl hq (LeA.agg ⟨LeA.refl _,LeA.refl _,LeA.refl _,LeA.refl _,LeA.refl _,LeA.refl _,LeA.refl _,LeA.refl _,Ex.zom (x:=x) (y:=Tm.kon r) ⟨LeA.refl _,LeA.refl _,LeA.refl _,LeA.refl _,Ex.xW x,LeA.refl _,LeA.refl _,LeA.refl _,LeA.refl _,LeA.refl _,trivial⟩,LeA.refl _,LeA.nils,LeA.nils,trivial⟩) (by simp [expH,expB,exp1,exp0,ren0,Deal.cells]) rfl
def onC:Ctr:=ctrP false (λp:Int×Con=>[.i p.1,p.2.conA]) (λ_=>True) (λ_ (_:Unit)=>True) (λp _=>((Tm.at_ p.1 p.2).conD,[]))
theorem zv3:zd Tryz.prog 34 onC:=by
 refine zh (fn:=Tryz.f34) (c:=Tryz.f34.body.getD .skip) rfl rfl rfl λp hp O w0 Q hq=> ?_
 obtain⟨d,c⟩:=p;replace hq:=hq () trivial;simp only at hq;refine zc.n zu [] (let v1:List AV:=[.int .u8 6,.str #[].toList,.str #[].toList,.str #[].toList,.int .u8 0,.str #[].toList,.str #[].toList,.i 0,.nils,.i d,.nils,.osl 2 12 0 1];.R [.agg v1] [.box c.zf,.box v1,.arr 1 12 (zj 12 c.zf)]) ?_;simp only [Tree.holds,ze];exact RetR.le0 hq (λh=>by cases h) (LeA.agg ⟨LeA.refl _,LeA.refl _,LeA.refl _,LeA.refl _,LeA.refl _,LeA.refl _,LeA.refl _,LeA.refl _,LeA.nils,LeA.refl _,LeA.nils,Con.zo9 (e:=c) ⟨LeA.refl _,LeA.refl _,LeA.refl _,LeA.refl _,LeA.refl _,LeA.refl _,LeA.refl _,LeA.refl _,LeA.refl _,LeA.refl _,LeA.refl _,Con.xW c,trivial⟩,trivial⟩)
def opS:Ctr:={ opC with sinks:=true }
theorem zth:zd Tryz.prog 36 opS:=zvc.sink
def zs1:Ctr:={ zre with sinks:=true }
theorem ziv:zd Tryz.prog 39 zs1:=zqh.sink
def payS:Ctr:={ payC with sinks:=true }
theorem zcz:zd Tryz.prog 35 payS:=zti.sink
def onS:Ctr:={ onC with sinks:=true }
theorem zka:zd Tryz.prog 34 onS:=zv3.sink
def zsf:Ctr:={ UM with sinks:=true }
theorem zie:zd Tryz.prog 69 zsf:=zv8.sink
noncomputable def GBgn:=tb VA tz
noncomputable def zbk:Ctr:=inlC Tryz.prog GBgn.g 100 Tryz.f32
theorem VP:zd Tryz.prog 32 zbk:=Qt hmix GBgn.h rfl rfl
noncomputable def GDo1:=tb VG (tb zie (tb Zn tz))
noncomputable def zct:Ctr:=inlC Tryz.prog GDo1.g 100 Tryz.f33
theorem Ym:zd Tryz.prog 33 zct:=Qt hmix GDo1.h rfl rfl
noncomputable def GFw:=tb VP (tb Ym (tb zth (tb zaj (tb zoq (tb ziv (tb zcz (tb zka tz)))))))
theorem Xd(a b:L8):eqG 2 1 (zj 1 [.str a,.str b]) (ratG [a,b]):=by
 intro j o hj ho;rcases(show j=0\/j=1 by omega) with rfl | rfl<;>rcases(show o=0 by omega) with rfl<;>rfl
theorem Jg(e:Ex):eqA (exD e) e.exA:=by
 simp only [exD,Ex.exA,Ex.exS,eqA];exact⟨⟨rfl,rfl⟩,rfl,rfl,⟨rfl,rfl⟩,⟨rfl,rfl,Ex.qj e⟩,trivial⟩
theorem Zf{d:Deal}(h:Tm.fits d):∀ r∈[d.zb,d.zg],r.length<2^40:=by
 obtain⟨h1,h2,h3,h4,h5,h6⟩:=h;intro r hr;rcases List.mem_cons.1 hr with rfl | hr
 ·omega
 ·rcases List.mem_cons.1 hr with rfl | hr
  ·omega
  ·cases hr
theorem zero_eq{n:Int} : eqA2 (.tup [.agg [.int .u8 0,.str [],.str [],.str [],.int .u8 0,.str [],.str [],.i 0,.nils,.i 0,.nils,.nils],.i n]) (.tup [Tm.zero.conD,.i n]):=by
 simp [eqA2,eqL1,Tm.zero,Con.conD,Con.outD,Con.dayS,Ex.exS,Con.kind,Con.src,Con.dst,Con.name,Con.x,Con.date,Con.days,Con.sub,Ex.kind,Ex.rat,Ex.name,Ex.date,Ex.sub]
def JO:Ctr:=ctrP false (λp:Deal×Int=>[p.1.av,.i p.2]) (λp=>Tm.fits p.1) (λp (_:Unit)=>True) (λp _=>(.tup [(Tm.out (Tm.res p.1 (Tm.fwd p.1 p.2)) (Tm.fwd p.1 p.2)).conD,.i (Tm.res p.1 (Tm.fwd p.1 p.2))],[]))
theorem Yl{d:Deal}{c:Con}{Q:AV×Heap->Prop}(hq:Q (.tup [(Tm.out (Tm.res d c) c).conD,.i (Tm.res d c)],[]))(h:¬ Tm.first 0 [d.zb,d.zg]=0):Q (.tup [Tm.zero.conD,.i (Tm.first 0 [d.zb,d.zg])],[]):=by
 unfold Tm.res Tm.out at hq;rw [if_neg h,if_neg h] at hq;exact hq
theorem UD{d:Deal}{c:Con}{Q:AV×Heap->Prop}(hq:Q (.tup [(Tm.out (Tm.res d c) c).conD,.i (Tm.res d c)],[]))(h:Tm.first 0 [d.zb,d.zg]=0)(hc:¬ c.errC=0):Q (.tup [Tm.zero.conD,.i c.errC],[]):=by
 unfold Tm.res Tm.out at hq;rw [if_pos h,if_neg hc] at hq;exact hq
theorem zf2{d:Deal}{c:Con}{Q:AV×Heap->Prop}(hq:Q (.tup [(Tm.out (Tm.res d c) c).conD,.i (Tm.res d c)],[]))(h:Tm.first 0 [d.zb,d.zg]=0)(hc:c.errC=0):Q (.tup [c.conD,.i 0],[]):=by
 unfold Tm.res Tm.out at hq;rw [if_pos h,if_pos hc,hc] at hq;exact hq
abbrev q64(A:List AV)(x:Con):Prop:=eqL A [(Con.conA x)]/\Con.big x<274877906944
abbrev q63(A:List AV)(x:Int×Con):Prop:=eqL A [.i x.1,(Con.conA x.2)]/\True
abbrev q62(A:List AV)(H:Heap)(x:Deal×Int×Ex×L8):Prop:=eqL A [.ptr 0 0,x.2.2.1.exA,.str x.2.2.2]/\eqH H [.box [.i x.2.1,.str x.1.long,.str x.1.short,.str x.1.ccy,.str x.1.name,.str x.1.zb,.str x.1.zg]]/\1=1/\True
abbrev q61(A:List AV)(H:Heap)(x:Deal×Int):Prop:=eqL A [.ptr 0 0]/\eqH H [.box [.i x.2,.str x.1.long,.str x.1.short,.str x.1.ccy,.str x.1.name,.str x.1.zb,.str x.1.zg]]/\1=1/\True
theorem Wi:zd Tryz.prog 12 JO:=by
 refine zh (fn:=Tryz.f12) (c:=Tryz.f12.body.getD .skip) rfl rfl rfl λp hp O w0 Q hq=> ?_
 obtain⟨d,day⟩:=p;replace hq:=hq () trivial;replace hp:Tm.fits d:=hp;simp only at hq;have hbig:=Tm.zd4 (day:=day) hp;refine zc.n GFw.h [] (let v2:List AV:=[.str d.long,.str d.short,.str d.ccy,.str d.name,.str d.zb,.str d.zg];let v1:List AV:=[.int .u8 0,.str #[].toList,.str #[].toList,.str #[].toList,.int .u8 0,.str #[].toList,.str #[].toList,.i 0,.nils,.i 0,.nils,.nils];.ex (λ(x:Deal×Int×List L8)=>eqL [.ptr 0 0,.osl 1 1 0 2] [.ptr 0 0,.osl 1 1 0 x.2.2.length]/\eqH [.box [.i 0,.str d.long,.str d.short,.str d.ccy,.str d.name,.str d.zb,.str d.zg],.arr 2 1 (zj 1 [.str d.zb,.str d.zg])] [.box [.i x.2.1,.str x.1.long,.str x.1.short,.str x.1.ccy,.str x.1.name,.str x.1.zb,.str x.1.zg],.arr x.2.2.length 1 (ratG x.2.2)]/\2=2/\x.2.2.length<1099511627776/\∀ (r:L8),r∈x.2.2->r.length<1099511627776) λn=>let v9:=ratG n.2.2;.A λn_1=>.ex (q61 [.ptr 0 0] [.box [.i (Tm.first n.2.1 n.2.2),.str n.1.long,.str n.1.short,.str n.1.ccy,.str n.1.name,.str n.1.zb,.str n.1.zg]]) λn_2=>let v7:=Tm.spot n_2.1.name;.A λn_3=>.ex (q33 [.str d.zb]) λn_4=>let v8:=Tm.kon n_4;.A λn_5=>.ex (λ(x:Int×List Ex)=>eqL [.int .u8 5,.sl 2 5 (zi (zj 5 [.int .u8 (Ex.kind v7),.str (Ex.rat v7),.str (Ex.name v7),.i (Ex.date v7),.sl (List.length (Ex.sub v7)) 5 (Ex.deep v7),.int .u8 (Ex.kind v8),.str (Ex.rat v8),.str (Ex.name v8),.i (Ex.date v8),.sl (List.length (Ex.sub v8)) 5 (Ex.deep v8)]) 0)] [.int .u8 x.1,.sl x.2.length 5 (Ex.exG x.2)]/\True) λn_6=>.A λn_7=>.ex (q62 [.ptr 0 0,(exD (Tm.opx n_6.1 n_6.2)),.str d.zg] [.box [.i n_2.2,.str n_2.1.long,.str n_2.1.short,.str n_2.1.ccy,.str n_2.1.name,.str n_2.1.zb,.str n_2.1.zg]]) λn_8=>let v3:List AV:=[.i n_8.2.1,.str n_8.1.long,.str n_8.1.short,.str n_8.1.ccy,.str n_8.1.name,.str n_8.1.zb,.str n_8.1.zg];.A λn_9=>.ex (q63 [.i day,(Con.conD (Tm.pay n_8.1 n_8.2.2.1 n_8.2.2.2))]) λn_10=>let v4:=Tm.at_ n_10.1 n_10.2;let v10:=q64 [v4.conD];let v6:qc:=.ret [.agg v1,.i n_8.2.1] [.box v2,.box v1,.box v2,.box v3,.arr n.2.2.length 1 v9,.dead,.box v4.zq,.box v1];.A λn_11=>.D (n_8.2.1=0) (.ex (q56 [v4.conD]) λn_12=>.all (λ(r:Int)=>r=Con.errC n_12) λn_13=>let v5:List AV:=[.i n_13,.str n_8.1.long,.str n_8.1.short,.str n_8.1.ccy,.str n_8.1.name,.str n_8.1.zb,.str n_8.1.zg];.D (n_8.2.1=0) (.N (n_13=0) (.R [.agg v1,.i n_13] [.box v2,.box v1,.box v2,.box v5,.arr n.2.2.length 1 v9,.dead,.box v4.zq,.box v1]) (.ex v10 λn_14=>.A λn_15=>.R [n_14.conD,.i 0] [.box v2,.box n_14.zq,.box v2,.box v5,.arr n.2.2.length 1 v9,.dead,.box v4.zq,.box n_14.zq])) (.N (n_8.2.1=0) (.leaf v6) (.ex v10 λn_14=>.A λn_15=>.R [n_14.conD,.i 0] [.box v2,.box n_14.zq,.box v2,.box v3,.arr n.2.2.length 1 v9,.dead,.box v4.zq,.box n_14.zq]))) (.N (n_8.2.1=0) (.leaf v6) (.ex v10 λn_12=>.A λn_13=>.R [n_12.conD,.i 0] [.box v2,.box n_12.zq,.box v2,.box v3,.arr n.2.2.length 1 v9,.dead,.box v4.zq,.box n_12.zq]))) ?_;simp only [q33,q56,q61,q62,q63,q64,Tree.holds,ze];refine⟨(d,0,[d.zb,d.zg]),⟨by simp,by simp [Deal.cells,Xd],trivial,by show 2<2^40; decide,Zf hp⟩,⟨(),trivial⟩,λ_ _=> ?_⟩;refine⟨(d,Tm.first 0 [d.zb,d.zg]),⟨by simp,by simp [Deal.cells],trivial,trivial⟩,⟨(),trivial⟩,λ_ _=> ?_⟩;refine⟨d.zb,⟨by simp,trivial⟩,⟨(),trivial⟩,λ_ _=> ?_⟩;refine⟨(5,[Tm.spot d.name,Tm.kon d.zb]),⟨⟨⟨rfl,rfl⟩,⟨rfl,rfl,Ex.X2 _ _⟩,trivial⟩,trivial⟩,⟨(),trivial⟩,λ_ _=> ?_⟩;refine⟨(d,Tm.first 0 [d.zb,d.zg],Tm.opx 5 [Tm.spot d.name,Tm.kon d.zb],d.zg),⟨⟨⟨rfl,rfl⟩,Jg _,rfl,trivial⟩,by simp [Deal.cells],trivial,trivial⟩,⟨(),trivial⟩,λ_ _=> ?_⟩;refine⟨(day,Tm.pay d (Tm.opx 5 [Tm.spot d.name,Tm.kon d.zb]) d.zg),⟨⟨⟨rfl,rfl⟩,j7 _,trivial⟩,trivial⟩,⟨(),trivial⟩,λ_ _=> ?_⟩;obtain⟨c,hc⟩:∃ c,Tm.fwd d day=c:=⟨_,rfl⟩;have hn:c.nodes<=1000000:=by rw [<- hc]; show(Tm.fwd d day).nodes<=_; simp [Tm.fwd,Tm.at_,Tm.pay,Con.nodes,Con.z9]
 change (_->∃ n_12,_)/\_;simp only [<- show Tm.fwd d day=Tm.at_ day (Tm.pay d (Tm.opx 5 [Tm.spot d.name,Tm.kon d.zb]) d.zg) from rfl];rw [hc] at hq hbig;simp only [hc];have hq1:=Yl hq;have hq2:=UD hq;have hq3:=zf2 hq;clear hq;generalize Tm.first 0 [d.zb,d.zg]=e at hq1 hq2 hq3 ⊢;refine⟨λh=> ?_,λh=> ?_⟩
 ·have he:=of_decide_eq_true h;refine⟨c,⟨⟨j7 c,trivial⟩,by omega,hn⟩,⟨_,rfl⟩,?_⟩;rintro _ rfl;refine⟨λ_=>⟨λh1=> ?_,λh1=> ?_⟩,λh1=>absurd (h.symm.trans h1) (by decide)⟩
  ·exact RetR.out0 (hq2 he (by simpa using h1)) (λh=>by cases h) zero_eq
  ·refine⟨c,⟨⟨j7 c,trivial⟩,by omega⟩,⟨(),trivial⟩,λ_ _=> ?_⟩;exact RetR.le0 (hq3 he (by simpa using h1)) (λh=>by cases h) (LeA.refl _)
 ·have he:=of_decide_eq_false h;refine⟨λ_=>RetR.out0 (hq1 he) (λh=>by cases h) zero_eq,λh1=>absurd h1 (by simp [he])⟩
def zcv:Ctr:=ctrP false (λp:Deal×Int×Bool=>[p.1.av,.i p.2.1,.bool p.2.2]) (λp=>Tm.fits p.1) (λp (_:Unit)=>True) (λp _=>(.tup [(Tm.out (Tm.res p.1 (Tm.pff p.1 p.2.1 p.2.2)) (Tm.pff p.1 p.2.1 p.2.2)).conD,.i (Tm.res p.1 (Tm.pff p.1 p.2.1 p.2.2))],[]))
theorem zhi:zd Tryz.prog 13 zcv:=by
 refine zh (fn:=Tryz.f13) (c:=Tryz.f13.body.getD .skip) rfl rfl rfl λp hp O w0 Q hq=> ?_
 obtain⟨d,day,put⟩:=p;replace hq:=hq () trivial;replace hp:Tm.fits d:=hp;simp only at hq;have hbig:=Tm.XV (day:=day) (put:=put) hp;refine zc.n GFw.h [] (let v2:List AV:=[.str d.long,.str d.short,.str d.ccy,.str d.name,.str d.zb,.str d.zg];let v1:List AV:=[.int .u8 0,.str #[].toList,.str #[].toList,.str #[].toList,.int .u8 0,.str #[].toList,.str #[].toList,.i 0,.nils,.i 0,.nils,.nils];.ex (λ(x:Deal×Int×List L8)=>eqL [.ptr 0 0,.osl 1 1 0 2] [.ptr 0 0,.osl 1 1 0 x.2.2.length]/\eqH [.box [.i 0,.str d.long,.str d.short,.str d.ccy,.str d.name,.str d.zb,.str d.zg],.arr 2 1 (zj 1 [.str d.zb,.str d.zg])] [.box [.i x.2.1,.str x.1.long,.str x.1.short,.str x.1.ccy,.str x.1.name,.str x.1.zb,.str x.1.zg],.arr x.2.2.length 1 (ratG x.2.2)]/\2=2/\x.2.2.length<1099511627776/\∀ (r:L8),r∈x.2.2->r.length<1099511627776) λn=>let v7:=ratG n.2.2;.A λn_1=>.ex (q61 [.ptr 0 0] [.box [.i (Tm.first n.2.1 n.2.2),.str n.1.long,.str n.1.short,.str n.1.ccy,.str n.1.name,.str n.1.zb,.str n.1.zg]]) λn_2=>.A λn_3=>.ex (λ(x:Deal×Int×Ex×Bool)=>eqL [.ptr 0 0,(exD (Tm.spot n_2.1.name)),.bool put] [.ptr 0 0,x.2.2.1.exA,.bool x.2.2.2]/\eqH [.box [.i n_2.2,.str n_2.1.long,.str n_2.1.short,.str n_2.1.ccy,.str n_2.1.name,.str n_2.1.zb,.str n_2.1.zg]] [.box [.i x.2.1,.str x.1.long,.str x.1.short,.str x.1.ccy,.str x.1.name,.str x.1.zb,.str x.1.zg]]/\1=1/\True) λn_4=>.A λn_5=>.ex (q62 [.ptr 0 0,(exD (Tm.over n_4.1.zb n_4.2.2.1 n_4.2.2.2)),.str d.zg] [.box [.i n_4.2.1,.str n_4.1.long,.str n_4.1.short,.str n_4.1.ccy,.str n_4.1.name,.str n_4.1.zb,.str n_4.1.zg]]) λn_6=>let v3:List AV:=[.i n_6.2.1,.str n_6.1.long,.str n_6.1.short,.str n_6.1.ccy,.str n_6.1.name,.str n_6.1.zb,.str n_6.1.zg];.A λn_7=>.ex (q63 [.i day,(Con.conD (Tm.pay n_6.1 n_6.2.2.1 n_6.2.2.2))]) λn_8=>let v4:=Tm.at_ n_8.1 n_8.2;let v8:=q64 [v4.conD];let v6:qc:=.ret [.agg v1,.i n_6.2.1] [.box v2,.box v1,.box v2,.box v3,.arr n.2.2.length 1 v7,.box v4.zq,.box v1];.A λn_9=>.D (n_6.2.1=0) (.ex (q56 [v4.conD]) λn_10=>.all (λ(r:Int)=>r=Con.errC n_10) λn_11=>let v5:List AV:=[.i n_11,.str n_6.1.long,.str n_6.1.short,.str n_6.1.ccy,.str n_6.1.name,.str n_6.1.zb,.str n_6.1.zg];.D (n_6.2.1=0) (.N (n_11=0) (.R [.agg v1,.i n_11] [.box v2,.box v1,.box v2,.box v5,.arr n.2.2.length 1 v7,.box v4.zq,.box v1]) (.ex v8 λn_12=>.A λn_13=>.R [n_12.conD,.i 0] [.box v2,.box n_12.zq,.box v2,.box v5,.arr n.2.2.length 1 v7,.box v4.zq,.box n_12.zq])) (.N (n_6.2.1=0) (.leaf v6) (.ex v8 λn_12=>.A λn_13=>.R [n_12.conD,.i 0] [.box v2,.box n_12.zq,.box v2,.box v3,.arr n.2.2.length 1 v7,.box v4.zq,.box n_12.zq]))) (.N (n_6.2.1=0) (.leaf v6) (.ex v8 λn_10=>.A λn_11=>.R [n_10.conD,.i 0] [.box v2,.box n_10.zq,.box v2,.box v3,.arr n.2.2.length 1 v7,.box v4.zq,.box n_10.zq]))) ?_;simp only [q56,q61,q62,q63,q64,Tree.holds,ze];refine⟨(d,0,[d.zb,d.zg]),⟨by simp,by simp [Deal.cells,Xd],trivial,by show 2<2^40; decide,Zf hp⟩,⟨(),trivial⟩,λ_ _=> ?_⟩;refine⟨(d,Tm.first 0 [d.zb,d.zg]),⟨by simp,by simp [Deal.cells],trivial,trivial⟩,⟨(),trivial⟩,λ_ _=> ?_⟩;refine⟨(d,Tm.first 0 [d.zb,d.zg],Tm.spot d.name,put),⟨⟨⟨rfl,rfl⟩,Jg _,rfl,trivial⟩,by simp [Deal.cells],trivial,trivial⟩,⟨(),trivial⟩,λ_ _=> ?_⟩;refine⟨(d,Tm.first 0 [d.zb,d.zg],Tm.over d.zb (Tm.spot d.name) put,d.zg),⟨⟨⟨rfl,rfl⟩,Jg _,rfl,trivial⟩,by simp [Deal.cells],trivial,trivial⟩,⟨(),trivial⟩,λ_ _=> ?_⟩;refine⟨(day,Tm.pay d (Tm.over d.zb (Tm.spot d.name) put) d.zg),⟨⟨⟨rfl,rfl⟩,j7 _,trivial⟩,trivial⟩,⟨(),trivial⟩,λ_ _=> ?_⟩;obtain⟨c,hc⟩:∃ c,Tm.pff d day put=c:=⟨_,rfl⟩;have hn:c.nodes<=1000000:=by rw [<- hc]; show(Tm.pff d day put).nodes<=_; simp [Tm.pff,Tm.at_,Tm.pay,Con.nodes,Con.z9]
 change (_->∃ n_12,_)/\_;simp only [<- show Tm.pff d day put=Tm.at_ day (Tm.pay d (Tm.over d.zb (Tm.spot d.name) put) d.zg) from rfl];rw [hc] at hq hbig;simp only [hc];have hq1:=Yl hq;have hq2:=UD hq;have hq3:=zf2 hq;clear hq;generalize Tm.first 0 [d.zb,d.zg]=e at hq1 hq2 hq3 ⊢;refine⟨λh=> ?_,λh=> ?_⟩
 ·have he:=of_decide_eq_true h;refine⟨c,⟨⟨j7 c,trivial⟩,by omega,hn⟩,⟨_,rfl⟩,?_⟩;rintro _ rfl;refine⟨λ_=>⟨λh1=> ?_,λh1=> ?_⟩,λh1=>absurd (h.symm.trans h1) (by decide)⟩
  ·exact RetR.out0 (hq2 he (by simpa using h1)) (λh=>by cases h) zero_eq
  ·refine⟨c,⟨⟨j7 c,trivial⟩,by omega⟩,⟨(),trivial⟩,λ_ _=> ?_⟩;exact RetR.le0 (hq3 he (by simpa using h1)) (λh=>by cases h) (LeA.refl _)
 ·have he:=of_decide_eq_false h;refine⟨λ_=>RetR.out0 (hq1 he) (λh=>by cases h) zero_eq,λh1=>absurd h1 (by simp [he])⟩
structure NumA where
 ok:Bool
 a:L8
 b:L8
def zs3:Ctr:=ctrT false false (λp:NumA=>[.ptr 0 0,.str p.a,.str p.b]) (λp=>[.box [.bool p.ok]]) (λp=>p.a.length<2^60/\p.b.length<2^60) (λ_ (_:Unit)=>True) (λp _=>(.str (mulR p.a p.b).1,[.box [.bool (p.ok&&decide ((mulR p.a p.b).2=0))]]))
def zrs:Ctr:=ctrT false false (λp:NumA=>[.ptr 0 0,.str p.a,.str p.b]) (λp=>[.box [.bool p.ok]]) (λp=>p.a.length<2^60/\p.b.length<2^60) (λ_ (_:Unit)=>True) (λp _=>(.str (subR p.a p.b).1,[.box [.bool (p.ok&&decide ((subR p.a p.b).2=0))]]))
def zs2:Ctr:=ctrT false false (λp:Bool×L8=>[.ptr 0 0,.str p.2]) (λp=>[.box [.bool p.1]]) (λp=>p.2.length<2^60) (λ_ (_:Unit)=>True) (λp _=>(.str (Tm.posR p.2),[.box [.bool (p.1&&decide ((cmpR p.2 [48]).2=0))]]))
noncomputable def GNmb:=tb yK (tb Jq (tb zf4 tz))
theorem zp2:zd Tryz.prog 15 zs3:=by
 refine zA (fn:=Tryz.f15) (c:=Tryz.f15.body.getD .skip) rfl rfl rfl (λh=>by cases h) λp hp O w0 I0 Q hl0 hq=> ?_
 obtain⟨ok,a,b⟩:=p;replace hq:=hq () trivial;simp only at hq hp;refine zc.n GNmb.h [] (.ex (q44 [.str a,.str b]) λn=>.all (λ(r:L8×Int)=>r=mulR n.1 n.2) λn=>.R [.str n.1] [.box [.bool (bif ok then decide (n.2=0) else false)]]) ?_;simp only [q44,Tree.holds,ze];refine⟨(a,b),⟨⟨rfl,rfl,trivial⟩,by show a.length<_; omega,by show b.length<_; omega⟩,⟨_,rfl⟩,?_⟩;rintro _ rfl;refine RetR.kF [0] rfl rfl (by show ∀ j,j<1->_; decide) rfl hq (LeA.refl _) ?_ rfl;cases ok<;>simp [expH,expB,exp1,exp0,ren0]
theorem zpe:zd Tryz.prog 16 zrs:=by
 refine zA (fn:=Tryz.f16) (c:=Tryz.f16.body.getD .skip) rfl rfl rfl (λh=>by cases h) λp hp O w0 I0 Q hl0 hq=> ?_
 obtain⟨ok,a,b⟩:=p;replace hq:=hq () trivial;simp only at hq hp;refine zc.n GNmb.h [] (.ex (q44 [.str a,.str b]) λn=>.all (λ(r:L8×Int)=>r=subR n.1 n.2) λn=>.R [.str n.1] [.box [.bool (bif ok then decide (n.2=0) else false)]]) ?_;simp only [q44,Tree.holds,ze];refine⟨(a,b),⟨⟨rfl,rfl,trivial⟩,by show a.length<_; omega,by show b.length<_; omega⟩,⟨_,rfl⟩,?_⟩;rintro _ rfl;refine RetR.kF [0] rfl rfl (by show ∀ j,j<1->_; decide) rfl hq (LeA.refl _) ?_ rfl;cases ok<;>simp [expH,expB,exp1,exp0,ren0]
theorem zq9:zd Tryz.prog 17 zs2:=by
 refine zA (fn:=Tryz.f17) (c:=Tryz.f17.body.getD .skip) rfl rfl rfl (λh=>by cases h) λp hp O w0 I0 Q hl0 hq=> ?_
 obtain⟨ok,a⟩:=p;replace hq:=hq () trivial;simp only at hq hp;refine zc.n GNmb.h [] (.ex (q44 [.str a,.str #[(48:UInt8)].toList]) λn=>.all (λ(r:Int×Int)=>r=cmpR n.1 n.2) λn=>let v1:List Blk:=[.box [.bool (bif ok then decide (n.2=0) else false)]];.D (n.1<0) (.R [.str #[(48:UInt8)].toList] v1) (.R [.str a] v1)) ?_;simp only [q44,Tree.holds,ze];refine⟨(a,[48]),⟨⟨rfl,rfl,trivial⟩,by show a.length<_; omega,by show(1:Nat)<_; omega⟩,⟨_,rfl⟩,?_⟩;rintro _ rfl;simp only;unfold Tm.posR at hq;refine⟨λg=> ?_,λg=> ?_⟩
 ·rw [if_pos (of_decide_eq_true g)] at hq;refine RetR.kF [0] rfl rfl (by show ∀ j,j<1->_; decide) rfl hq (LeA.refl _) ?_ rfl;cases ok<;>simp [expH,expB,exp1,exp0,ren0]
 ·rw [if_neg (of_decide_eq_false g)] at hq;refine RetR.kF [0] rfl rfl (by show ∀ j,j<1->_; decide) rfl hq (LeA.refl _) ?_ rfl;cases ok<;>simp [expH,expB,exp1,exp0,ren0]
def zee:Ctr:=ctrP true (λp:Int×(List Fx×List Ch)=>[.i p.1,envA p.2.1 p.2.2]) (λp=>envP p.2) (λp r=>r=(decide (0<=p.1)&&(decide (p.1<=99999)&&decide (errE p.2.1 p.2.2=0)))) (λ_ (r:Bool)=>(.bool r,[]))
noncomputable def GUs:=tb Qc tz
theorem zgq:zd Tryz.prog 11 zee:=by
 refine zh (fn:=Tryz.f11) (c:=Tryz.f11.body.getD .skip) rfl rfl rfl λp hp O w0 Q hq=> ?_
 obtain⟨day,f,h⟩:=p;replace hq:=hq _ rfl;simp only at hq hp;refine zc.n GUs.h [] (.ex (λ(x:List Fx×List Ch)=>(bif decide ((0:Int)<=day) then decide (day<=99999) else false)=true->q48 [.agg [.sl f.length 3 (fxG f),.sl h.length 4 (chG h)]] x) λn=>.all (λ(x:Int)=>(bif decide ((0:Int)<=day) then decide (day<=99999) else false)=true->x=errE n.1 n.2) λn=>.R [.bool (bif bif decide ((0:Int)<=day) then decide (day<=99999) else false then decide (n=0) else false)] [.box [.sl f.length 3 (fxG f),.sl h.length 4 (chG h)]]) ?_;simp only [q48,Tree.holds,ze];refine⟨(f,h),λ_=>⟨⟨⟨⟨rfl,rfl,λ_ _ _ _=>rfl⟩,⟨rfl,rfl,λ_ _ _ _=>rfl⟩,trivial⟩,trivial⟩,hp⟩,⟨_,λ_=>rfl⟩,λr hr=> ?_⟩;refine RetR.scal hq rfl ?_;simp only [resV];cases h1:decide (0<=day) with
 | false=>simp
 | true=>
  cases h2:decide (day<=99999) with
  | false=>simp
  | true=>
   rw [h1,h2] at hr;rw [hr rfl];simp
structure zw where
 c:Con
 d:Deal
 day:Int
 fr:Int
 f:List Fx
 h:List Ch
 known:Bool
 amt:L8
def zw.ok(p:zw):Prop:=FI.pre ⟨p.c,p.fr,100000,p.f,p.h⟩/\(p.day<p.fr->j3 p.c p.fr p.f p.h=([],0))/\(¬ p.day<p.fr->p.known=false->j3 p.c p.fr p.f p.h=([],30))/\(¬ p.day<p.fr->p.known=true->errR p.amt=0/\j3 p.c p.fr p.f p.h=(payF p.day p.d.short p.d.long p.d.ccy p.amt,0))
def zks:Ctr:=ctrP true (λp:zw=>[p.c.conA,p.d.av,.i p.day,.i p.fr,envA p.f p.h,.bool p.known,.str p.amt]) zw.ok (λ_ r=>r=true) (λ_ (r:Bool)=>(.bool r,[]))
noncomputable def GPaL:=tb JI (tb zad (tb Ul tz))
abbrev q66(A:List AV)(x:List Fl×List Fl):Prop:=eqL A [.sl x.1.length 5 (flG x.1),.sl x.2.length 5 (flG x.2)]/\x.1.length<1099511627776
abbrev q65(A:List AV)(x:FI):Prop:=eqL A [(Con.conA x.c),.i x.day,.agg [.sl x.f.length 3 (fxG x.f),.sl x.h.length 4 (chG x.h)]]/\FI.pre x
theorem zmg:zd Tryz.prog 18 zks:=by
 refine zh (fn:=Tryz.f18) (c:=Tryz.f18.body.getD .skip) rfl rfl rfl λp hp O w0 Q hq=> ?_
 obtain⟨c,d,day,fr,f,h,known,amt⟩:=p;obtain⟨p1,p2,p3,p4⟩:=hp;replace hq:=hq _ rfl;simp only at hq p1 p2 p3 p4;refine zc.n GPaL.h [] (let v1:List Blk:=[.box c.zf,.box [.str d.long,.str d.short,.str d.ccy,.str d.name,.str d.zb,.str d.zg],.box [.sl f.length 3 (fxG f),.sl h.length 4 (chG h)]];.ex (q65 [(Con.conA c),.i fr,.agg [.sl f.length 3 (fxG f),.sl h.length 4 (chG h)]]) λn=>.all (λ(r:List Fl×Int)=>r=j3 n.c n.day n.f n.h) λn=>.D (day<fr) (.R [.bool (bif decide (n.2=0) then decide ((↑n.1.length:Int)=0) else false)] v1) (.ite (!known) (.R [.bool (bif decide (n.2=30) then decide ((↑n.1.length:Int)=0) else false)] v1) (.ex (λ(x:Fl)=>decide (n.2=0)=true->eqL [.i day,.str d.short,.str d.long,.str d.ccy,.str amt] [.i x.date,.str x.src,.str x.dst,.str x.ccy,.str x.amt]/\errR x.amt=(0:Int)) λn_1=>let v2:=payF n_1.date n_1.src n_1.dst n_1.ccy n_1.amt;.all (λ(x:Unit)=>decide (n.2=0)=true->True) λn_2=>.ex (λ(x:List Fl×List Fl)=>decide (n.2=0)=true->q66 [.sl n.1.length 5 (flG n.1),.sl (List.length v2) 5 (flG v2)] x) λn_3=>.all (λ(x:Bool)=>decide (n.2=0)=true->(x=true↔n_3.1=n_3.2)) λn_4=>.R [.bool (bif decide (n.2=0) then n_4 else false)] v1))) ?_;simp only [q65,q66,Tree.holds,ze];refine⟨⟨c,fr,100000,f,h⟩,⟨⟨qI c,⟨rfl,rfl⟩,⟨⟨rfl,rfl,λ_ _ _ _=>rfl⟩,⟨rfl,rfl,λ_ _ _ _=>rfl⟩,trivial⟩,trivial⟩,p1⟩,⟨_,rfl⟩,?_⟩;rintro _ rfl;simp only;refine⟨λg=> ?_,λg=>⟨λk=> ?_,λk=> ?_⟩⟩
 ·have g:=of_decide_eq_true g;rw [p2 g];exact RetR.scal hq rfl rfl
 ·have g:=of_decide_eq_false g;have k:known=false:=by simpa using k
  rw [p3 g k];exact RetR.scal hq rfl rfl
 ·have g:=of_decide_eq_false g;have k:known=true:=by simpa using k
  obtain⟨q1,q2⟩:=p4 g k;rw [q2];have hl:=yu day d.short d.long d.ccy amt;refine⟨⟨day,d.short,d.long,d.ccy,amt⟩,λ_=>⟨⟨⟨rfl,rfl⟩,rfl,rfl,rfl,rfl,trivial⟩,q1⟩,⟨(),λ_=>trivial⟩,λ_ _=>⟨(payF day d.short d.long d.ccy amt,payF day d.short d.long d.ccy amt),λ_=>⟨⟨⟨rfl,rfl,λ_ _ _ _=>rfl⟩,⟨rfl,rfl,λ_ _ _ _=>rfl⟩,trivial⟩,by show(payF day d.short d.long d.ccy amt).length<_; omega⟩,⟨true,λ_=>by simp⟩,λr hr=> ?_⟩⟩;obtain rfl:r=true:=(hr rfl).2 rfl;exact RetR.scal hq rfl rfl
theorem Vc{A B:Prop}(ha:A)(hb:B):(∃ _:Bool,True)/\∀ n:Bool,True->(n=true->A)/\(n=false->B):=⟨⟨true,trivial⟩,λ_ _=>⟨λ_=>ha,λ_=>hb⟩⟩
theorem zgo(l:List Con)(k:Nat)(hk:k<=l.length):eqG k 12 (zi (Con.conG l) 0) (Con.conG (l.take k)):=by
 intro j o hj ho;simp [zi,Con.conG,List.getD,List.getElem?_take,hj]
theorem zfb(l:List Con)(k:Nat):eqG (l.length - k) 12 (zi (Con.conG l) k) (Con.conG (l.drop k)):=by
 intro j o hj ho;simp [zi,Con.conG,List.getD,List.getElem?_drop]
theorem Con.yJ{x y:Con}{k d:Int}{a b n:L8}{z:Ex}{l:List Int}{c:List AV}(h:LeL c (x.zq++y.zq)):LeA (.sl 2 12 (zi (zj 12 c) 0)) (.sl 2 12 (Con.mk k a b n z d l [x,y]).deep):=by
 refine LeA.sl rfl λj o hj ho=> ?_
 rw [Con.qj (Con.mk k a b n z d l [x,y]) j o (by show j<2; omega) ho];have:=LeL.dAt (j*12+o) h;simp only [zi,zj,Nat.zero_add];rcases(show j=0\/j=1 by omega) with rfl | rfl<;>rcases(show o=0\/o=1\/o=2\/o=3\/o=4\/o=5\/o=6\/o=7\/o=8\/o=9\/o=10\/o=11 by omega) with rfl | rfl | rfl | rfl | rfl | rfl | rfl | rfl | rfl | rfl | rfl | rfl<;>exact this
theorem zqk(x y:Con):LeA (.agg [.int .u8 3,.str [],.str [],.str [],.int .u8 0,.str [],.str [],.i 0,.nils,.i 0,.nils,.sl 2 12 (zi (zj 12 (x.zq++y.zq)) 0)]) (Tm.both x y).conD:=
 LeA.agg ⟨LeA.refl _,LeA.refl _,LeA.refl _,LeA.refl _,LeA.refl _,LeA.refl _,LeA.refl _,LeA.refl _,LeA.nils,LeA.refl _,LeA.nils,Con.yJ (LeL.refl _),trivial⟩
theorem zlz:LeA (.agg [.int .u8 1,.str [],.str [],.str [],.int .u8 0,.str [],.str [],.i 0,.nils,.i 0,.nils,.nils]) Tm.zed.conD:=
 LeA.agg ⟨LeA.refl _,LeA.refl _,LeA.refl _,LeA.refl _,LeA.refl _,LeA.refl _,LeA.refl _,LeA.refl _,LeA.nils,LeA.refl _,LeA.nils,LeA.nils,trivial⟩
def zev(n:Nat):Ctr:=ctrP false (λl:List Con=>[Con.conS l]) (λl=>l.length<n/\l.length<2^40) (λ_ (_:Unit)=>True) (λl _=>((Tm.whole l).conD,[]))
noncomputable def GAlc(n:Nat):Nat->Option Ctr:=λf=>if f=54 then some (zev n) else none
theorem zr6{n:Nat}(ih:zd Tryz.prog 54 (zev n)):∀ g c,GAlc n g=some c->zd Tryz.prog g c:=okIf ih zk
theorem zn7(n:Nat)(ih:zd Tryz.prog 54 (zev n)):zd Tryz.prog 54 (zev (n+1)):=by
 refine zh (fn:=Tryz.f54) (c:=Tryz.f54.body.getD .skip) rfl rfl rfl λl hp O w0 Q hq=> ?_
 obtain⟨h1,h2⟩:=hp;replace hq:=hq () trivial;rw [Tm.YW] at hq;refine zc.n (zr6 ih) [] (let v5:=Int.toNat ((l.length:Int) - Int.tdiv (l.length:Int) (2:Int));let v3:List AV:=[.int .u8 1,.str #[].toList,.str #[].toList,.str #[].toList,.int .u8 0,.str #[].toList,.str #[].toList,.i 0,.nils,.i 0,.nils,.nils];let v2:List AV:=[.int .u8 3,.str #[].toList,.str #[].toList,.str #[].toList,.int .u8 0,.str #[].toList,.str #[].toList,.i 0,.nils,.i 0,.nils,.osl 1 12 0 2];.D ((l.length:Int)=0) (.R [.agg v3] [.box v3]) (.D ((l.length:Int)=1) (.side ((0:Int)<=0/\(0:Int)<l.length) (.R [(Con.conD (l.getD 0 Con.nil))] [.box (Con.zq (l.getD 0 Con.nil))])) (.side ((2:Int)≠0/\inR .i64 (Int.tdiv (l.length:Int) (2:Int))) (.S ((l.length:Int) - Int.tdiv (l.length:Int) (2:Int)) (.side ((0:Int)<=l.length - Int.tdiv (l.length:Int) (2:Int)/\(l.length:Int) - Int.tdiv (l.length:Int) (2:Int)<=l.length - Int.tdiv (l.length:Int) (2:Int)/\(l.length:Int) - Int.tdiv (l.length:Int) (2:Int)<=l.length) (.side ((0:Int)<=l.length - Int.tdiv (l.length:Int) (2:Int)/\(l.length:Int) - Int.tdiv (l.length:Int) (2:Int)<=l.length) (.ex (λ(x:List Con)=>eqL [.sl v5 12 (zi (Con.conG l) 0)] [.sl x.length 12 (Con.conG x)]/\x.length<n/\x.length<1099511627776) λn_1=>let v1:=Tm.whole n_1;.A λn_2=>.ex (λ(x:List Con)=>eqL [.sl (l.length - Int.toNat ((l.length:Int) - Int.tdiv (l.length:Int) (2:Int))) 12 (zi (Con.conG l) v5)] [.sl x.length 12 (Con.conG x)]/\x.length<n/\x.length<1099511627776) λn=>let v4:=Tm.whole n;.A λn_3=>.R [.agg v2] [.box v2,.arr 2 12 (zj 12 [.int .u8 (Con.kind v1),.str (Con.src v1),.str (Con.dst v1),.str (Con.name v1),.int .u8 (Ex.kind (Con.x v1)),.str (Ex.rat (Con.x v1)),.str (Ex.name (Con.x v1)),.i (Ex.date (Con.x v1)),.sl (List.length (Ex.sub (Con.x v1))) 5 (Ex.exG (Ex.sub (Con.x v1))),.i (Con.date v1),.sl (List.length (Con.days v1)) 1 (Con.dayG (Con.days v1)),.sl (List.length (Con.sub v1)) 12 (Con.deep v1),.int .u8 (Con.kind v4),.str (Con.src v4),.str (Con.dst v4),.str (Con.name v4),.int .u8 (Ex.kind (Con.x v4)),.str (Ex.rat (Con.x v4)),.str (Ex.name (Con.x v4)),.i (Ex.date (Con.x v4)),.sl (List.length (Ex.sub (Con.x v4))) 5 (Ex.exG (Ex.sub (Con.x v4))),.i (Con.date v4),.sl (List.length (Con.days v4)) 1 (Con.dayG (Con.days v4)),.sl (List.length (Con.sub v4)) 12 (Con.deep v4)])]))))))) ?_;simp only [Tree.holds,ze];have e0:((l.length:Int)).tdiv 2=((l.length/2:Nat):Int):=rfl;have e1:(l.length:Int) - ((l.length/2:Nat):Int)=(((l.length+1)/2:Nat):Int):=by omega
 simp only [e0,e1,Int.toNat_natCast,inR,lo,hi];obtain⟨k,hk⟩:∃ k,(l.length+1)/2=k:=⟨_,rfl⟩;rw [hk] at hq ⊢;refine⟨λh=> ?_,λh=>⟨λg=> ?_,λg=> ?_⟩⟩
 ·have h:=of_decide_eq_true h;rw [if_pos (by omega)] at hq;exact RetR.le0 hq (λh=>by cases h) zlz
 ·have h:=of_decide_eq_false h;have g:=of_decide_eq_true g;rw [if_neg (by omega),if_pos (by omega)] at hq;exact⟨by omega,λ_=>RetR.le0 hq (λh=>by cases h) (LeA.refl _)⟩
 ·have h:=of_decide_eq_false h;have g:=of_decide_eq_false g;rw [if_neg (by omega),if_neg (by omega)] at hq;have l1:(l.take k).length=k:=by rw [List.length_take]; omega
  have l2:(l.drop k).length=l.length - k:=List.length_drop;refine⟨⟨by omega,by omega⟩,λ_=>⟨by omega,λ_=>⟨by omega,λ_=>⟨by omega,λ_=> ?_⟩⟩⟩⟩;refine⟨l.take k,⟨⟨⟨l1.symm,rfl,zgo l k (by omega)⟩,trivial⟩,by omega,by omega⟩,⟨(),trivial⟩,λ_ _=> ?_⟩;refine⟨l.drop k,⟨⟨⟨l2.symm,rfl,zfb l k⟩,trivial⟩,by omega,by omega⟩,⟨(),trivial⟩,λ_ _=> ?_⟩;exact RetR.le0 hq (λh=>by cases h) (zqk _ _)
def zbp:Ctr:=ctrP false (λl:List Con=>[Con.conS l]) (λl=>l.length<2^40) (λ_ (_:Unit)=>True) (λl _=>((Tm.whole l).conD,[]))
theorem zu2:zd Tryz.prog 54 zbp:=vE List.length zn7
noncomputable def GPd:=tb yK (tb Zn tz)
def zn2:Ctr:=ctrT false false (λp:Deal×Int×L8×L8=>[.ptr 0 0,.str p.2.2.1,.str p.2.2.2]) (λp=>[.box (p.1.cells p.2.1)]) (λp=>p.2.2.1.length<2^60/\p.2.2.2.length<2^60) (λ_ (_:Unit)=>True) (λp _=>(.str (Tm.prod p.2.1 p.2.2.1 p.2.2.2).1,[.box (p.1.cells (Tm.prod p.2.1 p.2.2.1 p.2.2.2).2)]))
theorem ze8:zd Tryz.prog 47 zn2:=by
 refine zA (fn:=Tryz.f47) (c:=Tryz.f47.body.getD .skip) rfl rfl rfl (λh=>by cases h) λp hp O w0 I0 Q hl0 hq=> ?_
 obtain⟨t,e,a,b⟩:=p;obtain⟨h1,h2⟩:=hp;replace hq:=hq () trivial;simp only at hq h1 h2;refine zc.n GPd.h [] (let v1:List Blk:=[.box [.i e,.str t.long,.str t.short,.str t.ccy,.str t.name,.str t.zb,.str t.zg]];.N (e=0) (.R [.str #[(48:UInt8)].toList] v1) (.ex (q44 [.str a,.str b]) λn=>.all (λ(r:L8×Int)=>r=mulR n.1 n.2) λn=>.D (e=0) (.R [.str n.1] [.box [.i n.2,.str t.long,.str t.short,.str t.ccy,.str t.name,.str t.zb,.str t.zg]]) (.R [.str n.1] v1))) ?_;simp only [q44,Tree.holds,ze];unfold Tm.prod at hq;refine⟨λh=> ?_,λh=> ?_⟩
 ·rw [if_pos (by simpa using h)] at hq;exact RetR.keep [0] rfl rfl (by show ∀ j,j<1->_; decide) rfl hq (by simp [resV,exp2,exp1,exp0,ren0,eqA2]) (by simp [expH,expB,exp1,exp0,ren0,Deal.cells]) rfl
 ·have he:e=0:=by simpa using h
  rw [if_neg (by simpa using h)] at hq;subst he;refine⟨(a,b),⟨⟨rfl,rfl,trivial⟩,by show a.length<_; omega,by show b.length<_; omega⟩,⟨_,rfl⟩,?_⟩;rintro _ rfl;refine⟨λ_=> ?_,λh=>absurd h (by decide)⟩;exact RetR.keep [0] rfl rfl (by show ∀ j,j<1->_; decide) rfl hq (by simp [resV,exp2,exp1,exp0,ren0,eqA2]) (by simp [expH,expB,exp1,exp0,ren0,Deal.cells]) rfl
def zrd:Ctr:=ctrT false false (λp:Deal×Int×Int=>[.ptr 0 0,.i p.2.2]) (λp=>[.box (p.1.cells p.2.1)]) (λ_=>True) (λ_ (_:Unit)=>True) (λp _=>(exD (Tm.fixg p.1.name p.2.2),[.box (p.1.cells p.2.1)]))
theorem zp8:zd Tryz.prog 48 zrd:=by
 refine zA (fn:=Tryz.f48) (c:=Tryz.f48.body.getD .skip) rfl rfl rfl (λh=>by cases h) λp hp O w0 I0 Q hl0 hq=> ?_
 obtain⟨t,e,d⟩:=p;replace hq:=hq () trivial;refine zc.n zu [] (let v1:List AV:=[.int .u8 2,.str #[].toList,.str t.name,.i d,.nils];.R [.agg v1] [.box [.i e,.str t.long,.str t.short,.str t.ccy,.str t.name,.str t.zb,.str t.zg],.box v1]) ?_;simp only [Tree.holds,ze];refine RetR.keep [0] rfl rfl (by show ∀ j,j<1->_; decide) rfl hq ?_ (by simp [expH,expB,exp1,exp0,ren0,Deal.cells]) rfl;exact⟨⟨rfl,rfl⟩,rfl,rfl,⟨rfl,rfl⟩,rfl,trivial⟩
theorem Con.X2(e f:Con):eqG 2 12 (zi (zj 12 (e.zq++f.zq)) 0) (Con.conG [e,f]):=by
 intro j o hj ho;simp only [zi,zj,Nat.zero_add];rcases(show j=0\/j=1 by omega) with rfl | rfl<;>rcases(show o=0\/o=1\/o=2\/o=3\/o=4\/o=5\/o=6\/o=7\/o=8\/o=9\/o=10\/o=11 by omega) with rfl | rfl | rfl | rfl | rfl | rfl | rfl | rfl | rfl | rfl | rfl | rfl<;>rfl
theorem zqw{a b c:L8}(x:Ex):eqA (.agg [.int .u8 2,.str a,.str b,.str c,.int .u8 x.kind,.str x.rat,.str x.name,.i x.date,.sl x.sub.length 5 x.deep,.i 0,.nils,.nils]) (Con.mk 2 a b c x 0 [] []).conA:=
 ⟨⟨rfl,rfl⟩,rfl,rfl,rfl,⟨rfl,rfl⟩,rfl,rfl,⟨rfl,rfl⟩,⟨rfl,rfl,Ex.qj x⟩,⟨rfl,rfl⟩,rfl,rfl,trivial⟩
def Kb(d:Deal)(e:Int)(p:Per)(q:L8):List Con:=[Tm.at_ p.pay (.mk 2 d.long d.short d.ccy (Tm.kon (Tm.prod e d.zb q).1) 0 [] []),Tm.at_ p.pay (Tm.pay d (Tm.fixg d.name p.fix) q)]
structure OneA where
 d:Deal
 e:Int
 p:Per
 q:L8
def OneA.ok(x:OneA):Prop:=Tm.fits x.d/\x.q.length<2^40
noncomputable def GSw1:=tb ze8 (tb zaj (tb zka (tb zcz (tb zp8 tz))))
def zms:Ctr:=ctrT false false (λx:OneA=>[.ptr 0 0,x.p.av,.str x.q,.ptr 1 0]) (λx=>[.box (x.d.cells x.e),.box [.str x.d.long,.str x.d.short,.str x.d.ccy,.str x.d.name,.str x.d.zb,.str x.d.zg]]) (λx=>x.ok) (λ_ (_:Unit)=>True) (λx _=>(.sl 2 12 (Con.conG (Kb x.d x.e x.p x.q)),[.box (x.d.cells (Tm.prod x.e x.d.zb x.q).2),.box [.str x.d.long,.str x.d.short,.str x.d.ccy,.str x.d.name,.str x.d.zb,.str x.d.zg]]))
abbrev q68(A:List AV)(H:Heap)(x:Deal×Int×Int):Prop:=eqL A [.ptr 0 0,.i x.2.2]/\eqH H [.box [.i x.2.1,.str x.1.long,.str x.1.short,.str x.1.ccy,.str x.1.name,.str x.1.zb,.str x.1.zg]]/\1=1/\True
abbrev q67(A:List AV)(H:Heap)(x:Deal×Int×L8×L8):Prop:=eqL A [.ptr 0 0,.str x.2.2.1,.str x.2.2.2]/\eqH H [.box [.i x.2.1,.str x.1.long,.str x.1.short,.str x.1.ccy,.str x.1.name,.str x.1.zb,.str x.1.zg]]/\1=1/\x.2.2.1.length<1152921504606846976/\x.2.2.2.length<1152921504606846976
theorem zlj:zd Tryz.prog 46 zms:=by
 refine zA (fn:=Tryz.f46) (c:=Tryz.f46.body.getD .skip) rfl rfl rfl (λh=>by cases h) λp hp O w0 I0 Q hl0 hq=> ?_
 obtain⟨t,e,p,q⟩:=p;obtain⟨hf,h2⟩:=hp;replace hq:=hq () trivial;simp only at hq hf h2;refine zc.n GSw1.h [] (let v19:=[AV.ptr 0 0,AV.i p.fix];let v16:=Deal.ccy t;let v15:=Deal.long t;let v14:List AV:=[.i p.fix,.i p.pay,.str p.part];let v13:=Deal.short t;let v9:=q67 [.ptr 0 0,.str t.zb,.str q] [.box [.i e,.str v15,.str v13,.str v16,.str t.name,.str t.zb,.str t.zg]];let v8:List AV:=[.str v15,.str v13,.str v16,.str t.name,.str t.zb,.str t.zg];.all (λ(x:Bool)=>True) λn=>.ite n (.ex v9 λn=>let v17:=Tm.prod n.2.1 n.2.2.1 n.2.2.2;let v7:=q68 v19 [.box [.i v17.2,.str n.1.long,.str n.1.short,.str n.1.ccy,.str n.1.name,.str n.1.zb,.str n.1.zg]];.A λn_1=>.all (λ(x:Bool)=>True) λn_2=>.ite n_2 (.ex (q33 [.str v17.1]) λn_3=>let v10:=Tm.kon n_3;.A λn_4=>.ex (q63 [.i p.pay,.agg [.int .u8 2,.str v15,.str v13,.str v16,.int .u8 (Ex.kind v10),.str (Ex.rat v10),.str (Ex.name v10),.i (Ex.date v10),.sl (List.length (Ex.sub v10)) 5 (Ex.deep v10),.i 0,AV.nils,AV.nils]]) λn_5=>let v1:=Tm.at_ n_5.1 n_5.2;.A λn_6=>.ex v7 λn=>.A λn_7=>.ex (q62 [.ptr 0 0,(exD (Tm.fixg n.1.name n.2.2)),.str q] [.box [.i n.2.1,.str n.1.long,.str n.1.short,.str n.1.ccy,.str n.1.name,.str n.1.zb,.str n.1.zg]]) λn=>.A λn_8=>.ex (q63 [.i p.pay,(Con.conD (Tm.pay n.1 n.2.2.1 n.2.2.2))]) λn_9=>let v2:=Tm.at_ n_9.1 n_9.2;.A λn_10=>.R [.osl 4 12 0 2] [.box [.i n.2.1,.str n.1.long,.str n.1.short,.str n.1.ccy,.str n.1.name,.str n.1.zb,.str n.1.zg],.box v8,.box v14,.box [.int .u8 2,.str v15,.str v13,.str v16,.int .u8 (Ex.kind v10),.str (Ex.rat v10),.str (Ex.name v10),.i (Ex.date v10),.sl (List.length (Ex.sub v10)) 5 (Ex.deep v10),.i 0,.nils,.nils],.arr 2 12 (zj 12 [.int .u8 (Con.kind v1),.str (Con.src v1),.str (Con.dst v1),.str (Con.name v1),.int .u8 (Ex.kind (Con.x v1)),.str (Ex.rat (Con.x v1)),.str (Ex.name (Con.x v1)),.i (Ex.date (Con.x v1)),.sl (List.length (Ex.sub (Con.x v1))) 5 (Ex.exG (Ex.sub (Con.x v1))),.i (Con.date v1),.sl (List.length (Con.days v1)) 1 (Con.dayG (Con.days v1)),.sl (List.length (Con.sub v1)) 12 (Con.deep v1),.int .u8 (Con.kind v2),.str (Con.src v2),.str (Con.dst v2),.str (Con.name v2),.int .u8 (Ex.kind (Con.x v2)),.str (Ex.rat (Con.x v2)),.str (Ex.name (Con.x v2)),.i (Ex.date (Con.x v2)),.sl (List.length (Ex.sub (Con.x v2))) 5 (Ex.exG (Ex.sub (Con.x v2))),.i (Con.date v2),.sl (List.length (Con.days v2)) 1 (Con.dayG (Con.days v2)),.sl (List.length (Con.sub v2)) 12 (Con.deep v2)])]) (.ex (q33 [.str v17.1]) λn_3=>let v11:=Tm.kon n_3;.A λn_4=>.ex (q63 [.i p.pay,.agg [.int .u8 2,.str v15,.str v13,.str v16,.int .u8 (Ex.kind v11),.str (Ex.rat v11),.str (Ex.name v11),.i (Ex.date v11),.sl (List.length (Ex.sub v11)) 5 (Ex.deep v11),.i 0,AV.nils,AV.nils]]) λn_5=>let v3:=Tm.at_ n_5.1 n_5.2;.A λn_6=>.ex v7 λn=>.A λn_7=>.ex (q62 [.ptr 0 0,(exD (Tm.fixg n.1.name n.2.2)),.str q] [.box [.i n.2.1,.str n.1.long,.str n.1.short,.str n.1.ccy,.str n.1.name,.str n.1.zb,.str n.1.zg]]) λn=>.A λn_8=>.ex (q63 [.i p.pay,(Con.conD (Tm.pay n.1 n.2.2.1 n.2.2.2))]) λn_9=>let v4:=Tm.at_ n_9.1 n_9.2;.A λn_10=>.R [.osl 4 12 0 2] [.box [.i n.2.1,.str n.1.long,.str n.1.short,.str n.1.ccy,.str n.1.name,.str n.1.zb,.str n.1.zg],.box v8,.box v14,.box [.int .u8 2,.str v15,.str v13,.str v16,.int .u8 (Ex.kind v11),.str (Ex.rat v11),.str (Ex.name v11),.i (Ex.date v11),.sl (List.length (Ex.sub v11)) 5 (Ex.deep v11),.i 0,.nils,.nils],.arr 2 12 (zj 12 [.int .u8 (Con.kind v3),.str (Con.src v3),.str (Con.dst v3),.str (Con.name v3),.int .u8 (Ex.kind (Con.x v3)),.str (Ex.rat (Con.x v3)),.str (Ex.name (Con.x v3)),.i (Ex.date (Con.x v3)),.sl (List.length (Ex.sub (Con.x v3))) 5 (Ex.exG (Ex.sub (Con.x v3))),.i (Con.date v3),.sl (List.length (Con.days v3)) 1 (Con.dayG (Con.days v3)),.sl (List.length (Con.sub v3)) 12 (Con.deep v3),.int .u8 (Con.kind v4),.str (Con.src v4),.str (Con.dst v4),.str (Con.name v4),.int .u8 (Ex.kind (Con.x v4)),.str (Ex.rat (Con.x v4)),.str (Ex.name (Con.x v4)),.i (Ex.date (Con.x v4)),.sl (List.length (Ex.sub (Con.x v4))) 5 (Ex.exG (Ex.sub (Con.x v4))),.i (Con.date v4),.sl (List.length (Con.days v4)) 1 (Con.dayG (Con.days v4)),.sl (List.length (Con.sub v4)) 12 (Con.deep v4)])])) (.ex v9 λn=>let v18:=Tm.prod n.2.1 n.2.2.1 n.2.2.2;.A λn_1=>.ex (q33 [.str v18.1]) λn_2=>let v12:=Tm.kon n_2;.A λn_3=>.ex (q63 [.i p.pay,.agg [.int .u8 2,.str v15,.str v13,.str v16,.int .u8 (Ex.kind v12),.str (Ex.rat v12),.str (Ex.name v12),.i (Ex.date v12),.sl (List.length (Ex.sub v12)) 5 (Ex.deep v12),.i 0,AV.nils,AV.nils]]) λn_4=>let v5:=Tm.at_ n_4.1 n_4.2;.A λn_5=>.ex (q68 v19 [.box [.i v18.2,.str n.1.long,.str n.1.short,.str n.1.ccy,.str n.1.name,.str n.1.zb,.str n.1.zg]]) λn=>.A λn_6=>.ex (q62 [.ptr 0 0,(exD (Tm.fixg n.1.name n.2.2)),.str q] [.box [.i n.2.1,.str n.1.long,.str n.1.short,.str n.1.ccy,.str n.1.name,.str n.1.zb,.str n.1.zg]]) λn=>.A λn_7=>.ex (q63 [.i p.pay,(Con.conD (Tm.pay n.1 n.2.2.1 n.2.2.2))]) λn_8=>let v6:=Tm.at_ n_8.1 n_8.2;.A λn_9=>.R [.osl 4 12 0 2] [.box [.i n.2.1,.str n.1.long,.str n.1.short,.str n.1.ccy,.str n.1.name,.str n.1.zb,.str n.1.zg],.box v8,.box v14,.box [.int .u8 2,.str v15,.str v13,.str v16,.int .u8 (Ex.kind v12),.str (Ex.rat v12),.str (Ex.name v12),.i (Ex.date v12),.sl (List.length (Ex.sub v12)) 5 (Ex.deep v12),.i 0,.nils,.nils],.arr 2 12 (zj 12 [.int .u8 (Con.kind v5),.str (Con.src v5),.str (Con.dst v5),.str (Con.name v5),.int .u8 (Ex.kind (Con.x v5)),.str (Ex.rat (Con.x v5)),.str (Ex.name (Con.x v5)),.i (Ex.date (Con.x v5)),.sl (List.length (Ex.sub (Con.x v5))) 5 (Ex.exG (Ex.sub (Con.x v5))),.i (Con.date v5),.sl (List.length (Con.days v5)) 1 (Con.dayG (Con.days v5)),.sl (List.length (Con.sub v5)) 12 (Con.deep v5),.int .u8 (Con.kind v6),.str (Con.src v6),.str (Con.dst v6),.str (Con.name v6),.int .u8 (Ex.kind (Con.x v6)),.str (Ex.rat (Con.x v6)),.str (Ex.name (Con.x v6)),.i (Ex.date (Con.x v6)),.sl (List.length (Ex.sub (Con.x v6))) 5 (Ex.exG (Ex.sub (Con.x v6))),.i (Con.date v6),.sl (List.length (Con.days v6)) 1 (Con.dayG (Con.days v6)),.sl (List.length (Con.sub v6)) 12 (Con.deep v6)])])) ?_;simp only [q33,q62,q63,q67,q68,Tree.holds,ze];have h6:t.zb.length<=2500:=hf.2.2.2.2.1
 repeat' apply Vc
 all_goals refine⟨(t,e,t.zb,q),⟨by simp,by simp [Deal.cells],trivial,by show t.zb.length<_; omega,by show q.length<_; omega⟩,⟨(),trivial⟩,λ_ _=> ?_⟩
 all_goals repeat' apply Vc
 all_goals refine⟨(Tm.prod e t.zb q).1,⟨⟨rfl,trivial⟩,trivial⟩,⟨(),trivial⟩,λ_ _=> ?_⟩
 all_goals repeat' apply Vc
 all_goals refine⟨(p.pay,.mk 2 t.long t.short t.ccy (Tm.kon (Tm.prod e t.zb q).1) 0 [] []),⟨⟨⟨rfl,rfl⟩,zqw _,trivial⟩,trivial⟩,⟨(),trivial⟩,λ_ _=> ?_⟩
 all_goals repeat' apply Vc
 all_goals refine⟨(t,(Tm.prod e t.zb q).2,p.fix),⟨by simp,by simp [Deal.cells],trivial,trivial⟩,⟨(),trivial⟩,λ_ _=> ?_⟩
 all_goals repeat' apply Vc
 all_goals refine⟨(t,(Tm.prod e t.zb q).2,Tm.fixg t.name p.fix,q),⟨⟨⟨rfl,rfl⟩,Jg _,rfl,trivial⟩,by simp [Deal.cells],trivial,trivial⟩,⟨(),trivial⟩,λ_ _=> ?_⟩
 all_goals repeat' apply Vc
 all_goals refine⟨(p.pay,Tm.pay t (Tm.fixg t.name p.fix) q),⟨⟨⟨rfl,rfl⟩,j7 _,trivial⟩,trivial⟩,⟨(),trivial⟩,λ_ _=> ?_⟩
 all_goals repeat' apply Vc
 all_goals exact RetR.keep [0,1] rfl rfl (by show ∀ j,j<2->_; decide) rfl hq ⟨rfl,rfl,Con.X2 _ _⟩ (by simp [expH,expB,exp1,exp0,ren0,Deal.cells]) rfl
noncomputable def K45:List Go.Sx.Item:=[.code (Tryz.f45.body.getD .skip)]
noncomputable def allS:Ctr:={ zbp with sinks:=true }
theorem zp1:zd Tryz.prog 54 allS:=zd.sink (c:=zbp) zu2
noncomputable def zrw:Ctr:={ zct with sinks:=true }
theorem zkf:zd Tryz.prog 33 zrw:=zd.sink (c:=zct) Ym
structure PeA where
 d:Deal
 l:List Per
 fl:Bool
def PeA.ok(x:PeA):Prop:=Tm.fits x.d/\x.l.length<=60/\∀ i,i<x.l.length->(x.l.getD i Per.nil).part.length<=300
def dbox(d:Deal):Blk:=.box [.str d.long,.str d.short,.str d.ccy,.str d.name,.str d.zb,.str d.zg]
theorem zpi(a:L8):eqG 1 1 (zj 1 [.str a]) (ratG [a]):=by
 intro j o hj ho;rcases(show j=0 by omega) with rfl;rcases(show o=0 by omega) with rfl;rfl
theorem zln(l m:List Con):eqG (l.length+m.length) 12 (appG l.length (Con.conG l) (Con.conG m)) (Con.conG (l++m)):=by
 intro j o hj ho;unfold appG;by_cases h:j<l.length
 ·rw [if_pos h]; simp [Con.conG,List.getD,List.getElem?_append,h]
 ·rw [if_neg h]; simp [Con.conG,List.getD,List.getElem?_append,h]
def wj(d:Deal)(fl:Bool):Blk:=dbox d
def zU(d:Deal)(fl:Bool):Tm.Leg->Per->Tm.Leg:=Tm.legS d
theorem zmr{d:Deal}{fl:Bool}(h:Tm.fits d)(s:Tm.Leg)(p:Per):(zU d fl s p).acc.length<=s.acc.length+2/\Con.bigs (zU d fl s p).acc<=Con.bigs s.acc+30000/\Con.z9 (zU d fl s p).acc<=Con.z9 s.acc+4:=Tm.zfd h s p
noncomputable def zph:=tb VP (tb VA (tb Zn (tb ze8 (tb zlj (tb zp1 (tb zkf tz))))))
def xR(d:Deal)(fl:Bool)(e:Int):Heap:=[wj d fl,dbox d,.box (List.replicate 12 .undef),.dead,.box (d.cells e)]
def zbj(l:List Per)(i:Nat):KV:=[(1,perS l),(2,.fn 46 [] [.ptr 0 0]),(3,.ptr 1 0),(6,.ptr 2 0),(8,.ptr 4 0),Z 11,Z 14,(23,perS l),(24,.i (l.length:Int)),(25,.i (i:Int)),Z 37,Z 38,Z 39,Z 50,Z 51,Z 52,Z 53,Z 54,Z 55,Z 56,Z 57,Z 66,Z 67,Z 68]
def Qi(l:List Per)(i:Nat):KV:=[(1,perS l),(2,.fn 46 [] [.ptr 0 0]),(3,.ptr 1 0),(6,.ptr 2 0),(8,.ptr 4 0),(11,.i (Tm.Z3 l i)),Z 14,Z 23,Z 24,Z 25,(37,perS l),(38,.i (l.length:Int)),(39,.i (i:Int)),Z 50,Z 51,Z 52,Z 53,Z 54,Z 55,Z 56,Z 57,Z 66,Z 67,Z 68]
def WJ(d:Deal)(fl:Bool)(e:Int)(acc:List Con):Heap:=[wj d fl,dbox d,.box (List.replicate 12 .undef),.dead,.box (d.cells e),.arr acc.length 12 (Con.conG acc)]
def Q0(l:List Per)(n i:Nat):KV:=[Z 1,(2,.fn 46 [] [.ptr 0 0]),(3,.ptr 1 0),(6,.ptr 2 0),(8,.ptr 4 0),Z 11,(14,.osl 5 12 0 n),Z 23,Z 24,Z 25,Z 37,Z 38,Z 39,Z 50,Z 51,Z 52,Z 53,Z 54,Z 55,Z 56,Z 57,(66,perS l),(67,.i (l.length:Int)),(68,.i (i:Int))]
def Z1:Ctr:=ctrT false false (λx:PeA=>[x.d.av,perS x.l,.fn 46 [] [.ptr 0 0]]) (λx=>[wj x.d x.fl]) (λx=>x.ok) (λ_ (_:Unit)=>True) (λx _=>(.tup [(Tm.WW (zU x.d x.fl) x.d x.l).conD,.i (Tm.J2 (zU x.d x.fl) x.d x.l)],[wj x.d x.fl]))
theorem zq1{O:Nat->Prop}{w0:World}{I0:List SE}{Hs:Nat->KV->Heap->Prop}{Q:AV×Heap->Prop}(d:Deal)(l:List Per)(fl:Bool)(e2:Int)(hf:Tm.fits d)(hl:l.length<=60)(hpt:∀ i,i<l.length->(l.getD i Per.nil).part.length<=300)
  (hq:Q (.tup [(if Tm.resE (Tm.ja (zU d fl) e2 l l.length).e (Tm.whole (Tm.ja (zU d fl) e2 l l.length).acc)=0 then Tm.whole (Tm.ja (zU d fl) e2 l l.length).acc else Tm.zero).conD,.i (Tm.resE (Tm.ja (zU d fl) e2 l l.length).e (Tm.whole (Tm.ja (zU d fl) e2 l l.length).acc))],[wj d fl])) :
  zc Tryz.prog Tryz.f45 O 1 w0 I0 Hs (RetR Z1 1 Q) (.code (.loop (lps (inside (inside K45 0) 0) 0).1)::(lps (inside (inside K45 0) 0) 0).2) (mk Tryz.f45.ntmps (Q0 l 0 0) (WJ d fl e2 [])):=by
 refine zc.loop (ι:={i:Nat // i<=l.length}) (λi=>Q0 l (Tm.ja (zU d fl) e2 l i.1).acc.length i.1) (λi=>WJ d fl (Tm.ja (zU d fl) e2 l i.1).e (Tm.ja (zU d fl) e2 l i.1).acc) (λi=>l.length - i.1) ⟨0,Nat.zero_le _⟩ 0 ?_ ?_ (by kernel_rfl)
 ·exact⟨by simp [Q0,perS,za,Tm.ja],by simp [WJ,wj,dbox,Deal.cells,List.replicate,Tm.ja,za],by kernel_rfl,by show 1<=6; decide⟩
 ·rintro⟨i,hil⟩;have hsz:=Tm.zc9 (f:=zU d fl) (zmr hf) e2 l i hl;obtain⟨⟨e,acc⟩,hs⟩:∃ s,Tm.ja (zU d fl) e2 l i=s:=⟨_,rfl⟩;rw [hs] at hsz;simp only [hs];simp only at hsz;refine zc.n zph.h [1,2,3,6,8,11,14,23,24,25,37,38,39,50,51,52,53,54,55,56,57,66,67,68] (let v10:=Deal.ccy d;let v9:=Deal.long d;let v8:=Deal.short d;let v4:=l.getD (i:Int).toNat Per.nil;let v3:List AV:=[.i e,.str v9,.str v8,.str v10,.str d.name,.str d.zb,.str d.zg];let v2:List AV:=[.int .u8 0,.str #[].toList,.str #[].toList,.str #[].toList,.int .u8 0,.str #[].toList,.str #[].toList,.i 0,.nils,.i 0,.nils,.nils];let v1:List AV:=[.str v9,.str v8,.str v10,.str d.name,.str d.zb,.str d.zg];.D ((i:Int)<l.length) (.side ((0:Int)<=i/\(i:Int)<l.length) (.ex (q67 [.ptr 0 0,.str v4.part,.str d.zg] [.box [.i e,.str v9,.str v8,.str v10,.str d.name,.str d.zb,.str d.zg]]) λn=>let v13:=Tm.prod n.2.1 n.2.2.1 n.2.2.2;.A λn_1=>.ex (λ(x:OneA)=>eqL [.ptr 0 0,.agg [.i v4.fix,.i v4.pay,.str v4.part],.str v13.1,.ptr 1 0] [.ptr 0 0,.agg [.i x.p.fix,.i x.p.pay,.str x.p.part],.str x.q,.ptr 1 0]/\eqH [.box [.i v13.2,.str n.1.long,.str n.1.short,.str n.1.ccy,.str n.1.name,.str n.1.zb,.str n.1.zg],.box [.str v9,.str v8,.str v10,.str d.name,.str d.zb,.str d.zg]] [.box [.i x.e,.str x.d.long,.str x.d.short,.str x.d.ccy,.str x.d.name,.str x.d.zb,.str x.d.zg],.box [.str x.d.long,.str x.d.short,.str x.d.ccy,.str x.d.name,.str x.d.zb,.str x.d.zg]]/\2=2/\OneA.ok x) λn=>let v12:=Deal.zb n.d;.A λn_2=>.side (0=0/\acc.length<=acc.length/\(acc.length+2)*184<=140737488355328) (.S (i+1) (.leaf (.back 0 [Z 1,(2,.fn 46 [] [.ptr 0 0]),(3,.ptr 1 0),(6,.ptr 2 0),(8,.ptr 4 0),Z 11,(14,.osl 5 12 0 (acc.length+2)),Z 23,Z 24,Z 25,Z 37,Z 38,Z 39,Z 50,Z 51,Z 52,Z 53,Z 54,Z 55,Z 56,Z 57,(66,.sl l.length 3 (perG l)),(67,.i l.length),(68,.i (i+1))] [.box [.str n.d.long,.str n.d.short,.str n.d.ccy,.str n.d.name,.str v12,.str n.d.zg],.box v1,.box [.undef,.undef,.undef,.undef,.undef,.undef,.undef,.undef,.undef,.undef,.undef,.undef],.dead,.box [.i (Prod.snd (Tm.prod n.e v12 n.q)),.str n.d.long,.str n.d.short,.str n.d.ccy,.str n.d.name,.str v12,.str n.d.zg],.arr (acc.length+2) 12 (appG acc.length (Con.conG acc) (Con.conG (Kb n.d n.e n.p n.q))),.box [.i v4.fix,.i v4.pay,.str v4.part]]))))) (.ex (λ(x:List Con)=>eqL [.sl acc.length 12 (zi (Con.conG acc) 0)] [.sl x.length 12 (Con.conG x)]/\x.length<1099511627776) λn=>let v7:=Tm.whole n;let v11:=q64 [v7.conD];let v6:qc:=.ret [.agg v2,.i e] [.box v1,.box v1,.box v2,.dead,.box v3,.dead,.box v7.zq,.box v2];.A λn_1=>.D (e=0) (.ex (q56 [v7.conD]) λn_2=>.all (λ(r:Int)=>r=Con.errC n_2) λn_3=>let v5:List AV:=[.i n_3,.str v9,.str v8,.str v10,.str d.name,.str d.zb,.str d.zg];.D (e=0) (.N (n_3=0) (.R [.agg v2,.i n_3] [.box v1,.box v1,.box v2,.dead,.box v5,.dead,.box v7.zq,.box v2]) (.ex v11 λn_4=>.A λn_5=>.R [n_4.conD,.i 0] [.box v1,.box v1,.box n_4.zq,.dead,.box v5,.dead,.box v7.zq,.box n_4.zq])) (.N (e=0) (.leaf v6) (.ex v11 λn_4=>.A λn_5=>.R [n_4.conD,.i 0] [.box v1,.box v1,.box n_4.zq,.dead,.box v3,.dead,.box v7.zq,.box n_4.zq]))) (.N (e=0) (.leaf v6) (.ex v11 λn_2=>.A λn_3=>.R [n_2.conD,.i 0] [.box v1,.box v1,.box n_2.zq,.dead,.box v3,.dead,.box v7.zq,.box n_2.zq])))) ?_;simp only [q56,q64,q67,Tree.holds,ze,inR,lo,hi,Int.toNat_natCast];refine⟨λhlt=> ?_,λhge=> ?_⟩
  ·have hlt:i<l.length:=by have:=of_decide_eq_true hlt; omega
   have hpi:=hpt i hlt;have h6:d.zg.length<=2500:=hf.2.2.2.2.2;have hss:=Tm.zae (f:=zU d fl) (e:=e2) hlt;rw [hs] at hss;replace hss:Tm.ja (zU d fl) e2 l (i+1)=⟨(Tm.prod (Tm.prod e (l.getD i Per.nil).part d.zg).2 d.zb (Tm.prod e (l.getD i Per.nil).part d.zg).1).2,acc++Kb d (Tm.prod e (l.getD i Per.nil).part d.zg).2 (l.getD i Per.nil) (Tm.prod e (l.getD i Per.nil).part d.zg).1⟩:=hss;refine⟨by omega,λ_=> ?_⟩;refine⟨(d,e,(l.getD i Per.nil).part,d.zg),⟨by simp,by simp [Deal.cells],trivial,by show(l.getD i Per.nil).part.length<_; omega,by show d.zg.length<_; omega⟩,⟨(),trivial⟩,λ_ _=> ?_⟩;refine⟨⟨d,(Tm.prod e (l.getD i Per.nil).part d.zg).2,(l.getD i Per.nil),(Tm.prod e (l.getD i Per.nil).part d.zg).1⟩,⟨⟨⟨rfl,rfl⟩,⟨⟨rfl,rfl⟩,⟨rfl,rfl⟩,rfl,trivial⟩,rfl,⟨rfl,rfl⟩,trivial⟩,by simp [Deal.cells],trivial,hf,by have:=Tm.JS (e:=e) (a:=(l.getD i Per.nil).part) (b:=d.zg); show(Tm.prod e (l.getD i Per.nil).part d.zg).1.length<_; omega⟩,⟨(),trivial⟩,λ_ _=> ?_⟩;refine⟨⟨trivial,Nat.le_refl _,by omega⟩,λ_=>⟨by omega,λ_=> ?_⟩⟩;rw [if_pos trivial];refine⟨⟨i+1,hlt⟩,by show l.length - (i+1)<l.length - i; omega,?_,?_,by kernel_rfl,by show 1<=6; decide⟩
   ·rw [hss]; simp [Q0,perS,za,Kb]
   ·rw [hss];refine⟨by simp [wj,dbox],by simp [dbox],by simp [List.replicate],trivial,by simp [Deal.cells],⟨by simp [Kb],rfl,zln acc (Kb d (Tm.prod e (l.getD i Per.nil).part d.zg).2 (l.getD i Per.nil) (Tm.prod e (l.getD i Per.nil).part d.zg).1)⟩,trivial⟩
  ·have hge:i=l.length:=by have:=of_decide_eq_false hge; omega
   subst hge;rw [hs] at hq;simp only at hq;have hw:=Tm.zbn acc;obtain⟨c,hc⟩:∃ c,Tm.whole acc=c:=⟨_,rfl⟩;rw [hc] at hq hw;refine⟨acc,⟨⟨⟨rfl,rfl,Va _ _ _⟩,trivial⟩,by omega⟩,⟨(),trivial⟩,λ_ _=> ?_⟩;simp only [hc];unfold Tm.resE at hq;refine⟨λh=> ?_,λh=> ?_⟩
   ·rw [if_pos (of_decide_eq_true h)] at hq;refine⟨c,⟨⟨j7 c,trivial⟩,by omega,by omega⟩,⟨_,rfl⟩,?_⟩;rintro _ rfl;refine⟨λ_=>⟨λh1=> ?_,λh1=> ?_⟩,λh1=>absurd (h.symm.trans h1) (by decide)⟩
    ·rw [if_neg (by simpa using h1)] at hq;exact RetR.keep [0] rfl rfl (by show ∀ j,j<1->_; decide) rfl hq zero_eq (by simp [expH,expB,exp1,exp0,ren0,wj,dbox]) rfl
    ·have h1:c.errC=0:=by simpa using h1
     rw [if_pos h1,h1] at hq;refine⟨c,⟨⟨j7 c,trivial⟩,by omega⟩,⟨(),trivial⟩,λ_ _=> ?_⟩;exact RetR.kF [0] rfl rfl (by show ∀ j,j<1->_; decide) rfl hq (LeA.refl _) (by simp [expH,expB,exp1,exp0,ren0,wj,dbox]) rfl
   ·have h:=of_decide_eq_false h;rw [if_neg h,if_neg h] at hq;refine⟨λ_=> ?_,λh1=>absurd h1 (by simp [h])⟩;exact RetR.keep [0] rfl rfl (by show ∀ j,j<1->_; decide) rfl hq zero_eq (by simp [expH,expB,exp1,exp0,ren0,wj,dbox]) rfl
theorem zoy{O:Nat->Prop}{w0:World}{I0:List SE}{Hs:Nat->KV->Heap->Prop}{Q:AV×Heap->Prop}(d:Deal)(l:List Per)(fl:Bool)(e1:Int)(hf:Tm.fits d)(hl:l.length<=60)(hpt:∀ i,i<l.length->(l.getD i Per.nil).part.length<=300)
  (hq:Q (.tup [(if Tm.resE (Tm.ja (zU d fl) (Tm.vW e1 l l.length) l l.length).e (Tm.whole (Tm.ja (zU d fl) (Tm.vW e1 l l.length) l l.length).acc)=0 then Tm.whole (Tm.ja (zU d fl) (Tm.vW e1 l l.length) l l.length).acc else Tm.zero).conD,.i (Tm.resE (Tm.ja (zU d fl) (Tm.vW e1 l l.length) l l.length).e (Tm.whole (Tm.ja (zU d fl) (Tm.vW e1 l l.length) l l.length).acc))],[wj d fl])) :
  zc Tryz.prog Tryz.f45 O 1 w0 I0 Hs (RetR Z1 1 Q) (.code (.loop (lps (inside K45 0) 0).1)::(lps (inside K45 0) 0).2) (mk Tryz.f45.ntmps (Qi l 0) (xR d fl e1)):=by
 refine zc.loop (ι:={i:Nat // i<=l.length}) (λi=>Qi l i.1) (λi=>xR d fl (Tm.vW e1 l i.1)) (λi=>l.length - i.1) ⟨0,Nat.zero_le _⟩ 0 ?_ ?_ (by kernel_rfl)
 ·refine⟨by simp [Qi,perS,za],?_,by kernel_rfl,by show 1<=5; decide⟩;have:Tm.vW e1 l 0=e1:=by unfold Tm.vW; split<;>simp_all [Tm.badT]
  simp [xR,wj,dbox,Deal.cells,this,List.replicate]
 ·rintro⟨i,hil⟩;obtain⟨e',he'⟩:∃ e',Tm.vW e1 l i=e':=⟨_,rfl⟩;simp only [he'];refine zc.n zph.h [1,2,3,6,8,11,14,23,24,25,37,38,39,50,51,52,53,54,55,56,57,66,67,68] (let v9:=lps (inside (inside K45 0) 0) 0;let v7:=inR .i64 (i+1);let v6:List AV:=[.i e',.str d.long,.str d.short,.str d.ccy,.str d.name,.str d.zb,.str d.zg];let v5:List AV:=[.undef,.undef,.undef,.undef,.undef,.undef,.undef,.undef,.undef,.undef,.undef,.undef];let v4:=l.getD (i:Int).toNat Per.nil;let v8:List AV:=[.i v4.fix,.i v4.pay,.str v4.part];let v3:List (Nat×AV):=[(1,.sl l.length 3 (perG l)),(2,.fn 46 [] [.ptr 0 0]),(3,.ptr 1 0),(6,.ptr 2 0),(8,.ptr 4 0),(11,.i v4.pay),Z 14,Z 23,Z 24,Z 25,(37,.sl l.length 3 (perG l)),(38,.i l.length),(39,.i (i+1)),Z 50,Z 51,Z 52,Z 53,Z 54,Z 55,Z 56,Z 57,Z 66,Z 67,Z 68];let v2:List AV:=[.str d.long,.str d.short,.str d.ccy,.str d.name,.str d.zb,.str d.zg];let v1:qc:=.back 0 v3 [.box v2,.box v2,.box v5,.dead,.box v6,.box v8];.D ((i:Int)<l.length) (.side ((0:Int)<=i/\(i:Int)<l.length) (.ite (bif decide (Per.pay v4 <Per.fix v4) then true else bif decide ((0:Int)<i) then decide (Per.pay v4 <=Tm.Z3 l i) else false) (.D (e'=(0:Int)) (.side v7 (.leaf (.back 0 v3 [.box v2,.box v2,.box v5,.dead,.box [.i 40,.str d.long,.str d.short,.str d.ccy,.str d.name,.str d.zb,.str d.zg],.box v8]))) (.side v7 (.leaf v1))) (.side v7 (.leaf v1)))) (.leaf (.loop v9.1 v9.2 [(1,.sl l.length 3 (perG l)),(2,.fn 46 [] [.ptr 0 0]),(3,.ptr 1 0),(6,.ptr 2 0),(8,.ptr 4 0),(11,.i (Tm.Z3 l i)),(14,.nils),Z 23,Z 24,Z 25,(37,.sl l.length 3 (perG l)),(38,.i l.length),(39,.i i),Z 50,Z 51,Z 52,Z 53,Z 54,Z 55,Z 56,Z 57,(66,.sl l.length 3 (perG l)),(67,.i l.length),(68,.i 0)] [.box v2,.box v2,.box v5,.dead,.box v6]))) ?_;simp only [Tree.holds,ze,inR,lo,hi,Int.toNat_natCast];refine⟨λhlt=> ?_,λhge=> ?_⟩
  ·have hlt:i<l.length:=by have:=of_decide_eq_true hlt; omega
   have hs:=Tm.zai (e:=e1) (l:=l) (i:=i) rfl;rw [he'] at hs;have hp:=Tm.zcb l i;refine⟨by omega,λ_=>⟨λhc=>⟨λhz=>⟨by omega,λ_=> ?_⟩,λhz=>⟨by omega,λ_=> ?_⟩⟩,λhc=>⟨by omega,λ_=> ?_⟩⟩⟩
   all_goals
    rw [if_pos trivial];refine⟨⟨i+1,hlt⟩,by show l.length - (i+1)<l.length - i; omega,by simp [Qi,perS,za,hp],?_,by kernel_rfl,by show 1<=5; decide⟩
   ·rw [if_pos (by simpa using hc),if_pos (of_decide_eq_true hz)] at hs;simp [xR,wj,dbox,Deal.cells,hs,List.replicate]
   ·rw [if_pos (by simpa using hc),if_neg (of_decide_eq_false hz)] at hs;simp [xR,wj,dbox,Deal.cells,hs,List.replicate]
   ·rw [if_neg (by simp at hc ⊢; omega)] at hs;simp [xR,wj,dbox,Deal.cells,hs,List.replicate]
  ·have hge:i=l.length:=by have:=of_decide_eq_false hge; omega
   subst hge;rw [he'] at hq;refine zc.bear 14 12 (Con.conG []) rfl (by decide) (by kernel_rfl) ?_;refine zc.weak (S:=Q0 l 0 0) (H:=WJ d fl e' []) ⟨by simp [Q0,kL,perS,za],by simp [WJ,wj,dbox,Deal.cells,List.replicate,za],by kernel_rfl,by show 1<=6; decide⟩ ?_;exact zq1 d l fl e' hf hl hpt hq
theorem zbb:zd Tryz.prog 45 Z1:=by
 refine zA (fn:=Tryz.f45) (c:=Tryz.f45.body.getD .skip) rfl rfl rfl (λh=>by cases h) λp hp O w0 I0 Q hl0 hq=> ?_
 obtain⟨d,l,fl⟩:=p;replace hq:=hq () trivial;obtain⟨hf,hl,hpt⟩:=hp;simp only at hf hl hpt hq;unfold Tm.WW Tm.J2 at hq;refine zc.n zph.h [1,2,3,6,8,11,14,23,24,25,37,38,39,50,51,52,53,54,55,56,57,66,67,68] (let v2:List AV:=[.int .u8 0,.str #[].toList,.str #[].toList,.str #[].toList,.int .u8 0,.str #[].toList,.str #[].toList,.i 0,.nils,.i 0,.nils,.nils];let v1:List AV:=[.str d.long,.str d.short,.str d.ccy,.str d.name,.str d.zb,.str d.zg];.D ((40:Int)<l.length) (.R [.agg v2,.i 4] [.box v1,.box v1,.box v2]) (.ex (λ(x:Deal×Int×List L8)=>eqL [.ptr 0 0,.osl 1 1 0 2] [.ptr 0 0,.osl 1 1 0 x.2.2.length]/\eqH [.box [.i 0,.str d.long,.str d.short,.str d.ccy,.str d.name,.str d.zb,.str d.zg],.arr 2 1 (zj 1 [.str d.zb,.str d.zg])] [.box [.i x.2.1,.str x.1.long,.str x.1.short,.str x.1.ccy,.str x.1.name,.str x.1.zb,.str x.1.zg],.arr x.2.2.length 1 (ratG x.2.2)]/\2=2/\x.2.2.length<1099511627776/\∀ (r:L8),r∈x.2.2->r.length<1099511627776) λn=>.A λn_1=>.leaf (.loop (lps K45 0).1 (lps K45 0).2 [(1,.sl l.length 3 (perG l)),(2,.fn 46 [] [.ptr 0 0]),(3,.ptr 1 0),(6,.ptr 2 0),(8,.ptr 4 0),Z 11,Z 14,(23,.sl l.length 3 (perG l)),(24,.i l.length),(25,.i 0),Z 37,Z 38,Z 39,Z 50,Z 51,Z 52,Z 53,Z 54,Z 55,Z 56,Z 57,Z 66,Z 67,Z 68] [.box v1,.box v1,.box v2,.box v1,.box [.i (Tm.first n.2.1 n.2.2),.str n.1.long,.str n.1.short,.str n.1.ccy,.str n.1.name,.str n.1.zb,.str n.1.zg],.arr n.2.2.length 1 (ratG n.2.2)]))) ?_;simp only [Tree.holds,ze];refine⟨λh=> ?_,λh=> ?_⟩
 ·have h40:=of_decide_eq_true h;simp only [if_pos (show 40<l.length by omega)] at hq;rw [if_neg (show ¬ (4:Int)=0 by decide)] at hq;exact RetR.keep [0] rfl rfl (by show ∀ j,j<1->_; decide) rfl hq zero_eq (by simp [expH,expB,exp1,exp0,ren0,wj,dbox]) rfl
 have h40:=of_decide_eq_false h;simp only [if_neg (show ¬ 40<l.length by omega)] at hq;refine⟨(d,0,[d.zb,d.zg]),⟨by simp,by simp [Deal.cells,Xd],trivial,by show 2<2^40; decide,Zf hf⟩,⟨(),trivial⟩,λ_ _=> ?_⟩;unfold Tm.zdn Tm.perE at hq;obtain⟨e0,he0⟩:∃ e,Tm.first 0 [d.zb,d.zg]=e:=⟨_,rfl⟩;rw [he0] at hq;simp only [he0];refine zc.loop (ι:={i:Nat // i<=l.length}) (λi=>zbj l i.1) (λi=>xR d fl (Tm.first e0 ((l.map Per.part).take i.1))) (λi=>l.length - i.1) ⟨0,Nat.zero_le _⟩ 0 ?_ ?_ (by kernel_rfl)
 ·exact⟨by simp [zbj,perS,za],by simp [xR,wj,dbox,Deal.cells,Tm.first,List.replicate],by kernel_rfl,by show 1<=5; decide⟩
 ·rintro⟨i,hil⟩;obtain⟨e',he'⟩:∃ e',Tm.first e0 ((l.map Per.part).take i)=e':=⟨_,rfl⟩;simp only [he'];refine zc.n zph.h [1,2,3,6,8,11,14,23,24,25,37,38,39,50,51,52,53,54,55,56,57,66,67,68] (let v3:List AV:=[.undef,.undef,.undef,.undef,.undef,.undef,.undef,.undef,.undef,.undef,.undef,.undef];let v2:=l.getD (i:Int).toNat Per.nil;let v1:List AV:=[.str d.long,.str d.short,.str d.ccy,.str d.name,.str d.zb,.str d.zg];.D ((i:Int)<l.length) (.side ((0:Int)<=i/\(i:Int)<l.length) (.ex (λ(x:Deal×Int×List L8)=>eqL [.ptr 0 0,.osl 1 1 0 1] [.ptr 0 0,.osl 1 1 0 x.2.2.length]/\eqH [.box [.i e',.str d.long,.str d.short,.str d.ccy,.str d.name,.str d.zb,.str d.zg],.arr 1 1 (zj 1 [.str v2.part])] [.box [.i x.2.1,.str x.1.long,.str x.1.short,.str x.1.ccy,.str x.1.name,.str x.1.zb,.str x.1.zg],.arr x.2.2.length 1 (ratG x.2.2)]/\2=2/\x.2.2.length<1099511627776/\∀ (r:L8),r∈x.2.2->r.length<1099511627776) λn=>.A λn_1=>.S (i+1) (.leaf (.back 0 [(1,.sl l.length 3 (perG l)),(2,.fn 46 [] [.ptr 0 0]),(3,.ptr 1 0),(6,.ptr 2 0),(8,.ptr 4 0),Z 11,Z 14,(23,.sl l.length 3 (perG l)),(24,.i l.length),(25,.i (i+1)),Z 37,Z 38,Z 39,Z 50,Z 51,Z 52,Z 53,Z 54,Z 55,Z 56,Z 57,Z 66,Z 67,Z 68] [.box v1,.box v1,.box v3,.dead,.box [.i (Tm.first n.2.1 n.2.2),.str n.1.long,.str n.1.short,.str n.1.ccy,.str n.1.name,.str n.1.zb,.str n.1.zg],.box [.i v2.fix,.i v2.pay,.str v2.part],.arr n.2.2.length 1 (ratG n.2.2)])))) (.leaf (.loop (lps (inside K45 0) 0).1 (lps (inside K45 0) 0).2 [(1,.sl l.length 3 (perG l)),(2,.fn 46 [] [.ptr 0 0]),(3,.ptr 1 0),(6,.ptr 2 0),(8,.ptr 4 0),(11,.i (-9223372036854775808:Int)),Z 14,(23,.sl l.length 3 (perG l)),(24,.i l.length),(25,.i i),(37,.sl l.length 3 (perG l)),(38,.i l.length),(39,.i 0),Z 50,Z 51,Z 52,Z 53,Z 54,Z 55,Z 56,Z 57,Z 66,Z 67,Z 68] [.box v1,.box v1,.box v3,.dead,.box [.i e',.str d.long,.str d.short,.str d.ccy,.str d.name,.str d.zb,.str d.zg]]))) ?_;simp only [Tree.holds,ze,inR,lo,hi,Int.toNat_natCast];refine⟨λhlt=> ?_,λhge=> ?_⟩
  ·have hlt:i<l.length:=by have:=of_decide_eq_true hlt; omega
   have hpi:=hpt i hlt;have ht:=Tm.Wk (e:=e0) (l:=l.map Per.part) (i:=i) (by simpa using hlt);rw [he'] at ht;have hg:(l.map Per.part).getD i []=(l.getD i Per.nil).part:=by simp [List.getD,hlt]
   rw [hg] at ht;have ht2:Tm.first e' [(l.getD i Per.nil).part]=Tm.first e0 ((l.map Per.part).take (i+1)):=by rw [ht]; rfl
   refine⟨by omega,λ_=>⟨(d,e',[(l.getD i Per.nil).part]),⟨by simp,by simp [Deal.cells,zpi],trivial,by show 1<2^40; decide,λr hr=>by rw [List.mem_singleton.1 hr]; omega⟩,⟨(),trivial⟩,λ_ _=>⟨by omega,λ_=> ?_⟩⟩⟩;rw [if_pos trivial];exact⟨⟨i+1,hlt⟩,by show l.length - (i+1)<l.length - i; omega,by simp [zbj,perS,za],by show eqH _ (xR d fl (Tm.first e0 ((l.map Per.part).take (i+1)))); rw [<- ht2]; simp [xR,wj,dbox,Deal.cells,List.replicate],by kernel_rfl,by show 1<=5; decide⟩
  ·have hge:i=l.length:=by have:=of_decide_eq_false hge; omega
   subst hge;have hz:(l.map Per.part).take l.length=l.map Per.part:=by rw [<- List.length_map (f:=Per.part),List.take_length]
   rw [hz] at he';rw [he'] at hq;refine zc.weak (S:=Qi l 0) (H:=xR d fl e') ⟨by simp [Qi,perS,za,Tm.Z3],by simp [xR,wj,dbox,Deal.cells,List.replicate],by kernel_rfl,by show 1<=5; decide⟩ ?_;exact zoy d l fl e' hf hl hpt hq
noncomputable def K9:List Go.Sx.Item:=[.code (Tryz.f9.body.getD .skip)]
structure xU where
 d:Deal
 l:List Per
 days:List Int
def zrb:Ctr:=ctrP true (λp:xU=>[p.d.av,perS p.l,Con.dayS p.days]) (λp=>p.l.length<2^60) (λp r=>r=false->Tm.short p.d p.l p.days) (λ_ (r:Bool)=>(.bool r,[]))
def SLo(l:List Per)(i:Nat):KV:=[(1,perS l),(7,.i (i:Int))]
theorem zpf:zd Tryz.prog 9 zrb:=by
 refine zh (fn:=Tryz.f9) (c:=Tryz.f9.body.getD .skip) rfl rfl rfl λp hp O w0 Q hq=> ?_
 obtain⟨d,l,days⟩:=p;replace hp:l.length<2^60:=hp;refine zc.n zu [1,7] (let v1:List Blk:=[.box [.str d.long,.str d.short,.str d.ccy,.str d.name,.str d.zb,.str d.zg]];.ite (bif bif bif bif bif bif bif decide ((200:Int)<(d.long.length:Int)) then true else decide ((200:Int)<(d.short.length:Int)) then true else decide ((200:Int)<(d.ccy.length:Int)) then true else decide ((200:Int)<(d.name.length:Int)) then true else decide ((2500:Int)<(d.zb.length:Int)) then true else decide ((2500:Int)<(d.zg.length:Int)) then true else decide ((60:Int)<l.length) then true else decide ((200:Int)<days.length)) (.R [.bool true] v1) (.leaf (.loop (lps K9 0).1 (lps K9 0).2 [(1,.sl l.length 3 (perG l)),(7,.i 0)] v1))) ?_;simp only [Tree.holds,ze];have hqt:Q (.bool true,[]):=hq true (λh=>by cases h);refine⟨λh=>RetR.scal hqt rfl (by simp [resV]),λh=> ?_⟩
 have hs:Tm.fits d/\l.length<=60/\days.length<=200:=by
  simp only [Bool.cond_true_left,Bool.or_eq_false_iff,decide_eq_false_iff_not] at h;unfold Tm.fits;omega
 refine zc.loop (ι:={i:Nat // i<=l.length/\∀ j,j<i->(l.getD j Per.nil).part.length<=300}) (λi=>SLo l i.1) (λi=>[.box [.str d.long,.str d.short,.str d.ccy,.str d.name,.str d.zb,.str d.zg]]) (λi=>l.length - i.1) ⟨0,Nat.zero_le _,λj hj=>absurd hj (Nat.not_lt_zero j)⟩ 0 ?_ ?_ (by kernel_rfl)
 ·exact⟨by simp [SLo,perS,za],by simp,by kernel_rfl,Nat.zero_le _⟩
 ·rintro⟨i,hil,hall⟩;refine zc.n zu [1,7] (let v1:List Blk:=[.box [.str d.long,.str d.short,.str d.ccy,.str d.name,.str d.zb,.str d.zg]];.D ((i:Int)<l.length) (.side ((0:Int)<=i/\(i:Int)<l.length) (.D ((300:Int)<(↑(List.length (Per.part (l.getD (i:Int).toNat Per.nil))):Int)) (.R [.bool true] v1) (.S (i+1) (.leaf (.back 0 [(1,.sl l.length 3 (perG l)),(7,.i (i+1))] v1))))) (.R [.bool false] v1)) ?_;simp only [Tree.holds,ze,inR,lo,hi,Int.toNat_natCast];refine⟨λhlt=> ?_,λhge=> ?_⟩
  ·have hlt:i<l.length:=by have:=of_decide_eq_true hlt; omega
   refine⟨by omega,λ_=>⟨λ_=>RetR.scal hqt rfl (by simp [resV]),λh3=>⟨by omega,λ_=> ?_⟩⟩⟩;rw [if_pos trivial];have h3:(l.getD i Per.nil).part.length<=300:=by have:=of_decide_eq_false h3; omega
   refine⟨⟨i+1,hlt,λj hj=> ?_⟩,by show l.length - (i+1)<l.length - i; omega,by simp [SLo,perS,za],by simp,by kernel_rfl,Nat.zero_le _⟩;rcases Nat.lt_succ_iff_lt_or_eq.1 hj with hj | rfl
   ·exact hall j hj
   ·exact h3
  ·have hge:i=l.length:=by have:=of_decide_eq_false hge; omega
   subst hge;exact RetR.scal (hq false λ_=>⟨hs.1,hs.2.1,hs.2.2,hall⟩) rfl (by simp [resV])
noncomputable def GSwp:=tb zbb tz
def zru:Ctr:=ctrP false (λx:PeA=>[x.d.av,perS x.l]) (λx=>x.ok) (λ_ (_:Unit)=>True) (λx _=>(.tup [(Tm.WW (Tm.legS x.d) x.d x.l).conD,.i (Tm.J2 (Tm.legS x.d) x.d x.l)],[]))
theorem zqn:zd Tryz.prog 19 zru:=by
 refine zh (fn:=Tryz.f19) (c:=Tryz.f19.body.getD .skip) rfl rfl rfl λp hp O w0 Q hq=> ?_
 obtain⟨d,l,fl⟩:=p;replace hq:=hq () trivial;refine zc.n GSwp.h [] (.ex (λ(x:PeA)=>eqL [d.av,.sl l.length 3 (perG l),.fn 46 [] [.ptr 0 0]] [x.d.av,.sl x.l.length 3 (perG x.l),.fn 46 [] [.ptr 0 0]]/\eqH [.box [.str d.long,.str d.short,.str d.ccy,.str d.name,.str d.zb,.str d.zg]] [.box [.str x.d.long,.str x.d.short,.str x.d.ccy,.str x.d.name,.str x.d.zb,.str x.d.zg]]/\1=1/\PeA.ok x) λn=>let v1:=Tm.WW (zU n.d n.fl) n.d n.l;.A λn_1=>.R [v1.conD,.i (Tm.J2 (zU n.d n.fl) n.d n.l)] [.box [.str n.d.long,.str n.d.short,.str n.d.ccy,.str n.d.name,.str n.d.zb,.str n.d.zg],.box v1.zq]) ?_;simp only [Tree.holds,ze];refine⟨⟨d,l,fl⟩,⟨⟨⟨rfl,rfl,rfl,rfl,rfl,rfl,trivial⟩,⟨rfl,rfl,za _ _ _⟩,rfl,trivial⟩,by simp,trivial,hp⟩,⟨(),trivial⟩,λ_ _=> ?_⟩;exact RetR.le0 hq (λh=>by cases h) (LeA.refl _)
structure FlA where
 c:Con
 e:Int
 day:Int
 f:List Fx
 h:List Ch
 l:List Fl
def zcy:Ctr:=ctrP true (λp:FlA=>[p.c.conA,.i p.e,.i p.day,envA p.f p.h,flS p.l]) (λp=>FI.pre ⟨p.c,p.day,100000,p.f,p.h⟩/\p.e=0/\j3 p.c p.day p.f p.h=(p.l,0)/\p.l.length<2^40) (λ_ r=>r=true) (λ_ (r:Bool)=>(.bool r,[]))
noncomputable def GFlL:=tb JI (tb Ul tz)
theorem zhb:zd Tryz.prog 29 zcy:=by
 refine zh (fn:=Tryz.f29) (c:=Tryz.f29.body.getD .skip) rfl rfl rfl λp hp O w0 Q hq=> ?_
 obtain⟨c,e,day,f,h,l⟩:=p;obtain⟨p1,p2,p3,p4⟩:=hp;replace hq:=hq _ rfl;simp only at hq p1 p2 p3 p4;subst p2;refine zc.n GFlL.h [] (.ex (q65 [(Con.conA c),.i day,.agg [.sl f.length 3 (fxG f),.sl h.length 4 (chG h)]]) λn=>.all (λ(r:List Fl×Int)=>r=j3 n.c n.day n.f n.h) λn=>.ex (λ(x:List Fl×List Fl)=>(bif decide ((0:Int)=0) then decide (n.2=0) else false)=true->q66 [.sl n.1.length 5 (flG n.1),.sl l.length 5 (flG l)] x) λn_1=>.all (λ(x:Bool)=>(bif decide ((0:Int)=0) then decide (n.2=0) else false)=true->(x=true↔n_1.1=n_1.2)) λn_2=>.R [.bool (bif bif decide ((0:Int)=0) then decide (n.2=0) else false then n_2 else false)] [.box c.zf,.box [.sl f.length 3 (fxG f),.sl h.length 4 (chG h)]]) ?_;simp only [q65,q66,Tree.holds,ze];refine⟨⟨c,day,100000,f,h⟩,⟨⟨qI c,⟨rfl,rfl⟩,⟨⟨rfl,rfl,λ_ _ _ _=>rfl⟩,⟨rfl,rfl,λ_ _ _ _=>rfl⟩,trivial⟩,trivial⟩,p1⟩,⟨_,rfl⟩,?_⟩;rintro _ rfl;simp only [p3];refine⟨(l,l),λ_=>⟨⟨⟨rfl,rfl,λ_ _ _ _=>rfl⟩,⟨rfl,rfl,λ_ _ _ _=>rfl⟩,trivial⟩,p4⟩,⟨true,λ_=>by simp⟩,λr hr=> ?_⟩;obtain rfl:r=true:=(hr (by simp)).2 rfl;exact RetR.scal hq rfl (by simp [resV])
noncomputable def zs0:Ctr:=inlC Tryz.prog noG 100 Tryz.f27
theorem zn3:zd Tryz.prog 27 zs0:=Qt hmix zu rfl rfl
def zl6:Ctr:=ctrP true (λp:Fl=>[.i p.date,.str p.src,.str p.dst,.str p.amt]) (λ_=>True) (λ_ (_:Unit)=>True) (λp _=>(.agg [.i p.date,.str p.src,.str p.dst,.str [85,83,68],.str p.amt],[]))
theorem zo0:zd Tryz.prog 30 zl6:=by
 refine zh (fn:=Tryz.f30) (c:=Tryz.f30.body.getD .skip) rfl rfl rfl λp hp O w0 Q hq=> ?_
 obtain⟨d,a,b,n,r⟩:=p;replace hq:=hq () trivial;simp only at hq;refine zc.n zu [] (.R [.agg [.i d,.str a,.str b,.str #[(85:UInt8),(83:UInt8),(68:UInt8)].toList,.str r]] [.box [.i d,.str a,.str b,.str #[(85:UInt8),(83:UInt8),(68:UInt8)].toList,.str r]]) ?_;simp only [Tree.holds,ze];exact RetR.scal hq rfl (by simp [resV])
def zel:Ctr:=ctrP true (λ_:Unit=>[]) (λ_=>True) (λ_ r=>r=true) (λ_ (r:Bool)=>(.bool r,[]))
def zrh:Ctr:={ zru with sinks:=true }
theorem zht:zd Tryz.prog 19 zrh:=zqn.sink
noncomputable def GAlT:=tb zhb (tb zn3 (tb zo0 (tb Wi (tb zht tz))))
def dAl1:Deal:=⟨[65,110,110],[66,111,98],[85,83,68],[115,112,111,116],[51],[49,48]⟩
def dAl2:Deal:=⟨[65,110,110],[66,111,98],[85,83,68],[105,100,120],[49,47,50,48],[49,48,48]⟩
def lAl2:List Per:=[⟨1,9,[49,47,50]⟩]
def cAl1:Con:=Tm.fwd dAl1 5
def cAl2:Con:=Tm.WW (Tm.legS dAl2) dAl2 lAl2
theorem zpv:Tm.res dAl1 (Tm.fwd dAl1 5)=0:=by decide +kernel
theorem zpa:Tm.out 0 (Tm.fwd dAl1 5)=cAl1:=by unfold Tm.out cAl1; rw [if_pos rfl]
theorem zp9:Tm.J2 (Tm.legS dAl2) dAl2 lAl2=0:=by decide +kernel
def znj:Fl:=⟨5,[66,111,98],[65,110,110],[85,83,68],[53]⟩
def zjc:Fl:=⟨9,[65,110,110],[66,111,98],[85,83,68],[53,47,50]⟩
def zni:Fl:=⟨9,[66,111,98],[65,110,110],[85,83,68],[53]⟩
def fxAl:List Fx:=[⟨[105,100,120],1,[49,47,49,48]⟩,⟨[115,112,111,116],5,[55,47,50]⟩]
theorem zma:j3 cAl1 2 fxAl []=([znj],0):=by kernel_rfl
theorem zmi:j3 cAl2 2 fxAl []=([zjc,zni],0):=by kernel_rfl
theorem zhr:envP (fxAl,[]):=⟨by decide,by decide,by unfold yb; decide,λj hj=>absurd hj (Nat.not_lt_zero j)⟩
theorem zp5:FI.pre ⟨cAl1,2,100000,fxAl,[]⟩:=⟨by show cAl1.big<_; decide +kernel,by show cAl1.nodes<=_; decide +kernel,zhr⟩
theorem zoe:FI.pre ⟨cAl2,2,100000,fxAl,[]⟩:=⟨by show cAl2.big<_; decide +kernel,by show cAl2.nodes<=_; decide +kernel,zhr⟩
noncomputable def LAt:List Go.Sx.Item:=jJ 12 (Tryz.f8.body.getD .skip)
noncomputable def LAt2:List Go.Sx.Item:=LAt.drop 2
def SAt3:KV:=[(1,.ptr 1 0),(2,.ptr 3 0),(3,.i 0)]
def HAt3:Heap:=[.arr 2 3 (fxG fxAl),.box [.osl 0 3 0 2,.nils],.dead,.box cAl1.zq]
noncomputable def LAt3:List Go.Sx.Item:=LAt2.drop 1
def SAt4:KV:=[(1,.ptr 1 0),(2,.ptr 3 0),(3,.i 0),(4,.ptr 6 0),(5,.i 0)]
def HAt4:Heap:=[.arr 2 3 (fxG fxAl),.box [.osl 0 3 0 2,.nils],.dead,.box cAl1.zq,.dead,.dead,.box cAl2.zq]
noncomputable def LAt4:List Go.Sx.Item:=LAt3.drop 1
def SAt2:KV:=[(1,.ptr 1 0)]
def HAt2:Heap:=[.arr 2 3 (fxG fxAl),.box [.osl 0 3 0 2,.nils]]
abbrev q70(A:List AV)(x:Fl):Prop:=eqL A [.i x.date,.str x.src,.str x.dst,.str x.amt]/\True
abbrev q69(A:List AV)(x:Deal×Int):Prop:=eqL A [x.1.av,.i x.2]/\Tm.fits x.1
theorem zfk:zd Tryz.prog 8 zel:=by
 refine zh (fn:=Tryz.f8) (c:=Tryz.f8.body.getD .skip) rfl rfl rfl λp hp O w0 Q hq=> ?_
 replace hq:=hq true rfl;refine zc.spine 12 ?_;refine zc.cutL (ι:=Unit) LAt 2 0 (λ_=>SAt2) (λ_=>HAt2) (by kernel_rfl) (by kernel_rfl) ?_ λ_=> ?_
 ·refine zc.n GAlT.h [1] (.leaf (.back 0 [(1,.ptr 1 0)] [.arr 2 3 (zj 3 [.str #[(105:UInt8),(100:UInt8),(120:UInt8)].toList,.i 1,.str #[(49:UInt8),(47:UInt8),(49:UInt8),(48:UInt8)].toList,.str #[(115:UInt8),(112:UInt8),(111:UInt8),(116:UInt8)].toList,.i 5,.str #[(55:UInt8),(47:UInt8),(50:UInt8)].toList]),.box [.osl 0 3 0 2,.nils]])) ?_;simp only [Tree.holds,ze];rw [if_pos trivial];refine⟨(),by simp [SAt2],⟨⟨rfl,rfl,?_⟩,by simp,trivial⟩,by kernel_rfl,Nat.zero_le _⟩;intro j o hj ho;rcases(show j=0\/j=1 by omega) with rfl | rfl<;>rcases(show o=0\/o=1\/o=2 by omega) with rfl | rfl | rfl<;>rfl
 show jI none Tryz.prog Tryz.f8 O 0 w0 [] _ _ LAt2 _;refine zc.cutL (ι:=Unit) LAt2 1 0 (λ_=>SAt3) (λ_=>HAt3) (by kernel_rfl) (by kernel_rfl) ?_ λ_=> ?_
 ·refine zc.n GAlT.h [1,2,3] (.ex (q69 [.agg [.str #[(65:UInt8),(110:UInt8),(110:UInt8)].toList,.str #[(66:UInt8),(111:UInt8),(98:UInt8)].toList,.str #[(85:UInt8),(83:UInt8),(68:UInt8)].toList,.str #[(115:UInt8),(112:UInt8),(111:UInt8),(116:UInt8)].toList,.str #[(51:UInt8)].toList,.str #[(49:UInt8),(48:UInt8)].toList],.i 5]) λn=>.A λn_1=>.leaf (.back 0 [(1,.ptr 1 0),(2,.ptr 3 0),(3,.i (Tm.res n.1 (Tm.fwd n.1 n.2)))] [.arr 2 3 (fxG fxAl),.box [.osl 0 3 0 2,.nils],.box [.str #[(65:UInt8),(110:UInt8),(110:UInt8)].toList,.str #[(66:UInt8),(111:UInt8),(98:UInt8)].toList,.str #[(85:UInt8),(83:UInt8),(68:UInt8)].toList,.str #[(115:UInt8),(112:UInt8),(111:UInt8),(116:UInt8)].toList,.str #[(51:UInt8)].toList,.str #[(49:UInt8),(48:UInt8)].toList],.box (Con.zq (Tm.out (Tm.res n.1 (Tm.fwd n.1 n.2)) (Tm.fwd n.1 n.2)))])) ?_;simp only [q69,Tree.holds,ze];refine⟨(dAl1,5),⟨⟨⟨rfl,rfl,rfl,rfl,rfl,rfl,trivial⟩,⟨rfl,rfl⟩,trivial⟩,by unfold Tm.fits; decide⟩,⟨(),trivial⟩,λ_ _=> ?_⟩;rw [if_pos trivial];simp only [zpv,zpa];exact⟨(),by simp [SAt3],⟨jT _,jT _,trivial,jT _,trivial⟩,by kernel_rfl,Nat.zero_le _⟩
 show jI none Tryz.prog Tryz.f8 O 0 w0 [] _ _ LAt3 _;refine zc.cutL (ι:=Unit) LAt3 1 0 (λ_=>SAt4) (λ_=>HAt4) (by kernel_rfl) (by kernel_rfl) ?_ λ_=> ?_
 ·refine zc.n GAlT.h [1,2,3,4,5] (.ex (λ(x:PeA)=>eqL [.agg [.str #[(65:UInt8),(110:UInt8),(110:UInt8)].toList,.str #[(66:UInt8),(111:UInt8),(98:UInt8)].toList,.str #[(85:UInt8),(83:UInt8),(68:UInt8)].toList,.str #[(105:UInt8),(100:UInt8),(120:UInt8)].toList,.str #[(49:UInt8),(47:UInt8),(50:UInt8),(48:UInt8)].toList,.str #[(49:UInt8),(48:UInt8),(48:UInt8)].toList],.sl 1 3 (zi (zj 3 [.i 1,.i 9,.str #[(49:UInt8),(47:UInt8),(50:UInt8)].toList]) 0)] [x.d.av,.sl x.l.length 3 (perG x.l)]/\PeA.ok x) λn=>.A λn_1=>.leaf (.back 0 [(1,.ptr 1 0),(2,.ptr 3 0),(3,.i 0),(4,.ptr 6 0),(5,.i (Tm.J2 (Tm.legS n.d) n.d n.l))] [.arr 2 3 (fxG fxAl),.box [.osl 0 3 0 2,.nils],.dead,.box [.int .u8 6,.str cAl1.src,.str cAl1.dst,.str cAl1.name,.int .u8 0,.str (Ex.rat cAl1.x),.str (Ex.name cAl1.x),.i 0,.sl 0 5 (Ex.exG (Ex.sub cAl1.x)),.i 5,.sl 0 1 (Con.dayG cAl1.days),.sl 1 12 (Con.deep cAl1)],.box [.str #[(65:UInt8),(110:UInt8),(110:UInt8)].toList,.str #[(66:UInt8),(111:UInt8),(98:UInt8)].toList,.str #[(85:UInt8),(83:UInt8),(68:UInt8)].toList,.str #[(105:UInt8),(100:UInt8),(120:UInt8)].toList,.str #[(49:UInt8),(47:UInt8),(50:UInt8),(48:UInt8)].toList,.str #[(49:UInt8),(48:UInt8),(48:UInt8)].toList],.dead,.box (Con.zq (Tm.WW (Tm.legS n.d) n.d n.l))])) ?_;simp only [Tree.holds,ze];refine⟨⟨dAl2,lAl2,false⟩,⟨⟨⟨rfl,rfl,rfl,rfl,rfl,rfl,trivial⟩,⟨rfl,rfl,?_⟩,trivial⟩,by unfold Tm.fits; decide,by decide,by decide⟩,⟨(),trivial⟩,λ_ _=> ?_⟩
  ·intro j o hj ho;rcases(show j=0 by omega) with rfl;rcases(show o=0\/o=1\/o=2 by omega) with rfl | rfl | rfl<;>rfl
  rw [if_pos trivial];simp only [zp9];exact⟨(),by simp [SAt4],⟨jT _,jT _,trivial,jT _,trivial,trivial,jT _,trivial⟩,by kernel_rfl,Nat.zero_le _⟩
 show jI none Tryz.prog Tryz.f8 O 0 w0 [] _ _ LAt4 _;refine zc.n GAlT.h [] (let v5:=[AV.sl 2 3 (zi (fxG fxAl) 0),AV.nils];let v3:List AV:=[.int .u8 3,.str cAl2.src,.str cAl2.dst,.str cAl2.name,.int .u8 0,.str (Ex.rat cAl2.x),.str (Ex.name cAl2.x),.i 0,.sl 0 5 (Ex.exG (Ex.sub cAl2.x)),.i 0,.sl 0 1 (Con.dayG cAl2.days),.sl 2 12 (Con.deep cAl2)];let v2:List AV:=[.int .u8 6,.str cAl1.src,.str cAl1.dst,.str cAl1.name,.int .u8 0,.str (Ex.rat cAl1.x),.str (Ex.name cAl1.x),.i 0,.sl 0 5 (Ex.exG (Ex.sub cAl1.x)),.i 5,.sl 0 1 (Con.dayG cAl1.days),.sl 1 12 (Con.deep cAl1)];let v1:=[AV.int .u8 3,AV.str cAl2.src,AV.str cAl2.dst,AV.str cAl2.name,AV.int .u8 0,AV.str (Ex.rat cAl2.x),AV.str (Ex.name cAl2.x),AV.i 0,AV.sl 0 5 (Ex.exG (Ex.sub cAl2.x)),AV.i 0,AV.sl 0 1 (Con.dayG cAl2.days),AV.sl 2 12 (Con.deep cAl2)];.ex (q70 [.i 5,.str #[(66:UInt8),(111:UInt8),(98:UInt8)].toList,.str #[(65:UInt8),(110:UInt8),(110:UInt8)].toList,.str #[(53:UInt8)].toList]) λn=>let v4:=zj 5 [.i n.date,.str n.src,.str n.dst,.str [(85:UInt8),(83:UInt8),(68:UInt8)],.str n.amt];.A λn_1=>.ex (λ(x:FlA)=>eqL [.agg [.int .u8 6,.str cAl1.src,.str cAl1.dst,.str cAl1.name,.int .u8 0,.str (Ex.rat cAl1.x),.str (Ex.name cAl1.x),.i 0,.sl 0 5 (Ex.exG (Ex.sub cAl1.x)),.i 5,.sl 0 1 (Con.dayG cAl1.days),.sl 1 12 (Con.deep cAl1)],.i 0,.i 2,.agg v5,.sl 1 5 (zi (zj 5 [.i n.date,.str n.src,.str n.dst,.str [(85:UInt8),(83:UInt8),(68:UInt8)],.str n.amt]) 0)] [(Con.conA x.c),.i x.e,.i x.day,.agg [.sl x.f.length 3 (fxG x.f),.sl x.h.length 4 (chG x.h)],.sl x.l.length 5 (flG x.l)]/\FI.pre { c:=FlA.c x,day:=FlA.day x,fin:=(100000:Int),f:=FlA.f x,h:=FlA.h x } /\ FlA.e x=0/\j3 x.c x.day x.f x.h=(FlA.l x,(0:Int))/\List.length x.l<1099511627776) λn_2=>.all (λ(r:Bool)=>r=true) λn_3=>.ex (λ(x:Fl)=>n_3=true->q70 [.i 9,.str #[(65:UInt8),(110:UInt8),(110:UInt8)].toList,.str #[(66:UInt8),(111:UInt8),(98:UInt8)].toList,.str #[(53:UInt8),(47:UInt8),(50:UInt8)].toList] x) λn_4=>.all (λ(x:Unit)=>n_3=true->True) λn_5=>.ex (λ(x:Fl)=>n_3=true->q70 [.i 9,.str #[(66:UInt8),(111:UInt8),(98:UInt8)].toList,.str #[(65:UInt8),(110:UInt8),(110:UInt8)].toList,.str #[(53:UInt8)].toList] x) λn_6=>.all (λ(x:Unit)=>n_3=true->True) λn_7=>.ite (n_3 == true) (.ex (λ(x:FlA)=>n_3=true->eqL [.agg v1,.i 0,.i 2,.agg v5,.sl 2 5 (zi (zj 5 [.i n_4.date,.str n_4.src,.str n_4.dst,.str [(85:UInt8),(83:UInt8),(68:UInt8)],.str n_4.amt,.i n_6.date,.str n_6.src,.str n_6.dst,.str [(85:UInt8),(83:UInt8),(68:UInt8)],.str n_6.amt]) 0)] [(Con.conA x.c),.i x.e,.i x.day,.agg [.sl x.f.length 3 (fxG x.f),.sl x.h.length 4 (chG x.h)],.sl x.l.length 5 (flG x.l)]/\FI.pre { c:=FlA.c x,day:=FlA.day x,fin:=(100000:Int),f:=FlA.f x,h:=FlA.h x } /\ FlA.e x=0/\j3 x.c x.day x.f x.h=(FlA.l x,(0:Int))/\List.length x.l<1099511627776) λn_8=>.all (λ(x:Bool)=>n_3=true->x=true) λn_9=>.R [.bool (bif n_3 then n_9 else false)] [.arr 2 3 (fxG fxAl),.box [.osl 0 3 0 2,.nils],.dead,.box v2,.dead,.dead,.box v3,.arr 1 5 v4,.arr 2 5 (zj 5 [.i n_4.date,.str n_4.src,.str n_4.dst,.str [(85:UInt8),(83:UInt8),(68:UInt8)],.str n_4.amt,.i n_6.date,.str n_6.src,.str n_6.dst,.str [(85:UInt8),(83:UInt8),(68:UInt8)],.str n_6.amt])]) (.ex (λ(x:FlA)=>n_3=true->eqL [.agg v1,.i 0,.i 2,.agg v5,AV.nils] [(Con.conA x.c),.i x.e,.i x.day,.agg [.sl x.f.length 3 (fxG x.f),.sl x.h.length 4 (chG x.h)],.sl x.l.length 5 (flG x.l)]/\FI.pre { c:=FlA.c x,day:=FlA.day x,fin:=(100000:Int),f:=FlA.f x,h:=FlA.h x } /\ FlA.e x=0/\j3 x.c x.day x.f x.h=(FlA.l x,(0:Int))/\List.length x.l<1099511627776) λn_8=>.all (λ(x:Bool)=>n_3=true->x=true) λn_9=>.R [.bool (bif n_3 then n_9 else false)] [.arr 2 3 (fxG fxAl),.box [.osl 0 3 0 2,.nils],.dead,.box v2,.dead,.dead,.box v3,.arr 1 5 v4])) ?_;simp only [q70,Tree.holds,ze];refine⟨znj,⟨⟨⟨rfl,rfl⟩,rfl,rfl,rfl,trivial⟩,trivial⟩,⟨(),trivial⟩,λ_ _=> ?_⟩;have eF:eqA (.agg [.sl 2 3 (zi (fxG fxAl) 0),.nils]) (envA fxAl []):=⟨⟨rfl,rfl,λj o _ _=>by simp only [zi,Nat.zero_add]⟩,by simp [chS],trivial⟩;refine⟨⟨cAl1,0,2,fxAl,[],[znj]⟩,⟨⟨j7 cAl1,⟨rfl,rfl⟩,⟨rfl,rfl⟩,eF,⟨rfl,rfl,?_⟩,trivial⟩,zp5,rfl,zma,by show(1:Nat)<_; decide⟩,⟨true,rfl⟩,?_⟩
 ·intro j o hj ho;rcases(show j=0 by omega) with rfl;rcases(show o=0\/o=1\/o=2\/o=3\/o=4 by omega) with rfl | rfl | rfl | rfl | rfl<;>rfl
 rintro _ rfl;refine⟨zjc,λ_=>⟨⟨⟨rfl,rfl⟩,rfl,rfl,rfl,trivial⟩,trivial⟩,⟨(),λ_=>trivial⟩,λ_ _=> ?_⟩;refine⟨zni,λ_=>⟨⟨⟨rfl,rfl⟩,rfl,rfl,rfl,trivial⟩,trivial⟩,⟨(),λ_=>trivial⟩,λ_ _=> ?_⟩;refine⟨λ_=> ?_,λg=>absurd g (by decide)⟩;refine⟨⟨cAl2,0,2,fxAl,[],[zjc,zni]⟩,λ_=>⟨⟨j7 cAl2,⟨rfl,rfl⟩,⟨rfl,rfl⟩,eF,⟨rfl,rfl,?_⟩,trivial⟩,zoe,rfl,zmi,by show(2:Nat)<_; decide⟩,⟨true,λ_=>rfl⟩,λr hr=> ?_⟩
 ·intro j o hj ho;rcases(show j=0\/j=1 by omega) with rfl | rfl<;>rcases(show o=0\/o=1\/o=2\/o=3\/o=4 by omega) with rfl | rfl | rfl | rfl | rfl<;>rfl
 ·obtain rfl:=hr rfl;exact RetR.scal hq rfl (by simp [resV])
structure zux where
 d:Deal
 day:Int
 fr:Int
 f:List Fx
 h:List Ch
def zuy:Ctr:=ctrP true (λp:zux=>[p.d.av,.i p.day,.i p.fr,envA p.f p.h]) (λp=>(p.f.length<2^60/\p.h.length<2^60/\(∀ j,j<p.f.length->zd3 (p.f.getD j Fx.nil))/\∀ j,j<p.h.length->Yn (p.h.getD j Ch.nil))) (λ_ r=>r=true) (λ_ (r:Bool)=>(.bool r,[]))
noncomputable def GPy:=tb zfk (tb zpf (tb zlo (tb zgq (tb Wi (tb zhi (tb zdd (tb zp2 (tb zpe (tb zq9 (tb zmg tz))))))))))
theorem kB(b:Bool):eqH [.box [.bool b]] [.box [.bool b]]:=by simp
theorem zps{p:List Fx×List Ch}(h:fitP p):envP p:=by
 obtain⟨a,b,c,d⟩:=h;exact⟨by omega,by omega,λj hj=>⟨by have:=(c j hj).1; omega,by have:=(c j hj).2; omega⟩,λj hj=>⟨by have:=(d j hj).1; omega,by have:=(d j hj).2; omega⟩⟩
abbrev q74(A:List AV)(x:zw):Prop:=eqL A [(Con.conA (zw.c x)),(Deal.av (zw.d x)),.i (zw.day x),.i (zw.fr x),.agg [.sl (zw.f x).length 3 (fxG (zw.f x)),.sl (zw.h x).length 4 (chG (zw.h x))],.bool (zw.known x),.str (zw.amt x)]/\zw.ok x
abbrev q73(A:List AV)(H:Heap)(x:Bool×L8):Prop:=eqL A [.ptr 0 0,.str x.2]/\eqH H [.box [.bool x.1]]/\1=1/\x.2.length<1152921504606846976
abbrev q72(A:List AV)(H:Heap)(x:NumA):Prop:=eqL A [.ptr 0 0,.str x.a,.str x.b]/\eqH H [.box [.bool x.ok]]/\1=1/\List.length x.a<1152921504606846976/\List.length x.b<1152921504606846976
abbrev q71(A:List AV)(x:Deal×Int×Bool):Prop:=eqL A [x.1.av,.i x.2.1,.bool x.2.2]/\Tm.fits x.1
theorem zj3:zd Tryz.prog 3 zuy:=by
 refine zh (fn:=Tryz.f3) (c:=Tryz.f3.body.getD .skip) rfl rfl rfl λp hp O w0 Q hq=> ?_
 obtain⟨d,day,fr,f,h⟩:=p;replace hq:=hq true rfl;simp only at hp;refine zc.n GPy.h [] (let v6:List AV:=[.sl f.length 3 (fxG f),.sl h.length 4 (chG h)];let v4:=[AV.sl f.length 3 (fxG f),AV.sl h.length 4 (chG h)];let v2:List AV:=[.str d.long,.str d.short,.str d.ccy,.str d.name,.str d.zb,.str d.zg];.ex (λ(x:Unit)=>eqL [] []/\True) λn=>.all (λ(r:Bool)=>r=true) λn=>.ex (λ(x:xU)=>eqL [d.av,AV.nils,AV.nils] [(Deal.av (xU.d x)),.sl (xU.l x).length 3 (perG (xU.l x)),.sl (xU.days x).length 1 (Con.dayG (xU.days x))]/\List.length (xU.l x)<1152921504606846976) λn_1=>.all (λ(r:Bool)=>r=false->Tm.short (xU.d n_1) (xU.l n_1) (xU.days n_1)) λn_2=>.ex (λ(x:List Fx×List Ch)=>n_2=false->eqL [.agg v4] [.agg [.sl x.1.length 3 (fxG x.1),.sl x.2.length 4 (chG x.2)]]/\x.1.length<1152921504606846976/\x.2.length<1152921504606846976/\(∀ (j:Nat),j<x.1.length->zd3 (List.getD x.1 j Fx.nil))/\∀ (j:Nat),j<x.2.length->Yn (List.getD x.2 j Ch.nil)) λn_3=>.all (λ(x:Bool)=>n_2=false->x=false->fitP n_3) λn_4=>.ex (λ(x:Int×List Fx×List Ch)=>(bif bif n_2 then true else n_4 then true else !n)=false->eqL [.i fr,.agg v4] [.i x.1,.agg [.sl x.2.1.length 3 (fxG x.2.1),.sl x.2.2.length 4 (chG x.2.2)]]/\envP x.2) λn_5=>.all (λ(x:Bool)=>(bif bif n_2 then true else n_4 then true else !n)=false->x=(decide ((0:Int)<=n_5.1)&&(decide (n_5.1<=99999)&&decide (errE n_5.2.1 n_5.2.2=0)))) λn_6=>.ite (bif bif bif n_2 then true else n_4 then true else !n then true else !n_6) (.R [.bool n] [.box v2,.box v6]) (.ex (q69 [d.av,.i day]) λn_7=>let v12:=Tm.fwd n_7.1 n_7.2;let v5:=Tm.out (Tm.res n_7.1 v12) v12;.A λn_8=>.ex (q71 [d.av,.i day,.bool false]) λn_9=>let v8:=Tm.pff n_9.1 n_9.2.1 n_9.2.2;let v3:=Tm.out (Tm.res n_9.1 v8) v8;.A λn_10=>.ex (q71 [d.av,.i day,.bool true]) λn_11=>let v9:=Tm.pff n_11.1 n_11.2.1 n_11.2.2;let v1:=Tm.out (Tm.res n_11.1 v9) v9;let v10:List Blk:=[.box v2,.box v6,.box v5.zq,.box v3.zq,.box v1.zq,.box [.bool true]];.A λn_12=>.ite (bif bif !decide (Tm.res n_7.1 v12=(0:Int)) then true else !decide (Tm.res n_9.1 v8=(0:Int)) then true else !decide (Tm.res n_11.1 v9=(0:Int))) (.R [.bool (bif bif n then decide (Tm.res n_7.1 v12=Tm.res n_9.1 v8) else false then decide (Tm.res n_9.1 v8=Tm.res n_11.1 v9) else false)] [.box v2,.box v6,.box v5.zq,.box v3.zq,.box v1.zq]) (.ex (q42 [.agg v4,.str d.name,.i day]) λn_13=>.all (λ(r:L8×Bool)=>r=zC n_13.1.1 n_13.2.1 n_13.2.2) λn_14=>let v13:=[AV.ptr 0 0,AV.str n_14.1,AV.str d.zb];.ite n_14.2 (.ex (q72 v13 [.box [.bool true]]) λn_15=>let v14:=subR n_15.a n_15.b;.A λn_16=>.ex (q72 [.ptr 0 0,.str v14.1,.str d.zg] [.box [.bool (NumA.ok n_15&&decide (Prod.snd v14=(0:Int)))]]) λn_17=>let v15:=mulR n_17.a n_17.b;.A λn_18=>.ex (q72 v13 [.box [.bool (NumA.ok n_17&&decide (Prod.snd v15=(0:Int)))]]) λn_19=>let v16:=subR n_19.a n_19.b;.A λn_20=>.ex (q73 [.ptr 0 0,.str v16.1] [.box [.bool (NumA.ok n_19&&decide (Prod.snd v16=(0:Int)))]]) λn_21=>.A λn_22=>.ex (q72 [.ptr 0 0,.str (Tm.posR n_21.2),.str d.zg] [.box [.bool (n_21.1&&decide (Prod.snd (cmpR n_21.2 [(48:UInt8)])=(0:Int)))]]) λn_23=>let v17:=mulR n_23.a n_23.b;.A λn_24=>.ex (q72 [.ptr 0 0,.str d.zb,.str n_14.1] [.box [.bool (NumA.ok n_23&&decide (Prod.snd v17=(0:Int)))]]) λn_25=>let v18:=subR n_25.a n_25.b;.A λn_26=>.ex (q73 [.ptr 0 0,.str v18.1] [.box [.bool (NumA.ok n_25&&decide (Prod.snd v18=(0:Int)))]]) λn_27=>.A λn_28=>.ex (q72 [.ptr 0 0,.str (Tm.posR n_27.2),.str d.zg] [.box [.bool (n_27.1&&decide (Prod.snd (cmpR n_27.2 [(48:UInt8)])=(0:Int)))]]) λn_29=>let v11:=mulR n_29.a n_29.b;let v7:List Blk:=[.box v2,.box v6,.box v5.zq,.box v3.zq,.box v1.zq,.box [.bool (NumA.ok n_29&&decide (Prod.snd v11=(0:Int)))]];.A λn_30=>.ite (!(NumA.ok n_29&&decide (Prod.snd v11=(0:Int)))) (.R [.bool n] v7) (.ex (λ(x:zw)=>n=true->q74 [v5.conD,d.av,.i day,.i fr,.agg v4,.bool n_14.2,.str v15.1] x) λn_31=>.all (λ(x:Bool)=>n=true->x=true) λn_32=>.ex (λ(x:zw)=>(bif n then n_32 else false)=true->q74 [v3.conD,d.av,.i day,.i fr,.agg v4,.bool n_14.2,.str v17.1] x) λn_33=>.all (λ(x:Bool)=>(bif n then n_32 else false)=true->x=true) λn_34=>.ex (λ(x:zw)=>(bif bif n then n_32 else false then n_34 else false)=true->q74 [v1.conD,d.av,.i day,.i fr,.agg v4,.bool n_14.2,.str v11.1] x) λn_35=>.all (λ(x:Bool)=>(bif bif n then n_32 else false then n_34 else false)=true->x=true) λn_36=>.R [.bool (bif bif bif n then n_32 else false then n_34 else false then n_36 else false)] v7)) (.ite false (.R [.bool n] v10) (.ex (λ(x:zw)=>n=true->q74 [v5.conD,d.av,.i day,.i fr,.agg v4,.bool n_14.2,.str #[(48:UInt8)].toList] x) λn_15=>.all (λ(x:Bool)=>n=true->x=true) λn_16=>.ex (λ(x:zw)=>(bif n then n_16 else false)=true->q74 [v3.conD,d.av,.i day,.i fr,.agg v4,.bool n_14.2,.str #[(48:UInt8)].toList] x) λn_17=>.all (λ(x:Bool)=>(bif n then n_16 else false)=true->x=true) λn_18=>.ex (λ(x:zw)=>(bif bif n then n_16 else false then n_18 else false)=true->q74 [v1.conD,d.av,.i day,.i fr,.agg v4,.bool n_14.2,.str #[(48:UInt8)].toList] x) λn_19=>.all (λ(x:Bool)=>(bif bif n then n_16 else false then n_18 else false)=true->x=true) λn_20=>.R [.bool (bif bif bif n then n_16 else false then n_18 else false then n_20 else false)] v10))))) ?_;simp only [q42,q69,q71,q72,q73,q74,Tree.holds,ze];refine⟨(),⟨trivial,trivial⟩,⟨true,rfl⟩,?_⟩;rintro _ rfl;refine⟨⟨d,[],[]⟩,⟨⟨⟨rfl,rfl,rfl,rfl,rfl,rfl,trivial⟩,by simp [perS],by simp [Con.dayS],trivial⟩,by show(0:Nat)<_; decide⟩,⟨true,λh=>by cases h⟩,λb1 hb1=> ?_⟩;have eF:eqA (.agg [.sl f.length 3 (fxG f),.sl h.length 4 (chG h)]) (envA f h):=⟨⟨rfl,rfl,λ_ _ _ _=>rfl⟩,⟨rfl,rfl,λ_ _ _ _=>rfl⟩,trivial⟩;refine⟨(f,h),λ_=>⟨⟨eF,trivial⟩,hp⟩,⟨true,λ_ h=>by cases h⟩,λb2 hb2=> ?_⟩;cases b1 with
 | true=>
  refine⟨(fr,f,h),λh=>(by cases h),⟨true,λh=>(by cases h)⟩,λb3 hb3=>⟨λ_=>RetR.scal hq rfl rfl,λh=>by cases h⟩⟩
 | false=>
 cases b2 with
 | true=>
  refine⟨(fr,f,h),λh=>(by cases h),⟨true,λh=>(by cases h)⟩,λb3 hb3=>⟨λ_=>RetR.scal hq rfl rfl,λh=>by cases h⟩⟩
 | false=>
 have hfit:fitP (f,h):=hb2 rfl rfl;have hsh:=(hb1 rfl).1;simp only at hsh;have henv:envP (f,h):=zps hfit;refine⟨(fr,f,h),λ_=>⟨⟨⟨rfl,rfl⟩,eF,trivial⟩,henv⟩,⟨_,λ_=>rfl⟩,λb3 hb3=> ?_⟩;obtain rfl:=hb3 rfl;refine⟨λ_=>RetR.scal hq rfl rfl,λhu=> ?_⟩;have hu:(decide (0<=fr)&&(decide (fr<=99999)&&decide (errE f h=0)))=true:=by simpa using hu
 simp only [Bool.and_eq_true,decide_eq_true_eq] at hu;obtain⟨u1,u2,u3⟩:=hu;have e0:eqA (.agg [.str d.long,.str d.short,.str d.ccy,.str d.name,.str d.zb,.str d.zg]) d.av:=⟨rfl,rfl,rfl,rfl,rfl,rfl,trivial⟩;refine⟨(d,day),⟨⟨e0,⟨rfl,rfl⟩,trivial⟩,hsh⟩,⟨(),trivial⟩,λ_ _=> ?_⟩;refine⟨(d,day,false),⟨⟨e0,⟨rfl,rfl⟩,rfl,trivial⟩,hsh⟩,⟨(),trivial⟩,λ_ _=> ?_⟩;refine⟨(d,day,true),⟨⟨e0,⟨rfl,rfl⟩,rfl,trivial⟩,hsh⟩,⟨(),trivial⟩,λ_ _=> ?_⟩;simp only [Tm.QW];refine⟨λg=> ?_,λg=> ?_⟩
 ·refine RetR.scal hq rfl (by simp [resV])
 have hr:Tm.res d (Tm.fwd d day)=0:=by simpa using g
 clear g;obtain⟨r1,r2,r3,r4⟩:=Tm.JL hr;obtain⟨_,_,q3,q4⟩:=Tm.JL (c:=Tm.pff d day false) (by rw [Tm.QW]; exact hr);obtain⟨_,_,z3,z4⟩:=Tm.JL (c:=Tm.pff d day true) (by rw [Tm.QW]; exact hr);rw [Tm.QW] at q4 z4;simp only [r4,q4,z4];refine⟨((f,h),d.name,day),⟨⟨eF,rfl,⟨rfl,rfl⟩,trivial⟩,henv.1⟩,⟨_,rfl⟩,?_⟩;rintro _ rfl;simp only
 have hsl:(zC f d.name day).1.length<=20000:=by
  unfold zC;cases hf:f.find? λx=>decide (x.name=d.name)&&decide (x.date=day) with
  | none=>simp
  | some y=>
   obtain⟨j,hj⟩:=List.mem_iff_getElem?.1 (List.mem_of_find?_eq_some hf);have hlt:=(List.getElem?_eq_some_iff.1 hj).1;have:=(hfit.2.2.1 j hlt).2;have e:f.getD j Fx.nil=y:=by simp [List.getD,hj]
   rw [e] at this;exact this
 have hsv:(zC f d.name day).2=true->errR (zC f d.name day).1=0:=λhf=>by
  have e:fixR f d.name day=((zC f d.name day).1,0):=by unfold fixR; rw [if_pos hf]
  have:=XM (XY.1 u3).2.1 (a:=d.name) (d:=day) (by rw [e]);rw [e] at this;exact this
 have hkl:=j0 r1;have hul:=j0 r2;have bigF:∀ c:Con,c.big<100000->FI.pre ⟨c,fr,100000,f,h⟩:=λc hc=>⟨by show c.big<_; omega,by have:=Con.kW c; have:=Con.Y1 c; show c.nodes<=_; omega,henv⟩
 have k1:=bigF _ (Tm.zd4 (day:=day) hsh);have k2:=bigF _ (Tm.XV (day:=day) (put:=false) hsh);have k3:=bigF _ (Tm.XV (day:=day) (put:=true) hsh);have m1:=Tm.zjq (h:=h) r3 u3 u1 u2;have m2:=Tm.Um (h:=h) q3 r1 u3 u1 u2;have m3:=Tm.Um (h:=h) z3 r1 u3 u1 u2;generalize hS:(zC f d.name day).1=S at hsl hsv m1 m2 m3 ⊢;refine⟨λhk=> ?_,λhk=> ?_⟩
 ·have hs:=hsv hk;have l1:=Tm.Yj S d.zb;have l2:=Tm.Yj d.zb S;have l3:=Tm.Ur l1 (by decide);have l4:=Tm.Ur l2 (by decide);refine⟨⟨true,S,d.zb⟩,⟨⟨⟨rfl,rfl⟩,rfl,rfl,trivial⟩,by simp,trivial,by show S.length<_; omega,by show d.zb.length<_; omega⟩,⟨(),trivial⟩,λ_ _=> ?_⟩;refine⟨⟨(true&&decide ((subR S d.zb).2=0)),(subR S d.zb).1,d.zg⟩,⟨⟨⟨rfl,rfl⟩,rfl,rfl,trivial⟩,kB _,trivial,by show(subR S d.zb).1.length<_; omega,by show d.zg.length<_; omega⟩,⟨(),trivial⟩,λ_ _=> ?_⟩;refine⟨⟨((true&&decide ((subR S d.zb).2=0))&&decide ((mulR (subR S d.zb).1 d.zg).2=0)),S,d.zb⟩,⟨⟨⟨rfl,rfl⟩,rfl,rfl,trivial⟩,kB _,trivial,by show S.length<_; omega,by show d.zb.length<_; omega⟩,⟨(),trivial⟩,λ_ _=> ?_⟩;refine⟨((((true&&decide ((subR S d.zb).2=0))&&decide ((mulR (subR S d.zb).1 d.zg).2=0))&&decide ((subR S d.zb).2=0)),(subR S d.zb).1),⟨⟨⟨rfl,rfl⟩,rfl,trivial⟩,kB _,trivial,by show(subR S d.zb).1.length<_; omega⟩,⟨(),trivial⟩,λ_ _=> ?_⟩;refine⟨⟨((((true&&decide ((subR S d.zb).2=0))&&decide ((mulR (subR S d.zb).1 d.zg).2=0))&&decide ((subR S d.zb).2=0))&&decide ((cmpR (subR S d.zb).1 [48]).2=0)),Tm.posR (subR S d.zb).1,d.zg⟩,⟨⟨⟨rfl,rfl⟩,rfl,rfl,trivial⟩,kB _,trivial,by show(Tm.posR (subR S d.zb).1).length<_; omega,by show d.zg.length<_; omega⟩,⟨(),trivial⟩,λ_ _=> ?_⟩;refine⟨⟨(((((true&&decide ((subR S d.zb).2=0))&&decide ((mulR (subR S d.zb).1 d.zg).2=0))&&decide ((subR S d.zb).2=0))&&decide ((cmpR (subR S d.zb).1 [48]).2=0))&&decide ((mulR (Tm.posR (subR S d.zb).1) d.zg).2=0)),d.zb,S⟩,⟨⟨⟨rfl,rfl⟩,rfl,rfl,trivial⟩,kB _,trivial,by show d.zb.length<_; omega,by show S.length<_; omega⟩,⟨(),trivial⟩,λ_ _=> ?_⟩;refine⟨(((((((true&&decide ((subR S d.zb).2=0))&&decide ((mulR (subR S d.zb).1 d.zg).2=0))&&decide ((subR S d.zb).2=0))&&decide ((cmpR (subR S d.zb).1 [48]).2=0))&&decide ((mulR (Tm.posR (subR S d.zb).1) d.zg).2=0))&&decide ((subR d.zb S).2=0)),(subR d.zb S).1),⟨⟨⟨rfl,rfl⟩,rfl,trivial⟩,kB _,trivial,by show(subR d.zb S).1.length<_; omega⟩,⟨(),trivial⟩,λ_ _=> ?_⟩;refine⟨⟨(((((((true&&decide ((subR S d.zb).2=0))&&decide ((mulR (subR S d.zb).1 d.zg).2=0))&&decide ((subR S d.zb).2=0))&&decide ((cmpR (subR S d.zb).1 [48]).2=0))&&decide ((mulR (Tm.posR (subR S d.zb).1) d.zg).2=0))&&decide ((subR d.zb S).2=0))&&decide ((cmpR (subR d.zb S).1 [48]).2=0)),Tm.posR (subR d.zb S).1,d.zg⟩,⟨⟨⟨rfl,rfl⟩,rfl,rfl,trivial⟩,kB _,trivial,by show(Tm.posR (subR d.zb S).1).length<_; omega,by show d.zg.length<_; omega⟩,⟨(),trivial⟩,λ_ _=> ?_⟩;show((!((((((((true&&decide ((subR S d.zb).2=0))&&decide ((mulR (subR S d.zb).1 d.zg).2=0))&&decide ((subR S d.zb).2=0))&&decide ((cmpR (subR S d.zb).1 [48]).2=0))&&decide ((mulR (Tm.posR (subR S d.zb).1) d.zg).2=0))&&decide ((subR d.zb S).2=0))&&decide ((cmpR (subR d.zb S).1 [48]).2=0))&&decide ((mulR (Tm.posR (subR d.zb S).1) d.zg).2=0)))=true->_)/\((!((((((((true&&decide ((subR S d.zb).2=0))&&decide ((mulR (subR S d.zb).1 d.zg).2=0))&&decide ((subR S d.zb).2=0))&&decide ((cmpR (subR S d.zb).1 [48]).2=0))&&decide ((mulR (Tm.posR (subR S d.zb).1) d.zg).2=0))&&decide ((subR d.zb S).2=0))&&decide ((cmpR (subR d.zb S).1 [48]).2=0))&&decide ((mulR (Tm.posR (subR d.zb S).1) d.zg).2=0)))=false->_);refine⟨λ_=>RetR.scal hq rfl rfl,λg=> ?_⟩;have g:((((((((true&&decide ((subR S d.zb).2=0))&&decide ((mulR (subR S d.zb).1 d.zg).2=0))&&decide ((subR S d.zb).2=0))&&decide ((cmpR (subR S d.zb).1 [48]).2=0))&&decide ((mulR (Tm.posR (subR S d.zb).1) d.zg).2=0))&&decide ((subR d.zb S).2=0))&&decide ((cmpR (subR d.zb S).1 [48]).2=0))&&decide ((mulR (Tm.posR (subR d.zb S).1) d.zg).2=0))=true:=by rw [Bool.not_eq_false'] at g; exact g
  simp only [Bool.and_eq_true,decide_eq_true_eq,true_and] at g;obtain⟨⟨⟨⟨⟨⟨⟨y1,y2⟩,_⟩,y4⟩,y5⟩,y6⟩,y7⟩,y8⟩:=g;have v1:=ZJ hs r1 y1;have v2:=ui v1.1 r2 y2;have v3:=(Tm.Wj v1.1).2.2;have v4:=ui v3 r2 y5;have v5:=ZJ r1 hs y6;have v6:=(Tm.Wj v5.1).2.2;have v7:=ui v6 r2 y8
  have ok1:zw.ok ⟨Tm.fwd d day,d,day,fr,f,h,(zC f d.name day).2,(mulR (subR S d.zb).1 d.zg).1⟩:=by
   refine⟨k1,λg=> ?_,λg hk'=> ?_,λg _=>⟨v2.1,?_⟩⟩
   ·show j3 (Tm.fwd d day) fr f h=_;rw [m1,if_pos g]
   ·rw [show(zC f d.name day).2=false from hk'] at hk; cases hk
   ·show j3 (Tm.fwd d day) fr f h=_;rw [m1,if_neg g,if_neg (by rw [hk]; decide),if_neg (λx=>x y1),if_neg (λx=>x y2)]
  have ok2:zw.ok ⟨Tm.pff d day false,d,day,fr,f,h,(zC f d.name day).2,(mulR (Tm.posR (subR S d.zb).1) d.zg).1⟩:=by
   refine⟨k2,m2.1,λg hk'=> ?_,λg _=>⟨v4.1,m2.2.2 g hk hs y1 y5⟩⟩;rw [show(zC f d.name day).2=false from hk'] at hk; cases hk
  have ok3:zw.ok ⟨Tm.pff d day true,d,day,fr,f,h,(zC f d.name day).2,(mulR (Tm.posR (subR d.zb S).1) d.zg).1⟩:=by
   refine⟨k3,m3.1,λg hk'=> ?_,λg _=>⟨v7.1,m3.2.2 g hk hs y6 y8⟩⟩;rw [show(zC f d.name day).2=false from hk'] at hk; cases hk
  refine⟨⟨Tm.fwd d day,d,day,fr,f,h,(zC f d.name day).2,(mulR (subR S d.zb).1 d.zg).1⟩,λ_=>⟨⟨jc _,e0,⟨rfl,rfl⟩,⟨rfl,rfl⟩,eF,rfl,rfl,trivial⟩,ok1⟩,⟨true,λ_=>rfl⟩,λb1 hb1=> ?_⟩;obtain rfl:=hb1 trivial;refine⟨⟨Tm.pff d day false,d,day,fr,f,h,(zC f d.name day).2,(mulR (Tm.posR (subR S d.zb).1) d.zg).1⟩,λ_=>⟨⟨jc _,e0,⟨rfl,rfl⟩,⟨rfl,rfl⟩,eF,rfl,rfl,trivial⟩,ok2⟩,⟨true,λ_=>rfl⟩,λb2 hb2=> ?_⟩;obtain rfl:=hb2 rfl;refine⟨⟨Tm.pff d day true,d,day,fr,f,h,(zC f d.name day).2,(mulR (Tm.posR (subR d.zb S).1) d.zg).1⟩,λ_=>⟨⟨jc _,e0,⟨rfl,rfl⟩,⟨rfl,rfl⟩,eF,rfl,rfl,trivial⟩,ok3⟩,⟨true,λ_=>rfl⟩,λb3 hb3=> ?_⟩;obtain rfl:=hb3 rfl;exact RetR.scal hq rfl rfl
 ·refine⟨λx=>(by cases x),λ_=> ?_⟩
  have ok1:zw.ok ⟨Tm.fwd d day,d,day,fr,f,h,(zC f d.name day).2,[48]⟩:=by
   refine⟨k1,λg=> ?_,λg hk'=> ?_,λg hk'=> ?_⟩
   ·show j3 (Tm.fwd d day) fr f h=_;rw [m1,if_pos g]
   ·show j3 (Tm.fwd d day) fr f h=_;rw [m1,if_neg g,if_pos hk]
   ·rw [show(zC f d.name day).2=true from hk'] at hk; cases hk
  have ok2:zw.ok ⟨Tm.pff d day false,d,day,fr,f,h,(zC f d.name day).2,[48]⟩:=by
   refine⟨k2,m2.1,m2.2.1,λg hk'=> ?_⟩;rw [show(zC f d.name day).2=true from hk'] at hk; cases hk
  have ok3:zw.ok ⟨Tm.pff d day true,d,day,fr,f,h,(zC f d.name day).2,[48]⟩:=by
   refine⟨k3,m3.1,m3.2.1,λg hk'=> ?_⟩;rw [show(zC f d.name day).2=true from hk'] at hk; cases hk
  refine⟨⟨Tm.fwd d day,d,day,fr,f,h,(zC f d.name day).2,[48]⟩,λ_=>⟨⟨jc _,e0,⟨rfl,rfl⟩,⟨rfl,rfl⟩,eF,rfl,rfl,trivial⟩,ok1⟩,⟨true,λ_=>rfl⟩,λb1 hb1=> ?_⟩;obtain rfl:=hb1 trivial;refine⟨⟨Tm.pff d day false,d,day,fr,f,h,(zC f d.name day).2,[48]⟩,λ_=>⟨⟨jc _,e0,⟨rfl,rfl⟩,⟨rfl,rfl⟩,eF,rfl,rfl,trivial⟩,ok2⟩,⟨true,λ_=>rfl⟩,λb2 hb2=> ?_⟩;obtain rfl:=hb2 rfl;refine⟨⟨Tm.pff d day true,d,day,fr,f,h,(zC f d.name day).2,[48]⟩,λ_=>⟨⟨jc _,e0,⟨rfl,rfl⟩,⟨rfl,rfl⟩,eF,rfl,rfl,trivial⟩,ok3⟩,⟨true,λ_=>rfl⟩,λb3 hb3=> ?_⟩;obtain rfl:=hb3 rfl;exact RetR.scal hq rfl rfl
end Go.Proofs.Tryz
end
section
open Go Go.Sx Go.Proofs Go.Nov
namespace Go.Proofs.Tryz
def zuz(p:List Fx×List Ch):Prop:=p.1.length<2^60/\p.2.length<2^60/\(∀ j,j<p.1.length->zd3 (p.1.getD j Fx.nil))/\∀ j,j<p.2.length->Yn (p.2.getD j Ch.nil)
end Go.Proofs.Tryz
end
section
namespace Go.Sx
variable [Stat]
open Go.RowKit (Below)
def E0:Nat->Prop:=Own (λ_=>False) []
theorem U6(b:Nat):¬ E0 b:=by
 rintro(h | ⟨e,he,_⟩)
 ·exact h
 ·simp at he
def Tw(P:Program)(W:World)(t:TypeId)(cs:List Value):Prop:=∃ (H:Type) (enc:TypeId×Value->H) (base fuel:Nat) (d:DataW H) (ps:List MemPlace),DataW.trod enc P W base (λ_=>true) true fuel t cs=some (d,ps)/\∀ n∈d.weights P t,n<=reachBytes
section
variable {P:Program} {W:World} {t e:TypeId} {cs:List Value}
theorem kT(ht:P.underlying t=some .string)(h:Tw P W t cs):∃ s:L8,cs=[.string ⟨s.toArray⟩]/\s.length<=reachBytes:=by
 obtain⟨H,enc,base,fuel,d,ps,h,hw⟩:=h;obtain⟨s,rfl,hx,_⟩:=DataW.trod_string ht h;cases hx;exact⟨s.data.toList,by simp,hw _ (by simp [DataW.weights])⟩
theorem zbs{k:IntKind}(ht:P.underlying t=some (.int k))(h:Tw P W t cs):∃ n,cs=[.int k n]/\(Lit.int k n).wf=true:=by
 obtain⟨H,enc,base,fuel,d,ps,h,hw⟩:=h;obtain⟨n,rfl,hx,hwf⟩:=DataW.trod_int ht h;exact⟨n,rfl,hwf⟩
theorem zqm(ht:P.underlying t=some .bool)(h:Tw P W t cs):∃ b,cs=[.bool b]:=by
 obtain⟨H,enc,base,fuel,d,ps,h,hw⟩:=h;obtain⟨b,rfl,hx⟩:=DataW.trod_bool ht h;exact⟨b,rfl⟩
theorem yX{fs:Array Field}(ht:P.underlying t=some (.struct fs))(h:Tw P W t cs):cs.length=P.cellsOf t/\∀ (i:Nat) (f:Field),fs[i]?=some f->Tw P W f.type ((cs.drop f.offset).take (P.cellsOf f.type)):=by
 obtain⟨H,enc,base,fuel,d,ps,h,hw⟩:=h;obtain⟨xs,n,_,hx,hl,hlen,hf⟩:=DataW.trod_struct ht h;cases hx;refine⟨hl,λi f hfi=> ?_⟩;have hi:=hf i f hfi
 have hlt:i<xs.length:=by
  rw [hlen]; exact(Array.getElem?_eq_some_iff.1 hfi).1
 rw [List.getElem?_eq_getElem hlt] at hi;refine⟨H,enc,base,n,xs[i].1,xs[i].2,hi,λm hm=>hw m ?_⟩;simp only [DataW.weights,ht];exact DataW.weights_mem_each (j:=i) (t:=f.type) (d:=xs[i].1) (by simp [hfi]) (by simp [hlt]) m hm
theorem yy{H:Type}{d:DataW H} : ∀ {l:List (DataW H)},d∈l->∀ n∈d.weights P e,n∈DataW.weightsAll P e l
 | x::l,hd,n,hn=>by
  simp only [DataW.weightsAll,List.mem_append];rcases List.mem_cons.1 hd with rfl | hd
  ·exact .inl hn
  ·exact .inr (yy hd n hn)
theorem zmb(ht:P.underlying t=some (.slice e))(h:Tw P W t cs):cs=[.slice none 0 0]\/∃ (a:Addr) (len cap:Nat),cs=[.slice (some a) len cap]/\len<=cap/\cap*P.bytesOf e<=reachBytes /\
  ∀ i,i<len->∃ cs',cs'.length=P.cellsOf e/\(∀ o,o<P.cellsOf e->W.cell? ((a.add (i*P.cellsOf e)).add o)=cs'[o]?)/\Tw P W e cs':=by
 obtain⟨H,enc,base,fuel,d,ps,h,hw⟩:=h;rcases DataW.trod_slice ht h with ⟨rfl,_⟩ | ⟨a,len,cap,elems,rest,n,_,rfl,hx,hb,hl,hm,hlen,hel,hsp,_⟩
 ·exact .inl rfl
 ·right;cases hx;obtain⟨hrl,_⟩:=hsp rfl;simp only [DataW.weights,ht] at hw;refine⟨a,len,cap,rfl,hl,?_,λi hi=> ?_⟩
  ·have:=hw _ (List.mem_cons_self);simp only [List.length_map,hlen,hrl] at this
   rwa [show len+(cap - len)=cap by omega] at this
  ·have h1:=hel i hi;have hlt:i<elems.length:=by rw [hlen]; exact hi
   rw [List.getElem?_eq_getElem hlt,Option.bind_eq_some_iff] at h1;obtain⟨cs',h2,h3⟩:=h1;obtain⟨_,h4,h5⟩:=World.cells?_some h2;refine⟨cs',h4,h5,H,enc,base,n,elems[i].1,elems[i].2,h3,λm hm2=>hw m ?_⟩;simp only [List.mem_cons,List.mem_append];exact .inr (.inl (yy (d:=elems[i].1) (List.mem_map.2 ⟨elems[i],List.getElem_mem hlt,rfl⟩) m hm2))
theorem V4{α:Type}(z:α)(cell:α->Nat->AV)(good:α->Prop){sz:Nat}(ht:P.underlying t=some (.slice e))(hsz:P.cellsOf e=sz)(hpos:0<sz)
  (hel:∀ cs',Tw P W e cs'->∃ x:α,good x/\∀ o,o<sz->∃ c,cs'[o]?=some c/\c.oneCell'=true/\Rep E0 W (cell x o) [] c) (h:Tw P W t cs) :
  ∃ (l:List α) (v:Value),cs=[v]/\(∀ x∈l,good x)/\l.length*P.bytesOf e<=reachBytes/\v.oneCell'=true/\Rep E0 W (.sl l.length sz λj=>cell (l.getD j z)) [] v:=by
 rcases zmb ht h with rfl | ⟨a,len,cap,rfl,hl,hw,hx⟩
 ·refine⟨[],_,rfl,by simp,by simp,rfl,?_⟩;simp only [Rep];exact⟨none,0,rfl,Nat.le_refl _,.inl rfl⟩
 ·rw [hsz] at hx
  have hx2:∀ i,∃ x:α,i<len->good x/\∀ o,o<sz->∃ c,W.cell? ((a.add (i*sz)).add o)=some c/\c.oneCell'=true/\Rep E0 W (cell x o) [] c:=λi=>by
   by_cases hi:i<len
   ·obtain⟨cs',h1,h2,h3⟩:=hx i hi;obtain⟨x,hg,hc⟩:=hel cs' h3
    exact⟨x,λ_=>⟨hg,λo ho=>by
     obtain⟨c,g1,g2,g3⟩:=hc o ho;exact⟨c,by rw [h2 o ho,g1],g2,g3⟩⟩⟩
   ·exact⟨z,λh=>absurd h hi⟩
  obtain⟨f,hf⟩:=Classical.axiomOfChoice hx2;have hgd:∀ j,j<len->((List.range len).map f).getD j z=f j:=λj hj=>by simp [List.getD,hj]
  refine⟨(List.range len).map f,_,rfl,λx hxm=> ?_,?_,rfl,?_⟩
  ·obtain⟨i,hi,rfl⟩:=List.mem_map.1 hxm;exact(hf i (List.mem_range.1 hi)).1
  ·simp only [List.length_map,List.length_range];exact Nat.le_trans (Nat.mul_le_mul_right _ hl) hw
  ·simp only [Rep,List.length_map,List.length_range];refine⟨some a,cap,rfl,hl,?_⟩;rcases Nat.eq_zero_or_pos len with h0 | h0
   ·exact .inl h0
   ·right
    have hspot:a.spot=none:=by
     obtain⟨c,g1,_⟩:=(hf 0 h0).2 0 hpos;have:=World.cell?_spot g1;simpa [Addr.add] using this
    refine⟨a,rfl,hspot,λj o hj ho=>⟨U6 _,?_⟩⟩;obtain⟨c,g1,g2,g3⟩:=(hf j hj).2 o ho;refine⟨c,?_,g2,by rw [hgd j hj]; exact g3⟩;rw [<- g1];obtain⟨b,off,spot⟩:=a;simp only at hspot;subst hspot;congr 1;simp only [Addr.add];split<;>split<;>simp_all<;>omega
theorem zhf{g:Nat}{fn:Func}{c:Code}(hf:P.funcs[g]?=some fn)(hb:fn.body=some c) (hn:(fn.name == "runtime.NumGoroutine")=false) {ctr:Ctr} (hok:zd P g ctr) {args:List AV} {vals:List Value}
  (hspec:(ctr.spec args []).holds λr=>r=(.bool true,[])) (hr:RepL E0 W args [] vals) (hst:ku E0 W):Calls P g vals.toArray W λe W'=>e = .returned (.bool true)/\Below W.heap.size W W':=by
 have hn':¬ fn.name = "runtime.NumGoroutine" :=by simpa using hn
 have hg:Good (λ_=>False) W []:=⟨λb h=>h.elim,λi e ad he=>by simp at he,hst⟩;have hh:HRep (Own (λ_=>False) []) W [] []:=⟨rfl,λi j e f a b he=>by simp at he,λi e a he=>by simp at he,λi e b he=>by simp at he⟩;rcases hok args [] _ hspec (λ_=>rfl) (λ_=>False) W [] vals hg hh hr with ⟨_,h⟩ | ⟨v,w',h,_⟩
 ·refine h.mono ?_;rintro e W' ⟨v,rfl,r,hs,Z',hq,h1,_,_,_,_,hx⟩;cases hq;simp only [Rep] at h1;subst h1;exact⟨rfl,hx.os,hx.tape,hx.output,hx.size,λk hk=>hx.keep k hk λ⟨e,he,_⟩=>by simp at he⟩
 ·simp [callFunc,hf,hn',hb] at h
end
end Go.Sx
end
section
namespace Go.Sx
variable [Stat]
section
variable {P:Program} {W:World} {t e:TypeId} {cs:List Value}
theorem zjp{H:Type}{enc:TypeId×Value->H}{base:Nat}{sp:Nat->Bool}{held:Bool}{fuel:Nat}{kd:IntKind}{ps:List Int}{q:List MemPlace}(ht:P.underlying t=some (.slice e))(he:P.underlying e=some (.int kd))(hc:P.cellsOf e=1)(hne:ps≠[])
  (h:DataW.trod enc P W base sp held fuel t cs=some (.slice (ps.map λz=>.lit (.int kd z)) [],q)):∃ c,cs=[c]/\c.oneCell'=true/\Rep E0 W (.sl ps.length 1 λj _=>.int kd (ps.getD j 0)) [] c:=by
 obtain⟨a,cap,rfl,hl,hel⟩:=open_row ht hc h;refine⟨_,rfl,rfl,?_⟩;simp only [List.length_map] at hl
 have hv:∀ j,j<ps.length->W.cell? (a.add j)=some (.int kd (ps.getD j 0)):=λj hj=>by
  obtain⟨v,n,q',h1,h2⟩:=hel j (.lit (.int kd (ps.getD j 0))) (by simp [List.getD,hj]);obtain⟨m,h3,h4,_⟩:=DataW.trod_int he h2;simp only [List.cons.injEq,and_true] at h3;simp only [Prod.mk.injEq,DataW.lit.injEq,Lit.int.injEq,true_and] at h4;rw [h1,h3,h4.1]
 simp only [Rep,List.length_map];refine⟨some a,cap,rfl,hl,.inr ⟨a,rfl,?_,λj o hj ho=>⟨U6 _,.int kd (ps.getD j 0),?_,rfl,rfl⟩⟩⟩
 ·have:=World.cell?_spot (hv 0 (List.length_pos_iff.2 hne));simpa [Addr.add] using this
 ·have:o=0:=by omega
  subst this
  have hs:a.spot=none:=by
   have:=World.cell?_spot (hv 0 (List.length_pos_iff.2 hne));simpa [Addr.add] using this
  rw [<- hv j hj];obtain⟨b,off,spot⟩:=a;simp only at hs;subst hs;congr 1;simp only [Addr.add];split<;>simp_all
end
section
open Go.WideElems Go.ChangeMaps
variable {H:Type} {enc:TypeId×Value->H} {P:Program} {W:World} {base:Nat} {sp:Nat->Bool} {held:Bool}
theorem J9{x:Lit×DataW H} : ∀ {l:List (Lit×DataW H)},x∈l.foldr DataW.insert []↔x∈l
 | []=>Iff.rfl
 | y::l=>by rw [List.foldr_cons,mem_insert_iff,J9,List.mem_cons]
theorem Xy{g:Nat}{t k e:TypeId}{kd:IntKind}{ag:Bool}{sz:Nat}{ks:List Int}{has:Int->Bool}{get:Int->Nat->AV}{fuel:Nat}{c:Value}{es0:List (Lit×DataW H)}{q:List MemPlace}
  (hg:(Stat.z g).isSome=true) (ht:P.underlying t=some (.map k e)) (hk:P.underlying k=some (.int kd)) (hc:W.cell? ⟨g,0,none⟩=some c) (hne:es0≠[])
  (h:DataW.trod enc P W base sp held fuel t [c]=some (.map es0,q))
  (hin:∀ (n:Int) (d:DataW H),(.int kd n,d)∈es0->has n=true/\∀ (v:Value) (m:Nat) (q:List MemPlace),v.formed P e=true->DataW.trod enc P W base sp held m e v.cells.toList=some (d,q) ->
   match ag with
   | true=>∃ vs:List Value,v = .agg vs.toArray/\vs.length=sz/\∀ o,o<sz->∃ c,vs[o]?=some c/\Rep E0 W (get n o) [] c
   | false=>Rep E0 W (get n 0) [] v)
  (hout:∀ n,has n=true->∃ d,(.int kd n,d)∈es0):Rep E0 W (.mp kd ag sz ks has get) [] c/\∀ b,c = .map (some b)->b<W.heap.size:=by
 rcases open_map ht h with ⟨_,hx⟩ | ⟨b,es,clock,n,_,hcs,hb,_,F,hx⟩
 ·simp at hx
 ·simp only [List.cons.injEq,and_true] at hcs;subst hcs;simp only [Prod.mk.injEq,DataW.map.injEq] at hx
  have hkey:∀ x∈es.toList,∃ (m:Int) (z:DataW H×List MemPlace),x.key = .int kd m/\elemAt enc P W base sp held n e x.val=some z/\(.int kd m,z.1)∈es0:=by
   intro x hxm;obtain⟨y,hy⟩:=F.reads x hxm;have h1:=rd_key hy;obtain⟨z,h2,h3⟩:=rd_val hy;have h4:y∈es0:=by rw [hx.1,J9]; exact List.mem_map.2 ⟨x,hxm,rg_of hy⟩
   have h5:mapKey P k x.key=some y.1:=by
    simp only [keyOf,hk] at h1;exact h1
   unfold mapKey at h5;rw [hk] at h5;cases hxk:x.key with
   | int k' m=>
    rw [hxk] at h5;simp only at h5;split at h5
    ·rename_i hc2;have h6:=Option.some.inj h5;obtain⟨rfl,_⟩:=hc2;refine⟨m,z,rfl,h2,?_⟩;rw [h6,<- h3]; exact h4
    ·cases h5
   | _=>rw [hxk] at h5; simp at h5
  have hlt:b<W.heap.size:=(Array.getElem?_eq_some_iff.1 hb).1;refine⟨?_,λb' hb'=>by cases hb'; exact hlt⟩;simp only [Rep];refine⟨b,es,clock,rfl,U6 _,⟨g,U6 _,hg,hc⟩,hb,λm=> ?_⟩
  have hspec:=MapKept.findNow_spec (d:=.int kd) (k:=.int kd m) (by simp [MapKept.IsKey]) es.toList 0 (λx hxm=>by
   obtain⟨m',z,h1,_⟩:=hkey x hxm;rw [h1]; simp [MapKept.IsKey])
  rcases hspec with ⟨h1,h2⟩ | ⟨j,x,h1,h2,h3⟩
  ·refine⟨λ_=>h1,λhm=> ?_⟩;obtain⟨d,hd⟩:=hout m hm;rw [hx.1,J9] at hd;obtain⟨x,hxm,hrx⟩:=List.mem_map.1 hd;obtain⟨y,hy⟩:=F.reads x hxm;rw [rg_of hy] at hrx;have h5:=rd_key hy;rw [hrx] at h5;obtain⟨m',z,g1,_⟩:=hkey x hxm
   have:keyOf P k x.key=some (.int kd m'):=by
    rw [g1] at h5 ⊢;simp only [keyOf,hk,mapKey] at h5 ⊢;split at h5
    ·rename_i hwf; rw [if_pos hwf]
    ·cases h5
   rw [this] at h5;cases h5;exact absurd g1 (h2 x hxm)
  ·have hxm:x∈es.toList:=List.mem_of_getElem? h2;obtain⟨m',z,g1,g2,g3⟩:=hkey x hxm;rw [h3] at g1;cases g1;obtain⟨hh,hrep⟩:=hin m z.1 g3;refine⟨λhf=>(by rw [hf] at hh; cases hh),λ_=>⟨_,x.val,h1,?_⟩⟩;unfold elemAt at g2;split at g2
   ·rename_i hfm;exact hrep x.val n z.2 hfm g2
   ·cases g2
end
end Go.Sx
end
section
set_option maxRecDepth 100000
namespace Go.Proofs.YtpnllbdffdpoaaaGreatDoor
open Go Go.Sx Go.Nov Go.Proofs.Tryz Go.ChangeShapes Go.WideShapes Go.ChangeAt Go.RowKit
theorem wU:Tryz.prog.cellsOf 9=1:=by kernel_rfl
theorem Qk:Tryz.prog.cellsOf 22=1:=by kernel_rfl
theorem K8:Tryz.prog.cellsOf 3=1:=by kernel_rfl
theorem zaa:Tryz.prog.cellsOf 4=1:=by kernel_rfl
theorem YR:Tryz.prog.cellsOf 70=3:=by kernel_rfl
theorem Uk:Tryz.prog.cellsOf 72=4:=by kernel_rfl
theorem znt:Tryz.prog.cellsOf 25=1:=by kernel_rfl
theorem zi6:Tryz.prog.cellsOf 26=1:=by kernel_rfl
theorem zh1:Tryz.prog.cellsOf 28=2:=by kernel_rfl
def zje(x:Fx):Prop:=x.name.length<=reachBytes/\x.value.length<=reachBytes
def znv(x:Ch):Prop:=x.zT.length<=reachBytes/\x.name.length<=reachBytes
theorem zmf{W:World}{cs:List Value}(h:Tw Tryz.prog W 70 cs):∃ x:Fx,zje x/\cs=[.string ⟨x.name.toArray⟩,.i x.date,.string ⟨x.value.toArray⟩]:=by
 obtain⟨hl,hf⟩:=yX Tryz.underlying70 h;rw [YR] at hl
 match cs,hl with
 | [a,b,c],_=>
  have h0:Tw Tryz.prog W 9 (([a,b,c].drop 0).take (Tryz.prog.cellsOf 9)):=hf 0 _ rfl;rw [wU] at h0;replace h0:Tw Tryz.prog W 9 [a]:=h0;have h1:Tw Tryz.prog W 3 (([a,b,c].drop 1).take (Tryz.prog.cellsOf 3)):=hf 1 _ rfl;rw [K8] at h1;replace h1:Tw Tryz.prog W 3 [b]:=h1;have h2:Tw Tryz.prog W 22 (([a,b,c].drop 2).take (Tryz.prog.cellsOf 22)):=hf 2 _ rfl;rw [Qk] at h2;replace h2:Tw Tryz.prog W 22 [c]:=h2;obtain⟨s,e0,w0⟩:=kT Tryz.underlying9 h0;obtain⟨n,e1,w1⟩:=zbs Tryz.underlying3 h1;obtain⟨u,e2,w2⟩:=kT Tryz.underlying22 h2;cases e0; cases e1; cases e2;exact⟨⟨s,n,u⟩,⟨w0,w2⟩,rfl⟩
theorem zkv{W:World}{cs:List Value}(h:Tw Tryz.prog W 72 cs):∃ x:Ch,znv x/\cs=[.string ⟨x.zT.toArray⟩,.string ⟨x.name.toArray⟩,.i x.date,.bool x.first]:=by
 obtain⟨hl,hf⟩:=yX Tryz.underlying72 h;rw [Uk] at hl
 match cs,hl with
 | [a,b,c,d],_=>
  have h0:Tw Tryz.prog W 9 (([a,b,c,d].drop 0).take (Tryz.prog.cellsOf 9)):=hf 0 _ rfl;rw [wU] at h0;replace h0:Tw Tryz.prog W 9 [a]:=h0;have h1:Tw Tryz.prog W 9 (([a,b,c,d].drop 1).take (Tryz.prog.cellsOf 9)):=hf 1 _ rfl;rw [wU] at h1;replace h1:Tw Tryz.prog W 9 [b]:=h1;have h2:Tw Tryz.prog W 3 (([a,b,c,d].drop 2).take (Tryz.prog.cellsOf 3)):=hf 2 _ rfl;rw [K8] at h2;replace h2:Tw Tryz.prog W 3 [c]:=h2;have h3:Tw Tryz.prog W 4 (([a,b,c,d].drop 3).take (Tryz.prog.cellsOf 4)):=hf 3 _ rfl;rw [zaa] at h3;replace h3:Tw Tryz.prog W 4 [d]:=h3;obtain⟨s,e0,w0⟩:=kT Tryz.underlying9 h0;obtain⟨u,e1,w1⟩:=kT Tryz.underlying9 h1;obtain⟨n,e2,w2⟩:=zbs Tryz.underlying3 h2;obtain⟨b,e3⟩:=zqm Tryz.underlying4 h3;cases e0; cases e1; cases e2; cases e3;exact⟨⟨s,u,n,b⟩,⟨w0,w1⟩,rfl⟩
theorem zfi{W:World}{cs:List Value}(h:Tw Tryz.prog W 28 cs):∃ (f:List Fx) (c:List Ch) (u v:Value),cs=[u,v]/\(∀ x∈f,zje x)/\(∀ x∈c,znv x)/\f.length*40<=reachBytes/\c.length*48<=reachBytes/\Rep E0 W (fxS f) [] u/\Rep E0 W (chS c) [] v:=by
 obtain⟨hl,hf⟩:=yX Tryz.underlying28 h;rw [zh1] at hl
 match cs,hl with
 | [a,b],_=>
  have h0:Tw Tryz.prog W 25 (([a,b].drop 0).take (Tryz.prog.cellsOf 25)):=hf 0 _ rfl;rw [znt] at h0;replace h0:Tw Tryz.prog W 25 [a]:=h0;have h1:Tw Tryz.prog W 26 (([a,b].drop 1).take (Tryz.prog.cellsOf 26)):=hf 1 _ rfl;rw [zi6] at h1;replace h1:Tw Tryz.prog W 26 [b]:=h1
  obtain⟨f,u,e0,gf,wf,_,rf⟩:=V4 Fx.nil Fx.cell zje Tryz.underlying25 YR (by decide) (λcs' h'=>by
   obtain⟨x,hx,rfl⟩:=zmf h';refine⟨x,hx,λo ho=> ?_⟩
   match o,ho with
   | 0,_=>exact⟨_,rfl,rfl,by simp [Fx.cell,Rep]⟩
   | 1,_=>exact⟨_,rfl,rfl,by simp [Fx.cell,Rep]⟩
   | 2,_=>exact⟨_,rfl,rfl,by simp [Fx.cell,Rep]⟩) h0
  obtain⟨c,v,e1,gc,wc,_,rc⟩:=V4 Ch.nil Ch.cell znv Tryz.underlying26 Uk (by decide) (λcs' h'=>by
   obtain⟨x,hx,rfl⟩:=zkv h';refine⟨x,hx,λo ho=> ?_⟩
   match o,ho with
   | 0,_=>exact⟨_,rfl,rfl,by simp [Ch.cell,Rep]⟩
   | 1,_=>exact⟨_,rfl,rfl,by simp [Ch.cell,Rep]⟩
   | 2,_=>exact⟨_,rfl,rfl,by simp [Ch.cell,Rep]⟩
   | 3,_=>exact⟨_,rfl,rfl,by simp [Ch.cell,Rep]⟩) h1
  cases e0; cases e1;have b1:Tryz.prog.bytesOf 70=40:=by kernel_rfl
  have b2:Tryz.prog.bytesOf 72=48:=by kernel_rfl
  rw [b1] at wf;rw [b2] at wc;exact⟨f,c,_,_,rfl,gf,gc,wf,wc,rf,rc⟩
theorem zqz{W:World}{cs:List Value}(h:Tw Tryz.prog W 28 cs):∃ p:List Fx×List Ch,zuz p/\Rep E0 W (envA p.1 p.2) [] (.agg cs.toArray):=by
 obtain⟨f,c,u,v,rfl,gf,gc,wf,wc,rf,rc⟩:=zfi h;have hr:=reachBytes_lt;refine⟨(f,c),⟨by show f.length<_; omega,by show c.length<_; omega,λj hj=> ?_,λj hj=> ?_⟩,?_⟩
 ·have:=gf (f.getD j Fx.nil) (by simp only at hj; simp [List.getD,hj]);exact⟨by have:=this.1; show(f.getD j Fx.nil).name.length<_; omega,by have:=this.2; show(f.getD j Fx.nil).value.length<_; omega⟩
 ·have:=gc (c.getD j Ch.nil) (by simp only at hj; simp [List.getD,hj]);exact⟨by have:=this.1; show(c.getD j Ch.nil).zT.length<_; omega,by have:=this.2; show(c.getD j Ch.nil).name.length<_; omega⟩
 ·simp only [RepL,Rep,envA];exact⟨[u,v],rfl,u,_,rfl,rf,v,_,rfl,rc,rfl⟩
theorem zd1{W:World}{cs:List Value}(h:Tw Tryz.prog W 3 cs):∃ n:Int,cs=[.i n]/\inR .i64 n/\Rep E0 W (.i n) [] (.i n):=by
 obtain⟨n,rfl,hn⟩:=zbs Tryz.underlying3 h;refine⟨n,rfl,?_,by simp [Rep]⟩;simp only [Lit.wf,Bool.and_eq_true,decide_eq_true_eq] at hn;exact hn
theorem zbr:Tryz.prog.cellsOf 24=6:=by kernel_rfl
theorem zhu{W:World}{cs:List Value}(h:Tw Tryz.prog W 24 cs):∃ x:Deal,True/\Rep E0 W x.av [] (.agg cs.toArray):=by
 obtain⟨hl,hf⟩:=yX Tryz.underlying24 h;rw [zbr] at hl
 match cs,hl with
 | [a,b,c,d,e,f],_=>
  have h0:Tw Tryz.prog W 9 (([a,b,c,d,e,f].drop 0).take (Tryz.prog.cellsOf 9)):=hf 0 _ rfl;rw [wU] at h0;replace h0:Tw Tryz.prog W 9 [a]:=h0;have h1:Tw Tryz.prog W 9 (([a,b,c,d,e,f].drop 1).take (Tryz.prog.cellsOf 9)):=hf 1 _ rfl;rw [wU] at h1;replace h1:Tw Tryz.prog W 9 [b]:=h1;have h2:Tw Tryz.prog W 9 (([a,b,c,d,e,f].drop 2).take (Tryz.prog.cellsOf 9)):=hf 2 _ rfl;rw [wU] at h2;replace h2:Tw Tryz.prog W 9 [c]:=h2;have h3:Tw Tryz.prog W 9 (([a,b,c,d,e,f].drop 3).take (Tryz.prog.cellsOf 9)):=hf 3 _ rfl;rw [wU] at h3;replace h3:Tw Tryz.prog W 9 [d]:=h3;have h4:Tw Tryz.prog W 22 (([a,b,c,d,e,f].drop 4).take (Tryz.prog.cellsOf 22)):=hf 4 _ rfl;rw [Qk] at h4;replace h4:Tw Tryz.prog W 22 [e]:=h4;have h5:Tw Tryz.prog W 22 (([a,b,c,d,e,f].drop 5).take (Tryz.prog.cellsOf 22)):=hf 5 _ rfl;rw [Qk] at h5;replace h5:Tw Tryz.prog W 22 [f]:=h5;obtain⟨x0,y0,w0⟩:=kT Tryz.underlying9 h0;obtain⟨x1,y1,w1⟩:=kT Tryz.underlying9 h1;obtain⟨x2,y2,w2⟩:=kT Tryz.underlying9 h2;obtain⟨x3,y3,w3⟩:=kT Tryz.underlying9 h3;obtain⟨x4,y4,w4⟩:=kT Tryz.underlying22 h4;obtain⟨x5,y5,w5⟩:=kT Tryz.underlying22 h5;cases y0; cases y1; cases y2; cases y3; cases y4; cases y5;refine⟨⟨x0,x1,x2,x3,x4,x5⟩,trivial,?_⟩;simp only [RepL,Rep,Deal.av];exact⟨_,rfl,_,_,rfl,rfl,_,_,rfl,rfl,_,_,rfl,rfl,_,_,rfl,rfl,_,_,rfl,rfl,_,_,rfl,rfl,rfl⟩
theorem U4:Tryz.prog.cellsOf 220=1:=by kernel_rfl
theorem znx:Tryz.prog.cellsOf 239=1:=by kernel_rfl
theorem zmh:Tryz.prog.cellsOf 241=2:=by kernel_rfl
def shpE(H:Type):List (Lit×DataW H):=shpL.map λp=>(.int .u8 p.1,.agg [.slice (p.2.1.map λz=>.lit (.int .u8 z)) [],.lit (.int .u8 p.2.2)])
theorem zo5:∀ p∈shpL,Zq p.1=some p.2/\p.2.1≠[]:=by decide
theorem zop{k:Int}(h:j2 k=true):∃ q,(k,q)∈shpL:=by
 unfold j2 Zq at h;rw [Option.isSome_map] at h;obtain⟨p,hp⟩:=Option.isSome_iff_exists.1 h;have h1:=List.find?_some hp;have h2:=List.mem_of_find?_eq_some hp;have:p.1=k:=by simpa using h1
 exact⟨p.2,by rw [<- this]; exact h2⟩
theorem zaf{W:World}{cs:List Value}{fuel:Nat}{q:List MemPlace}{c:Value}(hc:W.cell? ⟨2,0,none⟩=some c)
  (h:DataW.trod (λ_=>()) Tryz.prog W 0 (λ_=>true) false fuel 243 [c]=some (.map (shpE Unit),q)) :
  Rep E0 W (.mp .u8 true 2 [] (λk=>j2 k) λk o=>match o with
   | 0=>.sl (jH k) 1 λj _=>.int .u8 (qS k j)
   | _=>.int .u8 (jo k)) [] c/\∀ b,c = .map (some b)->b<W.heap.size:=by
 refine Xy (g:=2) rfl Tryz.underlying243 Tryz.underlying5 hc (by decide) h ?_ ?_
 ·intro n d hd;obtain⟨p,hp,he⟩:=List.mem_map.1 hd;obtain⟨h1,h2⟩:=zo5 p hp;simp only [Prod.mk.injEq,Lit.int.injEq,true_and] at he;obtain⟨rfl,rfl⟩:=he;refine⟨by simp [j2,h1],λv m q' hf ht=> ?_⟩;obtain⟨xs,n',_,hx,hl,hlen,hfs⟩:=DataW.trod_struct Tryz.underlying241 ht;rw [zmh] at hl;cases v with
  | agg cs=>
   simp only [Value.cells] at hl hfs;obtain⟨cs⟩:=cs;simp only at hl hfs
   match cs,hl with
   | [a,b],_=>
    have f0:DataW.trod _ Tryz.prog W 0 _ false n' 239 (([a,b].drop 0).take (Tryz.prog.cellsOf 239))=xs[0]?:=hfs 0 _ rfl;have f1:DataW.trod _ Tryz.prog W 0 _ false n' 220 (([a,b].drop 1).take (Tryz.prog.cellsOf 220))=xs[1]?:=hfs 1 _ rfl;rw [znx] at f0;rw [U4] at f1
    match xs,hlen with
    | [x0,x1],_=>
     simp only [List.map_cons,List.map_nil,Prod.mk.injEq,DataW.agg.injEq,List.cons.injEq,and_true] at hx;obtain⟨⟨hx0,hx1⟩,_⟩:=hx;have f0:DataW.trod _ Tryz.prog W 0 _ false n' 239 [a]=some x0:=f0;have f1:DataW.trod _ Tryz.prog W 0 _ false n' 220 [b]=some x1:=f1;obtain⟨x0a,x0b⟩:=x0;obtain⟨x1a,x1b⟩:=x1;simp only at hx0 hx1;subst hx0; subst hx1;obtain⟨c0,e0,_,hr⟩:=zjp Tryz.underlying239 Tryz.underlying220 U4 h2 f0;cases e0;obtain⟨z,e1,e2,_⟩:=DataW.trod_int Tryz.underlying220 f1;cases e1;simp only [Prod.mk.injEq,DataW.lit.injEq,Lit.int.injEq,true_and] at e2;refine⟨[a,.int .u8 z],rfl,rfl,λo ho=> ?_⟩;have g1:jx p.1=p.2.1:=by simp [jx,h1]
     have g2:jo p.1=p.2.2:=by simp [jo,h1]
     match o,ho with
     | 0,_=>
      refine⟨a,rfl,?_⟩;show Rep E0 W (.sl (jH p.1) 1 λj _=>.int .u8 (qS p.1 j)) [] a;unfold jH qS;rw [g1];exact hr
     | 1,_=>
      refine⟨_,rfl,?_⟩;show Rep E0 W (.int .u8 (jo p.1)) [] _;simp only [Rep];rw [g2,e2.1]
  | _=>simp [Value.formed,Tryz.underlying241] at hf
 ·intro n hn;obtain⟨q',hq⟩:=zop hn;exact⟨_,List.mem_map.2 ⟨_,hq,rfl⟩⟩
end Go.Proofs.YtpnllbdffdpoaaaGreatDoor
end
