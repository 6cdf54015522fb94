/- Part 10 of the proof. -/
import Derived.Test.YtpnllbdffdpoaaaGreatDoorSxi
set_option linter.unusedVariables false
set_option linter.unusedSimpArgs false
set_option linter.unusedSectionVars false
section
set_option maxRecDepth 100000
open Go Go.Sx Go.Proofs Go.Nov
namespace Go.Proofs.Tryz
attribute [local simp] eqKV eqA eqA0 eqH eqB eqL eqL0
theorem zp8(neg:Bool)(x:Nat):errI (wM neg x)=(wr neg x).2/\((wr neg x).2=0->wM neg x=(wr neg x).1):=by
 unfold wM wr;by_cases h0:x=0
 ·rw [aP h0,aP h0]; exact⟨rfl,λ_=>rfl⟩
 ·rw [aO h0,aO h0]
  have e:errI (sgn neg (txt x))=if 1000<(dec x).length then 14 else 0:=by
   unfold errI;rw [Kz h0];simp only [U2 h0,if_true];rw [uL h0]
  by_cases h1:1000<(dec x).length
  ·rw [aP h1] at e ⊢;exact⟨e,λh=>(by cases h)⟩
  ·rw [aO h1] at e ⊢;exact⟨e,λ_=>rfl⟩
theorem zli(neg:Bool)(x:Nat):(wM neg x).length<=1+(dec x).length:=by
 unfold wM;by_cases h0:x=0
 ·rw [aP h0]; simp
 ·rw [aO h0];have:=zdz neg (txt x);rw [uL h0] at this;omega
def zsu:Ctr:=ctrP true (λp:List Nat×Bool=>[nat6 p.1,.bool p.2]) (λp=>Ten.dig p.1/\p.1.length<2^31) (λp r=>r=wr p.2 (Ten.val p.1)) (λ_ r=>(.tup [.str r.1,.i r.2],[]))
noncomputable def GRr:=tb JU (tb Kj tz)
theorem zs5:ze prog 149 zsu:=by
 refine zh' f149 λp hp O w0 Q hq=> ?_
 obtain⟨d,neg⟩:=p;obtain⟨hd,hl⟩:=hp;replace hq:=hq _ rfl;simp only at hd hl hq;refine zc.n GRr.h [] (.ex (q24 [.sl d.length 1 (natG .i64 d),.bool neg]) λn=>.all (λ(r:L8)=>r=wM n.2 (Ten.val n.1)) λn=>.ex (q22 [.str n]) λn_1=>.all (λ(r:Int)=>r=errI n_1) λn_2=>.N (n_2=0) (.R [.str #[].toList,.i 14] []) (.R [.str n,.i 0] [])) ?_;simp only [q22,q24,Tree.holds,zf];have hlen:(dec (Ten.val d)).length<=d.length:=xr (by have:=Ten.zZ hd; have hB:Ten.B=10:=rfl; rw [hB] at this; exact this);have htl:=zli neg (Ten.val d);obtain⟨t1,t2⟩:=zp8 neg (Ten.val d);refine⟨(d,neg),⟨⟨⟨rfl,rfl,za _ _ _⟩,rfl,trivial⟩,hd,by show d.length<_; omega⟩,⟨_,rfl⟩,?_⟩;rintro _ rfl;refine⟨wM neg (Ten.val d),⟨by simp,by omega⟩,⟨_,rfl⟩,?_⟩;intro e he;rw [t1] at he;refine⟨λh=> ?_,λh=> ?_⟩
 ·have h:e≠0:=by simpa using h
  rcases Yp neg (Ten.val d) with g | g
  ·exact absurd (he.trans g) h
  ·rw [g] at hq;exact RetR.scal hq rfl (by simp [resV])
 ·have h:e=0:=by simpa using h
  have g:(wr neg (Ten.val d)).2=0:=by rw [<- he,h]
  have e2:wr neg (Ten.val d)=(wM neg (Ten.val d),0):=by rw [t2 g,<- g]
  rw [e2] at hq;exact RetR.scal hq rfl (by simp [resV])
noncomputable def GRa:=tb zdf (tb uO (tb KU (tb uZ (tb zs5 (tb zgj (tb zdk (tb zdt (tb JU tz))))))))
def zjc:Ctr:=ctrP true (λp:L8×L8=>[.str p.1,.str p.2]) (λp=>p.1.length<2^40/\p.2.length<2^40) (λp r=>r=mulI p.1 p.2) (λ_ r=>(.tup [.str r.1,.i r.2],[]))
def zce:Ctr:=ctrP true (λp:L8×L8=>[.str p.1,.str p.2]) (λp=>p.1.length<2^40/\p.2.length<2^40) (λp r=>r=kB p.1 p.2) (λ_ r=>(.tup [.i r.1,.i r.2],[]))
theorem eqL2(a b:List Nat):eqL [.sl a.length 1 (natG .i64 a),.sl b.length 1 (natG .i64 b)] [nat6 a,nat6 b]:=⟨⟨rfl,rfl,za _ _ _⟩,⟨rfl,rfl,za _ _ _⟩,trivial⟩
theorem eqLb(a:List Nat)(b:Bool):eqL [.sl a.length 1 (natG .i64 a),.bool b] [nat6 a,.bool b]:=⟨⟨rfl,rfl,za _ _ _⟩,rfl,trivial⟩
theorem zma{s:L8}(h:errI s=0):0<(dg (parse s).2).length:=by
 obtain⟨_,_,h3,_⟩:=yx h;rw [xM];exact List.length_pos_iff.2 h3
theorem zet:ze prog 111 zjc:=by
 refine zh' f111 λp hp O w0 Q hq=> ?_
 obtain⟨s,t⟩:=p;obtain⟨hs,ht⟩:=hp;replace hq:=hq _ rfl;simp only at hs ht hq;refine zc.n GRa.h [] (.ex (q23 [.str s,.str t]) λn=>.all (λ(r:Int)=>r=zx n.1 n.2) λn=>.N (n=0) (.R [.str #[].toList,.i n] []) (.ex (q22 [.str s]) λn=>.all (λ(r:List Nat×Bool×Bool)=>r=digR n) λn=>.ex (q22 [.str t]) λn_1=>.all (λ(r:List Nat×Bool×Bool)=>r=digR n_1) λn_2=>.ex (λ(x:List Nat×List Nat)=>eqL [.sl n.1.length 1 (natG .i64 n.1),.sl n_2.1.length 1 (natG .i64 n_2.1)] [.sl x.1.length 1 (natG .i64 x.1),.sl x.2.length 1 (natG .i64 x.2)]/\Ten.dig x.1/\Ten.dig x.2/\0<x.1.length/\0<x.2.length/\x.1.length<1073741824/\x.2.length<1073741824) λn_3=>.all (Yj n_3) λn_4=>.ex (λ(x:List Nat×Bool)=>eqL [.sl n_4.length 1 (natG .i64 n_4),.bool !Prod.fst n.2 == n_2.2.1] [.sl x.1.length 1 (natG .i64 x.1),.bool x.2]/\Ten.dig x.1/\x.1.length<2147483648) λn=>.all (λ(r:L8×Int)=>r=wr n.2 (Ten.val n.1)) λn=>.R [.str n.1,.i n.2] [])) ?_;simp only [q22,q23,Tree.holds,zf];refine⟨(s,t),⟨by simp,hs,ht⟩,⟨_,rfl⟩,?_⟩;rintro _ rfl;simp only;refine⟨λhe=> ?_,λhe=> ?_⟩
 ·have he:zx s t≠0:=by
   intro h; simp [h] at he
  have e:mulI s t=([],zx s t):=aO he;rw [e] at hq;exact RetR.scal hq rfl (by simp [resV])
 have he:zx s t=0:=by
  refine bM λh=> ?_
  simp [h] at he
 obtain⟨h1,h2⟩:=zn.1 he;have e:mulI s t=wr (negI s != negI t) (numI s*numI t):=aP he;rw [e] at hq;refine⟨s,⟨by simp,hs⟩,⟨_,rfl⟩,?_⟩;rintro _ rfl;refine⟨t,⟨by simp,ht⟩,⟨_,rfl⟩,?_⟩;rintro _ rfl;obtain⟨a1,a2,a3,a4⟩:=uC h1;obtain⟨b1,b2,b3,b4⟩:=uC h2;have a5:=zma h1;have b5:=zma h2;rw [a1,b1];have ea:(parse s).1=negI s:=rfl;have eb:(parse t).1=negI t:=rfl;simp only [ea,eb];rw [<- a4,<- b4] at hq;generalize dg (parse s).2=x at *
 generalize dg (parse t).2=y at *
 refine⟨(x,y),⟨eqL2 x y,a2,b2,a5,b5,by show x.length<_; omega,by show y.length<_; omega⟩,zkq a2 b2,?_⟩;rintro z ⟨g1,g2,g3⟩;simp only at g1 g3;refine⟨(z,negI s != negI t),⟨eqLb z _,g2,by show z.length<_; omega⟩,⟨_,rfl⟩,?_⟩;rintro _ rfl;rw [<- g3] at hq;exact RetR.scal hq rfl (by simp [resV])
theorem zl0:ze prog 82 zce:=by
 refine zh' f82 λp hp O w0 Q hq=> ?_
 obtain⟨s,t⟩:=p;obtain⟨hs,ht⟩:=hp;replace hq:=hq _ rfl;simp only at hs ht hq;refine zc.n GRa.h [] (.ex (q23 [.str s,.str t]) λn=>.all (λ(r:Int)=>r=zx n.1 n.2) λn=>.N (n=0) (.R [.i 0,.i n] []) (.ex (q22 [.str s]) λn=>.all (λ(r:List Nat×Bool×Bool)=>r=digR n) λn=>.ex (q22 [.str t]) λn_1=>.all (λ(r:List Nat×Bool×Bool)=>r=digR n_1) λn_2=>.ite (bif n.2.1 then n_2.2.1 else false) (.ex (q21 [.sl n_2.1.length 1 (natG .i64 n_2.1),.sl n.1.length 1 (natG .i64 n.1)]) λn=>.all (λ(r:Int)=>r=cmpN (Ten.val n.1) (Ten.val n.2)) λn=>.R [.i n,.i 0] []) (.ite n.2.1 (.R [.i (-1:Int),.i 0] []) (.ite n_2.2.1 (.R [.i 1,.i 0] []) (.ex (q21 [.sl n.1.length 1 (natG .i64 n.1),.sl n_2.1.length 1 (natG .i64 n_2.1)]) λn=>.all (λ(r:Int)=>r=cmpN (Ten.val n.1) (Ten.val n.2)) λn=>.R [.i n,.i 0] []))))) ?_;simp only [q21,q22,q23,Tree.holds,zf];refine⟨(s,t),⟨by simp,hs,ht⟩,⟨_,rfl⟩,?_⟩;rintro _ rfl;simp only;refine⟨λhe=> ?_,λhe=> ?_⟩
 ·have he:zx s t≠0:=by
   intro h; simp [h] at he
  have e:kB s t=(0,zx s t):=aO he;rw [e] at hq;exact RetR.scal hq rfl (by simp [resV])
 have he:zx s t=0:=by
  refine bM λh=> ?_
  simp [h] at he
 obtain⟨h1,h2⟩:=zn.1 he;have e:kB s t=(cmpZ (negI s) (numI s) (negI t) (numI t),0):=aP he;rw [e] at hq;refine⟨s,⟨by simp,hs⟩,⟨_,rfl⟩,?_⟩;rintro _ rfl;refine⟨t,⟨by simp,ht⟩,⟨_,rfl⟩,?_⟩;rintro _ rfl;obtain⟨a1,a2,a3,a4⟩:=uC h1;obtain⟨b1,b2,b3,b4⟩:=uC h2;rw [a1,b1];have ea:(parse s).1=negI s:=rfl;have eb:(parse t).1=negI t:=rfl;simp only [ea,eb];rw [<- a4,<- b4] at hq;generalize dg (parse s).2=x at *
 generalize dg (parse t).2=y at *
 have hb:∀ (b:Bool) (u v:List Nat),Ten.dig u->Ten.dig v->u.length<=1000->v.length<=1000->cmpN (Ten.val u) (Ten.val v)=cmpZ (negI s) (Ten.val x) (negI t) (Ten.val y) ->
   ∃ n:List Nat×List Nat,(eqL [.sl u.length 1 (natG .i64 u),.sl v.length 1 (natG .i64 v)] [.sl n.1.length 1 (natG .i64 n.1),.sl n.2.length 1 (natG .i64 n.2)]/\Ten.dig n.1/\Ten.dig n.2/\n.1.length<4611686018427387904/\n.2.length<4611686018427387904) /\
    (∃ r,r=cmpN (Ten.val n.1) (Ten.val n.2))/\∀ r,r=cmpN (Ten.val n.1) (Ten.val n.2)->RetR zce 0 Q [.i r,.i 0] []:=by
  intro b u v hu hv lu lv hc;refine⟨(u,v),⟨⟨⟨rfl,rfl,za _ _ _⟩,⟨rfl,rfl,za _ _ _⟩,trivial⟩,hu,hv,by show u.length<_; omega,by show v.length<_; omega⟩,⟨_,rfl⟩,?_⟩;rintro _ rfl;rw [<- hc] at hq;exact RetR.scal hq rfl (by simp [resV])
 refine⟨λh=>hb true y x b2 a2 b3 a3 ?_,λh=>⟨λg=> ?_,λg=>⟨λf=> ?_,λf=>hb true x y a2 b2 a3 b3 ?_⟩⟩⟩
 ·cases hm:negI s<;>cases hn:negI t<;>rw [hm,hn] at h<;>first | (cases h; done) | rfl
 ·have e:cmpZ (negI s) (Ten.val x) (negI t) (Ten.val y) = -1:=by
   rw [g] at h ⊢;have h:negI t=false:=h;rw [h]; rfl
  rw [e] at hq;exact RetR.scal hq rfl (by simp [resV])
 ·have e:cmpZ (negI s) (Ten.val x) (negI t) (Ten.val y)=1:=by rw [g,f]; rfl
  rw [e] at hq;exact RetR.scal hq rfl (by simp [resV])
 ·rw [g,f]; rfl
structure Q4 where
 n:L8
 d:L8
 m:L8
 c:L8
 e:Int
def zdr(a b:L8):Q4:=if qG a b≠0 then⟨[],[],[],[],qG a b⟩ else⟨numR a,denR a,numR b,denR b,0⟩
def zd2:Ctr:=ctrP true (λp:L8×L8=>[.str p.1,.str p.2]) (λp=>p.1.length<2^40/\p.2.length<2^40) (λp r=>r=zdr p.1 p.2) (λ_ (r:Q4)=>(.tup [.str r.n,.str r.d,.str r.m,.str r.c,.i r.e],[]))
noncomputable def GRf:=tb zdc (tb Vw tz)
theorem za9:ze prog 110 zd2:=by
 refine zh' f110 λp hp O w0 Q hq=> ?_
 obtain⟨a,b⟩:=p;obtain⟨ha,hb⟩:=hp;replace hq:=hq _ rfl;simp only at ha hb hq;unfold zdr qG at hq;refine zc.n GRf.h [] (.ex (q22 [.str a]) λn=>.all (λ(r:Int)=>r=errR n) λn=>.N (n=0) (.ex (q22 [.str a]) λn=>.all (λ(r:Int)=>r=errR n) λn=>.R [.str #[].toList,.str #[].toList,.str #[].toList,.str #[].toList,.i n] []) (.ex (q22 [.str b]) λn=>.all (λ(r:Int)=>r=errR n) λn=>.N (n=0) (.ex (q22 [.str b]) λn=>.all (λ(r:Int)=>r=errR n) λn=>.R [.str #[].toList,.str #[].toList,.str #[].toList,.str #[].toList,.i n] []) (.ex (q15 [.str a]) λn=>.all (λ(r:L8×L8)=>r=(Prod.fst (cutR n),if Prod.snd (Prod.snd (cutR n))=true then Prod.fst (Prod.snd (cutR n)) else [(49:UInt8)])) λn=>.ex (q15 [.str b]) λn_1=>.all (λ(r:L8×L8)=>r=(Prod.fst (cutR n_1),if Prod.snd (Prod.snd (cutR n_1))=true then Prod.fst (Prod.snd (cutR n_1)) else [(49:UInt8)])) λn_2=>.R [.str n.1,.str n.2,.str n_2.1,.str n_2.2,.i 0] []))) ?_;simp only [q15,q22,Tree.holds,zf];refine⟨a,⟨by simp,ha⟩,⟨_,rfl⟩,?_⟩;rintro _ rfl;refine⟨λh=> ?_,λh=>⟨b,⟨by simp,hb⟩,⟨_,rfl⟩,?_⟩⟩
 ·have h:errR a≠0:=by simpa using h
  rw [aO h,aP h] at hq;refine⟨a,⟨by simp,ha⟩,⟨_,rfl⟩,?_⟩;rintro _ rfl;exact RetR.scal hq rfl (by simp [resV])
 ·have h:errR a=0:=by simpa using h
  rw [aP h] at hq;rintro _ rfl;refine⟨λg=> ?_,λg=>⟨a,⟨by simp,by show a.length<_; omega⟩,⟨_,rfl⟩,?_⟩⟩
  ·have g:errR b≠0:=by simpa using g
   rw [aP g] at hq;refine⟨b,⟨by simp,hb⟩,⟨_,rfl⟩,?_⟩;rintro _ rfl;exact RetR.scal hq rfl (by simp [resV])
  ·have g:errR b=0:=by simpa using g
   rw [aO (by rw [g]; simp)] at hq;rintro _ rfl;refine⟨b,⟨by simp,by show b.length<_; omega⟩,⟨_,rfl⟩,?_⟩;rintro _ rfl;exact RetR.scal hq rfl (by simp [resV,numR,denR])
def XL(a b:L8):L8×L8×Int:=if zJ a b≠0 then([],[],zJ a b) else((mulI (numR a) (denR b)).1,(mulI (numR b) (denR a)).1,0)
def zei:Ctr:=ctrP true (λp:L8×L8=>[.str p.1,.str p.2]) (λp=>p.1.length<2^39/\p.2.length<2^39) (λp r=>r=XL p.1 p.2) (λ_ r=>(.tup [.str r.1,.str r.2.1,.i r.2.2],[]))
noncomputable def GRc:=tb za9 (tb zet tz)
theorem zhv:ze prog 81 zei:=by
 refine zh' f81 λp hp O w0 Q hq=> ?_
 obtain⟨a,b⟩:=p;obtain⟨ha,hb⟩:=hp;replace hq:=hq _ rfl;simp only at ha hb hq;have ea:zJ a b=if qG a b≠0 then qG a b else if(mulI (numR a) (denR b)).2≠0\/(mulI (numR b) (denR a)).2≠0 then 14 else 0:=rfl
 unfold XL at hq;refine zc.n GRc.h [] (.ex (q23 [.str a,.str b]) λn=>.all (λ(r:Q4)=>r=zdr n.1 n.2) λn=>.N (Q4.e n=0) (.R [.str #[].toList,.str #[].toList,.i n.e] []) (.ex (q23 [.str n.n,.str n.c]) λn_1=>.all (λ(r:L8×Int)=>r=mulI n_1.1 n_1.2) λn_2=>.ex (q23 [.str n.m,.str n.d]) λn=>.all (λ(r:L8×Int)=>r=mulI n.1 n.2) λn=>.ite (bif !decide (n_2.2=0) then true else !decide (n.2=0)) (.R [.str #[].toList,.str #[].toList,.i 14] []) (.R [.str n_2.1,.str n.1,.i 0] []))) ?_;simp only [q23,Tree.holds,zf];refine⟨(a,b),⟨⟨rfl,rfl,trivial⟩,by show a.length<_; omega,by show b.length<_; omega⟩,⟨_,rfl⟩,?_⟩;rintro _ rfl;simp only [zdr];by_cases he:qG a b=0
 ·rw [aO (by rw [he]; simp)];rw [he,aO (by simp)] at ea;have l1:=ZQ a;have l2:=ZO a;have l3:=ZQ b;have l4:=ZO b;refine⟨λh=>(by cases h),λ_=> ?_⟩;refine⟨(numR a,denR b),⟨⟨rfl,rfl,trivial⟩,by simp only; omega,by simp only; omega⟩,⟨_,rfl⟩,?_⟩;rintro _ rfl;refine⟨(numR b,denR a),⟨⟨rfl,rfl,trivial⟩,by simp only; omega,by simp only; omega⟩,⟨_,rfl⟩,?_⟩;rintro _ rfl;simp only;by_cases h1:(mulI (numR a) (denR b)).2=0
  ·by_cases h2:(mulI (numR b) (denR a)).2=0
   ·rw [aO (by simp [h1,h2])] at ea;rw [ea,aO (by simp)] at hq;refine⟨λh=>(by simp [h1,h2] at h),λ_=>RetR.scal hq rfl (by simp [resV])⟩
   ·rw [aP (.inr h2)] at ea;rw [ea,aP (by decide)] at hq;refine⟨λ_=>RetR.scal hq rfl (by simp [resV]),λh=>(by simp [h1,h2] at h)⟩
  ·rw [aP (.inl h1)] at ea;rw [ea,aP (by decide)] at hq;refine⟨λ_=>RetR.scal hq rfl (by simp [resV]),λh=>(by simp [h1] at h)⟩
 ·rw [aP he];rw [aP he] at ea;rw [ea,aP he] at hq;refine⟨λ_=>RetR.scal hq rfl (by simp [resV]),λh=>(by simp [he] at h)⟩
def zk1:Ctr:=ctrP true (λs:L8=>[.str s]) (λs=>0<s.length/\s.length<2^40) (λs r=>r=negS s) (λ_ r=>(.str r,[]))
theorem zln:ze prog 51 zk1:=by
 refine zh' f51 λs hp O w0 Q hq=> ?_
 obtain⟨h0,hl⟩:=hp;replace hq:=hq _ rfl;unfold negS at hq;refine zc.n zw [] (.D (s=#[(48:UInt8)].toList) (.R [.str s] []) (.side ((0:Int)<=0/\(0:Int)<s.length) (.D ((↑(UInt8.toNat (s.getD 0 (0:UInt8))):Int)=45) (.side ((0:Int)<=1/\(1:Int)<=s.length) (.R [.str (List.drop 1 (List.take s.length s))] [])) (.side (1+s.length<=9223372036854775807) (.R [.str (#[(45:UInt8)].toList++s)] []))))) ?_;simp only [Tree.holds,zf,inR,lo,hi,aD];refine⟨λh=> ?_,λh=>⟨⟨by omega,by omega⟩,λ_=>⟨λg=>⟨by omega,λ_=> ?_⟩,λg=>⟨by show 1+s.length<=_; omega,λ_=> ?_⟩⟩⟩⟩
 ·have h:s=[48]:=by simpa using h
  rw [aP h] at hq;exact RetR.scal hq rfl (by simp [resV])
 ·have h:s≠[48]:=aC h;have g:s.getD 0 0=45:=ZY (aB g);rw [aO h,aP g] at hq;have e:List.drop (Int.toNat 1) (List.take s.length s)=s.drop 1:=by rw [bD]; rfl
  exact RetR.scal hq rfl (by simp [resV])
 ·have h:s≠[48]:=aC h;have g:¬ s.getD 0 0=45:=λh5=>aC g (by rw [h5]; rfl)
  rw [aO h,aO g] at hq;exact RetR.scal hq rfl (by simp [resV])
def zmc:Ctr:=ctrP true (λp:L8×L8=>[.str p.1,.str p.2]) (λp=>p.1.length<2^39/\p.2.length<2^39) (λp r=>r=cmpR p.1 p.2) (λ_ r=>(.tup [.i r.1,.i r.2],[]))
noncomputable def GRh:=tb za9 (tb zhv (tb zet (tb zl0 tz)))
abbrev q60(A:List AV)(x:L8×L8):Prop:=eqL A [.str x.1,.str x.2]/\x.1.length<549755813888/\x.2.length<549755813888
theorem zjy:ze prog 50 zmc:=by
 refine zh' f50 λp hp O w0 Q hq=> ?_
 obtain⟨a,b⟩:=p;obtain⟨ha,hb⟩:=hp;replace hq:=hq _ rfl;simp only at ha hb hq;unfold cmpR at hq;refine zc.n GRh.h [] (.ex (q60 [.str a,.str b]) λn=>.all (λ(r:L8×L8×Int)=>r=XL n.1 n.2) λn=>.N (n.2.2=0) (.R [.i 0,.i n.2.2] []) (.ex (q23 [.str n.1,.str n.2.1]) λn=>.all (λ(r:Int×Int)=>r=kB n.1 n.2) λn=>.R [.i n.1,.i n.2] [])) ?_;simp only [q23,q60,Tree.holds,zf];refine⟨(a,b),⟨⟨rfl,rfl,trivial⟩,ha,hb⟩,⟨_,rfl⟩,?_⟩;rintro _ rfl;simp only [XL];by_cases he:zJ a b=0
 ·rw [aO (by rw [he]; simp)] at hq ⊢;refine⟨λh=>(by cases h),λ_=> ?_⟩;have l1:=V0 (numR a) (denR b);have l2:=V0 (numR b) (denR a);refine⟨((mulI (numR a) (denR b)).1,(mulI (numR b) (denR a)).1),⟨⟨rfl,rfl,trivial⟩,by simp only; omega,by simp only; omega⟩,⟨_,rfl⟩,?_⟩;rintro _ rfl;exact RetR.scal hq rfl (by simp [resV])
 ·rw [aP he] at hq ⊢;refine⟨λ_=>RetR.scal hq rfl (by simp [resV]),λh=>(by simp [he] at h)⟩
noncomputable def K23:=Go.Sx.aA f23
def zcr:Ctr:=ctrP false (λk:FI=>[k.c.conA,.i k.day,envA k.f k.h]) FI.pre (λk r=>r=wO k.c k.day k.f k.h) (λ_ (r:List Fl×Int)=>(.tup [flS r.1,.i r.2],[]))
noncomputable def GFs:=tb zgc tz
theorem Wm:ze prog 22 zcr:=by
 refine zh' f22 λk hp O w0 Q hq=> ?_
 obtain⟨c,day,fin,f,h⟩:=k;replace hq:=hq _ rfl;simp only at hq;refine zc.n GFs.h [] (.ex (λ(x:FI)=>eqL [(Con.conA c),.i day,.i 100000,.agg [.sl f.length 3 (fxG f),.sl h.length 4 (chG h)]] [(Con.conA x.c),.i x.day,.i x.fin,.agg [.sl x.f.length 3 (fxG x.f),.sl x.h.length 4 (chG x.h)]]/\FI.pre x) λn=>.all (λ(r:List Fl×Int)=>r=befM n.c n.day n.fin n.f n.h) λn=>.R [.sl n.1.length 5 (flG n.1),.i n.2] [.box c.zg,.box [.sl f.length 3 (fxG f),.sl h.length 4 (chG h)]]) ?_;simp only [Tree.holds,zf];refine⟨⟨c,day,100000,f,h⟩,⟨⟨qZ c,⟨rfl,rfl⟩,⟨rfl,rfl⟩,⟨⟨rfl,rfl,λ_ _ _ _=>rfl⟩,⟨rfl,rfl,λ_ _ _ _=>rfl⟩,trivial⟩,trivial⟩,hp⟩,⟨_,rfl⟩,?_⟩;rintro _ rfl;exact RetR.le0 hq (λh=>by cases h) (LeA.refl _)
noncomputable def GPm:=tb zjy (tb zln tz)
def YI:Ctr:=ctrP false (λp:Fl=>[.i p.date,.str p.src,.str p.dst,.str p.ccy,.str p.amt]) (λp=>errR p.amt=0) (λ_ (_:Unit)=>True) (λp _=>(flS (payF p.date p.src p.dst p.ccy p.amt),[]))
theorem zb8:ze prog 21 YI:=by
 refine zh' f21 λp hp O w0 Q hq=> ?_
 obtain⟨d,a,b,n,r⟩:=p;replace hq:=hq () trivial;simp only at hq hp;refine zc.n GPm.h [] (.ex (q60 [.str r,.str #[(48:UInt8)].toList]) λn_1=>.all (λ(r:Int×Int)=>r=cmpR n_1.1 n_1.2) λn_2=>.D (n_2.1=0) (.R [.nils] []) (.D (n_2.1<0) (.ex (λ(x:L8)=>eqL [.str r] [.str x]/\0<x.length/\x.length<1099511627776) λn_3=>.all (λ(r:L8)=>r=negS n_3) λn_4=>.R [.osl 0 5 0 1] [.arr 1 5 (zj 5 [.i d,.str b,.str a,.str n,.str n_4])]) (.R [.osl 0 5 0 1] [.arr 1 5 (zj 5 [.i d,.str a,.str b,.str n,.str r])]))) ?_;simp only [q60,Tree.holds,zf];have hl:=wx hp;obtain⟨s1,s2,s3⟩:=xe hp;obtain⟨c1,c2⟩:=zag.2 hp;refine⟨(r,[48]),⟨⟨rfl,rfl,trivial⟩,by show r.length<_; omega,by show(1:Nat)<_; omega⟩,⟨_,rfl⟩,?_⟩;rintro _ rfl;simp only;rw [c2];unfold payF at hq;refine⟨λg=> ?_,λg=>⟨λg2=>⟨r,⟨⟨rfl,trivial⟩,List.length_pos_iff.2 s3,by omega⟩,⟨_,rfl⟩,?_⟩,λg2=> ?_⟩⟩
 ·have h0:r=[48]:=by
   have g:=aB g;refine s2.2 ?_;split at g
   ·cases g
   ·split at g
    ·cases g
    ·grind
  rw [aP h0] at hq;exact RetR.le0 hq (λh=>by cases h) LeA.nils
 ·rintro _ rfl;have g2:=aB g2
  have hn:qv r<0:=by
   split at g2
   ·assumption
   ·split at g2<;>cases g2
  have h1:=s1.2 hn;have h0:¬ r=[48]:=λe=>by rw [e] at h1; cases h1
  have e:negS r=r.drop 1:=by unfold negS; rw [aO h0,aP h1]
  rw [aO h0,aP h1] at hq;rw [e]
  exact RetR.le0 hq (λh=>by cases h) (LeA.sl rfl λj o hj ho=>by
   rcases(show j=0 by simpa using hj) with rfl;rcases(show o=0\/o=1\/o=2\/o=3\/o=4 by omega) with rfl | rfl | rfl | rfl | rfl<;>exact LeA.refl _)
 ·have g:=aC g;have g2:=aC g2;have hn:¬ qv r<0:=λh=>by rw [aP h] at g2; exact g2 (by decide)
  have hz:¬ qv r=0:=λh=>by rw [h] at g; exact g (by decide +kernel)
  have h1:¬ r.getD 0 0=45:=λh=>hn (s1.1 h)
  have h0:¬ r=[48]:=λh=>hz (s2.1 h)
  rw [aO h0,aO h1] at hq
  exact RetR.le0 hq (λh=>by cases h) (LeA.sl rfl λj o hj ho=>by
   rcases(show j=0 by simpa using hj) with rfl;rcases(show o=0\/o=1\/o=2\/o=3\/o=4 by omega) with rfl | rfl | rfl | rfl | rfl<;>exact LeA.refl _)
theorem Fl.same{x y:Fl}(h1:x.date=y.date)(h2:x.src=y.src)(h3:x.dst=y.dst)(h4:x.ccy=y.ccy)(h5:x.amt=y.amt):x=y:=by
 cases x; cases y; simp_all
def zbd:Ctr:=ctrP true (λp:List Fl×List Fl=>[flS p.1,flS p.2]) (λp=>p.1.length<2^40) (λp r=>(r=true↔p.1=p.2)) (λ_ (r:Bool)=>(.bool r,[]))
def SSf(l m:List Fl)(i:Nat):KV:=[(0,flS l),(1,flS m),(5,.i (i:Int))]
theorem UH:ze prog 23 zbd:=by
 refine zh' f23 λp hp O w0 Q hq=> ?_
 obtain⟨l,m⟩:=p;simp only at hp hq;refine zc.n zw [0,1,5] (.N ((l.length:Int)=m.length) (.R [.bool false] []) (.leaf (.loop (lps K23 0).1 (lps K23 0).2 [(0,.sl l.length 5 (flG l)),(1,.sl m.length 5 (flG m)),(5,.i 0)] []))) ?_;simp only [Tree.holds,zf];refine⟨λh=> ?_,λh=> ?_⟩
 ·refine RetR.scal (hq false ⟨λh=>(by cases h),λhe=> ?_⟩) rfl (by simp [resV]);subst he;simp at h
 ·have hl:l.length=m.length:=by simp at h; omega
  refine zc.loop (ι:={i:Nat // i<=l.length/\∀ j,j<i->l.getD j Fl.nil=m.getD j Fl.nil}) (λi=>SSf l m i.1) (λ_=>[]) (λi=>l.length - i.1) ⟨0,aI _,λj hj=>by omega⟩ 0 ?_ ?_ (by kernel_rfl)
  ·exact⟨by simp [SSf,flS,za],trivial,by kernel_rfl,aI _⟩
  ·rintro⟨i,hil,hib⟩;refine zc.n zw [0,1,5] (let v2:=m.getD (i:Int).toNat Fl.nil;let v1:=l.getD (i:Int).toNat Fl.nil;.D ((i:Int)<l.length) (.side ((0:Int)<=i/\(i:Int)<l.length) (.side ((0:Int)<=i/\(i:Int)<m.length) (.ite (!(decide (Fl.date v1=Fl.date v2)&&(decide (Fl.src v1=Fl.src v2)&&(decide (Fl.dst v1=Fl.dst v2)&&(decide (Fl.ccy v1=Fl.ccy v2)&&(decide (Fl.amt v1=Fl.amt v2)&&true)))))) (.R [.bool false] []) (.S (i+1) (.leaf (.back 0 [(0,.sl l.length 5 (flG l)),(1,.sl m.length 5 (flG m)),(5,.i (i+1))] [])))))) (.R [.bool true] [])) ?_;simp only [Tree.holds,zf,inR,lo,hi,aD];refine⟨λhlt=> ?_,λhge=> ?_⟩
   ·have hlt:i<l.length:=by have:=aB hlt; omega
    refine⟨by omega,λ_=>⟨by omega,λ_=>⟨λg=> ?_,λg=>⟨by omega,λ_=> ?_⟩⟩⟩⟩
    ·refine RetR.scal (hq false ⟨λh=>(by cases h),λh3=> ?_⟩) rfl (by simp [resV]);subst h3; simp at g
    ·have g:l.getD i Fl.nil=m.getD i Fl.nil:=by
      rw [Bool.not_eq_false'] at g;simp only [bA,aK,and_true] at g;exact Fl.same g.1 g.2.1 g.2.2.1 g.2.2.2.1 g.2.2.2.2
     rw [aP trivial];refine⟨⟨i+1,hlt,λj hj=> ?_⟩,by show l.length - (i+1)<l.length - i; omega,by simp [SSf,flS,za],trivial,by kernel_rfl,aI _⟩;rcases aR j i with h1 | h1
     ·exact hib j h1
     ·have:j=i:=by omega
      rw [this]; exact g
   ·have hge:i=l.length:=by have:=aC hge; omega
    subst hge;refine RetR.scal (hq true ⟨λ_=> ?_,λ_=>rfl⟩) rfl (by simp [resV]);apply List.ext_getElem hl;intro j g1 g2;have:=hib j g1;simpa [List.getD,g1,g2] using this
end Go.Proofs.Tryz
end
section
namespace Go.Nov
open Go.Sx
namespace Tm
theorem Y3{d:Deal}{x:Ex}{r:L8}(h:fits d):(pay d x r).big<=1000+x.size+x.zQ+r.length:=by
 obtain⟨h1,h2,h3,h4,h5,h6⟩:=h;simp only [pay,opx,kon,Con.big,Con.bigs,Ex.size,Ex.zK,Ex.zQ,Ex.jN,List.length_nil];omega
theorem zq4{d:Deal}{day:Int}(h:fits d):(fwd d day).big<100000:=by
 have h':=h;obtain⟨h1,h2,h3,h4,h5,h6⟩:=h;have:=Y3 (x:=opx 5 [spot d.name,kon d.zb]) (r:=d.zd) h';simp only [fwd,at_,Con.big,Con.bigs,Ex.size,Ex.zK,Ex.zQ,Ex.jN,List.length_nil,opx,spot,kon] at this ⊢;omega
theorem znp:zero.big<100000:=by decide +kernel
end Tm
end Go.Nov
end
section
namespace Go.Nov
open Go.Sx
structure Per where
 fix:Int
 pay:Int
 part:L8
namespace Per
def nil:Per:=⟨0,0,[]⟩
def cell(p:Per):Nat->AV
 | 0=>.i p.fix
 | 1=>.i p.pay
 | 2=>.str p.part
 | _=>.undef
def av(p:Per):AV:=.agg [.i p.fix,.i p.pay,.str p.part]
end Per
def perG(l:List Per):Nat->Nat->AV:=λj=>(l.getD j Per.nil).cell
def perS(l:List Per):AV:=.sl l.length 3 (perG l)
namespace Tm
def short(d:Deal)(l:List Per)(days:List Int):Prop:=fits d/\l.length<=60/\days.length<=200/\∀ i,i<l.length->(l.getD i Per.nil).part.length<=300
end Tm
end Go.Nov
end
section
namespace Go.Nov
open Go.Sx
namespace Tm
def zey:Con:=.mk 1 [] [] [] (.mk 0 [] [] 0 []) 0 [] []
def both(a b:Con):Con:=.mk 3 [] [] [] (.mk 0 [] [] 0 []) 0 [] [a,b]
def x8:Nat->List Con->Con
 | 0,_=>zey
 | n+1,l=>if l.length=0 then zey else if l.length=1 then l.getD 0 Con.nil else both (x8 n (l.take ((l.length+1)/2))) (x8 n (l.drop ((l.length+1)/2)))
theorem xj:∀ (n m:Nat) (l:List Con),l.length<=n->l.length<=m->x8 n l=x8 m l
 | 0,0,l,_,_=>rfl
 | 0,m+1,l,h,_=>by
  have:l.length=0:=by omega
  simp [x8,this]
 | n+1,0,l,_,h=>by
  have:l.length=0:=by omega
  simp [x8,this]
 | n+1,m+1,l,h1,h2=>by
  simp only [x8];by_cases h:l.length=0
  ·rw [aP h,aP h]
  ·rw [aO h,aO h];by_cases g:l.length=1
   ·rw [aP g,aP g]
   ·rw [aO g,aO g,xj n m _ (by rw [aH]; omega) (by rw [aH]; omega),xj n m _ (by rw [bV]; omega) (by rw [bV]; omega)]
def whole(l:List Con):Con:=x8 l.length l
theorem ZR(l:List Con):whole l=if l.length=0 then zey else if l.length=1 then l.getD 0 Con.nil else both (whole (l.take ((l.length+1)/2))) (whole (l.drop ((l.length+1)/2))):=by
 unfold whole;rw [xj l.length (l.length+1) l (aJ _) (Nat.le_succ _)];simp only [x8];by_cases h:l.length=0
 ·rw [aP h,aP h]
 ·rw [aO h,aO h];by_cases g:l.length=1
  ·rw [aP g,aP g]
  ·rw [aO g,aO g,xj l.length _ _ (by rw [aH]; omega) (aJ _),xj l.length _ _ (by rw [bV]; omega) (aJ _)]
theorem Vm(l m:List Con):Con.bigs (l++m)=Con.bigs l+Con.bigs m:=by
 induction l with
 | nil=>simp [Con.bigs]
 | cons c l ih=>simp only [List.cons_append,Con.bigs,ih]; omega
theorem QL(l m:List Con):Con.zz (l++m)=Con.zz l+Con.zz m:=by
 induction l with
 | nil=>simp [Con.zz]
 | cons c l ih=>simp only [List.cons_append,Con.zz,ih]; omega
theorem yk:∀ (n:Nat) (l:List Con),l.length<=n->1<=l.length->(whole l).big<=Con.bigs l+2*(l.length - 1)/\(whole l).nodes<=Con.zz l+(l.length - 1)
 | 0,l,h,h'=>by omega
 | n+1,l,h,h'=>by
  rw [ZR,aO (by omega:¬ l.length=0)];by_cases h1:l.length=1
  ·rw [aP h1]
   match l,h1 with
   | [c],_=>simp [Con.bigs,Con.zz]
  ·rw [aO h1];obtain⟨a1,a2⟩:=yk n (l.take ((l.length+1)/2)) (by rw [aH]; omega) (by rw [aH]; omega);obtain⟨b1,b2⟩:=yk n (l.drop ((l.length+1)/2)) (by rw [bV]; omega) (by rw [bV]; omega);have e1:=Vm (l.take ((l.length+1)/2)) (l.drop ((l.length+1)/2));have e2:=QL (l.take ((l.length+1)/2)) (l.drop ((l.length+1)/2));rw [bU] at e1 e2;rw [aH] at a1 a2;rw [bV] at b1 b2;simp only [both,Con.big,Con.bigs,Con.nodes,Con.zz,Ex.size,Ex.zK,Ex.zQ,Ex.jN,List.length_nil];omega
theorem xJ(l:List Con):(whole l).big<=Con.bigs l+2*l.length+2/\(whole l).nodes<=Con.zz l+l.length+1:=by
 by_cases h:l.length=0
 ·have:l=[]:=aU.1 h;subst this;decide
 ·have:=yk l.length l (aJ _) (by omega);omega
structure Leg where
 e:Int
 acc:List Con
def prod(e:Int)(a b:L8):L8×Int:=if e≠0 then([48],e) else mulR a b
theorem yE{e:Int}{a b:L8} : (prod e a b).1.length<=2003:=by
 unfold prod;split
 ·simp
 ·exact UM a b
def legS(d:Deal)(s:Leg)(p:Per):Leg:=
 ⟨(prod (prod s.e p.part d.zd).2 d.zb (prod s.e p.part d.zd).1).2,s.acc++[at_ p.pay (.mk 2 d.long d.short d.ccy (kon (prod (prod s.e p.part d.zd).2 d.zb (prod s.e p.part d.zd).1).1) 0 [] []),at_ p.pay (pay d (fixg d.name p.fix) (prod s.e p.part d.zd).1)]⟩
def legC(d:Deal)(fl:Bool)(s:Leg)(p:Per):Leg:=
 ⟨(prod s.e p.part d.zd).2,s.acc++[at_ p.pay (pay d (over d.zb (fixg d.name p.fix) fl) (prod s.e p.part d.zd).1)]⟩
def badT(l:List Per)(i:Nat):Bool:=(List.range i).any λj=>decide ((l.getD j Per.nil).pay<(l.getD j Per.nil).fix)||(decide (0<j)&&decide ((l.getD j Per.nil).pay<=(l.getD (j - 1) Per.nil).pay))
theorem zif(l:List Per)(i:Nat):badT l (i+1)=(badT l i||(decide ((l.getD i Per.nil).pay<(l.getD i Per.nil).fix)||(decide (0<i)&&decide ((l.getD i Per.nil).pay<=(l.getD (i - 1) Per.nil).pay)))):=by
 unfold badT;rw [List.range_succ,List.any_append];simp
def xh(l:List Per)(i:Nat):Int:=if i=0 then -9223372036854775808 else(l.getD (i - 1) Per.nil).pay
def perE(d:Deal)(l:List Per):Int:=first (first 0 [d.zb,d.zd]) (l.map Per.part)
def qL(e:Int)(l:List Per)(i:Nat):Int:=if e=0 then(if badT l i=true then 40 else 0) else e
theorem V4(l:List Per)(i:Nat):xh l (i+1)=(l.getD i Per.nil).pay:=by simp [xh]
theorem Wf{e:Int}{l:List Per}{i:Nat}{b:Bool}(hb:b=(decide ((l.getD i Per.nil).pay<(l.getD i Per.nil).fix)||(decide (0<(i:Int))&&decide ((l.getD i Per.nil).pay<=xh l i)))):qL e l (i+1)=if b=true then(if qL e l i=0 then 40 else qL e l i) else qL e l i:=by
 have hs:badT l (i+1)=(badT l i||b):=by
  rw [zif,hb];congr 2;by_cases h:i=0
  ·simp [h]
  ·have:xh l i=(l.getD (i - 1) Per.nil).pay:=by simp [xh,h]
   rw [this];simp
 unfold qL;rw [hs];by_cases he:e=0
 ·cases badT l i<;>cases b<;>simp [he]
 ·cases b<;>simp [he]
def zR(f:Leg->Per->Leg)(e:Int)(l:List Per)(i:Nat):Leg:=(l.take i).foldl f ⟨e,[]⟩
theorem Wb{f:Leg->Per->Leg}{e:Int}{l:List Per}{i:Nat}(h:i<l.length):zR f e l (i+1)=f (zR f e l i) (l.getD i Per.nil):=by
 have:l.take (i+1)=l.take i++[l.getD i Per.nil]:=by rw [List.take_add_one]; simp [List.getD,h]
 unfold zR;rw [this,List.foldl_append];rfl
theorem Xq{f:Leg->Per->Leg}(hf:∀ s p,(f s p).acc.length<=s.acc.length+2/\Con.bigs (f s p).acc<=Con.bigs s.acc+30000/\Con.zz (f s p).acc<=Con.zz s.acc+4):∀ (l:List Per) (s:Leg),(l.foldl f s).acc.length<=s.acc.length+2*l.length/\Con.bigs (l.foldl f s).acc<=Con.bigs s.acc+30000*l.length/\Con.zz (l.foldl f s).acc<=Con.zz s.acc+4*l.length
 | [],s=>by simp
 | p::l,s=>by
  have h1:=Xq hf l (f s p);have h2:=hf s p;simp only [List.foldl_cons,aL];omega
theorem xQ{f:Leg->Per->Leg}(hf:∀ s p,(f s p).acc.length<=s.acc.length+2/\Con.bigs (f s p).acc<=Con.bigs s.acc+30000/\Con.zz (f s p).acc<=Con.zz s.acc+4)(e:Int)(l:List Per)(i:Nat)(hl:l.length<=60):(zR f e l i).acc.length<=120/\Con.bigs (zR f e l i).acc<=1800000/\Con.zz (zR f e l i).acc<=240:=by
 have h:=Xq hf (l.take i) ⟨e,[]⟩;have h2:(l.take i).length<=60:=by rw [aH]; omega
 unfold zR;simp only [List.length_nil,Con.bigs,Con.zz] at h;omega
theorem VZ{d:Deal}(h:fits d)(s:Leg)(p:Per):(legS d s p).acc.length<=s.acc.length+2/\Con.bigs (legS d s p).acc<=Con.bigs s.acc+30000/\Con.zz (legS d s p).acc<=Con.zz s.acc+4:=by
 have h':=h;obtain⟨h1,h2,h3,h4,h5,h6⟩:=h;have l1:(prod (prod s.e p.part d.zd).2 d.zb (prod s.e p.part d.zd).1).1.length<=2003:=yE;have l2:(prod s.e p.part d.zd).1.length<=2003:=yE;have:=Y3 (x:=fixg d.name p.fix) (r:=(prod s.e p.part d.zd).1) h';simp only [legS,Vm,QL,bO,at_,kon,fixg,pay,opx,Con.big,Con.bigs,Con.nodes,Con.zz,Ex.size,Ex.zK,Ex.zQ,Ex.jN,List.length_nil,aL] at this l1 l2 ⊢;omega
theorem zhw{k n:L8}{z:Int}{fl:Bool} : (over k (fixg n z) fl).size+(over k (fixg n z) fl).zQ<=20+k.length+n.length:=by
 cases fl<;>simp only [over,opx,fixg,kon,Ex.size,Ex.zK,Ex.zQ,Ex.jN,List.length_nil,aL,aP,Bool.false_eq_true,if_false]<;>omega
theorem VT{d:Deal}{fl:Bool}(h:fits d)(s:Leg)(p:Per):(legC d fl s p).acc.length<=s.acc.length+2/\Con.bigs (legC d fl s p).acc<=Con.bigs s.acc+30000/\Con.zz (legC d fl s p).acc<=Con.zz s.acc+4:=by
 have h':=h;obtain⟨h1,h2,h3,h4,h5,h6⟩:=h;have l2:(prod s.e p.part d.zd).1.length<=2003:=yE;have:=Y3 (x:=over d.zb (fixg d.name p.fix) fl) (r:=(prod s.e p.part d.zd).1) h';have:=zhw (k:=d.zb) (n:=d.name) (z:=p.fix) (fl:=fl);simp only [legC,Vm,QL,bO,at_,Con.bigs,Con.nodes,Con.zz,List.length_nil,aL];rw [show(Con.mk 6 [] [] [] (Ex.mk 0 [] [] 0 []) p.pay [] [pay d (over d.zb (fixg d.name p.fix) fl) (prod s.e p.part d.zd).1]).big=1+0+0+0+0+1+0+((pay d (over d.zb (fixg d.name p.fix) fl) (prod s.e p.part d.zd).1).big+0) by simp [Con.big,Con.bigs,Ex.size,Ex.zK,Ex.zQ,Ex.jN]];simp only [pay,Con.nodes,Con.zz] at this ⊢;simp only [pay] at *
 omega
def resE(e:Int)(c:Con):Int:=if e=0 then c.errC else e
def w9(f:Leg->Per->Leg)(d:Deal)(l:List Per):Leg:=zR f (qL (perE d l) l l.length) l l.length
def ji(f:Leg->Per->Leg)(d:Deal)(l:List Per):Int:=if 40<l.length then 4 else resE (w9 f d l).e (whole (w9 f d l).acc)
def q7(f:Leg->Per->Leg)(d:Deal)(l:List Per):Con:=if ji f d l=0 then whole (w9 f d l).acc else zero
end Tm
end Go.Nov
end
section
namespace Go.Nov
open Go.Sx
section
variable {x:Ex} {day:Int} {f:List Fx} {c:List Ch}
end
structure Lg(p q x y:Ex):Prop where
 p0:p.errX=0
 p1:p.zL=2
 q0:q.errX=0
 q1:q.zL=2
 x0:x.errX=0
 x1:x.zL=1
 y0:y.errX=0
 y1:y.zL=1
 s:p.size+q.size+x.size+y.size<500
 dp:p.depth<60
 dq:q.depth<60
 dx:x.depth<60
 dy:y.depth<60
section
variable {p q x y:Ex} {day:Int} {f:List Fx} {c:List Ch} (h:Lg p q x y)
include h
end
end Go.Nov
end
section
namespace Go.Nov
open Go.Sx
namespace Tm
theorem zgx{x:Ex}(h:x.size<=50):numX x=decide (x.zL=1):=by
 unfold numX;by_cases hs:x.zL=1
 ·have hd:=Ex.jO x;have:x.errX=0:=by unfold Ex.errX; rw [aO (by omega),aO (by omega)]
  simp [this,hs]
 ·simp [hs]
theorem zfu{x:Ex}(h:x.size<=50)(hs:x.zL=1):x.errX=0:=by
 have hd:=Ex.jO x;unfold Ex.errX;rw [aO (by omega),aO (by omega)]
theorem zud(f:List Fx)(h:List Ch)(day:Int)(c:Con)(fr fin:Int):flM f h (at_ day c) fr fin=if fin<=fr then .ok [] else if fr<=day then flM f h c day fin else .ok []:=by
 rw [yr];simp [at_,Con.kind,Con.date,Con.sub]
theorem zpy(f:List Fx)(h:List Ch)(a b n:L8)(x:Ex)(fr fin:Int):flM f h (.mk 2 a b n x 0 [] []) fr fin=if fin<=fr then .ok [] else Go.Nov.andM (valM x fr f h) λr=>.ok (payF fr a b n r):=by
 rw [yr];simp [Con.kind,Con.x,Con.src,Con.dst,Con.name]
theorem zhq{x:Ex}{day:Int}{f:List Fx}{h:List Ch}(hx:x.size<=50)(hs:x.zL=1)(he:errE f h=0)(hd:dayB day=true):valM x day f h=if(x.ev f day).e≠0 then .error (x.ev f day).e else .ok (x.ev f day).v:=by
 unfold valM jT;have ha:askE x 1 day f h=0:=by rw [zsx (zfu hx hs) hs,aP he,aP hd]
 simp only [ha,ne_eq,not_true_eq_false,if_false];by_cases g:(x.ev f day).e=0<;>simp [g]
theorem QA(r:L8)(f:List Fx)(day:Int):((kon r).ev f day).v=r/\((kon r).ev f day).e=0:=by
 unfold kon; rw [Ex.ev,Ex.evs]; exact⟨rfl,rfl⟩
theorem zq6(n:L8)(d:Int)(f:List Fx)(day:Int):((fixg n d).ev f day).v=(fixR f n d).1/\((fixg n d).ev f day).e=(fixR f n d).2:=by
 unfold fixg; rw [Ex.ev,Ex.evs]; exact⟨rfl,rfl⟩
theorem zv5{k:Int}(hk:k=5\/k=6\/k=7)(x y:Ex)(f:List Fx)(day:Int):((opx k [x,y]).ev f day).v=(uT [] (x.ev f day) (y.ev f day) (opR k)).1/\((opx k [x,y]).ev f day).e=(uT [] (x.ev f day) (y.ev f day) (opR k)).2:=by
 unfold opx;rw [Ex.ev,Ex.evs,Ex.evs,Ex.evs];rcases hk with rfl | rfl | rfl<;>exact⟨rfl,rfl⟩
theorem WA{k:Int}(hk:k=5\/k=6\/k=7){x y:Ex}{f:List Fx}{day:Int}(hx:(x.ev f day).e=0)(hy:(y.ev f day).e=0):((opx k [x,y]).ev f day).v=(opR k (x.ev f day).v (y.ev f day).v).1/\((opx k [x,y]).ev f day).e=(opR k (x.ev f day).v (y.ev f day).v).2:=by
 obtain⟨h1,h2⟩:=zv5 hk x y f day;rw [h1,h2];unfold uT;rw [aO (by simp [hx]),aO (by simp [hy])];exact⟨rfl,rfl⟩
theorem YC(a b:L8):(subR a b).1.length<=2003:=by
 unfold subR;split
 ·simp
 ·exact UD _ _
def posR(t:L8):L8:=if(cmpR t [48]).1<0 then [48] else t
theorem UO{t:L8}{n:Nat}(h:t.length<=n)(h1:1<=n):(posR t).length<=n:=by
 unfold posR;split
 ·exact h1
 ·exact h
theorem WC{t:L8}(ht:errR t=0):opR 7 [48] t=(posR t,0)/\(cmpR t [48]).2=0/\errR (posR t)=0:=by
 obtain⟨c1,c2⟩:=zag.2 ht;obtain⟨d1,d2⟩:=zj7 ht J6;have hz:qv t=0->t=[48]:=(xe ht).2.1.2;refine⟨?_,c1,?_⟩
 ·show jY 7 [48] t=_;unfold jY posR;rw [aP rfl,d1,c1,aO (by simp)];congr 1;by_cases h1:0<(cmpR t [48]).1
  ·rw [aP (d2.2 h1),aO (by omega)]
  ·rw [aO (λx=>h1 (d2.1 x))];by_cases h2:(cmpR t [48]).1<0
   ·rw [aP h2]
   ·rw [aO h2]
    have h3:qv t=0:=by
     rw [c2] at h1 h2;by_cases n:qv t<0
     ·rw [aP n] at h2; exact absurd (by decide) h2
     ·rw [aO n] at h1;by_cases p:0<qv t
      ·rw [aP p] at h1; exact absurd (by decide) h1
      ·grind
    exact(hz h3).symm
 ·unfold posR;split
  ·exact J6
  ·exact ht
theorem zpi{a b:L8} : first 0 [a,b]=0↔errR a=0/\errR b=0:=by
 unfold first;by_cases h:errR a=0
 ·simp [h]
 ·simp [h]
def xW(put:Bool)(s k:L8):L8×Int:=if put=true then subR k s else subR s k
theorem zs2{x:Ex}{k s:L8}{put:Bool}{f:List Fx}{day:Int}(hs:errR s=0)(hk:errR k=0)(h1:(x.ev f day).v=s)(h2:(x.ev f day).e=0)(hd:(xW put s k).2=0):((over k x put).ev f day).e=0/\((over k x put).ev f day).v=posR (xW put s k).1/\errR (posR (xW put s k).1)=0:=by
 obtain⟨k1,k2⟩:=QA k f day;obtain⟨z1,z2⟩:=QA [48] f day
 have ht:errR (xW put s k).1=0:=by
  unfold xW at hd ⊢;cases put with
  | true=>exact(Qb hk hs hd).1
  | false=>exact(Qb hs hk hd).1
 have e5:((opx 5 (if put=true then [kon k,x] else [x,kon k])).ev f day).v=(xW put s k).1/\((opx 5 (if put=true then [kon k,x] else [x,kon k])).ev f day).e=0:=by
  unfold xW at hd ⊢;cases put with
  | true=>
   obtain⟨a1,a2⟩:=WA (k:=5) (.inl rfl) k2 h2;rw [k1,h1] at a1 a2;exact⟨a1,a2.trans hd⟩
  | false=>
   obtain⟨a1,a2⟩:=WA (k:=5) (.inl rfl) h2 k2;rw [k1,h1] at a1 a2;exact⟨a1,a2.trans hd⟩
 obtain⟨p1,p2,p3⟩:=WC ht;obtain⟨b1,b2⟩:=WA (k:=7) (.inr (.inr rfl)) z2 e5.2;rw [z1,e5.1,p1] at b1 b2;exact⟨b2,b1,p3⟩
end Tm
end Go.Nov
end
section
set_option maxRecDepth 100000
open Go Go.Sx Go.Proofs Go.Nov
namespace Go.Proofs.Tryz
attribute [local simp] eqKV eqA eqA0 eqH eqB eqL eqL0
noncomputable def K69:=Go.Sx.aA f69
theorem zh3(n sz:Nat)(g g':Nat->Nat->AV):eqG (0+n) sz (appG 0 g g') g':=zmk n sz g g'
def zdu:Ctr:=ctrP false (λl:List Int=>[Con.dayS l]) (λl=>l.length<2^40) (λ_ (_:Unit)=>True) (λl _=>(.osl 0 1 0 l.length,[.arr l.length 1 (Con.dayG l)]))
theorem zgq:ze prog 99 zdu:=by
 refine YB (fn:=f99) (c:=f99.body.getD .skip) rfl rfl rfl λl hl O w0 Q hq=> ?_
 replace hq:=hq () trivial;refine zc.n zw [] (.all (λ(b:Bool)=>0<l.length->b=false) λn=>.ite n (.R [.nils] []) (.side (0=0/\0<=0/\(0+l.length)*8<=140737488355328) (.R [.osl 0 1 0 (0+l.length)] [.arr (0+l.length) 1 (appG 0 (zj 1 []) (Con.dayG l))]))) ?_;simp only [Tree.holds,zf];refine⟨⟨false,λ_=>rfl⟩,λb hb=>⟨λh=> ?_,λh=>⟨⟨trivial,aJ _,by omega⟩,λ_=> ?_⟩⟩⟩
 ·have h0:l=[]:=by
   rcases bC l.length with h0 | h0
   ·exact aU.1 h0
   ·rw [hb h0] at h; cases h
  subst h0;refine RetR.scal (.inr ⟨.osl 0 1 0 0,[(1,Con.dayG [])],by simp [upA2,upA1,upA0],?_⟩) (r:=.nils) rfl (by simp [resV]);exact hq
 ·refine RetR.outs [0] rfl rfl (.inl hq) (λh=>by cases h) ?_ ?_ rfl
  ·simp [resV,exp2,exp1,exp0,zO,eqA2,eqL1]
  ·exact⟨⟨by omega,rfl,zh3 _ _ _ _⟩,trivial⟩
def WB(n:Nat):Ctr:=ctrP false (λc:Con=>[c.conA]) (λc=>c.nodes<n/\c.big<2^38) (λ_ (_:Unit)=>True) (λc _=>(c.conD,[]))
noncomputable def GTw0:=tb zjz (tb zgq tz)
noncomputable def GTwc(n:Nat):Nat->Option Ctr:=λf=>if f=69 then some (WB n) else GTw0.g f
theorem zf3{n:Nat}(ih:ze prog 69 (WB n)):∀ g c,GTwc n g=some c->ze prog g c:=λg c h=>by
 unfold GTwc at h;split at h
 ·rename_i e; cases h; subst e; exact ih
 ·exact GTw0.h g c h
def STc(c:Con)(i:Nat):KV:=[(1,.ptr 0 0),(2,.ptr 1 0),(3,.osl 3 12 0 i),(15,Con.conS c.sub),(16,.i (c.sub.length:Int)),(17,.i (i:Int))]
def BTc(c:Con)(s:AV):Blk:=.box [.int .u8 c.kind,.str c.src,.str c.dst,.str c.name,.int .u8 c.x.kind,.str c.x.rat,.str c.x.name,.i c.x.date,.sl c.x.sub.length 5 c.x.deep,.i c.date,.osl 2 1 0 c.days.length,s]
def BTz:Blk:=.box [.int .u8 0,.str [],.str [],.str [],.int .u8 0,.str [],.str [],.i 0,.nils,.i 0,.nils,.nils]
def RTc(c:Con):List AV:=[c.outD (.sl c.x.sub.length 5 c.x.deep) (.osl 2 1 0 c.days.length) (.osl 3 12 0 c.sub.length)]
def HTc(c:Con)(i:Nat):Heap:=[BTc c (Con.conS c.sub),BTz,.arr c.days.length 1 (Con.dayG c.days),.arr i 12 (Con.conG c.sub)]
theorem zh7{s:List Con}{i:Nat} : eqG (i+1) 12 (appG i (Con.conG s) (zi (zj 12 [.int .u8 (s.getD i Con.nil).kind,.str (s.getD i Con.nil).src,.str (s.getD i Con.nil).dst,.str (s.getD i Con.nil).name,.int .u8 (s.getD i Con.nil).x.kind,.str (s.getD i Con.nil).x.rat,.str (s.getD i Con.nil).x.name,.i (s.getD i Con.nil).x.date,.sl (s.getD i Con.nil).x.sub.length 5 (Ex.exG (s.getD i Con.nil).x.sub),.i (s.getD i Con.nil).date,.sl (s.getD i Con.nil).days.length 1 (Con.dayG (s.getD i Con.nil).days),.sl (s.getD i Con.nil).sub.length 12 (s.getD i Con.nil).deep]) 0)) (Con.conG s):=by
 intro j o hj ho;simp only [appG,zi,zj];by_cases h:j<i
 ·rw [aP h]
 ·have:j=i:=by omega
  subst this;rw [aO h];have e:j - j=0:=by omega
  match o,ho with
  | 0,_=>simp [e,Con.conG,Con.cell]
  | 1,_=>simp [e,Con.conG,Con.cell]
  | 2,_=>simp [e,Con.conG,Con.cell]
  | 3,_=>simp [e,Con.conG,Con.cell]
  | 4,_=>simp [e,Con.conG,Con.cell]
  | 5,_=>simp [e,Con.conG,Con.cell]
  | 6,_=>simp [e,Con.conG,Con.cell]
  | 7,_=>simp [e,Con.conG,Con.cell]
  | 8,_=>simp [e,Con.conG,Con.cell]
  | 9,_=>simp [e,Con.conG,Con.cell]
  | 10,_=>simp [e,Con.conG,Con.cell]
  | 11,_=>simp [e,Con.conG,Con.cell]
theorem zqe(n:Nat)(ih:ze prog 69 (WB n)){O:Nat->Prop}{w0:World}{C:Ctr}{Q:AV×Heap->Prop}(c:Con)(h1:c.nodes<n+1)(h2:c.big<2^38)(hR:∀ h:Heap,h[2]?=some (.arr c.days.length 1 (Con.dayG c.days))->h[3]?=some (.arr c.sub.length 12 (Con.conG c.sub))->RetR C 0 Q (RTc c) h) :
  zc prog f69 O 0 w0 [] (λ_ _ _=>False) (RetR C 0 Q) K69 (entry f69 [c.conA]):=by
 refine zc.n (zf3 ih) [1,2,3,15,16,17] (.ex (λ(x:Ex)=>eqL [(Ex.exA c.x)] [x.exA]/\Ex.size x<1099511627776) λn=>.A λn_1=>.ex (q55 [.sl c.days.length 1 (Con.dayG c.days)]) λn_2=>.A λn_3=>.leaf (.loop (lps K69 0).1 (lps K69 0).2 [(1,.ptr 0 0),(2,.ptr 1 0),(3,.nils),(15,.sl c.sub.length 12 (Con.conG c.sub)),(16,.i c.sub.length),(17,.i 0)] [.box [.int .u8 c.kind,.str c.src,.str c.dst,.str c.name,.int .u8 n.kind,.str n.rat,.str n.name,.i n.date,.sl n.sub.length 5 n.deep,.i c.date,.osl 2 1 0 n_2.length,.sl c.sub.length 12 (Con.conG c.sub)],.box [.int .u8 0,.str #[].toList,.str #[].toList,.str #[].toList,.int .u8 0,.str #[].toList,.str #[].toList,.i 0,.nils,.i 0,.nils,.nils],.arr n_2.length 1 (Con.dayG n_2)])) ?_;simp only [q55,Tree.holds,zf,inR,lo,hi,aD];have hb:=h2;rw [Con.Za] at hb;refine⟨c.x,⟨⟨vw c.x,trivial⟩,by show c.x.size<_; omega⟩,⟨(),trivial⟩,λ_ _=>⟨c.days,⟨by simp [za],by omega⟩,⟨(),trivial⟩,λ_ _=> ?_⟩⟩;refine zc.bear 3 12 (Con.conG c.sub) rfl (by decide) (by kernel_rfl) ?_;refine zc.loop (ι:={i:Nat // i<=c.sub.length}) (λi=>STc c i.1) (λi=>HTc c i.1) (λi=>c.sub.length - i.1) ⟨0,aI _⟩ 0 ?_ ?_ (by kernel_rfl)
 ·refine⟨by simp [STc,kC,Con.conS,za],?_,by kernel_rfl,aI _⟩;simp [HTc,BTc,BTz,Con.conS,za]
 ·rintro⟨i,hil⟩;refine zc.n (zf3 ih) [1,2,3,15,16,17] (let v3:=Con.conG c.sub;let v2:=List.getD c.sub (i:Int).toNat Con.nil;let v1:List AV:=[.int .u8 c.kind,.str c.src,.str c.dst,.str c.name,.int .u8 (Ex.kind c.x),.str (Ex.rat c.x),.str (Ex.name c.x),.i (Ex.date c.x),.sl (List.length (Ex.sub c.x)) 5 (Ex.deep c.x),.i c.date,.osl 2 1 0 c.days.length,.osl 3 12 0 i];.D ((i:Int)<(c.sub.length:Int)) (.side ((0:Int)<=i/\(i:Int)<(c.sub.length:Int)) (.ex (λ(x:Con)=>eqL [v2.conD] [(Con.conA x)]/\Con.nodes x<n/\Con.big x<274877906944) λn=>.A λn_1=>.side (0=0/\i<=i/\(i+1)*184<=140737488355328) (.S (i+1) (.leaf (.back 0 [(1,.ptr 0 0),(2,.ptr 1 0),(3,.osl 3 12 0 (i+1)),(15,.sl c.sub.length 12 v3),(16,.i c.sub.length),(17,.i (i+1))] [.box [.int .u8 c.kind,.str c.src,.str c.dst,.str c.name,.int .u8 (Ex.kind c.x),.str (Ex.rat c.x),.str (Ex.name c.x),.i (Ex.date c.x),.sl (List.length (Ex.sub c.x)) 5 (Ex.deep c.x),.i c.date,.osl 2 1 0 c.days.length,.sl c.sub.length 12 v3],.box [.int .u8 0,.str [],.str [],.str [],.int .u8 0,.str [],.str [],.i 0,.nils,.i 0,.nils,.nils],.arr c.days.length 1 (Con.dayG c.days),.arr (i+1) 12 (appG i v3 (zi (zj 12 n.zl) 0)),.box v2.zl,.arr 1 12 (zj 12 n.zl)]))))) (.R [.agg v1] [.box v1,.box v1,.arr c.days.length 1 (Con.dayG c.days),.arr i 12 v3])) ?_;simp only [Tree.holds,zf,inR,lo,hi,aD];have hlb:=Con.Wr c.sub;refine⟨λhlt=> ?_,λhge=> ?_⟩
  ·have hlt:i<c.sub.length:=by have:=aB hlt; omega
   have g1:=Con.vf hlt;have g2:=Con.WG hlt;rw [Con.kg] at h1;refine⟨by omega,λ_=>⟨c.sub.getD i Con.nil,⟨⟨jD _,trivial⟩,by omega,by omega⟩,⟨(),trivial⟩,λ_ _=> ?_⟩⟩;refine⟨⟨trivial,aJ _,by omega⟩,λ_=>⟨by omega,λ_=> ?_⟩⟩;rw [aP trivial];refine⟨⟨i+1,hlt⟩,by show c.sub.length - (i+1)<c.sub.length - i; omega,by simp [STc,Con.conS,za],?_,by kernel_rfl,aI _⟩;refine⟨?_,?_,⟨rfl,rfl,za _ _ _⟩,⟨rfl,rfl,zh7⟩,trivial⟩
   ·simp [BTc,Con.conS,za]
   ·simp [BTz]
  ·have hge:i=c.sub.length:=by have:=aC hge; omega
   subst hge;exact hR _ rfl rfl
theorem Zu(n sz:Nat)(g:Nat->Nat->AV):eqG n sz (zi g 0) g:=λj o _ _=>by simp [zi]
theorem zvg{C:Ctr}{Q:AV×Heap->Prop}{c:Con}{h:Heap}(hC:C.fresh=false)(h2:h[2]?=some (.arr c.days.length 1 (Con.dayG c.days)))(h3:h[3]?=some (.arr c.sub.length 12 (Con.conG c.sub)))(hq:Q (c.conD,[])):RetR C 0 Q (RTc c) h:=by
 refine RetR.out0 hq (λh=>by rw [hC] at h; cases h) ?_;simp only [RTc,Con.outD,resV,exp2,exp1,List.map_cons,List.map_nil,exp0,ren0,zO,frz1,wg,h2,h3,eqA2,eqA,eqL0,eqA0,Con.conD,Con.dayS,Ex.exS,true_and,and_true];simp only [if_true];exact⟨Ex.qm _,⟨trivial,trivial,Zu _ _ _⟩,trivial,trivial,λj o hj ho=>by have:=Con.qm c j o hj ho; simpa [zi] using this.symm⟩
theorem zr7(n:Nat)(ih:ze prog 69 (WB n)):ze prog 69 (WB (n+1)):=by
 refine zh' f69 λc hx O w0 Q hq=> ?_
 exact zqe n ih c hx.1 hx.2 λh a b=>zvg rfl a b (hq () trivial)
def zah:Ctr:=ctrP false (λc:Con=>[c.conA]) (λc=>c.big<2^38) (λ_ (_:Unit)=>True) (λc _=>(c.conD,[]))
theorem zwi:ze prog 69 zah:=vN Con.nodes zr7
noncomputable def K53:=Go.Sx.aA f53
def opC:Ctr:=ctrP false (λp:Int×List Ex=>[.int .u8 p.1,Ex.exS p.2]) (λ_=>True) (λ_ (_:Unit)=>True) (λp _=>(exD (Tm.opx p.1 p.2),[]))
def konC:Ctr:=ctrP false (λr:L8=>[.str r]) (λ_=>True) (λ_ (_:Unit)=>True) (λr _=>(exD (Tm.kon r),[]))
theorem zwm:ze prog 36 opC:=by
 refine zh' f36 λp hp O w0 Q hq=> ?_
 obtain⟨k,s⟩:=p;replace hq:=hq () trivial;refine zc.n zw [] (.R [.agg [.int .u8 k,.str #[].toList,.str #[].toList,.i 0,.sl s.length 5 (Ex.exG s)]] [.box [.int .u8 k,.str #[].toList,.str #[].toList,.i 0,.sl s.length 5 (Ex.exG s)]]) ?_;simp only [Tree.holds,zf];refine RetR.out0 hq (λh=>by cases h) ?_;exact⟨⟨rfl,rfl⟩,rfl,rfl,⟨rfl,rfl⟩,⟨rfl,rfl,λj o hj ho=>(Ex.qm (Tm.opx k s) j o hj ho).symm⟩,trivial⟩
theorem zbc:ze prog 38 konC:=by
 refine zh' f38 λr hp O w0 Q hq=> ?_
 replace hq:=hq () trivial;refine zc.n zw [] (.R [.agg [.int .u8 1,.str r,.str #[].toList,.i 0,.nils]] [.box [.int .u8 1,.str r,.str #[].toList,.i 0,.nils]]) ?_;simp only [Tree.holds,zf];refine RetR.out0 hq (λh=>by cases h) ?_;exact⟨⟨rfl,rfl⟩,rfl,rfl,⟨rfl,rfl⟩,rfl,trivial⟩
noncomputable def K5:Ctr:=inlC prog noG 100 f67
theorem yl:ze prog 67 K5:=QF hmix zw rfl rfl
noncomputable def GTnu:=tb uG (tb yl tz)
def SNu(l:List L8)(i:Nat):KV:=[(0,.ptr 0 0),(6,.osl 1 1 0 l.length),(7,.i (l.length:Int)),(8,.i (i:Int))]
def J0:Ctr:=ctrT false false (λp:Deal×Int×List (L8)=>[.ptr 0 0,.osl 1 1 0 p.2.2.length]) (λp=>[.box (p.1.cells p.2.1),.arr p.2.2.length 1 (ratG p.2.2)]) (λp=>p.2.2.length<2^40/\∀ r∈p.2.2,r.length<2^40) (λ_ (_:Unit)=>True) (λp _=>(.tup [],[.box (p.1.cells (Tm.first p.2.1 p.2.2)),.arr p.2.2.length 1 (ratG p.2.2)]))
theorem Qv:ze prog 53 J0:=by
 refine z9 (fn:=f53) (c:=f53.body.getD .skip) rfl rfl rfl (λh=>by cases h) λp hp O w0 I0 Q hl0 hq=> ?_
 obtain⟨t,e,l⟩:=p;obtain⟨hl,hr⟩:=hp;replace hq:=hq () trivial;simp only at hl hr hq;refine zc.n GTnu.h [0,6,7,8] (.leaf (.loop (lps K53 0).1 (lps K53 0).2 [(0,.ptr 0 0),(6,.osl 1 1 0 l.length),(7,.i l.length),(8,.i 0)] [.box [.i e,.str t.long,.str t.short,.str t.ccy,.str t.name,.str t.zb,.str t.zd],.arr l.length 1 (ratG l)])) ?_;simp only [Tree.holds,zf,inR,lo,hi,aD];show j4 none prog f53 O 2 w0 I0 _ _ _ _;refine zc.loop (ι:={i:Nat // i<=l.length}) (λi=>SNu l i.1) (λi=>[.box (t.cells (Tm.first e (l.take i.1))),.arr l.length 1 (ratG l)]) (λi=>l.length - i.1) ⟨0,aI _⟩ 0 ?_ ?_ (by kernel_rfl)
 ·exact⟨by simp [SNu],by simp [Deal.cells,Tm.first,za],by kernel_rfl,aJ _⟩
 ·rintro⟨i,hil⟩;obtain⟨e',he'⟩:∃ e',Tm.first e (l.take i)=e':=⟨_,rfl⟩;simp only [he'];refine zc.n GTnu.h [0,6,7,8] (let v3:=inR .i64 (i+1);let v2:List (Nat×AV):=[(0,.ptr 0 0),(6,.osl 1 1 0 l.length),(7,.i l.length),(8,.i (i+1))];let v1:List Blk:=[.box [.i e',.str t.long,.str t.short,.str t.ccy,.str t.name,.str t.zb,.str t.zd],.arr l.length 1 (ratG l)];.D ((i:Int)<l.length) (.side ((0:Int)<=i/\(i:Int)<l.length) (.ex (q15 [.str (l.getD (0+Int.toNat i) [])]) λn=>.all (λ(r:Int)=>r=errR n) λn=>.D (e'=(0:Int)) (.side v3 (.leaf (.back 0 v2 [.box [.i n,.str t.long,.str t.short,.str t.ccy,.str t.name,.str t.zb,.str t.zd],.arr l.length 1 (ratG l)]))) (.side v3 (.leaf (.back 0 v2 v1))))) (.R [] v1)) ?_;simp only [q15,Tree.holds,zf,inR,lo,hi,aD];refine⟨λhlt=> ?_,λhge=> ?_⟩
  ·have hlt:i<l.length:=by have:=aB hlt; omega
   have ht:=Tm.Zk (e:=e) hlt;rw [he'] at ht;have hrl:=hr (l.getD i []) (by simp [List.getD,hlt]);refine⟨by omega,λ_=>⟨l.getD i [],⟨by simp,by omega⟩,⟨_,rfl⟩,?_⟩⟩;rintro _ rfl;refine⟨λh=>⟨by omega,λ_=> ?_⟩,λh=>⟨by omega,λ_=> ?_⟩⟩
   ·rw [aP (aB h)] at ht;rw [aP trivial];exact⟨⟨i+1,hlt⟩,by show l.length - (i+1)<l.length - i; omega,by simp [SNu],by simp [Deal.cells,ht,za],by kernel_rfl,aJ _⟩
   ·rw [aO (aC h)] at ht;rw [aP trivial];exact⟨⟨i+1,hlt⟩,by show l.length - (i+1)<l.length - i; omega,by simp [SNu],by simp [Deal.cells,ht,za],by kernel_rfl,aJ _⟩
  ·have hge:i=l.length:=by have:=aC hge; omega
   rw [hge,bD] at he';rw [he'] at hq;exact RetR.keep [0,1] rfl rfl (by show ∀ j,j<2->_; decide) rfl hq (by simp [resV,exp2,exp1,exp0,ren0,eqA2,eqL1]) (by simp [expH,expB,exp1,exp0,ren0,Deal.cells,za]) rfl
def zsd:Ctr:=ctrT false false (λp:Deal×Int=>[.ptr 0 0]) (λp=>[.box (p.1.cells p.2)]) (λ_=>True) (λ_ (_:Unit)=>True) (λp _=>(exD (Tm.spot p.1.name),[.box (p.1.cells p.2)]))
theorem zpp:ze prog 37 zsd:=by
 refine z9 (fn:=f37) (c:=f37.body.getD .skip) rfl rfl rfl (λh=>by cases h) λp hp O w0 I0 Q hl0 hq=> ?_
 obtain⟨t,e⟩:=p;replace hq:=hq () trivial;refine zc.n zw [] (let v1:List AV:=[.int .u8 3,.str #[].toList,.str t.name,.i 0,.nils];.R [.agg v1] [.box [.i e,.str t.long,.str t.short,.str t.ccy,.str t.name,.str t.zb,.str t.zd],.box v1]) ?_;simp only [Tree.holds,zf];refine RetR.keep [0] rfl rfl (by show ∀ j,j<1->_; decide) rfl hq ?_ (by simp [expH,expB,exp1,exp0,ren0,Deal.cells]) rfl;exact⟨⟨rfl,rfl⟩,rfl,rfl,⟨rfl,rfl⟩,rfl,trivial⟩
noncomputable def opI:Ctr:=inlC prog noG 100 f36
theorem zuc:ze prog 36 opI:=QF hmix zw rfl rfl
noncomputable def GPt:=tb zuc (tb zbc tz)
def zsj:Ctr:=ctrT false false (λp:Deal×Int×Ex×Bool=>[.ptr 0 0,p.2.2.1.exA,.bool p.2.2.2]) (λp=>[.box (p.1.cells p.2.1)]) (λ_=>True) (λ_ (_:Unit)=>True) (λp _=>(exD (Tm.over p.1.zb p.2.2.1 p.2.2.2),[.box (p.1.cells p.2.1)]))
theorem zrm:ze prog 39 zsj:=by
 refine z9 (fn:=f39) (c:=f39.body.getD .skip) rfl rfl rfl (λh=>by cases h) λp hp O w0 I0 Q hl0 hq=> ?_
 obtain⟨t,e,x,b⟩:=p;replace hq:=hq () trivial;simp only at hq;refine zc.n GPt.h [] (let v7:=q33 [.str #[(48:UInt8)].toList];let v6:List AV:=[.int .u8 5,.str #[].toList,.str #[].toList,.i 0,.osl 4 5 0 2];let v5:List AV:=[.int .u8 x.kind,.str x.rat,.str x.name,.i x.date,.sl x.sub.length 5 (Ex.exG x.sub)];let v2:List AV:=[.i e,.str t.long,.str t.short,.str t.ccy,.str t.name,.str t.zb,.str t.zd];let v1:List AV:=[.int .u8 7,.str #[].toList,.str #[].toList,.i 0,.osl 6 5 0 2];.ex (q33 [.str t.zb]) λn=>let v13:=List.length (Ex.sub (Tm.kon n));let v8:=Ex.cellsD (Tm.kon n);let v4:=zj 5 [.int .u8 x.kind,.str x.rat,.str x.name,.i x.date,.sl x.sub.length 5 (Ex.exG x.sub),.int .u8 (Ex.kind (Tm.kon n)),.str (Ex.rat (Tm.kon n)),.str (Ex.name (Tm.kon n)),.i (Ex.date (Tm.kon n)),.sl v13 5 (Ex.deep (Tm.kon n))];let v3:=zj 5 [.int .u8 (Ex.kind (Tm.kon n)),.str (Ex.rat (Tm.kon n)),.str (Ex.name (Tm.kon n)),.i (Ex.date (Tm.kon n)),.sl v13 5 (Ex.deep (Tm.kon n)),.int .u8 x.kind,.str x.rat,.str x.name,.i x.date,.sl x.sub.length 5 (Ex.exG x.sub)];.A λn_1=>.ite b (.all (λ(x:Bool)=>True) λn_2=>.ite n_2 (.ex v7 λn_3=>let v9:=Tm.kon n_3;.A λn_4=>.R [.agg v1] [.box v2,.box v8,.box v1,.box v5,.arr 2 5 v3,.box v6,.box [.int .u8 (Ex.kind v9),.str (Ex.rat v9),.str (Ex.name v9),.i (Ex.date v9),.sl (List.length (Ex.sub v9)) 5 (Ex.deep v9),.int .u8 5,.str #[].toList,.str #[].toList,.i 0,.osl 4 5 0 2],.box v1]) (.ex v7 λn_3=>let v10:=Tm.kon n_3;.A λn_4=>.R [.agg v1] [.box v2,.box v8,.box v1,.box v5,.arr 2 5 v3,.box v6,.box [.int .u8 (Ex.kind v10),.str (Ex.rat v10),.str (Ex.name v10),.i (Ex.date v10),.sl (List.length (Ex.sub v10)) 5 (Ex.deep v10),.int .u8 5,.str #[].toList,.str #[].toList,.i 0,.osl 4 5 0 2],.box v1])) (.all (λ(x:Bool)=>True) λn_2=>.ite n_2 (.ex v7 λn_3=>let v11:=Tm.kon n_3;.A λn_4=>.R [.agg v1] [.box v2,.box v5,.box v1,.box v8,.arr 2 5 v4,.box v6,.box [.int .u8 (Ex.kind v11),.str (Ex.rat v11),.str (Ex.name v11),.i (Ex.date v11),.sl (List.length (Ex.sub v11)) 5 (Ex.deep v11),.int .u8 5,.str #[].toList,.str #[].toList,.i 0,.osl 4 5 0 2],.box v1]) (.ex v7 λn_3=>let v12:=Tm.kon n_3;.A λn_4=>.R [.agg v1] [.box v2,.box v5,.box v1,.box v8,.arr 2 5 v4,.box v6,.box [.int .u8 (Ex.kind v12),.str (Ex.rat v12),.str (Ex.name v12),.i (Ex.date v12),.sl (List.length (Ex.sub v12)) 5 (Ex.deep v12),.int .u8 5,.str #[].toList,.str #[].toList,.i 0,.osl 4 5 0 2],.box v1]))) ?_;simp only [q33,Tree.holds,zf];refine⟨t.zb,⟨⟨rfl,trivial⟩,trivial⟩,⟨(),trivial⟩,λ_ _=>⟨λh=> ?_,λh=> ?_⟩⟩
 ·subst h;refine⟨⟨true,trivial⟩,λ_ _=>⟨λ_=> ?_,λ_=> ?_⟩⟩
  all_goals
   refine⟨[48],⟨⟨rfl,trivial⟩,trivial⟩,⟨(),trivial⟩,λ_ _=> ?_⟩;exact RetR.ki [0] rfl rfl (by show ∀ j,j<1->_; decide) rfl hq (LeA.agg ⟨LeA.refl _,LeA.refl _,LeA.refl _,LeA.refl _,Ex.yX (x:=Tm.kon [48]) (y:=Tm.opx 5 [Tm.kon t.zb,x]) ⟨LeA.refl _,LeA.refl _,LeA.refl _,LeA.refl _,LeA.refl _,LeA.refl _,LeA.refl _,LeA.refl _,LeA.refl _,Ex.yX ⟨LeA.refl _,LeA.refl _,LeA.refl _,LeA.refl _,LeA.refl _,LeA.refl _,LeA.refl _,LeA.refl _,LeA.refl _,Ex.yi x,trivial⟩,trivial⟩,trivial⟩) (by simp [expH,expB,exp1,exp0,ren0,Deal.cells]) rfl
 ·subst h;refine⟨⟨true,trivial⟩,λ_ _=>⟨λ_=> ?_,λ_=> ?_⟩⟩
  all_goals
   refine⟨[48],⟨⟨rfl,trivial⟩,trivial⟩,⟨(),trivial⟩,λ_ _=> ?_⟩;exact RetR.ki [0] rfl rfl (by show ∀ j,j<1->_; decide) rfl hq (LeA.agg ⟨LeA.refl _,LeA.refl _,LeA.refl _,LeA.refl _,Ex.yX (x:=Tm.kon [48]) (y:=Tm.opx 5 [x,Tm.kon t.zb]) ⟨LeA.refl _,LeA.refl _,LeA.refl _,LeA.refl _,LeA.refl _,LeA.refl _,LeA.refl _,LeA.refl _,LeA.refl _,Ex.yX ⟨LeA.refl _,LeA.refl _,LeA.refl _,LeA.refl _,Ex.yi x,LeA.refl _,LeA.refl _,LeA.refl _,LeA.refl _,LeA.refl _,trivial⟩,trivial⟩,trivial⟩) (by simp [expH,expB,exp1,exp0,ren0,Deal.cells]) rfl
def payC:Ctr:=ctrT false false (λp:Deal×Int×Ex×L8=>[.ptr 0 0,p.2.2.1.exA,.str p.2.2.2]) (λp=>[.box (p.1.cells p.2.1)]) (λ_=>True) (λ_ (_:Unit)=>True) (λp _=>((Tm.pay p.1 p.2.2.1 p.2.2.2).conD,[.box (p.1.cells p.2.1)]))
theorem zuu:ze prog 35 payC:=by
 refine z9 (fn:=f35) (c:=f35.body.getD .skip) rfl rfl rfl (λh=>by cases h) λp hp O w0 I0 Q hl0 hq=> ?_
 obtain⟨t,e,x,r⟩:=p;replace hq:=hq () trivial;simp only at hq;refine zc.n GPt.h [] (let v1:List AV:=[.int .u8 2,.str t.short,.str t.long,.str t.ccy,.int .u8 6,.str #[].toList,.str #[].toList,.i 0,.osl 3 5 0 2,.i 0,.nils,.nils];.ex (q33 [.str r]) λn=>.A λn_1=>.R [.agg v1] [.box [.i e,.str t.long,.str t.short,.str t.ccy,.str t.name,.str t.zb,.str t.zd],.box [.int .u8 x.kind,.str x.rat,.str x.name,.i x.date,.sl x.sub.length 5 (Ex.exG x.sub)],.box v1,.arr 2 5 (zj 5 [.int .u8 x.kind,.str x.rat,.str x.name,.i x.date,.sl x.sub.length 5 (Ex.exG x.sub),.int .u8 (Ex.kind (Tm.kon n)),.str (Ex.rat (Tm.kon n)),.str (Ex.name (Tm.kon n)),.i (Ex.date (Tm.kon n)),.sl (List.length (Ex.sub (Tm.kon n))) 5 (Ex.deep (Tm.kon n))]),.box [.int .u8 6,.str #[].toList,.str #[].toList,.i 0,.osl 3 5 0 2]]) ?_;simp only [q33,Tree.holds,zf];refine⟨r,⟨⟨rfl,trivial⟩,trivial⟩,⟨(),trivial⟩,λ_ _=> ?_⟩;exact RetR.ki [0] rfl rfl (by show ∀ j,j<1->_; decide) rfl hq (LeA.agg ⟨LeA.refl _,LeA.refl _,LeA.refl _,LeA.refl _,LeA.refl _,LeA.refl _,LeA.refl _,LeA.refl _,Ex.zpl (x:=x) (y:=Tm.kon r) ⟨LeA.refl _,LeA.refl _,LeA.refl _,LeA.refl _,Ex.yi x,LeA.refl _,LeA.refl _,LeA.refl _,LeA.refl _,LeA.refl _,trivial⟩,LeA.refl _,LeA.nils,LeA.nils,trivial⟩) (by simp [expH,expB,exp1,exp0,ren0,Deal.cells]) rfl
def onC:Ctr:=ctrP false (λp:Int×Con=>[.i p.1,p.2.conA]) (λ_=>True) (λ_ (_:Unit)=>True) (λp _=>((Tm.at_ p.1 p.2).conD,[]))
theorem zwd:ze prog 34 onC:=by
 refine zh' f34 λp hp O w0 Q hq=> ?_
 obtain⟨d,c⟩:=p;replace hq:=hq () trivial;simp only at hq;refine zc.n zw [] (let v1:List AV:=[.int .u8 6,.str #[].toList,.str #[].toList,.str #[].toList,.int .u8 0,.str #[].toList,.str #[].toList,.i 0,.nils,.i d,.nils,.osl 2 12 0 1];.R [.agg v1] [.box c.zg,.box v1,.arr 1 12 (zj 12 c.zg)]) ?_;simp only [Tree.holds,zf];exact RetR.le0 hq (λh=>by cases h) (LeA.agg ⟨LeA.refl _,LeA.refl _,LeA.refl _,LeA.refl _,LeA.refl _,LeA.refl _,LeA.refl _,LeA.refl _,LeA.nils,LeA.refl _,LeA.nils,Con.zp7 (e:=c) ⟨LeA.refl _,LeA.refl _,LeA.refl _,LeA.refl _,LeA.refl _,LeA.refl _,LeA.refl _,LeA.refl _,LeA.refl _,LeA.refl _,LeA.refl _,Con.yi c,trivial⟩,trivial⟩)
def opS:Ctr:={ opC with sinks:=true }
theorem zut:ze prog 36 opS:=zwm.sink
def zn4:Ctr:={ zsj with sinks:=true }
theorem YP:ze prog 39 zn4:=zrm.sink
def payS:Ctr:={ payC with sinks:=true }
theorem X6:ze prog 35 payS:=zuu.sink
def onS:Ctr:={ onC with sinks:=true }
theorem zbh:ze prog 34 onS:=zwd.sink
def ztk:Ctr:={ zah with sinks:=true }
theorem zj9:ze prog 69 ztk:=zwi.sink
noncomputable def GBgn:=tb Qv tz
noncomputable def Yc:Ctr:=inlC prog GBgn.g 100 f32
theorem Q1:ze prog 32 Yc:=QF hmix GBgn.h rfl rfl
noncomputable def GDo1:=tb Kh (tb zj9 (tb yl tz))
noncomputable def zdj:Ctr:=inlC prog GDo1.g 100 f33
theorem YE:ze prog 33 zdj:=QF hmix GDo1.h rfl rfl
noncomputable def GFw:=tb Q1 (tb YE (tb zut (tb zbc (tb zpp (tb YP (tb X6 (tb zbh tz)))))))
theorem X8(a b:L8):eqG 2 1 (zj 1 [.str a,.str b]) (ratG [a,b]):=by
 intro j o hj ho;rcases(show j=0\/j=1 by omega) with rfl | rfl<;>rcases(show o=0 by omega) with rfl<;>rfl
theorem J9(e:Ex):eqA (exD e) e.exA:=by
 simp only [exD,Ex.exA,Ex.exS,eqA];exact⟨⟨rfl,rfl⟩,rfl,rfl,⟨rfl,rfl⟩,⟨rfl,rfl,Ex.qm e⟩,trivial⟩
theorem Zx{d:Deal}(h:Tm.fits d):∀ r∈[d.zb,d.zd],r.length<2^40:=by
 obtain⟨h1,h2,h3,h4,h5,h6⟩:=h;intro r hr;rcases aM.1 hr with rfl | hr
 ·omega
 ·rcases aM.1 hr with rfl | hr
  ·omega
  ·cases hr
theorem zero_eq{n:Int} : eqA2 (.tup [.agg [.int .u8 0,.str [],.str [],.str [],.int .u8 0,.str [],.str [],.i 0,.nils,.i 0,.nils,.nils],.i n]) (.tup [Tm.zero.conD,.i n]):=by
 simp [eqA2,eqL1,Tm.zero,Con.conD,Con.outD,Con.dayS,Ex.exS,Con.kind,Con.src,Con.dst,Con.name,Con.x,Con.date,Con.days,Con.sub,Ex.kind,Ex.rat,Ex.name,Ex.date,Ex.sub]
def Um:Ctr:=ctrP false (λp:Deal×Int=>[p.1.av,.i p.2]) (λp=>Tm.fits p.1) (λp (_:Unit)=>True) (λp _=>(.tup [(Tm.out (Tm.res p.1 (Tm.fwd p.1 p.2)) (Tm.fwd p.1 p.2)).conD,.i (Tm.res p.1 (Tm.fwd p.1 p.2))],[]))
theorem zj5{d:Deal}{c:Con}{Q:AV×Heap->Prop}(hq:Q (.tup [(Tm.out (Tm.res d c) c).conD,.i (Tm.res d c)],[]))(h:¬ Tm.first 0 [d.zb,d.zd]=0):Q (.tup [Tm.zero.conD,.i (Tm.first 0 [d.zb,d.zd])],[]):=by
 unfold Tm.res Tm.out at hq;rw [aO h,aO h] at hq;exact hq
theorem zoe{d:Deal}{c:Con}{Q:AV×Heap->Prop}(hq:Q (.tup [(Tm.out (Tm.res d c) c).conD,.i (Tm.res d c)],[]))(h:Tm.first 0 [d.zb,d.zd]=0)(hc:¬ c.errC=0):Q (.tup [Tm.zero.conD,.i c.errC],[]):=by
 unfold Tm.res Tm.out at hq;rw [aP h,aO hc] at hq;exact hq
theorem zs4{d:Deal}{c:Con}{Q:AV×Heap->Prop}(hq:Q (.tup [(Tm.out (Tm.res d c) c).conD,.i (Tm.res d c)],[]))(h:Tm.first 0 [d.zb,d.zd]=0)(hc:c.errC=0):Q (.tup [c.conD,.i 0],[]):=by
 unfold Tm.res Tm.out at hq;rw [aP h,aP hc,hc] at hq;exact hq
abbrev q63(A:List AV)(x:Con):Prop:=eqL A [(Con.conA x)]/\Con.big x<274877906944
abbrev q62(A:List AV)(x:Int×Con):Prop:=eqL A [.i x.1,(Con.conA x.2)]/\True
abbrev q61(A:List AV)(H:Heap)(x:Deal×Int×Ex×L8):Prop:=eqL A [.ptr 0 0,x.2.2.1.exA,.str x.2.2.2]/\eqH H [.box [.i x.2.1,.str x.1.long,.str x.1.short,.str x.1.ccy,.str x.1.name,.str x.1.zb,.str x.1.zd]]/\1=1/\True
theorem zc5:ze prog 12 Um:=by
 refine zh' f12 λp hp O w0 Q hq=> ?_
 obtain⟨d,day⟩:=p;replace hq:=hq () trivial;replace hp:Tm.fits d:=hp;simp only at hq;have hbig:=Tm.zq4 (day:=day) hp;refine zc.n GFw.h [] (let v2:List AV:=[.str d.long,.str d.short,.str d.ccy,.str d.name,.str d.zb,.str d.zd];let v1:List AV:=[.int .u8 0,.str #[].toList,.str #[].toList,.str #[].toList,.int .u8 0,.str #[].toList,.str #[].toList,.i 0,.nils,.i 0,.nils,.nils];.ex (λ(x:Deal×Int×List L8)=>eqL [.ptr 0 0,.osl 1 1 0 2] [.ptr 0 0,.osl 1 1 0 x.2.2.length]/\eqH [.box [.i 0,.str d.long,.str d.short,.str d.ccy,.str d.name,.str d.zb,.str d.zd],.arr 2 1 (zj 1 [.str d.zb,.str d.zd])] [.box [.i x.2.1,.str x.1.long,.str x.1.short,.str x.1.ccy,.str x.1.name,.str x.1.zb,.str x.1.zd],.arr x.2.2.length 1 (ratG x.2.2)]/\2=2/\x.2.2.length<1099511627776/\∀ (r:L8),r∈x.2.2->r.length<1099511627776) λn=>let v9:=ratG n.2.2;.A λn_1=>.ex (λ(x:Deal×Int)=>eqL [.ptr 0 0] [.ptr 0 0]/\eqH [.box [.i (Tm.first n.2.1 n.2.2),.str n.1.long,.str n.1.short,.str n.1.ccy,.str n.1.name,.str n.1.zb,.str n.1.zd]] [.box [.i x.2,.str x.1.long,.str x.1.short,.str x.1.ccy,.str x.1.name,.str x.1.zb,.str x.1.zd]]/\1=1/\True) λn_2=>let v7:=Tm.spot n_2.1.name;.A λn_3=>.ex (q33 [.str d.zb]) λn_4=>let v8:=Tm.kon n_4;.A λn_5=>.ex (λ(x:Int×List Ex)=>eqL [.int .u8 5,.sl 2 5 (zi (zj 5 [.int .u8 (Ex.kind v7),.str (Ex.rat v7),.str (Ex.name v7),.i (Ex.date v7),.sl (List.length (Ex.sub v7)) 5 (Ex.deep v7),.int .u8 (Ex.kind v8),.str (Ex.rat v8),.str (Ex.name v8),.i (Ex.date v8),.sl (List.length (Ex.sub v8)) 5 (Ex.deep v8)]) 0)] [.int .u8 x.1,.sl x.2.length 5 (Ex.exG x.2)]/\True) λn_6=>.A λn_7=>.ex (q61 [.ptr 0 0,(exD (Tm.opx n_6.1 n_6.2)),.str d.zd] [.box [.i n_2.2,.str n_2.1.long,.str n_2.1.short,.str n_2.1.ccy,.str n_2.1.name,.str n_2.1.zb,.str n_2.1.zd]]) λn_8=>let v3:List AV:=[.i n_8.2.1,.str n_8.1.long,.str n_8.1.short,.str n_8.1.ccy,.str n_8.1.name,.str n_8.1.zb,.str n_8.1.zd];.A λn_9=>.ex (q62 [.i day,(Con.conD (Tm.pay n_8.1 n_8.2.2.1 n_8.2.2.2))]) λn_10=>let v4:=Tm.at_ n_10.1 n_10.2;let v10:=q63 [v4.conD];let v6:qe:=.ret [.agg v1,.i n_8.2.1] [.box v2,.box v1,.box v2,.box v3,.arr n.2.2.length 1 v9,.dead,.box v4.zl,.box v1];.A λn_11=>.D (n_8.2.1=0) (.ex (q56 [v4.conD]) λn_12=>.all (λ(r:Int)=>r=Con.errC n_12) λn_13=>let v5:List AV:=[.i n_13,.str n_8.1.long,.str n_8.1.short,.str n_8.1.ccy,.str n_8.1.name,.str n_8.1.zb,.str n_8.1.zd];.D (n_8.2.1=0) (.N (n_13=0) (.R [.agg v1,.i n_13] [.box v2,.box v1,.box v2,.box v5,.arr n.2.2.length 1 v9,.dead,.box v4.zl,.box v1]) (.ex v10 λn_14=>.A λn_15=>.R [n_14.conD,.i 0] [.box v2,.box n_14.zl,.box v2,.box v5,.arr n.2.2.length 1 v9,.dead,.box v4.zl,.box n_14.zl])) (.N (n_8.2.1=0) (.leaf v6) (.ex v10 λn_14=>.A λn_15=>.R [n_14.conD,.i 0] [.box v2,.box n_14.zl,.box v2,.box v3,.arr n.2.2.length 1 v9,.dead,.box v4.zl,.box n_14.zl]))) (.N (n_8.2.1=0) (.leaf v6) (.ex v10 λn_12=>.A λn_13=>.R [n_12.conD,.i 0] [.box v2,.box n_12.zl,.box v2,.box v3,.arr n.2.2.length 1 v9,.dead,.box v4.zl,.box n_12.zl]))) ?_;simp only [q33,q56,q61,q62,q63,Tree.holds,zf];refine⟨(d,0,[d.zb,d.zd]),⟨by simp,by simp [Deal.cells,X8],trivial,by show 2<2^40; decide,Zx hp⟩,⟨(),trivial⟩,λ_ _=> ?_⟩;refine⟨(d,Tm.first 0 [d.zb,d.zd]),⟨by simp,by simp [Deal.cells],trivial,trivial⟩,⟨(),trivial⟩,λ_ _=> ?_⟩;refine⟨d.zb,⟨by simp,trivial⟩,⟨(),trivial⟩,λ_ _=> ?_⟩;refine⟨(5,[Tm.spot d.name,Tm.kon d.zb]),⟨⟨⟨rfl,rfl⟩,⟨rfl,rfl,Ex.XV _ _⟩,trivial⟩,trivial⟩,⟨(),trivial⟩,λ_ _=> ?_⟩;refine⟨(d,Tm.first 0 [d.zb,d.zd],Tm.opx 5 [Tm.spot d.name,Tm.kon d.zb],d.zd),⟨⟨⟨rfl,rfl⟩,J9 _,rfl,trivial⟩,by simp [Deal.cells],trivial,trivial⟩,⟨(),trivial⟩,λ_ _=> ?_⟩;refine⟨(day,Tm.pay d (Tm.opx 5 [Tm.spot d.name,Tm.kon d.zb]) d.zd),⟨⟨⟨rfl,rfl⟩,jD _,trivial⟩,trivial⟩,⟨(),trivial⟩,λ_ _=> ?_⟩;obtain⟨c,hc⟩:∃ c,Tm.fwd d day=c:=⟨_,rfl⟩;have hn:c.nodes<=1000000:=by rw [<- hc]; show(Tm.fwd d day).nodes<=_; simp [Tm.fwd,Tm.at_,Tm.pay,Con.nodes,Con.zz]
 change (_->∃ n_12,_)/\_;simp only [<- show Tm.fwd d day=Tm.at_ day (Tm.pay d (Tm.opx 5 [Tm.spot d.name,Tm.kon d.zb]) d.zd) from rfl];rw [hc] at hq hbig;simp only [hc];have hq1:=zj5 hq;have hq2:=zoe hq;have hq3:=zs4 hq;clear hq;generalize Tm.first 0 [d.zb,d.zd]=e at hq1 hq2 hq3 ⊢;refine⟨λh=> ?_,λh=> ?_⟩
 ·have he:=aB h;refine⟨c,⟨⟨jD c,trivial⟩,by omega,hn⟩,⟨_,rfl⟩,?_⟩;rintro _ rfl;refine⟨λ_=>⟨λh1=> ?_,λh1=> ?_⟩,λh1=>absurd (h.symm.trans h1) (by decide)⟩
  ·exact RetR.out0 (hq2 he (by simpa using h1)) (λh=>by cases h) zero_eq
  ·refine⟨c,⟨⟨jD c,trivial⟩,by omega⟩,⟨(),trivial⟩,λ_ _=> ?_⟩;exact RetR.le0 (hq3 he (by simpa using h1)) (λh=>by cases h) (LeA.refl _)
 ·have he:=aC h;refine⟨λ_=>RetR.out0 (hq1 he) (λh=>by cases h) zero_eq,λh1=>absurd h1 (by simp [he])⟩
theorem Con.zqi(e:Con):eqG 1 12 (zi (zj 12 e.zl) 0) (Con.conG [e]):=by
 intro j o hj ho;rcases(show j=0 by omega) with rfl;simp only [zi,zj,Nat.zero_add];rcases(show o=0\/o=1\/o=2\/o=3\/o=4\/o=5\/o=6\/o=7\/o=8\/o=9\/o=10\/o=11 by omega) with rfl | rfl | rfl | rfl | rfl | rfl | rfl | rfl | rfl | rfl | rfl | rfl<;>rfl
structure NumA where
 ok:Bool
 a:L8
 b:L8
def zt7:Ctr:=ctrT false false (λp:NumA=>[.ptr 0 0,.str p.a,.str p.b]) (λp=>[.box [.bool p.ok]]) (λp=>p.a.length<2^60/\p.b.length<2^60) (λ_ (_:Unit)=>True) (λp _=>(.str (mulR p.a p.b).1,[.box [.bool (p.ok&&decide ((mulR p.a p.b).2=0))]]))
def zsy:Ctr:=ctrT false false (λp:NumA=>[.ptr 0 0,.str p.a,.str p.b]) (λp=>[.box [.bool p.ok]]) (λp=>p.a.length<2^60/\p.b.length<2^60) (λ_ (_:Unit)=>True) (λp _=>(.str (subR p.a p.b).1,[.box [.bool (p.ok&&decide ((subR p.a p.b).2=0))]]))
def zt6:Ctr:=ctrT false false (λp:Bool×L8=>[.ptr 0 0,.str p.2]) (λp=>[.box [.bool p.1]]) (λp=>p.2.length<2^60) (λ_ (_:Unit)=>True) (λp _=>(.str (Tm.posR p.2),[.box [.bool (p.1&&decide ((cmpR p.2 [48]).2=0))]]))
noncomputable def GNmb:=tb yY (tb JK (tb zfr tz))
theorem zq2:ze prog 15 zt7:=by
 refine z9 (fn:=f15) (c:=f15.body.getD .skip) rfl rfl rfl (λh=>by cases h) λp hp O w0 I0 Q hl0 hq=> ?_
 obtain⟨ok,a,b⟩:=p;replace hq:=hq () trivial;simp only at hq hp;refine zc.n GNmb.h [] (.ex (q44 [.str a,.str b]) λn=>.all (λ(r:L8×Int)=>r=mulR n.1 n.2) λn=>.R [.str n.1] [.box [.bool (bif ok then decide (n.2=0) else false)]]) ?_;simp only [q44,Tree.holds,zf];refine⟨(a,b),⟨⟨rfl,rfl,trivial⟩,by show a.length<_; omega,by show b.length<_; omega⟩,⟨_,rfl⟩,?_⟩;rintro _ rfl;refine RetR.ki [0] rfl rfl (by show ∀ j,j<1->_; decide) rfl hq (LeA.refl _) ?_ rfl;cases ok<;>simp [expH,expB,exp1,exp0,ren0]
theorem zqg:ze prog 16 zsy:=by
 refine z9 (fn:=f16) (c:=f16.body.getD .skip) rfl rfl rfl (λh=>by cases h) λp hp O w0 I0 Q hl0 hq=> ?_
 obtain⟨ok,a,b⟩:=p;replace hq:=hq () trivial;simp only at hq hp;refine zc.n GNmb.h [] (.ex (q44 [.str a,.str b]) λn=>.all (λ(r:L8×Int)=>r=subR n.1 n.2) λn=>.R [.str n.1] [.box [.bool (bif ok then decide (n.2=0) else false)]]) ?_;simp only [q44,Tree.holds,zf];refine⟨(a,b),⟨⟨rfl,rfl,trivial⟩,by show a.length<_; omega,by show b.length<_; omega⟩,⟨_,rfl⟩,?_⟩;rintro _ rfl;refine RetR.ki [0] rfl rfl (by show ∀ j,j<1->_; decide) rfl hq (LeA.refl _) ?_ rfl;cases ok<;>simp [expH,expB,exp1,exp0,ren0]
theorem zrf:ze prog 17 zt6:=by
 refine z9 (fn:=f17) (c:=f17.body.getD .skip) rfl rfl rfl (λh=>by cases h) λp hp O w0 I0 Q hl0 hq=> ?_
 obtain⟨ok,a⟩:=p;replace hq:=hq () trivial;simp only at hq hp;refine zc.n GNmb.h [] (.ex (q44 [.str a,.str #[(48:UInt8)].toList]) λn=>.all (λ(r:Int×Int)=>r=cmpR n.1 n.2) λn=>let v1:List Blk:=[.box [.bool (bif ok then decide (n.2=0) else false)]];.D (n.1<0) (.R [.str #[(48:UInt8)].toList] v1) (.R [.str a] v1)) ?_;simp only [q44,Tree.holds,zf];refine⟨(a,[48]),⟨⟨rfl,rfl,trivial⟩,by show a.length<_; omega,by show(1:Nat)<_; omega⟩,⟨_,rfl⟩,?_⟩;rintro _ rfl;simp only;unfold Tm.posR at hq;refine⟨λg=> ?_,λg=> ?_⟩
 ·rw [aP (aB g)] at hq;refine RetR.ki [0] rfl rfl (by show ∀ j,j<1->_; decide) rfl hq (LeA.refl _) ?_ rfl;cases ok<;>simp [expH,expB,exp1,exp0,ren0]
 ·rw [aO (aC g)] at hq;refine RetR.ki [0] rfl rfl (by show ∀ j,j<1->_; decide) rfl hq (LeA.refl _) ?_ rfl;cases ok<;>simp [expH,expB,exp1,exp0,ren0]
def zez:Ctr:=ctrP true (λp:Int×(List Fx×List Ch)=>[.i p.1,envA p.2.1 p.2.2]) (λp=>envP p.2) (λp r=>r=(decide (0<=p.1)&&(decide (p.1<=99999)&&decide (errE p.2.1 p.2.2=0)))) (λ_ (r:Bool)=>(.bool r,[]))
noncomputable def GUs:=tb Qy tz
theorem zhi:ze prog 11 zez:=by
 refine zh' f11 λp hp O w0 Q hq=> ?_
 obtain⟨day,f,h⟩:=p;replace hq:=hq _ rfl;simp only at hq hp;refine zc.n GUs.h [] (.ex (λ(x:List Fx×List Ch)=>(bif decide ((0:Int)<=day) then decide (day<=99999) else false)=true->q48 [.agg [.sl f.length 3 (fxG f),.sl h.length 4 (chG h)]] x) λn=>.all (λ(x:Int)=>(bif decide ((0:Int)<=day) then decide (day<=99999) else false)=true->x=errE n.1 n.2) λn=>.R [.bool (bif bif decide ((0:Int)<=day) then decide (day<=99999) else false then decide (n=0) else false)] [.box [.sl f.length 3 (fxG f),.sl h.length 4 (chG h)]]) ?_;simp only [q48,Tree.holds,zf];refine⟨(f,h),λ_=>⟨⟨⟨⟨rfl,rfl,λ_ _ _ _=>rfl⟩,⟨rfl,rfl,λ_ _ _ _=>rfl⟩,trivial⟩,trivial⟩,hp⟩,⟨_,λ_=>rfl⟩,λr hr=> ?_⟩;refine RetR.scal hq rfl ?_;simp only [resV];cases h1:decide (0<=day) with
 | false=>simp
 | true=>
  cases h2:decide (day<=99999) with
  | false=>simp
  | true=>
   rw [h1,h2] at hr;rw [hr rfl];simp
theorem yd{A B:Prop}(ha:A)(hb:B):(∃ _:Bool,True)/\∀ n:Bool,True->(n=true->A)/\(n=false->B):=⟨⟨true,trivial⟩,λ_ _=>⟨λ_=>ha,λ_=>hb⟩⟩
theorem zhf(l:List Con)(k:Nat)(hk:k<=l.length):eqG k 12 (zi (Con.conG l) 0) (Con.conG (l.take k)):=by
 intro j o hj ho;simp [zi,Con.conG,List.getD,bR,hj]
theorem zfy(l:List Con)(k:Nat):eqG (l.length - k) 12 (zi (Con.conG l) k) (Con.conG (l.drop k)):=by
 intro j o hj ho;simp [zi,Con.conG,List.getD,List.getElem?_drop]
theorem Con.yX{x y:Con}{k d:Int}{a b n:L8}{z:Ex}{l:List Int}{c:List AV}(h:LeL c (x.zl++y.zl)):LeA (.sl 2 12 (zi (zj 12 c) 0)) (.sl 2 12 (Con.mk k a b n z d l [x,y]).deep):=by
 refine LeA.sl rfl λj o hj ho=> ?_
 rw [Con.qm (Con.mk k a b n z d l [x,y]) j o (by show j<2; omega) ho];have:=LeL.dAt (j*12+o) h;simp only [zi,zj,Nat.zero_add];rcases(show j=0\/j=1 by omega) with rfl | rfl<;>rcases(show o=0\/o=1\/o=2\/o=3\/o=4\/o=5\/o=6\/o=7\/o=8\/o=9\/o=10\/o=11 by omega) with rfl | rfl | rfl | rfl | rfl | rfl | rfl | rfl | rfl | rfl | rfl | rfl<;>exact this
theorem zrp(x y:Con):LeA (.agg [.int .u8 3,.str [],.str [],.str [],.int .u8 0,.str [],.str [],.i 0,.nils,.i 0,.nils,.sl 2 12 (zi (zj 12 (x.zl++y.zl)) 0)]) (Tm.both x y).conD:=
 LeA.agg ⟨LeA.refl _,LeA.refl _,LeA.refl _,LeA.refl _,LeA.refl _,LeA.refl _,LeA.refl _,LeA.refl _,LeA.nils,LeA.refl _,LeA.nils,Con.yX (LeL.refl _),trivial⟩
theorem zmp:LeA (.agg [.int .u8 1,.str [],.str [],.str [],.int .u8 0,.str [],.str [],.i 0,.nils,.i 0,.nils,.nils]) Tm.zey.conD:=
 LeA.agg ⟨LeA.refl _,LeA.refl _,LeA.refl _,LeA.refl _,LeA.refl _,LeA.refl _,LeA.refl _,LeA.refl _,LeA.nils,LeA.refl _,LeA.nils,LeA.nils,trivial⟩
def zfj(n:Nat):Ctr:=ctrP false (λl:List Con=>[Con.conS l]) (λl=>l.length<n/\l.length<2^40) (λ_ (_:Unit)=>True) (λl _=>((Tm.whole l).conD,[]))
noncomputable def GAlc(n:Nat):Nat->Option Ctr:=λf=>if f=54 then some (zfj n) else none
theorem zsb{n:Nat}(ih:ze prog 54 (zfj n)):∀ g c,GAlc n g=some c->ze prog g c:=okIf ih zk
theorem zny(n:Nat)(ih:ze prog 54 (zfj n)):ze prog 54 (zfj (n+1)):=by
 refine zh' f54 λl hp O w0 Q hq=> ?_
 obtain⟨h1,h2⟩:=hp;replace hq:=hq () trivial;rw [Tm.ZR] at hq;refine zc.n (zsb ih) [] (let v5:=Int.toNat ((l.length:Int) - Int.tdiv (l.length:Int) (2:Int));let v3:List AV:=[.int .u8 1,.str #[].toList,.str #[].toList,.str #[].toList,.int .u8 0,.str #[].toList,.str #[].toList,.i 0,.nils,.i 0,.nils,.nils];let v2:List AV:=[.int .u8 3,.str #[].toList,.str #[].toList,.str #[].toList,.int .u8 0,.str #[].toList,.str #[].toList,.i 0,.nils,.i 0,.nils,.osl 1 12 0 2];.D ((l.length:Int)=0) (.R [.agg v3] [.box v3]) (.D ((l.length:Int)=1) (.side ((0:Int)<=0/\(0:Int)<l.length) (.R [(Con.conD (l.getD 0 Con.nil))] [.box (Con.zl (l.getD 0 Con.nil))])) (.side ((2:Int)≠0/\inR .i64 (Int.tdiv (l.length:Int) (2:Int))) (.S ((l.length:Int) - Int.tdiv (l.length:Int) (2:Int)) (.side ((0:Int)<=l.length - Int.tdiv (l.length:Int) (2:Int)/\(l.length:Int) - Int.tdiv (l.length:Int) (2:Int)<=l.length - Int.tdiv (l.length:Int) (2:Int)/\(l.length:Int) - Int.tdiv (l.length:Int) (2:Int)<=l.length) (.side ((0:Int)<=l.length - Int.tdiv (l.length:Int) (2:Int)/\(l.length:Int) - Int.tdiv (l.length:Int) (2:Int)<=l.length) (.ex (λ(x:List Con)=>eqL [.sl v5 12 (zi (Con.conG l) 0)] [.sl x.length 12 (Con.conG x)]/\x.length<n/\x.length<1099511627776) λn_1=>let v1:=Tm.whole n_1;.A λn_2=>.ex (λ(x:List Con)=>eqL [.sl (l.length - Int.toNat ((l.length:Int) - Int.tdiv (l.length:Int) (2:Int))) 12 (zi (Con.conG l) v5)] [.sl x.length 12 (Con.conG x)]/\x.length<n/\x.length<1099511627776) λn=>let v4:=Tm.whole n;.A λn_3=>.R [.agg v2] [.box v2,.arr 2 12 (zj 12 [.int .u8 (Con.kind v1),.str (Con.src v1),.str (Con.dst v1),.str (Con.name v1),.int .u8 (Ex.kind (Con.x v1)),.str (Ex.rat (Con.x v1)),.str (Ex.name (Con.x v1)),.i (Ex.date (Con.x v1)),.sl (List.length (Ex.sub (Con.x v1))) 5 (Ex.exG (Ex.sub (Con.x v1))),.i (Con.date v1),.sl (List.length (Con.days v1)) 1 (Con.dayG (Con.days v1)),.sl (List.length (Con.sub v1)) 12 (Con.deep v1),.int .u8 (Con.kind v4),.str (Con.src v4),.str (Con.dst v4),.str (Con.name v4),.int .u8 (Ex.kind (Con.x v4)),.str (Ex.rat (Con.x v4)),.str (Ex.name (Con.x v4)),.i (Ex.date (Con.x v4)),.sl (List.length (Ex.sub (Con.x v4))) 5 (Ex.exG (Ex.sub (Con.x v4))),.i (Con.date v4),.sl (List.length (Con.days v4)) 1 (Con.dayG (Con.days v4)),.sl (List.length (Con.sub v4)) 12 (Con.deep v4)])]))))))) ?_;simp only [Tree.holds,zf];have e0:((l.length:Int)).tdiv 2=((l.length/2:Nat):Int):=rfl;have e1:(l.length:Int) - ((l.length/2:Nat):Int)=(((l.length+1)/2:Nat):Int):=by omega
 simp only [e0,e1,aD,inR,lo,hi];obtain⟨k,hk⟩:∃ k,(l.length+1)/2=k:=⟨_,rfl⟩;rw [hk] at hq ⊢;refine⟨λh=> ?_,λh=>⟨λg=> ?_,λg=> ?_⟩⟩
 ·have h:=aB h;rw [aP (by omega)] at hq;exact RetR.le0 hq (λh=>by cases h) zmp
 ·have h:=aC h;have g:=aB g;rw [aO (by omega),aP (by omega)] at hq;exact⟨by omega,λ_=>RetR.le0 hq (λh=>by cases h) (LeA.refl _)⟩
 ·have h:=aC h;have g:=aC g;rw [aO (by omega),aO (by omega)] at hq;have l1:(l.take k).length=k:=by rw [aH]; omega
  have l2:(l.drop k).length=l.length - k:=bV;refine⟨⟨by omega,by omega⟩,λ_=>⟨by omega,λ_=>⟨by omega,λ_=>⟨by omega,λ_=> ?_⟩⟩⟩⟩;refine⟨l.take k,⟨⟨⟨l1.symm,rfl,zhf l k (by omega)⟩,trivial⟩,by omega,by omega⟩,⟨(),trivial⟩,λ_ _=> ?_⟩;refine⟨l.drop k,⟨⟨⟨l2.symm,rfl,zfy l k⟩,trivial⟩,by omega,by omega⟩,⟨(),trivial⟩,λ_ _=> ?_⟩;exact RetR.le0 hq (λh=>by cases h) (zrp _ _)
def zch:Ctr:=ctrP false (λl:List Con=>[Con.conS l]) (λl=>l.length<2^40) (λ_ (_:Unit)=>True) (λl _=>((Tm.whole l).conD,[]))
theorem zvd:ze prog 54 zch:=vN List.length zny
noncomputable def GPd:=tb yY (tb yl tz)
def zf4:Ctr:=ctrT false false (λp:Deal×Int×L8×L8=>[.ptr 0 0,.str p.2.2.1,.str p.2.2.2]) (λp=>[.box (p.1.cells p.2.1)]) (λp=>p.2.2.1.length<2^60/\p.2.2.2.length<2^60) (λ_ (_:Unit)=>True) (λp _=>(.str (Tm.prod p.2.1 p.2.2.1 p.2.2.2).1,[.box (p.1.cells (Tm.prod p.2.1 p.2.2.1 p.2.2.2).2)]))
theorem Yd:ze prog 47 zf4:=by
 refine z9 (fn:=f47) (c:=f47.body.getD .skip) rfl rfl rfl (λh=>by cases h) λp hp O w0 I0 Q hl0 hq=> ?_
 obtain⟨t,e,a,b⟩:=p;obtain⟨h1,h2⟩:=hp;replace hq:=hq () trivial;simp only at hq h1 h2;refine zc.n GPd.h [] (let v1:List Blk:=[.box [.i e,.str t.long,.str t.short,.str t.ccy,.str t.name,.str t.zb,.str t.zd]];.N (e=0) (.R [.str #[(48:UInt8)].toList] v1) (.ex (q44 [.str a,.str b]) λn=>.all (λ(r:L8×Int)=>r=mulR n.1 n.2) λn=>.D (e=0) (.R [.str n.1] [.box [.i n.2,.str t.long,.str t.short,.str t.ccy,.str t.name,.str t.zb,.str t.zd]]) (.R [.str n.1] v1))) ?_;simp only [q44,Tree.holds,zf];unfold Tm.prod at hq;refine⟨λh=> ?_,λh=> ?_⟩
 ·rw [aP (by simpa using h)] at hq;exact RetR.keep [0] rfl rfl (by show ∀ j,j<1->_; decide) rfl hq (by simp [resV,exp2,exp1,exp0,ren0,eqA2]) (by simp [expH,expB,exp1,exp0,ren0,Deal.cells]) rfl
 ·have he:e=0:=by simpa using h
  rw [aO (by simpa using h)] at hq;subst he;refine⟨(a,b),⟨⟨rfl,rfl,trivial⟩,by show a.length<_; omega,by show b.length<_; omega⟩,⟨_,rfl⟩,?_⟩;rintro _ rfl;refine⟨λ_=> ?_,λh=>absurd h (by decide)⟩;exact RetR.keep [0] rfl rfl (by show ∀ j,j<1->_; decide) rfl hq (by simp [resV,exp2,exp1,exp0,ren0,eqA2]) (by simp [expH,expB,exp1,exp0,ren0,Deal.cells]) rfl
def zjf:Ctr:=ctrT false false (λp:Deal×Int×Int=>[.ptr 0 0,.i p.2.2]) (λp=>[.box (p.1.cells p.2.1)]) (λ_=>True) (λ_ (_:Unit)=>True) (λp _=>(exD (Tm.fixg p.1.name p.2.2),[.box (p.1.cells p.2.1)]))
theorem zdv:ze prog 48 zjf:=by
 refine z9 (fn:=f48) (c:=f48.body.getD .skip) rfl rfl rfl (λh=>by cases h) λp hp O w0 I0 Q hl0 hq=> ?_
 obtain⟨t,e,d⟩:=p;replace hq:=hq () trivial;refine zc.n zw [] (let v1:List AV:=[.int .u8 2,.str #[].toList,.str t.name,.i d,.nils];.R [.agg v1] [.box [.i e,.str t.long,.str t.short,.str t.ccy,.str t.name,.str t.zb,.str t.zd],.box v1]) ?_;simp only [Tree.holds,zf];refine RetR.keep [0] rfl rfl (by show ∀ j,j<1->_; decide) rfl hq ?_ (by simp [expH,expB,exp1,exp0,ren0,Deal.cells]) rfl;exact⟨⟨rfl,rfl⟩,rfl,rfl,⟨rfl,rfl⟩,rfl,trivial⟩
theorem Con.XV(e f:Con):eqG 2 12 (zi (zj 12 (e.zl++f.zl)) 0) (Con.conG [e,f]):=by
 intro j o hj ho;simp only [zi,zj,Nat.zero_add];rcases(show j=0\/j=1 by omega) with rfl | rfl<;>rcases(show o=0\/o=1\/o=2\/o=3\/o=4\/o=5\/o=6\/o=7\/o=8\/o=9\/o=10\/o=11 by omega) with rfl | rfl | rfl | rfl | rfl | rfl | rfl | rfl | rfl | rfl | rfl | rfl<;>rfl
theorem zs0{a b c:L8}(x:Ex):eqA (.agg [.int .u8 2,.str a,.str b,.str c,.int .u8 x.kind,.str x.rat,.str x.name,.i x.date,.sl x.sub.length 5 x.deep,.i 0,.nils,.nils]) (Con.mk 2 a b c x 0 [] []).conA:=
 ⟨⟨rfl,rfl⟩,rfl,rfl,rfl,⟨rfl,rfl⟩,rfl,rfl,⟨rfl,rfl⟩,⟨rfl,rfl,Ex.qm x⟩,⟨rfl,rfl⟩,rfl,rfl,trivial⟩
def K6(d:Deal)(e:Int)(p:Per)(q:L8):List Con:=[Tm.at_ p.pay (.mk 2 d.long d.short d.ccy (Tm.kon (Tm.prod e d.zb q).1) 0 [] []),Tm.at_ p.pay (Tm.pay d (Tm.fixg d.name p.fix) q)]
structure OneA where
 d:Deal
 e:Int
 p:Per
 q:L8
def OneA.ok(x:OneA):Prop:=Tm.fits x.d/\x.q.length<2^40
noncomputable def GSw1:=tb Yd (tb zbc (tb zbh (tb X6 (tb zdv tz))))
def znj:Ctr:=ctrT false false (λx:OneA=>[.ptr 0 0,x.p.av,.str x.q,.ptr 1 0]) (λx=>[.box (x.d.cells x.e),.box [.str x.d.long,.str x.d.short,.str x.d.ccy,.str x.d.name,.str x.d.zb,.str x.d.zd]]) (λx=>x.ok) (λ_ (_:Unit)=>True) (λx _=>(.sl 2 12 (Con.conG (K6 x.d x.e x.p x.q)),[.box (x.d.cells (Tm.prod x.e x.d.zb x.q).2),.box [.str x.d.long,.str x.d.short,.str x.d.ccy,.str x.d.name,.str x.d.zb,.str x.d.zd]]))
abbrev q65(A:List AV)(H:Heap)(x:Deal×Int×Int):Prop:=eqL A [.ptr 0 0,.i x.2.2]/\eqH H [.box [.i x.2.1,.str x.1.long,.str x.1.short,.str x.1.ccy,.str x.1.name,.str x.1.zb,.str x.1.zd]]/\1=1/\True
abbrev q64(A:List AV)(H:Heap)(x:Deal×Int×L8×L8):Prop:=eqL A [.ptr 0 0,.str x.2.2.1,.str x.2.2.2]/\eqH H [.box [.i x.2.1,.str x.1.long,.str x.1.short,.str x.1.ccy,.str x.1.name,.str x.1.zb,.str x.1.zd]]/\1=1/\x.2.2.1.length<1152921504606846976/\x.2.2.2.length<1152921504606846976
theorem zm9:ze prog 46 znj:=by
 refine z9 (fn:=f46) (c:=f46.body.getD .skip) rfl rfl rfl (λh=>by cases h) λp hp O w0 I0 Q hl0 hq=> ?_
 obtain⟨t,e,p,q⟩:=p;obtain⟨hf,h2⟩:=hp;replace hq:=hq () trivial;simp only at hq hf h2;refine zc.n GSw1.h [] (let v19:=[AV.ptr 0 0,AV.i p.fix];let v16:=Deal.ccy t;let v15:=Deal.long t;let v14:List AV:=[.i p.fix,.i p.pay,.str p.part];let v13:=Deal.short t;let v9:=q64 [.ptr 0 0,.str t.zb,.str q] [.box [.i e,.str v15,.str v13,.str v16,.str t.name,.str t.zb,.str t.zd]];let v8:List AV:=[.str v15,.str v13,.str v16,.str t.name,.str t.zb,.str t.zd];.all (λ(x:Bool)=>True) λn=>.ite n (.ex v9 λn=>let v17:=Tm.prod n.2.1 n.2.2.1 n.2.2.2;let v7:=q65 v19 [.box [.i v17.2,.str n.1.long,.str n.1.short,.str n.1.ccy,.str n.1.name,.str n.1.zb,.str n.1.zd]];.A λn_1=>.all (λ(x:Bool)=>True) λn_2=>.ite n_2 (.ex (q33 [.str v17.1]) λn_3=>let v10:=Tm.kon n_3;.A λn_4=>.ex (q62 [.i p.pay,.agg [.int .u8 2,.str v15,.str v13,.str v16,.int .u8 (Ex.kind v10),.str (Ex.rat v10),.str (Ex.name v10),.i (Ex.date v10),.sl (List.length (Ex.sub v10)) 5 (Ex.deep v10),.i 0,AV.nils,AV.nils]]) λn_5=>let v1:=Tm.at_ n_5.1 n_5.2;.A λn_6=>.ex v7 λn=>.A λn_7=>.ex (q61 [.ptr 0 0,(exD (Tm.fixg n.1.name n.2.2)),.str q] [.box [.i n.2.1,.str n.1.long,.str n.1.short,.str n.1.ccy,.str n.1.name,.str n.1.zb,.str n.1.zd]]) λn=>.A λn_8=>.ex (q62 [.i p.pay,(Con.conD (Tm.pay n.1 n.2.2.1 n.2.2.2))]) λn_9=>let v2:=Tm.at_ n_9.1 n_9.2;.A λn_10=>.R [.osl 4 12 0 2] [.box [.i n.2.1,.str n.1.long,.str n.1.short,.str n.1.ccy,.str n.1.name,.str n.1.zb,.str n.1.zd],.box v8,.box v14,.box [.int .u8 2,.str v15,.str v13,.str v16,.int .u8 (Ex.kind v10),.str (Ex.rat v10),.str (Ex.name v10),.i (Ex.date v10),.sl (List.length (Ex.sub v10)) 5 (Ex.deep v10),.i 0,.nils,.nils],.arr 2 12 (zj 12 [.int .u8 (Con.kind v1),.str (Con.src v1),.str (Con.dst v1),.str (Con.name v1),.int .u8 (Ex.kind (Con.x v1)),.str (Ex.rat (Con.x v1)),.str (Ex.name (Con.x v1)),.i (Ex.date (Con.x v1)),.sl (List.length (Ex.sub (Con.x v1))) 5 (Ex.exG (Ex.sub (Con.x v1))),.i (Con.date v1),.sl (List.length (Con.days v1)) 1 (Con.dayG (Con.days v1)),.sl (List.length (Con.sub v1)) 12 (Con.deep v1),.int .u8 (Con.kind v2),.str (Con.src v2),.str (Con.dst v2),.str (Con.name v2),.int .u8 (Ex.kind (Con.x v2)),.str (Ex.rat (Con.x v2)),.str (Ex.name (Con.x v2)),.i (Ex.date (Con.x v2)),.sl (List.length (Ex.sub (Con.x v2))) 5 (Ex.exG (Ex.sub (Con.x v2))),.i (Con.date v2),.sl (List.length (Con.days v2)) 1 (Con.dayG (Con.days v2)),.sl (List.length (Con.sub v2)) 12 (Con.deep v2)])]) (.ex (q33 [.str v17.1]) λn_3=>let v11:=Tm.kon n_3;.A λn_4=>.ex (q62 [.i p.pay,.agg [.int .u8 2,.str v15,.str v13,.str v16,.int .u8 (Ex.kind v11),.str (Ex.rat v11),.str (Ex.name v11),.i (Ex.date v11),.sl (List.length (Ex.sub v11)) 5 (Ex.deep v11),.i 0,AV.nils,AV.nils]]) λn_5=>let v3:=Tm.at_ n_5.1 n_5.2;.A λn_6=>.ex v7 λn=>.A λn_7=>.ex (q61 [.ptr 0 0,(exD (Tm.fixg n.1.name n.2.2)),.str q] [.box [.i n.2.1,.str n.1.long,.str n.1.short,.str n.1.ccy,.str n.1.name,.str n.1.zb,.str n.1.zd]]) λn=>.A λn_8=>.ex (q62 [.i p.pay,(Con.conD (Tm.pay n.1 n.2.2.1 n.2.2.2))]) λn_9=>let v4:=Tm.at_ n_9.1 n_9.2;.A λn_10=>.R [.osl 4 12 0 2] [.box [.i n.2.1,.str n.1.long,.str n.1.short,.str n.1.ccy,.str n.1.name,.str n.1.zb,.str n.1.zd],.box v8,.box v14,.box [.int .u8 2,.str v15,.str v13,.str v16,.int .u8 (Ex.kind v11),.str (Ex.rat v11),.str (Ex.name v11),.i (Ex.date v11),.sl (List.length (Ex.sub v11)) 5 (Ex.deep v11),.i 0,.nils,.nils],.arr 2 12 (zj 12 [.int .u8 (Con.kind v3),.str (Con.src v3),.str (Con.dst v3),.str (Con.name v3),.int .u8 (Ex.kind (Con.x v3)),.str (Ex.rat (Con.x v3)),.str (Ex.name (Con.x v3)),.i (Ex.date (Con.x v3)),.sl (List.length (Ex.sub (Con.x v3))) 5 (Ex.exG (Ex.sub (Con.x v3))),.i (Con.date v3),.sl (List.length (Con.days v3)) 1 (Con.dayG (Con.days v3)),.sl (List.length (Con.sub v3)) 12 (Con.deep v3),.int .u8 (Con.kind v4),.str (Con.src v4),.str (Con.dst v4),.str (Con.name v4),.int .u8 (Ex.kind (Con.x v4)),.str (Ex.rat (Con.x v4)),.str (Ex.name (Con.x v4)),.i (Ex.date (Con.x v4)),.sl (List.length (Ex.sub (Con.x v4))) 5 (Ex.exG (Ex.sub (Con.x v4))),.i (Con.date v4),.sl (List.length (Con.days v4)) 1 (Con.dayG (Con.days v4)),.sl (List.length (Con.sub v4)) 12 (Con.deep v4)])])) (.ex v9 λn=>let v18:=Tm.prod n.2.1 n.2.2.1 n.2.2.2;.A λn_1=>.ex (q33 [.str v18.1]) λn_2=>let v12:=Tm.kon n_2;.A λn_3=>.ex (q62 [.i p.pay,.agg [.int .u8 2,.str v15,.str v13,.str v16,.int .u8 (Ex.kind v12),.str (Ex.rat v12),.str (Ex.name v12),.i (Ex.date v12),.sl (List.length (Ex.sub v12)) 5 (Ex.deep v12),.i 0,AV.nils,AV.nils]]) λn_4=>let v5:=Tm.at_ n_4.1 n_4.2;.A λn_5=>.ex (q65 v19 [.box [.i v18.2,.str n.1.long,.str n.1.short,.str n.1.ccy,.str n.1.name,.str n.1.zb,.str n.1.zd]]) λn=>.A λn_6=>.ex (q61 [.ptr 0 0,(exD (Tm.fixg n.1.name n.2.2)),.str q] [.box [.i n.2.1,.str n.1.long,.str n.1.short,.str n.1.ccy,.str n.1.name,.str n.1.zb,.str n.1.zd]]) λn=>.A λn_7=>.ex (q62 [.i p.pay,(Con.conD (Tm.pay n.1 n.2.2.1 n.2.2.2))]) λn_8=>let v6:=Tm.at_ n_8.1 n_8.2;.A λn_9=>.R [.osl 4 12 0 2] [.box [.i n.2.1,.str n.1.long,.str n.1.short,.str n.1.ccy,.str n.1.name,.str n.1.zb,.str n.1.zd],.box v8,.box v14,.box [.int .u8 2,.str v15,.str v13,.str v16,.int .u8 (Ex.kind v12),.str (Ex.rat v12),.str (Ex.name v12),.i (Ex.date v12),.sl (List.length (Ex.sub v12)) 5 (Ex.deep v12),.i 0,.nils,.nils],.arr 2 12 (zj 12 [.int .u8 (Con.kind v5),.str (Con.src v5),.str (Con.dst v5),.str (Con.name v5),.int .u8 (Ex.kind (Con.x v5)),.str (Ex.rat (Con.x v5)),.str (Ex.name (Con.x v5)),.i (Ex.date (Con.x v5)),.sl (List.length (Ex.sub (Con.x v5))) 5 (Ex.exG (Ex.sub (Con.x v5))),.i (Con.date v5),.sl (List.length (Con.days v5)) 1 (Con.dayG (Con.days v5)),.sl (List.length (Con.sub v5)) 12 (Con.deep v5),.int .u8 (Con.kind v6),.str (Con.src v6),.str (Con.dst v6),.str (Con.name v6),.int .u8 (Ex.kind (Con.x v6)),.str (Ex.rat (Con.x v6)),.str (Ex.name (Con.x v6)),.i (Ex.date (Con.x v6)),.sl (List.length (Ex.sub (Con.x v6))) 5 (Ex.exG (Ex.sub (Con.x v6))),.i (Con.date v6),.sl (List.length (Con.days v6)) 1 (Con.dayG (Con.days v6)),.sl (List.length (Con.sub v6)) 12 (Con.deep v6)])])) ?_;simp only [q33,q61,q62,q64,q65,Tree.holds,zf];have h6:t.zb.length<=2500:=hf.2.2.2.2.1
 repeat' apply yd
 all_goals refine⟨(t,e,t.zb,q),⟨by simp,by simp [Deal.cells],trivial,by show t.zb.length<_; omega,by show q.length<_; omega⟩,⟨(),trivial⟩,λ_ _=> ?_⟩
 all_goals repeat' apply yd
 all_goals refine⟨(Tm.prod e t.zb q).1,⟨⟨rfl,trivial⟩,trivial⟩,⟨(),trivial⟩,λ_ _=> ?_⟩
 all_goals repeat' apply yd
 all_goals refine⟨(p.pay,.mk 2 t.long t.short t.ccy (Tm.kon (Tm.prod e t.zb q).1) 0 [] []),⟨⟨⟨rfl,rfl⟩,zs0 _,trivial⟩,trivial⟩,⟨(),trivial⟩,λ_ _=> ?_⟩
 all_goals repeat' apply yd
 all_goals refine⟨(t,(Tm.prod e t.zb q).2,p.fix),⟨by simp,by simp [Deal.cells],trivial,trivial⟩,⟨(),trivial⟩,λ_ _=> ?_⟩
 all_goals repeat' apply yd
 all_goals refine⟨(t,(Tm.prod e t.zb q).2,Tm.fixg t.name p.fix,q),⟨⟨⟨rfl,rfl⟩,J9 _,rfl,trivial⟩,by simp [Deal.cells],trivial,trivial⟩,⟨(),trivial⟩,λ_ _=> ?_⟩
 all_goals repeat' apply yd
 all_goals refine⟨(p.pay,Tm.pay t (Tm.fixg t.name p.fix) q),⟨⟨⟨rfl,rfl⟩,jD _,trivial⟩,trivial⟩,⟨(),trivial⟩,λ_ _=> ?_⟩
 all_goals repeat' apply yd
 all_goals exact RetR.keep [0,1] rfl rfl (by show ∀ j,j<2->_; decide) rfl hq ⟨rfl,rfl,Con.XV _ _⟩ (by simp [expH,expB,exp1,exp0,ren0,Deal.cells]) rfl
noncomputable def GCp1:=tb zdv (tb YP (tb X6 (tb zbh tz)))
def capL(d:Deal)(fl:Bool)(p:Per)(q:L8):List Con:=[Tm.at_ p.pay (Tm.pay d (Tm.over d.zb (Tm.fixg d.name p.fix) fl) q)]
def zti:Ctr:=ctrT false false (λx:OneA×Bool=>[.ptr 0 0,x.1.p.av,.str x.1.q,.ptr 1 0]) (λx=>[.box (x.1.d.cells x.1.e),.box [.bool x.2]]) (λx=>x.1.ok) (λ_ (_:Unit)=>True) (λx _=>(.sl 1 12 (Con.conG (capL x.1.d x.2 x.1.p x.1.q)),[.box (x.1.d.cells x.1.e),.box [.bool x.2]]))
theorem zq0:ze prog 49 zti:=by
 refine z9 (fn:=f49) (c:=f49.body.getD .skip) rfl rfl rfl (λh=>by cases h) λp hp O w0 I0 Q hl0 hq=> ?_
 obtain⟨⟨t,e,p,q⟩,fl⟩:=p;obtain⟨hf,h2⟩:=hp;replace hq:=hq () trivial;simp only at hq hf h2;refine zc.n GCp1.h [] (.ex (q65 [.ptr 0 0,.i p.fix] [.box [.i e,.str t.long,.str t.short,.str t.ccy,.str t.name,.str t.zb,.str t.zd]]) λn=>.A λn_1=>.ex (λ(x:Deal×Int×Ex×Bool)=>eqL [.ptr 0 0,(exD (Tm.fixg n.1.name n.2.2)),.bool fl] [.ptr 0 0,x.2.2.1.exA,.bool x.2.2.2]/\eqH [.box [.i n.2.1,.str n.1.long,.str n.1.short,.str n.1.ccy,.str n.1.name,.str n.1.zb,.str n.1.zd]] [.box [.i x.2.1,.str x.1.long,.str x.1.short,.str x.1.ccy,.str x.1.name,.str x.1.zb,.str x.1.zd]]/\1=1/\True) λn=>.A λn_2=>.ex (q61 [.ptr 0 0,(exD (Tm.over n.1.zb n.2.2.1 n.2.2.2)),.str q] [.box [.i n.2.1,.str n.1.long,.str n.1.short,.str n.1.ccy,.str n.1.name,.str n.1.zb,.str n.1.zd]]) λn=>.A λn_3=>.ex (q62 [.i p.pay,(Con.conD (Tm.pay n.1 n.2.2.1 n.2.2.2))]) λn_4=>.A λn_5=>.R [.osl 3 12 0 1] [.box [.i n.2.1,.str n.1.long,.str n.1.short,.str n.1.ccy,.str n.1.name,.str n.1.zb,.str n.1.zd],.box [.bool fl],.box [.i p.fix,.i p.pay,.str p.part],.arr 1 12 (zj 12 (Con.zl (Tm.at_ n_4.1 n_4.2)))]) ?_;simp only [q61,q62,q65,Tree.holds,zf]
 repeat' apply yd
 all_goals refine⟨(t,e,p.fix),⟨by simp,by simp [Deal.cells],trivial,trivial⟩,⟨(),trivial⟩,λ_ _=> ?_⟩
 all_goals repeat' apply yd
 all_goals refine⟨(t,e,Tm.fixg t.name p.fix,fl),⟨⟨⟨rfl,rfl⟩,J9 _,rfl,trivial⟩,by simp [Deal.cells],trivial,trivial⟩,⟨(),trivial⟩,λ_ _=> ?_⟩
 all_goals repeat' apply yd
 all_goals refine⟨(t,e,Tm.over t.zb (Tm.fixg t.name p.fix) fl,q),⟨⟨⟨rfl,rfl⟩,J9 _,rfl,trivial⟩,by simp [Deal.cells],trivial,trivial⟩,⟨(),trivial⟩,λ_ _=> ?_⟩
 all_goals repeat' apply yd
 all_goals refine⟨(p.pay,Tm.pay t (Tm.over t.zb (Tm.fixg t.name p.fix) fl) q),⟨⟨⟨rfl,rfl⟩,jD _,trivial⟩,trivial⟩,⟨(),trivial⟩,λ_ _=> ?_⟩
 all_goals repeat' apply yd
 all_goals exact RetR.keep [0,1] rfl rfl (by show ∀ j,j<2->_; decide) rfl hq ⟨rfl,rfl,Con.zqi _⟩ (by simp [expH,expB,exp1,exp0,ren0,Deal.cells]) rfl
noncomputable def K45:=Go.Sx.aA f45
noncomputable def allS:Ctr:={ zch with sinks:=true }
theorem zdo:ze prog 54 allS:=ze.sink (c:=zch) zvd
noncomputable def zmi:Ctr:={ zdj with sinks:=true }
theorem Ur:ze prog 33 zmi:=ze.sink (c:=zdj) YE
structure PeA where
 d:Deal
 l:List Per
 fl:Bool
def PeA.ok(x:PeA):Prop:=Tm.fits x.d/\x.l.length<=60/\∀ i,i<x.l.length->(x.l.getD i Per.nil).part.length<=300
def dbox(d:Deal):Blk:=.box [.str d.long,.str d.short,.str d.ccy,.str d.name,.str d.zb,.str d.zd]
theorem zea(a:L8):eqG 1 1 (zj 1 [.str a]) (ratG [a]):=by
 intro j o hj ho;rcases(show j=0 by omega) with rfl;rcases(show o=0 by omega) with rfl;rfl
theorem U8(l m:List Con):eqG (l.length+m.length) 12 (appG l.length (Con.conG l) (Con.conG m)) (Con.conG (l++m)):=by
 intro j o hj ho;unfold appG;by_cases h:j<l.length
 ·rw [aP h]; simp [Con.conG,List.getD,bT,h]
 ·rw [aO h]; simp [Con.conG,List.getD,bT,h]
def wq(d:Deal)(fl:Bool):Blk:=dbox d
def bCap(d:Deal)(fl:Bool):Blk:=.box [.bool fl]
def zV(d:Deal)(fl:Bool):Tm.Leg->Per->Tm.Leg:=Tm.legS d
def qy(d:Deal)(fl:Bool):Tm.Leg->Per->Tm.Leg:=Tm.legC d fl
theorem zni{d:Deal}{fl:Bool}(h:Tm.fits d)(s:Tm.Leg)(p:Per):(zV d fl s p).acc.length<=s.acc.length+2/\Con.bigs (zV d fl s p).acc<=Con.bigs s.acc+30000/\Con.zz (zV d fl s p).acc<=Con.zz s.acc+4:=Tm.VZ h s p
theorem zqf{d:Deal}{fl:Bool}(h:Tm.fits d)(s:Tm.Leg)(p:Per):(qy d fl s p).acc.length<=s.acc.length+2/\Con.bigs (qy d fl s p).acc<=Con.bigs s.acc+30000/\Con.zz (qy d fl s p).acc<=Con.zz s.acc+4:=Tm.VT h s p
noncomputable def zql:=tb Q1 (tb Qv (tb yl (tb Yd (tb zm9 (tb zdo (tb Ur tz))))))
def yb(d:Deal)(fl:Bool)(e:Int):Heap:=[wq d fl,dbox d,.box (List.replicate 12 .undef),.dead,.box (d.cells e)]
def zcd(l:List Per)(i:Nat):KV:=[(1,perS l),(2,.fn 46 [] [.ptr 0 0]),(3,.ptr 1 0),(6,.ptr 2 0),(8,.ptr 4 0),Z 11,Z 14,(23,perS l),(24,.i (l.length:Int)),(25,.i (i:Int)),Z 37,Z 38,Z 39,Z 50,Z 51,Z 52,Z 53,Z 54,Z 55,Z 56,Z 57,Z 66,Z 67,Z 68]
def Q6(l:List Per)(i:Nat):KV:=[(1,perS l),(2,.fn 46 [] [.ptr 0 0]),(3,.ptr 1 0),(6,.ptr 2 0),(8,.ptr 4 0),(11,.i (Tm.xh l i)),Z 14,Z 23,Z 24,Z 25,(37,perS l),(38,.i (l.length:Int)),(39,.i (i:Int)),Z 50,Z 51,Z 52,Z 53,Z 54,Z 55,Z 56,Z 57,Z 66,Z 67,Z 68]
def Vk(d:Deal)(fl:Bool)(e:Int)(acc:List Con):Heap:=[wq d fl,dbox d,.box (List.replicate 12 .undef),.dead,.box (d.cells e),.arr acc.length 12 (Con.conG acc)]
def QQ(l:List Per)(n i:Nat):KV:=[Z 1,(2,.fn 46 [] [.ptr 0 0]),(3,.ptr 1 0),(6,.ptr 2 0),(8,.ptr 4 0),Z 11,(14,.osl 5 12 0 n),Z 23,Z 24,Z 25,Z 37,Z 38,Z 39,Z 50,Z 51,Z 52,Z 53,Z 54,Z 55,Z 56,Z 57,(66,perS l),(67,.i (l.length:Int)),(68,.i (i:Int))]
def ZJ:Ctr:=ctrT false false (λx:PeA=>[x.d.av,perS x.l,.fn 46 [] [.ptr 0 0]]) (λx=>[wq x.d x.fl]) (λx=>x.ok) (λ_ (_:Unit)=>True) (λx _=>(.tup [(Tm.q7 (zV x.d x.fl) x.d x.l).conD,.i (Tm.ji (zV x.d x.fl) x.d x.l)],[wq x.d x.fl]))
abbrev q66(A:List AV)(x:List Con):Prop:=eqL A [.sl x.length 12 (Con.conG x)]/\x.length<1099511627776
theorem zr5{O:Nat->Prop}{w0:World}{I0:List SE}{Hs:Nat->KV->Heap->Prop}{Q:AV×Heap->Prop}(d:Deal)(l:List Per)(fl:Bool)(e2:Int)(hf:Tm.fits d)(hl:l.length<=60)(hpt:∀ i,i<l.length->(l.getD i Per.nil).part.length<=300)
  (hq:Q (.tup [(if Tm.resE (Tm.zR (zV d fl) e2 l l.length).e (Tm.whole (Tm.zR (zV d fl) e2 l l.length).acc)=0 then Tm.whole (Tm.zR (zV d fl) e2 l l.length).acc else Tm.zero).conD,.i (Tm.resE (Tm.zR (zV d fl) e2 l l.length).e (Tm.whole (Tm.zR (zV d fl) e2 l l.length).acc))],[wq d fl])) :
  zc prog f45 O 1 w0 I0 Hs (RetR ZJ 1 Q) (.code (.loop (lps (inside (inside K45 0) 0) 0).1)::(lps (inside (inside K45 0) 0) 0).2) (mk f45.ntmps (QQ l 0 0) (Vk d fl e2 [])):=by
 refine zc.loop (ι:={i:Nat // i<=l.length}) (λi=>QQ l (Tm.zR (zV d fl) e2 l i.1).acc.length i.1) (λi=>Vk d fl (Tm.zR (zV d fl) e2 l i.1).e (Tm.zR (zV d fl) e2 l i.1).acc) (λi=>l.length - i.1) ⟨0,aI _⟩ 0 ?_ ?_ (by kernel_rfl)
 ·exact⟨by simp [QQ,perS,za,Tm.zR],by simp [Vk,wq,dbox,Deal.cells,List.replicate,Tm.zR,za],by kernel_rfl,by show 1<=6; decide⟩
 ·rintro⟨i,hil⟩;have hsz:=Tm.xQ (f:=zV d fl) (zni hf) e2 l i hl;obtain⟨⟨e,acc⟩,hs⟩:∃ s,Tm.zR (zV d fl) e2 l i=s:=⟨_,rfl⟩;rw [hs] at hsz;simp only [hs];simp only at hsz;refine zc.n zql.h [1,2,3,6,8,11,14,23,24,25,37,38,39,50,51,52,53,54,55,56,57,66,67,68] (let v10:=Deal.ccy d;let v9:=Deal.long d;let v8:=Deal.short d;let v4:=l.getD (i:Int).toNat Per.nil;let v3:List AV:=[.i e,.str v9,.str v8,.str v10,.str d.name,.str d.zb,.str d.zd];let v2:List AV:=[.int .u8 0,.str #[].toList,.str #[].toList,.str #[].toList,.int .u8 0,.str #[].toList,.str #[].toList,.i 0,.nils,.i 0,.nils,.nils];let v1:List AV:=[.str v9,.str v8,.str v10,.str d.name,.str d.zb,.str d.zd];.D ((i:Int)<l.length) (.side ((0:Int)<=i/\(i:Int)<l.length) (.ex (q64 [.ptr 0 0,.str v4.part,.str d.zd] [.box [.i e,.str v9,.str v8,.str v10,.str d.name,.str d.zb,.str d.zd]]) λn=>let v13:=Tm.prod n.2.1 n.2.2.1 n.2.2.2;.A λn_1=>.ex (λ(x:OneA)=>eqL [.ptr 0 0,.agg [.i v4.fix,.i v4.pay,.str v4.part],.str v13.1,.ptr 1 0] [.ptr 0 0,.agg [.i x.p.fix,.i x.p.pay,.str x.p.part],.str x.q,.ptr 1 0]/\eqH [.box [.i v13.2,.str n.1.long,.str n.1.short,.str n.1.ccy,.str n.1.name,.str n.1.zb,.str n.1.zd],.box [.str v9,.str v8,.str v10,.str d.name,.str d.zb,.str d.zd]] [.box [.i x.e,.str x.d.long,.str x.d.short,.str x.d.ccy,.str x.d.name,.str x.d.zb,.str x.d.zd],.box [.str x.d.long,.str x.d.short,.str x.d.ccy,.str x.d.name,.str x.d.zb,.str x.d.zd]]/\2=2/\OneA.ok x) λn=>let v12:=Deal.zb n.d;.A λn_2=>.side (0=0/\acc.length<=acc.length/\(acc.length+2)*184<=140737488355328) (.S (i+1) (.leaf (.back 0 [Z 1,(2,.fn 46 [] [.ptr 0 0]),(3,.ptr 1 0),(6,.ptr 2 0),(8,.ptr 4 0),Z 11,(14,.osl 5 12 0 (acc.length+2)),Z 23,Z 24,Z 25,Z 37,Z 38,Z 39,Z 50,Z 51,Z 52,Z 53,Z 54,Z 55,Z 56,Z 57,(66,.sl l.length 3 (perG l)),(67,.i l.length),(68,.i (i+1))] [.box [.str n.d.long,.str n.d.short,.str n.d.ccy,.str n.d.name,.str v12,.str n.d.zd],.box v1,.box [.undef,.undef,.undef,.undef,.undef,.undef,.undef,.undef,.undef,.undef,.undef,.undef],.dead,.box [.i (Prod.snd (Tm.prod n.e v12 n.q)),.str n.d.long,.str n.d.short,.str n.d.ccy,.str n.d.name,.str v12,.str n.d.zd],.arr (acc.length+2) 12 (appG acc.length (Con.conG acc) (Con.conG (K6 n.d n.e n.p n.q))),.box [.i v4.fix,.i v4.pay,.str v4.part]]))))) (.ex (q66 [.sl acc.length 12 (zi (Con.conG acc) 0)]) λn=>let v7:=Tm.whole n;let v11:=q63 [v7.conD];let v6:qe:=.ret [.agg v2,.i e] [.box v1,.box v1,.box v2,.dead,.box v3,.dead,.box v7.zl,.box v2];.A λn_1=>.D (e=0) (.ex (q56 [v7.conD]) λn_2=>.all (λ(r:Int)=>r=Con.errC n_2) λn_3=>let v5:List AV:=[.i n_3,.str v9,.str v8,.str v10,.str d.name,.str d.zb,.str d.zd];.D (e=0) (.N (n_3=0) (.R [.agg v2,.i n_3] [.box v1,.box v1,.box v2,.dead,.box v5,.dead,.box v7.zl,.box v2]) (.ex v11 λn_4=>.A λn_5=>.R [n_4.conD,.i 0] [.box v1,.box v1,.box n_4.zl,.dead,.box v5,.dead,.box v7.zl,.box n_4.zl])) (.N (e=0) (.leaf v6) (.ex v11 λn_4=>.A λn_5=>.R [n_4.conD,.i 0] [.box v1,.box v1,.box n_4.zl,.dead,.box v3,.dead,.box v7.zl,.box n_4.zl]))) (.N (e=0) (.leaf v6) (.ex v11 λn_2=>.A λn_3=>.R [n_2.conD,.i 0] [.box v1,.box v1,.box n_2.zl,.dead,.box v3,.dead,.box v7.zl,.box n_2.zl])))) ?_;simp only [q56,q63,q64,q66,Tree.holds,zf,inR,lo,hi,aD];refine⟨λhlt=> ?_,λhge=> ?_⟩
  ·have hlt:i<l.length:=by have:=aB hlt; omega
   have hpi:=hpt i hlt;have h6:d.zd.length<=2500:=hf.2.2.2.2.2;have hss:=Tm.Wb (f:=zV d fl) (e:=e2) hlt;rw [hs] at hss;replace hss:Tm.zR (zV d fl) e2 l (i+1)=⟨(Tm.prod (Tm.prod e (l.getD i Per.nil).part d.zd).2 d.zb (Tm.prod e (l.getD i Per.nil).part d.zd).1).2,acc++K6 d (Tm.prod e (l.getD i Per.nil).part d.zd).2 (l.getD i Per.nil) (Tm.prod e (l.getD i Per.nil).part d.zd).1⟩:=hss;refine⟨by omega,λ_=> ?_⟩;refine⟨(d,e,(l.getD i Per.nil).part,d.zd),⟨by simp,by simp [Deal.cells],trivial,by show(l.getD i Per.nil).part.length<_; omega,by show d.zd.length<_; omega⟩,⟨(),trivial⟩,λ_ _=> ?_⟩;refine⟨⟨d,(Tm.prod e (l.getD i Per.nil).part d.zd).2,(l.getD i Per.nil),(Tm.prod e (l.getD i Per.nil).part d.zd).1⟩,⟨⟨⟨rfl,rfl⟩,⟨⟨rfl,rfl⟩,⟨rfl,rfl⟩,rfl,trivial⟩,rfl,⟨rfl,rfl⟩,trivial⟩,by simp [Deal.cells],trivial,hf,by have:=Tm.yE (e:=e) (a:=(l.getD i Per.nil).part) (b:=d.zd); show(Tm.prod e (l.getD i Per.nil).part d.zd).1.length<_; omega⟩,⟨(),trivial⟩,λ_ _=> ?_⟩;refine⟨⟨trivial,aJ _,by omega⟩,λ_=>⟨by omega,λ_=> ?_⟩⟩;rw [aP trivial];refine⟨⟨i+1,hlt⟩,by show l.length - (i+1)<l.length - i; omega,?_,?_,by kernel_rfl,by show 1<=6; decide⟩
   ·rw [hss]; simp [QQ,perS,za,K6]
   ·rw [hss];refine⟨by simp [wq,dbox],by simp [dbox],by simp [List.replicate],trivial,by simp [Deal.cells],⟨by simp [K6],rfl,U8 acc (K6 d (Tm.prod e (l.getD i Per.nil).part d.zd).2 (l.getD i Per.nil) (Tm.prod e (l.getD i Per.nil).part d.zd).1)⟩,trivial⟩
  ·have hge:i=l.length:=by have:=aC hge; omega
   subst hge;rw [hs] at hq;simp only at hq;have hw:=Tm.xJ acc;obtain⟨c,hc⟩:∃ c,Tm.whole acc=c:=⟨_,rfl⟩;rw [hc] at hq hw;refine⟨acc,⟨⟨⟨rfl,rfl,Zu _ _ _⟩,trivial⟩,by omega⟩,⟨(),trivial⟩,λ_ _=> ?_⟩;simp only [hc];unfold Tm.resE at hq;refine⟨λh=> ?_,λh=> ?_⟩
   ·rw [aP (aB h)] at hq;refine⟨c,⟨⟨jD c,trivial⟩,by omega,by omega⟩,⟨_,rfl⟩,?_⟩;rintro _ rfl;refine⟨λ_=>⟨λh1=> ?_,λh1=> ?_⟩,λh1=>absurd (h.symm.trans h1) (by decide)⟩
    ·rw [aO (by simpa using h1)] at hq;exact RetR.keep [0] rfl rfl (by show ∀ j,j<1->_; decide) rfl hq zero_eq (by simp [expH,expB,exp1,exp0,ren0,wq,dbox]) rfl
    ·have h1:c.errC=0:=by simpa using h1
     rw [aP h1,h1] at hq;refine⟨c,⟨⟨jD c,trivial⟩,by omega⟩,⟨(),trivial⟩,λ_ _=> ?_⟩;exact RetR.ki [0] rfl rfl (by show ∀ j,j<1->_; decide) rfl hq (LeA.refl _) (by simp [expH,expB,exp1,exp0,ren0,wq,dbox]) rfl
   ·have h:=aC h;rw [aO h,aO h] at hq;refine⟨λ_=> ?_,λh1=>absurd h1 (by simp [h])⟩;exact RetR.keep [0] rfl rfl (by show ∀ j,j<1->_; decide) rfl hq zero_eq (by simp [expH,expB,exp1,exp0,ren0,wq,dbox]) rfl
theorem zpx{O:Nat->Prop}{w0:World}{I0:List SE}{Hs:Nat->KV->Heap->Prop}{Q:AV×Heap->Prop}(d:Deal)(l:List Per)(fl:Bool)(e1:Int)(hf:Tm.fits d)(hl:l.length<=60)(hpt:∀ i,i<l.length->(l.getD i Per.nil).part.length<=300)
  (hq:Q (.tup [(if Tm.resE (Tm.zR (zV d fl) (Tm.qL e1 l l.length) l l.length).e (Tm.whole (Tm.zR (zV d fl) (Tm.qL e1 l l.length) l l.length).acc)=0 then Tm.whole (Tm.zR (zV d fl) (Tm.qL e1 l l.length) l l.length).acc else Tm.zero).conD,.i (Tm.resE (Tm.zR (zV d fl) (Tm.qL e1 l l.length) l l.length).e (Tm.whole (Tm.zR (zV d fl) (Tm.qL e1 l l.length) l l.length).acc))],[wq d fl])) :
  zc prog f45 O 1 w0 I0 Hs (RetR ZJ 1 Q) (.code (.loop (lps (inside K45 0) 0).1)::(lps (inside K45 0) 0).2) (mk f45.ntmps (Q6 l 0) (yb d fl e1)):=by
 refine zc.loop (ι:={i:Nat // i<=l.length}) (λi=>Q6 l i.1) (λi=>yb d fl (Tm.qL e1 l i.1)) (λi=>l.length - i.1) ⟨0,aI _⟩ 0 ?_ ?_ (by kernel_rfl)
 ·refine⟨by simp [Q6,perS,za],?_,by kernel_rfl,by show 1<=5; decide⟩;have:Tm.qL e1 l 0=e1:=by unfold Tm.qL; split<;>simp_all [Tm.badT]
  simp [yb,wq,dbox,Deal.cells,this,List.replicate]
 ·rintro⟨i,hil⟩;obtain⟨e',he'⟩:∃ e',Tm.qL e1 l i=e':=⟨_,rfl⟩;simp only [he'];refine zc.n zql.h [1,2,3,6,8,11,14,23,24,25,37,38,39,50,51,52,53,54,55,56,57,66,67,68] (let v9:=lps (inside (inside K45 0) 0) 0;let v7:=inR .i64 (i+1);let v6:List AV:=[.i e',.str d.long,.str d.short,.str d.ccy,.str d.name,.str d.zb,.str d.zd];let v5:List AV:=[.undef,.undef,.undef,.undef,.undef,.undef,.undef,.undef,.undef,.undef,.undef,.undef];let v4:=l.getD (i:Int).toNat Per.nil;let v8:List AV:=[.i v4.fix,.i v4.pay,.str v4.part];let v3:List (Nat×AV):=[(1,.sl l.length 3 (perG l)),(2,.fn 46 [] [.ptr 0 0]),(3,.ptr 1 0),(6,.ptr 2 0),(8,.ptr 4 0),(11,.i v4.pay),Z 14,Z 23,Z 24,Z 25,(37,.sl l.length 3 (perG l)),(38,.i l.length),(39,.i (i+1)),Z 50,Z 51,Z 52,Z 53,Z 54,Z 55,Z 56,Z 57,Z 66,Z 67,Z 68];let v2:List AV:=[.str d.long,.str d.short,.str d.ccy,.str d.name,.str d.zb,.str d.zd];let v1:qe:=.back 0 v3 [.box v2,.box v2,.box v5,.dead,.box v6,.box v8];.D ((i:Int)<l.length) (.side ((0:Int)<=i/\(i:Int)<l.length) (.ite (bif decide (Per.pay v4 <Per.fix v4) then true else bif decide ((0:Int)<i) then decide (Per.pay v4 <=Tm.xh l i) else false) (.D (e'=(0:Int)) (.side v7 (.leaf (.back 0 v3 [.box v2,.box v2,.box v5,.dead,.box [.i 40,.str d.long,.str d.short,.str d.ccy,.str d.name,.str d.zb,.str d.zd],.box v8]))) (.side v7 (.leaf v1))) (.side v7 (.leaf v1)))) (.leaf (.loop v9.1 v9.2 [(1,.sl l.length 3 (perG l)),(2,.fn 46 [] [.ptr 0 0]),(3,.ptr 1 0),(6,.ptr 2 0),(8,.ptr 4 0),(11,.i (Tm.xh l i)),(14,.nils),Z 23,Z 24,Z 25,(37,.sl l.length 3 (perG l)),(38,.i l.length),(39,.i i),Z 50,Z 51,Z 52,Z 53,Z 54,Z 55,Z 56,Z 57,(66,.sl l.length 3 (perG l)),(67,.i l.length),(68,.i 0)] [.box v2,.box v2,.box v5,.dead,.box v6]))) ?_;simp only [Tree.holds,zf,inR,lo,hi,aD];refine⟨λhlt=> ?_,λhge=> ?_⟩
  ·have hlt:i<l.length:=by have:=aB hlt; omega
   have hs:=Tm.Wf (e:=e1) (l:=l) (i:=i) rfl;rw [he'] at hs;have hp:=Tm.V4 l i;refine⟨by omega,λ_=>⟨λhc=>⟨λhz=>⟨by omega,λ_=> ?_⟩,λhz=>⟨by omega,λ_=> ?_⟩⟩,λhc=>⟨by omega,λ_=> ?_⟩⟩⟩
   all_goals
    rw [aP trivial];refine⟨⟨i+1,hlt⟩,by show l.length - (i+1)<l.length - i; omega,by simp [Q6,perS,za,hp],?_,by kernel_rfl,by show 1<=5; decide⟩
   ·rw [aP (by simpa using hc),aP (aB hz)] at hs;simp [yb,wq,dbox,Deal.cells,hs,List.replicate]
   ·rw [aP (by simpa using hc),aO (aC hz)] at hs;simp [yb,wq,dbox,Deal.cells,hs,List.replicate]
   ·rw [aO (by simp at hc ⊢; omega)] at hs;simp [yb,wq,dbox,Deal.cells,hs,List.replicate]
  ·have hge:i=l.length:=by have:=aC hge; omega
   subst hge;rw [he'] at hq;refine zc.bear 14 12 (Con.conG []) rfl (by decide) (by kernel_rfl) ?_;refine zc.weak (S:=QQ l 0 0) (H:=Vk d fl e' []) ⟨by simp [QQ,kC,perS,za],by simp [Vk,wq,dbox,Deal.cells,List.replicate,za],by kernel_rfl,by show 1<=6; decide⟩ ?_;exact zr5 d l fl e' hf hl hpt hq
theorem zc6:ze prog 45 ZJ:=by
 refine z9 (fn:=f45) (c:=f45.body.getD .skip) rfl rfl rfl (λh=>by cases h) λp hp O w0 I0 Q hl0 hq=> ?_
 obtain⟨d,l,fl⟩:=p;replace hq:=hq () trivial;obtain⟨hf,hl,hpt⟩:=hp;simp only at hf hl hpt hq;unfold Tm.q7 Tm.ji at hq;refine zc.n zql.h [1,2,3,6,8,11,14,23,24,25,37,38,39,50,51,52,53,54,55,56,57,66,67,68] (let v2:List AV:=[.int .u8 0,.str #[].toList,.str #[].toList,.str #[].toList,.int .u8 0,.str #[].toList,.str #[].toList,.i 0,.nils,.i 0,.nils,.nils];let v1:List AV:=[.str d.long,.str d.short,.str d.ccy,.str d.name,.str d.zb,.str d.zd];.D ((40:Int)<l.length) (.R [.agg v2,.i 4] [.box v1,.box v1,.box v2]) (.ex (λ(x:Deal×Int×List L8)=>eqL [.ptr 0 0,.osl 1 1 0 2] [.ptr 0 0,.osl 1 1 0 x.2.2.length]/\eqH [.box [.i 0,.str d.long,.str d.short,.str d.ccy,.str d.name,.str d.zb,.str d.zd],.arr 2 1 (zj 1 [.str d.zb,.str d.zd])] [.box [.i x.2.1,.str x.1.long,.str x.1.short,.str x.1.ccy,.str x.1.name,.str x.1.zb,.str x.1.zd],.arr x.2.2.length 1 (ratG x.2.2)]/\2=2/\x.2.2.length<1099511627776/\∀ (r:L8),r∈x.2.2->r.length<1099511627776) λn=>.A λn_1=>.leaf (.loop (lps K45 0).1 (lps K45 0).2 [(1,.sl l.length 3 (perG l)),(2,.fn 46 [] [.ptr 0 0]),(3,.ptr 1 0),(6,.ptr 2 0),(8,.ptr 4 0),Z 11,Z 14,(23,.sl l.length 3 (perG l)),(24,.i l.length),(25,.i 0),Z 37,Z 38,Z 39,Z 50,Z 51,Z 52,Z 53,Z 54,Z 55,Z 56,Z 57,Z 66,Z 67,Z 68] [.box v1,.box v1,.box v2,.box v1,.box [.i (Tm.first n.2.1 n.2.2),.str n.1.long,.str n.1.short,.str n.1.ccy,.str n.1.name,.str n.1.zb,.str n.1.zd],.arr n.2.2.length 1 (ratG n.2.2)]))) ?_;simp only [Tree.holds,zf];refine⟨λh=> ?_,λh=> ?_⟩
 ·have h40:=aB h;simp only [aP (show 40<l.length by omega)] at hq;rw [aO (show ¬ (4:Int)=0 by decide)] at hq;exact RetR.keep [0] rfl rfl (by show ∀ j,j<1->_; decide) rfl hq zero_eq (by simp [expH,expB,exp1,exp0,ren0,wq,dbox]) rfl
 have h40:=aC h;simp only [aO (show ¬ 40<l.length by omega)] at hq;refine⟨(d,0,[d.zb,d.zd]),⟨by simp,by simp [Deal.cells,X8],trivial,by show 2<2^40; decide,Zx hf⟩,⟨(),trivial⟩,λ_ _=> ?_⟩;unfold Tm.w9 Tm.perE at hq;obtain⟨e0,he0⟩:∃ e,Tm.first 0 [d.zb,d.zd]=e:=⟨_,rfl⟩;rw [he0] at hq;simp only [he0];refine zc.loop (ι:={i:Nat // i<=l.length}) (λi=>zcd l i.1) (λi=>yb d fl (Tm.first e0 ((l.map Per.part).take i.1))) (λi=>l.length - i.1) ⟨0,aI _⟩ 0 ?_ ?_ (by kernel_rfl)
 ·exact⟨by simp [zcd,perS,za],by simp [yb,wq,dbox,Deal.cells,Tm.first,List.replicate],by kernel_rfl,by show 1<=5; decide⟩
 ·rintro⟨i,hil⟩;obtain⟨e',he'⟩:∃ e',Tm.first e0 ((l.map Per.part).take i)=e':=⟨_,rfl⟩;simp only [he'];refine zc.n zql.h [1,2,3,6,8,11,14,23,24,25,37,38,39,50,51,52,53,54,55,56,57,66,67,68] (let v3:List AV:=[.undef,.undef,.undef,.undef,.undef,.undef,.undef,.undef,.undef,.undef,.undef,.undef];let v2:=l.getD (i:Int).toNat Per.nil;let v1:List AV:=[.str d.long,.str d.short,.str d.ccy,.str d.name,.str d.zb,.str d.zd];.D ((i:Int)<l.length) (.side ((0:Int)<=i/\(i:Int)<l.length) (.ex (λ(x:Deal×Int×List L8)=>eqL [.ptr 0 0,.osl 1 1 0 1] [.ptr 0 0,.osl 1 1 0 x.2.2.length]/\eqH [.box [.i e',.str d.long,.str d.short,.str d.ccy,.str d.name,.str d.zb,.str d.zd],.arr 1 1 (zj 1 [.str v2.part])] [.box [.i x.2.1,.str x.1.long,.str x.1.short,.str x.1.ccy,.str x.1.name,.str x.1.zb,.str x.1.zd],.arr x.2.2.length 1 (ratG x.2.2)]/\2=2/\x.2.2.length<1099511627776/\∀ (r:L8),r∈x.2.2->r.length<1099511627776) λn=>.A λn_1=>.S (i+1) (.leaf (.back 0 [(1,.sl l.length 3 (perG l)),(2,.fn 46 [] [.ptr 0 0]),(3,.ptr 1 0),(6,.ptr 2 0),(8,.ptr 4 0),Z 11,Z 14,(23,.sl l.length 3 (perG l)),(24,.i l.length),(25,.i (i+1)),Z 37,Z 38,Z 39,Z 50,Z 51,Z 52,Z 53,Z 54,Z 55,Z 56,Z 57,Z 66,Z 67,Z 68] [.box v1,.box v1,.box v3,.dead,.box [.i (Tm.first n.2.1 n.2.2),.str n.1.long,.str n.1.short,.str n.1.ccy,.str n.1.name,.str n.1.zb,.str n.1.zd],.box [.i v2.fix,.i v2.pay,.str v2.part],.arr n.2.2.length 1 (ratG n.2.2)])))) (.leaf (.loop (lps (inside K45 0) 0).1 (lps (inside K45 0) 0).2 [(1,.sl l.length 3 (perG l)),(2,.fn 46 [] [.ptr 0 0]),(3,.ptr 1 0),(6,.ptr 2 0),(8,.ptr 4 0),(11,.i (-9223372036854775808:Int)),Z 14,(23,.sl l.length 3 (perG l)),(24,.i l.length),(25,.i i),(37,.sl l.length 3 (perG l)),(38,.i l.length),(39,.i 0),Z 50,Z 51,Z 52,Z 53,Z 54,Z 55,Z 56,Z 57,Z 66,Z 67,Z 68] [.box v1,.box v1,.box v3,.dead,.box [.i e',.str d.long,.str d.short,.str d.ccy,.str d.name,.str d.zb,.str d.zd]]))) ?_;simp only [Tree.holds,zf,inR,lo,hi,aD];refine⟨λhlt=> ?_,λhge=> ?_⟩
  ·have hlt:i<l.length:=by have:=aB hlt; omega
   have hpi:=hpt i hlt;have ht:=Tm.Zk (e:=e0) (l:=l.map Per.part) (i:=i) (by simpa using hlt);rw [he'] at ht;have hg:(l.map Per.part).getD i []=(l.getD i Per.nil).part:=by simp [List.getD,hlt]
   rw [hg] at ht;have ht2:Tm.first e' [(l.getD i Per.nil).part]=Tm.first e0 ((l.map Per.part).take (i+1)):=by rw [ht]; rfl
   refine⟨by omega,λ_=>⟨(d,e',[(l.getD i Per.nil).part]),⟨by simp,by simp [Deal.cells,zea],trivial,by show 1<2^40; decide,λr hr=>by rw [List.mem_singleton.1 hr]; omega⟩,⟨(),trivial⟩,λ_ _=>⟨by omega,λ_=> ?_⟩⟩⟩;rw [aP trivial];exact⟨⟨i+1,hlt⟩,by show l.length - (i+1)<l.length - i; omega,by simp [zcd,perS,za],by show eqH _ (yb d fl (Tm.first e0 ((l.map Per.part).take (i+1)))); rw [<- ht2]; simp [yb,wq,dbox,Deal.cells,List.replicate],by kernel_rfl,by show 1<=5; decide⟩
  ·have hge:i=l.length:=by have:=aC hge; omega
   subst hge;have hz:(l.map Per.part).take l.length=l.map Per.part:=by rw [<- List.length_map (f:=Per.part),bD]
   rw [hz] at he';rw [he'] at hq;refine zc.weak (S:=Q6 l 0) (H:=yb d fl e') ⟨by simp [Q6,perS,za,Tm.xh],by simp [yb,wq,dbox,Deal.cells,List.replicate],by kernel_rfl,by show 1<=5; decide⟩ ?_;exact zpx d l fl e' hf hl hpt hq
noncomputable def zto:=tb Q1 (tb Qv (tb yl (tb Yd (tb zq0 (tb zdo (tb Ur tz))))))
def HCap(d:Deal)(fl:Bool)(e:Int):Heap:=[bCap d fl,dbox d,.box (List.replicate 12 .undef),.dead,.box (d.cells e)]
def zn7(l:List Per)(i:Nat):KV:=[(1,perS l),(2,.fn 49 [] [.ptr 0 0]),(3,.ptr 1 0),(6,.ptr 2 0),(8,.ptr 4 0),Z 11,Z 14,(23,perS l),(24,.i (l.length:Int)),(25,.i (i:Int)),Z 37,Z 38,Z 39,Z 50,Z 51,Z 52,Z 53,Z 54,Z 55,Z 56,Z 57,Z 66,Z 67,Z 68]
def VY(l:List Per)(i:Nat):KV:=[(1,perS l),(2,.fn 49 [] [.ptr 0 0]),(3,.ptr 1 0),(6,.ptr 2 0),(8,.ptr 4 0),(11,.i (Tm.xh l i)),Z 14,Z 23,Z 24,Z 25,(37,perS l),(38,.i (l.length:Int)),(39,.i (i:Int)),Z 50,Z 51,Z 52,Z 53,Z 54,Z 55,Z 56,Z 57,Z 66,Z 67,Z 68]
def UK(d:Deal)(fl:Bool)(e:Int)(acc:List Con):Heap:=[bCap d fl,dbox d,.box (List.replicate 12 .undef),.dead,.box (d.cells e),.arr acc.length 12 (Con.conG acc)]
def Xg(l:List Per)(n i:Nat):KV:=[Z 1,(2,.fn 49 [] [.ptr 0 0]),(3,.ptr 1 0),(6,.ptr 2 0),(8,.ptr 4 0),Z 11,(14,.osl 5 12 0 n),Z 23,Z 24,Z 25,Z 37,Z 38,Z 39,Z 50,Z 51,Z 52,Z 53,Z 54,Z 55,Z 56,Z 57,(66,perS l),(67,.i (l.length:Int)),(68,.i (i:Int))]
def JI:Ctr:=ctrT false false (λx:PeA=>[x.d.av,perS x.l,.fn 49 [] [.ptr 0 0]]) (λx=>[bCap x.d x.fl]) (λx=>x.ok) (λ_ (_:Unit)=>True) (λx _=>(.tup [(Tm.q7 (qy x.d x.fl) x.d x.l).conD,.i (Tm.ji (qy x.d x.fl) x.d x.l)],[bCap x.d x.fl]))
theorem zvl{O:Nat->Prop}{w0:World}{I0:List SE}{Hs:Nat->KV->Heap->Prop}{Q:AV×Heap->Prop}(d:Deal)(l:List Per)(fl:Bool)(e2:Int)(hf:Tm.fits d)(hl:l.length<=60)(hpt:∀ i,i<l.length->(l.getD i Per.nil).part.length<=300)
  (hq:Q (.tup [(if Tm.resE (Tm.zR (qy d fl) e2 l l.length).e (Tm.whole (Tm.zR (qy d fl) e2 l l.length).acc)=0 then Tm.whole (Tm.zR (qy d fl) e2 l l.length).acc else Tm.zero).conD,.i (Tm.resE (Tm.zR (qy d fl) e2 l l.length).e (Tm.whole (Tm.zR (qy d fl) e2 l l.length).acc))],[bCap d fl])) :
  zc prog f45 O 1 w0 I0 Hs (RetR JI 1 Q) (.code (.loop (lps (inside (inside K45 0) 0) 0).1)::(lps (inside (inside K45 0) 0) 0).2) (mk f45.ntmps (Xg l 0 0) (UK d fl e2 [])):=by
 refine zc.loop (ι:={i:Nat // i<=l.length}) (λi=>Xg l (Tm.zR (qy d fl) e2 l i.1).acc.length i.1) (λi=>UK d fl (Tm.zR (qy d fl) e2 l i.1).e (Tm.zR (qy d fl) e2 l i.1).acc) (λi=>l.length - i.1) ⟨0,aI _⟩ 0 ?_ ?_ (by kernel_rfl)
 ·exact⟨by simp [Xg,perS,za,Tm.zR],by simp [UK,bCap,dbox,Deal.cells,List.replicate,Tm.zR,za],by kernel_rfl,by show 1<=6; decide⟩
 ·rintro⟨i,hil⟩;have hsz:=Tm.xQ (f:=qy d fl) (zqf hf) e2 l i hl;obtain⟨⟨e,acc⟩,hs⟩:∃ s,Tm.zR (qy d fl) e2 l i=s:=⟨_,rfl⟩;rw [hs] at hsz;simp only [hs];simp only at hsz;refine zc.n zto.h [1,2,3,6,8,11,14,23,24,25,37,38,39,50,51,52,53,54,55,56,57,66,67,68] (let v14:=Deal.ccy d;let v12:=Deal.long d;let v11:=Deal.short d;let v4:=l.getD (i:Int).toNat Per.nil;let v3:List AV:=[.i e,.str v12,.str v11,.str v14,.str d.name,.str d.zb,.str d.zd];let v2:List AV:=[.str v12,.str v11,.str v14,.str d.name,.str d.zb,.str d.zd];let v1:List AV:=[.int .u8 0,.str #[].toList,.str #[].toList,.str #[].toList,.int .u8 0,.str #[].toList,.str #[].toList,.i 0,.nils,.i 0,.nils,.nils];.D ((i:Int)<l.length) (.side ((0:Int)<=i/\(i:Int)<l.length) (.ex (q64 [.ptr 0 0,.str v4.part,.str d.zd] [.box [.i e,.str v12,.str v11,.str v14,.str d.name,.str d.zb,.str d.zd]]) λn=>let v13:=Tm.prod n.2.1 n.2.2.1 n.2.2.2;.A λn_1=>.ex (λ(x:OneA×Bool)=>let v9:=OneA.d x.1;eqL [.ptr 0 0,.agg [.i v4.fix,.i v4.pay,.str v4.part],.str v13.1,.ptr 1 0] [.ptr 0 0,.agg [.i x.1.p.fix,.i x.1.p.pay,.str x.1.p.part],.str x.1.q,.ptr 1 0]/\eqH [.box [.i v13.2,.str n.1.long,.str n.1.short,.str n.1.ccy,.str n.1.name,.str n.1.zb,.str n.1.zd],.box [.bool fl]] [.box [.i x.1.e,.str v9.long,.str v9.short,.str v9.ccy,.str v9.name,.str v9.zb,.str v9.zd],.box [.bool x.2]]/\2=2/\OneA.ok x.1) λn=>let v8:=OneA.d n.1;.A λn_2=>.side (0=0/\acc.length<=acc.length/\(acc.length+1)*184<=140737488355328) (.S (i+1) (.leaf (.back 0 [Z 1,(2,.fn 49 [] [.ptr 0 0]),(3,.ptr 1 0),(6,.ptr 2 0),(8,.ptr 4 0),Z 11,(14,.osl 5 12 0 (acc.length+1)),Z 23,Z 24,Z 25,Z 37,Z 38,Z 39,Z 50,Z 51,Z 52,Z 53,Z 54,Z 55,Z 56,Z 57,(66,.sl l.length 3 (perG l)),(67,.i l.length),(68,.i (i+1))] [.box [.bool n.2],.box v2,.box [.undef,.undef,.undef,.undef,.undef,.undef,.undef,.undef,.undef,.undef,.undef,.undef],.dead,.box [.i n.1.e,.str v8.long,.str v8.short,.str v8.ccy,.str v8.name,.str v8.zb,.str v8.zd],.arr (acc.length+1) 12 (appG acc.length (Con.conG acc) (Con.conG (capL v8 n.2 n.1.p n.1.q))),.box [.i v4.fix,.i v4.pay,.str v4.part]]))))) (.ex (q66 [.sl acc.length 12 (zi (Con.conG acc) 0)]) λn=>let v7:=Tm.whole n;let v10:=q63 [v7.conD];let v5:qe:=.ret [.agg v1,.i e] [.box [.bool fl],.box v2,.box v1,.dead,.box v3,.dead,.box v7.zl,.box v1];.A λn_1=>.D (e=0) (.ex (q56 [v7.conD]) λn_2=>.all (λ(r:Int)=>r=Con.errC n_2) λn_3=>let v6:List AV:=[.i n_3,.str v12,.str v11,.str v14,.str d.name,.str d.zb,.str d.zd];.D (e=0) (.N (n_3=0) (.R [.agg v1,.i n_3] [.box [.bool fl],.box v2,.box v1,.dead,.box v6,.dead,.box v7.zl,.box v1]) (.ex v10 λn_4=>.A λn_5=>.R [n_4.conD,.i 0] [.box [.bool fl],.box v2,.box n_4.zl,.dead,.box v6,.dead,.box v7.zl,.box n_4.zl])) (.N (e=0) (.leaf v5) (.ex v10 λn_4=>.A λn_5=>.R [n_4.conD,.i 0] [.box [.bool fl],.box v2,.box n_4.zl,.dead,.box v3,.dead,.box v7.zl,.box n_4.zl]))) (.N (e=0) (.leaf v5) (.ex v10 λn_2=>.A λn_3=>.R [n_2.conD,.i 0] [.box [.bool fl],.box v2,.box n_2.zl,.dead,.box v3,.dead,.box v7.zl,.box n_2.zl])))) ?_;simp only [q56,q63,q64,q66,Tree.holds,zf,inR,lo,hi,aD];refine⟨λhlt=> ?_,λhge=> ?_⟩
  ·have hlt:i<l.length:=by have:=aB hlt; omega
   have hpi:=hpt i hlt;have h6:d.zd.length<=2500:=hf.2.2.2.2.2;have hss:=Tm.Wb (f:=qy d fl) (e:=e2) hlt;rw [hs] at hss;replace hss:Tm.zR (qy d fl) e2 l (i+1)=⟨(Tm.prod e (l.getD i Per.nil).part d.zd).2,acc++capL d fl (l.getD i Per.nil) (Tm.prod e (l.getD i Per.nil).part d.zd).1⟩:=hss;refine⟨by omega,λ_=> ?_⟩;refine⟨(d,e,(l.getD i Per.nil).part,d.zd),⟨by simp,by simp [Deal.cells],trivial,by show(l.getD i Per.nil).part.length<_; omega,by show d.zd.length<_; omega⟩,⟨(),trivial⟩,λ_ _=> ?_⟩;refine⟨(⟨d,(Tm.prod e (l.getD i Per.nil).part d.zd).2,(l.getD i Per.nil),(Tm.prod e (l.getD i Per.nil).part d.zd).1⟩,fl),⟨⟨⟨rfl,rfl⟩,⟨⟨rfl,rfl⟩,⟨rfl,rfl⟩,rfl,trivial⟩,rfl,⟨rfl,rfl⟩,trivial⟩,by simp [Deal.cells],trivial,hf,by have:=Tm.yE (e:=e) (a:=(l.getD i Per.nil).part) (b:=d.zd); show(Tm.prod e (l.getD i Per.nil).part d.zd).1.length<_; omega⟩,⟨(),trivial⟩,λ_ _=> ?_⟩;refine⟨⟨trivial,aJ _,by omega⟩,λ_=>⟨by omega,λ_=> ?_⟩⟩;rw [aP trivial];refine⟨⟨i+1,hlt⟩,by show l.length - (i+1)<l.length - i; omega,?_,?_,by kernel_rfl,by show 1<=6; decide⟩
   ·rw [hss]; simp [Xg,perS,za,capL]
   ·rw [hss];refine⟨by simp [bCap,dbox],by simp [dbox],by simp [List.replicate],trivial,by simp [Deal.cells],⟨by simp [capL],rfl,U8 acc (capL d fl (l.getD i Per.nil) (Tm.prod e (l.getD i Per.nil).part d.zd).1)⟩,trivial⟩
  ·have hge:i=l.length:=by have:=aC hge; omega
   subst hge;rw [hs] at hq;simp only at hq;have hw:=Tm.xJ acc;obtain⟨c,hc⟩:∃ c,Tm.whole acc=c:=⟨_,rfl⟩;rw [hc] at hq hw;refine⟨acc,⟨⟨⟨rfl,rfl,Zu _ _ _⟩,trivial⟩,by omega⟩,⟨(),trivial⟩,λ_ _=> ?_⟩;simp only [hc];unfold Tm.resE at hq;refine⟨λh=> ?_,λh=> ?_⟩
   ·rw [aP (aB h)] at hq;refine⟨c,⟨⟨jD c,trivial⟩,by omega,by omega⟩,⟨_,rfl⟩,?_⟩;rintro _ rfl;refine⟨λ_=>⟨λh1=> ?_,λh1=> ?_⟩,λh1=>absurd (h.symm.trans h1) (by decide)⟩
    ·rw [aO (by simpa using h1)] at hq;exact RetR.keep [0] rfl rfl (by show ∀ j,j<1->_; decide) rfl hq zero_eq (by simp [expH,expB,exp1,exp0,ren0,bCap,dbox]) rfl
    ·have h1:c.errC=0:=by simpa using h1
     rw [aP h1,h1] at hq;refine⟨c,⟨⟨jD c,trivial⟩,by omega⟩,⟨(),trivial⟩,λ_ _=> ?_⟩;exact RetR.ki [0] rfl rfl (by show ∀ j,j<1->_; decide) rfl hq (LeA.refl _) (by simp [expH,expB,exp1,exp0,ren0,bCap,dbox]) rfl
   ·have h:=aC h;rw [aO h,aO h] at hq;refine⟨λ_=> ?_,λh1=>absurd h1 (by simp [h])⟩;exact RetR.keep [0] rfl rfl (by show ∀ j,j<1->_; decide) rfl hq zero_eq (by simp [expH,expB,exp1,exp0,ren0,bCap,dbox]) rfl
theorem zua{O:Nat->Prop}{w0:World}{I0:List SE}{Hs:Nat->KV->Heap->Prop}{Q:AV×Heap->Prop}(d:Deal)(l:List Per)(fl:Bool)(e1:Int)(hf:Tm.fits d)(hl:l.length<=60)(hpt:∀ i,i<l.length->(l.getD i Per.nil).part.length<=300)
  (hq:Q (.tup [(if Tm.resE (Tm.zR (qy d fl) (Tm.qL e1 l l.length) l l.length).e (Tm.whole (Tm.zR (qy d fl) (Tm.qL e1 l l.length) l l.length).acc)=0 then Tm.whole (Tm.zR (qy d fl) (Tm.qL e1 l l.length) l l.length).acc else Tm.zero).conD,.i (Tm.resE (Tm.zR (qy d fl) (Tm.qL e1 l l.length) l l.length).e (Tm.whole (Tm.zR (qy d fl) (Tm.qL e1 l l.length) l l.length).acc))],[bCap d fl])) :
  zc prog f45 O 1 w0 I0 Hs (RetR JI 1 Q) (.code (.loop (lps (inside K45 0) 0).1)::(lps (inside K45 0) 0).2) (mk f45.ntmps (VY l 0) (HCap d fl e1)):=by
 refine zc.loop (ι:={i:Nat // i<=l.length}) (λi=>VY l i.1) (λi=>HCap d fl (Tm.qL e1 l i.1)) (λi=>l.length - i.1) ⟨0,aI _⟩ 0 ?_ ?_ (by kernel_rfl)
 ·refine⟨by simp [VY,perS,za],?_,by kernel_rfl,by show 1<=5; decide⟩;have:Tm.qL e1 l 0=e1:=by unfold Tm.qL; split<;>simp_all [Tm.badT]
  simp [HCap,bCap,dbox,Deal.cells,this,List.replicate]
 ·rintro⟨i,hil⟩;obtain⟨e',he'⟩:∃ e',Tm.qL e1 l i=e':=⟨_,rfl⟩;simp only [he'];refine zc.n zto.h [1,2,3,6,8,11,14,23,24,25,37,38,39,50,51,52,53,54,55,56,57,66,67,68] (let v9:=lps (inside (inside K45 0) 0) 0;let v7:=inR .i64 (i+1);let v6:List AV:=[.i e',.str d.long,.str d.short,.str d.ccy,.str d.name,.str d.zb,.str d.zd];let v5:List AV:=[.undef,.undef,.undef,.undef,.undef,.undef,.undef,.undef,.undef,.undef,.undef,.undef];let v4:List AV:=[.str d.long,.str d.short,.str d.ccy,.str d.name,.str d.zb,.str d.zd];let v3:=l.getD (i:Int).toNat Per.nil;let v8:List AV:=[.i v3.fix,.i v3.pay,.str v3.part];let v2:List (Nat×AV):=[(1,.sl l.length 3 (perG l)),(2,.fn 49 [] [.ptr 0 0]),(3,.ptr 1 0),(6,.ptr 2 0),(8,.ptr 4 0),(11,.i v3.pay),Z 14,Z 23,Z 24,Z 25,(37,.sl l.length 3 (perG l)),(38,.i l.length),(39,.i (i+1)),Z 50,Z 51,Z 52,Z 53,Z 54,Z 55,Z 56,Z 57,Z 66,Z 67,Z 68];let v1:qe:=.back 0 v2 [.box [.bool fl],.box v4,.box v5,.dead,.box v6,.box v8];.D ((i:Int)<l.length) (.side ((0:Int)<=i/\(i:Int)<l.length) (.ite (bif decide (Per.pay v3 <Per.fix v3) then true else bif decide ((0:Int)<i) then decide (Per.pay v3 <=Tm.xh l i) else false) (.D (e'=(0:Int)) (.side v7 (.leaf (.back 0 v2 [.box [.bool fl],.box v4,.box v5,.dead,.box [.i 40,.str d.long,.str d.short,.str d.ccy,.str d.name,.str d.zb,.str d.zd],.box v8]))) (.side v7 (.leaf v1))) (.side v7 (.leaf v1)))) (.leaf (.loop v9.1 v9.2 [(1,.sl l.length 3 (perG l)),(2,.fn 49 [] [.ptr 0 0]),(3,.ptr 1 0),(6,.ptr 2 0),(8,.ptr 4 0),(11,.i (Tm.xh l i)),(14,.nils),Z 23,Z 24,Z 25,(37,.sl l.length 3 (perG l)),(38,.i l.length),(39,.i i),Z 50,Z 51,Z 52,Z 53,Z 54,Z 55,Z 56,Z 57,(66,.sl l.length 3 (perG l)),(67,.i l.length),(68,.i 0)] [.box [.bool fl],.box v4,.box v5,.dead,.box v6]))) ?_;simp only [Tree.holds,zf,inR,lo,hi,aD];refine⟨λhlt=> ?_,λhge=> ?_⟩
  ·have hlt:i<l.length:=by have:=aB hlt; omega
   have hs:=Tm.Wf (e:=e1) (l:=l) (i:=i) rfl;rw [he'] at hs;have hp:=Tm.V4 l i;refine⟨by omega,λ_=>⟨λhc=>⟨λhz=>⟨by omega,λ_=> ?_⟩,λhz=>⟨by omega,λ_=> ?_⟩⟩,λhc=>⟨by omega,λ_=> ?_⟩⟩⟩
   all_goals
    rw [aP trivial];refine⟨⟨i+1,hlt⟩,by show l.length - (i+1)<l.length - i; omega,by simp [VY,perS,za,hp],?_,by kernel_rfl,by show 1<=5; decide⟩
   ·rw [aP (by simpa using hc),aP (aB hz)] at hs;simp [HCap,bCap,dbox,Deal.cells,hs,List.replicate]
   ·rw [aP (by simpa using hc),aO (aC hz)] at hs;simp [HCap,bCap,dbox,Deal.cells,hs,List.replicate]
   ·rw [aO (by simp at hc ⊢; omega)] at hs;simp [HCap,bCap,dbox,Deal.cells,hs,List.replicate]
  ·have hge:i=l.length:=by have:=aC hge; omega
   subst hge;rw [he'] at hq;refine zc.bear 14 12 (Con.conG []) rfl (by decide) (by kernel_rfl) ?_;refine zc.weak (S:=Xg l 0 0) (H:=UK d fl e' []) ⟨by simp [Xg,kC,perS,za],by simp [UK,bCap,dbox,Deal.cells,List.replicate,za],by kernel_rfl,by show 1<=6; decide⟩ ?_;exact zvl d l fl e' hf hl hpt hq
theorem zgl:ze prog 45 JI:=by
 refine z9 (fn:=f45) (c:=f45.body.getD .skip) rfl rfl rfl (λh=>by cases h) λp hp O w0 I0 Q hl0 hq=> ?_
 obtain⟨d,l,fl⟩:=p;replace hq:=hq () trivial;obtain⟨hf,hl,hpt⟩:=hp;simp only at hf hl hpt hq;unfold Tm.q7 Tm.ji at hq;refine zc.n zto.h [1,2,3,6,8,11,14,23,24,25,37,38,39,50,51,52,53,54,55,56,57,66,67,68] (let v2:List AV:=[.str d.long,.str d.short,.str d.ccy,.str d.name,.str d.zb,.str d.zd];let v1:List AV:=[.int .u8 0,.str #[].toList,.str #[].toList,.str #[].toList,.int .u8 0,.str #[].toList,.str #[].toList,.i 0,.nils,.i 0,.nils,.nils];.D ((40:Int)<l.length) (.R [.agg v1,.i 4] [.box [.bool fl],.box v2,.box v1]) (.ex (λ(x:Deal×Int×List L8)=>eqL [.ptr 0 0,.osl 1 1 0 2] [.ptr 0 0,.osl 1 1 0 x.2.2.length]/\eqH [.box [.i 0,.str d.long,.str d.short,.str d.ccy,.str d.name,.str d.zb,.str d.zd],.arr 2 1 (zj 1 [.str d.zb,.str d.zd])] [.box [.i x.2.1,.str x.1.long,.str x.1.short,.str x.1.ccy,.str x.1.name,.str x.1.zb,.str x.1.zd],.arr x.2.2.length 1 (ratG x.2.2)]/\2=2/\x.2.2.length<1099511627776/\∀ (r:L8),r∈x.2.2->r.length<1099511627776) λn=>.A λn_1=>.leaf (.loop (lps K45 0).1 (lps K45 0).2 [(1,.sl l.length 3 (perG l)),(2,.fn 49 [] [.ptr 0 0]),(3,.ptr 1 0),(6,.ptr 2 0),(8,.ptr 4 0),Z 11,Z 14,(23,.sl l.length 3 (perG l)),(24,.i l.length),(25,.i 0),Z 37,Z 38,Z 39,Z 50,Z 51,Z 52,Z 53,Z 54,Z 55,Z 56,Z 57,Z 66,Z 67,Z 68] [.box [.bool fl],.box v2,.box v1,.box v2,.box [.i (Tm.first n.2.1 n.2.2),.str n.1.long,.str n.1.short,.str n.1.ccy,.str n.1.name,.str n.1.zb,.str n.1.zd],.arr n.2.2.length 1 (ratG n.2.2)]))) ?_;simp only [Tree.holds,zf];refine⟨λh=> ?_,λh=> ?_⟩
 ·have h40:=aB h;simp only [aP (show 40<l.length by omega)] at hq;rw [aO (show ¬ (4:Int)=0 by decide)] at hq;exact RetR.keep [0] rfl rfl (by show ∀ j,j<1->_; decide) rfl hq zero_eq (by simp [expH,expB,exp1,exp0,ren0,bCap,dbox]) rfl
 have h40:=aC h;simp only [aO (show ¬ 40<l.length by omega)] at hq;refine⟨(d,0,[d.zb,d.zd]),⟨by simp,by simp [Deal.cells,X8],trivial,by show 2<2^40; decide,Zx hf⟩,⟨(),trivial⟩,λ_ _=> ?_⟩;unfold Tm.w9 Tm.perE at hq;obtain⟨e0,he0⟩:∃ e,Tm.first 0 [d.zb,d.zd]=e:=⟨_,rfl⟩;rw [he0] at hq;simp only [he0];refine zc.loop (ι:={i:Nat // i<=l.length}) (λi=>zn7 l i.1) (λi=>HCap d fl (Tm.first e0 ((l.map Per.part).take i.1))) (λi=>l.length - i.1) ⟨0,aI _⟩ 0 ?_ ?_ (by kernel_rfl)
 ·exact⟨by simp [zn7,perS,za],by simp [HCap,bCap,dbox,Deal.cells,Tm.first,List.replicate],by kernel_rfl,by show 1<=5; decide⟩
 ·rintro⟨i,hil⟩;obtain⟨e',he'⟩:∃ e',Tm.first e0 ((l.map Per.part).take i)=e':=⟨_,rfl⟩;simp only [he'];refine zc.n zto.h [1,2,3,6,8,11,14,23,24,25,37,38,39,50,51,52,53,54,55,56,57,66,67,68] (let v3:List AV:=[.undef,.undef,.undef,.undef,.undef,.undef,.undef,.undef,.undef,.undef,.undef,.undef];let v2:=l.getD (i:Int).toNat Per.nil;let v1:List AV:=[.str d.long,.str d.short,.str d.ccy,.str d.name,.str d.zb,.str d.zd];.D ((i:Int)<l.length) (.side ((0:Int)<=i/\(i:Int)<l.length) (.ex (λ(x:Deal×Int×List L8)=>eqL [.ptr 0 0,.osl 1 1 0 1] [.ptr 0 0,.osl 1 1 0 x.2.2.length]/\eqH [.box [.i e',.str d.long,.str d.short,.str d.ccy,.str d.name,.str d.zb,.str d.zd],.arr 1 1 (zj 1 [.str v2.part])] [.box [.i x.2.1,.str x.1.long,.str x.1.short,.str x.1.ccy,.str x.1.name,.str x.1.zb,.str x.1.zd],.arr x.2.2.length 1 (ratG x.2.2)]/\2=2/\x.2.2.length<1099511627776/\∀ (r:L8),r∈x.2.2->r.length<1099511627776) λn=>.A λn_1=>.S (i+1) (.leaf (.back 0 [(1,.sl l.length 3 (perG l)),(2,.fn 49 [] [.ptr 0 0]),(3,.ptr 1 0),(6,.ptr 2 0),(8,.ptr 4 0),Z 11,Z 14,(23,.sl l.length 3 (perG l)),(24,.i l.length),(25,.i (i+1)),Z 37,Z 38,Z 39,Z 50,Z 51,Z 52,Z 53,Z 54,Z 55,Z 56,Z 57,Z 66,Z 67,Z 68] [.box [.bool fl],.box v1,.box v3,.dead,.box [.i (Tm.first n.2.1 n.2.2),.str n.1.long,.str n.1.short,.str n.1.ccy,.str n.1.name,.str n.1.zb,.str n.1.zd],.box [.i v2.fix,.i v2.pay,.str v2.part],.arr n.2.2.length 1 (ratG n.2.2)])))) (.leaf (.loop (lps (inside K45 0) 0).1 (lps (inside K45 0) 0).2 [(1,.sl l.length 3 (perG l)),(2,.fn 49 [] [.ptr 0 0]),(3,.ptr 1 0),(6,.ptr 2 0),(8,.ptr 4 0),(11,.i (-9223372036854775808:Int)),Z 14,(23,.sl l.length 3 (perG l)),(24,.i l.length),(25,.i i),(37,.sl l.length 3 (perG l)),(38,.i l.length),(39,.i 0),Z 50,Z 51,Z 52,Z 53,Z 54,Z 55,Z 56,Z 57,Z 66,Z 67,Z 68] [.box [.bool fl],.box v1,.box v3,.dead,.box [.i e',.str d.long,.str d.short,.str d.ccy,.str d.name,.str d.zb,.str d.zd]]))) ?_;simp only [Tree.holds,zf,inR,lo,hi,aD];refine⟨λhlt=> ?_,λhge=> ?_⟩
  ·have hlt:i<l.length:=by have:=aB hlt; omega
   have hpi:=hpt i hlt;have ht:=Tm.Zk (e:=e0) (l:=l.map Per.part) (i:=i) (by simpa using hlt);rw [he'] at ht;have hg:(l.map Per.part).getD i []=(l.getD i Per.nil).part:=by simp [List.getD,hlt]
   rw [hg] at ht;have ht2:Tm.first e' [(l.getD i Per.nil).part]=Tm.first e0 ((l.map Per.part).take (i+1)):=by rw [ht]; rfl
   refine⟨by omega,λ_=>⟨(d,e',[(l.getD i Per.nil).part]),⟨by simp,by simp [Deal.cells,zea],trivial,by show 1<2^40; decide,λr hr=>by rw [List.mem_singleton.1 hr]; omega⟩,⟨(),trivial⟩,λ_ _=>⟨by omega,λ_=> ?_⟩⟩⟩;rw [aP trivial];exact⟨⟨i+1,hlt⟩,by show l.length - (i+1)<l.length - i; omega,by simp [zn7,perS,za],by show eqH _ (HCap d fl (Tm.first e0 ((l.map Per.part).take (i+1)))); rw [<- ht2]; simp [HCap,bCap,dbox,Deal.cells,List.replicate],by kernel_rfl,by show 1<=5; decide⟩
  ·have hge:i=l.length:=by have:=aC hge; omega
   subst hge;have hz:(l.map Per.part).take l.length=l.map Per.part:=by rw [<- List.length_map (f:=Per.part),bD]
   rw [hz] at he';rw [he'] at hq;refine zc.weak (S:=VY l 0) (H:=HCap d fl e') ⟨by simp [VY,perS,za,Tm.xh],by simp [HCap,bCap,dbox,Deal.cells,List.replicate],by kernel_rfl,by show 1<=5; decide⟩ ?_;exact zua d l fl e' hf hl hpt hq
noncomputable def K9:=Go.Sx.aA f9
structure yg where
 d:Deal
 l:List Per
 days:List Int
def zsg:Ctr:=ctrP true (λp:yg=>[p.d.av,perS p.l,Con.dayS p.days]) (λp=>p.l.length<2^60) (λp r=>r=false->Tm.short p.d p.l p.days) (λ_ (r:Bool)=>(.bool r,[]))
def SLo(l:List Per)(i:Nat):KV:=[(1,perS l),(7,.i (i:Int))]
theorem zqh:ze prog 9 zsg:=by
 refine zh' f9 λp hp O w0 Q hq=> ?_
 obtain⟨d,l,days⟩:=p;replace hp:l.length<2^60:=hp;refine zc.n zw [1,7] (let v1:List Blk:=[.box [.str d.long,.str d.short,.str d.ccy,.str d.name,.str d.zb,.str d.zd]];.ite (bif bif bif bif bif bif bif decide ((200:Int)<(d.long.length:Int)) then true else decide ((200:Int)<(d.short.length:Int)) then true else decide ((200:Int)<(d.ccy.length:Int)) then true else decide ((200:Int)<(d.name.length:Int)) then true else decide ((2500:Int)<(d.zb.length:Int)) then true else decide ((2500:Int)<(d.zd.length:Int)) then true else decide ((60:Int)<l.length) then true else decide ((200:Int)<days.length)) (.R [.bool true] v1) (.leaf (.loop (lps K9 0).1 (lps K9 0).2 [(1,.sl l.length 3 (perG l)),(7,.i 0)] v1))) ?_;simp only [Tree.holds,zf];have hqt:Q (.bool true,[]):=hq true (λh=>by cases h);refine⟨λh=>RetR.scal hqt rfl (by simp [resV]),λh=> ?_⟩
 have hs:Tm.fits d/\l.length<=60/\days.length<=200:=by
  simp only [Bool.cond_true_left,Bool.or_eq_false_iff,aV] at h;unfold Tm.fits;omega
 refine zc.loop (ι:={i:Nat // i<=l.length/\∀ j,j<i->(l.getD j Per.nil).part.length<=300}) (λi=>SLo l i.1) (λi=>[.box [.str d.long,.str d.short,.str d.ccy,.str d.name,.str d.zb,.str d.zd]]) (λi=>l.length - i.1) ⟨0,aI _,λj hj=>absurd hj (Nat.not_lt_zero j)⟩ 0 ?_ ?_ (by kernel_rfl)
 ·exact⟨by simp [SLo,perS,za],by simp,by kernel_rfl,aI _⟩
 ·rintro⟨i,hil,hall⟩;refine zc.n zw [1,7] (let v1:List Blk:=[.box [.str d.long,.str d.short,.str d.ccy,.str d.name,.str d.zb,.str d.zd]];.D ((i:Int)<l.length) (.side ((0:Int)<=i/\(i:Int)<l.length) (.D ((300:Int)<(↑(List.length (Per.part (l.getD (i:Int).toNat Per.nil))):Int)) (.R [.bool true] v1) (.S (i+1) (.leaf (.back 0 [(1,.sl l.length 3 (perG l)),(7,.i (i+1))] v1))))) (.R [.bool false] v1)) ?_;simp only [Tree.holds,zf,inR,lo,hi,aD];refine⟨λhlt=> ?_,λhge=> ?_⟩
  ·have hlt:i<l.length:=by have:=aB hlt; omega
   refine⟨by omega,λ_=>⟨λ_=>RetR.scal hqt rfl (by simp [resV]),λh3=>⟨by omega,λ_=> ?_⟩⟩⟩;rw [aP trivial];have h3:(l.getD i Per.nil).part.length<=300:=by have:=aC h3; omega
   refine⟨⟨i+1,hlt,λj hj=> ?_⟩,by show l.length - (i+1)<l.length - i; omega,by simp [SLo,perS,za],by simp,by kernel_rfl,aI _⟩;rcases Nat.lt_succ_iff_lt_or_eq.1 hj with hj | rfl
   ·exact hall j hj
   ·exact h3
  ·have hge:i=l.length:=by have:=aC hge; omega
   subst hge;exact RetR.scal (hq false λ_=>⟨hs.1,hs.2.1,hs.2.2,hall⟩) rfl (by simp [resV])
noncomputable def GSwp:=tb zc6 tz
noncomputable def GCap:=tb zgl tz
def zm6:Ctr:=ctrP false (λx:PeA=>[x.d.av,perS x.l]) (λx=>x.ok) (λ_ (_:Unit)=>True) (λx _=>(.tup [(Tm.q7 (Tm.legS x.d) x.d x.l).conD,.i (Tm.ji (Tm.legS x.d) x.d x.l)],[]))
theorem zf7:ze prog 19 zm6:=by
 refine zh' f19 λp hp O w0 Q hq=> ?_
 obtain⟨d,l,fl⟩:=p;replace hq:=hq () trivial;refine zc.n GSwp.h [] (.ex (λ(x:PeA)=>eqL [d.av,.sl l.length 3 (perG l),.fn 46 [] [.ptr 0 0]] [x.d.av,.sl x.l.length 3 (perG x.l),.fn 46 [] [.ptr 0 0]]/\eqH [.box [.str d.long,.str d.short,.str d.ccy,.str d.name,.str d.zb,.str d.zd]] [.box [.str x.d.long,.str x.d.short,.str x.d.ccy,.str x.d.name,.str x.d.zb,.str x.d.zd]]/\1=1/\PeA.ok x) λn=>let v1:=Tm.q7 (zV n.d n.fl) n.d n.l;.A λn_1=>.R [v1.conD,.i (Tm.ji (zV n.d n.fl) n.d n.l)] [.box [.str n.d.long,.str n.d.short,.str n.d.ccy,.str n.d.name,.str n.d.zb,.str n.d.zd],.box v1.zl]) ?_;simp only [Tree.holds,zf];refine⟨⟨d,l,fl⟩,⟨⟨⟨rfl,rfl,rfl,rfl,rfl,rfl,trivial⟩,⟨rfl,rfl,za _ _ _⟩,rfl,trivial⟩,by simp,trivial,hp⟩,⟨(),trivial⟩,λ_ _=> ?_⟩;exact RetR.le0 hq (λh=>by cases h) (LeA.refl _)
def capC:Ctr:=ctrP false (λx:PeA=>[x.d.av,perS x.l,.bool x.fl]) (λx=>x.ok) (λ_ (_:Unit)=>True) (λx _=>(.tup [(Tm.q7 (Tm.legC x.d x.fl) x.d x.l).conD,.i (Tm.ji (Tm.legC x.d x.fl) x.d x.l)],[]))
theorem ztm:ze prog 20 capC:=by
 refine zh' f20 λp hp O w0 Q hq=> ?_
 obtain⟨d,l,fl⟩:=p;replace hq:=hq () trivial;refine zc.n GCap.h [] (.ex (λ(x:PeA)=>eqL [d.av,.sl l.length 3 (perG l),.fn 49 [] [.ptr 0 0]] [x.d.av,.sl x.l.length 3 (perG x.l),.fn 49 [] [.ptr 0 0]]/\eqH [.box [.bool fl]] [.box [.bool x.fl]]/\1=1/\PeA.ok x) λn=>let v1:=Tm.q7 (qy n.d n.fl) n.d n.l;.A λn_1=>.R [v1.conD,.i (Tm.ji (qy n.d n.fl) n.d n.l)] [.box [.str d.long,.str d.short,.str d.ccy,.str d.name,.str d.zb,.str d.zd],.box [.bool n.fl],.box v1.zl]) ?_;simp only [Tree.holds,zf];refine⟨⟨d,l,fl⟩,⟨⟨⟨rfl,rfl,rfl,rfl,rfl,rfl,trivial⟩,⟨rfl,rfl,za _ _ _⟩,rfl,trivial⟩,by simp,trivial,hp⟩,⟨(),trivial⟩,λ_ _=> ?_⟩;exact RetR.le0 hq (λh=>by cases h) (LeA.refl _)
structure FlA where
 c:Con
 e:Int
 day:Int
 f:List Fx
 h:List Ch
 l:List Fl
def zdm:Ctr:=ctrP true (λp:FlA=>[p.c.conA,.i p.e,.i p.day,envA p.f p.h,flS p.l]) (λp=>FI.pre ⟨p.c,p.day,100000,p.f,p.h⟩/\p.e=0/\wO p.c p.day p.f p.h=(p.l,0)/\p.l.length<2^40) (λ_ r=>r=true) (λ_ (r:Bool)=>(.bool r,[]))
noncomputable def GFlL:=tb Wm (tb UH tz)
abbrev q68(A:List AV)(x:List Fl×List Fl):Prop:=eqL A [.sl x.1.length 5 (flG x.1),.sl x.2.length 5 (flG x.2)]/\x.1.length<1099511627776
abbrev q67(A:List AV)(x:FI):Prop:=eqL A [(Con.conA x.c),.i x.day,.agg [.sl x.f.length 3 (fxG x.f),.sl x.h.length 4 (chG x.h)]]/\FI.pre x
theorem zi5:ze prog 29 zdm:=by
 refine zh' f29 λp hp O w0 Q hq=> ?_
 obtain⟨c,e,day,f,h,l⟩:=p;obtain⟨p1,p2,p3,p4⟩:=hp;replace hq:=hq _ rfl;simp only at hq p1 p2 p3 p4;subst p2;refine zc.n GFlL.h [] (.ex (q67 [(Con.conA c),.i day,.agg [.sl f.length 3 (fxG f),.sl h.length 4 (chG h)]]) λn=>.all (λ(r:List Fl×Int)=>r=wO n.c n.day n.f n.h) λn=>.ex (λ(x:List Fl×List Fl)=>(bif decide ((0:Int)=0) then decide (n.2=0) else false)=true->q68 [.sl n.1.length 5 (flG n.1),.sl l.length 5 (flG l)] x) λn_1=>.all (λ(x:Bool)=>(bif decide ((0:Int)=0) then decide (n.2=0) else false)=true->(x=true↔n_1.1=n_1.2)) λn_2=>.R [.bool (bif bif decide ((0:Int)=0) then decide (n.2=0) else false then n_2 else false)] [.box c.zg,.box [.sl f.length 3 (fxG f),.sl h.length 4 (chG h)]]) ?_;simp only [q67,q68,Tree.holds,zf];refine⟨⟨c,day,100000,f,h⟩,⟨⟨qZ c,⟨rfl,rfl⟩,⟨⟨rfl,rfl,λ_ _ _ _=>rfl⟩,⟨rfl,rfl,λ_ _ _ _=>rfl⟩,trivial⟩,trivial⟩,p1⟩,⟨_,rfl⟩,?_⟩;rintro _ rfl;simp only [p3];refine⟨(l,l),λ_=>⟨⟨⟨rfl,rfl,λ_ _ _ _=>rfl⟩,⟨rfl,rfl,λ_ _ _ _=>rfl⟩,trivial⟩,p4⟩,⟨true,λ_=>by simp⟩,λr hr=> ?_⟩;obtain rfl:r=true:=(hr (by simp)).2 rfl;exact RetR.scal hq rfl (by simp [resV])
noncomputable def zt5:Ctr:=inlC prog noG 100 f27
theorem znu:ze prog 27 zt5:=QF hmix zw rfl rfl
def zlv:Ctr:=ctrP true (λp:Fl=>[.i p.date,.str p.src,.str p.dst,.str p.amt]) (λ_=>True) (λ_ (_:Unit)=>True) (λp _=>(.agg [.i p.date,.str p.src,.str p.dst,.str [85,83,68],.str p.amt],[]))
theorem zox:ze prog 30 zlv:=by
 refine zh' f30 λp hp O w0 Q hq=> ?_
 obtain⟨d,a,b,n,r⟩:=p;replace hq:=hq () trivial;simp only at hq;refine zc.n zw [] (.R [.agg [.i d,.str a,.str b,.str #[(85:UInt8),(83:UInt8),(68:UInt8)].toList,.str r]] [.box [.i d,.str a,.str b,.str #[(85:UInt8),(83:UInt8),(68:UInt8)].toList,.str r]]) ?_;simp only [Tree.holds,zf];exact RetR.scal hq rfl (by simp [resV])
def zrq:Ctr:=ctrP true (λ_:Unit=>[]) (λ_=>True) (λ_ r=>r=true) (λ_ (r:Bool)=>(.bool r,[]))
def zsm:Ctr:={ zm6 with sinks:=true }
theorem zim:ze prog 19 zsm:=zf7.sink
noncomputable def GAlT:=tb zi5 (tb znu (tb zox (tb zc5 (tb zim tz))))
def dAl1:Deal:=⟨[65,110,110],[66,111,98],[85,83,68],[115,112,111,116],[51],[49,48]⟩
def dAl2:Deal:=⟨[65,110,110],[66,111,98],[85,83,68],[105,100,120],[49,47,50,48],[49,48,48]⟩
def lAl2:List Per:=[⟨1,9,[49,47,50]⟩]
def cAl1:Con:=Tm.fwd dAl1 5
def cAl2:Con:=Tm.q7 (Tm.legS dAl2) dAl2 lAl2
theorem zqz:Tm.res dAl1 (Tm.fwd dAl1 5)=0:=by decide +kernel
theorem zqb:Tm.out 0 (Tm.fwd dAl1 5)=cAl1:=by unfold Tm.out cAl1; rw [aP rfl]
theorem zqa:Tm.ji (Tm.legS dAl2) dAl2 lAl2=0:=by decide +kernel
def zod:Fl:=⟨5,[66,111,98],[65,110,110],[85,83,68],[53]⟩
def zk5:Fl:=⟨9,[65,110,110],[66,111,98],[85,83,68],[53,47,50]⟩
def zoa:Fl:=⟨9,[66,111,98],[65,110,110],[85,83,68],[53]⟩
def fxAl:List Fx:=[⟨[105,100,120],1,[49,47,49,48]⟩,⟨[115,112,111,116],5,[55,47,50]⟩]
theorem zn0:wO cAl1 2 fxAl []=([zod],0):=by kernel_rfl
theorem zna:wO cAl2 2 fxAl []=([zk5,zoa],0):=by kernel_rfl
theorem zik:envP (fxAl,[]):=⟨by decide,by decide,by unfold yo; decide,λj hj=>absurd hj (Nat.not_lt_zero j)⟩
theorem zq7:FI.pre ⟨cAl1,2,100000,fxAl,[]⟩:=⟨by show cAl1.big<_; decide +kernel,by show cAl1.nodes<=_; decide +kernel,zik⟩
theorem zpc:FI.pre ⟨cAl2,2,100000,fxAl,[]⟩:=⟨by show cAl2.big<_; decide +kernel,by show cAl2.nodes<=_; decide +kernel,zik⟩
noncomputable def LAt:List Go.Sx.Item:=jM 12 (f8.body.getD .skip)
noncomputable def LAt2:List Go.Sx.Item:=LAt.drop 2
def SAt3:KV:=[(1,.ptr 1 0),(2,.ptr 3 0),(3,.i 0)]
def HAt3:Heap:=[.arr 2 3 (fxG fxAl),.box [.osl 0 3 0 2,.nils],.dead,.box cAl1.zl]
noncomputable def LAt3:List Go.Sx.Item:=LAt2.drop 1
def SAt4:KV:=[(1,.ptr 1 0),(2,.ptr 3 0),(3,.i 0),(4,.ptr 6 0),(5,.i 0)]
def HAt4:Heap:=[.arr 2 3 (fxG fxAl),.box [.osl 0 3 0 2,.nils],.dead,.box cAl1.zl,.dead,.dead,.box cAl2.zl]
noncomputable def LAt4:List Go.Sx.Item:=LAt3.drop 1
def SAt2:KV:=[(1,.ptr 1 0)]
def HAt2:Heap:=[.arr 2 3 (fxG fxAl),.box [.osl 0 3 0 2,.nils]]
abbrev q70(A:List AV)(x:Fl):Prop:=eqL A [.i x.date,.str x.src,.str x.dst,.str x.amt]/\True
abbrev q69(A:List AV)(x:PeA):Prop:=eqL A [x.d.av,.sl x.l.length 3 (perG x.l)]/\PeA.ok x
theorem zg7:ze prog 8 zrq:=by
 refine zh' f8 λp hp O w0 Q hq=> ?_
 replace hq:=hq true rfl;refine zc.spine 12 ?_;refine zc.cutL (ι:=Unit) LAt 2 0 (λ_=>SAt2) (λ_=>HAt2) (by kernel_rfl) (by kernel_rfl) ?_ λ_=> ?_
 ·refine zc.n GAlT.h [1] (.leaf (.back 0 [(1,.ptr 1 0)] [.arr 2 3 (zj 3 [.str #[(105:UInt8),(100:UInt8),(120:UInt8)].toList,.i 1,.str #[(49:UInt8),(47:UInt8),(49:UInt8),(48:UInt8)].toList,.str #[(115:UInt8),(112:UInt8),(111:UInt8),(116:UInt8)].toList,.i 5,.str #[(55:UInt8),(47:UInt8),(50:UInt8)].toList]),.box [.osl 0 3 0 2,.nils]])) ?_;simp only [Tree.holds,zf];rw [aP trivial];refine⟨(),by simp [SAt2],⟨⟨rfl,rfl,?_⟩,by simp,trivial⟩,by kernel_rfl,aI _⟩;intro j o hj ho;rcases(show j=0\/j=1 by omega) with rfl | rfl<;>rcases(show o=0\/o=1\/o=2 by omega) with rfl | rfl | rfl<;>rfl
 show j4 none prog f8 O 0 w0 [] _ _ LAt2 _;refine zc.cutL (ι:=Unit) LAt2 1 0 (λ_=>SAt3) (λ_=>HAt3) (by kernel_rfl) (by kernel_rfl) ?_ λ_=> ?_
 ·refine zc.n GAlT.h [1,2,3] (.ex (λ(x:Deal×Int)=>eqL [.agg [.str #[(65:UInt8),(110:UInt8),(110:UInt8)].toList,.str #[(66:UInt8),(111:UInt8),(98:UInt8)].toList,.str #[(85:UInt8),(83:UInt8),(68:UInt8)].toList,.str #[(115:UInt8),(112:UInt8),(111:UInt8),(116:UInt8)].toList,.str #[(51:UInt8)].toList,.str #[(49:UInt8),(48:UInt8)].toList],.i 5] [x.1.av,.i x.2]/\Tm.fits x.1) λn=>.A λn_1=>.leaf (.back 0 [(1,.ptr 1 0),(2,.ptr 3 0),(3,.i (Tm.res n.1 (Tm.fwd n.1 n.2)))] [.arr 2 3 (fxG fxAl),.box [.osl 0 3 0 2,.nils],.box [.str #[(65:UInt8),(110:UInt8),(110:UInt8)].toList,.str #[(66:UInt8),(111:UInt8),(98:UInt8)].toList,.str #[(85:UInt8),(83:UInt8),(68:UInt8)].toList,.str #[(115:UInt8),(112:UInt8),(111:UInt8),(116:UInt8)].toList,.str #[(51:UInt8)].toList,.str #[(49:UInt8),(48:UInt8)].toList],.box (Con.zl (Tm.out (Tm.res n.1 (Tm.fwd n.1 n.2)) (Tm.fwd n.1 n.2)))])) ?_;simp only [Tree.holds,zf];refine⟨(dAl1,5),⟨⟨⟨rfl,rfl,rfl,rfl,rfl,rfl,trivial⟩,⟨rfl,rfl⟩,trivial⟩,by unfold Tm.fits; decide⟩,⟨(),trivial⟩,λ_ _=> ?_⟩;rw [aP trivial];simp only [zqz,zqb];exact⟨(),by simp [SAt3],⟨zA _,zA _,trivial,zA _,trivial⟩,by kernel_rfl,aI _⟩
 show j4 none prog f8 O 0 w0 [] _ _ LAt3 _;refine zc.cutL (ι:=Unit) LAt3 1 0 (λ_=>SAt4) (λ_=>HAt4) (by kernel_rfl) (by kernel_rfl) ?_ λ_=> ?_
 ·refine zc.n GAlT.h [1,2,3,4,5] (.ex (q69 [.agg [.str #[(65:UInt8),(110:UInt8),(110:UInt8)].toList,.str #[(66:UInt8),(111:UInt8),(98:UInt8)].toList,.str #[(85:UInt8),(83:UInt8),(68:UInt8)].toList,.str #[(105:UInt8),(100:UInt8),(120:UInt8)].toList,.str #[(49:UInt8),(47:UInt8),(50:UInt8),(48:UInt8)].toList,.str #[(49:UInt8),(48:UInt8),(48:UInt8)].toList],.sl 1 3 (zi (zj 3 [.i 1,.i 9,.str #[(49:UInt8),(47:UInt8),(50:UInt8)].toList]) 0)]) λn=>.A λn_1=>.leaf (.back 0 [(1,.ptr 1 0),(2,.ptr 3 0),(3,.i 0),(4,.ptr 6 0),(5,.i (Tm.ji (Tm.legS n.d) n.d n.l))] [.arr 2 3 (fxG fxAl),.box [.osl 0 3 0 2,.nils],.dead,.box [.int .u8 6,.str cAl1.src,.str cAl1.dst,.str cAl1.name,.int .u8 0,.str (Ex.rat cAl1.x),.str (Ex.name cAl1.x),.i 0,.sl 0 5 (Ex.exG (Ex.sub cAl1.x)),.i 5,.sl 0 1 (Con.dayG cAl1.days),.sl 1 12 (Con.deep cAl1)],.box [.str #[(65:UInt8),(110:UInt8),(110:UInt8)].toList,.str #[(66:UInt8),(111:UInt8),(98:UInt8)].toList,.str #[(85:UInt8),(83:UInt8),(68:UInt8)].toList,.str #[(105:UInt8),(100:UInt8),(120:UInt8)].toList,.str #[(49:UInt8),(47:UInt8),(50:UInt8),(48:UInt8)].toList,.str #[(49:UInt8),(48:UInt8),(48:UInt8)].toList],.dead,.box (Con.zl (Tm.q7 (Tm.legS n.d) n.d n.l))])) ?_;simp only [q69,Tree.holds,zf];refine⟨⟨dAl2,lAl2,false⟩,⟨⟨⟨rfl,rfl,rfl,rfl,rfl,rfl,trivial⟩,⟨rfl,rfl,?_⟩,trivial⟩,by unfold Tm.fits; decide,by decide,by decide⟩,⟨(),trivial⟩,λ_ _=> ?_⟩
  ·intro j o hj ho;rcases(show j=0 by omega) with rfl;rcases(show o=0\/o=1\/o=2 by omega) with rfl | rfl | rfl<;>rfl
  rw [aP trivial];simp only [zqa];exact⟨(),by simp [SAt4],⟨zA _,zA _,trivial,zA _,trivial,trivial,zA _,trivial⟩,by kernel_rfl,aI _⟩
 show j4 none prog f8 O 0 w0 [] _ _ LAt4 _;refine zc.n GAlT.h [] (let v5:=[AV.sl 2 3 (zi (fxG fxAl) 0),AV.nils];let v3:List AV:=[.int .u8 3,.str cAl2.src,.str cAl2.dst,.str cAl2.name,.int .u8 0,.str (Ex.rat cAl2.x),.str (Ex.name cAl2.x),.i 0,.sl 0 5 (Ex.exG (Ex.sub cAl2.x)),.i 0,.sl 0 1 (Con.dayG cAl2.days),.sl 2 12 (Con.deep cAl2)];let v2:List AV:=[.int .u8 6,.str cAl1.src,.str cAl1.dst,.str cAl1.name,.int .u8 0,.str (Ex.rat cAl1.x),.str (Ex.name cAl1.x),.i 0,.sl 0 5 (Ex.exG (Ex.sub cAl1.x)),.i 5,.sl 0 1 (Con.dayG cAl1.days),.sl 1 12 (Con.deep cAl1)];let v1:=[AV.int .u8 3,AV.str cAl2.src,AV.str cAl2.dst,AV.str cAl2.name,AV.int .u8 0,AV.str (Ex.rat cAl2.x),AV.str (Ex.name cAl2.x),AV.i 0,AV.sl 0 5 (Ex.exG (Ex.sub cAl2.x)),AV.i 0,AV.sl 0 1 (Con.dayG cAl2.days),AV.sl 2 12 (Con.deep cAl2)];.ex (q70 [.i 5,.str #[(66:UInt8),(111:UInt8),(98:UInt8)].toList,.str #[(65:UInt8),(110:UInt8),(110:UInt8)].toList,.str #[(53:UInt8)].toList]) λn=>let v4:=zj 5 [.i n.date,.str n.src,.str n.dst,.str [(85:UInt8),(83:UInt8),(68:UInt8)],.str n.amt];.A λn_1=>.ex (λ(x:FlA)=>eqL [.agg [.int .u8 6,.str cAl1.src,.str cAl1.dst,.str cAl1.name,.int .u8 0,.str (Ex.rat cAl1.x),.str (Ex.name cAl1.x),.i 0,.sl 0 5 (Ex.exG (Ex.sub cAl1.x)),.i 5,.sl 0 1 (Con.dayG cAl1.days),.sl 1 12 (Con.deep cAl1)],.i 0,.i 2,.agg v5,.sl 1 5 (zi (zj 5 [.i n.date,.str n.src,.str n.dst,.str [(85:UInt8),(83:UInt8),(68:UInt8)],.str n.amt]) 0)] [(Con.conA x.c),.i x.e,.i x.day,.agg [.sl x.f.length 3 (fxG x.f),.sl x.h.length 4 (chG x.h)],.sl x.l.length 5 (flG x.l)]/\FI.pre { c:=FlA.c x,day:=FlA.day x,fin:=(100000:Int),f:=FlA.f x,h:=FlA.h x } /\ FlA.e x=0/\wO x.c x.day x.f x.h=(FlA.l x,(0:Int))/\List.length x.l<1099511627776) λn_2=>.all (λ(r:Bool)=>r=true) λn_3=>.ex (λ(x:Fl)=>n_3=true->q70 [.i 9,.str #[(65:UInt8),(110:UInt8),(110:UInt8)].toList,.str #[(66:UInt8),(111:UInt8),(98:UInt8)].toList,.str #[(53:UInt8),(47:UInt8),(50:UInt8)].toList] x) λn_4=>.all (λ(x:Unit)=>n_3=true->True) λn_5=>.ex (λ(x:Fl)=>n_3=true->q70 [.i 9,.str #[(66:UInt8),(111:UInt8),(98:UInt8)].toList,.str #[(65:UInt8),(110:UInt8),(110:UInt8)].toList,.str #[(53:UInt8)].toList] x) λn_6=>.all (λ(x:Unit)=>n_3=true->True) λn_7=>.ite (n_3 == true) (.ex (λ(x:FlA)=>n_3=true->eqL [.agg v1,.i 0,.i 2,.agg v5,.sl 2 5 (zi (zj 5 [.i n_4.date,.str n_4.src,.str n_4.dst,.str [(85:UInt8),(83:UInt8),(68:UInt8)],.str n_4.amt,.i n_6.date,.str n_6.src,.str n_6.dst,.str [(85:UInt8),(83:UInt8),(68:UInt8)],.str n_6.amt]) 0)] [(Con.conA x.c),.i x.e,.i x.day,.agg [.sl x.f.length 3 (fxG x.f),.sl x.h.length 4 (chG x.h)],.sl x.l.length 5 (flG x.l)]/\FI.pre { c:=FlA.c x,day:=FlA.day x,fin:=(100000:Int),f:=FlA.f x,h:=FlA.h x } /\ FlA.e x=0/\wO x.c x.day x.f x.h=(FlA.l x,(0:Int))/\List.length x.l<1099511627776) λn_8=>.all (λ(x:Bool)=>n_3=true->x=true) λn_9=>.R [.bool (bif n_3 then n_9 else false)] [.arr 2 3 (fxG fxAl),.box [.osl 0 3 0 2,.nils],.dead,.box v2,.dead,.dead,.box v3,.arr 1 5 v4,.arr 2 5 (zj 5 [.i n_4.date,.str n_4.src,.str n_4.dst,.str [(85:UInt8),(83:UInt8),(68:UInt8)],.str n_4.amt,.i n_6.date,.str n_6.src,.str n_6.dst,.str [(85:UInt8),(83:UInt8),(68:UInt8)],.str n_6.amt])]) (.ex (λ(x:FlA)=>n_3=true->eqL [.agg v1,.i 0,.i 2,.agg v5,AV.nils] [(Con.conA x.c),.i x.e,.i x.day,.agg [.sl x.f.length 3 (fxG x.f),.sl x.h.length 4 (chG x.h)],.sl x.l.length 5 (flG x.l)]/\FI.pre { c:=FlA.c x,day:=FlA.day x,fin:=(100000:Int),f:=FlA.f x,h:=FlA.h x } /\ FlA.e x=0/\wO x.c x.day x.f x.h=(FlA.l x,(0:Int))/\List.length x.l<1099511627776) λn_8=>.all (λ(x:Bool)=>n_3=true->x=true) λn_9=>.R [.bool (bif n_3 then n_9 else false)] [.arr 2 3 (fxG fxAl),.box [.osl 0 3 0 2,.nils],.dead,.box v2,.dead,.dead,.box v3,.arr 1 5 v4])) ?_;simp only [q70,Tree.holds,zf];refine⟨zod,⟨⟨⟨rfl,rfl⟩,rfl,rfl,rfl,trivial⟩,trivial⟩,⟨(),trivial⟩,λ_ _=> ?_⟩;have eF:eqA (.agg [.sl 2 3 (zi (fxG fxAl) 0),.nils]) (envA fxAl []):=⟨⟨rfl,rfl,λj o _ _=>by simp only [zi,Nat.zero_add]⟩,by simp [chS],trivial⟩;refine⟨⟨cAl1,0,2,fxAl,[],[zod]⟩,⟨⟨jD cAl1,⟨rfl,rfl⟩,⟨rfl,rfl⟩,eF,⟨rfl,rfl,?_⟩,trivial⟩,zq7,rfl,zn0,by show(1:Nat)<_; decide⟩,⟨true,rfl⟩,?_⟩
 ·intro j o hj ho;rcases(show j=0 by omega) with rfl;rcases(show o=0\/o=1\/o=2\/o=3\/o=4 by omega) with rfl | rfl | rfl | rfl | rfl<;>rfl
 rintro _ rfl;refine⟨zk5,λ_=>⟨⟨⟨rfl,rfl⟩,rfl,rfl,rfl,trivial⟩,trivial⟩,⟨(),λ_=>trivial⟩,λ_ _=> ?_⟩;refine⟨zoa,λ_=>⟨⟨⟨rfl,rfl⟩,rfl,rfl,rfl,trivial⟩,trivial⟩,⟨(),λ_=>trivial⟩,λ_ _=> ?_⟩;refine⟨λ_=> ?_,λg=>absurd g (by decide)⟩;refine⟨⟨cAl2,0,2,fxAl,[],[zk5,zoa]⟩,λ_=>⟨⟨jD cAl2,⟨rfl,rfl⟩,⟨rfl,rfl⟩,eF,⟨rfl,rfl,?_⟩,trivial⟩,zpc,rfl,zna,by show(2:Nat)<_; decide⟩,⟨true,λ_=>rfl⟩,λr hr=> ?_⟩
 ·intro j o hj ho;rcases(show j=0\/j=1 by omega) with rfl | rfl<;>rcases(show o=0\/o=1\/o=2\/o=3\/o=4 by omega) with rfl | rfl | rfl | rfl | rfl<;>rfl
 ·obtain rfl:=hr rfl;exact RetR.scal hq rfl (by simp [resV])
theorem jB(b:Bool):eqH [.box [.bool b]] [.box [.bool b]]:=by simp
theorem zqv{p:List Fx×List Ch}(h:fitP p):envP p:=by
 obtain⟨a,b,c,d⟩:=h;exact⟨by omega,by omega,λj hj=>⟨by have:=(c j hj).1; omega,by have:=(c j hj).2; omega⟩,λj hj=>⟨by have:=(d j hj).1; omega,by have:=(d j hj).2; omega⟩⟩
end Go.Proofs.Tryz
end
section
namespace Go.Nov
open Go.Sx
theorem KQ{d:Int}{a b n r:L8} : ∀ x∈payF d a b n r,x.date=d:=by
 unfold payF;split
 ·simp
 ·split<;>simp
end Go.Nov
end
section
namespace Go.Nov
open Go.Sx
namespace Tm
theorem zq1{a b n:L8}{x:Ex}{day:Int}(hs:x.size<=50)(hf:(at_ day (.mk 2 a b n x 0 [] [])).form=true):dayB day=true/\x.zL=1:=by
 unfold at_ at hf;rw [Con.form,Con.kI,Con.kI,Con.form,Con.kI] at hf;simp only [kK,aL,List.length_nil,zgx hs] at hf;have hb:jX (.mk 0 [] [] 0 [])=true:=by decide
 rw [hb] at hf;by_cases e1:dayB day=true<;>by_cases e6:x.zL=1<;>simp_all
theorem Xm:∀ {l:List Con},Con.kI l=true->∀ c∈l,c.form=true
 | [],_=>by simp
 | c::l,h=>by
  rw [Con.kI,bA] at h;intro x hx;rcases aM.1 hx with rfl | hx
  ·exact h.1
  ·exact Xm h.2 x hx
theorem xT:∀ (n:Nat) (l:List Con),l.length<=n->(whole l).form=true->∀ c∈l,c.form=true
 | 0,l,hn,_=>by
  have:l=[]:=aU.1 (by omega);subst this; simp
 | n+1,l,hn,h=>by
  rw [ZR] at h;by_cases h0:l.length=0
  ·have:l=[]:=aU.1 h0;subst this; simp
  ·rw [aO h0] at h;by_cases h1:l.length=1
   ·rw [aP h1] at h
    match l,h1,h with
    | [c],_,h=>intro x hx; rw [List.mem_singleton.1 hx]; exact h
   ·rw [aO h1] at h;unfold both at h;rw [Con.form,bA] at h;have h2:=Xm h.2;have ha:=xT n (l.take ((l.length+1)/2)) (by rw [aH]; omega) (h2 _ (by simp));have hb:=xT n (l.drop ((l.length+1)/2)) (by rw [bV]; omega) (h2 (whole (l.drop ((l.length+1)/2))) (by simp));intro x hx;rw [<- bU ((l.length+1)/2) l] at hx;rcases bZ.1 hx with hx | hx
    ·exact ha x hx
    ·exact hb x hx
def getO(x:Except Int (List Fl)):List Fl:=match x with
 | .ok l=>l
 | .error _=>[]
theorem ZH{f:List Fx}{h:List Ch}{fr fin:Int}(hlt:fr<fin):∀ (n:Nat) (l:List Con),l.length<=n->(∀ c∈l,∃ u,flM f h c fr fin = .ok u)->flM f h (whole l) fr fin = .ok (l.flatMap λc=>getO (flM f h c fr fin))
 | 0,l,hn,_=>by
  have:l=[]:=aU.1 (by omega);subst this;rw [yr,aO (by omega)]; rfl
 | n+1,l,hn,hc=>by
  rw [ZR];by_cases h0:l.length=0
  ·have:l=[]:=aU.1 h0;subst this;rw [aP (by rfl),yr,aO (by omega)]; rfl
  ·rw [aO h0];by_cases h1:l.length=1
   ·rw [aP h1]
    match l,h1,hc with
    | [c],_,hc=>
     obtain⟨u,hu⟩:=hc c (by simp);simp [hu,getO]
   ·rw [aO h1];have ha:=ZH hlt n (l.take ((l.length+1)/2)) (by rw [aH]; omega) λc hm=>hc c (List.mem_of_mem_take hm)
    have hb:=ZH hlt n (l.drop ((l.length+1)/2)) (by rw [bV]; omega) λc hm=>hc c (List.mem_of_mem_drop hm)
    rw [yr,aO (by omega),aO (by simp [both,Con.kind]),aP (by simp [both,Con.kind])];simp only [both,Con.sub,List.getD_cons_zero,List.getD_cons_succ,ha,hb];show Except.ok _=_;congr 1;rw [<- List.flatMap_append,bU]
theorem ZA{a b n:L8}{x:Ex}{day fr:Int}{v:L8}{f:List Fx}{h:List Ch}(hs:x.size<=50)(hf:(at_ day (.mk 2 a b n x 0 [] [])).form=true)(he:errE f h=0)(h1:fr<=99999)(hv:¬ day<fr->(x.ev f day).e=0/\(x.ev f day).v=v) :
  flM f h (at_ day (.mk 2 a b n x 0 [] [])) fr 100000 = .ok (if day<fr then [] else payF day a b n v):=by
 obtain⟨h2,h3⟩:=zq1 hs hf;have hd:0<=day/\day<=99999:=by simpa [dayB] using h2
 rw [zud,aO (by omega)];by_cases g:day<fr
 ·rw [aP g,aO (by omega)]
 ·obtain⟨v1,v2⟩:=hv g;rw [aO g,aP (by omega),zpy,aO (by omega),zhq hs h3 he h2,aO (by simp [v1]),v2];rfl
theorem ztv{l:List Fl}(h:je l):ordM l=l:=QI (YZ l) h λd=>zlq d l
theorem Qw{F:Per->List Fl}(hd:∀ p,∀ x∈F p,x.date=p.pay):∀ {l:List Per},l.Pairwise (λp q=>p.pay<q.pay)->je (l.flatMap F)
 | [],_=>List.Pairwise.nil
 | p::l,h=>by
  rw [List.pairwise_cons] at h;rw [List.flatMap_cons];unfold je;rw [List.pairwise_append];refine⟨?_,Qw hd h.2,λx hx y hy=> ?_⟩
  ·exact List.pairwise_iff_forall_sublist.2 λ{x y} hxy=>by
    have hx:=hd p x (hxy.subset (by simp));have hy:=hd p y (hxy.subset (by simp));omega
  ·obtain⟨q,hq,hy⟩:=List.mem_flatMap.1 hy;have:=hd p x hx;have:=hd q y hy;have:=h.1 q hq;omega
theorem zgb{l:List Per}(h:badT l l.length=false):l.Pairwise (λp q=>p.pay<q.pay):=by
 have step:∀ j,0<j->j<l.length->(l.getD (j - 1) Per.nil).pay<(l.getD j Per.nil).pay:=by
  intro j h0 hj;unfold badT at h;rw [List.any_eq_false] at h;have:=h j (List.mem_range.2 hj);simp only [Bool.or_eq_true,bA,aK,not_or,not_and] at this;have:=this.2 h0;omega
 have mono:∀ (k i:Nat),i+1+k<l.length->(l.getD i Per.nil).pay<(l.getD (i+1+k) Per.nil).pay:=by
  intro k
  induction k with
  | zero=>intro i hi; have:=step (i+1) (by omega) hi; simpa using this
  | succ k ih=>
   intro i hi;have:=ih i (by omega);have:=step (i+1+(k+1)) (by omega) hi;rw [show i+1+(k+1) - 1=i+1+k by omega] at this;omega
 rw [List.pairwise_iff_getElem];intro i j hi hj hij;have:=mono (j - i - 1) i (by omega);rw [show i+1+(j - i - 1)=j by omega] at this;simpa [List.getD,hi,hj] using this
theorem QP{e:Int}{a b:L8}(h:(prod e a b).2=0):e=0/\(mulR a b).2=0/\prod e a b=mulR a b:=by
 unfold prod at h ⊢;by_cases he:e=0
 ·rw [aO (by simp [he])] at h ⊢;exact⟨he,h,rfl⟩
 ·rw [aP he] at h;exact absurd h he
def yF(d:Deal)(p:Per):List Con:=[at_ p.pay (.mk 2 d.long d.short d.ccy (kon (mulR d.zb (mulR p.part d.zd).1).1) 0 [] []),at_ p.pay (pay d (fixg d.name p.fix) (mulR p.part d.zd).1)]
def kX(d:Deal)(fl:Bool)(p:Per):List Con:=[at_ p.pay (pay d (over d.zb (fixg d.name p.fix) fl) (mulR p.part d.zd).1)]
theorem zkf(d:Deal):∀ (l:List Per) (s:Leg),(l.foldl (legS d) s).e=0->s.e=0/\(∀ p∈l,(mulR p.part d.zd).2=0/\(mulR d.zb (mulR p.part d.zd).1).2=0)/\(l.foldl (legS d) s).acc=s.acc++l.flatMap (yF d)
 | [],s,h=>⟨h,by simp,by simp⟩
 | p::l,s,h=>by
  obtain⟨h1,h2,h3⟩:=zkf d l (legS d s p) h;have h1:(prod (prod s.e p.part d.zd).2 d.zb (prod s.e p.part d.zd).1).2=0:=h1;obtain⟨a1,a2,a3⟩:=QP h1;obtain⟨b1,b2,b3⟩:=QP a1;rw [b3] at a2;refine⟨b1,λq hq=> ?_,?_⟩
  ·rcases aM.1 hq with rfl | hq
   ·exact⟨b2,a2⟩
   ·exact h2 q hq
  ·rw [List.foldl_cons,h3,List.flatMap_cons];simp only [legS,yF,List.append_assoc];rw [a3,b3]
theorem zsi(d:Deal)(fl:Bool):∀ (l:List Per) (s:Leg),(l.foldl (legC d fl) s).e=0->s.e=0/\(∀ p∈l,(mulR p.part d.zd).2=0)/\(l.foldl (legC d fl) s).acc=s.acc++l.flatMap (kX d fl)
 | [],s,h=>⟨h,by simp,by simp⟩
 | p::l,s,h=>by
  obtain⟨h1,h2,h3⟩:=zsi d fl l (legC d fl s p) h;have h1:(prod s.e p.part d.zd).2=0:=h1;obtain⟨b1,b2,b3⟩:=QP h1;refine⟨b1,λq hq=> ?_,?_⟩
  ·rcases aM.1 hq with rfl | hq
   ·exact b2
   ·exact h2 q hq
  ·rw [List.foldl_cons,h3,List.flatMap_cons];simp only [legC,kX,b3,List.append_assoc]
theorem zkm{c:Con}(h:c.errC=0):c.form=true:=by
 unfold Con.errC at h;split at h
 ·cases h
 ·split at h
  ·assumption
  ·cases h
theorem Ji:∀ {l:List (L8)} {e:Int},first e l=0->e=0/\∀ r∈l,errR r=0
 | [],e,h=>⟨h,by simp⟩
 | r::l,e,h=>by
  have h:first (if e=0 then errR r else e) l=0:=h;obtain⟨h1,h2⟩:=Ji h;by_cases he:e=0
  ·rw [aP he] at h1;exact⟨he,λq hq=>by rcases aM.1 hq with rfl | hq; exact h1; exact h2 q hq⟩
  ·rw [aO he] at h1; exact absurd h1 he
theorem uE{g:Leg->Per->Leg}{d:Deal}{l:List Per}(h:ji g d l=0):(w9 g d l).e=0/\(whole (w9 g d l).acc).form=true/\q7 g d l=whole (w9 g d l).acc:=by
 have h0:=h;unfold ji at h;split at h
 ·cases h
 ·unfold resE at h;split at h
  ·rename_i h1;exact⟨h1,zkm h,by unfold q7; rw [aP h0]⟩
  ·rename_i h1; exact absurd h h1
theorem Qz{d:Deal}{l:List Per}(h:qL (perE d l) l l.length=0):errR d.zb=0/\errR d.zd=0/\(∀ p∈l,errR p.part=0)/\l.Pairwise (λp q=>p.pay<q.pay):=by
 unfold qL at h;split at h
 ·rename_i h1;unfold perE at h1;obtain⟨h2,h3⟩:=Ji h1;obtain⟨h4,h5⟩:=zpi.1 h2;refine⟨h4,h5,λp hp=>h3 _ (List.mem_map_of_mem hp),zgb ?_⟩;cases hb:badT l l.length with
  | false=>rfl
  | true=>rw [hb] at h; cases h
 ·rename_i h1; exact absurd h h1
theorem KC{α β γ : Type}(l:List α)(F:α->List β)(G:β->List γ):(l.flatMap F).flatMap G=l.flatMap λa=>(F a).flatMap G:=by
 induction l with
 | nil=>rfl
 | cons a l ih=>simp [List.flatMap_cons,List.flatMap_append,ih]
theorem K0{α β:Type}{l:List α}{F G:α->List β}(h:∀ a∈l,F a=G a):l.flatMap F=l.flatMap G:=by
 induction l with
 | nil=>rfl
 | cons a l ih=>rw [List.flatMap_cons,List.flatMap_cons,h a (by simp),ih λb hb=>h b (by simp [hb])]
def swF(d:Deal)(f:List Fx)(fr:Int)(p:Per):List Fl:=if p.pay<fr then [] else payF p.pay d.long d.short d.ccy (mulR d.zb (mulR p.part d.zd).1).1++payF p.pay d.short d.long d.ccy (mulR (zo f d.name p.fix).1 (mulR p.part d.zd).1).1
def cpF(d:Deal)(fl:Bool)(f:List Fx)(fr:Int)(p:Per):List Fl:=if p.pay<fr then [] else payF p.pay d.short d.long d.ccy (mulR (posR (xW fl (zo f d.name p.fix).1 d.zb).1) (mulR p.part d.zd).1).1
theorem zo0(r:L8):(kon r).size<=50:=by unfold kon; simp [Ex.size,Ex.zK]
theorem zgu(n:L8)(z:Int)(u:L8):(opx 6 [fixg n z,kon u]).size<=50:=by unfold opx fixg kon; simp [Ex.size,Ex.zK]
theorem zi3(n k u:L8)(z:Int)(fl:Bool):(opx 6 [over k (fixg n z) fl,kon u]).size<=50:=by
 unfold over opx fixg kon; cases fl<;>simp [Ex.size,Ex.zK]
theorem zoc{n:L8}{z day:Int}{f:List Fx}(hk:(zo f n z).2=true):((fixg n z).ev f day).v=(zo f n z).1/\((fixg n z).ev f day).e=0:=by
 obtain⟨s1,s2⟩:=zq6 n z f day;unfold fixR at s1 s2;rw [hk,aP rfl] at s1 s2;exact⟨s1,s2⟩
theorem zrb(d:Deal)(f:List Fx)(fr:Int)(p:Per):∀ x∈swF d f fr p,x.date=p.pay:=by
 unfold swF;split
 ·simp
 ·intro x hx;rcases bZ.1 hx with hx | hx<;>exact KQ x hx
theorem zqk(d:Deal)(fl:Bool)(f:List Fx)(fr:Int)(p:Per):∀ x∈cpF d fl f fr p,x.date=p.pay:=by
 unfold cpF;split
 ·simp
 ·intro x hx;exact KQ x hx
theorem zop{c:Con}{fr:Int}{f:List Fx}{h:List Ch}{u:List Fl}(hc:c.errC=0)(he:errE f h=0)(h0:0<=fr)(h1:fr<=99999)(hu:flM f h c fr 100000 = .ok u)(hs:je u):wO c fr f h=(u,0):=by
 unfold wO befM;rw [aO (by simp [hc]),aO (by simp [he]),aO (by omega),hu];show(ordM u,(0:Int))=_;rw [ztv hs]
theorem UA{g:Leg->Per->Leg}{d:Deal}{l:List Per}(h:ji g d l=0):(q7 g d l).errC=0:=by
 rw [(uE h).2.2];unfold ji at h;split at h
 ·cases h
 ·unfold resE at h;split at h
  ·exact h
  ·rename_i h1; exact absurd h h1
theorem zg5{d:Deal}{l:List Per}{fr:Int}{f:List Fx}{h:List Ch}(hx:ji (legS d) d l=0)(he:errE f h=0)(h0:0<=fr)(h1:fr<=99999)
  (hk:∀ p∈l,¬ p.pay<fr->(zo f d.name p.fix).2=true/\(mulR (zo f d.name p.fix).1 (mulR p.part d.zd).1).2=0):wO (q7 (legS d) d l) fr f h=(l.flatMap (swF d f fr),0):=by
 obtain⟨z1,z2,z3⟩:=uE hx;have hz:=z1;unfold w9 zR at hz;rw [bD] at hz;obtain⟨y1,y2,y3⟩:=zkf d l _ hz;obtain⟨w1,w2,w3,w4⟩:=Qz y1
 have hacc:(w9 (legS d) d l).acc=l.flatMap (yF d):=by
  unfold w9 zR;rw [bD,y3]; rfl
 have hform:=xT _ _ (aJ _) z2;rw [hacc] at hform;have hp:∀ p∈l,∀ c∈yF d p,c.form=true:=λp hp c hc=>hform c (List.mem_flatMap.2 ⟨p,hp,hc⟩)
 have v1:∀ p∈l,flM f h (at_ p.pay (.mk 2 d.long d.short d.ccy (kon (mulR d.zb (mulR p.part d.zd).1).1) 0 [] [])) fr 100000 = .ok (if p.pay<fr then [] else payF p.pay d.long d.short d.ccy (mulR d.zb (mulR p.part d.zd).1).1):=λp hm=>
  ZA (zo0 _) (hp p hm _ (by simp [yF,pay])) he h1 λ_=>⟨(QA _ _ _).2,(QA _ _ _).1⟩
 have v2:∀ p∈l,flM f h (at_ p.pay (pay d (fixg d.name p.fix) (mulR p.part d.zd).1)) fr 100000 = .ok (if p.pay<fr then [] else payF p.pay d.short d.long d.ccy (mulR (zo f d.name p.fix).1 (mulR p.part d.zd).1).1):=λp hm=>
  ZA (zgu _ _ _) (hp p hm _ (by simp [yF,pay])) he h1 λg=>by
   obtain⟨k1,k2⟩:=hk p hm g;obtain⟨s1,s2⟩:=zoc (day:=p.pay) k1;obtain⟨u1,u2⟩:=QA (mulR p.part d.zd).1 f p.pay;obtain⟨b1,b2⟩:=WA (k:=6) (.inr (.inl rfl)) s2 u2;rw [s1,u1] at b1 b2;exact⟨b2.trans k2,b1⟩
 have hu:flM f h (q7 (legS d) d l) fr 100000 = .ok (l.flatMap (swF d f fr)):=by
  rw [z3,hacc,ZH (by omega) _ _ (aJ _)]
  ·congr 1;rw [KC];refine K0 λp hm=> ?_
   simp only [yF,List.flatMap_cons,List.flatMap_nil,v1 p hm,v2 p hm,getO,List.append_nil];unfold swF;by_cases g:p.pay<fr<;>simp [g]
  ·intro c hc;obtain⟨p,hm,hc⟩:=List.mem_flatMap.1 hc;simp only [yF,aM,List.not_mem_nil,or_false] at hc;rcases hc with rfl | rfl
   ·exact⟨_,v1 p hm⟩
   ·exact⟨_,v2 p hm⟩
 exact zop (UA hx) he h0 h1 hu (Qw (zrb d f fr) w4)
theorem zob{d:Deal}{fl:Bool}{l:List Per}{fr:Int}{f:List Fx}{h:List Ch}(hx:ji (legC d fl) d l=0)(he:errE f h=0)(h0:0<=fr)(h1:fr<=99999)
  (hk:∀ p∈l,¬ p.pay<fr->(zo f d.name p.fix).2=true/\errR (zo f d.name p.fix).1=0/\(xW fl (zo f d.name p.fix).1 d.zb).2=0/\(mulR (posR (xW fl (zo f d.name p.fix).1 d.zb).1) (mulR p.part d.zd).1).2=0):wO (q7 (legC d fl) d l) fr f h=(l.flatMap (cpF d fl f fr),0):=by
 obtain⟨z1,z2,z3⟩:=uE hx;have hz:=z1;unfold w9 zR at hz;rw [bD] at hz;obtain⟨y1,y2,y3⟩:=zsi d fl l _ hz;obtain⟨w1,w2,w3,w4⟩:=Qz y1
 have hacc:(w9 (legC d fl) d l).acc=l.flatMap (kX d fl):=by
  unfold w9 zR;rw [bD,y3]; rfl
 have hform:=xT _ _ (aJ _) z2;rw [hacc] at hform;have hp:∀ p∈l,∀ c∈kX d fl p,c.form=true:=λp hp c hc=>hform c (List.mem_flatMap.2 ⟨p,hp,hc⟩)
 have v2:∀ p∈l,flM f h (at_ p.pay (pay d (over d.zb (fixg d.name p.fix) fl) (mulR p.part d.zd).1)) fr 100000 = .ok (cpF d fl f fr p):=λp hm=>
  ZA (zi3 _ _ _ _ _) (hp p hm _ (by simp [kX,pay])) he h1 λg=>by
   obtain⟨k1,k0,k3,k2⟩:=hk p hm g;obtain⟨s1,s2⟩:=zoc (day:=p.pay) k1;obtain⟨u1,u2⟩:=QA (mulR p.part d.zd).1 f p.pay;obtain⟨o1,o2,o3⟩:=zs2 (put:=fl) k0 w1 s1 s2 k3;obtain⟨b1,b2⟩:=WA (k:=6) (.inr (.inl rfl)) o1 u2;rw [o2,u1] at b1 b2;exact⟨b2.trans k2,b1⟩
 have hu:flM f h (q7 (legC d fl) d l) fr 100000 = .ok (l.flatMap (cpF d fl f fr)):=by
  rw [z3,hacc,ZH (by omega) _ _ (aJ _)]
  ·congr 1;rw [KC];refine K0 λp hm=> ?_
   simp only [kX,List.flatMap_cons,List.flatMap_nil,v2 p hm,getO,List.append_nil]
  ·intro c hc;obtain⟨p,hm,hc⟩:=List.mem_flatMap.1 hc;simp only [kX,aM,List.not_mem_nil,or_false] at hc;subst hc;exact⟨_,v2 p hm⟩
 exact zop (UA hx) he h0 h1 hu (Qw (zqk d fl f fr) w4)
end Tm
end Go.Nov
end
