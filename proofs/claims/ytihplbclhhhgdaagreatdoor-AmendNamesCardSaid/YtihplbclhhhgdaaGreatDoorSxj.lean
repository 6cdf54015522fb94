/- Part 10 of the proof. -/
import Derived.Test.YtihplbclhhhgdaaGreatDoorSxc
import Derived.Test.YtihplbclhhhgdaaGreatDoorSxb
import Derived.Test.YtihplbclhhhgdaaGreatDoorSxi
set_option linter.unusedVariables false
set_option linter.unusedSimpArgs false
set_option linter.unusedSectionVars false
section
set_option maxRecDepth 100000
open Go Go.Sx Go.Proofs Go.Nov
namespace Go.Proofs.Tryz
attribute [local simp] eqKV eqA eqA0 eqH eqB eqL eqL0
noncomputable def K108:=Go.Sx.aA f108
noncomputable def K109:=Go.Sx.aA f109
noncomputable def K73:=Go.Sx.aA f73
noncomputable def K75:=Go.Sx.aA f75
def yV(f:Fx):Prop:=f.name.length<2^40/\f.value.length<2^40
def uw(c:Ch):Prop:=c.qn.length<2^40/\c.name.length<2^40
def zpp:Ctr:=ctrP true (λf:Fx=>[f.av]) yV (λf r=>r = !okF f) (λ_ (r:Bool)=>(.bool r,[]))
def zqk:Ctr:=ctrP true (λc:Ch=>[c.av]) uw (λc r=>r = !okC c) (λ_ (r:Bool)=>(.bool r,[]))
noncomputable def GE1:=tb K9 (tb ZG (tb ZW tz))
theorem zns:zf prog 68 zpp:=by
 refine zh' f68 λf hs O w0 Q hq=> ?_
 obtain⟨a,d,v⟩:=f;obtain⟨h1,h2⟩:=hs;replace hq:=hq _ rfl;simp only [okF] at hq h1 h2;refine zc.n GE1.h [] (.ex (q15 [.str a]) λn=>.all (λ(r:Bool)=>r=qI n) λn=>.ex (λ(x:Int)=>(!n)=false->eqL [.i d] [.i x]/\True) λn_1=>.all (λ(x:Bool)=>(!n)=false->x=dayB n_1) λn_2=>.ex (λ(x:L8)=>(bif !n then true else !n_2)=false->eqL [.str v] [.str x]/\x.length<4611686018427387904) λn_3=>.all (λ(x:Int)=>(bif !n then true else !n_2)=false->x=errR n_3) λn_4=>.R [.bool (bif bif !n then true else !n_2 then true else !decide (n_4=0))] [.box [.str a,.i d,.str v]]) ?_;simp only [q15,Tree.holds,zd];refine⟨a,⟨by simp,by omega⟩,⟨_,rfl⟩,?_⟩;rintro _ rfl;refine⟨d,λ_=>⟨by simp,trivial⟩,⟨_,λ_=>rfl⟩,?_⟩;intro x hx;refine⟨v,λ_=>⟨by simp,by omega⟩,⟨_,λ_=>rfl⟩,?_⟩;intro y hy;refine RetR.scal hq rfl ?_;simp only [resV];cases hn:qI a with
 | false=>rfl
 | true=>
  rw [hx (by rw [hn]; rfl)] at hy ⊢;cases hd:dayB d with
  | false=>rfl
  | true=>rw [hy (by rw [hn,hd]; rfl)]; rfl
theorem zoz:zf prog 70 zqk:=by
 refine zh' f70 λf hs O w0 Q hq=> ?_
 obtain⟨a,v,d,f⟩:=f;obtain⟨h1,h2⟩:=hs;replace hq:=hq _ rfl;simp only [okC] at hq h1 h2;refine zc.n GE1.h [] (.ex (q15 [.str a]) λn=>.all (λ(r:Bool)=>r=qI n) λn=>.ex (λ(x:L8)=>(!n)=false->eqL [.str v] [.str x]/\x.length<4611686018427387904) λn_1=>.all (λ(x:Bool)=>(!n)=false->x=qI n_1) λn_2=>.ex (λ(x:Int)=>(bif !n then true else !n_2)=false->eqL [.i d] [.i x]/\True) λn_3=>.all (λ(x:Bool)=>(bif !n then true else !n_2)=false->x=dayB n_3) λn_4=>.R [.bool (bif bif !n then true else !n_2 then true else !n_4)] [.box [.str a,.str v,.i d,.bool f]]) ?_;simp only [q15,Tree.holds,zd];refine⟨a,⟨by simp,by omega⟩,⟨_,rfl⟩,?_⟩;rintro _ rfl;refine⟨v,λ_=>⟨by simp,by omega⟩,⟨_,λ_=>rfl⟩,?_⟩;intro x hx;refine⟨d,λ_=>⟨by simp,trivial⟩,⟨_,λ_=>rfl⟩,?_⟩;intro y hy;refine RetR.scal hq rfl ?_;simp only [resV];cases hn:qI a with
 | false=>rfl
 | true=>
  rw [hx (by rw [hn]; rfl)] at hy ⊢;cases hd:qI v with
  | false=>rfl
  | true=>rw [hy (by rw [hn,hd]; rfl)]; rfl
def zps:Ctr:=ctrP true (λl:List Fx=>[fxS l,.fn 68 [] []]) (λl=>l.length<2^40/\∀ j,j<l.length->yV (l.getD j Fx.nil)) (λl r=>r=idxB (λx=> !okF x) l) (λ_ (r:Int)=>(.i r,[]))
def SIxF(l:List Fx)(i:Nat):KV:=[(0,fxS l),(1,.fn 68 [] []),(7,.i (l.length:Int)),(8,.i (i:Int))]
noncomputable def GE2F:=tb zns tz
theorem zm8:zf prog 108 zps:=by
 refine zh' f108 λl hl O w0 Q hq=> ?_
 obtain⟨hl,hsm⟩:=hl;replace hq:=hq _ rfl;refine zc.n GE2F.h [0,1,7,8] (.leaf (.loop (lps K108 0).1 (lps K108 0).2 [(0,.sl l.length 3 (fxG l)),(1,.fn 68 [] []),(7,.i l.length),(8,.i 0)] [])) ?_;simp only [Tree.holds,zd];refine zc.loop (ι:={i:Nat // i<=l.length/\∀ j,j<i->(!okF (l.getD j Fx.nil))=false}) (λi=>SIxF l i.1) (λ_=>[]) (λi=>l.length - i.1) ⟨0,aI _,λj hj=>by omega⟩ 0 ?_ ?_ (by kernel_rfl)
 ·exact⟨by simp [SIxF,fxS,za],by simp,by kernel_rfl,aI _⟩
 ·rintro⟨i,hil,hib⟩;refine zc.n GE2F.h [0,1,7,8] (let v1:=l.getD (i:Int).toNat Fx.nil;.D ((i:Int)<l.length) (.side ((0:Int)<=i/\(i:Int)<l.length) (.ex (λ(x:Fx)=>eqL [.agg [.str v1.name,.i v1.date,.str v1.value]] [.agg [.str x.name,.i x.date,.str x.value]]/\yV x) λn=>.all (λ(r:Bool)=>r = !okF n) λn=>.ite n (.R [.i i] []) (.S (i+1) (.leaf (.back 0 [(0,.sl l.length 3 (fxG l)),(1,.fn 68 [] []),(7,.i l.length),(8,.i (i+1))] []))))) (.R [.i (-1:Int)] [])) ?_;simp only [Tree.holds,zd,inR,lo,hi,aD];refine⟨λhlt=> ?_,λhge=> ?_⟩
  ·have hlt:i<l.length:=by have:=aB hlt; omega
   refine⟨by omega,λ_=>⟨l.getD i Fx.nil,⟨by simp,hsm i hlt⟩,⟨_,rfl⟩,?_⟩⟩;rintro _ rfl;refine⟨λh=> ?_,λh=>⟨by omega,λ_=> ?_⟩⟩
   ·rw [QQ hlt h hib] at hq;exact RetR.scal hq rfl (by simp [resV])
   ·rw [aP trivial];refine⟨⟨i+1,hlt,λj hj=> ?_⟩,by show l.length - (i+1)<l.length - i; omega,by simp [SIxF,fxS,za],by simp,by kernel_rfl,aI _⟩;rcases aR j i with h1 | h1
    ·exact hib j h1
    ·have:j=i:=by omega
     rw [this]; exact h
  ·have hge:i=l.length:=by have:=aC hge; omega
   subst hge;rw [y8 hib] at hq;exact RetR.scal hq rfl (by simp [resV])
def zq6:Ctr:=ctrP true (λl:List Fx=>[fxS l,.fn 68 [] []]) (λl=>l.length<2^40/\∀ j,j<l.length->yV (l.getD j Fx.nil)) (λl r=>r=l.any λx=> !okF x) (λ_ (r:Bool)=>(.bool r,[]))
noncomputable def GE3F:=tb zm8 tz
theorem zoc:zf prog 71 zq6:=by
 refine zh' f71 λl hl O w0 Q hq=> ?_
 replace hq:=hq _ rfl;refine zc.n GE3F.h [] (.ex (λ(x:List Fx)=>eqL [.sl l.length 3 (fxG l),.fn 68 [] []] [.sl x.length 3 (fxG x),.fn 68 [] []]/\x.length<1099511627776/\∀ (j:Nat),j<x.length->yV (x.getD j Fx.nil)) λn=>.all (λ(r:Int)=>r=idxB (λ(x:Fx)=> !okF x) n) λn=>.R [.bool (decide ((0:Int)<=n))] []) ?_;simp only [Tree.holds,zd];refine⟨l,⟨by simp [za],hl⟩,⟨_,rfl⟩,?_⟩;rintro _ rfl;rw [<- Y0] at hq;exact RetR.scal hq rfl (by simp [resV])
def zqb:Ctr:=ctrP true (λl:List Ch=>[chS l,.fn 70 [] []]) (λl=>l.length<2^40/\∀ j,j<l.length->uw (l.getD j Ch.nil)) (λl r=>r=idxB (λx=> !okC x) l) (λ_ (r:Int)=>(.i r,[]))
def SIxC(l:List Ch)(i:Nat):KV:=[(0,chS l),(1,.fn 70 [] []),(7,.i (l.length:Int)),(8,.i (i:Int))]
noncomputable def GE2C:=tb zoz tz
theorem znt:zf prog 109 zqb:=by
 refine zh' f109 λl hl O w0 Q hq=> ?_
 obtain⟨hl,hsm⟩:=hl;replace hq:=hq _ rfl;refine zc.n GE2C.h [0,1,7,8] (.leaf (.loop (lps K109 0).1 (lps K109 0).2 [(0,.sl l.length 4 (chG l)),(1,.fn 70 [] []),(7,.i l.length),(8,.i 0)] [])) ?_;simp only [Tree.holds,zd];refine zc.loop (ι:={i:Nat // i<=l.length/\∀ j,j<i->(!okC (l.getD j Ch.nil))=false}) (λi=>SIxC l i.1) (λ_=>[]) (λi=>l.length - i.1) ⟨0,aI _,λj hj=>by omega⟩ 0 ?_ ?_ (by kernel_rfl)
 ·exact⟨by simp [SIxC,chS,za],by simp,by kernel_rfl,aI _⟩
 ·rintro⟨i,hil,hib⟩;refine zc.n GE2C.h [0,1,7,8] (let v1:=l.getD (i:Int).toNat Ch.nil;.D ((i:Int)<l.length) (.side ((0:Int)<=i/\(i:Int)<l.length) (.ex (λ(x:Ch)=>eqL [.agg [.str v1.qn,.str v1.name,.i v1.date,.bool v1.first]] [.agg [.str x.qn,.str x.name,.i x.date,.bool x.first]]/\uw x) λn=>.all (λ(r:Bool)=>r = !okC n) λn=>.ite n (.R [.i i] []) (.S (i+1) (.leaf (.back 0 [(0,.sl l.length 4 (chG l)),(1,.fn 70 [] []),(7,.i l.length),(8,.i (i+1))] []))))) (.R [.i (-1:Int)] [])) ?_;simp only [Tree.holds,zd,inR,lo,hi,aD];refine⟨λhlt=> ?_,λhge=> ?_⟩
  ·have hlt:i<l.length:=by have:=aB hlt; omega
   refine⟨by omega,λ_=>⟨l.getD i Ch.nil,⟨by simp,hsm i hlt⟩,⟨_,rfl⟩,?_⟩⟩;rintro _ rfl;refine⟨λh=> ?_,λh=>⟨by omega,λ_=> ?_⟩⟩
   ·rw [QQ hlt h hib] at hq;exact RetR.scal hq rfl (by simp [resV])
   ·rw [aP trivial];refine⟨⟨i+1,hlt,λj hj=> ?_⟩,by show l.length - (i+1)<l.length - i; omega,by simp [SIxC,chS,za],by simp,by kernel_rfl,aI _⟩;rcases aR j i with h1 | h1
    ·exact hib j h1
    ·have:j=i:=by omega
     rw [this]; exact h
  ·have hge:i=l.length:=by have:=aC hge; omega
   subst hge;rw [y8 hib] at hq;exact RetR.scal hq rfl (by simp [resV])
def zqd:Ctr:=ctrP true (λl:List Ch=>[chS l,.fn 70 [] []]) (λl=>l.length<2^40/\∀ j,j<l.length->uw (l.getD j Ch.nil)) (λl r=>r=l.any λx=> !okC x) (λ_ (r:Bool)=>(.bool r,[]))
noncomputable def GE3C:=tb znt tz
theorem zp4:zf prog 72 zqd:=by
 refine zh' f72 λl hl O w0 Q hq=> ?_
 replace hq:=hq _ rfl;refine zc.n GE3C.h [] (.ex (λ(x:List Ch)=>eqL [.sl l.length 4 (chG l),.fn 70 [] []] [.sl x.length 4 (chG x),.fn 70 [] []]/\x.length<1099511627776/\∀ (j:Nat),j<x.length->uw (x.getD j Ch.nil)) λn=>.all (λ(r:Int)=>r=idxB (λ(x:Ch)=> !okC x) n) λn=>.R [.bool (decide ((0:Int)<=n))] []) ?_;simp only [Tree.holds,zd];refine⟨l,⟨by simp [za],hl⟩,⟨_,rfl⟩,?_⟩;rintro _ rfl;rw [<- Y0] at hq;exact RetR.scal hq rfl (by simp [resV])
def zqe:Ctr:=ctrP true (λl:List Fx=>[fxS l,.fn 74 [] []]) (λl=>l.length<2^40) (λl r=>r=ordB cmpF Fx.nil l) (λ_ (r:Bool)=>(.bool r,[]))
def SOdF(l:List Fx)(i:Nat):KV:=[(0,fxS l),(1,.fn 74 [] []),(5,.i (i:Int))]
noncomputable def GE4F:=tb JJ tz
abbrev q47(A:List AV)(x:Fx×Fx):Prop:=eqL A [.agg [.str x.1.name,.i x.1.date,.str x.1.value],.agg [.str x.2.name,.i x.2.date,.str x.2.value]]/\True
theorem zmk:zf prog 73 zqe:=by
 refine zh' f73 λl hl O w0 Q hq=> ?_
 replace hq:=hq _ rfl;refine zc.n GE4F.h [0,1,5] (.leaf (.loop (lps K73 0).1 (lps K73 0).2 [(0,.sl l.length 3 (fxG l)),(1,.fn 74 [] []),(5,.i 1)] [])) ?_;simp only [Tree.holds,zd];refine zc.loop (ι:={i:Nat // 0<i/\(i<=l.length\/i=1)/\∀ j,j+1<i->cmpF (l.getD j Fx.nil) (l.getD (j+1) Fx.nil)<0}) (λi=>SOdF l i.1) (λ_=>[]) (λi=>l.length - i.1) ⟨1,Nat.one_pos,.inr rfl,λj hj=>by omega⟩ 0 ?_ ?_ (by kernel_rfl)
 ·exact⟨by simp [SOdF,fxS,za],by simp,by kernel_rfl,aI _⟩
 ·rintro⟨i,hi0,hil,hib⟩;refine zc.n GE4F.h [0,1,5] (let v2:=l.getD (i:Int).toNat Fx.nil;let v1:=l.getD (Int.toNat (i-1)) Fx.nil;.D ((i:Int)<l.length) (.S (i-1) (.side ((0:Int)<=i - (1:Int)/\(i:Int) - (1:Int)<l.length) (.side ((0:Int)<=i/\(i:Int)<l.length) (.ex (q47 [.agg [.str v1.name,.i v1.date,.str v1.value],.agg [.str v2.name,.i v2.date,.str v2.value]]) λn=>.all (λ(r:Int)=>r=cmpF n.1 n.2) λn=>.D ((0:Int)<=n) (.R [.bool false] []) (.S (i+1) (.leaf (.back 0 [(0,.sl l.length 3 (fxG l)),(1,.fn 74 [] []),(5,.i (i+1))] []))))))) (.R [.bool true] [])) ?_;simp only [q47,Tree.holds,zd,inR,lo,hi,aD];have e:((i:Int) - 1).toNat=i - 1:=by omega
  have e2:i - 1+1=i:=by omega
  refine⟨λhlt=> ?_,λhge=> ?_⟩
  ·have hlt:i<l.length:=by have:=aB hlt; omega
   simp only [e];refine⟨by omega,λ_=>⟨by omega,λ_=>⟨by omega,λ_=>⟨(l.getD (i - 1) Fx.nil,l.getD i Fx.nil),⟨by simp,trivial⟩,⟨_,rfl⟩,?_⟩⟩⟩⟩;rintro _ rfl;refine⟨λh=> ?_,λh=>⟨by omega,λ_=> ?_⟩⟩
   ·have h:=aB h;rw [QT (z:=Fx.nil) (j:=i - 1) (by omega) (by rw [e2]; simp only at h; omega)] at hq;exact RetR.scal hq rfl (by simp [resV])
   ·have h:=aC h;rw [aP trivial];refine⟨⟨i+1,by omega,.inl hlt,λj hj=> ?_⟩,by show l.length - (i+1)<l.length - i; omega,by simp [SOdF,fxS,za],by simp,by kernel_rfl,aI _⟩;rcases aR (j+1) i with h1 | h1
    ·exact hib j h1
    ·have:j=i - 1:=by omega
     rw [this,e2]; simp only at h; omega
  ·have hge:l.length<=i:=by have:=aC hge; omega
   rw [Jq (z:=Fx.nil) λj hj=>hib j (by omega)] at hq;exact RetR.scal hq rfl (by simp [resV])
def zpv:Ctr:=ctrP true (λl:List Ch=>[chS l,.fn 76 [] []]) (λl=>l.length<2^40) (λl r=>r=ordB cmpC Ch.nil l) (λ_ (r:Bool)=>(.bool r,[]))
def SOdC(l:List Ch)(i:Nat):KV:=[(0,chS l),(1,.fn 76 [] []),(5,.i (i:Int))]
noncomputable def GE4C:=tb WC tz
abbrev q48(A:List AV)(x:Ch×Ch):Prop:=eqL A [.agg [.str x.1.qn,.str x.1.name,.i x.1.date,.bool x.1.first],.agg [.str x.2.qn,.str x.2.name,.i x.2.date,.bool x.2.first]]/\True
theorem zmz:zf prog 75 zpv:=by
 refine zh' f75 λl hl O w0 Q hq=> ?_
 replace hq:=hq _ rfl;refine zc.n GE4C.h [0,1,5] (.leaf (.loop (lps K75 0).1 (lps K75 0).2 [(0,.sl l.length 4 (chG l)),(1,.fn 76 [] []),(5,.i 1)] [])) ?_;simp only [Tree.holds,zd];refine zc.loop (ι:={i:Nat // 0<i/\(i<=l.length\/i=1)/\∀ j,j+1<i->cmpC (l.getD j Ch.nil) (l.getD (j+1) Ch.nil)<0}) (λi=>SOdC l i.1) (λ_=>[]) (λi=>l.length - i.1) ⟨1,Nat.one_pos,.inr rfl,λj hj=>by omega⟩ 0 ?_ ?_ (by kernel_rfl)
 ·exact⟨by simp [SOdC,chS,za],by simp,by kernel_rfl,aI _⟩
 ·rintro⟨i,hi0,hil,hib⟩;refine zc.n GE4C.h [0,1,5] (let v2:=l.getD (i:Int).toNat Ch.nil;let v1:=l.getD (Int.toNat (i-1)) Ch.nil;.D ((i:Int)<l.length) (.S (i-1) (.side ((0:Int)<=i - (1:Int)/\(i:Int) - (1:Int)<l.length) (.side ((0:Int)<=i/\(i:Int)<l.length) (.ex (q48 [.agg [.str v1.qn,.str v1.name,.i v1.date,.bool v1.first],.agg [.str v2.qn,.str v2.name,.i v2.date,.bool v2.first]]) λn=>.all (λ(r:Int)=>r=cmpC n.1 n.2) λn=>.D ((0:Int)<=n) (.R [.bool false] []) (.S (i+1) (.leaf (.back 0 [(0,.sl l.length 4 (chG l)),(1,.fn 76 [] []),(5,.i (i+1))] []))))))) (.R [.bool true] [])) ?_;simp only [q48,Tree.holds,zd,inR,lo,hi,aD];have e:((i:Int) - 1).toNat=i - 1:=by omega
  have e2:i - 1+1=i:=by omega
  refine⟨λhlt=> ?_,λhge=> ?_⟩
  ·have hlt:i<l.length:=by have:=aB hlt; omega
   simp only [e];refine⟨by omega,λ_=>⟨by omega,λ_=>⟨by omega,λ_=>⟨(l.getD (i - 1) Ch.nil,l.getD i Ch.nil),⟨by simp,trivial⟩,⟨_,rfl⟩,?_⟩⟩⟩⟩;rintro _ rfl;refine⟨λh=> ?_,λh=>⟨by omega,λ_=> ?_⟩⟩
   ·have h:=aB h;rw [QT (z:=Ch.nil) (j:=i - 1) (by omega) (by rw [e2]; simp only at h; omega)] at hq;exact RetR.scal hq rfl (by simp [resV])
   ·have h:=aC h;rw [aP trivial];refine⟨⟨i+1,by omega,.inl hlt,λj hj=> ?_⟩,by show l.length - (i+1)<l.length - i; omega,by simp [SOdC,chS,za],by simp,by kernel_rfl,aI _⟩;rcases aR (j+1) i with h1 | h1
    ·exact hib j h1
    ·have:j=i - 1:=by omega
     rw [this,e2]; simp only at h; omega
  ·have hge:l.length<=i:=by have:=aC hge; omega
   rw [Jq (z:=Ch.nil) λj hj=>hib j (by omega)] at hq;exact RetR.scal hq rfl (by simp [resV])
def envP(p:List Fx×List Ch):Prop:=p.1.length<2^40/\p.2.length<2^40/\(∀ j,j<p.1.length->yV (p.1.getD j Fx.nil))/\∀ j,j<p.2.length->uw (p.2.getD j Ch.nil)
def QC:Ctr:=ctrP true (λp:List Fx×List Ch=>[envA p.1 p.2]) envP (λp r=>r=errE p.1 p.2) (λ_ (r:Int)=>(.i r,[]))
noncomputable def GE5:=tb zoc (tb zp4 (tb zmk (tb zmz tz)))
theorem Z9:zf prog 48 QC:=by
 refine zh' f48 λp hp O w0 Q hq=> ?_
 obtain⟨f,c⟩:=p;obtain⟨h1,h2,h3,h4⟩:=hp;replace hq:=hq _ rfl;simp only at hq h1 h2 h3 h4;refine zc.n GE5.h [] (let v1:List Blk:=[.box [.sl f.length 3 (fxG f),.sl c.length 4 (chG c)]];.ite (bif decide ((1000:Int)<f.length) then true else decide ((1000:Int)<c.length)) (.R [.i 4] v1) (.ex (λ(x:List Fx)=>eqL [.sl f.length 3 (fxG f),.fn 68 [] []] [.sl x.length 3 (fxG x),.fn 68 [] []]/\x.length<1099511627776/\∀ (j:Nat),j<x.length->yV (x.getD j Fx.nil)) λn=>.all (λ(r:Bool)=>r=List.any n λ(x:Fx)=> !okF x) λn=>.ex (λ(x:List Ch)=>n=false->eqL [.sl c.length 4 (chG c),.fn 70 [] []] [.sl x.length 4 (chG x),.fn 70 [] []]/\x.length<1099511627776/\∀ (j:Nat),j<x.length->uw (x.getD j Ch.nil)) λn_1=>.all (λ(x:Bool)=>n=false->x=List.any n_1 λ(x:Ch)=> !okC x) λn_2=>.ex (λ(x:List Fx)=>(bif n then true else n_2)=false->eqL [.sl f.length 3 (fxG f),.fn 74 [] []] [.sl x.length 3 (fxG x),.fn 74 [] []]/\x.length<1099511627776) λn_3=>.all (λ(x:Bool)=>(bif n then true else n_2)=false->x=ordB cmpF Fx.nil n_3) λn_4=>.ex (λ(x:List Ch)=>(bif bif n then true else n_2 then true else !n_4)=false->eqL [.sl c.length 4 (chG c),.fn 76 [] []] [.sl x.length 4 (chG x),.fn 76 [] []]/\x.length<1099511627776) λn_5=>.all (λ(x:Bool)=>(bif bif n then true else n_2 then true else !n_4)=false->x=ordB cmpC Ch.nil n_5) λn_6=>.ite (bif bif bif n then true else n_2 then true else !n_4 then true else !n_6) (.R [.i 8] v1) (.R [.i 0] v1))) ?_;simp only [Tree.holds,zd];refine⟨λh=> ?_,λh=> ?_⟩
 ·have h:1000<f.length\/1000<c.length:=by
   rw [Bool.cond_eq_ite] at h;split at h
   ·rename_i h1; left; have:=aB h1; omega
   ·right; have:=aB h; omega
  have:errE f c=4:=aP h;rw [this] at hq; exact RetR.scal hq rfl (by simp [resV])
 ·have h:¬ (1000<f.length\/1000<c.length):=by
   rw [Bool.cond_eq_ite] at h;split at h
   ·cases h
   ·rename_i h1;have h2:=aC h;rintro(h3 | h3)
    ·exact h1 (aX (by omega))
    ·omega
  have he:errE f c=if(f.all okF&&c.all okC&&ordB cmpF Fx.nil f&&ordB cmpC Ch.nil c)=true then 0 else 8:=aO h
  have a1:(f.any λx=> !okF x) = !f.all okF:=by rw [List.not_all_eq_any_not]
  have a2:(c.any λx=> !okC x) = !c.all okC:=by rw [List.not_all_eq_any_not]
  refine⟨f,⟨by simp [za],h1,h3⟩,⟨_,rfl⟩,?_⟩;rintro _ rfl;refine⟨c,λ_=>⟨by simp [za],h2,h4⟩,⟨_,λ_=>rfl⟩,?_⟩;intro b1 g1;refine⟨f,λ_=>⟨by simp [za],h1⟩,⟨_,λ_=>rfl⟩,?_⟩;intro b2 g2;refine⟨c,λ_=>⟨by simp [za],h2⟩,⟨_,λ_=>rfl⟩,?_⟩;intro b3 g3;rw [a1] at g1 g2 g3 ⊢;rw [a2] at g1;clear a1 a2;generalize f.all okF=p1 at *
  generalize c.all okC=p2 at *
  generalize ordB cmpF Fx.nil f=p3 at *
  generalize ordB cmpC Ch.nil c=p4 at *
  have key:(bif bif bif !p1 then true else b1 then true else !b2 then true else !b3) = !(p1&&p2&&p3&&p4):=by
   cases p1 with
   | false=>rfl
   | true=>
    have g1:=g1 rfl;subst g1;cases p2 with
    | false=>rfl
    | true=>
     have g2:=g2 rfl;subst g2;cases b2 with
     | false=>rfl
     | true=>have g3:=g3 rfl; subst g3; rfl
  rw [key];clear key g1 g2 g3;generalize (p1&&p2&&p3&&p4)=q at *
  refine⟨λh=> ?_,λh=> ?_⟩
  ·cases q with
   | true=>cases h
   | false=>rw [he,aO (by decide)] at hq; exact RetR.scal hq rfl (by simp [resV])
  ·cases q with
   | false=>cases h
   | true=>rw [he,aP rfl] at hq; exact RetR.scal hq rfl (by simp [resV])
def zq9:Ctr:=ctrP true (λp:(List Fx×List Ch)×(L8×Int)=>[envA p.1.1 p.1.2,.str p.2.1,.i p.2.2]) (λp=>p.1.1.length<2^40) (λp r=>r=vZ p.1.1 p.2.1 p.2.2) (λ_ r=>(.tup [.str r.1,.bool r.2],[]))
def zc2:Ctr:=ctrP true (λp:(List Fx×List Ch)×(L8×L8×Int)=>[envA p.1.1 p.1.2,.str p.2.1,.str p.2.2.1,.i p.2.2.2]) (λp=>p.1.2.length<2^40) (λp r=>r=qi p.1.2 p.2.1 p.2.2.1 p.2.2.2) (λ_ r=>(.bool r,[]))
def HIdF(x:Fx):Heap:=[.box [.fn 74 [] []],.box [.str x.name,.i x.date,.str x.value]]
def HIdC(x:Ch):Heap:=[.box [.fn 76 [] []],.box [.str x.qn,.str x.name,.i x.date,.bool x.first]]
def zq5:Ctr:=ctrT false false (λp:Fx×Fx=>[p.1.av,.ptr 0 0,.ptr 1 0]) (λp=>HIdF p.2) (λ_=>True) (λp r=>r=decide (cmpF p.1 p.2=0)) (λp (r:Bool)=>(.bool r,HIdF p.2))
def zpm:Ctr:=ctrT false false (λp:Ch×Ch=>[p.1.av,.ptr 0 0,.ptr 1 0]) (λp=>HIdC p.2) (λ_=>True) (λp r=>r=decide (cmpC p.1 p.2=0)) (λp (r:Bool)=>(.bool r,HIdC p.2))
noncomputable def GI1:=tb JJ (tb WC tz)
theorem zog:zf prog 220 zq5:=by
 refine zP (fn:=f220) (c:=f220.body.getD .skip) rfl rfl rfl (λh=>by cases h) λp hp O w0 I0 Q hl0 hq=> ?_
 obtain⟨⟨a,d,v⟩,⟨b,e,u⟩⟩:=p;replace hq:=hq _ rfl;simp only at hq;refine zc.n GI1.h [] (.ex (q47 [.agg [.str a,.i d,.str v],.agg [.str b,.i e,.str u]]) λn=>.all (λ(r:Int)=>r=cmpF n.1 n.2) λn=>.R [.bool (decide (n=0))] [.box [.fn 74 [] []],.box [.str b,.i e,.str u],.box [.str a,.i d,.str v]]) ?_;simp only [q47,Tree.holds,zd];refine⟨(⟨a,d,v⟩,⟨b,e,u⟩),⟨by simp,trivial⟩,⟨_,rfl⟩,?_⟩;rintro _ rfl;exact RetR.keep [0,1] rfl rfl (by show ∀ j,j<2->_; decide) rfl hq (by simp [resV,exp2,exp1,exp0,ren0,eqA2]) (by simp [expH,expB,exp1,exp0,ren0,HIdF]) rfl
theorem zp0:zf prog 183 zpm:=by
 refine zP (fn:=f183) (c:=f183.body.getD .skip) rfl rfl rfl (λh=>by cases h) λp hp O w0 I0 Q hl0 hq=> ?_
 obtain⟨⟨a,v,d,x⟩,⟨b,u,e,y⟩⟩:=p;replace hq:=hq _ rfl;simp only at hq;refine zc.n GI1.h [] (.ex (q48 [.agg [.str a,.str v,.i d,.bool x],.agg [.str b,.str u,.i e,.bool y]]) λn=>.all (λ(r:Int)=>r=cmpC n.1 n.2) λn=>.R [.bool (decide (n=0))] [.box [.fn 76 [] []],.box [.str b,.str u,.i e,.bool y],.box [.str a,.str v,.i d,.bool x]]) ?_;simp only [q48,Tree.holds,zd];refine⟨(⟨a,v,d,x⟩,⟨b,u,e,y⟩),⟨by simp,trivial⟩,⟨_,rfl⟩,?_⟩;rintro _ rfl;exact RetR.keep [0,1] rfl rfl (by show ∀ j,j<2->_; decide) rfl hq (by simp [resV,exp2,exp1,exp0,ren0,eqA2]) (by simp [expH,expB,exp1,exp0,ren0,HIdC]) rfl
def SIdF(l:List Fx)(i:Nat):KV:=[(0,fxS l),(1,.fn 220 [] [.ptr 0 0,.ptr 1 0]),(7,.i (l.length:Int)),(8,.i (i:Int))]
def SIdC(l:List Ch)(i:Nat):KV:=[(0,chS l),(1,.fn 183 [] [.ptr 0 0,.ptr 1 0]),(7,.i (l.length:Int)),(8,.i (i:Int))]
def zl1:Ctr:=ctrT false false (λp:List Fx×Fx=>[fxS p.1,.fn 220 [] [.ptr 0 0,.ptr 1 0]]) (λp=>HIdF p.2) (λp=>p.1.length<2^40) (λp r=>r=idxB (λx=>decide (cmpF x p.2=0)) p.1) (λp (r:Int)=>(.i r,HIdF p.2))
def ziw:Ctr:=ctrT false false (λp:List Ch×Ch=>[chS p.1,.fn 183 [] [.ptr 0 0,.ptr 1 0]]) (λp=>HIdC p.2) (λp=>p.1.length<2^40) (λp r=>r=idxB (λx=>decide (cmpC x p.2=0)) p.1) (λp (r:Int)=>(.i r,HIdC p.2))
noncomputable def GI2:=tb zog (tb zp0 tz)
theorem zod:zf prog 108 zl1:=by
 refine zP (fn:=f108) (c:=f108.body.getD .skip) rfl rfl rfl (λh=>by cases h) λp hl O w0 I0 Q hl0 hq=> ?_
 obtain⟨l,x⟩:=p;replace hq:=hq _ rfl;simp only at hq hl;refine zc.n GI2.h [0,1,7,8] (.leaf (.loop (lps K108 0).1 (lps K108 0).2 [(0,.sl l.length 3 (fxG l)),(1,.fn 220 [] [.ptr 0 0,.ptr 1 0]),(7,.i l.length),(8,.i 0)] [.box [.fn 74 [] []],.box [.str x.name,.i x.date,.str x.value]])) ?_;simp only [Tree.holds,zd]
 have fin:∀ (i:Int) (h:Heap),i=idxB (λy=>decide (cmpF y x=0)) l->h=HIdF x->RetR zl1 2 Q [.i i] h:=by
  intro i h hi2 hh;subst hh;rw [<- hi2] at hq;exact RetR.keep [0,1] rfl rfl (by show ∀ j,j<2->_; decide) rfl hq (by simp [resV,exp2,exp1,exp0,ren0,eqA2]) (by simp [expH,expB,exp1,exp0,ren0,HIdF]) rfl
 refine zc.loop (ι:={i:Nat // i<=l.length/\∀ j,j<i->decide (cmpF (l.getD j Fx.nil) x=0)=false}) (λi=>SIdF l i.1) (λ_=>HIdF x) (λi=>l.length - i.1) ⟨0,aI _,λj hj=>by omega⟩ 0 ?_ ?_ (by kernel_rfl)
 ·exact⟨by simp [SIdF,fxS,za],by simp [HIdF],by kernel_rfl,aJ _⟩
 ·rintro⟨i,hil,hib⟩;refine zc.n GI2.h [0,1,7,8] (let v2:=l.getD (i:Int).toNat Fx.nil;.D ((i:Int)<l.length) (.side ((0:Int)<=i/\(i:Int)<l.length) (.ex (λ(x_1:Fx×Fx)=>eqL [.agg [.str v2.name,.i v2.date,.str v2.value],.ptr 0 0,.ptr 1 0] [.agg [.str x_1.1.name,.i x_1.1.date,.str x_1.1.value],.ptr 0 0,.ptr 1 0]/\eqH [.box [.fn 74 [] []],.box [.str x.name,.i x.date,.str x.value]] [.box [.fn 74 [] []],.box [.str x_1.2.name,.i x_1.2.date,.str x_1.2.value]]/\2=2/\True) λn=>let v1:List Blk:=[.box [.fn 74 [] []],.box [.str n.2.name,.i n.2.date,.str n.2.value]];.all (λ(r:Bool)=>r=decide (cmpF n.1 n.2=0)) λn_1=>.ite n_1 (.R [.i i] v1) (.S (i+1) (.leaf (.back 0 [(0,.sl l.length 3 (fxG l)),(1,.fn 220 [] [.ptr 0 0,.ptr 1 0]),(7,.i l.length),(8,.i (i+1))] v1))))) (.R [.i (-1:Int)] [.box [.fn 74 [] []],.box [.str x.name,.i x.date,.str x.value]])) ?_;simp only [Tree.holds,zd,inR,lo,hi,aD];refine⟨λhlt=> ?_,λhge=> ?_⟩
  ·have hlt:i<l.length:=by have:=aB hlt; omega
   refine⟨by omega,λ_=>⟨(l.getD i Fx.nil,x),⟨by simp,by simp,trivial,trivial⟩,⟨_,rfl⟩,?_⟩⟩;rintro _ rfl;refine⟨λh=> ?_,λh=>⟨by omega,λ_=> ?_⟩⟩
   ·exact fin _ _ (QQ hlt h hib).symm rfl
   ·rw [aP trivial];refine⟨⟨i+1,hlt,λj hj=> ?_⟩,by show l.length - (i+1)<l.length - i; omega,by simp [SIdF,fxS,za],by simp [HIdF],by kernel_rfl,aJ _⟩;rcases aR j i with h1 | h1
    ·exact hib j h1
    ·have:j=i:=by omega
     rw [this]; exact h
  ·have hge:i=l.length:=by have:=aC hge; omega
   subst hge;exact fin _ _ (y8 (p:=λy=>decide (cmpF y x=0)) hib).symm rfl
theorem zo0:zf prog 109 ziw:=by
 refine zP (fn:=f109) (c:=f109.body.getD .skip) rfl rfl rfl (λh=>by cases h) λp hl O w0 I0 Q hl0 hq=> ?_
 obtain⟨l,x⟩:=p;replace hq:=hq _ rfl;simp only at hq hl;refine zc.n GI2.h [0,1,7,8] (.leaf (.loop (lps K109 0).1 (lps K109 0).2 [(0,.sl l.length 4 (chG l)),(1,.fn 183 [] [.ptr 0 0,.ptr 1 0]),(7,.i l.length),(8,.i 0)] [.box [.fn 76 [] []],.box [.str x.qn,.str x.name,.i x.date,.bool x.first]])) ?_;simp only [Tree.holds,zd]
 have fin:∀ (i:Int) (h:Heap),i=idxB (λy=>decide (cmpC y x=0)) l->h=HIdC x->RetR ziw 2 Q [.i i] h:=by
  intro i h hi2 hh;subst hh;rw [<- hi2] at hq;exact RetR.keep [0,1] rfl rfl (by show ∀ j,j<2->_; decide) rfl hq (by simp [resV,exp2,exp1,exp0,ren0,eqA2]) (by simp [expH,expB,exp1,exp0,ren0,HIdC]) rfl
 refine zc.loop (ι:={i:Nat // i<=l.length/\∀ j,j<i->decide (cmpC (l.getD j Ch.nil) x=0)=false}) (λi=>SIdC l i.1) (λ_=>HIdC x) (λi=>l.length - i.1) ⟨0,aI _,λj hj=>by omega⟩ 0 ?_ ?_ (by kernel_rfl)
 ·exact⟨by simp [SIdC,chS,za],by simp [HIdC],by kernel_rfl,aJ _⟩
 ·rintro⟨i,hil,hib⟩;refine zc.n GI2.h [0,1,7,8] (let v1:=l.getD (i:Int).toNat Ch.nil;.D ((i:Int)<l.length) (.side ((0:Int)<=i/\(i:Int)<l.length) (.ex (λ(x_1:Ch×Ch)=>eqL [.agg [.str v1.qn,.str v1.name,.i v1.date,.bool v1.first],.ptr 0 0,.ptr 1 0] [.agg [.str x_1.1.qn,.str x_1.1.name,.i x_1.1.date,.bool x_1.1.first],.ptr 0 0,.ptr 1 0]/\eqH [.box [.fn 76 [] []],.box [.str x.qn,.str x.name,.i x.date,.bool x.first]] [.box [.fn 76 [] []],.box [.str x_1.2.qn,.str x_1.2.name,.i x_1.2.date,.bool x_1.2.first]]/\2=2/\True) λn=>let v2:List Blk:=[.box [.fn 76 [] []],.box [.str n.2.qn,.str n.2.name,.i n.2.date,.bool n.2.first]];.all (λ(r:Bool)=>r=decide (cmpC n.1 n.2=0)) λn_1=>.ite n_1 (.R [.i i] v2) (.S (i+1) (.leaf (.back 0 [(0,.sl l.length 4 (chG l)),(1,.fn 183 [] [.ptr 0 0,.ptr 1 0]),(7,.i l.length),(8,.i (i+1))] v2))))) (.R [.i (-1:Int)] [.box [.fn 76 [] []],.box [.str x.qn,.str x.name,.i x.date,.bool x.first]])) ?_;simp only [Tree.holds,zd,inR,lo,hi,aD];refine⟨λhlt=> ?_,λhge=> ?_⟩
  ·have hlt:i<l.length:=by have:=aB hlt; omega
   refine⟨by omega,λ_=>⟨(l.getD i Ch.nil,x),⟨by simp,by simp,trivial,trivial⟩,⟨_,rfl⟩,?_⟩⟩;rintro _ rfl;refine⟨λh=> ?_,λh=>⟨by omega,λ_=> ?_⟩⟩
   ·exact fin _ _ (QQ hlt h hib).symm rfl
   ·rw [aP trivial];refine⟨⟨i+1,hlt,λj hj=> ?_⟩,by show l.length - (i+1)<l.length - i; omega,by simp [SIdC,chS,za],by simp [HIdC],by kernel_rfl,aJ _⟩;rcases aR j i with h1 | h1
    ·exact hib j h1
    ·have:j=i:=by omega
     rw [this]; exact h
  ·have hge:i=l.length:=by have:=aC hge; omega
   subst hge;exact fin _ _ (y8 (p:=λy=>decide (cmpC y x=0)) hib).symm rfl
def zcj:Ctr:=ctrP true (λp:List Fx×Fx=>[fxS p.1,p.2.av,.fn 74 [] []]) (λp=>p.1.length<2^40) (λp r=>r=idxB (λx=>decide (cmpF x p.2=0)) p.1) (λ_ (r:Int)=>(.i r,[]))
def zc0:Ctr:=ctrP true (λp:List Ch×Ch=>[chS p.1,p.2.av,.fn 76 [] []]) (λp=>p.1.length<2^40) (λp r=>r=idxB (λx=>decide (cmpC x p.2=0)) p.1) (λ_ (r:Int)=>(.i r,[]))
noncomputable def GI3:=tb zod (tb zo0 tz)
theorem zfe:zf prog 216 zcj:=by
 refine zh' f216 λp hp O w0 Q hq=> ?_
 obtain⟨l,⟨a,d,v⟩⟩:=p;replace hq:=hq _ rfl;simp only at hq hp;refine zc.n GI3.h [] (.ex (λ(x:List Fx×Fx)=>eqL [.sl l.length 3 (fxG l),.fn 220 [] [.ptr 0 0,.ptr 1 0]] [.sl x.1.length 3 (fxG x.1),.fn 220 [] [.ptr 0 0,.ptr 1 0]]/\eqH [.box [.fn 74 [] []],.box [.str a,.i d,.str v]] [.box [.fn 74 [] []],.box [.str x.2.name,.i x.2.date,.str x.2.value]]/\2=2/\x.1.length<1099511627776) λn=>.all (λ(r:Int)=>r=idxB (λ(x:Fx)=>decide (cmpF x n.2=0)) n.1) λn_1=>.R [.i n_1] [.box [.str n.2.name,.i n.2.date,.str n.2.value],.box [.fn 74 [] []]]) ?_;simp only [Tree.holds,zd];refine⟨(l,⟨a,d,v⟩),⟨by simp [za],by simp,trivial,hp⟩,⟨_,rfl⟩,?_⟩;rintro _ rfl;exact RetR.scal hq rfl (by simp [resV])
theorem zfh:zf prog 150 zc0:=by
 refine zh' f150 λp hp O w0 Q hq=> ?_
 obtain⟨l,⟨a,v,d,b⟩⟩:=p;replace hq:=hq _ rfl;simp only at hq hp;refine zc.n GI3.h [] (.ex (λ(x:List Ch×Ch)=>eqL [.sl l.length 4 (chG l),.fn 183 [] [.ptr 0 0,.ptr 1 0]] [.sl x.1.length 4 (chG x.1),.fn 183 [] [.ptr 0 0,.ptr 1 0]]/\eqH [.box [.fn 76 [] []],.box [.str a,.str v,.i d,.bool b]] [.box [.fn 76 [] []],.box [.str x.2.qn,.str x.2.name,.i x.2.date,.bool x.2.first]]/\2=2/\x.1.length<1099511627776) λn=>.all (λ(r:Int)=>r=idxB (λ(x:Ch)=>decide (cmpC x n.2=0)) n.1) λn_1=>.R [.i n_1] [.box [.str n.2.qn,.str n.2.name,.i n.2.date,.bool n.2.first],.box [.fn 76 [] []]]) ?_;simp only [Tree.holds,zd];refine⟨(l,⟨a,v,d,b⟩),⟨by simp [za],by simp,trivial,hp⟩,⟨_,rfl⟩,?_⟩;rintro _ rfl;exact RetR.scal hq rfl (by simp [resV])
noncomputable def GI4:=tb zfe (tb zfh tz)
theorem zne:zf prog 204 zq9:=by
 refine zh' f204 λp hp O w0 Q hq=> ?_
 obtain⟨⟨f,c⟩,⟨a,d⟩⟩:=p;replace hq:=hq _ rfl;simp only at hq hp;refine zc.n GI4.h [] (let v1:List Blk:=[.box [.sl f.length 3 (fxG f),.sl c.length 4 (chG c)]];.ex (λ(x:List Fx×Fx)=>eqL [.sl f.length 3 (fxG f),.agg [.str a,.i d,.str #[].toList],.fn 74 [] []] [.sl x.1.length 3 (fxG x.1),.agg [.str x.2.name,.i x.2.date,.str x.2.value],.fn 74 [] []]/\x.1.length<1099511627776) λn=>.all (λ(r:Int)=>r=idxB (λ(x:Fx)=>decide (cmpF x n.2=0)) n.1) λn=>.D (n<0) (.R [.str #[].toList,.bool false] v1) (.side ((0:Int)<=n/\n<(f.length:Int)) (.R [.str (Fx.value (f.getD (Int.toNat n) Fx.nil)),.bool true] v1))) ?_;simp only [Tree.holds,zd];refine⟨(f,⟨a,d,[]⟩),⟨by simp [za],hp⟩,⟨_,rfl⟩,?_⟩;rintro _ rfl;obtain⟨hlt,hr⟩:=zga f a d;simp only at hq ⊢;refine⟨λh=> ?_,λh=> ?_⟩
 ·rw [hr,aO (by have:=aB h; omega)] at hq;exact RetR.scal hq rfl (by simp [resV])
 ·have h:=aC h;refine⟨⟨by omega,hlt⟩,λ_=> ?_⟩;rw [hr,aP (by omega)] at hq;exact RetR.scal hq rfl (by simp [resV])
theorem zfj:zf prog 115 zc2:=by
 refine zh' f115 λp hp O w0 Q hq=> ?_
 obtain⟨⟨f,c⟩,⟨a,v,d⟩⟩:=p;replace hq:=hq _ rfl;simp only at hq hp;refine zc.n GI4.h [] (.ex (λ(x:List Ch×Ch)=>eqL [.sl c.length 4 (chG c),.agg [.str a,.str v,.i d,.bool false],.fn 76 [] []] [.sl x.1.length 4 (chG x.1),.agg [.str x.2.qn,.str x.2.name,.i x.2.date,.bool x.2.first],.fn 76 [] []]/\x.1.length<1099511627776) λn=>.all (λ(r:Int)=>r=idxB (λ(x:Ch)=>decide (cmpC x n.2=0)) n.1) λn=>.side (decide ((0:Int)<=n)=true->(0:Int)<=n/\n<(c.length:Int)) (.R [.bool (bif decide ((0:Int)<=n) then Ch.first (c.getD (Int.toNat n) Ch.nil) else false)] [.box [.sl f.length 3 (fxG f),.sl c.length 4 (chG c)]])) ?_;simp only [Tree.holds,zd];refine⟨(c,⟨a,v,d,false⟩),⟨by simp [za],hp⟩,⟨_,rfl⟩,?_⟩;rintro _ rfl;obtain⟨hlt,hr⟩:=U3 c a v d;simp only at hq ⊢;refine⟨λh=>⟨aB h,hlt⟩,λ_=> ?_⟩;refine RetR.scal hq rfl ?_;rw [hr];simp only [resV];by_cases h:0<=idxB (λx=>decide (cmpC x ⟨a,v,d,false⟩=0)) c
 ·rw [aX h,aP h]; rfl
 ·rw [aW h,aO h]; rfl
structure St8 where
 f:List Fx
 c:List Ch
 day:Int
 e:Int
def St8.box(s:St8):Blk:=.box [fxS s.f,chS s.c,.i s.day,.i s.e]
def St8.err(s:St8)(e:Int):St8:=⟨s.f,s.c,s.day,e⟩
theorem qN(f:List Fx)(c:List Ch)(day e:Int):eqH [.box [.sl f.length 3 (fxG f),.sl c.length 4 (chG c),.i day,.i e]] [(St8.mk f c day e).box]:=⟨⟨⟨rfl,rfl,za _ _ _⟩,⟨rfl,rfl,za _ _ _⟩,⟨rfl,rfl⟩,⟨rfl,rfl⟩,trivial⟩,trivial⟩
theorem RetR.st8{ctr:Ctr}{Q:AV×Heap->Prop}{rs:List AV}{f:List Fx}{c:List Ch}{day e:Int}{r:AV}(hf:ctr.fresh=false)(hq:Q (r,[(St8.mk f c day e).box]))(hs:Zs r=true)(hr:resV rs=r)(h2:exp2 [.box [.sl f.length 3 (fxG f),.sl c.length 4 (chG c),.i day,.i e]] [0] r=r:=by rfl):RetR ctr 1 Q rs [.box [.sl f.length 3 (fxG f),.sl c.length 4 (chG c),.i day,.i e]]:=by
 subst hr;refine RetR.keep [0] rfl rfl (by decide) hf hq ?_ ?_ rfl
 ·rw [h2]; exact Kg hs
 ·exact qN f c day e
structure KS where
 s:St8
 x:L8
 e:Int
def Ul:Ctr:=ctrT false false (λk:KS=>[.ptr 0 0,.str k.x,.i k.e]) (λk=>[k.s.box]) (λ_=>True) (λk r=>r=if k.s.e=0 then k.e else k.s.e) (λk (r:Int)=>(.str k.x,[(k.s.err r).box]))
def ziv:Ctr:=ctrT false false (λk:St8×Int×Int=>[.ptr 0 0,.i k.2.1,.i k.2.2]) (λk=>[k.1.box]) (λ_=>True) (λk r=>r=if k.1.e=0 then k.2.2 else k.1.e) (λk (r:Int)=>(.i k.2.1,[(k.1.err r).box]))
theorem Yz:zf prog 186 Ul:=by
 refine zP (fn:=f186) (c:=f186.body.getD .skip) rfl rfl rfl (λh=>by cases h) λk hk O w0 I0 Q hl0 hq=> ?_
 obtain⟨⟨f,c,day,e⟩,x,e'⟩:=k;replace hq:=hq _ rfl;simp only at hq;refine zc.n zH [] (.D (e=0) (.R [.str x] [.box [.sl f.length 3 (fxG f),.sl c.length 4 (chG c),.i day,.i e']]) (.R [.str x] [.box [.sl f.length 3 (fxG f),.sl c.length 4 (chG c),.i day,.i e]])) ?_;simp only [Tree.holds,zd];refine⟨λh=> ?_,λh=> ?_⟩
 ·rw [aP (aB h)] at hq;exact RetR.st8 rfl hq rfl rfl
 ·rw [aO (aC h)] at hq;exact RetR.st8 rfl hq rfl rfl
theorem zlu:zf prog 203 ziv:=by
 refine zP (fn:=f203) (c:=f203.body.getD .skip) rfl rfl rfl (λh=>by cases h) λk hk O w0 I0 Q hl0 hq=> ?_
 obtain⟨⟨f,c,day,e⟩,x,e'⟩:=k;replace hq:=hq _ rfl;simp only at hq;refine zc.n zH [] (.D (e=0) (.R [.i x] [.box [.sl f.length 3 (fxG f),.sl c.length 4 (chG c),.i day,.i e']]) (.R [.i x] [.box [.sl f.length 3 (fxG f),.sl c.length 4 (chG c),.i day,.i e]])) ?_;simp only [Tree.holds,zd];refine⟨λh=> ?_,λh=> ?_⟩
 ·rw [aP (aB h)] at hq;exact RetR.st8 rfl hq rfl rfl
 ·rw [aO (aC h)] at hq;exact RetR.st8 rfl hq rfl rfl
def fixC:Ctr:=ctrT false false (λk:KS=>[.ptr 0 0,.str k.x,.i k.e]) (λk=>[k.s.box]) (λk=>k.s.f.length<2^40/\k.s.e=0) (λk r=>r=fixR k.s.f k.x k.e) (λk (r:L8×Int)=>(.str r.1,[(k.s.err r.2).box]))
noncomputable def GFx:=tb zne (tb Yz tz)
abbrev q49(A:List AV)(H:Heap)(x:KS):Prop:=eqL A [.ptr 0 0,.str x.x,.i x.e]/\eqH H [.box [.sl x.s.f.length 3 (fxG x.s.f),.sl x.s.c.length 4 (chG x.s.c),.i x.s.day,.i x.s.e]]/\1=1/\True
theorem ze8:zf prog 185 fixC:=by
 refine zP (fn:=f185) (c:=f185.body.getD .skip) rfl rfl rfl (λh=>by cases h) λk hk O w0 I0 Q hl0 hq=> ?_
 obtain⟨⟨f,c,day,e⟩,x,d⟩:=k;obtain⟨h1,h2⟩:=hk;replace hq:=hq _ rfl;simp only at h1 h2 hq;subst h2;refine zc.n GFx.h [] (.ex (λ(x_1:(List Fx×List Ch)×L8×Int)=>eqL [.agg [.sl f.length 3 (fxG f),.sl c.length 4 (chG c)],.str x,.i d] [.agg [.sl x_1.1.1.length 3 (fxG x_1.1.1),.sl x_1.1.2.length 4 (chG x_1.1.2)],.str x_1.2.1,.i x_1.2.2]/\x_1.1.1.length<1099511627776) λn=>.all (λ(r:L8×Bool)=>r=vZ n.1.1 n.2.1 n.2.2) λn=>.ite (!Prod.snd n) (.ex (q49 [.ptr 0 0,.str n.1,.i 30] [.box [.sl f.length 3 (fxG f),.sl c.length 4 (chG c),.i day,.i 0]]) λn=>.all (λ(r:Int)=>r=if St8.e n.s=0 then KS.e n else St8.e n.s) λn_1=>let v1:=n.s.err n_1;.R [.str n.x] [.box [.sl (List.length v1.f) 3 (fxG v1.f),.sl (List.length v1.c) 4 (chG v1.c),.i v1.day,.i v1.e]]) (.R [.str n.1] [.box [.sl f.length 3 (fxG f),.sl c.length 4 (chG c),.i day,.i 0]])) ?_;simp only [q49,Tree.holds,zd];refine⟨((f,c),(x,d)),⟨⟨⟨⟨rfl,rfl,za _ _ _⟩,⟨rfl,rfl,za _ _ _⟩,trivial⟩,rfl,⟨rfl,rfl⟩,trivial⟩,h1⟩,⟨_,rfl⟩,?_⟩;rintro _ rfl;unfold fixR at hq;refine⟨λh=> ?_,λh=> ?_⟩
 ·have h:(vZ f x d).2=false:=by simpa using h
  have h0:(vZ f x d).1=[]:=zl2 h;rw [aO (by rw [h]; decide)] at hq;refine⟨⟨⟨f,c,day,0⟩,[],30⟩,⟨⟨⟨rfl,rfl⟩,h0,⟨rfl,rfl⟩,trivial⟩,qN f c day 0,trivial,trivial⟩,⟨_,rfl⟩,?_⟩;rintro _ rfl;exact RetR.st8 rfl hq rfl rfl
 ·have h:(vZ f x d).2=true:=by simpa using h
  rw [aP h] at hq;exact RetR.st8 rfl hq rfl rfl
structure K2 where
 s:St8
 a:L8
 b:L8
def cmpE(e:Int)(a b:L8):Int×Int:=if e≠0 then(0,e) else cmpR a b
def zjv:Ctr:=ctrT false false (λk:K2=>[.ptr 0 0,.str k.a,.str k.b]) (λk=>[k.s.box]) (λk=>k.s.e=0->k.a.length<2^61/\k.b.length<2^61) (λk r=>r=cmpE k.s.e k.a k.b) (λk (r:Int×Int)=>(.i r.1,[(k.s.err r.2).box]))
noncomputable def GCq:=tb zp2 (tb zlu tz)
abbrev q50(A:List AV)(x:L8×L8):Prop:=eqL A [.str x.1,.str x.2]/\x.1.length<2305843009213693952/\x.2.length<2305843009213693952
theorem zc6:zf prog 184 zjv:=by
 refine zP (fn:=f184) (c:=f184.body.getD .skip) rfl rfl rfl (λh=>by cases h) λk hk O w0 I0 Q hl0 hq=> ?_
 obtain⟨⟨f,c,day,e⟩,a,b⟩:=k;replace hq:=hq _ rfl;simp only at hk hq;unfold cmpE at hq;refine zc.n GCq.h [] (.N (e=0) (.R [.i 0] [.box [.sl f.length 3 (fxG f),.sl c.length 4 (chG c),.i day,.i e]]) (.ex (q50 [.str a,.str b]) λn=>.all (λ(r:Int×Int)=>r=cmpR n.1 n.2) λn=>.ex (λ(x:St8×Int×Int)=>eqL [.ptr 0 0,.i n.1,.i n.2] [.ptr 0 0,.i x.2.1,.i x.2.2]/\eqH [.box [.sl f.length 3 (fxG f),.sl c.length 4 (chG c),.i day,.i e]] [.box [.sl x.1.f.length 3 (fxG x.1.f),.sl x.1.c.length 4 (chG x.1.c),.i x.1.day,.i x.1.e]]/\1=1/\True) λn=>.all (λ(r:Int)=>r=if St8.e n.1=0 then n.2.2 else St8.e n.1) λn_1=>let v1:=n.1.err n_1;.R [.i n.2.1] [.box [.sl (List.length v1.f) 3 (fxG v1.f),.sl (List.length v1.c) 4 (chG v1.c),.i v1.day,.i v1.e]])) ?_;simp only [q50,Tree.holds,zd];refine⟨λh=> ?_,λh=> ?_⟩
 ·have h:e≠0:=by simpa using h
  rw [aP h] at hq;exact RetR.st8 rfl hq rfl rfl
 ·have h:e=0:=by simpa using h
  subst h;obtain⟨h1,h2⟩:=hk rfl;rw [aO (by simp)] at hq;refine⟨(a,b),⟨⟨rfl,rfl,trivial⟩,h1,h2⟩,⟨_,rfl⟩,?_⟩;rintro _ rfl;refine⟨(⟨f,c,day,0⟩,(cmpR a b).1,(cmpR a b).2),⟨⟨⟨rfl,rfl⟩,⟨rfl,rfl⟩,⟨rfl,rfl⟩,trivial⟩,qN f c day 0,trivial,trivial⟩,⟨_,rfl⟩,?_⟩;rintro _ rfl;exact RetR.st8 rfl hq rfl rfl
def sopC(F:L8->L8->L8×Int)(same:Bool):Ctr:=ctrT false false (λk:K2=>[.ptr 0 0,.str k.a,.str k.b]) (λk=>[k.s.box]) (λk=>k.s.e=0/\k.a.length<2^61/\k.b.length<2^61) (λk r=>r.2=(F k.a k.b).2/\(r.2=0->r.1=(F k.a k.b).1)) (λk (r:L8×Int)=>(.tup [.str r.1,.i r.2],[(bif same then k.s else k.s.err r.2).box]))
noncomputable def zul:=tb KK (tb Xv (tb Q9 tz))
theorem zoe:zf prog 238 (sopC addR true):=by
 refine zP (fn:=f238) (c:=f238.body.getD .skip) rfl rfl rfl (λh=>by cases h) λk hk O w0 I0 Q hl0 hq=> ?_
 obtain⟨⟨f,c,day,e⟩,a,b⟩:=k;replace hq:=hq (addR a b) ⟨rfl,λ_=>rfl⟩;obtain⟨h0,h1,h2⟩:=hk;simp only at h0 h1 h2 hq;refine zc.n zul.h [] (.ex (q50 [.str a,.str b]) λn=>.all (λ(r:L8×Int)=>r=addR n.1 n.2) λn=>.R [.str n.1,.i n.2] [.box [.sl f.length 3 (fxG f),.sl c.length 4 (chG c),.i day,.i e]]) ?_;simp only [q50,Tree.holds,zd];refine⟨(a,b),⟨⟨rfl,rfl,trivial⟩,h1,h2⟩,⟨_,rfl⟩,?_⟩;rintro _ rfl;exact RetR.st8 rfl hq rfl rfl
noncomputable def zut:=tb KK (tb Xv (tb Q9 tz))
theorem zol:zf prog 239 (sopC subR true):=by
 refine zP (fn:=f239) (c:=f239.body.getD .skip) rfl rfl rfl (λh=>by cases h) λk hk O w0 I0 Q hl0 hq=> ?_
 obtain⟨⟨f,c,day,e⟩,a,b⟩:=k;replace hq:=hq (subR a b) ⟨rfl,λ_=>rfl⟩;obtain⟨h0,h1,h2⟩:=hk;simp only at h0 h1 h2 hq;refine zc.n zut.h [] (.ex (q50 [.str a,.str b]) λn=>.all (λ(r:L8×Int)=>r=subR n.1 n.2) λn=>.R [.str n.1,.i n.2] [.box [.sl f.length 3 (fxG f),.sl c.length 4 (chG c),.i day,.i e]]) ?_;simp only [q50,Tree.holds,zd];refine⟨(a,b),⟨⟨rfl,rfl,trivial⟩,h1,h2⟩,⟨_,rfl⟩,?_⟩;rintro _ rfl;exact RetR.st8 rfl hq rfl rfl
noncomputable def zu6:=tb KK (tb Xv (tb Q9 tz))
theorem zna:zf prog 240 (sopC mulR true):=by
 refine zP (fn:=f240) (c:=f240.body.getD .skip) rfl rfl rfl (λh=>by cases h) λk hk O w0 I0 Q hl0 hq=> ?_
 obtain⟨⟨f,c,day,e⟩,a,b⟩:=k;replace hq:=hq (mulR a b) ⟨rfl,λ_=>rfl⟩;obtain⟨h0,h1,h2⟩:=hk;simp only at h0 h1 h2 hq;refine zc.n zu6.h [] (.ex (q50 [.str a,.str b]) λn=>.all (λ(r:L8×Int)=>r=mulR n.1 n.2) λn=>.R [.str n.1,.i n.2] [.box [.sl f.length 3 (fxG f),.sl c.length 4 (chG c),.i day,.i e]]) ?_;simp only [q50,Tree.holds,zd];refine⟨(a,b),⟨⟨rfl,rfl,trivial⟩,h1,h2⟩,⟨_,rfl⟩,?_⟩;rintro _ rfl;exact RetR.st8 rfl hq rfl rfl
noncomputable def GGr:=tb zc6 tz
abbrev q51(A:List AV)(H:Heap)(x:K2):Prop:=eqL A [.ptr 0 0,.str x.a,.str x.b]/\eqH H [.box [.sl x.s.f.length 3 (fxG x.s.f),.sl x.s.c.length 4 (chG x.s.c),.i x.s.day,.i x.s.e]]/\1=1/\(St8.e x.s=0->x.a.length<2305843009213693952/\x.b.length<2305843009213693952)
theorem XO:zf prog 241 (sopC (wH 7) false):=by
 refine zP (fn:=f241) (c:=f241.body.getD .skip) rfl rfl rfl (λh=>by cases h) λk hk O w0 I0 Q hl0 hq=> ?_
 obtain⟨⟨f,c,day,e⟩,a,b⟩:=k;obtain⟨h0,h1,h2⟩:=hk;simp only at h0 h1 h2 hq;subst h0;refine zc.n GGr.h [] (.ex (q51 [.ptr 0 0,.str a,.str b] [.box [.sl f.length 3 (fxG f),.sl c.length 4 (chG c),.i day,.i 0]]) λn=>.all (λ(r:Int×Int)=>r=cmpE n.s.e n.a n.b) λn_1=>let v2:=n.s.err n_1.2;let v1:List Blk:=[.box [.sl (List.length v2.f) 3 (fxG v2.f),.sl (List.length v2.c) 4 (chG v2.c),.i v2.day,.i v2.e]];.D (n_1.1<0) (.R [.str b,.i v2.e] v1) (.R [.str a,.i v2.e] v1)) ?_;simp only [q51,Tree.holds,zd];refine⟨⟨⟨f,c,day,0⟩,a,b⟩,⟨⟨⟨rfl,rfl⟩,rfl,rfl,trivial⟩,qN f c day 0,trivial,λ_=>⟨h1,h2⟩⟩,⟨_,rfl⟩,?_⟩;have e1:cmpE 0 a b=cmpR a b:=aO (by simp);rw [e1];rintro _ rfl;unfold wH at hq;rw [aP rfl] at hq;refine⟨λh=> ?_,λh=> ?_⟩
 ·have h:(cmpR a b).1<0:=aB h;refine RetR.st8 rfl (hq (b,(cmpR a b).2) ?_) rfl rfl;by_cases g:(cmpR a b).2=0
  ·rw [aO (by rw [g]; simp),aP h]; exact⟨g,λ_=>rfl⟩
  ·rw [aP g]; exact⟨rfl,λh=>absurd h g⟩
 ·have h:¬ (cmpR a b).1<0:=aC h;refine RetR.st8 rfl (hq (a,(cmpR a b).2) ?_) rfl rfl;by_cases g:(cmpR a b).2=0
  ·rw [aO (by rw [g]; simp),aO h]; exact⟨g,λ_=>rfl⟩
  ·rw [aP g]; exact⟨rfl,λh=>absurd h g⟩
theorem XC:zf prog 242 (sopC (wH 8) false):=by
 refine zP (fn:=f242) (c:=f242.body.getD .skip) rfl rfl rfl (λh=>by cases h) λk hk O w0 I0 Q hl0 hq=> ?_
 obtain⟨⟨f,c,day,e⟩,a,b⟩:=k;obtain⟨h0,h1,h2⟩:=hk;simp only at h0 h1 h2 hq;subst h0;refine zc.n GGr.h [] (.ex (q51 [.ptr 0 0,.str b,.str a] [.box [.sl f.length 3 (fxG f),.sl c.length 4 (chG c),.i day,.i 0]]) λn=>.all (λ(r:Int×Int)=>r=cmpE n.s.e n.a n.b) λn_1=>let v2:=n.s.err n_1.2;let v1:List Blk:=[.box [.sl (List.length v2.f) 3 (fxG v2.f),.sl (List.length v2.c) 4 (chG v2.c),.i v2.day,.i v2.e]];.D (n_1.1<0) (.R [.str b,.i v2.e] v1) (.R [.str a,.i v2.e] v1)) ?_;simp only [q51,Tree.holds,zd];refine⟨⟨⟨f,c,day,0⟩,b,a⟩,⟨⟨⟨rfl,rfl⟩,rfl,rfl,trivial⟩,qN f c day 0,trivial,λ_=>⟨h2,h1⟩⟩,⟨_,rfl⟩,?_⟩;have e1:cmpE 0 b a=cmpR b a:=aO (by simp);rw [e1];rintro _ rfl;unfold wH at hq;rw [aO (by decide)] at hq;refine⟨λh=> ?_,λh=> ?_⟩
 ·have h:(cmpR b a).1<0:=aB h;refine RetR.st8 rfl (hq (b,(cmpR b a).2) ?_) rfl rfl;by_cases g:(cmpR b a).2=0
  ·rw [aO (by rw [g]; simp),aP h]; exact⟨g,λ_=>rfl⟩
  ·rw [aP g]; exact⟨rfl,λh=>absurd h g⟩
 ·have h:¬ (cmpR b a).1<0:=aC h;refine RetR.st8 rfl (hq (a,(cmpR b a).2) ?_) rfl rfl;by_cases g:(cmpR b a).2=0
  ·rw [aO (by rw [g]; simp),aO h]; exact⟨g,λ_=>rfl⟩
  ·rw [aP g]; exact⟨rfl,λh=>absurd h g⟩
theorem zfn{X R Y S:Type}{P:Program}{g h:Nat}{fr mo fr' mo':Bool}{inp:X->List AV}{hin:X->Heap}{pre:X->Prop}{post:X->R->Prop}{out:X->R->AV×Heap}{inp':Y->List AV}{hin':Y->Heap}{pre':Y->Prop}{post':Y->S->Prop}{out':Y->S->AV×Heap}(μ:X->Nat)(ν : Y->Nat)
  (step:∀ n,zf P g (ctrT fr mo inp hin (λx=>μ x<n/\pre x) post out)->zf P h (ctrT fr' mo' inp' hin' (λy=> ν y<n/\pre' y) post' out') ->
   zf P g (ctrT fr mo inp hin (λx=>μ x<n+1/\pre x) post out)/\zf P h (ctrT fr' mo' inp' hin' (λy=> ν y<n+1/\pre' y) post' out')) :
  zf P g (ctrT fr mo inp hin pre post out)/\zf P h (ctrT fr' mo' inp' hin' pre' post' out'):=by
 have all:∀ n,zf P g (ctrT fr mo inp hin (λx=>μ x<n/\pre x) post out)/\zf P h (ctrT fr' mo' inp' hin' (λy=> ν y<n/\pre' y) post' out'):=by
  intro n
  induction n with
  | zero=>
   constructor
   ·intro args hc Q hq _;obtain⟨x,⟨_,_,_,h,_⟩,_⟩:=hq;exact absurd h (Nat.not_lt_zero _)
   ·intro args hc Q hq _;obtain⟨x,⟨_,_,_,h,_⟩,_⟩:=hq;exact absurd h (Nat.not_lt_zero _)
  | succ n ih=>exact step n ih.1 ih.2
 constructor
 ·intro args hc Q hq hf;obtain⟨x,⟨h1,h2,h3,h4⟩,h5⟩:=hq;exact(all (μ x+1)).1 args hc Q ⟨x,⟨h1,h2,h3,Nat.lt_succ_self _,h4⟩,h5⟩ hf
 ·intro args hc Q hq hf;obtain⟨x,⟨h1,h2,h3,h4⟩,h5⟩:=hq;exact(all (ν x+1)).2 args hc Q ⟨x,⟨h1,h2,h3,Nat.lt_succ_self _,h4⟩,h5⟩ hf
structure VX where
 s:St8
 x:Ex
def evA(k:VX):Ev:=k.x.ev k.s.f k.s.day
def valC(p:VX->Prop):Ctr:=ctrT false false (λk:VX=>[.ptr 0 0,k.x.exA]) (λk=>[k.s.box]) p (λk r=>(k.s.e≠0->r.2=k.s.e)/\(k.s.e=0->r.2=(evA k).e/\(r.2=0->r.1=(evA k).v))) (λk (r:L8×Int)=>(.str r.1,[(k.s.err r.2).box]))
def hldC(p:VX->Prop):Ctr:=ctrT false false (λk:VX=>[.ptr 0 0,k.x.exA]) (λk=>[k.s.box]) p (λk r=>(k.s.e≠0->r.2=k.s.e)/\(k.s.e=0->r.2=(evA k).g/\(r.2=0->r.1=(evA k).b))) (λk (r:Bool×Int)=>(.bool r.1,[(k.s.err r.2).box]))
def VPre(z:Int)(k:VX):Prop:=k.s.e=0->k.x.zx=z/\k.s.f.all okF=true/\k.s.f.length<2^40
def GVa(n:Nat):Nat->Option Ctr:=λf=>if f=153 then some (valC λk=>k.x.size<n/\VPre 1 k) else if f=152 then some (hldC λk=>k.x.size<n/\VPre 2 k)
 else if f=185 then some fixC else if f=184 then some zjv else if f=186 then some Ul
 else if f=238 then some (sopC addR true) else if f=239 then some (sopC subR true) else if f=240 then some (sopC mulR true) else if f=241 then some (sopC (wH 7) false) else if f=242 then some (sopC (wH 8) false) else none
theorem zkr{n:Nat}(h1:zf prog 153 (valC λk=>k.x.size<n/\VPre 1 k))(h2:zf prog 152 (hldC λk=>k.x.size<n/\VPre 2 k)):∀ f c,GVa n f=some c->zf prog f c:=by
 intro f c hf;unfold GVa at hf
 iterate 10
  split at hf
  ·rename_i hg; subst hg; cases hf; first | exact h1 | exact h2 | exact ze8 | exact zc6 | exact Yz | exact zoe | exact zol | exact zna | exact XO | exact XC
 cases hf
theorem eqX2(x:Ex):eqL [.ptr 0 0,.agg [.int .u8 x.kind,.str x.rat,.str x.name,.i x.date,.sl x.sub.length 5 x.deep]] [.ptr 0 0,x.exA]:=⟨⟨rfl,rfl⟩,⟨⟨rfl,rfl⟩,rfl,rfl,⟨rfl,rfl⟩,⟨rfl,rfl,Ex.qp _⟩,trivial⟩,trivial⟩
theorem zp9(x:Ex):eqL [.ptr 0 0,x.exA] [.ptr 0 0,x.exA]:=⟨⟨rfl,rfl⟩,⟨⟨rfl,rfl⟩,rfl,rfl,⟨rfl,rfl⟩,⟨rfl,rfl,za _ _ _⟩,trivial⟩,trivial⟩
theorem RetR.st9{ctr:Ctr}{Q:AV×Heap->Prop}{rs:List AV}{f:List Fx}{c:List Ch}{day e:Int}{b:Blk}{r:AV}(hf:ctr.fresh=false)(hq:Q (r,[(St8.mk f c day e).box]))(hs:Zs r=true)(hr:resV rs=r)(h2:exp2 [.box [.sl f.length 3 (fxG f),.sl c.length 4 (chG c),.i day,.i e],b] [0] r=r:=by rfl):RetR ctr 1 Q rs [.box [.sl f.length 3 (fxG f),.sl c.length 4 (chG c),.i day,.i e],b]:=by
 subst hr;refine RetR.keep [0] rfl rfl (by decide) hf hq ?_ ?_ rfl
 ·rw [h2]; exact Kg hs
 ·exact qN f c day e
theorem uv(e e0:Int)(v:L8):∃ r:L8×Int,(e≠0->r.2=e)/\(e=0->r.2=e0/\(r.2=0->r.1=v)):=by
 by_cases h:e=0
 ·exact⟨(v,e0),λg=>absurd h g,λ_=>⟨rfl,λ_=>rfl⟩⟩
 ·exact⟨(v,e),λ_=>rfl,λg=>absurd g h⟩
theorem ZD(e e0:Int)(v:Bool):∃ r:Bool×Int,(e≠0->r.2=e)/\(e=0->r.2=e0/\(r.2=0->r.1=v)):=by
 by_cases h:e=0
 ·exact⟨(v,e0),λg=>absurd h g,λ_=>⟨rfl,λ_=>rfl⟩⟩
 ·exact⟨(v,e),λ_=>rfl,λg=>absurd g h⟩
section
variable (n:Nat) (h1:zf prog 153 (valC λk=>k.x.size<n/\VPre 1 k)) (h2:zf prog 152 (hldC λk=>k.x.size<n/\VPre 2 k))
include h1 h2
abbrev q53(A:List AV)(H:Heap)(x:K2):Prop:=eqL A [.ptr 0 0,.str x.a,.str x.b]/\eqH H [.box [.sl x.s.f.length 3 (fxG x.s.f),.sl x.s.c.length 4 (chG x.s.c),.i x.s.day,.i x.s.e]]/\1=1/\St8.e x.s=0/\x.a.length<2305843009213693952/\x.b.length<2305843009213693952
abbrev q52(A:List AV)(H:Heap)(x:KS):Prop:=eqL A [.ptr 0 0,.str x.x,.i x.e]/\eqH H [.box [.sl x.s.f.length 3 (fxG x.s.f),.sl x.s.c.length 4 (chG x.s.c),.i x.s.day,.i x.s.e]]/\1=1/\x.s.f.length<1099511627776/\St8.e x.s=0
theorem zaj:zf prog 153 (valC λk=>k.x.size<n+1/\VPre 1 k):=by
 refine zP (fn:=f153) (c:=f153.body.getD .skip) rfl rfl rfl (λh=>by cases h) λk hk O w0 I0 Q hl0 hq=> ?_
 obtain⟨⟨f,c,day,e⟩,⟨k,r,m,d,s⟩⟩:=k;obtain⟨hn,hv⟩:=hk;simp only at hn hv hq;refine zc.n (zkr h1 h2) [] (let v17:=s.getD 2 Ex.nil;let v15:=s.getD 0 Ex.nil;let v14:=s.getD 1 Ex.nil;let v5:=[AV.ptr 0 0,AV.agg [.int .u8 (Ex.kind v14),.str (Ex.rat v14),.str (Ex.name v14),.i (Ex.date v14),.sl (List.length (Ex.sub v14)) 5 (Ex.deep v14)]];let v4:=[AV.ptr 0 0,AV.agg [.int .u8 (Ex.kind v15),.str (Ex.rat v15),.str (Ex.name v15),.i (Ex.date v15),.sl (List.length (Ex.sub v15)) 5 (Ex.deep v15)]];let v3:List Blk:=[.box [.sl f.length 3 (fxG f),.sl c.length 4 (chG c),.i day,.i e]];let v2:List AV:=[.int .u8 k,.str r,.str m,.i d,.sl s.length 5 (Ex.exG s)];let v13:List Blk:=[.box [.sl f.length 3 (fxG f),.sl c.length 4 (chG c),.i day,.i e],.box v2];.N (e=0) (.R [.str #[].toList] v13) (.D (k=1) (.R [.str r] v13) (.D (k=2) (.ex (q52 [.ptr 0 0,.str m,.i d] v3) λn=>.all (λ(r:L8×Int)=>r=fixR n.s.f n.x n.e) λn_1=>let v19:=n.s.err n_1.2;.R [.str n_1.1] [.box [.sl (List.length v19.f) 3 (fxG v19.f),.sl (List.length v19.c) 4 (chG v19.c),.i v19.day,.i v19.e],.box v2]) (.D (k=3) (.ex (q52 [.ptr 0 0,.str m,.i day] v3) λn=>.all (λ(r:L8×Int)=>r=fixR n.s.f n.x n.e) λn_1=>let v20:=n.s.err n_1.2;.R [.str n_1.1] [.box [.sl (List.length v20.f) 3 (fxG v20.f),.sl (List.length v20.c) 4 (chG v20.c),.i v20.day,.i v20.e],.box v2]) (.D (k=9) (.side ((0:Int)<=0/\(0:Int)<s.length) (.ex (λ(x:VX)=>eqL v4 [.ptr 0 0,.agg [.int .u8 x.x.kind,.str x.x.rat,.str x.x.name,.i x.x.date,.sl x.x.sub.length 5 (Ex.exG x.x.sub)]]/\eqH v3 [.box [.sl x.s.f.length 3 (fxG x.s.f),.sl x.s.c.length 4 (chG x.s.c),.i x.s.day,.i x.s.e]]/\1=1/\Ex.size x.x<n/\VPre (2:Int) x) λn_1=>.all (λ(r:Bool×Int)=>(St8.e n_1.s≠0->r.2=St8.e n_1.s)/\(St8.e n_1.s=0->r.2=Ev.g (evA n_1)/\(r.2=0->r.1=Ev.b (evA n_1)))) λn_2=>let v16:=n_1.s.err n_2.2;let v6:=[AV.sl (List.length v16.f) 3 (fxG v16.f),AV.sl (List.length v16.c) 4 (chG v16.c),AV.i v16.day,AV.i v16.e];.ite n_2.1 (.side ((0:Int)<=1/\(1:Int)<s.length) (.ex (λ(x:VX)=>eqL v5 [.ptr 0 0,.agg [.int .u8 x.x.kind,.str x.x.rat,.str x.x.name,.i x.x.date,.sl x.x.sub.length 5 (Ex.exG x.x.sub)]]/\eqH [.box v6] [.box [.sl x.s.f.length 3 (fxG x.s.f),.sl x.s.c.length 4 (chG x.s.c),.i x.s.day,.i x.s.e]]/\1=1/\Ex.size x.x<n/\VPre (1:Int) x) λn=>.all (λ(r:L8×Int)=>(St8.e n.s≠0->r.2=St8.e n.s)/\(St8.e n.s=0->r.2=Ev.e (evA n)/\(r.2=0->r.1=Ev.v (evA n)))) λn_3=>let v21:=n.s.err n_3.2;.R [.str n_3.1] [.box [.sl (List.length v21.f) 3 (fxG v21.f),.sl (List.length v21.c) 4 (chG v21.c),.i v21.day,.i v21.e],.box v2])) (.side ((0:Int)<=2/\(2:Int)<s.length) (.ex (λ(x:VX)=>eqL [.ptr 0 0,.agg [.int .u8 (Ex.kind v17),.str (Ex.rat v17),.str (Ex.name v17),.i (Ex.date v17),.sl (List.length (Ex.sub v17)) 5 (Ex.deep v17)]] [.ptr 0 0,.agg [.int .u8 x.x.kind,.str x.x.rat,.str x.x.name,.i x.x.date,.sl x.x.sub.length 5 (Ex.exG x.x.sub)]]/\eqH [.box v6] [.box [.sl x.s.f.length 3 (fxG x.s.f),.sl x.s.c.length 4 (chG x.s.c),.i x.s.day,.i x.s.e]]/\1=1/\Ex.size x.x<n/\VPre (1:Int) x) λn=>.all (λ(r:L8×Int)=>(St8.e n.s≠0->r.2=St8.e n.s)/\(St8.e n.s=0->r.2=Ev.e (evA n)/\(r.2=0->r.1=Ev.v (evA n)))) λn_3=>let v22:=n.s.err n_3.2;.R [.str n_3.1] [.box [.sl (List.length v22.f) 3 (fxG v22.f),.sl (List.length v22.c) 4 (chG v22.c),.i v22.day,.i v22.e],.box v2])))) (.side ((0:Int)<=0/\(0:Int)<s.length) (.ex (λ(x:VX)=>eqL v4 [.ptr 0 0,.agg [.int .u8 x.x.kind,.str x.x.rat,.str x.x.name,.i x.x.date,.sl x.x.sub.length 5 (Ex.exG x.x.sub)]]/\eqH v3 [.box [.sl x.s.f.length 3 (fxG x.s.f),.sl x.s.c.length 4 (chG x.s.c),.i x.s.day,.i x.s.e]]/\1=1/\Ex.size x.x<n/\VPre (1:Int) x) λn_1=>.all (λ(r:L8×Int)=>(St8.e n_1.s≠0->r.2=St8.e n_1.s)/\(St8.e n_1.s=0->r.2=Ev.e (evA n_1)/\(r.2=0->r.1=Ev.v (evA n_1)))) λn_2=>let v18:=n_1.s.err n_2.2;.side ((0:Int)<=1/\(1:Int)<s.length) (.ex (λ(x:VX)=>eqL v5 [.ptr 0 0,.agg [.int .u8 x.x.kind,.str x.x.rat,.str x.x.name,.i x.x.date,.sl x.x.sub.length 5 (Ex.exG x.x.sub)]]/\eqH [.box [.sl (List.length v18.f) 3 (fxG v18.f),.sl (List.length v18.c) 4 (chG v18.c),.i v18.day,.i v18.e]] [.box [.sl x.s.f.length 3 (fxG x.s.f),.sl x.s.c.length 4 (chG x.s.c),.i x.s.day,.i x.s.e]]/\1=1/\Ex.size x.x<n/\VPre (1:Int) x) λn=>.all (λ(r:L8×Int)=>(St8.e n.s≠0->r.2=St8.e n.s)/\(St8.e n.s=0->r.2=Ev.e (evA n)/\(r.2=0->r.1=Ev.v (evA n)))) λn_3=>let v12:=n.s.err n_3.2;let v1:=q53 [.ptr 0 0,.str n_2.1,.str n_3.1] [.box [.sl (List.length v12.f) 3 (fxG v12.f),.sl (List.length v12.c) 4 (chG v12.c),.i v12.day,.i v12.e]];.N (St8.e v12=(0:Int)) (.R [.str #[].toList] [.box [.sl (List.length v12.f) 3 (fxG v12.f),.sl (List.length v12.c) 4 (chG v12.c),.i v12.day,.i v12.e],.box v2]) (.D ((4:Int)<=k/\k<=8) (.D (k=4) (.ex v1 λn=>.all (λ(r:L8×Int)=>r.2=Prod.snd (addR n.a n.b)/\(r.2=0->r.1=Prod.fst (addR n.a n.b))) λn_4=>let v9:=bif true then K2.s n else St8.err n.s n_4.2;.ex (q49 [.ptr 0 0,.str n_4.1,.i n_4.2] [.box [.sl (List.length v9.f) 3 (fxG v9.f),.sl (List.length v9.c) 4 (chG v9.c),.i v9.day,.i v9.e]]) λn=>.all (λ(r:Int)=>r=if St8.e n.s=0 then KS.e n else St8.e n.s) λn_5=>let v23:=n.s.err n_5;.R [.str n.x] [.box [.sl (List.length v23.f) 3 (fxG v23.f),.sl (List.length v23.c) 4 (chG v23.c),.i v23.day,.i v23.e],.box v2]) (.D (k=5) (.ex v1 λn=>.all (λ(r:L8×Int)=>r.2=Prod.snd (subR n.a n.b)/\(r.2=0->r.1=Prod.fst (subR n.a n.b))) λn_4=>let v10:=bif true then K2.s n else St8.err n.s n_4.2;.ex (q49 [.ptr 0 0,.str n_4.1,.i n_4.2] [.box [.sl (List.length v10.f) 3 (fxG v10.f),.sl (List.length v10.c) 4 (chG v10.c),.i v10.day,.i v10.e]]) λn=>.all (λ(r:Int)=>r=if St8.e n.s=0 then KS.e n else St8.e n.s) λn_5=>let v24:=n.s.err n_5;.R [.str n.x] [.box [.sl (List.length v24.f) 3 (fxG v24.f),.sl (List.length v24.c) 4 (chG v24.c),.i v24.day,.i v24.e],.box v2]) (.D (k=6) (.ex v1 λn=>.all (λ(r:L8×Int)=>r.2=Prod.snd (mulR n.a n.b)/\(r.2=0->r.1=Prod.fst (mulR n.a n.b))) λn_4=>let v11:=bif true then K2.s n else St8.err n.s n_4.2;.ex (q49 [.ptr 0 0,.str n_4.1,.i n_4.2] [.box [.sl (List.length v11.f) 3 (fxG v11.f),.sl (List.length v11.c) 4 (chG v11.c),.i v11.day,.i v11.e]]) λn=>.all (λ(r:Int)=>r=if St8.e n.s=0 then KS.e n else St8.e n.s) λn_5=>let v25:=n.s.err n_5;.R [.str n.x] [.box [.sl (List.length v25.f) 3 (fxG v25.f),.sl (List.length v25.c) 4 (chG v25.c),.i v25.day,.i v25.e],.box v2]) (.D (k=7) (.ex v1 λn=>.all (λ(r:L8×Int)=>r.2=Prod.snd (wH (7:Int) n.a n.b)/\(r.2=0->r.1=Prod.fst (wH (7:Int) n.a n.b))) λn_4=>let v7:=bif false then K2.s n else St8.err n.s n_4.2;.ex (q49 [.ptr 0 0,.str n_4.1,.i n_4.2] [.box [.sl (List.length v7.f) 3 (fxG v7.f),.sl (List.length v7.c) 4 (chG v7.c),.i v7.day,.i v7.e]]) λn=>.all (λ(r:Int)=>r=if St8.e n.s=0 then KS.e n else St8.e n.s) λn_5=>let v26:=n.s.err n_5;.R [.str n.x] [.box [.sl (List.length v26.f) 3 (fxG v26.f),.sl (List.length v26.c) 4 (chG v26.c),.i v26.day,.i v26.e],.box v2]) (.D (k=8) (.ex v1 λn=>.all (λ(r:L8×Int)=>r.2=Prod.snd (wH (8:Int) n.a n.b)/\(r.2=0->r.1=Prod.fst (wH (8:Int) n.a n.b))) λn_4=>let v8:=bif false then K2.s n else St8.err n.s n_4.2;.ex (q49 [.ptr 0 0,.str n_4.1,.i n_4.2] [.box [.sl (List.length v8.f) 3 (fxG v8.f),.sl (List.length v8.c) 4 (chG v8.c),.i v8.day,.i v8.e]]) λn=>.all (λ(r:Int)=>r=if St8.e n.s=0 then KS.e n else St8.e n.s) λn_5=>let v27:=n.s.err n_5;.R [.str n.x] [.box [.sl (List.length v27.f) 3 (fxG v27.f),.sl (List.length v27.c) 4 (chG v27.c),.i v27.day,.i v27.e],.box v2]) .fail))))) .fail))))))))) ?_;simp only [q49,q52,q53,Tree.holds,zd];refine⟨λh=> ?_,λh=> ?_⟩
 ·have h:e≠0:=by simpa using h
  exact RetR.st9 rfl (hq ([],e) ⟨λ_=>rfl,λh0=>absurd h0 h⟩) rfl rfl
 have h:e=0:=by simpa using h
 subst h;obtain⟨hs,hf,hfl⟩:=hv rfl;simp only at hs hf hfl;have hq0:∀ t:L8×Int,t.2=((Ex.mk k r m d s).ev f day).e->(t.2=0->t.1=((Ex.mk k r m d s).ev f day).v)->Q (.str t.1,[(St8.mk f c day t.2).box]):=λt h1 h2=>hq t ⟨λh=>absurd rfl h,λ_=>⟨h1,h2⟩⟩
 clear hq;have hev:(Ex.mk k r m d s).ev f day=evN f day k r m d (Ex.evs f day s):=by rw [Ex.ev]
 have hc:=Ex.Vp hs;simp only [Ex.kind,Ex.sub,Ex.rat] at hc;rw [Ex.size] at hn;have z0:=λg=>Ex.qb (s:=s) (i:=0) g
 have z1:=λg=>Ex.qb (s:=s) (i:=1) g
 have z2:=λg=>Ex.qb (s:=s) (i:=2) g
 have hfix:∀ (x:L8) (y:Int) (b:Blk),fixR f x y=(((Ex.mk k r m d s).ev f day).v,((Ex.mk k r m d s).ev f day).e)->∀ z,z=fixR f x y->RetR (valC λk=>k.x.size<n+1/\VPre 1 k) 1 Q [.str z.1] [.box [.sl f.length 3 (fxG f),.sl c.length 4 (chG c),.i day,.i z.2],b]:=by
  rintro x y b h1 z rfl;exact RetR.st9 rfl (hq0 _ (congrArg Prod.snd h1) λ_=>congrArg Prod.fst h1) rfl rfl
 rcases hc with ⟨rfl,hr⟩ | rfl | rfl | ⟨⟨k1,k2⟩,hl,hs0,hs1⟩ | ⟨rfl,hl,hs0,hs1,hs2⟩
 ·refine⟨λ_=> ?_,λh=>(by cases h)⟩;exact RetR.st9 rfl (hq0 (r,0) (by rw [hev]; rfl) λ_=>by rw [hev]; rfl) rfl rfl
 ·refine⟨λh=>(by cases h),λ_=>⟨λ_=> ?_,λh=>(by cases h)⟩⟩;refine⟨⟨⟨f,c,day,0⟩,m,d⟩,⟨⟨⟨rfl,rfl⟩,rfl,⟨rfl,rfl⟩,trivial⟩,qN f c day 0,by trivial,hfl,rfl⟩,⟨_,rfl⟩,?_⟩;exact hfix m d _ (by rw [hev]; rfl)
 ·refine⟨λh=>(by cases h),λ_=>⟨λh=>(by cases h),λ_=>⟨λ_=> ?_,λh=>(by cases h)⟩⟩⟩;refine⟨⟨⟨f,c,day,0⟩,m,day⟩,⟨⟨⟨rfl,rfl⟩,rfl,⟨rfl,rfl⟩,trivial⟩,qN f c day 0,by trivial,hfl,rfl⟩,⟨_,rfl⟩,?_⟩;exact hfix m day _ (by rw [hev]; rfl)
 ·iterate 4 refine⟨λh=>absurd (aB h) (by omega),λ_=> ?_⟩
  have z0:=z0 (by omega);have z1:=z1 (by omega)
  have he:(((Ex.mk k r m d s).ev f day).v,((Ex.mk k r m d s).ev f day).e)=Jg [] ((s.getD 0 Ex.nil).ev f day) ((s.getD 1 Ex.nil).ev f day) (opR k):=by
   rw [hev];simp only [evN,valN];rw [aO (by omega),aO (by omega),aO (by omega),aO (by omega),Ex.jh (by omega),Ex.jh (by omega)]
  unfold Jg at he;refine⟨⟨by decide,by omega⟩,λ_=>⟨⟨⟨f,c,day,0⟩,s.getD 0 Ex.nil⟩,⟨eqX2 _,qN f c day 0,by trivial,by show(s.getD 0 Ex.nil).size<n; omega,λ_=>⟨hs0,hf,hfl⟩⟩,uv _ _ _,?_⟩⟩;intro r0 g0;obtain⟨g0,k0⟩:=g0.2 rfl;simp only [evA] at g0 k0;refine⟨⟨by decide,by omega⟩,λ_=>⟨⟨⟨f,c,day,r0.2⟩,s.getD 1 Ex.nil⟩,⟨eqX2 _,qN f c day r0.2,by trivial,by show(s.getD 1 Ex.nil).size<n; omega,λ_=>⟨hs1,hf,hfl⟩⟩,uv _ _ _,?_⟩⟩;intro r1 g1;simp only [evA] at g1;refine⟨λh=> ?_,λh=> ?_⟩
  ·have h:r1.2≠0:=by
    intro h0;have h':(!decide (r1.2=0))=true:=h;rw [h0] at h'; cases h'
   refine RetR.st9 rfl (hq0 ([],r1.2) ?_ λh0=>absurd h0 h) rfl rfl;have he:=congrArg Prod.snd he;simp only at he ⊢;rw [he];by_cases h3:r0.2=0
   ·obtain⟨q1,_⟩:=g1.2 h3;rw [aO (by rw [<- g0]; simpa using h3),aP (by rw [<- q1]; exact h),q1]
   ·rw [aP (by rw [<- g0]; exact h3),g1.1 h3,g0]
  ·have h:r1.2=0:=by
    have h':(!decide (r1.2=0))=false:=h;simpa using h'
   have h3:r0.2=0:=by
    refine bM λh3=> ?_
    exact h3 (by rw [<- g1.1 h3]; exact h)
   obtain⟨q1,k1'⟩:=g1.2 h3;have k0:=k0 h3;have k1':=k1' h;rw [aO (by rw [<- g0]; simpa using h3),aO (by rw [<- q1]; simpa using h),<- k0,<- k1'] at he;have l0:=vy (by rw [k0]; exact Ex.Zq hf day _ hs0 (by rw [<- g0]; exact h3):errR r0.1=0);have l1:=vy (by rw [k1']; exact Ex.Zq hf day _ hs1 (by rw [<- q1]; exact h):errR r1.1=0);refine⟨λ_=> ?_,λhno=>absurd (aC hno) (by simp only [Classical.not_not]; exact⟨k1,k2⟩)⟩;refine⟨λhk=> ?_,λhk=> ?_⟩
   ·have hk:k=4:=aB hk;subst hk;have ho:opR 4 r0.1 r1.1=addR r0.1 r1.1:=rfl;rw [ho] at he;refine⟨⟨⟨f,c,day,0⟩,r0.1,r1.1⟩,⟨⟨⟨rfl,rfl⟩,rfl,rfl,trivial⟩,⟨⟨⟨rfl,rfl,za _ _ _⟩,⟨rfl,rfl,za _ _ _⟩,⟨rfl,rfl⟩,⟨rfl,h⟩,trivial⟩,trivial⟩,by trivial,rfl,by show r0.1.length<_; omega,by show r1.1.length<_; omega⟩,⟨addR r0.1 r1.1,rfl,λ_=>rfl⟩,?_⟩;intro t ht;obtain⟨t1,t2⟩:=ht;simp only at t1 t2;refine⟨⟨⟨f,c,day,0⟩,t.1,t.2⟩,⟨⟨⟨rfl,rfl⟩,rfl,⟨rfl,rfl⟩,trivial⟩,qN f c day _,by trivial,trivial⟩,⟨_,rfl⟩,?_⟩;intro z hz
    have hz:z=t.2:=by
     rw [hz];show(if 0=(0:Int) then t.2 else 0)=t.2;by_cases g:t.2=0<;>simp [g]
    subst hz;exact RetR.st9 rfl (hq0 t (by rw [t1]; exact(congrArg Prod.snd he).symm) λg=>by rw [t2 g]; exact(congrArg Prod.fst he).symm) rfl rfl
   have hk:¬ k=4:=aC hk;refine⟨λhk=> ?_,λhk=> ?_⟩
   ·have hk:k=5:=aB hk;subst hk;have ho:opR 5 r0.1 r1.1=subR r0.1 r1.1:=rfl;rw [ho] at he;refine⟨⟨⟨f,c,day,0⟩,r0.1,r1.1⟩,⟨⟨⟨rfl,rfl⟩,rfl,rfl,trivial⟩,⟨⟨⟨rfl,rfl,za _ _ _⟩,⟨rfl,rfl,za _ _ _⟩,⟨rfl,rfl⟩,⟨rfl,h⟩,trivial⟩,trivial⟩,by trivial,rfl,by show r0.1.length<_; omega,by show r1.1.length<_; omega⟩,⟨subR r0.1 r1.1,rfl,λ_=>rfl⟩,?_⟩;intro t ht;obtain⟨t1,t2⟩:=ht;simp only at t1 t2;refine⟨⟨⟨f,c,day,0⟩,t.1,t.2⟩,⟨⟨⟨rfl,rfl⟩,rfl,⟨rfl,rfl⟩,trivial⟩,qN f c day _,by trivial,trivial⟩,⟨_,rfl⟩,?_⟩;intro z hz
    have hz:z=t.2:=by
     rw [hz];show(if 0=(0:Int) then t.2 else 0)=t.2;by_cases g:t.2=0<;>simp [g]
    subst hz;exact RetR.st9 rfl (hq0 t (by rw [t1]; exact(congrArg Prod.snd he).symm) λg=>by rw [t2 g]; exact(congrArg Prod.fst he).symm) rfl rfl
   have hk:¬ k=5:=aC hk;refine⟨λhk=> ?_,λhk=> ?_⟩
   ·have hk:k=6:=aB hk;subst hk;have ho:opR 6 r0.1 r1.1=mulR r0.1 r1.1:=rfl;rw [ho] at he;refine⟨⟨⟨f,c,day,0⟩,r0.1,r1.1⟩,⟨⟨⟨rfl,rfl⟩,rfl,rfl,trivial⟩,⟨⟨⟨rfl,rfl,za _ _ _⟩,⟨rfl,rfl,za _ _ _⟩,⟨rfl,rfl⟩,⟨rfl,h⟩,trivial⟩,trivial⟩,by trivial,rfl,by show r0.1.length<_; omega,by show r1.1.length<_; omega⟩,⟨mulR r0.1 r1.1,rfl,λ_=>rfl⟩,?_⟩;intro t ht;obtain⟨t1,t2⟩:=ht;simp only at t1 t2;refine⟨⟨⟨f,c,day,0⟩,t.1,t.2⟩,⟨⟨⟨rfl,rfl⟩,rfl,⟨rfl,rfl⟩,trivial⟩,qN f c day _,by trivial,trivial⟩,⟨_,rfl⟩,?_⟩;intro z hz
    have hz:z=t.2:=by
     rw [hz];show(if 0=(0:Int) then t.2 else 0)=t.2;by_cases g:t.2=0<;>simp [g]
    subst hz;exact RetR.st9 rfl (hq0 t (by rw [t1]; exact(congrArg Prod.snd he).symm) λg=>by rw [t2 g]; exact(congrArg Prod.fst he).symm) rfl rfl
   have hk:¬ k=6:=aC hk;refine⟨λhk=> ?_,λhk=> ?_⟩
   ·have hk:k=7:=aB hk;subst hk;have ho:opR 7 r0.1 r1.1=(wH 7) r0.1 r1.1:=rfl;rw [ho] at he;refine⟨⟨⟨f,c,day,0⟩,r0.1,r1.1⟩,⟨⟨⟨rfl,rfl⟩,rfl,rfl,trivial⟩,⟨⟨⟨rfl,rfl,za _ _ _⟩,⟨rfl,rfl,za _ _ _⟩,⟨rfl,rfl⟩,⟨rfl,h⟩,trivial⟩,trivial⟩,by trivial,rfl,by show r0.1.length<_; omega,by show r1.1.length<_; omega⟩,⟨(wH 7) r0.1 r1.1,rfl,λ_=>rfl⟩,?_⟩;intro t ht;obtain⟨t1,t2⟩:=ht;simp only at t1 t2;refine⟨⟨⟨f,c,day,t.2⟩,t.1,t.2⟩,⟨⟨⟨rfl,rfl⟩,rfl,⟨rfl,rfl⟩,trivial⟩,qN f c day _,by trivial,trivial⟩,⟨_,rfl⟩,?_⟩;intro z hz
    have hz:z=t.2:=by
     rw [hz];show(if t.2=(0:Int) then t.2 else t.2)=t.2;by_cases g:t.2=0<;>simp [g]
    subst hz;exact RetR.st9 rfl (hq0 t (by rw [t1]; exact(congrArg Prod.snd he).symm) λg=>by rw [t2 g]; exact(congrArg Prod.fst he).symm) rfl rfl
   have hk:¬ k=7:=aC hk;refine⟨λhk=> ?_,λhk=> ?_⟩
   ·have hk:k=8:=aB hk;subst hk;have ho:opR 8 r0.1 r1.1=(wH 8) r0.1 r1.1:=rfl;rw [ho] at he;refine⟨⟨⟨f,c,day,0⟩,r0.1,r1.1⟩,⟨⟨⟨rfl,rfl⟩,rfl,rfl,trivial⟩,⟨⟨⟨rfl,rfl,za _ _ _⟩,⟨rfl,rfl,za _ _ _⟩,⟨rfl,rfl⟩,⟨rfl,h⟩,trivial⟩,trivial⟩,by trivial,rfl,by show r0.1.length<_; omega,by show r1.1.length<_; omega⟩,⟨(wH 8) r0.1 r1.1,rfl,λ_=>rfl⟩,?_⟩;intro t ht;obtain⟨t1,t2⟩:=ht;simp only at t1 t2;refine⟨⟨⟨f,c,day,t.2⟩,t.1,t.2⟩,⟨⟨⟨rfl,rfl⟩,rfl,⟨rfl,rfl⟩,trivial⟩,qN f c day _,by trivial,trivial⟩,⟨_,rfl⟩,?_⟩;intro z hz
    have hz:z=t.2:=by
     rw [hz];show(if t.2=(0:Int) then t.2 else t.2)=t.2;by_cases g:t.2=0<;>simp [g]
    subst hz;exact RetR.st9 rfl (hq0 t (by rw [t1]; exact(congrArg Prod.snd he).symm) λg=>by rw [t2 g]; exact(congrArg Prod.fst he).symm) rfl rfl
   have hk:¬ k=8:=aC hk;omega
 ·iterate 3 refine⟨λh=>(by cases h),λ_=> ?_⟩
  refine⟨λ_=> ?_,λh=>(by cases h)⟩;have z0:=z0 (by omega);have z1:=z1 (by omega);have z2:=z2 (by omega)
  have he:(((Ex.mk 9 r m d s).ev f day).v,((Ex.mk 9 r m d s).ev f day).e)=if((s.getD 0 Ex.nil).ev f day).g≠0 then([],((s.getD 0 Ex.nil).ev f day).g) else if((s.getD 0 Ex.nil).ev f day).b then(((s.getD 1 Ex.nil).ev f day).v,((s.getD 1 Ex.nil).ev f day).e) else(((s.getD 2 Ex.nil).ev f day).v,((s.getD 2 Ex.nil).ev f day).e):=by
   rw [hev];simp only [evN,valN];rw [aO (by decide),aO (by decide),aO (by decide),aP trivial,Ex.jh (by omega),Ex.jh (by omega),Ex.jh (by omega)]
  refine⟨⟨by decide,by omega⟩,λ_=>⟨⟨⟨f,c,day,0⟩,s.getD 0 Ex.nil⟩,⟨eqX2 _,qN f c day 0,by trivial,by show(s.getD 0 Ex.nil).size<n; omega,λ_=>⟨hs0,hf,hfl⟩⟩,ZD _ _ _,?_⟩⟩;intro r0 g0;obtain⟨g0,k0⟩:=g0.2 rfl;simp only [evA] at g0 k0
  have fin:∀ (y:Ex),(r0.2=0->(((Ex.mk 9 r m d s).ev f day).v,((Ex.mk 9 r m d s).ev f day).e)=((y.ev f day).v,(y.ev f day).e))->∀ (b:Blk) (t:L8×Int),((r0.2≠0->t.2=r0.2)/\(r0.2=0->t.2=(y.ev f day).e/\(t.2=0->t.1=(y.ev f day).v))) ->
    RetR (valC λk=>k.x.size<n+1/\VPre 1 k) 1 Q [.str t.1] [.box [.sl f.length 3 (fxG f),.sl c.length 4 (chG c),.i day,.i t.2],b]:=by
   intro y hy b t ht;refine RetR.st9 rfl (hq0 t ?_ λh0=> ?_) rfl rfl
   ·by_cases h3:r0.2=0
    ·rw [(ht.2 h3).1]; exact(congrArg Prod.snd (hy h3)).symm
    ·rw [ht.1 h3,g0];rw [aP (by rw [<- g0]; exact h3)] at he;exact(congrArg Prod.snd he).symm
   ·have h3:r0.2=0:=by
     refine bM λh3=> ?_
     exact h3 (by rw [<- ht.1 h3]; exact h0)
    rw [(ht.2 h3).2 h0]; exact(congrArg Prod.fst (hy h3)).symm
  refine⟨λhb=> ?_,λhb=> ?_⟩
  ·refine⟨⟨by decide,by omega⟩,λ_=>⟨⟨⟨f,c,day,r0.2⟩,s.getD 1 Ex.nil⟩,⟨eqX2 _,qN f c day r0.2,by trivial,by show(s.getD 1 Ex.nil).size<n; omega,λ_=>⟨hs1,hf,hfl⟩⟩,uv _ _ _,?_⟩⟩;intro t ht;exact fin _ (λh3=>by rw [he,aO (by rw [<- g0]; simpa using h3),aP (by rw [<- k0 h3]; exact hb)]) _ t ht
  ·refine⟨⟨by decide,by omega⟩,λ_=>⟨⟨⟨f,c,day,r0.2⟩,s.getD 2 Ex.nil⟩,⟨eqX2 _,qN f c day r0.2,by trivial,by show(s.getD 2 Ex.nil).size<n; omega,λ_=>⟨hs2,hf,hfl⟩⟩,uv _ _ _,?_⟩⟩;intro t ht;exact fin _ (λh3=>by rw [he,aO (by rw [<- g0]; simpa using h3),aO (by rw [<- k0 h3,hb]; decide)]) _ t ht
theorem Ur:zf prog 152 (hldC λk=>k.x.size<n+1/\VPre 2 k):=by
 refine zP (fn:=f152) (c:=f152.body.getD .skip) rfl rfl rfl (λh=>by cases h) λk hk O w0 I0 Q hl0 hq=> ?_
 obtain⟨⟨f,c,day,e⟩,⟨k,r,m,d,s⟩⟩:=k;obtain⟨hn,hv⟩:=hk;simp only at hn hv hq;refine zc.n (zkr h1 h2) [] (let v11:=s.getD 0 Ex.nil;let v10:=s.getD 1 Ex.nil;let v4:List Blk:=[.box [.sl f.length 3 (fxG f),.sl c.length 4 (chG c),.i day,.i e]];let v3:List AV:=[.int .u8 k,.str r,.str m,.i d,.sl s.length 5 (Ex.exG s)];let v2:=[AV.ptr 0 0,AV.agg [.int .u8 (Ex.kind v10),.str (Ex.rat v10),.str (Ex.name v10),.i (Ex.date v10),.sl (List.length (Ex.sub v10)) 5 (Ex.deep v10)]];let v1:=[AV.ptr 0 0,AV.agg [.int .u8 (Ex.kind v11),.str (Ex.rat v11),.str (Ex.name v11),.i (Ex.date v11),.sl (List.length (Ex.sub v11)) 5 (Ex.deep v11)]];.N (e=0) (.R [.bool false] [.box [.sl f.length 3 (fxG f),.sl c.length 4 (chG c),.i day,.i e],.box v3]) (.D (k=13) (.side ((0:Int)<=0/\(0:Int)<s.length) (.ex (λ(x:VX)=>eqL v1 [.ptr 0 0,.agg [.int .u8 x.x.kind,.str x.x.rat,.str x.x.name,.i x.x.date,.sl x.x.sub.length 5 (Ex.exG x.x.sub)]]/\eqH v4 [.box [.sl x.s.f.length 3 (fxG x.s.f),.sl x.s.c.length 4 (chG x.s.c),.i x.s.day,.i x.s.e]]/\1=1/\Ex.size x.x<n/\VPre (2:Int) x) λn_1=>.all (λ(r:Bool×Int)=>(St8.e n_1.s≠0->r.2=St8.e n_1.s)/\(St8.e n_1.s=0->r.2=Ev.g (evA n_1)/\(r.2=0->r.1=Ev.b (evA n_1)))) λn_2=>let v6:=n_1.s.err n_2.2;.side (n_2.1=true->(0:Int)<=1/\(1:Int)<s.length) (.ite (n_2.1 == true) (.ex (λ(x:VX)=>eqL v2 [.ptr 0 0,.agg [.int .u8 x.x.kind,.str x.x.rat,.str x.x.name,.i x.x.date,.sl x.x.sub.length 5 (Ex.exG x.x.sub)]]/\eqH [.box [.sl (List.length v6.f) 3 (fxG v6.f),.sl (List.length v6.c) 4 (chG v6.c),.i v6.day,.i v6.e]] [.box [.sl x.s.f.length 3 (fxG x.s.f),.sl x.s.c.length 4 (chG x.s.c),.i x.s.day,.i x.s.e]]/\1=1/\Ex.size x.x<n/\VPre (2:Int) x) λn=>.all (λ(r:Bool×Int)=>(St8.e n.s≠0->r.2=St8.e n.s)/\(St8.e n.s=0->r.2=Ev.g (evA n)/\(r.2=0->r.1=Ev.b (evA n)))) λn_3=>let v13:=n.s.err n_3.2;.R [.bool (bif n_2.1 then n_3.1 else false)] [.box [.sl (List.length v13.f) 3 (fxG v13.f),.sl (List.length v13.c) 4 (chG v13.c),.i v13.day,.i v13.e],.box v3]) (.R [.bool (bif n_2.1 then false else false)] [.box [.sl (List.length v6.f) 3 (fxG v6.f),.sl (List.length v6.c) 4 (chG v6.c),.i v6.day,.i v6.e],.box v3])))) (.D (k=14) (.side ((0:Int)<=0/\(0:Int)<s.length) (.ex (λ(x:VX)=>eqL v1 [.ptr 0 0,.agg [.int .u8 x.x.kind,.str x.x.rat,.str x.x.name,.i x.x.date,.sl x.x.sub.length 5 (Ex.exG x.x.sub)]]/\eqH v4 [.box [.sl x.s.f.length 3 (fxG x.s.f),.sl x.s.c.length 4 (chG x.s.c),.i x.s.day,.i x.s.e]]/\1=1/\Ex.size x.x<n/\VPre (2:Int) x) λn_1=>.all (λ(r:Bool×Int)=>(St8.e n_1.s≠0->r.2=St8.e n_1.s)/\(St8.e n_1.s=0->r.2=Ev.g (evA n_1)/\(r.2=0->r.1=Ev.b (evA n_1)))) λn_2=>let v7:=n_1.s.err n_2.2;.side (n_2.1=false->(0:Int)<=1/\(1:Int)<s.length) (.ite (n_2.1 == false) (.ex (λ(x:VX)=>eqL v2 [.ptr 0 0,.agg [.int .u8 x.x.kind,.str x.x.rat,.str x.x.name,.i x.x.date,.sl x.x.sub.length 5 (Ex.exG x.x.sub)]]/\eqH [.box [.sl (List.length v7.f) 3 (fxG v7.f),.sl (List.length v7.c) 4 (chG v7.c),.i v7.day,.i v7.e]] [.box [.sl x.s.f.length 3 (fxG x.s.f),.sl x.s.c.length 4 (chG x.s.c),.i x.s.day,.i x.s.e]]/\1=1/\Ex.size x.x<n/\VPre (2:Int) x) λn=>.all (λ(r:Bool×Int)=>(St8.e n.s≠0->r.2=St8.e n.s)/\(St8.e n.s=0->r.2=Ev.g (evA n)/\(r.2=0->r.1=Ev.b (evA n)))) λn_3=>let v14:=n.s.err n_3.2;.R [.bool (bif n_2.1 then true else n_3.1)] [.box [.sl (List.length v14.f) 3 (fxG v14.f),.sl (List.length v14.c) 4 (chG v14.c),.i v14.day,.i v14.e],.box v3]) (.R [.bool (bif n_2.1 then true else false)] [.box [.sl (List.length v7.f) 3 (fxG v7.f),.sl (List.length v7.c) 4 (chG v7.c),.i v7.day,.i v7.e],.box v3])))) (.D (k=15) (.side ((0:Int)<=0/\(0:Int)<s.length) (.ex (λ(x:VX)=>eqL v1 [.ptr 0 0,.agg [.int .u8 x.x.kind,.str x.x.rat,.str x.x.name,.i x.x.date,.sl x.x.sub.length 5 (Ex.exG x.x.sub)]]/\eqH v4 [.box [.sl x.s.f.length 3 (fxG x.s.f),.sl x.s.c.length 4 (chG x.s.c),.i x.s.day,.i x.s.e]]/\1=1/\Ex.size x.x<n/\VPre (2:Int) x) λn=>.all (λ(r:Bool×Int)=>(St8.e n.s≠0->r.2=St8.e n.s)/\(St8.e n.s=0->r.2=Ev.g (evA n)/\(r.2=0->r.1=Ev.b (evA n)))) λn_1=>let v8:=n.s.err n_1.2;.R [.bool (bif !Prod.fst n_1 then decide (St8.e v8=(0:Int)) else false)] [.box [.sl (List.length v8.f) 3 (fxG v8.f),.sl (List.length v8.c) 4 (chG v8.c),.i v8.day,.i v8.e],.box v3])) (.side ((0:Int)<=0/\(0:Int)<s.length) (.ex (λ(x:VX)=>eqL v1 [.ptr 0 0,.agg [.int .u8 x.x.kind,.str x.x.rat,.str x.x.name,.i x.x.date,.sl x.x.sub.length 5 (Ex.exG x.x.sub)]]/\eqH v4 [.box [.sl x.s.f.length 3 (fxG x.s.f),.sl x.s.c.length 4 (chG x.s.c),.i x.s.day,.i x.s.e]]/\1=1/\Ex.size x.x<n/\VPre (1:Int) x) λn_1=>.all (λ(r:L8×Int)=>(St8.e n_1.s≠0->r.2=St8.e n_1.s)/\(St8.e n_1.s=0->r.2=Ev.e (evA n_1)/\(r.2=0->r.1=Ev.v (evA n_1)))) λn_2=>let v12:=n_1.s.err n_2.2;.side ((0:Int)<=1/\(1:Int)<s.length) (.ex (λ(x:VX)=>eqL v2 [.ptr 0 0,.agg [.int .u8 x.x.kind,.str x.x.rat,.str x.x.name,.i x.x.date,.sl x.x.sub.length 5 (Ex.exG x.x.sub)]]/\eqH [.box [.sl (List.length v12.f) 3 (fxG v12.f),.sl (List.length v12.c) 4 (chG v12.c),.i v12.day,.i v12.e]] [.box [.sl x.s.f.length 3 (fxG x.s.f),.sl x.s.c.length 4 (chG x.s.c),.i x.s.day,.i x.s.e]]/\1=1/\Ex.size x.x<n/\VPre (1:Int) x) λn=>.all (λ(r:L8×Int)=>(St8.e n.s≠0->r.2=St8.e n.s)/\(St8.e n.s=0->r.2=Ev.e (evA n)/\(r.2=0->r.1=Ev.v (evA n)))) λn_3=>let v15:=n.s.err n_3.2;.ex (q51 [.ptr 0 0,.str n_2.1,.str n_3.1] [.box [.sl (List.length v15.f) 3 (fxG v15.f),.sl (List.length v15.c) 4 (chG v15.c),.i v15.day,.i v15.e]]) λn=>.all (λ(r:Int×Int)=>r=cmpE n.s.e n.a n.b) λn_4=>let v9:=n.s.err n_4.2;let v5:List Blk:=[.box [.sl (List.length v9.f) 3 (fxG v9.f),.sl (List.length v9.c) 4 (chG v9.c),.i v9.day,.i v9.e],.box v3];.D (k=11) (.R [.bool (decide (n_4.1<0))] v5) (.R [.bool (bif decide (n_4.1=0) then decide (St8.e v9=(0:Int)) else false)] v5)))))))) ?_;simp only [q51,Tree.holds,zd];refine⟨λh=> ?_,λh=> ?_⟩
 ·have h:e≠0:=by simpa using h
  exact RetR.st9 rfl (hq (false,e) ⟨λ_=>rfl,λh0=>absurd h0 h⟩) rfl rfl
 have h:e=0:=by simpa using h
 subst h;obtain⟨hs,hf,hfl⟩:=hv rfl;simp only at hs hf hfl;have hq0:∀ t:Bool×Int,t.2=((Ex.mk k r m d s).ev f day).g->(t.2=0->t.1=((Ex.mk k r m d s).ev f day).b)->Q (.bool t.1,[(St8.mk f c day t.2).box]):=λt h1 h2=>hq t ⟨λh=>absurd rfl h,λ_=>⟨h1,h2⟩⟩
 clear hq;have hev:(Ex.mk k r m d s).ev f day=evN f day k r m d (Ex.evs f day s):=by rw [Ex.ev]
 have hc:=Ex.XH hs;simp only [Ex.kind,Ex.sub,Ex.rat] at hc;rw [Ex.size] at hn;have z0:=λg=>Ex.qb (s:=s) (i:=0) g
 have z1:=λg=>Ex.qb (s:=s) (i:=1) g
 have fin:∀ (t:Bool×Int) (b:Blk),t.2=((Ex.mk k r m d s).ev f day).g->(t.2=0->t.1=((Ex.mk k r m d s).ev f day).b)->RetR (hldC λk=>k.x.size<n+1/\VPre 2 k) 1 Q [.bool t.1] [.box [.sl f.length 3 (fxG f),.sl c.length 4 (chG c),.i day,.i t.2],b]:=λt b h1 h2=>RetR.st9 rfl (hq0 t h1 h2) rfl rfl
 rcases hc with ⟨hk,hl,hs0,hs1⟩ | ⟨hk,hl,hs0,hs1⟩ | ⟨rfl,hl,hs0⟩
 ·iterate 3 refine⟨λh=>absurd (aB h) (by omega),λ_=> ?_⟩
  have z0:=z0 (by omega);have z1:=z1 (by omega)
  have he:(((Ex.mk k r m d s).ev f day).b,((Ex.mk k r m d s).ev f day).g)=Jg false ((s.getD 0 Ex.nil).ev f day) ((s.getD 1 Ex.nil).ev f day) (XN k):=by
   rw [hev];simp only [evN,hldN];rw [aO (by omega),Ex.jh (by omega),Ex.jh (by omega)]
  unfold Jg at he;refine⟨⟨by decide,by omega⟩,λ_=>⟨⟨⟨f,c,day,0⟩,s.getD 0 Ex.nil⟩,⟨eqX2 _,qN f c day 0,by trivial,by show(s.getD 0 Ex.nil).size<n; omega,λ_=>⟨hs0,hf,hfl⟩⟩,uv _ _ _,?_⟩⟩;intro r0 g0;obtain⟨g0,k0⟩:=g0.2 rfl;simp only [evA] at g0 k0;refine⟨⟨by decide,by omega⟩,λ_=>⟨⟨⟨f,c,day,r0.2⟩,s.getD 1 Ex.nil⟩,⟨eqX2 _,qN f c day r0.2,by trivial,by show(s.getD 1 Ex.nil).size<n; omega,λ_=>⟨hs1,hf,hfl⟩⟩,uv _ _ _,?_⟩⟩;intro r1 g1;simp only [evA] at g1
  have hboth:r1.2=0->r0.2=0/\r0.1=((s.getD 0 Ex.nil).ev f day).v/\r1.1=((s.getD 1 Ex.nil).ev f day).v/\errR r0.1=0/\errR r1.1=0/\((Ex.mk k r m d s).ev f day).b=(XN k r0.1 r1.1).1/\((Ex.mk k r m d s).ev f day).g=(XN k r0.1 r1.1).2:=by
   intro h
   have h3:r0.2=0:=by
    refine bM λh3=> ?_
    exact h3 (by rw [<- g1.1 h3]; exact h)
   obtain⟨q1,k1'⟩:=g1.2 h3;have k0:=k0 h3;have k1':=k1' h;rw [aO (by rw [<- g0]; simpa using h3),aO (by rw [<- q1]; simpa using h),<- k0,<- k1'] at he;have l0:errR r0.1=0:=by rw [k0]; exact Ex.Zq hf day _ hs0 (by rw [<- g0]; exact h3)
   have l1:errR r1.1=0:=by rw [k1']; exact Ex.Zq hf day _ hs1 (by rw [<- q1]; exact h)
   exact⟨h3,k0,k1',l0,l1,congrArg Prod.fst he,congrArg Prod.snd he⟩
  refine⟨⟨⟨f,c,day,r1.2⟩,r0.1,r1.1⟩,⟨⟨⟨rfl,rfl⟩,rfl,rfl,trivial⟩,qN f c day r1.2,by trivial,λh=> ?_⟩,⟨_,rfl⟩,?_⟩
  ·obtain⟨_,_,_,l0,l1,_⟩:=hboth h;have l0:=vy l0;have l1:=vy l1;exact⟨by show r0.1.length<_; omega,by show r1.1.length<_; omega⟩
  intro z hz;simp only at hz;by_cases h:r1.2=0
  ·obtain⟨h3,k0,k1',l0,l1,e1,e2⟩:=hboth h;have hz:z=cmpR r0.1 r1.1:=by rw [hz]; unfold cmpE; rw [aO (by rw [h]; simp)]
   unfold XN at e1 e2;refine⟨λhk=> ?_,λhk=> ?_⟩
   ·have hk:k=11:=aB hk;refine fin (decide (z.1<0),z.2) _ ?_ λh0=> ?_
    ·rw [e2,hz];by_cases g:(cmpR r0.1 r1.1).2=0
     ·rw [aO (by rw [g]; simp)]; exact g
     ·rw [aP g]
    ·have h0:z.2=0:=h0;rw [hz] at h0 ⊢;rw [e1,aO (by rw [h0]; simp),aP hk]
   ·have hk:¬ k=11:=aC hk;refine fin ((bif decide (z.1=0) then decide (z.2=0) else false),z.2) _ ?_ λh0=> ?_
    ·rw [e2,hz];by_cases g:(cmpR r0.1 r1.1).2=0
     ·rw [aO (by rw [g]; simp)]; exact g
     ·rw [aP g]
    ·have h0:z.2=0:=h0;rw [hz] at h0 ⊢;rw [e1,aO (by rw [h0]; simp),aO hk];simp only [h0];cases decide ((cmpR r0.1 r1.1).1=0)<;>rfl
  ·have hz:z=(0,r1.2):=by rw [hz]; unfold cmpE; rw [aP h]
   have hg:((Ex.mk k r m d s).ev f day).g=r1.2:=by
    have he:=congrArg Prod.snd he;simp only at he;rw [he];by_cases h3:r0.2=0
    ·obtain⟨q1,_⟩:=g1.2 h3;rw [aO (by rw [<- g0]; simpa using h3),aP (by rw [<- q1]; exact h),q1]
    ·rw [aP (by rw [<- g0]; exact h3),g1.1 h3,g0]
   subst hz;refine⟨λhk=> ?_,λhk=> ?_⟩
   ·exact fin (false,r1.2) _ hg.symm λh0=>absurd h0 h
   ·refine fin ((bif decide ((0:Int)=0) then decide (r1.2=0) else false),r1.2) _ hg.symm λh0=>absurd h0 h
 ·have z0:=z0 (by omega);have z1:=z1 (by omega)
  have he:(((Ex.mk k r m d s).ev f day).b,((Ex.mk k r m d s).ev f day).g)=if((s.getD 0 Ex.nil).ev f day).g≠0 then(false,((s.getD 0 Ex.nil).ev f day).g) else if((s.getD 0 Ex.nil).ev f day).b=decide (k=14) then(((s.getD 0 Ex.nil).ev f day).b,0) else(((s.getD 1 Ex.nil).ev f day).b,((s.getD 1 Ex.nil).ev f day).g):=by
   rw [hev];simp only [evN,hldN];rw [aP (by omega),aO (show ¬ k=15 by omega),Ex.jh (by omega),Ex.jh (by omega)]
  have go:∀ (r0:Bool×Int),r0.2=((s.getD 0 Ex.nil).ev f day).g->(r0.2=0->r0.1=((s.getD 0 Ex.nil).ev f day).b) ->
    (r0.1=decide (k=14)->r0.2=((Ex.mk k r m d s).ev f day).g/\(r0.2=0->r0.1=((Ex.mk k r m d s).ev f day).b)) /\
    (r0.1≠decide (k=14)->∀ r1:Bool×Int,((r0.2≠0->r1.2=r0.2)/\(r0.2=0->r1.2=((s.getD 1 Ex.nil).ev f day).g/\(r1.2=0->r1.1=((s.getD 1 Ex.nil).ev f day).b)))->r1.2=((Ex.mk k r m d s).ev f day).g/\(r1.2=0->r1.1=((Ex.mk k r m d s).ev f day).b)):=by
   intro r0 g0 k0;have e1:=congrArg Prod.fst he;have e2:=congrArg Prod.snd he;simp only at e1 e2;rw [e1,e2];by_cases h3:r0.2=0
   ·rw [aO (by rw [<- g0]; simpa using h3),<- k0 h3];refine⟨λh=> ?_,λh r1 g1=> ?_⟩
    ·rw [aP h]; exact⟨h3,λ_=>rfl⟩
    ·rw [aO h]; exact g1.2 h3
   ·rw [aP (by rw [<- g0]; exact h3)];refine⟨λh=>⟨g0,λh0=>absurd h0 h3⟩,λh r1 g1=> ?_⟩;rw [g1.1 h3];exact⟨g0,λh0=>absurd h0 h3⟩
  have first:∃ r:Bool×Int,((0:Int)≠0->r.2=0)/\((0:Int)=0->r.2=(evA ⟨⟨f,c,day,0⟩,s.getD 0 Ex.nil⟩).g/\(r.2=0->r.1=(evA ⟨⟨f,c,day,0⟩,s.getD 0 Ex.nil⟩).b)):=ZD _ _ _;rcases hk with rfl | rfl
  ·refine⟨λ_=> ?_,λh=>(by cases h)⟩;refine⟨⟨by decide,by omega⟩,λ_=>⟨⟨⟨f,c,day,0⟩,s.getD 0 Ex.nil⟩,⟨eqX2 _,qN f c day 0,by trivial,by show(s.getD 0 Ex.nil).size<n; omega,λ_=>⟨hs0,hf,hfl⟩⟩,first,?_⟩⟩;intro r0 g0;obtain⟨g0,k0⟩:=g0.2 rfl;obtain⟨go1,go2⟩:=go r0 g0 k0;refine⟨λ_=>⟨by decide,by omega⟩,λ_=>⟨λhb=> ?_,λhb=> ?_⟩⟩
   ·have hb:r0.1=true:=by simpa using hb
    refine⟨⟨⟨f,c,day,r0.2⟩,s.getD 1 Ex.nil⟩,⟨eqX2 _,qN f c day r0.2,by trivial,by show(s.getD 1 Ex.nil).size<n; omega,λ_=>⟨hs1,hf,hfl⟩⟩,ZD _ _ _,?_⟩;intro r1 g1;rw [hb];obtain⟨u1,u2⟩:=go2 (by rw [hb]; decide) r1 g1;exact fin r1 _ u1 u2
   ·have hb:r0.1=false:=by simpa using hb
    rw [hb];obtain⟨u1,u2⟩:=go1 (by rw [hb]; rfl);exact fin (false,r0.2) _ u1 (λh0=>by rw [<- u2 h0,hb])
  ·refine⟨λh=>(by cases h),λ_=>⟨λ_=> ?_,λh=>(by cases h)⟩⟩;refine⟨⟨by decide,by omega⟩,λ_=>⟨⟨⟨f,c,day,0⟩,s.getD 0 Ex.nil⟩,⟨eqX2 _,qN f c day 0,by trivial,by show(s.getD 0 Ex.nil).size<n; omega,λ_=>⟨hs0,hf,hfl⟩⟩,first,?_⟩⟩;intro r0 g0;obtain⟨g0,k0⟩:=g0.2 rfl;obtain⟨go1,go2⟩:=go r0 g0 k0;refine⟨λ_=>⟨by decide,by omega⟩,λ_=>⟨λhb=> ?_,λhb=> ?_⟩⟩
   ·have hb:r0.1=false:=by simpa using hb
    refine⟨⟨⟨f,c,day,r0.2⟩,s.getD 1 Ex.nil⟩,⟨eqX2 _,qN f c day r0.2,by trivial,by show(s.getD 1 Ex.nil).size<n; omega,λ_=>⟨hs1,hf,hfl⟩⟩,ZD _ _ _,?_⟩;intro r1 g1;rw [hb];obtain⟨u1,u2⟩:=go2 (by rw [hb]; decide) r1 g1;exact fin r1 _ u1 u2
   ·have hb:r0.1=true:=by simpa using hb
    rw [hb];obtain⟨u1,u2⟩:=go1 (by rw [hb]; rfl);exact fin (true,r0.2) _ u1 (λh0=>by rw [<- u2 h0,hb])
 ·iterate 2 refine⟨λh=>(by cases h),λ_=> ?_⟩
  refine⟨λ_=> ?_,λh=>(by cases h)⟩;have z0:=z0 (by omega)
  have he:(((Ex.mk 15 r m d s).ev f day).b,((Ex.mk 15 r m d s).ev f day).g)=if((s.getD 0 Ex.nil).ev f day).g≠0 then(false,((s.getD 0 Ex.nil).ev f day).g) else(!((s.getD 0 Ex.nil).ev f day).b,0):=by
   rw [hev];simp only [evN,hldN];rw [aP (by decide),aP trivial,Ex.jh (by omega)]
  refine⟨⟨by decide,by omega⟩,λ_=>⟨⟨⟨f,c,day,0⟩,s.getD 0 Ex.nil⟩,⟨eqX2 _,qN f c day 0,by trivial,by show(s.getD 0 Ex.nil).size<n; omega,λ_=>⟨hs0,hf,hfl⟩⟩,ZD _ _ _,?_⟩⟩;intro r0 g0;obtain⟨g0,k0⟩:=g0.2 rfl;simp only [evA] at g0 k0;have e1:=congrArg Prod.fst he;have e2:=congrArg Prod.snd he;simp only at e1 e2;refine fin ((bif !r0.1 then decide (r0.2=0) else false),r0.2) _ ?_ λh3=> ?_
  ·rw [e2];by_cases h3:r0.2=0
   ·rw [aO (by rw [<- g0]; simpa using h3)]; exact h3
   ·rw [aP (by rw [<- g0]; exact h3)]; exact g0
  ·have h3:r0.2=0:=h3;rw [e1,aO (by rw [<- g0]; simpa using h3),<- k0 h3];simp only [h3];cases r0.1<;>rfl
end
theorem zco:zf prog 153 (valC (VPre 1))/\zf prog 152 (hldC (VPre 2)):=
 zfn (λk:VX=>k.x.size) (λk:VX=>k.x.size) λn h1 h2=>⟨zaj n h1 h2,Ur n h1 h2⟩
theorem zh2:zf prog 153 (valC (VPre 1)):=zco.1
theorem zhp:zf prog 152 (hldC (VPre 2)):=zco.2
end Go.Proofs.Tryz
end
section
set_option maxRecDepth 100000
open Go Go.Sx Go.Proofs Go.Nov
namespace Go.Proofs.Tryz
attribute [local simp] eqKV eqA eqA0 eqH eqB eqL eqL0
structure BX where
 x:Ex
 want:Int
 day:Int
 f:List Fx
 c:List Ch
def BX.ask(b:BX):Int:=askE b.x b.want b.day b.f b.c
def yX:Ctr:=ctrT false false (λb:BX=>[b.x.exA,.int .u8 b.want,.i b.day,envA b.f b.c]) (λ_=>[]) (λb=>b.x.size<2^40/\b.x.zJ<2^40/\envP (b.f,b.c)) (λb r=>r=b.ask) (λb (r:Int)=>(.ptr 0 0,[(St8.mk b.f b.c b.day r).box]))
noncomputable def GBe:=tb Ko (tb K7 (tb Z9 (tb ZG tz)))
abbrev q54(A:List AV)(x:List Fx×List Ch):Prop:=eqL A [.agg [.sl x.1.length 3 (fxG x.1),.sl x.2.length 4 (chG x.2)]]/\envP x
theorem zky:zf prog 151 yX:=by
 refine zP (fn:=f151) (c:=f151.body.getD .skip) rfl rfl rfl (λh=>by cases h) λb hb O w0 I0 Q hl0 hq=> ?_
 obtain rfl:I0=[]:=aU.1 hl0;obtain⟨x,want,day,f,c⟩:=b;obtain⟨h1,h2,h3⟩:=hb;replace hq:=hq _ rfl;simp only [BX.ask] at h1 h2 h3 hq;refine zc.n GBe.h [] (let v6:=[AV.i day];let v5:=q54 [.agg [.sl f.length 3 (fxG f),.sl c.length 4 (chG c)]];let v4:=[AV.agg [.int .u8 x.kind,.str x.rat,.str x.name,.i x.date,.sl x.sub.length 5 (Ex.exG x.sub)]];let v3:List AV:=[.sl f.length 3 (fxG f),.sl c.length 4 (chG c)];let v2:List AV:=[.int .u8 x.kind,.str x.rat,.str x.name,.i x.date,.sl x.sub.length 5 (Ex.exG x.sub)];let v1:qa:=.ret [.ptr 2 0] [.box v2,.box v3,.box [.sl f.length 3 (fxG f),.sl c.length 4 (chG c),.i day,.i 2]];.ex (q24 v4) λn=>.all (λ(r:Int)=>r=Ex.errX n) λn=>.ex (λ(x9:Ex)=>decide (n=0)=true->q23 v4 x9) λn_1=>.all (λ(x:Int)=>decide (n=0)=true->x=Ex.zx n_1) λn_2=>.ite (bif decide (n=0) then !decide (n_2=want) else false) (.ite false (.ex v5 λn=>.all (λ(r:Int)=>r=errE n.1 n.2) λn=>.ex (λ(x:Int)=>decide (n=0)=true->q21 v6 x) λn_3=>.all (λ(x:Bool)=>decide (n=0)=true->x=dayB n_3) λn_4=>.ite (bif decide (n=0) then !n_4 else false) (.leaf v1) (.R [.ptr 2 0] [.box v2,.box v3,.box [.sl f.length 3 (fxG f),.sl c.length 4 (chG c),.i day,.i n]])) (.ex (λ(x:Int)=>decide ((32:Int)=0)=true->q21 v6 x) λn=>.all (λ(x:Bool)=>decide ((32:Int)=0)=true->x=dayB n) λn=>.ite (bif decide ((32:Int)=0) then !n else false) (.leaf v1) (.R [.ptr 2 0] [.box v2,.box v3,.box [.sl f.length 3 (fxG f),.sl c.length 4 (chG c),.i day,.i 32]]))) (.D (n=0) (.ex v5 λn=>.all (λ(r:Int)=>r=errE n.1 n.2) λn=>.ex (λ(x:Int)=>decide (n=0)=true->q21 v6 x) λn_3=>.all (λ(x:Bool)=>decide (n=0)=true->x=dayB n_3) λn_4=>.ite (bif decide (n=0) then !n_4 else false) (.leaf v1) (.R [.ptr 2 0] [.box v2,.box v3,.box [.sl f.length 3 (fxG f),.sl c.length 4 (chG c),.i day,.i n]])) (.ex (λ(x:Int)=>decide (n=0)=true->q21 v6 x) λn_3=>.all (λ(x:Bool)=>decide (n=0)=true->x=dayB n_3) λn_4=>.ite (bif decide (n=0) then !n_4 else false) (.leaf v1) (.R [.ptr 2 0] [.box v2,.box v3,.box [.sl f.length 3 (fxG f),.sl c.length 4 (chG c),.i day,.i n]])))) ?_;simp only [q21,q23,q24,q54,Tree.holds,zd];have eE:eqL [.agg [.sl f.length 3 (fxG f),.sl c.length 4 (chG c)]] [envA f c]:=⟨⟨⟨rfl,rfl,za _ _ _⟩,⟨rfl,rfl,za _ _ _⟩,trivial⟩,trivial⟩;have eX:eqL [x.exA] [x.exA]:=⟨⟨⟨rfl,rfl⟩,rfl,rfl,⟨rfl,rfl⟩,⟨rfl,rfl,za _ _ _⟩,trivial⟩,trivial⟩;generalize hask:askE x want day f c=ask at hq
 have ret:∀ (b0 b1:Blk),RetR yX 0 Q [.ptr 2 0] [b0,b1,.box [.sl f.length 3 (fxG f),.sl c.length 4 (chG c),.i day,.i ask]]:=by
  intro b0 b1;refine RetR.outs [2] rfl rfl hq (λh=>by cases h) ?_ ?_ rfl
  ·exact⟨rfl,rfl⟩
  ·exact qN f c day ask
 have tail:∀ (e0:Int) (b0 b1:Blk),(if e0=0 then(if dayB day=true then 0 else 2) else e0)=ask->∃ n3:Int,((decide (e0=0)=true->eqL [.i day] [.i n3]/\True)/\(∃ b:Bool,decide (e0=0)=true->b=dayB n3)/\∀ b:Bool,(decide (e0=0)=true->b=dayB n3) ->
   ((bif decide (e0=0) then !b else false)=true->RetR yX 0 Q [.ptr 2 0] [b0,b1,.box [.sl f.length 3 (fxG f),.sl c.length 4 (chG c),.i day,.i 2]]) /\
   ((bif decide (e0=0) then !b else false)=false->RetR yX 0 Q [.ptr 2 0] [b0,b1,.box [.sl f.length 3 (fxG f),.sl c.length 4 (chG c),.i day,.i e0]])):=by
  intro e0 b0 b1 h;refine⟨day,λ_=>⟨⟨⟨rfl,rfl⟩,trivial⟩,trivial⟩,⟨_,λ_=>rfl⟩,λb hb=> ?_⟩;by_cases h0:e0=0
  ·have hb:=hb (aX h0);rw [aP h0] at h;rw [aX h0,hb,h0];cases hd:dayB day with
   | true=>
    rw [hd,aP rfl] at h;rw [h];exact⟨λh=>(by cases h),λ_=>ret _ _⟩
   | false=>
    rw [hd,aO (by decide)] at h;rw [h];exact⟨λ_=>ret _ _,λh=>(by cases h)⟩
  ·rw [aO h0] at h;rw [aW h0,h];exact⟨λh=>(by cases h),λ_=>ret _ _⟩
 have chk:∀ (b0 b1:Blk),x.errX=0->x.zx=want->∃ n:List Fx×List Ch,(eqL [.agg [.sl f.length 3 (fxG f),.sl c.length 4 (chG c)]] [.agg [.sl n.1.length 3 (fxG n.1),.sl n.2.length 4 (chG n.2)]]/\envP n)/\(∃ r,r=errE n.1 n.2)/\∀ r:Int,r=errE n.1 n.2 ->
   ∃ n3:Int,((decide (r=0)=true->eqL [.i day] [.i n3]/\True)/\(∃ b:Bool,decide (r=0)=true->b=dayB n3)/\∀ b:Bool,(decide (r=0)=true->b=dayB n3) ->
   ((bif decide (r=0) then !b else false)=true->RetR yX 0 Q [.ptr 2 0] [b0,b1,.box [.sl f.length 3 (fxG f),.sl c.length 4 (chG c),.i day,.i 2]]) /\
   ((bif decide (r=0) then !b else false)=false->RetR yX 0 Q [.ptr 2 0] [b0,b1,.box [.sl f.length 3 (fxG f),.sl c.length 4 (chG c),.i day,.i r]])):=by
  intro b0 b1 g1 g2;refine⟨(f,c),⟨eE,h3⟩,⟨_,rfl⟩,?_⟩;rintro _ rfl;refine tail _ _ _ ?_;rw [<- hask,zq3 g1 g2]
 refine⟨x,⟨eX,h1,h2⟩,⟨_,rfl⟩,?_⟩;rintro _ rfl;refine⟨x,λ_=>⟨eX,by omega,h2⟩,⟨_,λ_=>rfl⟩,?_⟩;intro z hz;by_cases g1:x.errX=0
 ·have hz:=hz (aX g1);subst hz;refine⟨λhc=>⟨λh=>(by cases h),λ_=> ?_⟩,λhc=>⟨λ_=> ?_,λh=>absurd g1 (aC h)⟩⟩
  ·have g2:¬ x.zx=want:=by
    rw [aX g1] at hc;simpa using hc
   refine tail 32 _ _ ?_;rw [<- hask,zuo g1 g2];rfl
  ·have g2:x.zx=want:=by
    rw [aX g1] at hc;simpa using hc
   exact chk _ _ g1 g2
 ·refine⟨λhc=> ?_,λ_=>⟨λh=>absurd (aB h) g1,λ_=> ?_⟩⟩
  ·rw [aW g1] at hc; cases hc
  ·refine tail _ _ _ ?_;rw [<- hask,zuh g1,aO g1]
structure VI where
 x:Ex
 day:Int
 f:List Fx
 c:List Ch
def VI.ok(k:VI):Prop:=k.x.size<2^40/\k.x.zJ<2^40/\envP (k.f,k.c)
def zkj:Ctr:=ctrP true (λk:VI=>[k.x.exA,.i k.day,envA k.f k.c]) VI.ok (λk r=>r=jW k.x k.day k.f k.c) (λ_ (r:L8×Int)=>(.tup [.str r.1,.i r.2],[]))
def zgj:Ctr:=ctrP true (λk:VI=>[k.x.exA,.i k.day,envA k.f k.c]) VI.ok (λk r=>r=xM k.x k.day k.f k.c) (λ_ (r:Bool×Int)=>(.tup [.bool r.1,.i r.2],[]))
noncomputable def GVh:=tb zky (tb zh2 (tb zhp tz))
abbrev q55(A:List AV)(H:Heap)(x:BX):Prop:=eqL A [.agg [.int .u8 x.x.kind,.str x.x.rat,.str x.x.name,.i x.x.date,.sl x.x.sub.length 5 (Ex.exG x.x.sub)],.int .u8 x.want,.i x.day,.agg [.sl x.f.length 3 (fxG x.f),.sl x.c.length 4 (chG x.c)]]/\eqH H []/\0=0/\Ex.size x.x<1099511627776/\Ex.zJ x.x<1099511627776/\envP (BX.f x,BX.c x)
theorem zhe:zf prog 121 zkj:=by
 refine zh' f121 λk hk O w0 Q hq=> ?_
 obtain⟨x,day,f,c⟩:=k;obtain⟨h1,h2,h3⟩:=hk;replace hq:=hq _ rfl;simp only at h1 h2 h3 hq;unfold jW at hq;refine zc.n GVh.h [] (let v2:=[AV.int .u8 x.kind,AV.str x.rat,AV.str x.name,AV.i x.date,AV.sl x.sub.length 5 (Ex.exG x.sub)];.ex (q55 [.agg v2,.int .u8 1,.i day,.agg [.sl f.length 3 (fxG f),.sl c.length 4 (chG c)]] []) λn=>.all (λ(r:Int)=>r=BX.ask n) λn_1=>.ex (λ(x_1:VX)=>eqL [.ptr 0 0,.agg v2] [.ptr 0 0,.agg [.int .u8 x_1.x.kind,.str x_1.x.rat,.str x_1.x.name,.i x_1.x.date,.sl x_1.x.sub.length 5 (Ex.exG x_1.x.sub)]]/\eqH [.box [.sl n.f.length 3 (fxG n.f),.sl n.c.length 4 (chG n.c),.i n.day,.i n_1]] [.box [.sl x_1.s.f.length 3 (fxG x_1.s.f),.sl x_1.s.c.length 4 (chG x_1.s.c),.i x_1.s.day,.i x_1.s.e]]/\1=1/\VPre (1:Int) x_1) λn=>.all (λ(r:L8×Int)=>(St8.e n.s≠0->r.2=St8.e n.s)/\(St8.e n.s=0->r.2=Ev.e (evA n)/\(r.2=0->r.1=Ev.v (evA n)))) λn_2=>let v3:=n.s.err n_2.2;let v1:List Blk:=[.box [.int .u8 x.kind,.str x.rat,.str x.name,.i x.date,.sl x.sub.length 5 (Ex.exG x.sub)],.box [.sl f.length 3 (fxG f),.sl c.length 4 (chG c)],.box [.sl (List.length v3.f) 3 (fxG v3.f),.sl (List.length v3.c) 4 (chG v3.c),.i v3.day,.i v3.e]];.N (St8.e v3=(0:Int)) (.R [.str #[].toList,.i v3.e] v1) (.R [.str n_2.1,.i 0] v1)) ?_;simp only [q55,Tree.holds,zd];have eB:eqL [x.exA,.int .u8 1,.i day,envA f c] [x.exA,.int .u8 1,.i day,envA f c]:=⟨⟨⟨rfl,rfl⟩,rfl,rfl,⟨rfl,rfl⟩,⟨rfl,rfl,za _ _ _⟩,trivial⟩,⟨rfl,rfl⟩,⟨rfl,rfl⟩,⟨⟨rfl,rfl,za _ _ _⟩,⟨rfl,rfl,za _ _ _⟩,trivial⟩,trivial⟩;refine⟨⟨x,1,day,f,c⟩,⟨eB,trivial,trivial,h1,h2,h3⟩,⟨_,rfl⟩,?_⟩;rintro e he;have he:e=askE x 1 day f c:=he;rw [<- he] at hq
 have hv:VPre 1 ⟨⟨f,c,day,e⟩,x⟩:=by
  intro h0;have h0:e=0:=h0;obtain⟨_,g2,g3,_⟩:=Wy (he.symm.trans h0);obtain⟨g4,g5,_⟩:=zaz.1 g3;refine⟨g2,g5,?_⟩;show f.length<2^40;omega
 refine⟨⟨⟨f,c,day,e⟩,x⟩,⟨zp9 x,qN f c day e,trivial,hv⟩,uv _ _ _,?_⟩;intro r hr;simp only [evA] at hr;refine⟨λh=> ?_,λh=> ?_⟩
 ·have h:r.2≠0:=by
   intro h0;have h':(!decide (r.2=0))=true:=h;rw [h0] at h'; cases h'
  have eq:(if e≠0 then([],e) else if(x.ev f day).e≠0 then([],(x.ev f day).e) else((x.ev f day).v,0))=(([]:L8),r.2):=by
   by_cases h0:e=0
   ·obtain⟨q1,_⟩:=hr.2 h0;rw [aO (by rw [h0]; simp),aP (by rw [<- q1]; exact h),q1]
   ·rw [aP h0,hr.1 h0]
  rw [eq] at hq;exact RetR.scal hq rfl (by simp [resV,St8.err])
 ·have h:r.2=0:=by
   have h':(!decide (r.2=0))=false:=h;simpa using h'
  have h0:e=0:=bM λh0=>h0 (by rw [<- hr.1 h0]; exact h)
  obtain⟨q1,k1⟩:=hr.2 h0
  have eq:(if e≠0 then([],e) else if(x.ev f day).e≠0 then([],(x.ev f day).e) else((x.ev f day).v,0))=(r.1,0):=by
   rw [aO (by rw [h0]; simp),aO (by rw [<- q1,h]; simp),k1 h]
  rw [eq] at hq;exact RetR.scal hq rfl (by simp [resV])
theorem zgg:zf prog 118 zgj:=by
 refine zh' f118 λk hk O w0 Q hq=> ?_
 obtain⟨x,day,f,c⟩:=k;obtain⟨h1,h2,h3⟩:=hk;replace hq:=hq _ rfl;simp only at h1 h2 h3 hq;unfold xM at hq;refine zc.n GVh.h [] (let v2:=[AV.int .u8 x.kind,AV.str x.rat,AV.str x.name,AV.i x.date,AV.sl x.sub.length 5 (Ex.exG x.sub)];.ex (q55 [.agg v2,.int .u8 2,.i day,.agg [.sl f.length 3 (fxG f),.sl c.length 4 (chG c)]] []) λn=>.all (λ(r:Int)=>r=BX.ask n) λn_1=>.ex (λ(x_1:VX)=>eqL [.ptr 0 0,.agg v2] [.ptr 0 0,.agg [.int .u8 x_1.x.kind,.str x_1.x.rat,.str x_1.x.name,.i x_1.x.date,.sl x_1.x.sub.length 5 (Ex.exG x_1.x.sub)]]/\eqH [.box [.sl n.f.length 3 (fxG n.f),.sl n.c.length 4 (chG n.c),.i n.day,.i n_1]] [.box [.sl x_1.s.f.length 3 (fxG x_1.s.f),.sl x_1.s.c.length 4 (chG x_1.s.c),.i x_1.s.day,.i x_1.s.e]]/\1=1/\VPre (2:Int) x_1) λn=>.all (λ(r:Bool×Int)=>(St8.e n.s≠0->r.2=St8.e n.s)/\(St8.e n.s=0->r.2=Ev.g (evA n)/\(r.2=0->r.1=Ev.b (evA n)))) λn_2=>let v3:=n.s.err n_2.2;let v1:List Blk:=[.box [.int .u8 x.kind,.str x.rat,.str x.name,.i x.date,.sl x.sub.length 5 (Ex.exG x.sub)],.box [.sl f.length 3 (fxG f),.sl c.length 4 (chG c)],.box [.sl (List.length v3.f) 3 (fxG v3.f),.sl (List.length v3.c) 4 (chG v3.c),.i v3.day,.i v3.e]];.N (St8.e v3=(0:Int)) (.R [.bool false,.i v3.e] v1) (.R [.bool n_2.1,.i 0] v1)) ?_;simp only [q55,Tree.holds,zd];have eB:eqL [x.exA,.int .u8 2,.i day,envA f c] [x.exA,.int .u8 2,.i day,envA f c]:=⟨⟨⟨rfl,rfl⟩,rfl,rfl,⟨rfl,rfl⟩,⟨rfl,rfl,za _ _ _⟩,trivial⟩,⟨rfl,rfl⟩,⟨rfl,rfl⟩,⟨⟨rfl,rfl,za _ _ _⟩,⟨rfl,rfl,za _ _ _⟩,trivial⟩,trivial⟩;refine⟨⟨x,2,day,f,c⟩,⟨eB,trivial,trivial,h1,h2,h3⟩,⟨_,rfl⟩,?_⟩;rintro e he;have he:e=askE x 2 day f c:=he;rw [<- he] at hq
 have hv:VPre 2 ⟨⟨f,c,day,e⟩,x⟩:=by
  intro h0;have h0:e=0:=h0;obtain⟨_,g2,g3,_⟩:=Wy (he.symm.trans h0);obtain⟨g4,g5,_⟩:=zaz.1 g3;refine⟨g2,g5,?_⟩;show f.length<2^40;omega
 refine⟨⟨⟨f,c,day,e⟩,x⟩,⟨zp9 x,qN f c day e,trivial,hv⟩,ZD _ _ _,?_⟩;intro r hr;simp only [evA] at hr;refine⟨λh=> ?_,λh=> ?_⟩
 ·have h:r.2≠0:=by
   intro h0;have h':(!decide (r.2=0))=true:=h;rw [h0] at h'; cases h'
  have eq:(if e≠0 then(false,e) else if(x.ev f day).g≠0 then(false,(x.ev f day).g) else((x.ev f day).b,0))=(false,r.2):=by
   by_cases h0:e=0
   ·obtain⟨q1,_⟩:=hr.2 h0;rw [aO (by rw [h0]; simp),aP (by rw [<- q1]; exact h),q1]
   ·rw [aP h0,hr.1 h0]
  rw [eq] at hq;exact RetR.scal hq rfl (by simp [resV,St8.err])
 ·have h:r.2=0:=by
   have h':(!decide (r.2=0))=false:=h;simpa using h'
  have h0:e=0:=bM λh0=>h0 (by rw [<- hr.1 h0]; exact h)
  obtain⟨q1,k1⟩:=hr.2 h0
  have eq:(if e≠0 then(false,e) else if(x.ev f day).g≠0 then(false,(x.ev f day).g) else((x.ev f day).b,0))=(r.1,0):=by
   rw [aO (by rw [h0]; simp),aO (by rw [<- q1,h]; simp),k1 h]
  rw [eq] at hq;exact RetR.scal hq rfl (by simp [resV])
structure FI where
 c:Con
 day:Int
 fin:Int
 f:List Fx
 h:List Ch
def yQ:TypeId:=152
def FI.hC(k:FI):Heap:=[.box [fxS k.f,chS k.h],.box k.c.ze]
def FI.hH(k:FI):Heap:=[.box k.c.ze,.box [fxS k.f,chS k.h]]
def FI.hV(k:FI):Heap:=[.box k.c.ze,.box [.i k.day],.box [fxS k.f,chS k.h]]
def FI.heap(k:FI):Heap:=[.box k.c.ze,.box [.i k.day],.box [.i k.fin],.box [fxS k.f,chS k.h]]
def qD{α:Type}(Xp:List PanicEntry->Prop)(m:Except Int α):Prop:=∀ e,m = .error e->Xp (Zf yQ e)
def zkg(Xp:List PanicEntry->Prop):Ctr:=ctrS (λ(x:Bool×Int)=>[.bool x.1,.i x.2]) (λ_=>[]) (λx=>x.2≠0->Xp (Zf yQ x.2)) (λx=>decide (x.2=0)) (λx=>(.bool x.1,[]))
def UL(Xp:List PanicEntry->Prop):Ctr:=ctrS (λ(x:L8×Int)=>[.str x.1,.i x.2]) (λ_=>[]) (λx=>x.2≠0->Xp (Zf yQ x.2)) (λx=>decide (x.2=0)) (λx=>(.str x.1,[]))
theorem ze2(Xp:List PanicEntry->Prop):zy Xp prog 117 (zkg Xp):=
 Yo (fn:=f117) (c:=f117.body.getD .skip) rfl rfl rfl (T:=yQ) (λb:Bool=>.bool b) (λb=>.bool b) (λ_ _ _ _ _=>by simp [Rep]) λx e w=>Tryz.zgh x e w
theorem VA(Xp:List PanicEntry->Prop):zy Xp prog 120 (UL Xp):=
 Yo (fn:=f120) (c:=f120.body.getD .skip) rfl rfl rfl (T:=yQ) (λs:L8=>.str s) (λs=>.string ⟨s.toArray⟩) (λ_ _ _ _ _=>by simp [Rep]) λx e w=>Tryz.zg6 ⟨x.toArray⟩ e w
theorem FI.zd4(k:FI):eqH (expH k.hC [0,1]) k.hC:=by
 simp [expH,expB,exp1,exp0,ren0,FI.hC,zG,Con.ze,Con.qQ,fxS,chS,Ex.exS,Con.dayS,Con.conS,za]
theorem FI.zv1(k:FI):eqH (expH k.hH [0,1]) k.hH:=by
 simp [expH,expB,exp1,exp0,ren0,FI.hH,zG,Con.ze,Con.qQ,fxS,chS,Ex.exS,Con.dayS,Con.conS,za]
theorem FI.zu1(k:FI):eqH (expH k.hV [0,1,2]) k.hV:=by
 simp [expH,expB,exp1,exp0,ren0,FI.hV,zG,Con.ze,Con.qQ,fxS,chS,Ex.exS,Con.dayS,Con.conS,za]
def Xw:Ctr:=ctrT false false (λp:FI×Int=>[.i p.2,.ptr 0 0,.ptr 1 0]) (λp=>p.1.hC) (λp=>p.1.h.length<2^40) (λ_ (_:Unit)=>True) (λp _=>(.bool (qi p.1.h p.1.c.src p.1.c.name p.2),p.1.hC))
noncomputable def GFc:=tb zfj tz
theorem Wx:zf prog 114 Xw:=by
 refine zP (fn:=f114) (c:=f114.body.getD .skip) rfl rfl rfl (λh=>by cases h) λp hp O w0 I0 Q hl0 hq=> ?_
 obtain⟨⟨c,day,fin,f,h⟩,d⟩:=p;replace hq:=hq () trivial;simp only at hp hq;refine zc.n GFc.h [] (.ex (λ(x:(List Fx×List Ch)×L8×L8×Int)=>eqL [.agg [.sl f.length 3 (fxG f),.sl h.length 4 (chG h)],.str c.src,.str c.name,.i d] [.agg [.sl x.1.1.length 3 (fxG x.1.1),.sl x.1.2.length 4 (chG x.1.2)],.str x.2.1,.str x.2.2.1,.i x.2.2.2]/\x.1.2.length<1099511627776) λn=>.all (λ(r:Bool)=>r=qi n.1.2 n.2.1 n.2.2.1 n.2.2.2) λn=>.R [.bool n] [.box [.sl f.length 3 (fxG f),.sl h.length 4 (chG h)],.box (Con.ze c)]) ?_;simp only [Tree.holds,zd];refine⟨((f,h),(c.src,c.name,d)),⟨⟨⟨⟨rfl,rfl,λ_ _ _ _=>rfl⟩,⟨rfl,rfl,λ_ _ _ _=>rfl⟩,trivial⟩,rfl,rfl,⟨rfl,rfl⟩,trivial⟩,hp⟩,⟨_,rfl⟩,?_⟩;rintro _ rfl;exact RetR.Vj [0,1] rfl rfl (by show ∀ j,j<2->_; decide) rfl hq (LeA.refl _) (FI.zd4 ⟨c,day,fin,f,h⟩) rfl
def zan(Xp:List PanicEntry->Prop):Ctr:=ctrS (λp:FI×Int=>[.i p.2,.ptr 0 0,.ptr 1 0]) (λp=>p.1.hH) (λp=>VI.ok ⟨p.1.c.x,p.2,p.1.f,p.1.h⟩/\qD Xp (holM p.1.c.x p.2 p.1.f p.1.h)) (λp=>okM (holM p.1.c.x p.2 p.1.f p.1.h)) (λp=>(.bool (getM false (holM p.1.c.x p.2 p.1.f p.1.h)),p.1.hH))
noncomputable def GFh(Xp:List PanicEntry->Prop):Nat->Option Ctr:=λf=>if f=117 then some (zkg Xp) else if f=118 then some zgj else none
theorem zrb(Xp:List PanicEntry->Prop):∀ f c,GFh Xp f=some c->zy Xp prog f c:=vJ (ze2 Xp) (vJ zgg.x yx)
abbrev q56(A:List AV)(x:VI):Prop:=eqL A [x.x.exA,.i x.day,.agg [.sl x.f.length 3 (fxG x.f),.sl x.c.length 4 (chG x.c)]]/\VI.ok x
theorem VY(Xp:List PanicEntry->Prop):zy Xp prog 116 (zan Xp):=by
 refine yh (fn:=f116) (c:=f116.body.getD .skip) rfl rfl rfl λp hp O w0 I0 Q hl0 hq=> ?_
 obtain⟨⟨c,day,fin,f,h⟩,d⟩:=p;obtain⟨h1,h2⟩:=hp;simp only at h1 h2 hq;refine zc.runX hmix (zrb Xp) [] 400 (T:=.ex (q56 [(Ex.exA c.x),.i d,.agg [.sl f.length 3 (fxG f),.sl h.length 4 (chG h)]]) λn=>.all (λ(r:Bool×Int)=>r=xM n.x n.day n.f n.c) λn=>.ex (λ(x:Bool×Int)=>eqL [.bool n.1,.i n.2] [.bool x.1,.i x.2]/\eqH [] []/\0=0/\(x.2≠0->Xp (Zf yQ x.2))) λn=>.D (n.2=0) (.R [.bool n.1] [.box (Con.ze c),.box [.sl f.length 3 (fxG f),.sl h.length 4 (chG h)]]) (.leaf qa.gone)) (by kernel_rfl) ?_;simp only [q56,Tree.holds,zd];refine⟨⟨c.x,d,f,h⟩,⟨⟨jy c.x,⟨rfl,rfl⟩,⟨⟨rfl,rfl,λ_ _ _ _=>rfl⟩,⟨rfl,rfl,λ_ _ _ _=>rfl⟩,trivial⟩,trivial⟩,h1⟩,⟨_,rfl⟩,?_⟩;rintro _ rfl;refine⟨xM c.x d f h,⟨⟨rfl,⟨rfl,rfl⟩,trivial⟩,trivial,trivial,λhe=>h2 _ (by unfold holM; rw [aO he])⟩,λhe=> ?_,λ_=>trivial⟩;have he:=aB he;have hm:holM c.x d f h = .ok (xM c.x d f h).1:=by unfold holM; rw [aP he]
 rw [hm] at hq;exact RetR.Vj [0,1] rfl rfl (by show ∀ j,j<2->_; decide) rfl (hq rfl) (LeA.refl _) (FI.zv1 ⟨c,day,fin,f,h⟩) rfl
def zls(Xp:List PanicEntry->Prop):Ctr:=ctrS (λk:FI=>[.ptr 0 0,.ptr 1 0,.ptr 2 0]) (λk=>k.hV) (λk=>VI.ok ⟨k.c.x,k.day,k.f,k.h⟩/\qD Xp (valM k.c.x k.day k.f k.h)) (λk=>okM (valM k.c.x k.day k.f k.h)) (λk=>(.str (getM [] (valM k.c.x k.day k.f k.h)),k.hV))
noncomputable def GFv(Xp:List PanicEntry->Prop):Nat->Option Ctr:=λf=>if f=120 then some (UL Xp) else if f=121 then some zkj else none
theorem zss(Xp:List PanicEntry->Prop):∀ f c,GFv Xp f=some c->zy Xp prog f c:=vJ (VA Xp) (vJ zhe.x yx)
theorem zdq(Xp:List PanicEntry->Prop):zy Xp prog 119 (zls Xp):=by
 refine yh (fn:=f119) (c:=f119.body.getD .skip) rfl rfl rfl λp hp O w0 I0 Q hl0 hq=> ?_
 obtain⟨c,day,fin,f,h⟩:=p;obtain⟨h1,h2⟩:=hp;simp only at h1 h2 hq;refine zc.runX hmix (zss Xp) [] 400 (T:=.ex (q56 [(Ex.exA c.x),.i day,.agg [.sl f.length 3 (fxG f),.sl h.length 4 (chG h)]]) λn=>.all (λ(r:L8×Int)=>r=jW n.x n.day n.f n.c) λn=>.ex (λ(x:L8×Int)=>eqL [.str n.1,.i n.2] [.str x.1,.i x.2]/\eqH [] []/\0=0/\(x.2≠0->Xp (Zf yQ x.2))) λn=>.D (n.2=0) (.R [.str n.1] [.box (Con.ze c),.box [.i day],.box [.sl f.length 3 (fxG f),.sl h.length 4 (chG h)]]) (.leaf qa.gone)) (by kernel_rfl) ?_;simp only [q56,Tree.holds,zd];refine⟨⟨c.x,day,f,h⟩,⟨⟨jy c.x,⟨rfl,rfl⟩,⟨⟨rfl,rfl,λ_ _ _ _=>rfl⟩,⟨rfl,rfl,λ_ _ _ _=>rfl⟩,trivial⟩,trivial⟩,h1⟩,⟨_,rfl⟩,?_⟩;rintro _ rfl;refine⟨jW c.x day f h,⟨⟨rfl,⟨rfl,rfl⟩,trivial⟩,trivial,trivial,λhe=>h2 _ (by unfold valM; rw [aO he])⟩,λhe=> ?_,λ_=>trivial⟩;have he:=aB he;have hm:valM c.x day f h = .ok (jW c.x day f h).1:=by unfold valM; rw [aP he]
 rw [hm] at hq;exact RetR.Vj [0,1,2] rfl rfl (by show ∀ j,j<3->_; decide) rfl (hq rfl) (LeA.refl _) (FI.zu1 ⟨c,day,fin,f,h⟩) rfl
noncomputable def K125:=Go.Sx.aA f125
def holT(k:FI):Int->Except Int Bool:=λt=>holM k.c.x t k.f k.h
def Kv(Xp:List PanicEntry->Prop):Ctr:=ctrS (λk:FI=>[k.c.conA,.i k.day,.i k.fin,.fn 116 [] [.ptr 0 0,.ptr 1 0]]) (λk=>k.hH) (λk=>(∀ d,VI.ok ⟨k.c.x,d,k.f,k.h⟩)/\k.c.days.length<2^40/\qD Xp (firstM (holT k) k.day k.fin k.c.days)) (λk=>okM (firstM (holT k) k.day k.fin k.c.days)) (λk=>(.i (getM 0 (firstM (holT k) k.day k.fin k.c.days)),k.hH))
def SFh(k:FI)(i:Nat):KV:=[(1,.i k.day),(2,.i k.fin),(3,.fn 116 [] [.ptr 0 0,.ptr 1 0]),(12,Con.dayS k.c.days),(13,.i (k.c.days.length:Int)),(14,.i (i:Int)),Z 25,Z 26,Z 27]
def HFh(k:FI):Heap:=[.box k.c.ze,.box [fxS k.f,chS k.h],.box k.c.ze]
noncomputable def GFf(Xp:List PanicEntry->Prop):Nat->Option Ctr:=λf=>if f=116 then some (zan Xp) else none
theorem zkt(Xp:List PanicEntry->Prop):∀ f c,GFf Xp f=some c->zy Xp prog f c:=vJ (VY Xp) yx
theorem JQ{T:Int->Except Int Bool}{day fin d:Int}{l:List Int}(h1:fin<=d):firstM T day fin (d::l) = .ok fin:=by rw [firstM,aP h1]
theorem U8{T:Int->Except Int Bool}{day fin d e:Int}{l:List Int}(h1:¬ fin<=d)(h2:day<=d)(h:T d = .error e):firstM T day fin (d::l) = .error e:=by rw [firstM,aO h1,aP h2,h]
theorem Wg{T:Int->Except Int Bool}{day fin d:Int}{l:List Int}(h1:¬ fin<=d)(h2:day<=d)(h:T d = .ok true):firstM T day fin (d::l) = .ok d:=by rw [firstM,aO h1,aP h2,h]
theorem Q2{T:Int->Except Int Bool}{day fin d:Int}{l:List Int}(h1:¬ fin<=d)(h2:day<=d)(h:T d = .ok false):firstM T day fin (d::l)=firstM T day fin l:=by rw [firstM,aO h1,aP h2,h]
theorem JM{T:Int->Except Int Bool}{day fin d:Int}{l:List Int}(h1:¬ fin<=d)(h2:¬ day<=d):firstM T day fin (d::l)=firstM T day fin l:=by rw [firstM,aO h1,aO h2]
theorem qY{α:Type}{d:α}{m:Except Int α}(h:okM m=true):m = .ok (getM d m):=by cases m with
 | ok a=>rfl
 | error e=>cases h
theorem FI.zuk(k:FI):eqH (expH [.box k.c.ze,.box [fxS k.f,chS k.h],.box k.c.ze] [0,1]) k.hH:=by
 simp [expH,expB,exp1,exp0,ren0,FI.hH,zG,Con.ze,Con.qQ,fxS,chS,Ex.exS,Con.dayS,Con.conS,za]
theorem FI.h2(k:FI):eqH [.box k.c.ze,.box [fxS k.f,chS k.h]] [.box k.c.ze,.box [fxS k.f,chS k.h]]:=by
 simp [Con.ze,Con.qQ,fxS,chS,Ex.exS,Con.dayS,Con.conS,za]
theorem FI.h5(k:FI):eqH [.box k.c.ze,.box [fxS k.f,chS k.h],.box k.c.ze] (HFh k):=by
 simp [HFh,Con.ze,Con.qQ,fxS,chS,Ex.exS,Con.dayS,Con.conS,za]
theorem zfl(Xp:List PanicEntry->Prop):zy Xp prog 125 (Kv Xp):=by
 refine yh (fn:=f125) (c:=f125.body.getD .skip) rfl rfl rfl λp hp O w0 I0 Q hl0 hq=> ?_
 obtain⟨c,day,fin,f,h⟩:=p;obtain⟨h1,h2,h3⟩:=hp;simp only at h1 h2 h3 hq;refine zc.runX hmix (zkt Xp) [1,2,3,12,13,14,25,26,27] 400 (T:=.leaf (.loop (lps K125 0).1 (lps K125 0).2 [(1,.i day),(2,.i fin),(3,.fn 116 [] [.ptr 0 0,.ptr 1 0]),(12,.sl c.days.length 1 (Con.dayG c.days)),(13,.i c.days.length),(14,.i 0),Z 25,Z 26,Z 27] [.box (Con.ze c),.box [.sl f.length 3 (fxG f),.sl h.length 4 (chG h)],.box (Con.ze c)])) (by kernel_rfl) ?_;simp only [Tree.holds,zd,inR,lo,hi,aD];refine zc.loop (ι:={i:Nat // i<=c.days.length/\firstM (holT ⟨c,day,fin,f,h⟩) day fin (c.days.drop i)=firstM (holT ⟨c,day,fin,f,h⟩) day fin c.days}) (λi=>SFh ⟨c,day,fin,f,h⟩ i.1) (λ_=>HFh ⟨c,day,fin,f,h⟩) (λi=>c.days.length - i.1) ⟨0,aI _,rfl⟩ 0 ?_ ?_ (by kernel_rfl)
 ·exact⟨by simp [SFh,Con.dayS,za],FI.h5 ⟨c,day,fin,f,h⟩,by kernel_rfl,by show 2<=3; decide⟩
 ·rintro⟨i,hil,hi⟩;refine zc.runX hmix (zkt Xp) [1,2,3,12,13,14,25,26,27] 400 (T:=let v6:=inR .i64 (i+1);let v5:=List.getD c.days (i:Int).toNat (0:Int);let v4:=day<=List.getD c.days (i:Int).toNat (0:Int);let v1:List Blk:=[.box (Con.ze c),.box [.sl f.length 3 (fxG f),.sl h.length 4 (chG h)],.box (Con.ze c)];.D ((i:Int)<(c.days.length:Int)) (.side ((0:Int)<=i/\(i:Int)<(c.days.length:Int)) (.D (fin<=List.getD c.days (i:Int).toNat (0:Int)) (.R [.i fin] v1) (.ite (decide v4 == true) (.ex (λ(x:FI×Int)=>eqL [.i v5,.ptr 0 0,.ptr 1 0] [.i x.2,.ptr 0 0,.ptr 1 0]/\eqH [.box (Con.ze c),.box [.sl f.length 3 (fxG f),.sl h.length 4 (chG h)]] [.box (Con.ze x.1.c),.box [.sl x.1.f.length 3 (fxG x.1.f),.sl x.1.h.length 4 (chG x.1.h)]]/\2=2/\VI.ok { x:=Con.x x.1.c,day:=x.2,f:=FI.f x.1,c:=FI.h x.1 } /\ qD Xp (holM (Con.x x.1.c) x.2 x.1.f x.1.h)) λn=>let v3:=holM (Con.x n.1.c) n.2 n.1.f n.1.h;let v2:List Blk:=[.box (Con.ze n.1.c),.box [.sl n.1.f.length 3 (fxG n.1.f),.sl n.1.h.length 4 (chG n.1.h)],.box (Con.ze c)];.ite (okM v3) (.ite (bif decide v4 then getM false v3 else false) (.R [.i v5] v2) (.side v6 (.leaf (.back 0 [(1,.i day),(2,.i fin),(3,.fn 116 [] [.ptr 0 0,.ptr 1 0]),(12,.sl c.days.length 1 (Con.dayG c.days)),(13,.i c.days.length),(14,.i (i+1)),Z 25,Z 26,(27,.bool (getM false v3))] v2)))) (.leaf qa.gone)) (.ite (bif decide v4 then false else false) (.R [.i v5] v1) (.side v6 (.leaf (.back 0 [(1,.i day),(2,.i fin),(3,.fn 116 [] [.ptr 0 0,.ptr 1 0]),(12,.sl c.days.length 1 (Con.dayG c.days)),(13,.i c.days.length),(14,.i (i+1)),Z 25,Z 26,Z 27] v1))))))) (.R [.i fin] v1)) (by kernel_rfl) ?_;simp only [Tree.holds,zd,inR,lo,hi,aD]
  have hRet:∀ e:Int,firstM (holT ⟨c,day,fin,f,h⟩) day fin c.days = .ok e->RetR (Kv Xp) (FI.hH ⟨c,day,fin,f,h⟩).length Q [.i e] [.box c.ze,.box [fxS f,chS h],.box c.ze]:=by
   intro e he;rw [he] at hq;exact RetR.Vj [0,1] rfl rfl (by show ∀ j,j<2->_; decide) rfl (hq rfl) (LeA.refl _) (FI.zuk ⟨c,day,fin,f,h⟩) rfl
  refine⟨λhlt=> ?_,λhge=> ?_⟩
  ·have hlt:i<c.days.length:=by have:=aB hlt; omega
   have hd:c.days.drop i=c.days.getD i 0::c.days.drop (i+1):=by
    rw [List.drop_eq_getElem_cons hlt]; simp [List.getD,hlt]
   rw [hd] at hi
   have hstep:firstM (holT ⟨c,day,fin,f,h⟩) day fin (c.days.drop (i+1))=firstM (holT ⟨c,day,fin,f,h⟩) day fin c.days->∀ x:Bool,∃ x':{i:Nat // i<=c.days.length/\firstM (holT ⟨c,day,fin,f,h⟩) day fin (c.days.drop i)=firstM (holT ⟨c,day,fin,f,h⟩) day fin c.days},c.days.length - x'.val<c.days.length - i/\LeK (FI.hH ⟨c,day,fin,f,h⟩).length f125.ntmps [(1,.i day),(2,.i fin),(3,.fn 116 [] [.ptr 0 0,.ptr 1 0]),(12,Con.dayS c.days),(13,.i (c.days.length:Int)),(14,.i ((i:Int)+1)),Z 25,Z 26,(27,.bool x)] [.box c.ze,.box [fxS f,chS h],.box c.ze] (SFh ⟨c,day,fin,f,h⟩ x'.val) (HFh ⟨c,day,fin,f,h⟩):=by
    intro he x;refine⟨⟨i+1,hlt,he⟩,by show _ - (i+1)<_; omega,?_,FI.h5 ⟨c,day,fin,f,h⟩,by kernel_rfl,by show 2<=3; decide⟩;simp [SFh,Con.dayS,za]
   have hstepU:firstM (holT ⟨c,day,fin,f,h⟩) day fin (c.days.drop (i+1))=firstM (holT ⟨c,day,fin,f,h⟩) day fin c.days->∃ x':{i:Nat // i<=c.days.length/\firstM (holT ⟨c,day,fin,f,h⟩) day fin (c.days.drop i)=firstM (holT ⟨c,day,fin,f,h⟩) day fin c.days},c.days.length - x'.val<c.days.length - i/\LeK (FI.hH ⟨c,day,fin,f,h⟩).length f125.ntmps [(1,.i day),(2,.i fin),(3,.fn 116 [] [.ptr 0 0,.ptr 1 0]),(12,Con.dayS c.days),(13,.i (c.days.length:Int)),(14,.i ((i:Int)+1)),Z 25,Z 26,Z 27] [.box c.ze,.box [fxS f,chS h],.box c.ze] (SFh ⟨c,day,fin,f,h⟩ x'.val) (HFh ⟨c,day,fin,f,h⟩):=by
    intro he;refine⟨⟨i+1,hlt,he⟩,by show _ - (i+1)<_; omega,?_,FI.h5 ⟨c,day,fin,f,h⟩,by kernel_rfl,by show 2<=3; decide⟩;simp [SFh,Con.dayS,za]
   refine⟨⟨by omega,by omega⟩,λ_=>⟨λg=> ?_,λg=> ?_⟩⟩
   ·rw [JQ (aB g)] at hi;exact hRet _ hi.symm
   ·have g:=aC g;refine⟨λg2=> ?_,λg2=> ?_⟩
    ·have g2:day<=c.days.getD i 0:=by simpa using g2
     have hs:qD Xp (holM c.x (c.days.getD i 0) f h):=by
      intro e he;refine h3 e ?_;rw [<- hi];exact U8 g g2 he
     refine⟨(⟨c,day,fin,f,h⟩,c.days.getD i 0),⟨⟨⟨rfl,rfl⟩,⟨rfl,rfl⟩,⟨rfl,rfl⟩,trivial⟩,FI.h2 ⟨c,day,fin,f,h⟩,trivial,h1 _,hs⟩,λhk=> ?_,λ_=>trivial⟩;have hk:=qY (d:=false) hk;simp only at hk ⊢;rw [aX g2,cond_true];refine⟨λg3=> ?_,λg3=>⟨⟨by omega,by show _<=(9223372036854775807:Int); omega⟩,λ_=> ?_⟩⟩
     ·rw [g3] at hk;rw [Wg g g2 hk] at hi;exact hRet _ hi.symm
     ·rw [aP trivial,g3];rw [g3] at hk;rw [Q2 g g2 hk] at hi;exact hstep hi _
    ·have g2:¬ day<=c.days.getD i 0:=by simpa using g2
     rw [JM g g2] at hi;rw [aW g2,cond_false];refine⟨λg3=>absurd g3 (by decide),λ_=>⟨⟨by omega,by show _<=(9223372036854775807:Int); omega⟩,λ_=> ?_⟩⟩;rw [aP trivial];exact hstepU hi
  ·have hge:i=c.days.length:=by have:=aC hge; omega
   subst hge;rw [List.drop_length] at hi;exact hRet _ hi.symm
def choT(k:FI):Int->Except Int Bool:=λt=>.ok (qi k.h k.c.src k.c.name t)
def Xq(Xp:List PanicEntry->Prop):Ctr:=ctrS (λk:FI=>[k.c.conA,.i k.day,.i k.fin,.fn 114 [] [.ptr 0 0,.ptr 1 0]]) (λk=>k.hC) (λk=>k.h.length<2^40/\k.c.days.length<2^40/\qD Xp (firstM (choT k) k.day k.fin k.c.days)) (λk=>okM (firstM (choT k) k.day k.fin k.c.days)) (λk=>(.i (getM 0 (firstM (choT k) k.day k.fin k.c.days)),k.hC))
def SFc(k:FI)(i:Nat):KV:=[(1,.i k.day),(2,.i k.fin),(3,.fn 114 [] [.ptr 0 0,.ptr 1 0]),(12,Con.dayS k.c.days),(13,.i (k.c.days.length:Int)),(14,.i (i:Int)),Z 25,Z 26,Z 27]
def HFc(k:FI):Heap:=[.box [fxS k.f,chS k.h],.box k.c.ze,.box k.c.ze]
noncomputable def GFg(Xp:List PanicEntry->Prop):Nat->Option Ctr:=λf=>if f=114 then some Xw else none
theorem zhj(Xp:List PanicEntry->Prop):∀ f c,GFg Xp f=some c->zy Xp prog f c:=vJ (Wx.x) yx
theorem FI.ztp(k:FI):eqH (expH [.box [fxS k.f,chS k.h],.box k.c.ze,.box k.c.ze] [0,1]) k.hC:=by
 simp [expH,expB,exp1,exp0,ren0,FI.hC,zG,Con.ze,Con.qQ,fxS,chS,Ex.exS,Con.dayS,Con.conS,za]
theorem FI.hC2(k:FI):eqH [.box [fxS k.f,chS k.h],.box k.c.ze] [.box [fxS k.f,chS k.h],.box k.c.ze]:=by
 simp [Con.ze,Con.qQ,fxS,chS,Ex.exS,Con.dayS,Con.conS,za]
theorem FI.hC5(k:FI):eqH [.box [fxS k.f,chS k.h],.box k.c.ze,.box k.c.ze] (HFc k):=by
 simp [HFc,Con.ze,Con.qQ,fxS,chS,Ex.exS,Con.dayS,Con.conS,za]
abbrev q57(A:List AV)(H:Heap)(x:FI×Int):Prop:=eqL A [.i x.2,.ptr 0 0,.ptr 1 0]/\eqH H [.box [.sl x.1.f.length 3 (fxG x.1.f),.sl x.1.h.length 4 (chG x.1.h)],.box (Con.ze x.1.c)]/\2=2/\List.length x.1.h<1099511627776
theorem zfi(Xp:List PanicEntry->Prop):zy Xp prog 125 (Xq Xp):=by
 refine yh (fn:=f125) (c:=f125.body.getD .skip) rfl rfl rfl λp hp O w0 I0 Q hl0 hq=> ?_
 obtain⟨c,day,fin,f,h⟩:=p;obtain⟨h1,h2,h3⟩:=hp;simp only at h1 h2 h3 hq;refine zc.runX hmix (zhj Xp) [1,2,3,12,13,14,25,26,27] 400 (T:=.leaf (.loop (lps K125 0).1 (lps K125 0).2 [(1,.i day),(2,.i fin),(3,.fn 114 [] [.ptr 0 0,.ptr 1 0]),(12,.sl c.days.length 1 (Con.dayG c.days)),(13,.i c.days.length),(14,.i 0),Z 25,Z 26,Z 27] [.box [.sl f.length 3 (fxG f),.sl h.length 4 (chG h)],.box (Con.ze c),.box (Con.ze c)])) (by kernel_rfl) ?_;simp only [Tree.holds,zd,inR,lo,hi,aD];refine zc.loop (ι:={i:Nat // i<=c.days.length/\firstM (choT ⟨c,day,fin,f,h⟩) day fin (c.days.drop i)=firstM (choT ⟨c,day,fin,f,h⟩) day fin c.days}) (λi=>SFc ⟨c,day,fin,f,h⟩ i.1) (λ_=>HFc ⟨c,day,fin,f,h⟩) (λi=>c.days.length - i.1) ⟨0,aI _,rfl⟩ 0 ?_ ?_ (by kernel_rfl)
 ·exact⟨by simp [SFc,Con.dayS,za],FI.hC5 ⟨c,day,fin,f,h⟩,by kernel_rfl,by show 2<=3; decide⟩
 ·rintro⟨i,hil,hi⟩;refine zc.runX hmix (zhj Xp) [1,2,3,12,13,14,25,26,27] 400 (T:=let v5:=inR .i64 (i+1);let v4:=List.getD c.days (i:Int).toNat (0:Int);let v3:=day<=List.getD c.days (i:Int).toNat (0:Int);let v1:List Blk:=[.box [.sl f.length 3 (fxG f),.sl h.length 4 (chG h)],.box (Con.ze c),.box (Con.ze c)];.D ((i:Int)<(c.days.length:Int)) (.side ((0:Int)<=i/\(i:Int)<(c.days.length:Int)) (.D (fin<=List.getD c.days (i:Int).toNat (0:Int)) (.R [.i fin] v1) (.ite (decide v3 == true) (.ex (q57 [.i v4,.ptr 0 0,.ptr 1 0] [.box [.sl f.length 3 (fxG f),.sl h.length 4 (chG h)],.box (Con.ze c)]) λn=>let v2:List Blk:=[.box [.sl n.1.f.length 3 (fxG n.1.f),.sl n.1.h.length 4 (chG n.1.h)],.box (Con.ze n.1.c),.box (Con.ze c)];.A λn_1=>.ite (bif decide v3 then qi n.1.h (Con.src n.1.c) (Con.name n.1.c) n.2 else false) (.R [.i v4] v2) (.side v5 (.leaf (.back 0 [(1,.i day),(2,.i fin),(3,.fn 114 [] [.ptr 0 0,.ptr 1 0]),(12,.sl c.days.length 1 (Con.dayG c.days)),(13,.i c.days.length),(14,.i (i+1)),Z 25,Z 26,(27,.bool (qi n.1.h (Con.src n.1.c) (Con.name n.1.c) n.2))] v2)))) (.ite (bif decide v3 then false else false) (.R [.i v4] v1) (.side v5 (.leaf (.back 0 [(1,.i day),(2,.i fin),(3,.fn 114 [] [.ptr 0 0,.ptr 1 0]),(12,.sl c.days.length 1 (Con.dayG c.days)),(13,.i c.days.length),(14,.i (i+1)),Z 25,Z 26,Z 27] v1))))))) (.R [.i fin] v1)) (by kernel_rfl) ?_;simp only [q57,Tree.holds,zd,inR,lo,hi,aD]
  have hRet:∀ e:Int,firstM (choT ⟨c,day,fin,f,h⟩) day fin c.days = .ok e->RetR (Xq Xp) (FI.hC ⟨c,day,fin,f,h⟩).length Q [.i e] [.box [fxS f,chS h],.box c.ze,.box c.ze]:=by
   intro e he;rw [he] at hq;exact RetR.Vj [0,1] rfl rfl (by show ∀ j,j<2->_; decide) rfl (hq rfl) (LeA.refl _) (FI.ztp ⟨c,day,fin,f,h⟩) rfl
  refine⟨λhlt=> ?_,λhge=> ?_⟩
  ·have hlt:i<c.days.length:=by have:=aB hlt; omega
   have hd:c.days.drop i=c.days.getD i 0::c.days.drop (i+1):=by
    rw [List.drop_eq_getElem_cons hlt]; simp [List.getD,hlt]
   rw [hd] at hi
   have hstep:firstM (choT ⟨c,day,fin,f,h⟩) day fin (c.days.drop (i+1))=firstM (choT ⟨c,day,fin,f,h⟩) day fin c.days->∀ x:Bool,∃ x':{i:Nat // i<=c.days.length/\firstM (choT ⟨c,day,fin,f,h⟩) day fin (c.days.drop i)=firstM (choT ⟨c,day,fin,f,h⟩) day fin c.days},c.days.length - x'.val<c.days.length - i/\LeK (FI.hC ⟨c,day,fin,f,h⟩).length f125.ntmps [(1,.i day),(2,.i fin),(3,.fn 114 [] [.ptr 0 0,.ptr 1 0]),(12,Con.dayS c.days),(13,.i (c.days.length:Int)),(14,.i ((i:Int)+1)),Z 25,Z 26,(27,.bool x)] [.box [fxS f,chS h],.box c.ze,.box c.ze] (SFc ⟨c,day,fin,f,h⟩ x'.val) (HFc ⟨c,day,fin,f,h⟩):=by
    intro he x;refine⟨⟨i+1,hlt,he⟩,by show _ - (i+1)<_; omega,?_,FI.hC5 ⟨c,day,fin,f,h⟩,by kernel_rfl,by show 2<=3; decide⟩;simp [SFc,Con.dayS,za]
   have hstepU:firstM (choT ⟨c,day,fin,f,h⟩) day fin (c.days.drop (i+1))=firstM (choT ⟨c,day,fin,f,h⟩) day fin c.days->∃ x':{i:Nat // i<=c.days.length/\firstM (choT ⟨c,day,fin,f,h⟩) day fin (c.days.drop i)=firstM (choT ⟨c,day,fin,f,h⟩) day fin c.days},c.days.length - x'.val<c.days.length - i/\LeK (FI.hC ⟨c,day,fin,f,h⟩).length f125.ntmps [(1,.i day),(2,.i fin),(3,.fn 114 [] [.ptr 0 0,.ptr 1 0]),(12,Con.dayS c.days),(13,.i (c.days.length:Int)),(14,.i ((i:Int)+1)),Z 25,Z 26,Z 27] [.box [fxS f,chS h],.box c.ze,.box c.ze] (SFc ⟨c,day,fin,f,h⟩ x'.val) (HFc ⟨c,day,fin,f,h⟩):=by
    intro he;refine⟨⟨i+1,hlt,he⟩,by show _ - (i+1)<_; omega,?_,FI.hC5 ⟨c,day,fin,f,h⟩,by kernel_rfl,by show 2<=3; decide⟩;simp [SFc,Con.dayS,za]
   refine⟨⟨by omega,by omega⟩,λ_=>⟨λg=> ?_,λg=> ?_⟩⟩
   ·rw [JQ (aB g)] at hi;exact hRet _ hi.symm
   ·have g:=aC g;refine⟨λg2=> ?_,λg2=> ?_⟩
    ·have g2:day<=c.days.getD i 0:=by simpa using g2
     refine⟨(⟨c,day,fin,f,h⟩,c.days.getD i 0),⟨⟨⟨rfl,rfl⟩,⟨rfl,rfl⟩,⟨rfl,rfl⟩,trivial⟩,FI.hC2 ⟨c,day,fin,f,h⟩,trivial,h1⟩,⟨(),trivial⟩,λ_ _=> ?_⟩;have hk:choT ⟨c,day,fin,f,h⟩ (c.days.getD i 0) = .ok (qi h c.src c.name (c.days.getD i 0)):=rfl;simp only;rw [aX g2,cond_true];refine⟨λg3=> ?_,λg3=>⟨⟨by omega,by show _<=(9223372036854775807:Int); omega⟩,λ_=> ?_⟩⟩
     ·rw [g3] at hk;rw [Wg g g2 hk] at hi;exact hRet _ hi.symm
     ·rw [aP trivial,g3];rw [g3] at hk;rw [Q2 g g2 hk] at hi;exact hstep hi _
    ·have g2:¬ day<=c.days.getD i 0:=by simpa using g2
     rw [JM g g2] at hi;rw [aW g2,cond_false];refine⟨λg3=>absurd g3 (by decide),λ_=>⟨⟨by omega,by show _<=(9223372036854775807:Int); omega⟩,λ_=> ?_⟩⟩;rw [aP trivial];exact hstepU hi
  ·have hge:i=c.days.length:=by have:=aC hge; omega
   subst hge;rw [List.drop_length] at hi;exact hRet _ hi.symm
def zaq(Xp:List PanicEntry->Prop):Ctr where
 fresh:=false
 spec args hc:=match args with
  | [_,_,_,.fn g _ _]=>if g=114 then(Xq Xp).spec args hc else(Kv Xp).spec args hc
  | _=>.fail
theorem zdj(Xp:List PanicEntry->Prop):zy Xp prog 125 (zaq Xp):=by
 intro args hc Q hq hf;simp only [zaq] at hq;split at hq
 ·split at hq
  ·exact zfi Xp _ hc Q hq (λh=>by cases h)
  ·exact zfl Xp _ hc Q hq (λh=>by cases h)
 ·exact hq.elim
theorem kT(c:Con):eqA c.conD c.conA:=by
 simp only [Con.conD,Con.outD,Con.conA,eqA];exact⟨⟨rfl,rfl⟩,rfl,rfl,rfl,⟨rfl,rfl⟩,rfl,rfl,⟨rfl,rfl⟩,⟨rfl,rfl,λ_ _ _ _=>rfl⟩,⟨rfl,rfl⟩,⟨rfl,rfl,λ_ _ _ _=>rfl⟩,⟨rfl,rfl,Con.qp c⟩,trivial⟩
def FI.val(k:FI):Except Int (List Fl):=flM k.f k.h k.c k.day k.fin
def flC(G:FI->Prop)(n:Nat)(Xp:List PanicEntry->Prop):Ctr:=ctrS (λk:FI=>[k.c.conA,.i k.day,.i k.fin,envA k.f k.h]) (λ_=>[]) (λk=>G k/\k.c.nodes<n/\qD Xp k.val) (λk=>okM k.val) (λk=>(.osl 0 5 0 (getM [] k.val).length,[.arr (getM [] k.val).length 5 (flG (getM [] k.val))]))
def FI.kid(k:FI)(i:Nat):FI:=⟨k.c.sub.getD i Con.nil,k.day,k.fin,k.f,k.h⟩
theorem FI.zup(k:FI)(n:Nat)(g:Nat->Nat->AV):eqH (expH (k.heap++[.arr n 5 g]) [0,1,2,3,4]) (k.heap++[.arr n 5 g]):=by
 simp [expH,expB,exp1,exp0,ren0,FI.heap,zG,Con.ze,Con.qQ,fxS,chS,Ex.exS,Con.dayS,Con.conS,za]
def zh6(G:FI->Prop)(n:Nat)(Xp:List PanicEntry->Prop):Ctr:=ctrS (λp:FI×Bool=>[.bool p.2,.ptr 0 0,.ptr 1 0,.ptr 2 0,.ptr 3 0]) (λp=>p.1.heap) (λp=>p.2.toNat<p.1.c.sub.length/\G (p.1.kid p.2.toNat)/\(p.1.kid p.2.toNat).c.nodes<n/\qD Xp (p.1.kid p.2.toNat).val) (λp=>okM (p.1.kid p.2.toNat).val) (λp=>(.osl 4 5 0 (getM [] (p.1.kid p.2.toNat).val).length,p.1.heap++[.arr (getM [] (p.1.kid p.2.toNat).val).length 5 (flG (getM [] (p.1.kid p.2.toNat).val))]))
noncomputable def GFp(G:FI->Prop)(n:Nat)(Xp:List PanicEntry->Prop):Nat->Option Ctr:=λf=>if f=79 then some (flC G n Xp) else none
theorem zs0{G:FI->Prop}{n:Nat}{Xp:List PanicEntry->Prop}(ih:zy Xp prog 79 (flC G n Xp)):∀ f c,GFp G n Xp f=some c->zy Xp prog f c:=vJ ih yx
theorem zbi{G:FI->Prop}{n:Nat}{Xp:List PanicEntry->Prop}(ih:zy Xp prog 79 (flC G n Xp)):zy Xp prog 122 (zh6 G n Xp):=by
 refine yh (fn:=f122) (c:=f122.body.getD .skip) rfl rfl rfl λp hp O w0 I0 Q hl0 hq=> ?_
 obtain⟨⟨c,day,fin,f,h⟩,b⟩:=p;obtain⟨h1,h2,h3,h4⟩:=hp;simp only at h1 h2 h3 h4 hq;refine zc.runX hmix (zs0 ih) [] 400 (T:=let v2:List AV:=[.sl f.length 3 (fxG f),.sl h.length 4 (chG h)];let v1:=[AV.sl f.length 3 (fxG f),AV.sl h.length 4 (chG h)];.ite b (.side ((0:Int)<=1/\(1:Int)<(c.sub.length:Int)) (.ex (λ(x:FI)=>eqL [(Con.conD (List.getD c.sub 1 Con.nil)),.i day,.i fin,.agg v1] [(Con.conA x.c),.i x.day,.i x.fin,.agg [.sl x.f.length 3 (fxG x.f),.sl x.h.length 4 (chG x.h)]]/\eqH [] []/\0=0/\G x/\Con.nodes x.c<n/\qD Xp x.val) λn=>let v3:=getM [] n.val;.ite (okM n.val) (.R [.osl 4 5 0 (List.length v3)] [.box (Con.ze c),.box [.i day],.box [.i fin],.box v2,.arr (List.length v3) 5 (flG v3)]) (.leaf qa.gone))) (.side ((0:Int)<=0/\(0:Int)<(c.sub.length:Int)) (.ex (λ(x:FI)=>eqL [(Con.conD (List.getD c.sub 0 Con.nil)),.i day,.i fin,.agg v1] [(Con.conA x.c),.i x.day,.i x.fin,.agg [.sl x.f.length 3 (fxG x.f),.sl x.h.length 4 (chG x.h)]]/\eqH [] []/\0=0/\G x/\Con.nodes x.c<n/\qD Xp x.val) λn=>let v4:=getM [] n.val;.ite (okM n.val) (.R [.osl 4 5 0 (List.length v4)] [.box (Con.ze c),.box [.i day],.box [.i fin],.box v2,.arr (List.length v4) 5 (flG v4)]) (.leaf qa.gone)))) (by kernel_rfl) ?_;simp only [Tree.holds,zd,inR,lo,hi,aD]
 have fin1:∀ (i:Nat) (Q':Prop),i<c.sub.length->b.toNat=i->(okM (FI.kid ⟨c,day,fin,f,h⟩ i).val=true->RetR (zh6 G n Xp) (FI.heap ⟨c,day,fin,f,h⟩).length Q [.osl 4 5 0 (getM [] (FI.kid ⟨c,day,fin,f,h⟩ i).val).length] (FI.heap ⟨c,day,fin,f,h⟩++[.arr (getM [] (FI.kid ⟨c,day,fin,f,h⟩ i).val).length 5 (flG (getM [] (FI.kid ⟨c,day,fin,f,h⟩ i).val))])):=by
  intro i _ hi hb ho;rw [hb] at hq;exact RetR.Vj [0,1,2,3,4] rfl rfl (by show ∀ j,j<4->_; decide) rfl (hq ho) (LeA.refl _) (FI.zup ⟨c,day,fin,f,h⟩ _ _) rfl
 have argE:eqA (envA f h) (envA f h):=⟨⟨rfl,rfl,λ_ _ _ _=>rfl⟩,⟨rfl,rfl,λ_ _ _ _=>rfl⟩,trivial⟩;refine⟨λhb=> ?_,λhb=> ?_⟩
 ·subst hb;refine⟨⟨by decide,by have:1<c.sub.length:=h1; omega⟩,λ_=>⟨FI.kid ⟨c,day,fin,f,h⟩ 1,⟨⟨kT _,⟨rfl,rfl⟩,⟨rfl,rfl⟩,argE,trivial⟩,trivial,trivial,h2,h3,h4⟩,fin1 1 True h1 rfl,λ_=>trivial⟩⟩
 ·subst hb;refine⟨⟨by decide,by have:0<c.sub.length:=h1; omega⟩,λ_=>⟨FI.kid ⟨c,day,fin,f,h⟩ 0,⟨⟨kT _,⟨rfl,rfl⟩,⟨rfl,rfl⟩,argE,trivial⟩,trivial,trivial,h2,h3,h4⟩,fin1 0 True h1 rfl,λ_=>trivial⟩⟩
end Go.Proofs.Tryz
end
section
namespace Go.Nov
structure OrdT{α:Type}(c:α->α->Int):Prop extends OrdK c where
 irr:∀ a,c a a=0
 tot:∀ a b,c a b<0\/c a b=0\/c b a<0
 sym:∀ a b,c a b=0->c b a=0
 eqt:∀ a b d,c a b=0->c b d=0->c a d=0
 eq2:∀ a b d,c a b=0->c b d<0->c a d<0
section
variable {α:Type} {c:α->α->Int} {z x y:α} (hk:OrdT c)
include hk
end
end Go.Nov
end
section
namespace Go.Nov
def negS(a:L8):L8:=if a=[48] then a else if a.getD 0 0=45 then a.drop 1 else [45]++a
theorem JZ(z:Int):z=0/\(wz z).1=[48]\/z≠0/\room z.natAbs/\(wz z).1=sgn (decide (z<0)) (txt z.natAbs)\/¬ room z.natAbs:=by
 by_cases h0:z=0
 ·left; subst h0; exact⟨rfl,rfl⟩
 ·right;by_cases hr:room z.natAbs
  ·left;refine⟨h0,hr,?_⟩;unfold wz wr;have hr':(dec z.natAbs).length<=1000:=hr;rw [aO (by omega),aO (by omega)]
  ·exact .inr hr
theorem Wq(b:L8):sgn true b=45::b:=rfl
theorem ZC(b:L8):sgn false b=b:=rfl
theorem zg9{r:Rat}(h:kF r):negS (qstr r)=qstr (-r):=by
 have hn:(-r).num = -r.num:=rfl;have hd:(-r).den=r.den:=rfl
 have tail:∀ t:L8,(r.den=1->t=[])->(r.den≠1->t=[47]++(wz (r.den:Int)).1)->qstr r=(wz r.num).1++t/\qstr (-r)=(wz (-r.num)).1++t:=by
  intro t h1 h2;unfold qstr;rw [hn,hd];by_cases hd1:r.den=1
  ·rw [aP hd1,aP hd1,h1 hd1]; simp
  ·rw [aO hd1,aO hd1,h2 hd1]; simp
 obtain⟨t,ht1,ht2⟩:∃ t:L8,(r.den=1->t=[])/\(r.den≠1->t=[47]++(wz (r.den:Int)).1):=by
  by_cases hd1:r.den=1
  ·exact⟨[],λ_=>rfl,λh=>absurd hd1 h⟩
  ·exact⟨_,λh=>absurd h hd1,λ_=>rfl⟩
 obtain⟨e1,e2⟩:=tail t ht1 ht2;rw [e1,e2];rcases JZ r.num with ⟨z0,zs⟩ | ⟨z0,zr,zs⟩ | zr
 ·have hr0:r=0:=Rat.num_eq_zero.1 z0;have ht:t=[]:=ht1 (by rw [hr0]; rfl);rw [z0,ht];rfl
 ·rcases JZ (-r.num) with ⟨z0',_⟩ | ⟨_,_,zs'⟩ | zr'
  ·omega
  ·rw [zs,zs',Int.natAbs_neg];have hx:r.num.natAbs≠0:=by omega
   obtain⟨f1,f2⟩:=yA hx;have fne:=K6 hx;by_cases hlt:r.num<0
   ·rw [aX hlt,aW (by omega),Wq,ZC];unfold negS;rw [aO (by simp),aP (by simp)];rfl
   ·rw [aW hlt,aX (by omega),Wq,ZC];generalize txt r.num.natAbs=b at *
    cases b with
    | nil=>exact absurd rfl fne
    | cons c b=>
     simp only [List.getD_cons_zero] at f1 f2;unfold negS;rw [aO (by simp [f1]),aO (by simpa using f2)];rfl
  ·rw [Int.natAbs_neg] at zr'; exact absurd zr zr'
 ·exact absurd h.1 zr
theorem zjw{r:Rat}(h:kF r):kF (-r):=by
 refine⟨?_,h.2⟩;show room (-r.num).natAbs;rw [Int.natAbs_neg]; exact h.1
theorem znj{a:L8}(h:errR a=0):errR (negS a)=0/\qv (negS a) = -qv a/\numR (negS a)=(wz (-zI (numR a))).1/\denR (negS a)=denR a:=by
 obtain⟨h1,h2,h3,h4⟩:=WJ h;have e:negS a=qstr (-qv a):=by rw [<- zg9 h4,h3]
 have hr:=zjw h4;obtain⟨p1,p2,_⟩:=yU hr;rw [e];refine⟨y5 hr,QH hr,?_,?_⟩
 ·rw [p1];show(wz (-(qv a).num)).1=_;rw [h1]
 ·rw [p2];show(wz ((qv a).den:Int)).1=_;rw [h2,Xa (qU h).2.1]
end Go.Nov
end
section
namespace Go.Nov
open Go.Sx
structure Ca where
 name:L8
 into:L8
 date:Int
 ratio:L8
 extra:L8
theorem uR{a:L8}(h:errR a=0):(a.getD 0 0=45↔qv a<0)/\(a=[48]↔qv a=0)/\a≠[]:=by
 obtain⟨p1,p2,p3,p4⟩:=WJ h;generalize qv a=r at p1 p2 p3 p4
 have ht:∃ t:L8,a=(wz r.num).1++t/\(r.den=1->t=[]):=by
  rw [<- p3];unfold qstr;by_cases hd1:r.den=1
  ·rw [aP hd1]; exact⟨[],by simp,λ_=>rfl⟩
  ·rw [aO hd1]; exact⟨[47]++(wz r.den).1,by simp,λh=>absurd h hd1⟩
 obtain⟨t,e,ht⟩:=ht
 have hneg:r<0↔r.num<0:=by
  rw [Rat.lt_iff];simp
 rcases JZ r.num with ⟨z0,zs⟩ | ⟨z0,zr,zs⟩ | zr
 ·have hr0:r=0:=Rat.num_eq_zero.1 z0;have ht:=ht (by rw [hr0]; rfl);rw [zs,ht] at e;subst e;rw [hneg,z0];exact⟨⟨λh=>absurd h (by decide),λh=>absurd h (by decide)⟩,⟨λ_=>hr0,λ_=>rfl⟩,by simp⟩
 ·have hr0:r≠0:=λh=>z0 (by rw [h]; rfl)
  have hx:r.num.natAbs≠0:=by omega
  obtain⟨f1,f2⟩:=yA hx;have fne:=K6 hx;rw [zs] at e;rw [hneg];by_cases hlt:r.num<0
  ·rw [aX hlt,Wq] at e;subst e;exact⟨⟨λ_=>hlt,λ_=>rfl⟩,⟨λh=>by simp at h,λh=>absurd h hr0⟩,by simp⟩
  ·rw [aW hlt,ZC] at e;generalize txt r.num.natAbs=b at *
   cases b with
   | nil=>exact absurd rfl fne
   | cons c b=>
    simp only [List.getD_cons_zero] at f1 f2;subst e;exact⟨⟨λh=>absurd h f2,λh=>absurd h hlt⟩,⟨λh=>by simp [f1] at h,λh=>absurd h hr0⟩,by simp⟩
 ·exact absurd p4.1 zr
theorem zo6{a:L8}(h:errR a=0):0<qv a↔a≠[48]/\a.getD 0 0≠45:=by
 obtain⟨h1,h2,h3⟩:=uR h;rw [ne_eq,ne_eq,h1,h2];generalize qv a=r;have:=Rat.lt_iff (a:=r) (b:=0);constructor
 ·intro h; exact⟨by grind,by grind⟩
 ·rintro⟨h4,h5⟩; grind
namespace Ca
def ok(a:Ca):Bool:=qI a.name&&(qI a.into&&(dayB a.date&&(decide (errR a.ratio=0)&&(decide (0<qv a.ratio)&&decide (errR a.extra=0)))))
def old(a:Ca)(x:L8):L8×Int:=if(mulR a.ratio x).2≠0 then([],(mulR a.ratio x).2) else addR (mulR a.ratio x).1 a.extra
def hit(a:Ca)(f:Fx):Bool:=decide (f.name=a.into)&&decide (a.date<=f.date)
def keep(a:Ca)(f:Fx):Bool:= !decide (f.name=a.name)||decide (f.date<a.date)
def mk'(a:Ca)(f:Fx):Fx:=⟨a.name,f.date,(a.old f.value).1⟩
def fresh(a:Ca)(l:List Fx):List Fx:=(l.filter a.hit).map a.mk'
def kept(a:Ca)(l:List Fx):List Fx:=l.filter a.keep
def bad(a:Ca)(f:Fx):Bool:=a.hit f&&decide ((a.old f.value).2≠0)
def err(a:Ca)(l:List Fx):Int:=match l.find? a.bad with
 | some f=>(a.old f.value).2
 | none=>0
def at_(a:Ca)(l:List Fx):Nat:=l.findIdx λf=>Op.bytesLess a.name f.name
def join(a:Ca)(l m:List Fx):List Fx:=l.take (a.at_ l)++m++l.drop (a.at_ l)
def before(a:Ca)(f:List Fx)(c:List Ch):(List Fx×List Ch)×Int:=
 if a.ok=false then(([],[]),8) else if errE f c≠0 then(([],[]),errE f c) else if a.err f≠0 then(([],[]),a.err f)
 else if 1000<(a.kept f).length+(a.fresh f).length then(([],[]),22) else((a.join (a.kept f) (a.fresh f),c),0)
end Ca
end Go.Nov
end
section
namespace Go.Nov
open Go.Sx
structure Pt(x y:Ex):Prop where
 x0:x.errX=0
 x1:x.zx=1
 y0:y.errX=0
 y1:y.zx=1
 s:x.size+y.size<500
 d1:x.depth<60
 d2:y.depth<60
section
variable {x y:Ex} {day:Int} {f:List Fx} {c:List Ch} (h:Pt x y)
include h
end
theorem Uk{x:Ex}{day:Int}{f:List Fx}{c:List Ch}(h:(jW x day f c).2=0):errR (jW x day f c).1=0:=by
 have ha:askE x 1 day f c=0:=bM λg=>g (by unfold jW at h; rw [aP g] at h; exact h)
 obtain⟨g1,g2,g3,_⟩:=Wy ha;have n0:¬ (0:Int)≠0:=by simp
 have he:(x.ev f day).e=0:=bM λg=>g (by unfold jW at h; rw [ha,aO n0,aP g] at h; exact h)
 have hv:jW x day f c=((x.ev f day).v,0):=by unfold jW; rw [ha,he,aO n0,aO n0]
 rw [hv];exact Ex.Zq (zaz.1 g3).2.1 day x g2 he
theorem flat{p:L8×Int} : (if(if p.2≠0 then(([]:L8),p.2) else(p.1,0)).2≠0 then(([]:L8),(if p.2≠0 then(([]:L8),p.2) else(p.1,0)).2) else((if p.2≠0 then(([]:L8),p.2) else(p.1,0)).1,0))=if p.2≠0 then([],p.2) else(p.1,0):=by
 by_cases h:p.2=0
 ·simp [h]
 ·simp [h]
end Go.Nov
end
section
namespace Go.Nov
open Go.Sx
theorem Con.zon{P:Con->Prop}(h:∀ c:Con,(∀ i,i<c.sub.length->P (c.sub.getD i Con.nil))->P c)(c:Con):P c:=by
 generalize hn:c.nodes=n
 induction n using Nat.strongRecOn generalizing c with
 | _ n ih=>
  refine h c λi hi=>ih _ ?_ _ rfl
  have:=Con.jA hi;rw [Con.wo] at hn;omega
theorem yG{α:Type}{l:List α}{d:α}{i:Nat}(h:l.length<=i):l.getD i d=d:=by simp [List.getD,h]
theorem KL(f:List Fx)(h:List Ch)(day fin:Int):flM f h Con.nil day fin = .ok []:=by
 show flM f h (.mk 0 [] [] [] Ex.nil 0 [] []) day fin=_;rw [flM];simp
theorem zek(f:List Fx)(h:List Ch)(s:List Con)(i:Nat):(flMs f h s).getD i (λ_ _=>.ok [])=flM f h (s.getD i Con.nil):=by
 by_cases hi:i<s.length
 ·exact X5 f h s i hi
 ·have e:∀ (s:List Con),(flMs f h s).length=s.length:=by
   intro s; induction s with
   | nil=>rw [flMs]; rfl
   | cons a s ih=>rw [flMs]; simp [ih]
  rw [yG (by rw [e]; omega),yG (by omega)];funext day fin;rw [KL]
theorem Jh(f:List Fx)(h:List Ch)(c:Con)(day fin:Int):flM f h c day fin =
  if fin<=day then .ok []
  else if c.kind=2 then andM (valM c.x day f h) λr=>.ok (payF day c.src c.dst c.name r)
  else if c.kind=3 then andM (flM f h (c.sub.getD 0 Con.nil) day fin) λu=>andM (flM f h (c.sub.getD 1 Con.nil) day fin) λv=>.ok (u++v)
  else if c.kind=4 then andM (valM c.x day f h) λr=>andM (flM f h (c.sub.getD 0 Con.nil) day fin) λu=>jx r u
  else if c.kind=5 then andM (holM c.x day f h) λt=>flM f h (c.sub.getD (if t=true then 0 else 1) Con.nil) day fin
  else if c.kind=6 then(if day<=c.date then flM f h (c.sub.getD 0 Con.nil) c.date fin else .ok [])
  else if c.kind=7 then flM f h (c.sub.getD (if qi h c.src c.name day=true then 0 else 1) Con.nil) day fin
  else if c.kind=8 then andM (firstM (λt=>.ok (qi h c.src c.name t)) day fin c.days) λt=>flM f h (c.sub.getD 0 Con.nil) t fin
  else if c.kind=9 then andM (firstM (λt=>holM c.x t f h) day fin c.days) λt=>flM f h (c.sub.getD 0 Con.nil) day t
  else if c.kind=10 then andM (firstM (λt=>holM c.x t f h) day fin c.days) λt=>flM f h (c.sub.getD 0 Con.nil) t fin
  else .ok []:=by
 cases c;rw [flM];simp only [zek];rfl
theorem vP{α β:Type}{x:Except Int α}{k:α->Except Int β}{r:β}(h:andM x k = .ok r):∃ a,x = .ok a/\k a = .ok r:=by
 cases x with
 | error e=>cases h
 | ok a=>exact⟨a,rfl,h⟩
theorem JD(d:Int)(a b n r:L8):(payF d a b n r).length<=1:=by unfold payF; split; simp; split<;>simp
theorem Wb{k:L8} : ∀ {l m:List Fl},jx k l = .ok m->m.length<=l.length
 | [],m,h=>by cases h; simp
 | f::l,m,h=>by
  rw [jx] at h;split at h
  ·cases h
  ·split at h
   ·cases h
   ·rename_i m' hm;cases h;have:=Wb hm;have:=JD f.date f.src f.dst f.ccy (mulR f.amt k).1;simp; omega
def okFl(x:Fl):Prop:=errR x.amt=0/\0<qv x.amt
theorem zd0{d:Int}{a b n r:L8}(hr:errR r=0):∀ x∈payF d a b n r,okFl x:=by
 intro x hx;obtain⟨s1,s2,s3⟩:=uR hr;unfold payF at hx;split at hx
 ·simp at hx
 ·rename_i h0;split at hx
  ·rename_i h1;simp only [List.mem_singleton] at hx;subst hx;have e:negS r=r.drop 1:=by unfold negS; rw [aO h0,aP h1]
   obtain⟨n1,n2,_⟩:=znj hr;rw [e] at n1 n2;refine⟨n1,?_⟩;show 0<qv (r.drop 1);rw [n2];have:=s1.1 h1;grind
  ·rename_i h1;simp only [List.mem_singleton] at hx;subst hx;refine⟨hr,(zo6 hr).2 ⟨h0,h1⟩⟩
theorem QD{x:Ex}{d:Int}{f:List Fx}{h:List Ch}{r:L8}(hv:valM x d f h = .ok r):errR r=0:=by
 unfold valM at hv;split at hv
 ·rename_i h0; cases hv; exact Uk h0
 ·cases hv
theorem VU{k:L8}(hk:errR k=0):∀ {l m:List Fl},(∀ x∈l,okFl x)->jx k l = .ok m->∀ x∈m,okFl x
 | [],m,_,h=>by cases h; simp
 | f::l,m,hl,h=>by
  rw [jx] at h;split at h
  ·cases h
  ·rename_i h0;split at h
   ·cases h
   ·rename_i m' hm;cases h;intro x hx;rcases cA.1 hx with hx | hx
    ·exact zd0 (Xg (hl f (by simp)).1 hk (by simpa using h0)).1 x hx
    ·exact VU hk (λy hy=>hl y (by simp [hy])) hm x hx
theorem JY{f:List Fx}{h:List Ch} : ∀ (c:Con) {day fin:Int} {l:List Fl},flM f h c day fin = .ok l->l.length<=c.nodes/\∀ x∈l,okFl x:=by
 refine Con.zon ?_;intro c ih day fin l hl;have nl:=Con.wo c
 have kid:∀ (i:Nat) {day fin:Int} {l:List Fl},flM f h (c.sub.getD i Con.nil) day fin = .ok l->l.length<=Con.zF c.sub/\∀ x∈l,okFl x:=by
  intro i day fin l hl;by_cases hi:i<c.sub.length
  ·have:=ih i hi hl;exact⟨bP this.1 (Con.jA hi),this.2⟩
  ·rw [yG (by omega),KL] at hl;cases hl;simp
 have kid':∀ (i:Nat) {day fin:Int} {l:List Fl},flM f h (c.sub.getD i Con.nil) day fin = .ok l->l.length<=c.nodes/\∀ x∈l,okFl x:=λi day fin l hl=>⟨by have:=(kid i hl).1; omega,(kid i hl).2⟩
 have non:∀ l:List Fl,(Except.ok []:Except Int (List Fl)) = .ok l->l.length<=c.nodes/\∀ x∈l,okFl x:=by
  intro l hl; cases hl; simp
 rw [Jh] at hl;split at hl
 ·exact non l hl
 split at hl
 ·obtain⟨r,h1,h2⟩:=vP hl;cases h2;have:=JD day c.src c.dst c.name r;exact⟨by omega,zd0 (QD h1)⟩
 split at hl
 ·obtain⟨u,h1,h2⟩:=vP hl;obtain⟨v,h3,h4⟩:=vP h2;cases h4;refine⟨?_,λx hx=>(cA.1 hx).elim ((kid 0 h1).2 x) ((kid 1 h3).2 x)⟩;rw [bO];by_cases hi:1<c.sub.length
  ·have a1:=(ih 0 (by omega) h1).1;have a2:=(ih 1 hi h3).1;have t1:Con.zF (c.sub.take 1)=_:=Con.Qh (s:=c.sub) (i:=0) (by omega);have t2:Con.zF (c.sub.take 2)=_:=Con.Qh (s:=c.sub) (i:=1) hi;have t3:=Con.ze6 c.sub 2;have t4:Con.zF (c.sub.take 0)=0:=by rw [List.take_zero,Con.zF]
   omega
  ·rw [yG (by omega:c.sub.length<=1),KL] at h3;cases h3;have:=(kid' 0 h1).1;simpa using this
 split at hl
 ·obtain⟨r,h1,h2⟩:=vP hl;obtain⟨u,h3,h4⟩:=vP h2;have:=Wb h4;have:=(kid' 0 h3).1;exact⟨by omega,VU (QD h1) (kid' 0 h3).2 h4⟩
 split at hl
 ·obtain⟨t,h1,h2⟩:=vP hl;exact kid' _ h2
 split at hl
 ·split at hl
  ·exact kid' _ hl
  ·exact non l hl
 split at hl
 ·exact kid' _ hl
 split at hl
 ·obtain⟨t,h1,h2⟩:=vP hl;exact kid' _ h2
 split at hl
 ·obtain⟨t,h1,h2⟩:=vP hl;exact kid' _ h2
 split at hl
 ·obtain⟨t,h1,h2⟩:=vP hl;exact kid' _ h2
 ·exact non l hl
end Go.Nov
end
section
set_option maxRecDepth 100000
open Go Go.Sx Go.Proofs Go.Nov
namespace Go.Proofs.Tryz
attribute [local simp] eqKV eqA eqA0 eqH eqB eqL eqL0
noncomputable def K79:=Go.Sx.aA f79
def FI.G(k:FI):Prop:=k.c.form=true/\k.c.big<2^40/\k.c.nodes<2^20/\envP (k.f,k.h)
theorem jH{α β:Type}{Xp:List PanicEntry->Prop}{x:Except Int α}{k:α->Except Int β}(h:qD Xp (andM x k)):qD Xp x/\∀ a,x = .ok a->qD Xp (k a):=
 ⟨λe he=>h e (by rw [he]; rfl),λa ha e he=>h e (by rw [ha]; exact he)⟩
noncomputable def GFl(n:Nat)(Xp:List PanicEntry->Prop):Nat->Option Ctr:=λf=>if f=114 then some Xw else if f=116 then some (zan Xp) else if f=119 then some (zls Xp) else if f=122 then some (zh6 FI.G n Xp) else if f=125 then some (zaq Xp) else if f=123 then some zqm else if f=79 then some (flC FI.G n Xp) else if f=124 then some Y6 else if f=120 then some (UL Xp) else none
theorem zkk{n:Nat}{Xp:List PanicEntry->Prop}(ih:zy Xp prog 79 (flC FI.G n Xp)):∀ f c,GFl n Xp f=some c->zy Xp prog f c:=
 vJ Wx.x (vJ (VY Xp) (vJ (zdq Xp) (vJ (zbi ih) (vJ (zdj Xp) (vJ zmx.x (vJ ih (vJ Q9.x (vJ (VA Xp) yx))))))))
theorem zuz{α β:Type}{a:α}{k:α->Except Int β} : Go.Nov.andM (.ok a) k=k a:=rfl
def SFl(r:L8)(u:List Fl)(m i:Nat):KV:=[(13,.str r),(14,.osl 5 5 0 m),(50,.osl 4 5 0 u.length),(51,.i (u.length:Int)),(52,.i (i:Int))]
def HFl(c:Con)(day fin:Int)(f:List Fx)(h:List Ch)(u m:List Fl):Heap:=[.box c.ze,.box [.i day],.box [.i fin],.box [.sl f.length 3 (fxG f),.sl h.length 4 (chG h)],.arr u.length 5 (flG u),.arr m.length 5 (flG m)]
abbrev q58(A:List AV)(x:Fl):Prop:=eqL A [.i x.date,.str x.src,.str x.dst,.str x.ccy,.str x.amt]/\Fl.amt x≠[]/\List.length x.amt<1099511627776
theorem za4{n:Nat}{Xp:List PanicEntry->Prop}(ih:zy Xp prog 79 (flC FI.G n Xp)){c:Con}{day fin:Int}{f:List Fx}{h:List Ch}{r:L8}{u:List Fl}(hfl:flM f h c day fin=jx r u)(hst:qD Xp (jx r u))(hlen:u.length<2^20)(hok:∀ x∈u,okFl x)(hr:errR r=0){Q:AV×Heap->Prop}(hQ:∀ l,flM f h c day fin = .ok l->Q (.osl 0 5 0 l.length,[.arr l.length 5 (flG l)])){O:Nat->Prop}{w0:World}{I0:List SE} :
  zN Xp none prog f79 O 0 w0 I0 (λ_ _ _=>False) (RetR (flC FI.G (n+1) Xp) 0 (upQ Q)) (.code (.loop (lps K79 0).1)::(lps K79 0).2) (mk f79.ntmps [(13,.str r),(14,.nils),(50,.osl 4 5 0 u.length),(51,.i (u.length:Int)),(52,.i 0)] [.box c.ze,.box [.i day],.box [.i fin],.box [.sl f.length 3 (fxG f),.sl h.length 4 (chG h)],.arr u.length 5 (flG u)]):=by
 refine zc.bear 14 5 (flG []) rfl (by decide) (by kernel_rfl) ?_
 refine zc.loop (ι:={z:Nat×List Fl // z.1<=u.length/\z.2.length<=z.1/\jx r u=andM (jx r (u.drop z.1)) λl=>.ok (z.2++l)}) (λz=>SFl r u z.1.2.length z.1.1) (λz=>HFl c day fin f h u z.1.2) (λz=>u.length - z.1.1) ⟨(0,[]),aI _,aJ _,by
  show jx r u=_;rw [List.drop_zero];cases jx r u<;>rfl⟩ 0 ?_ ?_ (by kernel_rfl)
 ·exact⟨by simp [SFl,yR,za],by simp [HFl,za,Con.ze,Con.qQ,fxS,chS,Ex.exS,Con.dayS,Con.conS],by kernel_rfl,aI _⟩
 ·rintro⟨⟨i,m⟩,hi,hm,hs⟩;simp only at hi hm hs;refine zc.runX hmix (zkk ih) [13,14,50,51,52] 400 (T:=let v4:List AV:=[.sl f.length 3 (fxG f),.sl h.length 4 (chG h)];let v1:=u.getD (0+Int.toNat i) Fl.nil;.D ((i:Int)<u.length) (.side ((0:Int)<=i/\(i:Int)<u.length) (.ex (q50 [.str v1.amt,.str r]) λn=>.all (λ(r:L8×Int)=>r=mulR n.1 n.2) λn=>.ex (λ(x:L8×Int)=>eqL [.str n.1,.i n.2] [.str x.1,.i x.2]/\eqH [] []/\0=0/\(x.2≠0->Xp (Zf yQ x.2))) λn=>.D (n.2=0) (.ex (q58 [.i v1.date,.str v1.src,.str v1.dst,.str v1.ccy,.str n.1]) λn=>let v2:=payF n.date n.src n.dst n.ccy n.amt;let v3:=m.length+List.length v2;.A λn_1=>.side (0=0/\m.length<=m.length/\v3 *72<=140737488355328) (.S (i+1) (.leaf (.back 0 [(13,.str r),(14,.osl 5 5 0 v3),(50,.osl 4 5 0 u.length),(51,.i u.length),(52,.i (i+1))] [.box (Con.ze c),.box [.i day],.box [.i fin],.box v4,.arr u.length 5 (flG u),.arr v3 5 (appG m.length (flG m) (zg (flG v2) 0)),.box [.i v1.date,.str v1.src,.str v1.dst,.str v1.ccy,.str v1.amt],.arr (List.length v2) 5 (flG v2)])))) (.leaf qa.gone))) (.R [.osl 5 5 0 m.length] [.box (Con.ze c),.box [.i day],.box [.i fin],.box v4,.arr u.length 5 (flG u),.arr m.length 5 (flG m)])) (by kernel_rfl) ?_;simp only [q50,q58,Tree.holds,zd,inR,lo,hi,aD];refine⟨λhlt=> ?_,λhge=> ?_⟩
  ·have hlt:i<u.length:=by have:=aB hlt; omega
   have hd:u.drop i=u.getD i Fl.nil::u.drop (i+1):=by
    rw [List.drop_eq_getElem_cons hlt]; simp [List.getD,hlt]
   have hmem:u.getD i Fl.nil∈u:=by simp [List.getD,hlt]
   rw [hd,jx] at hs;rw [Nat.zero_add];have hx:=hok _ hmem;refine⟨⟨by omega,by omega⟩,λ_=>⟨((u.getD i Fl.nil).amt,r),⟨⟨rfl,rfl,trivial⟩,by have:=vy hx.1; show(u.getD i Fl.nil).amt.length<_; omega,by have:=vy hr; show r.length<_; omega⟩,⟨_,rfl⟩,?_⟩⟩;rintro _ rfl;refine⟨mulR (u.getD i Fl.nil).amt r,⟨⟨rfl,⟨rfl,rfl⟩,trivial⟩,trivial,trivial,λhe=> ?_⟩,λhe=> ?_,λ_=>trivial⟩
   ·refine hst _ ?_;rw [hs,aP he]; rfl
   ·have he:=aB he;have hmr:=(Xg hx.1 hr he).1;rw [aO (λhne=>hne he)] at hs;have hpl:=JD (u.getD i Fl.nil).date (u.getD i Fl.nil).src (u.getD i Fl.nil).dst (u.getD i Fl.nil).ccy (mulR (u.getD i Fl.nil).amt r).1;refine⟨⟨(u.getD i Fl.nil).date,(u.getD i Fl.nil).src,(u.getD i Fl.nil).dst,(u.getD i Fl.nil).ccy,(mulR (u.getD i Fl.nil).amt r).1⟩,⟨⟨⟨rfl,rfl⟩,rfl,rfl,rfl,rfl,trivial⟩,(uR hmr).2.2,by have:=vy hmr; show List.length (mulR (u.getD i Fl.nil).amt r).1<_; omega⟩,⟨(),trivial⟩,λ_ _=>⟨⟨trivial,aJ _,?_⟩,λ_=>⟨⟨by omega,by show _<=(9223372036854775807:Int); omega⟩,λ_=> ?_⟩⟩⟩
    ·show(m.length+(payF (u.getD i Fl.nil).date (u.getD i Fl.nil).src (u.getD i Fl.nil).dst (u.getD i Fl.nil).ccy (mulR (u.getD i Fl.nil).amt r).1).length)*72<=_;omega
    ·rw [aP trivial];simp only;generalize payF (u.getD i Fl.nil).date (u.getD i Fl.nil).src (u.getD i Fl.nil).dst (u.getD i Fl.nil).ccy (mulR (u.getD i Fl.nil).amt r).1=p at hs hpl ⊢;refine⟨⟨(i+1,m++p),hlt,by simp only [bO]; omega,?_⟩,by show _ - (i+1)<_; omega,?_,?_,by kernel_rfl,aI _⟩
     ·rw [hs];cases jx r (u.drop (i+1)) with
      | error e=>rfl
      | ok l=>simp [zuz,List.append_assoc]
     ·simp [SFl]
     ·refine⟨by simp [Con.ze,Con.qQ,Ex.exS,Con.dayS,Con.conS,za],by simp,by simp,by simp [za],⟨rfl,rfl,za _ _ _⟩,⟨by simp,rfl,?_⟩,trivial⟩;intro j k hj hk;have:=QG (o:=m) (a:=p) rfl rfl j k hj hk;show _=flG (m++p) j k;rw [<- this];simp only [appG,zg,Nat.zero_add]
  ·have hge:i=u.length:=by have:=aC hge; omega
   subst hge;rw [List.drop_length,jx] at hs;have hs:jx r u = .ok m:=by rw [hs]; show Except.ok (m++[])=_; rw [List.append_nil]
   exact RetR.zcb (Q:=upQ Q) [5] rfl (by simp [HFl]) (by simp) rfl (.inl (hQ m (by rw [hfl,hs]))) (LeA.refl _) ⟨LeB.refl _,trivial⟩
theorem Uo{n:Nat}{Xp:List PanicEntry->Prop}(ih:zy Xp prog 79 (flC FI.G n Xp)):zy Xp prog 79 (flC FI.G (n+1) Xp):=by
 refine zh1 (fn:=f79) (c:=f79.body.getD .skip) rfl rfl rfl λp hp O w0 I0 Q hl0 hq=> ?_
 obtain⟨c,day,fin,f,h⟩:=p;obtain⟨h1,h2,h3⟩:=hp;simp only at h1 h2 h3 hq;refine zc.runX hmix (zkk ih) [13,14,50,51,52] 400 (T:=let v31:=[AV.i day,AV.ptr 0 0,AV.ptr 1 0];let v30:List AV:=[.sl f.length 3 (fxG f),.sl h.length 4 (chG h)];let v28:List AV:=[.i day];let v27:=[AV.i fin];let v20:List AV:=[.i fin];let v18:=[AV.bool false,AV.ptr 0 0,AV.ptr 1 0,AV.ptr 2 0,AV.ptr 3 0];let v17:=[AV.i day];let v11:=[AV.ptr 0 0,AV.ptr 1 0,AV.ptr 2 0];let v10:=[AV.ptr 0 0,AV.ptr 1 0];let v9:=Con.conD (List.getD c.sub 0 Con.nil);let v3:qa:=.ret [.nils] [.box (Con.ze c),.box v28,.box v20,.box v30];let v1:=[AV.sl f.length 3 (fxG f),AV.sl h.length 4 (chG h)];let v33:List Blk:=[.box (Con.ze c),.box v1];.D (fin<=day) (.leaf v3) (.D (Con.kind c=2) (.ex (λ(x:FI)=>eqL v11 v11/\eqH [.box (Con.ze c),.box v17,.box v1] [.box (Con.ze x.c),.box [.i x.day],.box [.sl x.f.length 3 (fxG x.f),.sl x.h.length 4 (chG x.h)]]/\3=3/\VI.ok { x:=Con.x x.c,day:=FI.day x,f:=FI.f x,c:=FI.h x } /\ qD Xp (valM (Con.x x.c) x.day x.f x.h)) λn=>let v26:=valM (Con.x n.c) n.day n.f n.h;.ite (okM v26) (.side (Con.name n.c=Con.name c) (.side (Con.dst n.c=Con.dst c) (.side (Con.src n.c=Con.src c) (.side (FI.day n=day) (.ex (q58 [.i day,.str c.src,.str c.dst,.str c.name,.str (getM [] v26)]) λn_1=>let v6:=payF n_1.date n_1.src n_1.dst n_1.ccy n_1.amt;.A λn_2=>.R [.osl 4 5 0 (List.length v6)] [.box (Con.ze n.c),.box [.i n.day],.box v20,.box [.sl n.f.length 3 (fxG n.f),.sl n.h.length 4 (chG n.h)],.arr (List.length v6) 5 (flG v6)]))))) (.leaf qa.gone)) (.D (Con.kind c=3) (.ex (λ(x:FI×Bool)=>let v21:=FI.kid x.1 (Bool.toNat x.2);eqL v18 [.bool x.2,.ptr 0 0,.ptr 1 0,.ptr 2 0,.ptr 3 0]/\eqH [.box (Con.ze c),.box v17,.box v27,.box v1] [.box (Con.ze x.1.c),.box [.i x.1.day],.box [.i x.1.fin],.box [.sl x.1.f.length 3 (fxG x.1.f),.sl x.1.h.length 4 (chG x.1.h)]]/\4=4/\Bool.toNat x.2<List.length (Con.sub x.1.c)/\FI.G v21/\Con.nodes v21.c<n/\qD Xp v21.val) λn_1=>let v29:=FI.val (FI.kid n_1.1 (Bool.toNat n_1.2));let v2:=getM [] v29;.ite (okM v29) (.ex (λ(x:FI×Bool)=>let v22:=FI.kid x.1 (Bool.toNat x.2);eqL [.bool true,.ptr 0 0,.ptr 1 0,.ptr 2 0,.ptr 3 0] [.bool x.2,.ptr 0 0,.ptr 1 0,.ptr 2 0,.ptr 3 0]/\eqH [.box (Con.ze n_1.1.c),.box [.i n_1.1.day],.box [.i n_1.1.fin],.box [.sl n_1.1.f.length 3 (fxG n_1.1.f),.sl n_1.1.h.length 4 (chG n_1.1.h)]] [.box (Con.ze x.1.c),.box [.i x.1.day],.box [.i x.1.fin],.box [.sl x.1.f.length 3 (fxG x.1.f),.sl x.1.h.length 4 (chG x.1.h)]]/\4=4/\Bool.toNat x.2<List.length (Con.sub x.1.c)/\FI.G v22/\Con.nodes v22.c<n/\qD Xp v22.val) λn=>let v32:=FI.val (FI.kid n.1 (Bool.toNat n.2));let v4:=getM [] v32;let v15:=List.length v2 +List.length v4;.ite (okM v32) (.side (0=0/\List.length v2 <=List.length v2/\v15 *72<=140737488355328) (.R [.osl 4 5 0 v15] [.box (Con.ze n.1.c),.box [.i n.1.day],.box [.i n.1.fin],.box [.sl n.1.f.length 3 (fxG n.1.f),.sl n.1.h.length 4 (chG n.1.h)],.arr v15 5 (appG (List.length v2) (flG v2) (zg (flG v4) 0)),.arr (List.length v4) 5 (flG v4)])) (.leaf qa.gone)) (.leaf qa.gone)) (.D (Con.kind c=4) (.ex (λ(x:FI)=>eqL v11 v11/\eqH [.box (Con.ze c),.box v17,.box v1] [.box (Con.ze x.c),.box [.i x.day],.box [.sl x.f.length 3 (fxG x.f),.sl x.h.length 4 (chG x.h)]]/\3=3/\VI.ok { x:=Con.x x.c,day:=FI.day x,f:=FI.f x,c:=FI.h x } /\ qD Xp (valM (Con.x x.c) x.day x.f x.h)) λn_1=>let v16:=valM (Con.x n_1.c) n_1.day n_1.f n_1.h;.ite (okM v16) (.ex (λ(x:FI×Bool)=>let v23:=FI.kid x.1 (Bool.toNat x.2);eqL v18 [.bool x.2,.ptr 0 0,.ptr 1 0,.ptr 2 0,.ptr 3 0]/\eqH [.box (Con.ze n_1.c),.box [.i n_1.day],.box v27,.box [.sl n_1.f.length 3 (fxG n_1.f),.sl n_1.h.length 4 (chG n_1.h)]] [.box (Con.ze x.1.c),.box [.i x.1.day],.box [.i x.1.fin],.box [.sl x.1.f.length 3 (fxG x.1.f),.sl x.1.h.length 4 (chG x.1.h)]]/\4=4/\Bool.toNat x.2<List.length (Con.sub x.1.c)/\FI.G v23/\Con.nodes v23.c<n/\qD Xp v23.val) λn=>let v5:=FI.val (FI.kid n.1 (Bool.toNat n.2));let v38:=getM [] v5;.ite (okM v5) (.leaf (.loop (lps K79 0).1 (lps K79 0).2 [(13,.str (getM [] v16)),(14,.nils),(50,.osl 4 5 0 (List.length v38)),(51,.int .i64 ↑(List.length v38)),(52,.i 0)] [.box (Con.ze n.1.c),.box [.i n.1.day],.box [.i n.1.fin],.box [.sl n.1.f.length 3 (fxG n.1.f),.sl n.1.h.length 4 (chG n.1.h)],.arr (List.length v38) 5 (flG v38)])) (.leaf qa.gone)) (.leaf qa.gone)) (.D (Con.kind c=5) (.ex (λ(x:FI×Int)=>eqL v31 [.i x.2,.ptr 0 0,.ptr 1 0]/\eqH v33 [.box (Con.ze x.1.c),.box [.sl x.1.f.length 3 (fxG x.1.f),.sl x.1.h.length 4 (chG x.1.h)]]/\2=2/\VI.ok { x:=Con.x x.1.c,day:=x.2,f:=FI.f x.1,c:=FI.h x.1 } /\ qD Xp (holM (Con.x x.1.c) x.2 x.1.f x.1.h)) λn_1=>let v19:=holM (Con.x n_1.1.c) n_1.2 n_1.1.f n_1.1.h;.ite (okM v19) (.ex (λ(x:FI×Bool)=>let v24:=FI.kid x.1 (Bool.toNat x.2);eqL [.bool !getM false v19,.ptr 0 0,.ptr 1 0,.ptr 2 0,.ptr 3 0] [.bool x.2,.ptr 0 0,.ptr 1 0,.ptr 2 0,.ptr 3 0]/\eqH [.box (Con.ze n_1.1.c),.box v17,.box v27,.box [.sl n_1.1.f.length 3 (fxG n_1.1.f),.sl n_1.1.h.length 4 (chG n_1.1.h)]] [.box (Con.ze x.1.c),.box [.i x.1.day],.box [.i x.1.fin],.box [.sl x.1.f.length 3 (fxG x.1.f),.sl x.1.h.length 4 (chG x.1.h)]]/\4=4/\Bool.toNat x.2<List.length (Con.sub x.1.c)/\FI.G v24/\Con.nodes v24.c<n/\qD Xp v24.val) λn=>let v7:=FI.val (FI.kid n.1 (Bool.toNat n.2));.ite (okM v7) (.R [.osl 4 5 0 (List.length (getM [] v7))] [.box (Con.ze n.1.c),.box [.i n.1.day],.box [.i n.1.fin],.box [.sl n.1.f.length 3 (fxG n.1.f),.sl n.1.h.length 4 (chG n.1.h)],.arr (List.length (getM [] v7)) 5 (flG (getM [] v7))]) (.leaf qa.gone)) (.leaf qa.gone)) (.D (Con.kind c=7) (.ex (q57 v31 [.box v1,.box (Con.ze c)]) λn_1=>.A λn_2=>.ex (λ(x:FI×Bool)=>let v25:=FI.kid x.1 (Bool.toNat x.2);eqL [.bool !qi n_1.1.h (Con.src n_1.1.c) (Con.name n_1.1.c) n_1.2,.ptr 0 0,.ptr 1 0,.ptr 2 0,.ptr 3 0] [.bool x.2,.ptr 0 0,.ptr 1 0,.ptr 2 0,.ptr 3 0]/\eqH [.box (Con.ze n_1.1.c),.box v17,.box v27,.box [.sl n_1.1.f.length 3 (fxG n_1.1.f),.sl n_1.1.h.length 4 (chG n_1.1.h)]] [.box (Con.ze x.1.c),.box [.i x.1.day],.box [.i x.1.fin],.box [.sl x.1.f.length 3 (fxG x.1.f),.sl x.1.h.length 4 (chG x.1.h)]]/\4=4/\Bool.toNat x.2<List.length (Con.sub x.1.c)/\FI.G v25/\Con.nodes v25.c<n/\qD Xp v25.val) λn=>let v8:=FI.val (FI.kid n.1 (Bool.toNat n.2));.ite (okM v8) (.R [.osl 4 5 0 (List.length (getM [] v8))] [.box (Con.ze n.1.c),.box [.i n.1.day],.box [.i n.1.fin],.box [.sl n.1.f.length 3 (fxG n.1.f),.sl n.1.h.length 4 (chG n.1.h)],.arr (List.length (getM [] v8)) 5 (flG (getM [] v8))]) (.leaf qa.gone)) (.D (Con.kind c=6) (.D (day<=Con.date c) (.side ((0:Int)<=0/\(0:Int)<(c.sub.length:Int)) (.ex (λ(x:FI)=>eqL [v9,.i c.date,.i fin,.agg v1] [(Con.conA x.c),.i x.day,.i x.fin,.agg [.sl x.f.length 3 (fxG x.f),.sl x.h.length 4 (chG x.h)]]/\eqH [] []/\0=0/\FI.G x/\Con.nodes x.c<n/\qD Xp x.val) λn=>let v34:=getM [] n.val;.ite (okM n.val) (.R [.osl 4 5 0 (List.length v34)] [.box (Con.ze c),.box v28,.box v20,.box v30,.arr (List.length v34) 5 (flG v34)]) (.leaf qa.gone))) (.leaf v3)) (.D (Con.kind c=8) (.side ((0:Int)<=0/\(0:Int)<(c.sub.length:Int)) (.ex (λ(x:FI)=>eqL [(Con.conA c),.i day,.i fin,.fn 114 [] v10] [(Con.conA x.c),.i x.day,.i x.fin,.fn 114 [] v10]/\eqH [.box v1,.box (Con.ze c)] [.box [.sl x.f.length 3 (fxG x.f),.sl x.h.length 4 (chG x.h)],.box (Con.ze x.c)]/\2=2/\List.length x.h<1099511627776/\List.length (Con.days x.c)<1099511627776/\qD Xp (firstM (choT x) x.day x.fin (Con.days x.c))) λn_1=>let v12:=firstM (choT n_1) n_1.day n_1.fin (Con.days n_1.c);.ite (okM v12) (.side ((List.length n_1.f=f.length/\3=3/\fxG n_1.f=fxG f)/\(List.length n_1.h=h.length/\4=4/\chG n_1.h=chG h)/\True) (.side (List.length (Con.sub n_1.c)=List.length c.sub/\12=12/\Con.conG (Con.sub n_1.c)=Con.conG c.sub) (.ex (λ(x:FI)=>eqL [v9,.i (getM (0:Int) v12),.i fin,.agg v1] [(Con.conA x.c),.i x.day,.i x.fin,.agg [.sl x.f.length 3 (fxG x.f),.sl x.h.length 4 (chG x.h)]]/\eqH [] []/\0=0/\FI.G x/\Con.nodes x.c<n/\qD Xp x.val) λn=>let v35:=getM [] n.val;.ite (okM n.val) (.R [.osl 4 5 0 (List.length v35)] [.box (Con.ze n_1.c),.box v28,.box v20,.box [.sl n_1.f.length 3 (fxG n_1.f),.sl n_1.h.length 4 (chG n_1.h)],.arr (List.length v35) 5 (flG v35)]) (.leaf qa.gone)))) (.leaf qa.gone))) (.D (Con.kind c=9) (.side ((0:Int)<=0/\(0:Int)<(c.sub.length:Int)) (.ex (λ(x:FI)=>eqL [(Con.conA c),.i day,.i fin,.fn 116 [] v10] [(Con.conA x.c),.i x.day,.i x.fin,.fn 116 [] v10]/\eqH v33 [.box (Con.ze x.c),.box [.sl x.f.length 3 (fxG x.f),.sl x.h.length 4 (chG x.h)]]/\2=2/\(∀ (d:Int),VI.ok { x:=Con.x x.c,day:=d,f:=FI.f x,c:=FI.h x })/\List.length (Con.days x.c)<1099511627776/\qD Xp (firstM (holT x) x.day x.fin (Con.days x.c))) λn_1=>let v13:=firstM (holT n_1) n_1.day n_1.fin (Con.days n_1.c);.ite (okM v13) (.side ((List.length n_1.f=f.length/\3=3/\fxG n_1.f=fxG f)/\(List.length n_1.h=h.length/\4=4/\chG n_1.h=chG h)/\True) (.side (List.length (Con.sub n_1.c)=List.length c.sub/\12=12/\Con.conG (Con.sub n_1.c)=Con.conG c.sub) (.ex (λ(x:FI)=>eqL [v9,.i day,.i (getM (0:Int) v13),.agg v1] [(Con.conA x.c),.i x.day,.i x.fin,.agg [.sl x.f.length 3 (fxG x.f),.sl x.h.length 4 (chG x.h)]]/\eqH [] []/\0=0/\FI.G x/\Con.nodes x.c<n/\qD Xp x.val) λn=>let v36:=getM [] n.val;.ite (okM n.val) (.R [.osl 4 5 0 (List.length v36)] [.box (Con.ze n_1.c),.box v28,.box v20,.box [.sl n_1.f.length 3 (fxG n_1.f),.sl n_1.h.length 4 (chG n_1.h)],.arr (List.length v36) 5 (flG v36)]) (.leaf qa.gone)))) (.leaf qa.gone))) (.D (Con.kind c=10) (.side ((0:Int)<=0/\(0:Int)<(c.sub.length:Int)) (.ex (λ(x:FI)=>eqL [(Con.conA c),.i day,.i fin,.fn 116 [] v10] [(Con.conA x.c),.i x.day,.i x.fin,.fn 116 [] v10]/\eqH v33 [.box (Con.ze x.c),.box [.sl x.f.length 3 (fxG x.f),.sl x.h.length 4 (chG x.h)]]/\2=2/\(∀ (d:Int),VI.ok { x:=Con.x x.c,day:=d,f:=FI.f x,c:=FI.h x })/\List.length (Con.days x.c)<1099511627776/\qD Xp (firstM (holT x) x.day x.fin (Con.days x.c))) λn_1=>let v14:=firstM (holT n_1) n_1.day n_1.fin (Con.days n_1.c);.ite (okM v14) (.side ((List.length n_1.f=f.length/\3=3/\fxG n_1.f=fxG f)/\(List.length n_1.h=h.length/\4=4/\chG n_1.h=chG h)/\True) (.side (List.length (Con.sub n_1.c)=List.length c.sub/\12=12/\Con.conG (Con.sub n_1.c)=Con.conG c.sub) (.ex (λ(x:FI)=>eqL [v9,.i (getM (0:Int) v14),.i fin,.agg v1] [(Con.conA x.c),.i x.day,.i x.fin,.agg [.sl x.f.length 3 (fxG x.f),.sl x.h.length 4 (chG x.h)]]/\eqH [] []/\0=0/\FI.G x/\Con.nodes x.c<n/\qD Xp x.val) λn=>let v37:=getM [] n.val;.ite (okM n.val) (.R [.osl 4 5 0 (List.length v37)] [.box (Con.ze n_1.c),.box v28,.box v20,.box [.sl n_1.f.length 3 (fxG n_1.f),.sl n_1.h.length 4 (chG n_1.h)],.arr (List.length v37) 5 (flG v37)]) (.leaf qa.gone)))) (.leaf qa.gone))) (.leaf v3))))))))))) (by kernel_rfl) ?_;simp only [q57,q58,Tree.holds,zd,inR,lo,hi,aD];obtain⟨g1,g2,g3,g4⟩:=h1;simp only at g1 g2 g3 g4;have hv:FI.val ⟨c,day,fin,f,h⟩=flM f h c day fin:=rfl;rw [hv] at h3
 have hQ:∀ l,flM f h c day fin = .ok l->Q (.osl 0 5 0 l.length,[.arr l.length 5 (flG l)]):=by
  intro l hl;have:=hq (by rw [hv,hl]; rfl);rw [hv,hl] at this;exact this
 clear hq
 have ret:∀ (l:List Fl) (m:Nat) (g:Nat->Nat->AV) (b0 b1 b2 b3:Blk) (rest:Heap),flM f h c day fin = .ok l->m=l.length->eqG m 5 g (flG l)->RetR (flC FI.G (n+1) Xp) 0 (upQ Q) [.osl 4 5 0 m] (b0::b1::b2::b3::.arr m 5 g::rest):=by
  intro l m g b0 b1 b2 b3 rest hl hm hg;subst hm;exact RetR.zcb (Q:=upQ Q) [4] rfl (by simp) (by simp) rfl (.inl (hQ l hl)) (LeA.refl _) ⟨LeB.arr λj o hj ho=>by rw [hg j o hj ho]; exact LeA.refl _,trivial⟩
 have nil:∀ hs:Heap,flM f h c day fin = .ok []->RetR (flC FI.G (n+1) Xp) 0 (upQ Q) [.nils] hs:=by
  intro hs hl;exact RetR.le0 (Q:=upQ Q) (r:=.nils) (.inr ⟨.osl 0 5 0 0,[(5,flG [])],⟨⟨aJ _,Nat.zero_lt_one⟩,rfl,rfl⟩,hQ [] hl⟩) (λh=>by cases h) (LeA.refl _)
 have hbig:=Con.xg c;have hnod:=Con.wo c;have hform:=g1;rw [Con.znx,bA] at hform;obtain⟨hnb,hfs⟩:=hform
 have kidG:∀ (i:Nat) (d e:Int),i<c.sub.length->FI.G ⟨c.sub.getD i Con.nil,d,e,f,h⟩/\(c.sub.getD i Con.nil).nodes<n:=by
  intro i d e hi;have k1:=Con.jA hi;have k2:=Con.ye hi;refine⟨⟨?_,by show(c.sub.getD i Con.nil).big<_; omega,by show(c.sub.getD i Con.nil).nodes<_; omega,g4⟩,by omega⟩;cases hf:(c.sub.getD i Con.nil).form with
  | true=>rfl
  | false=>rw [Con.Kj c.sub i hi hf] at hfs; cases hfs
 have okx:∀ d,VI.ok ⟨c.x,d,f,h⟩:=λd=>⟨by show c.x.size<_; omega,by show c.x.zJ<_; omega,g4⟩
 have hhl:h.length<2^40:=g4.2.1;have hdl:c.days.length<2^40:=by omega
 have eC:eqH (FI.mk c day fin f h).hC (FI.mk c day fin f h).hC:=by simp [FI.hC,Con.ze,Con.qQ,fxS,chS,Ex.exS,Con.dayS,Con.conS,za]
 have eT:eqH (FI.mk c day fin f h).hH (FI.mk c day fin f h).hH:=by simp [FI.hH,Con.ze,Con.qQ,fxS,chS,Ex.exS,Con.dayS,Con.conS,za]
 have eV:eqH (FI.mk c day fin f h).hV (FI.mk c day fin f h).hV:=by simp [FI.hV,Con.ze,Con.qQ,fxS,chS,Ex.exS,Con.dayS,Con.conS,za]
 have eH:eqH (FI.mk c day fin f h).heap (FI.mk c day fin f h).heap:=by simp [FI.heap,Con.ze,Con.qQ,fxS,chS,Ex.exS,Con.dayS,Con.conS,za]
 have eA:eqA (envA f h) (envA f h):=⟨⟨rfl,rfl,λ_ _ _ _=>rfl⟩,⟨rfl,rfl,λ_ _ _ _=>rfl⟩,trivial⟩;have hst:=h3;refine⟨λh0=> ?_,λh0=> ?_⟩
 ·refine nil _ ?_;rw [Jh,aP (aB h0)]
 have h0:=aC h0;have hfl:=Jh f h c day fin;rw [aO h0] at hfl;refine⟨λhk=> ?_,λnk2=>⟨λhk=> ?_,λnk3=>⟨λhk=> ?_,λnk4=>⟨λhk=> ?_,λnk5=>⟨λhk=> ?_,λnk7=>⟨λhk=> ?_,λnk6=>⟨λhk=> ?_,λnk8=>⟨λhk=> ?_,λnk9=>⟨λhk=> ?_,λnk10=> ?_⟩⟩⟩⟩⟩⟩⟩⟩⟩
 ·have hk:=aB hk;simp only [hk,Int.reduceEq,if_true,if_false,reduceIte] at hfl;rw [hfl] at h3;refine⟨⟨c,day,fin,f,h⟩,⟨by simp,eV,trivial,okx _,(jH h3).1⟩,λho=>⟨rfl,λ_=>⟨rfl,λ_=>⟨rfl,λ_=>⟨rfl,λ_=> ?_⟩⟩⟩⟩,λ_=>trivial⟩;have hr:valM c.x day f h = .ok (getM [] (valM c.x day f h)):=qY ho;have hr2:=QD hr;refine⟨⟨day,c.src,c.dst,c.name,getM [] (valM c.x day f h)⟩,⟨by simp,(uR hr2).2.2,?_⟩,⟨(),trivial⟩,λ_ _=> ?_⟩
  ·show List.length (getM [] (valM c.x day f h))<_;have:=vy hr2;omega
  ·refine ret (payF day c.src c.dst c.name (getM [] (valM c.x day f h))) _ _ _ _ _ _ _ ?_ rfl (za _ _ _);rw [hfl,hr];rfl
 ·have hk:=aB hk;simp only [hk,vK] at hnb;have hl:c.sub.length=2:=by simp at hnb; omega
  simp only [hk,Int.reduceEq,if_true,if_false,reduceIte] at hfl;rw [hfl] at h3;obtain⟨s1,s2⟩:=jH h3;refine⟨(⟨c,day,fin,f,h⟩,false),⟨by simp,eH,trivial,by show 0<c.sub.length; omega,(kidG 0 _ _ (by omega)).1,(kidG 0 day fin (by omega)).2,s1⟩,λho=> ?_,λ_=>trivial⟩;have hr:flM f h (c.sub.getD 0 Con.nil) day fin = .ok (getM [] (flM f h (c.sub.getD 0 Con.nil) day fin)):=qY ho;obtain⟨s3,s4⟩:=jH (s2 _ hr);refine⟨(⟨c,day,fin,f,h⟩,true),⟨by simp,eH,trivial,by show 1<c.sub.length; omega,(kidG 1 _ _ (by omega)).1,(kidG 1 day fin (by omega)).2,s3⟩,λho2=> ?_,λ_=>trivial⟩;have hr2:flM f h (c.sub.getD 1 Con.nil) day fin = .ok (getM [] (flM f h (c.sub.getD 1 Con.nil) day fin)):=qY ho2;have l1:=(JY _ hr).1;have l2:=(JY _ hr2).1;have n1:(c.sub.getD 0 Con.nil).nodes<2^20:=(kidG 0 day fin (by omega)).1.2.2.1;have n2:(c.sub.getD 1 Con.nil).nodes<2^20:=(kidG 1 day fin (by omega)).1.2.2.1;refine⟨⟨trivial,aJ _,?_⟩,λ_=> ?_⟩
  ·show((getM [] (flM f h (c.sub.getD 0 Con.nil) day fin)).length+(getM [] (flM f h (c.sub.getD 1 Con.nil) day fin)).length)*72<=_;omega
  ·refine ret (getM [] (flM f h (c.sub.getD 0 Con.nil) day fin)++getM [] (flM f h (c.sub.getD 1 Con.nil) day fin)) _ _ _ _ _ _ _ ?_ (by rw [bO]; rfl) ?_
   ·rw [hfl,hr,hr2]; rfl
   ·intro j k hj hk;show appG (getM [] (flM f h (c.sub.getD 0 Con.nil) day fin)).length (flG (getM [] (flM f h (c.sub.getD 0 Con.nil) day fin))) (zg (flG (getM [] (flM f h (c.sub.getD 1 Con.nil) day fin))) 0) j k=_;have:=QG (o:=getM [] (flM f h (c.sub.getD 0 Con.nil) day fin)) (a:=getM [] (flM f h (c.sub.getD 1 Con.nil) day fin)) rfl rfl j k hj hk;rw [<- this];simp only [appG,zg,Nat.zero_add]
 ·have hk:=aB hk;simp only [hk,vK] at hnb;have hl:c.sub.length=1:=by simp at hnb; omega
  simp only [hk,Int.reduceEq,if_true,if_false,reduceIte] at hfl;rw [hfl] at h3;obtain⟨s1,s2⟩:=jH h3;refine⟨⟨c,day,fin,f,h⟩,⟨by simp,eV,trivial,okx _,s1⟩,λho=> ?_,λ_=>trivial⟩;have hr:valM c.x day f h = .ok (getM [] (valM c.x day f h)):=qY ho;obtain⟨s3,s4⟩:=jH (s2 _ hr);refine⟨(⟨c,day,fin,f,h⟩,false),⟨by simp,eH,trivial,by show 0<c.sub.length; omega,(kidG 0 _ _ (by omega)).1,(kidG 0 day fin (by omega)).2,s3⟩,λho2=> ?_,λ_=>trivial⟩;have hr2:flM f h (c.sub.getD 0 Con.nil) day fin = .ok (getM [] (flM f h (c.sub.getD 0 Con.nil) day fin)):=qY ho2;have s5:=s4 _ hr2;have n1:(c.sub.getD 0 Con.nil).nodes<2^20:=(kidG 0 day fin (by omega)).1.2.2.1;obtain⟨l1,l2⟩:=JY _ hr2;have hr3:=QD hr;rw [hr,hr2] at hfl;show zN Xp none prog f79 O 0 w0 I0 (λ_ _ _=>False) (RetR (flC FI.G (n+1) Xp) 0 (upQ Q)) (.code (.loop (lps K79 0).1)::(lps K79 0).2) (mk f79.ntmps [(13,.str (getM [] (valM c.x day f h))),(14,.nils),(50,.osl 4 5 0 (getM [] (flM f h (c.sub.getD 0 Con.nil) day fin)).length),(51,.i ((getM [] (flM f h (c.sub.getD 0 Con.nil) day fin)).length:Int)),(52,.i 0)] [.box c.ze,.box [.i day],.box [.i fin],.box [.sl f.length 3 (fxG f),.sl h.length 4 (chG h)],.arr (getM [] (flM f h (c.sub.getD 0 Con.nil) day fin)).length 5 (flG (getM [] (flM f h (c.sub.getD 0 Con.nil) day fin)))]);change flM f h c day fin=jx (getM [] (valM c.x day f h)) (getM [] (flM f h (c.sub.getD 0 Con.nil) day fin)) at hfl;generalize getM [] (flM f h (c.sub.getD 0 Con.nil) day fin)=u at hfl s5 l1 l2 ⊢;generalize getM [] (valM c.x day f h)=r at hfl s5 hr3 ⊢;exact za4 ih hfl s5 (by omega) l2 hr3 hQ
 ·have hk:=aB hk;simp only [hk,vK] at hnb;have hl:c.sub.length=2:=by simp at hnb; omega
  simp only [hk,Int.reduceEq,if_true,if_false,reduceIte] at hfl;rw [hfl] at h3;obtain⟨s1,s2⟩:=jH h3;refine⟨(⟨c,day,fin,f,h⟩,day),⟨by simp,eT,trivial,okx _,s1⟩,λho=> ?_,λ_=>trivial⟩;have hr:holM c.x day f h = .ok (getM false (holM c.x day f h)):=qY ho;have s3:=s2 _ hr;have eb:(if getM false (holM c.x day f h)=true then 0 else 1)=(!getM false (holM c.x day f h)).toNat:=by cases getM false (holM c.x day f h)<;>rfl
  have hb:(!getM false (holM c.x day f h)).toNat<c.sub.length:=by rw [hl]; cases getM false (holM c.x day f h)<;>decide
  rw [eb] at s3;refine⟨(⟨c,day,fin,f,h⟩,!getM false (holM c.x day f h)),⟨by simp,eH,trivial,hb,(kidG _ _ _ hb).1,(kidG _ day fin hb).2,s3⟩,λho2=> ?_,λ_=>trivial⟩;have hr2:=qY (d:=[]) ho2;refine ret _ _ _ _ _ _ _ _ ?_ rfl (za _ _ _);rw [hfl,hr];show flM f h (c.sub.getD (if getM false (holM c.x day f h)=true then 0 else 1) Con.nil) day fin=_;rw [eb];exact hr2
 ·have hk:=aB hk;simp only [hk,vK] at hnb;have hl:c.sub.length=2:=by simp at hnb; omega
  simp only [hk,Int.reduceEq,if_true,if_false,reduceIte] at hfl;rw [hfl] at h3;refine⟨(⟨c,day,fin,f,h⟩,day),⟨by simp,eC,trivial,hhl⟩,⟨(),trivial⟩,λ_ _=> ?_⟩;have eb:(if qi h c.src c.name day=true then 0 else 1)=(!qi h c.src c.name day).toNat:=by cases qi h c.src c.name day<;>rfl
  have hb:(!qi h c.src c.name day).toNat<c.sub.length:=by rw [hl]; cases qi h c.src c.name day<;>decide
  rw [eb] at h3 hfl;refine⟨(⟨c,day,fin,f,h⟩,!qi h c.src c.name day),⟨by simp,eH,trivial,hb,(kidG _ _ _ hb).1,(kidG _ day fin hb).2,h3⟩,λho2=> ?_,λ_=>trivial⟩;have hr2:=qY (d:=[]) ho2;refine ret _ _ _ _ _ _ _ _ ?_ rfl (za _ _ _);rw [hfl];exact hr2
 ·have hk:=aB hk;simp only [hk,vK] at hnb;have hl:c.sub.length=1:=by simp at hnb; omega
  simp only [hk,Int.reduceEq,if_true,if_false,reduceIte] at hfl;refine⟨λhd=> ?_,λhd=> ?_⟩
  ·rw [aP (aB hd)] at hfl;rw [hfl] at h3;refine⟨⟨by decide,by omega⟩,λ_=>⟨⟨c.sub.getD 0 Con.nil,c.date,fin,f,h⟩,⟨⟨kT _,⟨rfl,rfl⟩,⟨rfl,rfl⟩,eA,trivial⟩,trivial,trivial,(kidG 0 _ _ (by omega)).1,(kidG 0 day fin (by omega)).2,h3⟩,λho2=> ?_,λ_=>trivial⟩⟩;have hr2:=qY (d:=[]) ho2;refine ret _ _ _ _ _ _ _ _ ?_ rfl (za _ _ _);rw [hfl];exact hr2
  ·rw [aO (aC hd)] at hfl;exact nil _ hfl
 ·have hk:=aB hk;simp only [hk,vK] at hnb;have hl:c.sub.length=1:=by simp at hnb; omega
  simp only [hk,Int.reduceEq,if_true,if_false,reduceIte] at hfl;rw [hfl] at h3;obtain⟨s1,s2⟩:=jH h3;refine⟨⟨by decide,by omega⟩,λ_=>⟨⟨c,day,fin,f,h⟩,⟨⟨qx c,⟨rfl,rfl⟩,⟨rfl,rfl⟩,by simp,trivial⟩,eC,trivial,hhl,hdl,s1⟩,λho=>⟨⟨⟨rfl,trivial,rfl⟩,⟨rfl,trivial,rfl⟩,trivial⟩,λ_=>⟨⟨rfl,trivial,rfl⟩,λ_=> ?_⟩⟩,λ_=>trivial⟩⟩;have hr:=qY (d:=0) ho;refine⟨⟨c.sub.getD 0 Con.nil,getM 0 (firstM (choT ⟨c,day,fin,f,h⟩) day fin c.days),fin,f,h⟩,⟨⟨kT _,⟨rfl,rfl⟩,⟨rfl,rfl⟩,eA,trivial⟩,trivial,trivial,(kidG 0 _ _ (by omega)).1,(kidG 0 day fin (by omega)).2,s2 _ hr⟩,λho2=> ?_,λ_=>trivial⟩;have hr2:=qY (d:=[]) ho2;refine ret _ _ _ _ _ _ _ _ ?_ rfl (za _ _ _);rw [hfl];have hr':firstM (λt=>.ok (qi h c.src c.name t)) day fin c.days = .ok (getM 0 (firstM (choT ⟨c,day,fin,f,h⟩) day fin c.days)):=hr;rw [hr'];exact hr2
 ·have hk:=aB hk;simp only [hk,vK] at hnb;have hl:c.sub.length=1:=by simp at hnb; omega
  simp only [hk,Int.reduceEq,if_true,if_false,reduceIte] at hfl;rw [hfl] at h3;obtain⟨s1,s2⟩:=jH h3;refine⟨⟨by decide,by omega⟩,λ_=>⟨⟨c,day,fin,f,h⟩,⟨⟨qx c,⟨rfl,rfl⟩,⟨rfl,rfl⟩,by simp,trivial⟩,eT,trivial,okx,hdl,s1⟩,λho=>⟨⟨⟨rfl,trivial,rfl⟩,⟨rfl,trivial,rfl⟩,trivial⟩,λ_=>⟨⟨rfl,trivial,rfl⟩,λ_=> ?_⟩⟩,λ_=>trivial⟩⟩;have hr:=qY (d:=0) ho;refine⟨⟨c.sub.getD 0 Con.nil,day,getM 0 (firstM (holT ⟨c,day,fin,f,h⟩) day fin c.days),f,h⟩,⟨⟨kT _,⟨rfl,rfl⟩,⟨rfl,rfl⟩,eA,trivial⟩,trivial,trivial,(kidG 0 _ _ (by omega)).1,(kidG 0 day fin (by omega)).2,s2 _ hr⟩,λho2=> ?_,λ_=>trivial⟩;have hr2:=qY (d:=[]) ho2;refine ret _ _ _ _ _ _ _ _ ?_ rfl (za _ _ _);rw [hfl];have hr':firstM (λt=>holM c.x t f h) day fin c.days = .ok (getM 0 (firstM (holT ⟨c,day,fin,f,h⟩) day fin c.days)):=hr;rw [hr'];exact hr2
 ·have hk:=aB hk;simp only [hk,vK] at hnb;have hl:c.sub.length=1:=by simp at hnb; omega
  simp only [hk,Int.reduceEq,if_true,if_false,reduceIte] at hfl;rw [hfl] at h3;obtain⟨s1,s2⟩:=jH h3;refine⟨⟨by decide,by omega⟩,λ_=>⟨⟨c,day,fin,f,h⟩,⟨⟨qx c,⟨rfl,rfl⟩,⟨rfl,rfl⟩,by simp,trivial⟩,eT,trivial,okx,hdl,s1⟩,λho=>⟨⟨⟨rfl,trivial,rfl⟩,⟨rfl,trivial,rfl⟩,trivial⟩,λ_=>⟨⟨rfl,trivial,rfl⟩,λ_=> ?_⟩⟩,λ_=>trivial⟩⟩;have hr:=qY (d:=0) ho;refine⟨⟨c.sub.getD 0 Con.nil,getM 0 (firstM (holT ⟨c,day,fin,f,h⟩) day fin c.days),fin,f,h⟩,⟨⟨kT _,⟨rfl,rfl⟩,⟨rfl,rfl⟩,eA,trivial⟩,trivial,trivial,(kidG 0 _ _ (by omega)).1,(kidG 0 day fin (by omega)).2,s2 _ hr⟩,λho2=> ?_,λ_=>trivial⟩;have hr2:=qY (d:=[]) ho2;refine ret _ _ _ _ _ _ _ _ ?_ rfl (za _ _ _);rw [hfl];have hr':firstM (λt=>holM c.x t f h) day fin c.days = .ok (getM 0 (firstM (holT ⟨c,day,fin,f,h⟩) day fin c.days)):=hr;rw [hr'];exact hr2
 ·refine nil _ ?_;have n2:=aC nk2;have n3:=aC nk3;have n4:=aC nk4;have n5:=aC nk5;have n6:=aC nk6;have n7:=aC nk7;have n8:=aC nk8;have n9:=aC nk9;have n10:=aC nk10;rw [hfl,aO n2,aO n3,aO n4,aO n5,aO n6,aO n7,aO n8,aO n9,aO n10]
theorem zf0(Xp:List PanicEntry->Prop)(n:Nat):zy Xp prog 79 (flC FI.G n Xp):=by
 induction n with
 | zero=>
  intro args hc Q hq _;obtain⟨x,⟨_,_,_,_,h,_⟩,_⟩:=hq;exact absurd h (Nat.not_lt_zero _)
 | succ n ih=>exact Uo ih
def flR(Xp:List PanicEntry->Prop):Ctr:=ctrS (λk:FI=>[k.c.conA,.i k.day,.i k.fin,envA k.f k.h]) (λ_=>[]) (λk=>k.G/\qD Xp k.val) (λk=>okM k.val) (λk=>(flS (getM [] k.val),[]))
theorem Uh(Xp:List PanicEntry->Prop):zy Xp prog 79 (flR Xp):=by
 intro args hc Q hq hf;obtain⟨x,⟨h1,h2,h3,h4,h5⟩,h6⟩:=hq;refine zy.znq (out':=λk=>flS (getM [] k.val)) (zf0 Xp (x.c.nodes+1)) (λk=>LeA.sl rfl λj o _ _=> ?_) args hc Q ⟨x,⟨h1,h2,h3,h4,Nat.lt_succ_self _,h5⟩,h6⟩ hf;simp only [zg,Nat.zero_add];exact LeA.refl _
def FI.pre(k:FI):Prop:=k.c.big<2^40/\k.c.nodes<=1000000/\envP (k.f,k.h)
def vR:Ctr:=ctrP false (λk:FI=>[k.c.conA,.i k.day,.i k.fin,envA k.f k.h]) FI.pre (λk r=>r=befM k.c k.day k.fin k.f k.h) (λ_ (r:List Fl×Int)=>(.tup [flS r.1,.i r.2],[]))
noncomputable def LB:List Go.Sx.Item:=(jk 6 (f49.body.getD .skip)).take 4++.inLoop::(jk 6 (f49.body.getD .skip)).drop 4
noncomputable def GBef:=tb yu (tb Z9 tz)
def SBe(day fin:Int):KV:=[(1,.i day),(2,.i fin),(4,.ptr 0 0),(7,.ptr 1 0),(8,.ptr 2 0),(9,.ptr 3 0)]
def HBe(c:Con)(f:List Fx)(h:List Ch):Heap:=[.box c.ze,.box [fxS f,chS h],.box [.nils],.box [.i 0]]
theorem zgd(c:Con)(day fin:Int)(f:List Fx)(h:List Ch)(hp:FI.pre ⟨c,day,fin,f,h⟩){Q:AV×Heap->Prop}(hq:Q (.tup [flS (befM c day fin f h).1,.i (befM c day fin f h).2],[])){O:Nat->Prop}{w0:World}{I0:List SE} :
  zc prog f49 O 0 w0 I0 (λ_ kv hh=>∃ x:{u:Unit // c.errC=0/\errE f h=0/\0<=day/\day<=99999/\0<=fin/\fin<=100000},LeK 0 f49.ntmps kv hh (SBe day fin) (HBe c f h)) (RetR vR 0 Q) LB (wS f49 [c.conA,.i day,.i fin,envA f h] []):=by
 obtain⟨p1,p2,p3⟩:=hp;simp only at p1 p2 p3;refine zc.n GBef.h [1,2,4,7,8,9] (let v1:List AV:=[.sl f.length 3 (fxG f),.sl h.length 4 (chG h)];.ex (q31 [(Con.conA c)]) λn=>.all (λ(r:Int)=>r=Con.errC n) λn=>.N (n=0) (.R [.nils,.i n] [.box (Con.ze c),.box v1,.box [.nils],.box [.i n]]) (.ex (q54 [.agg [.sl f.length 3 (fxG f),.sl h.length 4 (chG h)]]) λn=>.all (λ(r:Int)=>r=errE n.1 n.2) λn=>.N (n=0) (.R [.nils,.i n] [.box (Con.ze c),.box v1,.box [.nils],.box [.i n]]) (.ite (bif bif bif decide (day<0) then true else decide ((99999:Int)<day) then true else decide (fin<0) then true else decide ((100000:Int)<fin)) (.R [.nils,.i 2] [.box (Con.ze c),.box v1,.box [.nils],.box [.i 2]]) (.leaf (.back 0 [(1,.i day),(2,.i fin),(4,.ptr 0 0),(7,.ptr 1 0),(8,.ptr 2 0),(9,.ptr 3 0)] [.box (Con.ze c),.box v1,.box [.nils],.box [.i 0]]))))) ?_;simp only [q31,q54,Tree.holds,zd,inR,lo,hi,aD]
 have ret:∀ (e:Int) (hs:Heap),befM c day fin f h=([],e)->RetR vR 0 Q [.nils,.i e] hs:=by
  intro e hs he;rw [he] at hq;exact RetR.le0 hq (λh=>by cases h) (LeA.tup ⟨LeA.nils,LeA.refl _,trivial⟩)
 refine⟨c,⟨⟨qx c,trivial⟩,p1,p2⟩,⟨_,rfl⟩,?_⟩;rintro _ rfl;refine⟨λhe=>ret _ _ ?_,λhe=>⟨(f,h),⟨⟨⟨⟨rfl,rfl,λ_ _ _ _=>rfl⟩,⟨rfl,rfl,λ_ _ _ _=>rfl⟩,trivial⟩,trivial⟩,p3⟩,⟨_,rfl⟩,?_⟩⟩
 ·have he:c.errC≠0:=by simpa using he
  unfold befM; rw [aP he]
 have he:c.errC=0:=by simpa using he
 rintro _ rfl;refine⟨λhE=>ret _ _ ?_,λhE=>⟨λhr=>ret _ _ ?_,λhr=>⟨⟨(),?_⟩,?_⟩⟩⟩
 ·have hE:errE f h≠0:=by simpa using hE
  unfold befM; rw [aO (by simp [he]),aP hE]
 ·have hE:errE f h=0:=by simpa using hE
  have hr:day<0\/99999<day\/fin<0\/100000<fin:=by
   by_cases a:day<0
   ·exact .inl a
   by_cases b:99999<day
   ·exact .inr (.inl b)
   by_cases d:fin<0
   ·exact .inr (.inr (.inl d))
   ·simpa [a,b,d] using hr
  unfold befM; rw [aO (by simp [he]),aO (by simp [hE]),aP hr]
 ·have hE:errE f h=0:=by simpa using hE
  by_cases a:day<0
  ·simp [a] at hr
  by_cases b:99999<day
  ·simp [a,b] at hr
  by_cases d:fin<0
  ·simp [a,b,d] at hr
  by_cases e:100000<fin
  ·simp [a,b,d,e] at hr
  exact⟨he,hE,by omega,by omega,by omega,by omega⟩
 ·exact⟨by simp [SBe],by simp [HBe,za,Con.ze,Con.qQ,fxS,chS,Ex.exS,Con.dayS,Con.conS],by kernel_rfl,aI _⟩
noncomputable def LBt:List Go.Sx.Item:=(jk 6 (f49.body.getD .skip)).drop 4
def opsI:Go.Sx.Item->List Oper
 | .code (.region _ ops _)=>ops.toList
 | _=>[]
def zux:Oper:={ dst:=none,op:=.move (.const undef),type:=0,pos:= "",after:= #[],guard:=none }
noncomputable def opB(r k:Nat):Oper:=(opsI (LBt.getD r .inLoop)).getD k zux
theorem zsv:LBt=[.code (.region 9 #[opB 0 0] false),.code (.region 10 #[opB 1 0,opB 1 1,opB 1 2,opB 1 3,opB 1 4,opB 1 5,opB 1 6,opB 1 7] false),.code .ret]:=by kernel_rfl
theorem opD:(opB 0 0).guard=none/\(opB 0 0).dst=none/\(opB 0 0).op = .defer { callee:=.value (.func 77),args:= #[.tmp 9,.tmp 8],argTypes:= #[125,126] } :=⟨by kernel_rfl,by kernel_rfl,by kernel_rfl⟩
theorem opB0:(opB 1 0).guard=none/\(opB 1 0).dst=some 36/\(opB 1 0).op = .load 38 (.tmp 4):=⟨by kernel_rfl,by kernel_rfl,by kernel_rfl⟩
theorem opB1:(opB 1 1).guard=none/\(opB 1 1).dst=some 37/\(opB 1 1).op = .move (.tmp 1):=⟨by kernel_rfl,by kernel_rfl,by kernel_rfl⟩
theorem opB2:(opB 1 2).guard=none/\(opB 1 2).dst=some 38/\(opB 1 2).op = .move (.tmp 2):=⟨by kernel_rfl,by kernel_rfl,by kernel_rfl⟩
theorem opB3:(opB 1 3).guard=none/\(opB 1 3).dst=some 39/\(opB 1 3).op = .load 30 (.tmp 7):=⟨by kernel_rfl,by kernel_rfl,by kernel_rfl⟩
theorem opB4:(opB 1 4).guard=none/\(opB 1 4).dst=some 40/\(opB 1 4).op = .call { callee:=.value (.func 79),args:= #[.tmp 36,.tmp 37,.tmp 38,.tmp 39],argTypes:= #[38,3,3,30] } :=⟨by kernel_rfl,by kernel_rfl,by kernel_rfl⟩
def argT(o:Oper):Array TypeId:=match o.op with
 | .call c=>c.argTypes
 | _=> #[]
theorem opB5:(opB 1 5).guard=none/\(opB 1 5).dst=some 41/\(opB 1 5).op = .call { callee:=.value (.func 78),args:= #[.tmp 40,.func 80],argTypes:=argT (opB 1 5) } :=⟨by kernel_rfl,by kernel_rfl,by kernel_rfl⟩
theorem opB6:(opB 1 6).guard=none/\(opB 1 6).dst=none/\(opB 1 6).op = .store 54 (.tmp 8) (.tmp 41):=⟨by kernel_rfl,by kernel_rfl,by kernel_rfl⟩
theorem opB7:(opB 1 7).guard=none/\(opB 1 7).dst=none/\(opB 1 7).op = .store 39 (.tmp 9) (.const (.i 0)):=⟨by kernel_rfl,by kernel_rfl,by kernel_rfl⟩
theorem zcz{a:Act}{d t:Nat}{v:Value} : (a.put (some d) v).tmps.getD t undef=if t=d/\d<a.tmps.size then v else a.tmps.getD t undef:=by
 simp only [Act.put,bQ,Array.getElem?_setIfInBounds];by_cases h:d=t
 ·subst h;by_cases h2:d<a.tmps.size
  ·simp [h2]
  ·simp [h2]
 ·rw [aO h,aO (λx=>h x.1.symm)]
theorem size_put{a:Act}{d:Nat}{v:Value} : (a.put (some d) v).tmps.size=a.tmps.size:=by simp [Act.put]
theorem yF{a:Act}{d:Nat}{v:Value}{P:Act->Prop}(h:∀ b:Act,b.defers=a.defers->b.tmps.size=a.tmps.size->(d<a.tmps.size->b.tmps.getD d undef=v)->(∀ t,t≠d->b.tmps.getD t undef=a.tmps.getD t undef)->P b):P (a.put (some d) v):=
 h _ rfl size_put (λhd=>by rw [zcz,aP ⟨rfl,hd⟩]) λt ht=>by rw [zcz,aO (λx=>ht x.1)]
theorem zcv{c:Con}{day fin:Int}{f:List Fx}{h:List Ch}{Q:AV×Heap->Prop}(hq:Q (.tup [flS (befM c day fin f h).1,.i (befM c day fin f h).2],[])){O:Nat->Prop}{w0 w:World}{σ:List SE}{a:Act}(hm:Mod O 0 w0 [] w σ (mk f49.ntmps (SBe day fin) (HBe c f h)) a)
  {w4:World} {T:Array Value} {x:AV} {e:Int} (g1:Go.Sx.Good O w4 σ) (g2:HRep (Go.Sx.Own O σ) w4 σ [.box c.ze,.box [fxS f,chS h],.box [x],.box [.i e]]) (g3:Ext (Go.Sx.Own O σ) w (Go.Sx.Own O σ) w4) (g4:∀ b,O b->b<w.heap.size->w4.heap[b]?=w.heap[b]?)
  (g5:T.getD 8 undef=a.tmps.getD 8 undef) (g6:T.getD 9 undef=a.tmps.getD 9 undef) (g7:T.size=a.tmps.size) (hx:x = .nils/\(befM c day fin f h).1=[]\/x=flS (befM c day fin f h).1) (he:e=(befM c day fin f h).2) :
  LeavesInM Fence.wide 0 prog f49 T (uj O w0 [] vR [] Q) a.defers .returning w4:=by
 have hm4:Mod O 0 w0 [] w4 σ (mk f49.ntmps [(8,.ptr 2 0),(9,.ptr 3 0)] [.box c.ze,.box [fxS f,chS h],.box [x],.box [.i e]]) { tmps:=T,defers:=a.defers } :=by
  refine⟨g1,g2,?_,λt=> ?_,hm.df.ext g3,hm.since.trans ⟨g3,g4,λi e hi _=>absurd hi (Nat.not_lt_zero i)⟩,hm.lim⟩
  ·rw [show({ tmps:=T,defers:=a.defers } : Act).tmps=T from rfl,g7,hm.size];simp [mk,pk]
  ·by_cases h8:t=8
   ·subst h8;show Rep (Go.Sx.Own O σ) w4 (.ptr 2 0) σ (T.getD 8 undef);rw [g5];have:Rep (Go.Sx.Own O σ) w (.ptr 2 0) σ (a.tmps.getD 8 undef):=hm.tm 8;simpa only [Rep] using this
   ·by_cases h9:t=9
    ·subst h9;show Rep (Go.Sx.Own O σ) w4 (.ptr 3 0) σ (T.getD 9 undef);rw [g6];have:Rep (Go.Sx.Own O σ) w (.ptr 3 0) σ (a.tmps.getD 9 undef):=hm.tm 9;simpa only [Rep] using this
    ·have:(mk f49.ntmps [(8,.ptr 2 0),(9,.ptr 3 0)] [.box c.ze,.box [fxS f,chS h],.box [x],.box [.i e]]).tmps.getD t .undef = .undef:=by
      simp only [mk];by_cases hlt:t<f49.ntmps
      ·rw [qH hlt]; simp [Go.Sx.look,Ne.symm h8,Ne.symm h9]
      ·have:(pk f49.ntmps [(8,.ptr 2 0),(9,.ptr 3 0)])[t]?=none:=aZ (by simp [pk]; exact Nat.not_lt.1 hlt);rw [List.getD_eq_getElem?_getD,this]; rfl
     rw [this];simp [TRep,Rep]
 refine vQ a.defers w4 hm4 λw' hm'=> ?_
 refine zdf (ctr:=vR) (hc:=[]) rfl (λhh=>by cases hh) _ σ _ _ ?_ hm';subst he;rcases hx with ⟨rfl,hx⟩ | rfl
 ·have e1:resX prog (mk f49.ntmps [(8,.ptr 2 0),(9,.ptr 3 0)] [.box c.ze,.box [fxS f,chS h],.box [.nils],.box [.i (befM c day fin f h).2]]) f49.results.toList = .leaf [.nils,.i (befM c day fin f h).2]:=by kernel_rfl
  rw [e1];rw [hx] at hq;exact RetR.le0 hq (λh=>by cases h) (LeA.tup ⟨LeA.nils,LeA.refl _,trivial⟩)
 ·have e1:resX prog (mk f49.ntmps [(8,.ptr 2 0),(9,.ptr 3 0)] [.box c.ze,.box [fxS f,chS h],.box [flS (befM c day fin f h).1],.box [.i (befM c day fin f h).2]]) f49.results.toList = .leaf [flS (befM c day fin f h).1,.i (befM c day fin f h).2]:=by kernel_rfl
  rw [e1];exact RetR.le0 hq (λh=>by cases h) (LeA.refl _)
def zbf(c:Con)(day fin:Int)(f:List Fx)(h:List Ch)(ch:List PanicEntry):Prop:=∃ x,flM f h c day fin = .error x/\ch=Zf yQ x
theorem zio{c:Con}{day fin:Int}{f:List Fx}{h:List Ch}(hp:FI.pre ⟨c,day,fin,f,h⟩)(hx:c.errC=0/\errE f h=0/\0<=day/\day<=99999/\0<=fin/\fin<=100000){Q:AV×Heap->Prop}(hq:Q (.tup [flS (befM c day fin f h).1,.i (befM c day fin f h).2],[])){O:Nat->Prop}{w0 w:World}{σ:List SE}{a:Act}(hm:Mod O 0 w0 [] w σ (mk f49.ntmps (SBe day fin) (HBe c f h)) a) :
  wpK none prog (λ_ _ _=>False) (bodyPostM Fence.wide 0 prog f49 (uj O w0 [] vR [] Q)) LBt .normal a w:=by
 obtain⟨p1,p2,p3⟩:=hp;obtain⟨x1,x2,x3,x4,x5,x6⟩:=hx;simp only at p1 p2 p3
 have hform:c.form=true/\c.size<=500:=by
  unfold Con.errC at x1;split at x1
  ·cases x1
  ·rename_i hs;split at x1
   ·rename_i hf; exact⟨hf,by omega⟩
   ·cases x1
 have hG:FI.G ⟨c,day,fin,f,h⟩:=⟨hform.1,p1,by have:=Con.yS c; show c.nodes<_; omega,p3⟩
 have hbef:befM c day fin f h=match flM f h c day fin with
  | .error e=>([],e)
  | .ok l=>(ordM l,0):=by
  unfold befM; rw [aO (by simp [x1]),aO (by simp [x2]),aO (by omega)];cases flM f h c day fin<;>rfl
 have sz:a.tmps.size=42:=by rw [hm.size]; simp only [mk,pk,List.length_map,List.length_range]; rfl
 have t1:a.tmps.getD 1 undef = .i day:=hm.tm 1;have t2:a.tmps.getD 2 undef = .i fin:=hm.tm 2;have t4:Rep (Go.Sx.Own O σ) w (.ptr 0 0) σ (a.tmps.getD 4 undef):=hm.tm 4;have t7:Rep (Go.Sx.Own O σ) w (.ptr 1 0) σ (a.tmps.getD 7 undef):=hm.tm 7;have t8:Rep (Go.Sx.Own O σ) w (.ptr 2 0) σ (a.tmps.getD 8 undef):=hm.tm 8;have t9:Rep (Go.Sx.Own O σ) w (.ptr 3 0) σ (a.tmps.getD 9 undef):=hm.tm 9;have hhp:HRep (Go.Sx.Own O σ) w σ (HBe c f h):=hm.hp;rw [zsv];simp only [wpK];obtain⟨d1,d2,d3⟩:=opD;refine wpIn_region_list (Go.Sx.step_defer d1 d3 d2 rfl rfl ?_);refine wpListIn_nil ?_;simp only [wpK];obtain⟨bl,ul,hl1,hl2,hl3,hl4,el,adl,hl5,hl6,hl7⟩:=yd hhp t8 rfl;obtain⟨be,ue,he1,he2,he3,he4,ee,ade,he5,he6,he7⟩:=yd hhp t9 rfl
 have hne:be≠bl:=by
  rw [<- he7,<- hl7];exact hhp.inj 3 2 _ _ _ _ he5 hl5 he6 hl6 (by decide)
 have hnl:¬ O bl:=by rw [<- hl7]; exact hm.good.dis 2 _ _ hl5 hl6
 have hne2:¬ O be:=by rw [<- he7]; exact hm.good.dis 3 _ _ he5 he6
 obtain⟨o0g,o0d,o0o⟩:=opB0;obtain⟨o1g,o1d,o1o⟩:=opB1;obtain⟨o2g,o2d,o2o⟩:=opB2;obtain⟨o3g,o3d,o3o⟩:=opB3;obtain⟨o4g,o4d,o4o⟩:=opB4;obtain⟨o5g,o5d,o5o⟩:=opB5;obtain⟨o6g,o6d,o6o⟩:=opB6;obtain⟨o7g,o7d,o7o⟩:=opB7
 have hD:(([.tmp 9,.tmp 8]:List Operand).map a.eval).toArray = #[.pointer (some ⟨be,0,none⟩),.pointer (some ⟨bl,0,none⟩)]:=by
  show #[a.tmps.getD 9 undef,a.tmps.getD 8 undef]=_;rw [hl1,he1]
 refine wpIn_region_list ?_;obtain⟨b0,hb0⟩:∃ b:Act,b={ a with defers:={ target:=.fn (.func 77) #[],args:=(([.tmp 9,.tmp 8]:List Operand).map a.eval).toArray } :: a.defers } :=⟨_,rfl⟩;have s0:b0.tmps=a.tmps:=by rw [hb0]
 have f0:b0.defers={ target:=.fn (.func 77) #[],args:= #[.pointer (some ⟨be,0,none⟩),.pointer (some ⟨bl,0,none⟩)] } :: a.defers:=by rw [hb0,<- hD]
 show wpListIn _ _ _ _ _ _ { a with defers:={ target:=.fn (.func 77) #[],args:=(([.tmp 9,.tmp 8]:List Operand).map a.eval).toArray } :: a.defers } w;rw [<- hb0];clear hb0;show wpListIn Fence.wide 0 _ _ _ [opB 1 0,opB 1 1,opB 1 2,opB 1 3,opB 1 4,opB 1 5,opB 1 6,opB 1 7] b0 w;refine VZ (r:=c.conA) hhp o0g o0o (p:=.ptr 0 0) (by show Rep _ _ _ _ (b0.tmps.getD 4 undef); rw [s0]; exact t4) (by kernel_rfl) λv36 r36=> ?_
 rw [o0d];refine yF (P:=λb=>wpListIn _ _ _ _ _ _ b w) λb1 f1 z1 v1 u1=> ?_
 rw [s0] at z1 v1 u1;refine V9 o1g o1o ?_;rw [o1d,show b1.eval (.tmp 1) = .i day from(u1 1 (by decide)).trans t1];refine yF (P:=λb=>wpListIn _ _ _ _ _ _ b w) λb2 f2 z2 v2 u2=> ?_
 refine V9 o2g o2o ?_;rw [o2d,show b2.eval (.tmp 2) = .i fin from(u2 2 (by decide)).trans ((u1 2 (by decide)).trans t2)];refine yF (P:=λb=>wpListIn _ _ _ _ _ _ b w) λb3 f3 z3 v3 u3=> ?_
 have k7:b3.eval (.tmp 7)=a.tmps.getD 7 undef:=(u3 7 (by decide)).trans ((u2 7 (by decide)).trans (u1 7 (by decide)));refine VZ (r:=envA f h) hhp o3g o3o (p:=.ptr 1 0) (by rw [k7]; exact t7) (by kernel_rfl) λv39 r39=> ?_
 rw [o3d];refine yF (P:=λb=>wpListIn _ _ _ _ _ _ b w) λb4 f4 z4 v4 u4=> ?_
 have k36:b4.eval (.tmp 36)=v36:=(u4 36 (by decide)).trans ((u3 36 (by decide)).trans ((u2 36 (by decide)).trans (v1 (by omega))));have k37:b4.eval (.tmp 37) = .i day:=(u4 37 (by decide)).trans ((u3 37 (by decide)).trans (v2 (by omega)));have k38:b4.eval (.tmp 38) = .i fin:=(u4 38 (by decide)).trans (v3 (by omega));have k39:b4.eval (.tmp 39)=v39:=v4 (by omega);have fb4:b4.defers={ target:=.fn (.func 77) #[],args:= #[.pointer (some ⟨be,0,none⟩),.pointer (some ⟨bl,0,none⟩)] } :: a.defers:=f4.trans (f3.trans (f2.trans (f1.trans f0)));have u8:∀ t,t<36->b4.tmps.getD t undef=a.tmps.getD t undef:=λt ht=>(u4 t (by omega)).trans ((u3 t (by omega)).trans ((u2 t (by omega)).trans (u1 t (by omega))))
 have zb4:b4.tmps.size=a.tmps.size:=z4.trans (z3.trans (z2.trans z1))
 have nil36:Rep (Go.Sx.Own O σ) w c.conA [] v36:=by
  simp only [Con.conA,Ex.exS,Con.dayS,Con.conS,Rep] at r36 ⊢;obtain⟨vs,hv,hr⟩:=r36;exact⟨vs,hv,y9 rfl hr⟩
 have nil39:Rep (Go.Sx.Own O σ) w (envA f h) [] v39:=by
  simp only [envA,Rep] at r39 ⊢;obtain⟨vs,hv,hr⟩:=r39;exact⟨vs,hv,y9 rfl hr⟩
 refine V6 (Xp:=zbf c day fin f h) (D:=Kept w) (R:=λv w'=>∃ l,flM f h c day fin = .ok l/\Kept w w'/\Rep (Go.Sx.Own O σ) w' (flS l) [] v) o4g o4o rfl rfl ?_ ?_ ?_
 ·show qJ _ _ _ _ [b4.eval (.tmp 36),b4.eval (.tmp 37),b4.eval (.tmp 38),b4.eval (.tmp 39)].toArray w _;rw [k36,k37,k38,k39]
  have hr4:RepL (Go.Sx.Own O σ) w [c.conA,.i day,.i fin,envA f h] [] [v36,.i day,.i fin,v39]:=by
   simp only [RepL];exact⟨_,_,rfl,nil36,_,_,rfl,rfl,_,_,rfl,rfl,_,_,rfl,nil39,rfl⟩
  have hst:qD (zbf c day fin f h) (FI.val ⟨c,day,fin,f,h⟩):=λe he=>⟨e,he,rfl⟩
  have eA:eqA (envA f h) (envA f h):=⟨⟨rfl,rfl,λ_ _ _ _=>rfl⟩,⟨rfl,rfl,λ_ _ _ _=>rfl⟩,trivial⟩;cases hfl:flM f h c day fin with
  | error e=>
   refine qJ.map (λ_ h=>h) ?_ (Z8 (args:=[c.conA,.i day,.i fin,envA f h]) (r:=.bot) (Uh (zbf c day fin f h)) ⟨⟨c,day,fin,f,h⟩,⟨⟨qx c,⟨rfl,rfl⟩,⟨rfl,rfl⟩,eA,trivial⟩,trivial,rfl,hG,hst⟩,λho=> ?_,λ_=>.inr rfl⟩ hm.good hhp hr4)
   ·rintro v w' ⟨_,hb⟩;exact hb.elim
   ·have ho:okM (flM f h c day fin)=true:=ho;rw [hfl] at ho; cases ho
  | ok l=>
   refine qJ.map (λ_ h=>h) ?_ (Z8 (args:=[c.conA,.i day,.i fin,envA f h]) (r:=flS l) (Uh (zbf c day fin f h)) ⟨⟨c,day,fin,f,h⟩,⟨⟨qx c,⟨rfl,rfl⟩,⟨rfl,rfl⟩,eA,trivial⟩,trivial,rfl,hG,hst⟩,λ_=>.inl ?_,λ_=>.inr rfl⟩ hm.good hhp hr4)
   ·rintro v w' ⟨h1,h2⟩;exact⟨l,rfl,h1,h2⟩
   ·show(flS (getM [] (flM f h c day fin)),[])=_;rw [hfl]; rfl
 ·rintro v40 w1 ⟨l,hfl,k1,r40⟩;rw [o4d];refine yF (P:=λb=>wpListIn _ _ _ _ _ _ b w1) λb5 f5 z5 v5 u5=> ?_
  have g1:=k1.good hm.good;have hh1:=k1.hrep hhp;refine V6 (Xp:=λ_=>False) (D:=Kept w1) (R:=λv w'=>Kept w1 w'/\Rep (Go.Sx.Own O σ) w' (flS (ordM l)) [] v) o5g o5o rfl rfl ?_ ?_ (λ_ _ h=>h.elim)
  ·show qJ _ _ _ _ [b5.eval (.tmp 40),.func (.func 80) #[] #[]].toArray w1 _;rw [show b5.eval (.tmp 40)=v40 from v5 (by omega)];refine Z8 (args:=[flS l,.fn 80 [] []]) (r:=flS (ordM l)) (zrn).x ⟨l,⟨⟨⟨rfl,rfl,λ_ _ _ _=>rfl⟩,rfl,trivial⟩,?_⟩,⟨(),trivial⟩,λ_ _=>.inl rfl⟩ g1 hh1 ?_
   ·have:=(JY c hfl).1;have:=Con.yS c;show l.length<_;omega
   ·simp only [RepL];exact⟨_,_,rfl,r40,_,_,rfl,⟨[],[],rfl,rfl,rfl⟩,rfl⟩
  ·rintro v41 w2 ⟨k2,r41⟩;rw [o5d];refine yF (P:=λb=>wpListIn _ _ _ _ _ _ b w2) λb6 f6 z6 v6 u6=> ?_
   have u68:∀ t,t<36->b6.tmps.getD t undef=a.tmps.getD t undef:=λt ht=>(u6 t (by omega)).trans ((u5 t (by omega)).trans (u8 t ht))
   have g2:=k2.good g1;have hh2:=k2.hrep hh1;have k12:=k1.trans k2;refine WM (i:=2) (c:=.nils) (r:=flS (ordM l)) g2 hh2 o6g o6o (by show Rep _ _ _ _ (b6.tmps.getD 8 undef); rw [u68 8 (by decide)]; exact k12.rep t8) rfl (by kernel_rfl) (by rw [show b6.eval (.tmp 41)=v41 from v6 (by omega)]; exact Rep.any r41 σ) rfl rfl λw3 P3=> ?_
   rw [o6d]
   refine WM (i:=3) (c:=.i 0) (r:=.i 0) P3.good P3.hp o7g o7o (by
    show Rep _ _ _ _ (b6.tmps.getD 9 undef);rw [u68 9 (by decide)];exact zK (K:=[]) P3.ext P3.hold _ _ (qm _) (k12.rep t9)) rfl (by kernel_rfl) rfl rfl rfl λw4 P4=> ?_
   rw [o7d];refine wpListIn_nil ?_;show Code.ret.wpIn (FM none) 0 _ _ _ w4;refine wpIn_ret ?_;show LeavesInM _ _ _ _ b6.tmps _ b6.defers .returning w4;rw [f6.trans (f5.trans fb4)];refine⟨by simp,.inr ⟨λhh=>(by cases hh),.func 77,#[],77,#[.pointer (some ⟨be,0,none⟩),.pointer (some ⟨bl,0,none⟩)],rfl,?_,λ_ _=>trivial,?_⟩⟩
   ·simp [go_sem]
   ·refine(Yb ⟨be,0,none⟩ ⟨bl,0,none⟩ w4).mono ?_;rintro e u' w5 ⟨rfl,rfl,rfl⟩;show LeavesInM _ _ _ _ _ _ _ .returning _;refine zcv hq hm (x:=flS (ordM l)) (e:=0) P4.good P4.hp ((k12.ext _).trans (P3.ext.trans P4.ext)) (λb hO hb=> ?_) (u68 8 (by decide)) (u68 9 (by decide)) ?_ (.inr ?_) ?_
    ·have h2:b<w2.heap.size:=bB hb k12.size;rw [P4.jT b hO (bB h2 P3.ext.size),P3.jT b hO h2,k12.keep b hb]
    ·rw [z6,z5,zb4]
    ·rw [hbef,hfl]
    ·rw [hbef,hfl]
 ·rintro ch w1 ⟨x,hfl,rfl⟩ k1;have g1:=k1.good hm.good;have hh1:=k1.hrep hhp;have t8':=k1.rep t8;have t9':=k1.rep t9;show LeavesInM _ _ _ _ b4.tmps _ b4.defers (.panicking (Zf yQ x)) w1;rw [fb4];refine⟨by simp,.inr ⟨λhh=>(by cases hh),.func 77,#[],77,#[.pointer (some ⟨be,0,none⟩),.pointer (some ⟨bl,0,none⟩)],rfl,?_,λ_ _=>trivial,?_⟩⟩
  ·simp [go_sem]
  ·obtain⟨bl',ul',a1,a2,a3,a4,_⟩:=yd hh1 t8' rfl;obtain⟨be',ue',c1,c2,c3,c4,_⟩:=yd hh1 t9' rfl;rw [hl1] at a1;rw [he1] at c1;cases a1;cases c1;simp only [Rep] at c4;subst c4;refine(XA be bl x 0 ul' [] w1 c2 c3 a2 a3 hne).mono ?_;rintro e u' w5 ⟨rfl,rfl,rfl⟩;show LeavesInM _ _ _ _ _ _ _ .returning _;rw [he1] at t9';obtain⟨ws1,q1,P1⟩:=kU (P:=prog) (t:=39) (cv:=[.i x]) (v:=.i x) (n:=1) g1 hh1 t9' (cells:=[.i 0]) rfl (by kernel_rfl) ⟨_,_,rfl,rfl,rfl⟩ rfl (aJ _) rfl;rw [Jo (P:=prog) (by kernel_rfl) rfl c2 c3 rfl] at q1;cases q1;have t8'':Rep (Go.Sx.Own O σ) (w1.setCell ⟨be,0,none⟩ (.i x)) (.ptr 2 0) σ (a.tmps.getD 8 undef):=zK (K:=[]) P1.ext P1.hold _ _ (qm _) t8';obtain⟨bl2,ul2,d1,d2,d3,d4,_⟩:=yd P1.hp t8'' rfl;rw [hl1] at d1;cases d1;rw [hl1] at t8'';obtain⟨ws2,q2,P2⟩:=kU (P:=prog) (t:=54) (cv:=[.nils]) (v:=.slice none 0 0) (n:=1) P1.good P1.hp t8'' (cells:=[.nils]) rfl (by kernel_rfl) ⟨_,_,rfl,by simp [Rep],rfl⟩ rfl (aJ _) rfl;rw [Jo (P:=prog) (by kernel_rfl) rfl d2 d3 rfl] at q2;cases q2;have k3:=Kept.alloc ((w1.setCell ⟨be,0,none⟩ (.i x)).setCell ⟨bl,0,none⟩ (.slice none 0 0)) (.cells #[.i x] 152);refine zcv hq hm (x:=.nils) (e:=x) (k3.good P2.good) (k3.hrep P2.hp) ((k1.ext _).trans (P1.ext.trans (P2.ext.trans (k3.ext _)))) (λb hO hb=> ?_) (u8 8 (by decide)) (u8 9 (by decide)) zb4 (.inl ⟨rfl,?_⟩) ?_
   ·have h2:b<w1.heap.size:=bB hb k1.size;have h3:=bB h2 P1.ext.size;rw [k3.keep b (bB h3 P2.ext.size),P2.jT b hO h3,P1.jT b hO h2,k1.keep b hb]
   ·rw [hbef,hfl]
   ·rw [hbef,hfl]
theorem ze1:zf prog 49 vR:=by
 intro args hc Q hq _;simp only [vR,ctrP] at hq;split at hq
 ·obtain⟨⟨c,day,fin,f,h⟩,⟨h1,h2⟩,h3,h4⟩:=hq;have hq:=h4 _ rfl;refine jK.le h1 (door (fn:=f49) (c:=f49.body.getD .skip) (ctr:=vR) rfl rfl rfl (λhh=>by cases hh) (ι:={u:Unit // c.errC=0/\errE f h=0/\0<=day/\day<=99999/\0<=fin/\fin<=100000}) (λ_=>SBe day fin) (λ_=>HBe c f h) 6 4 (by kernel_rfl) (by kernel_rfl) ?_ ?_)
  ·intro O w0 I0 hl;exact zgd c day fin f h h2 hq
  ·rintro⟨_,hx⟩ O w0 I0 w σ a hl hm;have h0:I0=[]:=aU.1 (by simpa using hl);subst h0;exact zio h2 hx hq hm
 ·exact hq.elim
end Go.Proofs.Tryz
end
