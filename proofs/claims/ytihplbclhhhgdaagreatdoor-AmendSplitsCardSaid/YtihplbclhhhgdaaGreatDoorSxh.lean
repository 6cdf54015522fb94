/- Part 8 of the proof. -/
import Derived.Test.YtihplbclhhhgdaaGreatDoorSxd
import Derived.Test.YtihplbclhhhgdaaGreatDoorSxg
set_option linter.unusedVariables false
set_option linter.unusedSimpArgs false
set_option linter.unusedSectionVars false
section
set_option maxRecDepth 100000
open Go Go.Sx Go.Proofs Go.Nov
namespace Go.Proofs.Tryz
attribute [local simp] eqKV eqA eqA0 eqH eqB eqL eqL0
noncomputable def K50:=Go.Sx.aA f50
def Jm:Ctr:=ctrP true (λd:Int=>[.i d]) (λ_=>True) (λd r=>r=dayB d) (λ_ (r:Bool)=>(.bool r,[]))
theorem ZX:zd prog 69 Jm:=by
 refine zf' f69 λd hs O w0 Q hq=> ?_
 replace hq:=hq _ rfl;refine zb.n zC [] (.R [.bool (bif decide ((0:Int)<=d) then decide (d<=99999) else false)] []) ?_;simp only [Tree.holds,ze];refine RetR.scal hq rfl ?_;simp only [resV,dayB];cases decide (0<=d)<;>rfl
theorem zoe(c:UInt8):(bif bif decide (97<=(c.toNat:Int)) then decide ((c.toNat:Int)<=122) else false then true else bif decide (65<=(c.toNat:Int)) then decide ((c.toNat:Int)<=90) else false)=isL c:=by
 have e1:decide (97<=(c.toNat:Int))=decide (97<=c.toNat):=decide_eq_decide.2 (by omega);have e2:decide ((c.toNat:Int)<=122)=decide (c.toNat<=122):=decide_eq_decide.2 (by omega);have e3:decide (65<=(c.toNat:Int))=decide (65<=c.toNat):=decide_eq_decide.2 (by omega);have e4:decide ((c.toNat:Int)<=90)=decide (c.toNat<=90):=decide_eq_decide.2 (by omega);rw [e1,e2,e3,e4];simp only [isL];cases decide (97<=c.toNat)<;>cases decide (c.toNat<=122)<;>cases decide (65<=c.toNat)<;>rfl
def zct:Ctr:=ctrP true (λc:UInt8=>[.int .u8 (c.toNat:Int)]) (λ_=>True) (λc r=>r=isL c) (λ_ (r:Bool)=>(.bool r,[]))
theorem zez:zd prog 81 zct:=by
 refine zf' f81 λc hs O w0 Q hq=> ?_
 replace hq:=hq _ rfl;refine zb.n zC [] (.R [.bool (bif bif decide ((97:Int)<=(↑(UInt8.toNat c):Int)) then decide ((↑(UInt8.toNat c):Int)<=122) else false then true else bif decide ((65:Int)<=(↑(UInt8.toNat c):Int)) then decide ((↑(UInt8.toNat c):Int)<=90) else false)] []) ?_;simp only [Tree.holds,ze];refine RetR.scal hq rfl ?_;simp only [resV];rw [zoe]
theorem VJ(c d:UInt8):decide ((c.toNat:Int)=(d.toNat:Int))=(c == d):=by
 by_cases h:c=d
 ·subst h; simp
 ·rw [aW λh2=>h (Um h2)];simp [h]
theorem zpm(c:UInt8):(bif decide ((c.toNat:Int)<48) then true else decide (57<(c.toNat:Int))) = !isD c:=by
 rw [Bool.cond_eq_ite]; exact WH c
theorem zmq(c:UInt8):(bif bif bif !isL c then bif decide ((c.toNat:Int)<48) then true else decide (57<(c.toNat:Int)) else false then !decide ((c.toNat:Int)=95) else false then !decide ((c.toNat:Int)=45) else false) = !isN c:=by
 rw [zpm];have e1:decide ((c.toNat:Int)=95)=(c == 95):=VJ c 95;have e2:decide ((c.toNat:Int)=45)=(c == 45):=VJ c 45;rw [e1,e2]; simp only [isN];cases isL c<;>cases isD c<;>cases (c == 95)<;>cases (c == 45)<;>rfl
def YO:Ctr:=ctrP true (λs:L8=>[.str s]) (λs=>s.length<2^62) (λs r=>r=qE s) (λ_ (r:Bool)=>(.bool r,[]))
noncomputable def GN1:=tb zez tz
def SNa(s:L8)(i:Nat):KV:=[(0,.str s),(20,.i (s.length:Int)),(21,.i (i:Int)),Z 31,Z 32,Z 33,Z 34,Z 35,Z 36,Z 39,Z 40,Z 43,Z 44]
theorem zff{O:Nat->Prop}{w0:World}{Q:AV×Heap->Prop}{Hs:Nat->KV->Heap->Prop}(s:L8)(hs:s.length<2^62)(hq:Q (.bool (s.all isN),[])) :
  zb prog f50 O 0 w0 [] Hs (RetR YO 0 Q) (.code (.loop (lps K50 0).1)::(lps K50 0).2) (mk f50.ntmps (SNa s 0) []):=by
 refine zb.loop (ι:={i:Nat // i<=s.length/\∀ j,j<i->isN (s.getD j 0)=true}) (λi=>SNa s i.1) (λ_=>[]) (λi=>s.length - i.1) ⟨0,aI _,λj hj=>by omega⟩ 0 ?_ ?_ (by kernel_rfl)
 ·exact⟨by simp [SNa],by simp,by kernel_rfl,aI _⟩
 ·rintro⟨i,hil,hib⟩;refine zb.n GN1.h [0,20,21,31,32,33,34,35,36,39,40,43,44] (let v1:=s.getD (i:Int).toNat (0:UInt8);.D ((i:Int)<s.length) (.side ((0:Int)<=i/\(i:Int)<s.length) (.ex (λ(x:UInt8)=>eqL [.int .u8 ↑(UInt8.toNat v1)] [.int .u8 ↑(UInt8.toNat x)]/\True) λn=>.all (λ(r:Bool)=>r=isL n) λn=>.ite (bif bif bif !n then bif decide ((↑(UInt8.toNat v1):Int)<48) then true else decide ((57:Int)<(↑(UInt8.toNat v1):Int)) else false then !decide ((↑(UInt8.toNat v1):Int)=95) else false then !decide ((↑(UInt8.toNat v1):Int)=45) else false) (.R [.bool false] []) (.S (i+1) (.leaf (.back 0 [(0,.str s),(20,.i s.length),(21,.i (i+1)),Z 31,Z 32,Z 33,Z 34,Z 35,Z 36,Z 39,Z 40,Z 43,Z 44] []))))) (.R [.bool true] [])) ?_;simp only [Tree.holds,ze,inR,lo,hi,aD];refine⟨λhlt=> ?_,λhge=> ?_⟩
  ·have hlt:i<s.length:=by have:=aB hlt; omega
   refine⟨by omega,λ_=>⟨s.getD i 0,⟨by simp,trivial⟩,⟨_,rfl⟩,?_⟩⟩;rintro _ rfl;rw [zmq];refine⟨λh=> ?_,λh=>⟨by omega,λ_=> ?_⟩⟩
   ·rw [XR hlt (by simpa using h)] at hq;exact RetR.scal hq rfl (by simp [resV])
   ·rw [aP trivial];refine⟨⟨i+1,hlt,λj hj=> ?_⟩,by show s.length - (i+1)<s.length - i; omega,by simp [SNa],by simp,by kernel_rfl,aI _⟩;rcases aR j i with h1 | h1
    ·exact hib j h1
    ·have:j=i:=by omega
     rw [this]; simpa using h
  ·have hge:i=s.length:=by have:=aC hge; omega
   subst hge;rw [znk hib] at hq;exact RetR.scal hq rfl (by simp [resV])
theorem Xq:zd prog 50 YO:=by
 refine zf' f50 λs hs O w0 Q hq=> ?_
 replace hq:=hq _ rfl;refine zb.n GN1.h [0,20,21,31,32,33,34,35,36,39,40,43,44] (.side ((bif decide ((s.length:Int)<1) then true else decide ((40:Int)<s.length))=false->(0:Int)<=0/\(0:Int)<s.length) (.ex (λ(x:UInt8)=>(bif decide ((s.length:Int)<1) then true else decide ((40:Int)<s.length))=false->eqL [.int .u8 ↑(UInt8.toNat (s.getD 0 (0:UInt8)))] [.int .u8 ↑(UInt8.toNat x)]/\True) λn=>.all (λ(x:Bool)=>(bif decide ((s.length:Int)<1) then true else decide ((40:Int)<s.length))=false->x=isL n) λn=>.ite (bif bif decide ((s.length:Int)<1) then true else decide ((40:Int)<s.length) then true else !n) (.R [.bool false] []) (.leaf (.loop (lps K50 0).1 (lps K50 0).2 [(0,.str s),(20,.i s.length),(21,.i 0),Z 31,Z 32,Z 33,Z 34,Z 35,Z 36,Z 39,Z 40,Z 43,Z 44] [])))) ?_;simp only [Tree.holds,ze,inR,lo,hi]
 have hd:decide ((s.length:Int)<1) = !decide (0<s.length):=by
  by_cases h:0<s.length
  ·rw [aX h,aW (by omega)]; rfl
  ·rw [aW h,aX (by omega)]; rfl
 have hd2:decide (40<(s.length:Int)) = !decide (s.length<=40):=by
  by_cases h:s.length<=40
  ·rw [aX h,aW (by omega)]; rfl
  ·rw [aW h,aX (by omega)]; rfl
 rw [hd,hd2];have hnb:qE s=(decide (0<s.length)&&decide (s.length<=40)&&isL (s.getD 0 0)&&s.all isN):=rfl;cases h1:decide (0<s.length) with
 | false=>
  rw [hnb,h1] at hq;refine⟨λh=>(by cases h),λ_=>⟨0,λh=>(by cases h),⟨false,λh=>(by cases h)⟩,?_⟩⟩;intro b _;exact⟨λ_=>RetR.scal hq rfl (by simp [resV]),λh=>(by cases h)⟩
 | true=>
  have h1':=aB h1;cases h2:decide (s.length<=40) with
  | false=>
   rw [hnb,h1,h2] at hq;refine⟨λh=>(by cases h),λ_=>⟨0,λh=>(by cases h),⟨false,λh=>(by cases h)⟩,?_⟩⟩;intro b _;exact⟨λ_=>RetR.scal hq rfl (by simp [resV]),λh=>(by cases h)⟩
  | true=>
   refine⟨λ_=>by omega,λ_=>⟨s.getD 0 0,λ_=>⟨by simp,trivial⟩,⟨_,λ_=>rfl⟩,?_⟩⟩;intro b hb;have hb:=hb rfl;subst hb;cases h3:isL (s.getD 0 0) with
   | false=>
    rw [hnb,h1,h2,h3] at hq;exact⟨λ_=>RetR.scal hq rfl (by simp [resV]),λh=>(by cases h)⟩
   | true=>
    rw [hnb,h1,h2,h3] at hq;refine⟨λh=>(by cases h),λ_=> ?_⟩;exact zff s hs hq
noncomputable def K96:=Go.Sx.aA f96
noncomputable def K67:=Go.Sx.aA f67
theorem qY{X R:Type}{P:Program}{g:Nat}{fresh:Bool}{inp:X->List AV}{pre:X->Prop}{post:X->R->Prop}{out:X->R->AV×Heap}(μ:X->Nat)
  (step:∀ n,zd P g (ctrP fresh inp (λx=>μ x<n/\pre x) post out)->zd P g (ctrP fresh inp (λx=>μ x<n+1/\pre x) post out)):zd P g (ctrP fresh inp pre post out):=by
 have all:∀ n,zd P g (ctrP fresh inp (λx=>μ x<n/\pre x) post out):=by
  intro n
  induction n with
  | zero=>
   intro args hc Q hq _;simp only [ctrP] at hq;split at hq
   ·obtain⟨x,⟨_,h,_⟩,_⟩:=hq;exact absurd h (Nat.not_lt_zero _)
   ·exact hq.elim
  | succ n ih=>exact step n ih
 intro args hc Q hq hf
 match hc,hq,hf with
 | [],hq,hf=>
  obtain⟨x,⟨h1,h2⟩,h3⟩:=hq;exact all (μ x+1) args [] Q ⟨x,⟨h1,Nat.lt_succ_self _,h2⟩,h3⟩ hf
 | _::_,hq,_=>exact hq.elim
def VS(n:Nat):Ctr:=ctrP true (λx:Ex=>[x.exA]) (λx=>x.size<n/\x.size<2^62) (λx r=>r=x.size) (λ_ (r:Nat)=>(.i (r:Int),[]))
def GSz(g n:Nat):Nat->Option Ctr:=λf=>if f=g then some (VS n) else none
theorem XT{g n:Nat}(h:zd prog g (VS n)):∀ f c,GSz g n f=some c->zd prog f c:=by
 intro f c hf;simp only [GSz] at hf;split at hf
 ·rename_i hg; subst hg; cases hf; exact h
 ·cases hf
theorem xm{x:Ex}{k d:Int}{r m:L8}{l:Nat}{g:Nat->Nat->AV}(hk:k=x.kind)(hr:r=x.rat)(hm:m=x.name)(hd:d=x.date)(hl:l=x.sub.length)(hg:eqG x.sub.length 5 g (Ex.exG x.sub)):eqL [.agg [.int .u8 k,.str r,.str m,.i d,.sl l 5 g]] [x.exA]:=by
 subst hk; subst hr; subst hm; subst hd; subst hl;exact⟨⟨⟨rfl,rfl⟩,rfl,rfl,⟨rfl,rfl⟩,⟨rfl,rfl,hg⟩,trivial⟩,trivial⟩
def SSz(s:List Ex)(c i:Nat):KV:=[(3,.i (c:Int)),(7,Ex.exS s),(8,.i (s.length:Int)),(9,.i (i:Int))]
theorem zfe(n:Nat)(ih:zd prog 96 (VS n)):zd prog 96 (VS (n+1)):=by
 refine zf' f96 λx hx O w0 Q hq=> ?_
 replace hq:=hq _ rfl;obtain⟨hxn,hxs⟩:=hx;rw [Ex.size_eq] at hxn hxs hq;obtain⟨k,r,m,d,s⟩:=x;simp only [Ex.sub] at hxn hxs hq;refine zb.n (XT ih) [3,7,8,9] (.leaf (.loop (lps K96 0).1 (lps K96 0).2 [(3,.i 1),(7,.sl s.length 5 (Ex.exG s)),(8,.i s.length),(9,.i 0)] [.box [.int .u8 k,.str r,.str m,.i d,.sl s.length 5 (Ex.exG s)]])) ?_;simp only [Tree.holds,ze];have hlen:=Ex.qp s;refine zb.loop (ι:={i:Nat // i<=s.length}) (λi=>SSz s (1+Ex.zt (s.take i.1)) i.1) (λ_=>[]) (λi=>s.length - i.1) ⟨0,aI _⟩ 0 ?_ ?_ (by kernel_rfl)
 ·exact⟨by simp [SSz,Ex.zt,Ex.exS,za],by simp,by kernel_rfl,aI _⟩
 ·rintro⟨i,hil⟩;have hle:=Ex.wT s i;obtain⟨c,hc⟩:∃ c,1+Ex.zt (s.take i)=c:=⟨_,rfl⟩;simp only [hc];refine zb.n (XT ih) [3,7,8,9] (let v1:=s.getD (i:Int).toNat Ex.nil;.D ((i:Int)<s.length) (.side ((0:Int)<=i/\(i:Int)<s.length) (.ex (λ(x:Ex)=>eqL [.agg [.int .u8 (Ex.kind v1),.str (Ex.rat v1),.str (Ex.name v1),.i (Ex.date v1),.sl (List.length (Ex.sub v1)) 5 (Ex.deep v1)]] [.agg [.int .u8 x.kind,.str x.rat,.str x.name,.i x.date,.sl x.sub.length 5 (Ex.exG x.sub)]]/\Ex.size x<n/\Ex.size x<4611686018427387904) λn=>.all (λ(r:Nat)=>r=Ex.size n) λn=>.S ((c:Int)+n) (.S (i+1) (.leaf (.back 0 [(3,.i ((c:Int)+n)),(7,.sl s.length 5 (Ex.exG s)),(8,.i s.length),(9,.i (i+1))] [.box [.int .u8 (Ex.kind v1),.str (Ex.rat v1),.str (Ex.name v1),.i (Ex.date v1),.sl (List.length (Ex.sub v1)) 5 (Ex.deep v1)]]))))) (.R [.i c] [])) ?_;simp only [Tree.holds,ze,inR,lo,hi,aD];refine⟨λhlt=> ?_,λhge=> ?_⟩
  ·have hlt:i<s.length:=by have:=aB hlt; omega
   have hg:=Ex.zO hlt;have ht:=Ex.xH s i hlt;have hle2:=Ex.wT s (i+1);refine⟨by omega,λ_=>⟨s.getD i Ex.nil,⟨xm rfl rfl rfl rfl rfl (Ex.zZ _),by omega,by omega⟩,⟨_,rfl⟩,?_⟩⟩;rintro _ rfl;refine⟨by omega,λ_=>⟨by omega,λ_=> ?_⟩⟩;rw [aP trivial];refine⟨⟨i+1,hlt⟩,by show s.length - (i+1)<s.length - i; omega,?_,by simp,by kernel_rfl,aI _⟩;simp [SSz,Ex.exS,za,ht]; omega
  ·have hge:i=s.length:=by have:=aC hge; omega
   subst hge;rw [bD] at hc;rw [hc] at hq;exact RetR.scal hq rfl (by simp [resV])
def Zp:Ctr:=ctrP true (λx:Ex=>[x.exA]) (λx=>x.size<2^62) (λx r=>r=x.size) (λ_ (r:Nat)=>(.i (r:Int),[]))
theorem ze9:zd prog 96 Zp:=qY Ex.size zfe
def boxE(k:Int)(r m:L8)(d:Int)(s:List Ex):Heap:=[.box [.int .u8 k,.str r,.str m,.i d,Ex.exS s]]
def SSr(c i:Nat):KV:=[(1,.ptr 0 0),(3,.i (c:Int)),(4,.i (i:Int))]
theorem UU(n:Nat)(ih:zd prog 67 (VS n)):zd prog 67 (VS (n+1)):=by
 refine zf' f67 λx hx O w0 Q hq=> ?_
 replace hq:=hq _ rfl;obtain⟨hxn,hxs⟩:=hx;rw [Ex.size_eq] at hxn hxs hq;obtain⟨k,r,m,d,s⟩:=x;simp only [Ex.sub] at hxn hxs hq;refine zb.n (XT ih) [1,3,4] (.leaf (.loop (lps K67 0).1 (lps K67 0).2 [(1,.ptr 0 0),(3,.i 1),(4,.i 0)] [.box [.int .u8 k,.str r,.str m,.i d,.sl s.length 5 (Ex.exG s)]])) ?_;simp only [Tree.holds,ze];have hlen:=Ex.qp s;refine zb.loop (ι:={i:Nat // i<=s.length}) (λi=>SSr (1+Ex.zt (s.take i.1)) i.1) (λ_=>boxE k r m d s) (λi=>s.length - i.1) ⟨0,aI _⟩ 0 ?_ ?_ (by kernel_rfl)
 ·exact⟨by simp [SSr,Ex.zt],by simp [boxE,Ex.exS,za],by kernel_rfl,aI _⟩
 ·rintro⟨i,hil⟩;have hle:=Ex.wT s i;obtain⟨c,hc⟩:∃ c,1+Ex.zt (s.take i)=c:=⟨_,rfl⟩;simp only [hc];refine zb.n (XT ih) [1,3,4] (let v2:List Blk:=[.box [.int .u8 k,.str r,.str m,.i d,.sl s.length 5 (Ex.exG s)]];let v1:=s.getD (i:Int).toNat Ex.nil;.D ((i:Int)<s.length) (.side ((0:Int)<=i/\(i:Int)<s.length) (.ex (λ(x:Ex)=>eqL [.agg [.int .u8 (Ex.kind v1),.str (Ex.rat v1),.str (Ex.name v1),.i (Ex.date v1),.sl (List.length (Ex.sub v1)) 5 (Ex.deep v1)]] [.agg [.int .u8 x.kind,.str x.rat,.str x.name,.i x.date,.sl x.sub.length 5 (Ex.exG x.sub)]]/\Ex.size x<n/\Ex.size x<4611686018427387904) λn=>.all (λ(r:Nat)=>r=Ex.size n) λn=>.S ((c:Int)+n) (.S (i+1) (.leaf (.back 0 [(1,.ptr 0 0),(3,.i ((c:Int)+n)),(4,.i (i+1))] v2))))) (.R [.i c] v2)) ?_;simp only [Tree.holds,ze,inR,lo,hi,aD];refine⟨λhlt=> ?_,λhge=> ?_⟩
  ·have hlt:i<s.length:=by have:=aB hlt; omega
   have hg:=Ex.zO hlt;have ht:=Ex.xH s i hlt;have hle2:=Ex.wT s (i+1);refine⟨by omega,λ_=>⟨s.getD i Ex.nil,⟨xm rfl rfl rfl rfl rfl (Ex.zZ _),by omega,by omega⟩,⟨_,rfl⟩,?_⟩⟩;rintro _ rfl;refine⟨by omega,λ_=>⟨by omega,λ_=> ?_⟩⟩;rw [aP trivial];refine⟨⟨i+1,hlt⟩,by show s.length - (i+1)<s.length - i; omega,?_,by simp [boxE,Ex.exS,za],by kernel_rfl,aI _⟩;simp [SSr,ht]; omega
  ·have hge:i=s.length:=by have:=aC hge; omega
   subst hge;rw [bD] at hc;rw [hc] at hq;exact RetR.scal hq rfl (by simp [resV])
theorem Ul:zd prog 67 Zp:=qY Ex.size UU
noncomputable def K106:=Go.Sx.aA f106
noncomputable def K107:=Go.Sx.aA f107
def G1c(g:Nat)(C:Ctr):Nat->Option Ctr:=λf=>if f=g then some C else none
theorem vF{g:Nat}{C:Ctr}(h:zd prog g C):∀ f c,G1c g C f=some c->zd prog f c:=by
 intro f c hf;simp only [G1c] at hf;split at hf
 ·rename_i hg; subst hg; cases hf; exact h
 ·cases hf
def zia(n:Nat):Ctr:=ctrP true (λp:Ex×Nat×Nat=>[p.1.exA,.i (p.2.1:Int),.i (p.2.2:Int)]) (λp=>p.1.size<n/\p.2.1<2^40/\p.2.2<2^40)
 (λp (r:Nat×Bool)=>1<=r.1/\r.1<=p.2.1+1/\(r.2=true->r.1<=p.2.1->r.1=p.1.size)) (λ_ (r:Nat×Bool)=>(.tup [.i (r.1:Int),.bool r.2],[]))
def SCn(limit deep m i:Nat):KV:=[(1,.i (limit:Int)),(2,.i (deep:Int)),(3,.ptr 0 0),(8,.i (m:Int)),(9,.i (i:Int)),Z 20,Z 21,Z 22]
theorem zb8(n:Nat)(ih:zd prog 106 (zia n)):zd prog 106 (zia (n+1)):=by
 refine zf' f106 λp hp O w0 Q hq=> ?_
 obtain⟨x,limit,deep⟩:=p;obtain⟨hxn,hli,hde⟩:=hp;simp only at hxn hli hde hq;rw [Ex.size_eq] at hxn hq;obtain⟨k,r,m,d,s⟩:=x;simp only [Ex.sub] at hxn hq;refine zb.n (vF ih) [1,2,3,8,9,20,21,22] (let v1:List Blk:=[.box [.int .u8 k,.str r,.str m,.i d,.sl s.length 5 (Ex.exG s)]];.D ((deep:Int)=0) (.R [.i 1,.bool false] v1) (.leaf (.loop (lps K106 0).1 (lps K106 0).2 [(1,.i limit),(2,.i deep),(3,.ptr 0 0),(8,.i 1),(9,.i 0),Z 20,Z 21,Z 22] v1))) ?_;simp only [Tree.holds,ze];refine⟨λh0=> ?_,λh0=> ?_⟩
 ·exact RetR.scal (hq (1,false) ⟨aJ _,by simp,λh=>by cases h⟩) rfl (by simp [resV])
 ·have h0:0<deep:=by have:=aC h0; omega
  refine zb.loop (ι:={q:Nat×Nat // q.1<=limit+1/\q.2<q.1/\q.2<=s.length/\(q.1<=limit->q.1=1+Ex.zt (s.take q.2))}) (λq=>SCn limit deep q.1.1 q.1.2) (λ_=>boxE k r m d s) (λq=>s.length - q.1.2) ⟨(1,0),by simp [Ex.zt]⟩ 0 ?_ ?_ (by kernel_rfl)
  ·exact⟨by simp [SCn],by simp [boxE,Ex.exS,za],by kernel_rfl,aI _⟩
  ·rintro⟨⟨c,i⟩,h1,h2,h3,h4⟩;simp only at h1 h2 h3 h4;refine zb.n (vF ih) [1,2,3,8,9,20,21,22] (let v2:List Blk:=[.box [.int .u8 k,.str r,.str m,.i d,.sl s.length 5 (Ex.exG s)]];let v1:=s.getD (i:Int).toNat Ex.nil;.ite (bif decide ((i:Int)<s.length) then decide ((c:Int)<=limit) else false) (.side ((0:Int)<=i/\(i:Int)<s.length) (.S ((limit:Int) - c) (.S (deep-1) (.ex (λ(x:Ex×Nat×Nat)=>eqL [.agg [.int .u8 (Ex.kind v1),.str (Ex.rat v1),.str (Ex.name v1),.i (Ex.date v1),.sl (List.length (Ex.sub v1)) 5 (Ex.deep v1)],.i ((limit:Int) - c),.i (deep-1)] [.agg [.int .u8 x.1.kind,.str x.1.rat,.str x.1.name,.i x.1.date,.sl x.1.sub.length 5 (Ex.exG x.1.sub)],.i x.2.1,.i x.2.2]/\Ex.size x.1<n/\x.2.1<1099511627776/\x.2.2<1099511627776) λn=>.all (λ(r:Nat×Bool)=>1<=r.1/\r.1<=n.2.1+1/\(r.2=true->r.1<=n.2.1->r.1=Ex.size n.1)) λn=>.ite (!Prod.snd n) (.R [.i c,.bool false] v2) (.S ((c:Int)+n.1) (.S (i+1) (.leaf (.back 0 [(1,.i limit),(2,.i deep),(3,.ptr 0 0),(8,.i ((c:Int)+n.1)),(9,.i (i+1)),Z 20,Z 21,Z 22] v2)))))))) (.R [.i c,.bool true] v2)) ?_;simp only [Tree.holds,ze,inR,lo,hi,aD];refine⟨λhlt=> ?_,λhge=> ?_⟩
   ·have hlt1:i<s.length/\c<=limit:=by
     by_cases g1:i<s.length
     ·by_cases g2:c<=limit
      ·exact⟨g1,g2⟩
      ·rw [aW (show ¬ (c:Int)<=limit by omega)] at hlt;cases hx:decide ((i:Int)<s.length)<;>rw [hx] at hlt<;>cases hlt
     ·rw [aW (show ¬ (i:Int)<s.length by omega)] at hlt;cases hlt
    obtain⟨hlt,hcl⟩:=hlt1;have hg:=Ex.zO hlt;have ht:=Ex.xH s i hlt;have h4:=h4 hcl
    iterate 3 refine⟨by omega,λ_=> ?_⟩
    refine⟨(s.getD i Ex.nil,limit - c,deep - 1),⟨?_,by show(s.getD i Ex.nil).size<n; omega,by show limit - c<2^40; omega,by show deep - 1<2^40; omega⟩,⟨(1,false),aJ _,by simp,λh=>by cases h⟩,?_⟩
    ·have e1:(limit:Int) - c=((limit - c:Nat):Int):=by omega
     have e2:(deep:Int) - 1=((deep - 1:Nat):Int):=by omega
     rw [e1,e2];exact⟨⟨⟨rfl,rfl⟩,rfl,rfl,⟨rfl,rfl⟩,⟨rfl,rfl,Ex.zZ _⟩,trivial⟩,⟨rfl,rfl⟩,⟨rfl,rfl⟩,trivial⟩
    rintro⟨m',b⟩ ⟨g1,g2,g3⟩;simp only at g1 g2 g3;refine⟨λhb=> ?_,λhb=> ?_⟩
    ·exact RetR.scal (hq (c,false) ⟨by show 1<=c; omega,by show c<=limit+1; omega,λh=>by cases h⟩) rfl (by simp [resV])
    ·have hb:b=true:=by simpa using hb
     refine⟨by omega,λ_=>⟨by omega,λ_=> ?_⟩⟩;rw [aP trivial];refine⟨⟨(c+m',i+1),?_,?_,hlt,?_⟩,by show s.length - (i+1)<s.length - i; omega,?_,by simp [boxE,Ex.exS,za],by kernel_rfl,aI _⟩
     ·show c+m'<=limit+1; omega
     ·show i+1<c+m'; omega
     ·show c+m'<=limit->c+m'=1+Ex.zt (s.take (i+1));intro hle;have:=g3 hb (by omega);omega
     ·simp [SCn]
   ·refine RetR.scal (hq (c,true) ⟨by show 1<=c; omega,h1,λ_ hle=> ?_⟩) rfl (by simp [resV]);simp only at hle
    have hge:i=s.length:=by
     by_cases g1:i<s.length
     ·rw [aX (show(i:Int)<s.length by omega),aX (show(c:Int)<=limit by omega)] at hge;cases hge
     ·omega
    have h4:=h4 hle;rw [hge,bD] at h4;exact h4
theorem zjv:zd prog 106 (ctrP true (λp:Ex×Nat×Nat=>[p.1.exA,.i (p.2.1:Int),.i (p.2.2:Int)]) (λp=>p.2.1<2^40/\p.2.2<2^40)
 (λp (r:Nat×Bool)=>1<=r.1/\r.1<=p.2.1+1/\(r.2=true->r.1<=p.2.1->r.1=p.1.size)) (λ_ (r:Nat×Bool)=>(.tup [.i (r.1:Int),.bool r.2],[]))):=qY (λp=>p.1.size) zb8
def zij(n:Nat):Ctr:=ctrP true (λx:Ex=>[x.exA]) (λx=>x.size<n/\x.size<2^60/\x.zu<2^60) (λx r=>r=x.zu) (λ_ (r:Nat)=>(.i (r:Int),[]))
def SBy(c i:Nat):KV:=[(1,.ptr 0 0),(3,.i (c:Int)),(4,.i (i:Int))]
theorem zah(n:Nat)(ih:zd prog 107 (zij n)):zd prog 107 (zij (n+1)):=by
 refine zf' f107 λx hx O w0 Q hq=> ?_
 replace hq:=hq _ rfl;obtain⟨hxn,hxs,hxb⟩:=hx;rw [Ex.Kk] at hq hxb;rw [Ex.size_eq] at hxn hxs;obtain⟨k,r,m,d,s⟩:=x;simp only [Ex.sub,Ex.rat,Ex.name] at hxn hxs hq hxb;refine zb.n (vF ih) [1,3,4] (.S ((r.length:Int)+m.length) (.leaf (.loop (lps K107 0).1 (lps K107 0).2 [(1,.ptr 0 0),(3,.i ((r.length:Int)+m.length)),(4,.i 0)] [.box [.int .u8 k,.str r,.str m,.i d,.sl s.length 5 (Ex.exG s)]]))) ?_;simp only [Tree.holds,ze,inR,lo,hi,aD];have hlen:=Ex.qp s;refine⟨by omega,λ_=> ?_⟩;refine zb.loop (ι:={i:Nat // i<=s.length}) (λi=>SBy (r.length+m.length+Ex.zL (s.take i.1)) i.1) (λ_=>boxE k r m d s) (λi=>s.length - i.1) ⟨0,aI _⟩ 0 ?_ ?_ (by kernel_rfl)
 ·exact⟨by simp [SBy,Ex.zL],by simp [boxE,Ex.exS,za],by kernel_rfl,aI _⟩
 ·rintro⟨i,hil⟩;have hle:=Ex.xY s i;obtain⟨c,hc⟩:∃ c,r.length+m.length+Ex.zL (s.take i)=c:=⟨_,rfl⟩;simp only [hc];refine zb.n (vF ih) [1,3,4] (let v2:List Blk:=[.box [.int .u8 k,.str r,.str m,.i d,.sl s.length 5 (Ex.exG s)]];let v1:=s.getD (i:Int).toNat Ex.nil;.D ((i:Int)<s.length) (.side ((0:Int)<=i/\(i:Int)<s.length) (.ex (λ(x:Ex)=>eqL [.agg [.int .u8 (Ex.kind v1),.str (Ex.rat v1),.str (Ex.name v1),.i (Ex.date v1),.sl (List.length (Ex.sub v1)) 5 (Ex.deep v1)]] [.agg [.int .u8 x.kind,.str x.rat,.str x.name,.i x.date,.sl x.sub.length 5 (Ex.exG x.sub)]]/\Ex.size x<n/\Ex.size x<1152921504606846976/\Ex.zu x<1152921504606846976) λn=>.all (λ(r:Nat)=>r=Ex.zu n) λn=>.S ((c:Int)+n) (.S (i+1) (.leaf (.back 0 [(1,.ptr 0 0),(3,.i ((c:Int)+n)),(4,.i (i+1))] v2))))) (.R [.i c] v2)) ?_;simp only [Tree.holds,ze,inR,lo,hi,aD];refine⟨λhlt=> ?_,λhge=> ?_⟩
  ·have hlt:i<s.length:=by have:=aB hlt; omega
   have hg:=Ex.zO hlt;have hg2:=Ex.JT hlt;have ht:=Ex.Yi s i hlt;have hle2:=Ex.xY s (i+1);refine⟨by omega,λ_=>⟨s.getD i Ex.nil,⟨xm rfl rfl rfl rfl rfl (Ex.zZ _),by omega,by omega,by omega⟩,⟨_,rfl⟩,?_⟩⟩;rintro _ rfl;refine⟨by omega,λ_=>⟨by omega,λ_=> ?_⟩⟩;rw [aP trivial];refine⟨⟨i+1,hlt⟩,by show s.length - (i+1)<s.length - i; omega,?_,by simp [boxE,Ex.exS,za],by kernel_rfl,aI _⟩;simp [SBy,ht]; omega
  ·have hge:i=s.length:=by have:=aC hge; omega
   subst hge;rw [bD] at hc;rw [hc] at hq;exact RetR.scal hq rfl (by simp [resV])
theorem zkp:zd prog 107 (ctrP true (λx:Ex=>[x.exA]) (λx=>x.size<2^60/\x.zu<2^60) (λx r=>r=x.zu) (λ_ (r:Nat)=>(.i (r:Int),[]))):=qY Ex.size zah
noncomputable def K181:=Go.Sx.aA f181
def zi6(n:Nat):Ctr:=ctrP true (λp:Ex×Nat=>[p.1.exA,.i (p.2:Int)]) (λp=>p.1.size<n/\p.1.size<2^62/\p.2<2^40) (λp r=>r=min p.1.depth (p.2+1)) (λ_ (r:Nat)=>(.i (r:Int),[]))
def SDp(s:List Ex)(limit c i:Nat):KV:=[(1,.i (limit:Int)),(5,.i (c:Int)),(11,Ex.exS s),(12,.i (s.length:Int)),(13,.i (i:Int))]
theorem zaa(n:Nat)(ih:zd prog 181 (zi6 n)):zd prog 181 (zi6 (n+1)):=by
 refine zf' f181 λp hp O w0 Q hq=> ?_
 obtain⟨x,limit⟩:=p;obtain⟨hxn,hxs,hli⟩:=hp;replace hq:=hq _ rfl;simp only at hxn hxs hli hq;have hds:=Ex.jG x;have hdp:=Ex.zh8 x;rw [Ex.xj] at hq hds hdp;rw [Ex.size_eq] at hxn hxs hds;obtain⟨k,r,m,d,s⟩:=x;simp only [Ex.sub] at hxn hxs hq hds hdp;have hlen:=Ex.qp s;refine zb.n (vF ih) [1,5,11,12,13] (let v1:List Blk:=[.box [.int .u8 k,.str r,.str m,.i d,.sl s.length 5 (Ex.exG s)]];.D ((0:Int)<limit) (.leaf (.loop (lps K181 0).1 (lps K181 0).2 [(1,.i limit),(5,.i 0),(11,.sl s.length 5 (Ex.exG s)),(12,.i s.length),(13,.i 0)] v1)) (.S 1 (.R [.i 1] v1))) ?_;simp only [Tree.holds,ze,inR,lo,hi,aD];refine⟨λhl=> ?_,λhl=> ?_⟩
 ·have hl:0<limit:=by have:=aB hl; omega
  refine zb.loop (ι:={i:Nat // i<=s.length}) (λi=>SDp s limit (min (Ex.zz (s.take i.1)) limit) i.1) (λ_=>[]) (λi=>s.length - i.1) ⟨0,aI _⟩ 0 ?_ ?_ (by kernel_rfl)
  ·exact⟨by simp [SDp,Ex.zz,Ex.exS,za],by simp,by kernel_rfl,aI _⟩
  ·rintro⟨i,hil⟩;obtain⟨c,hc⟩:∃ c,min (Ex.zz (s.take i)) limit=c:=⟨_,rfl⟩;simp only [hc];refine zb.n (vF ih) [1,5,11,12,13] (let v1:=s.getD (i:Int).toNat Ex.nil;.D ((i:Int)<s.length) (.side ((0:Int)<=i/\(i:Int)<s.length) (.S (limit-1) (.ex (λ(x:Ex×Nat)=>eqL [.agg [.int .u8 (Ex.kind v1),.str (Ex.rat v1),.str (Ex.name v1),.i (Ex.date v1),.sl (List.length (Ex.sub v1)) 5 (Ex.deep v1)],.i (limit-1)] [.agg [.int .u8 x.1.kind,.str x.1.rat,.str x.1.name,.i x.1.date,.sl x.1.sub.length 5 (Ex.exG x.1.sub)],.i x.2]/\Ex.size x.1<n/\Ex.size x.1<4611686018427387904/\x.2<1099511627776) λn=>.all (λ(r:Nat)=>r=min n.1.depth (n.2+1)) λn=>.S (i+1) (.leaf (.back 0 [(1,.i limit),(5,.i (max (c:Int) (n:Int))),(11,.sl s.length 5 (Ex.exG s)),(12,.i s.length),(13,.i (i+1))] [.box [.int .u8 (Ex.kind v1),.str (Ex.rat v1),.str (Ex.name v1),.i (Ex.date v1),.sl (List.length (Ex.sub v1)) 5 (Ex.deep v1)]]))))) (.S (c+1) (.R [.i (c+1)] []))) ?_;simp only [Tree.holds,ze,inR,lo,hi,aD];refine⟨λhlt=> ?_,λhge=> ?_⟩
   ·have hlt:i<s.length:=by have:=aB hlt; omega
    have hg:=Ex.zO hlt;have ht:=Ex.ve s i hlt;refine⟨by omega,λ_=>⟨by omega,λ_=>⟨(s.getD i Ex.nil,limit - 1),⟨?_,by show(s.getD i Ex.nil).size<n; omega,by show(s.getD i Ex.nil).size<2^62; omega,by show limit - 1<2^40; omega⟩,⟨_,rfl⟩,?_⟩⟩⟩
    ·have e1:(limit:Int) - 1=((limit - 1:Nat):Int):=by omega
     rw [e1];exact⟨⟨⟨rfl,rfl⟩,rfl,rfl,⟨rfl,rfl⟩,⟨rfl,rfl,Ex.zZ _⟩,trivial⟩,⟨rfl,rfl⟩,trivial⟩
    rintro _ rfl;refine⟨by omega,λ_=> ?_⟩;rw [aP trivial];refine⟨⟨i+1,hlt⟩,by show s.length - (i+1)<s.length - i; omega,?_,by simp,by kernel_rfl,aI _⟩;simp [SDp,ht,Ex.exS,za]; omega
   ·have hge:i=s.length:=by have:=aC hge; omega
    subst hge;rw [bD] at hc;refine⟨by omega,λ_=> ?_⟩;exact RetR.scal hq rfl (by simp [resV]; omega)
 ·have hl:limit=0:=by have:=aC hl; omega
  refine⟨by decide,λ_=> ?_⟩;exact RetR.scal hq rfl (by simp [resV]; omega)
theorem zmu:zd prog 181 (ctrP true (λp:Ex×Nat=>[p.1.exA,.i (p.2:Int)]) (λp=>p.1.size<2^62/\p.2<2^40) (λp r=>r=min p.1.depth (p.2+1)) (λ_ (r:Nat)=>(.i (r:Int),[]))):=qY (λp=>p.1.size) zaa
noncomputable def K147:=Go.Sx.aA f147
def zjs:Ctr:=ctrP true (λp:Ex×Nat×Nat=>[p.1.exA,.i (p.2.1:Int),.i (p.2.2:Int)]) (λp=>p.2.1<2^40/\p.2.2<2^40)
 (λp (r:Nat×Bool)=>1<=r.1/\r.1<=p.2.1+1/\(r.2=true->r.1<=p.2.1->r.1=p.1.size)) (λ_ (r:Nat×Bool)=>(.tup [.i (r.1:Int),.bool r.2],[]))
def zk0:Ctr:=ctrP true (λx:Ex=>[x.exA]) (λx=>x.size<2^60/\x.zu<2^60) (λx r=>r=x.zu) (λ_ (r:Nat)=>(.i (r:Int),[]))
def zm3:Ctr:=ctrP true (λx:Ex=>[x.exA]) (λx=>x.thin) (λx r=>r=false->x.size<=600/\x.zu<=3000) (λ_ (r:Bool)=>(.bool r,[]))
noncomputable def GGt:=tb zjv (tb zkp tz)
theorem zf2:zd prog 66 zm3:=by
 refine zf' f66 λx hx O w0 Q hq=> ?_
 have hb:=Ex.V4 x hx;obtain⟨k,r,m,d,s⟩:=x;refine zb.n GGt.h [] (let v1:=[AV.int .u8 k,AV.str r,AV.str m,AV.i d,AV.sl s.length 5 (Ex.exG s)];.ex (λ(x:Ex×Nat×Nat)=>eqL [.agg v1,.i 600,.i 100] [.agg [.int .u8 x.1.kind,.str x.1.rat,.str x.1.name,.i x.1.date,.sl x.1.sub.length 5 (Ex.exG x.1.sub)],.i x.2.1,.i x.2.2]/\x.2.1<1099511627776/\x.2.2<1099511627776) λn=>.all (λ(r:Nat×Bool)=>1<=r.1/\r.1<=n.2.1+1/\(r.2=true->r.1<=n.2.1->r.1=Ex.size n.1)) λn=>.ex (λ(x:Ex)=>(bif !Prod.snd n then true else decide ((600:Int)<n.1))=false->eqL [.agg v1] [.agg [.int .u8 x.kind,.str x.rat,.str x.name,.i x.date,.sl x.sub.length 5 (Ex.exG x.sub)]]/\Ex.size x<1152921504606846976/\Ex.zu x<1152921504606846976) λn_1=>.all (λ(x:Nat)=>(bif !Prod.snd n then true else decide ((600:Int)<n.1))=false->x=Ex.zu n_1) λn_2=>.R [.bool (bif bif !Prod.snd n then true else decide ((600:Int)<n.1) then true else decide ((3000:Int)<n_2))] [.box [.int .u8 k,.str r,.str m,.i d,.sl s.length 5 (Ex.exG s)]]) ?_;simp only [Tree.holds,ze,inR,lo,hi,aD];refine⟨(.mk k r m d s,600,100),⟨⟨⟨⟨rfl,rfl⟩,rfl,rfl,⟨rfl,rfl⟩,⟨rfl,rfl,za _ _ _⟩,trivial⟩,⟨rfl,rfl⟩,⟨rfl,rfl⟩,trivial⟩,by show 600<1099511627776; omega,by show 100<1099511627776; omega⟩,⟨(1,false),aJ _,by show 1<=600+1; omega,λh=>by cases h⟩,?_⟩;rintro⟨c,b⟩ ⟨g1,g2,g3⟩;simp only at g1 g2 g3
 have hsz:(bif !b then true else decide (600<(c:Int)))=false->(Ex.mk k r m d s).size<=600:=by
  intro h;cases b with
  | false=>cases h
  | true=>
   have h:¬ 600<(c:Int):=aC h;have:=g3 rfl (by omega);omega
 refine⟨.mk k r m d s,λh=>⟨⟨⟨⟨rfl,rfl⟩,rfl,rfl,⟨rfl,rfl⟩,⟨rfl,rfl,za _ _ _⟩,trivial⟩,trivial⟩,by have:=hsz h; omega,by have:=hsz h; omega⟩,⟨_,λ_=>rfl⟩,?_⟩;intro c2 hc2;refine RetR.scal (hq (bif (bif !b then true else decide (600<(c:Int))) then true else decide (3000<(c2:Int))) λh=> ?_) rfl (by simp [resV]);cases ht:(bif !b then true else decide (600<(c:Int))) with
 | true=>rw [ht] at h; cases h
 | false=>
  rw [ht] at h;have h2:=hc2 ht;have h:¬ 3000<(c2:Int):=aC h;exact⟨hsz ht,by omega⟩
def zri:Ctr:=ctrP true (λx:Ex=>[x.exA]) (λx=>x.rat.length<2^40/\x.name.length<2^40) (λx r=>r=bif ji x.kind x.rat x.name x.date x.sub.length then 1 else 0) (λ_ (r:Int)=>(.int .u8 r,[]))
noncomputable def GLf:=tb Qs (tb Xq (tb ZX tz))
abbrev q21(A:List AV)(x:Int):Prop:=eqL A [.i x]/\True
theorem zqj:zd prog 182 zri:=by
 refine zf' f182 λx hx O w0 Q hq=> ?_
 obtain⟨k,r,m,d,s⟩:=x;replace hq:=hq _ rfl;obtain⟨h1,h2⟩:=hx;simp only [Ex.rat,Ex.name,Ex.kind,Ex.date,Ex.sub] at h1 h2 hq;refine zb.n GLf.h [] (let v2:=r=#[].toList;let v1:List Blk:=[.box [.int .u8 k,.str r,.str m,.i d,.sl s.length 5 (Ex.exG s)]];let v4:zY:=.ret [.int .u8 1] v1;let v3:zY:=.ret [.int .u8 0] v1;.D (k=1) (.ex (λ(x:L8)=>decide ((s.length:Int)=0)=true->q15 [.str r] x) λn=>.all (λ(x:Int)=>decide ((s.length:Int)=0)=true->x=errR n) λn=>.ite (!bif bif bif decide ((s.length:Int)=0) then decide (n=0) else false then decide (m=#[].toList) else false then decide (d=0) else false) (.leaf v3) (.leaf v4)) (.D (k=2) (.ex (λ(x:L8)=>(bif decide ((s.length:Int)=0) then decide v2 else false)=true->q15 [.str m] x) λn=>.all (λ(x:Bool)=>(bif decide ((s.length:Int)=0) then decide v2 else false)=true->x=qE n) λn=>.ex (λ(x:Int)=>(bif bif decide ((s.length:Int)=0) then decide v2 else false then n else false)=true->q21 [.i d] x) λn_1=>.all (λ(x:Bool)=>(bif bif decide ((s.length:Int)=0) then decide v2 else false then n else false)=true->x=dayB n_1) λn_2=>.ite (!bif bif bif decide ((s.length:Int)=0) then decide v2 else false then n else false then n_2 else false) (.leaf v3) (.leaf v4)) (.D (k=3) (.ex (λ(x:L8)=>(bif decide ((s.length:Int)=0) then decide v2 else false)=true->q15 [.str m] x) λn=>.all (λ(x:Bool)=>(bif decide ((s.length:Int)=0) then decide v2 else false)=true->x=qE n) λn=>.ite (!bif bif bif decide ((s.length:Int)=0) then decide v2 else false then n else false then decide (d=0) else false) (.leaf v3) (.leaf v4)) (.ite true (.leaf v3) (.leaf v4))))) ?_;simp only [q15,q21,Tree.holds,ze,inR,lo,hi,aD]
 have fin:∀ T:Bool,T=ji k r m d s.length->((!T)=true->Q (.int .u8 0,[]))/\((!T)=false->Q (.int .u8 1,[])):=by
  intro T hT;subst hT;cases hl:ji k r m d s.length with
  | true=>rw [hl] at hq; exact⟨λh=>(by cases h),λ_=>hq⟩
  | false=>rw [hl] at hq; exact⟨λ_=>hq,λh=>(by cases h)⟩
 refine⟨λhk=> ?_,λhk=> ?_⟩
 ·have hk:k=1:=aB hk;refine⟨r,λ_=>⟨by simp,by omega⟩,⟨_,λ_=>rfl⟩,?_⟩;intro e he
  have F:=fin (bif bif bif decide ((s.length:Int)=0) then decide (e=0) else false then decide (m=[]) else false then decide (d=0) else false) (by
   by_cases hl:s.length=0
   ·have:=he (by simp [hl]);subst this;simp [ji,hk,hl,Bool.and_assoc]
   ·simp [ji,hl])
  exact⟨λh=>RetR.scal (F.1 h) rfl (by simp [resV]),λh=>RetR.scal (F.2 h) rfl (by simp [resV])⟩
 ·have hk1:k≠1:=aC hk;refine⟨λhk=> ?_,λhk=> ?_⟩
  ·have hk:k=2:=aB hk;refine⟨m,λ_=>⟨by simp,by omega⟩,⟨_,λ_=>rfl⟩,?_⟩;intro e he;refine⟨d,λ_=>⟨by simp,trivial⟩,⟨_,λ_=>rfl⟩,?_⟩;intro f hf
   have F:=fin (bif bif bif decide ((s.length:Int)=0) then decide (r=[]) else false then e else false then f else false) (by
    by_cases hl:s.length=0
    ·by_cases hr:r=[]
     ·have:=he (by simp [hl,hr]);subst this;cases hn:qE m with
      | true=>
       have:=hf (by simp [hl,hr,hn]);subst this;simp [ji,hk,hl,hr,hn]
      | false=>simp [ji,hk,hl,hr,hn]
     ·simp [ji,hk,hl,hr]
    ·simp [ji,hl])
   exact⟨λh=>RetR.scal (F.1 h) rfl (by simp [resV]),λh=>RetR.scal (F.2 h) rfl (by simp [resV])⟩
  ·have hk2:k≠2:=aC hk;refine⟨λhk=> ?_,λhk=> ?_⟩
   ·have hk:k=3:=aB hk;refine⟨m,λ_=>⟨by simp,by omega⟩,⟨_,λ_=>rfl⟩,?_⟩;intro e he
    have F:=fin (bif bif bif decide ((s.length:Int)=0) then decide (r=[]) else false then e else false then decide (d=0) else false) (by
     by_cases hl:s.length=0
     ·by_cases hr:r=[]
      ·have:=he (by simp [hl,hr]);subst this;simp [ji,hk,hl,hr]
      ·simp [ji,hk,hl,hr]
     ·simp [ji,hl])
    exact⟨λh=>RetR.scal (F.1 h) rfl (by simp [resV]),λh=>RetR.scal (F.2 h) rfl (by simp [resV])⟩
   ·have hk3:k≠3:=aC hk;have F:=fin false (by simp [ji,hk1,hk2,hk3]);exact⟨λh=>RetR.scal (F.1 rfl) rfl (by simp [resV]),λh=>by cases h⟩
def SSo(s:List Ex)(i:Nat):KV:=[(3,.ptr 1 0),(41,Ex.exS s),(42,.i (s.length:Int)),(43,.i (i:Int))]
def HSo(k:Int):Heap:=[.dead,.box [.sl (jD k) 1 λj _=>.int .u8 (qP k j),.int .u8 (jr k)]]
def zeo(n:Nat):Ctr:=ctrP true (λx:Ex=>[x.exA]) (λx=>x.size<n/\x.size<2^60/\x.zu<2^40) (λx r=>r=x.zw) (λ_ (r:Int)=>(.int .u8 r,[]))
def GSo(n:Nat):Nat->Option Ctr:=λf=>if f=147 then some (zeo n) else if f=182 then some zri else none
theorem zmc{n:Nat}(h:zd prog 147 (zeo n)):∀ f c,GSo n f=some c->zd prog f c:=by
 intro f c hf;simp only [GSo] at hf;split at hf
 ·rename_i hg; subst hg; cases hf; exact h
 ·split at hf
  ·rename_i hg; subst hg; cases hf; exact zqj
  ·cases hf
abbrev q22(A:List AV)(x:Ex):Prop:=eqL A [.agg [.int .u8 x.kind,.str x.rat,.str x.name,.i x.date,.sl x.sub.length 5 (Ex.exG x.sub)]]/\x.rat.length<1099511627776/\x.name.length<1099511627776
theorem zfg(n:Nat)(ih:zd prog 147 (zeo n)):zd prog 147 (zeo (n+1)):=by
 refine zf' f147 λx hx O w0 Q hq=> ?_
 replace hq:=hq _ rfl;obtain⟨hxn,hxs,hxb⟩:=hx;rw [Ex.size_eq] at hxn hxs;rw [Ex.Kk] at hxb;rw [Ex.Wq] at hq;obtain⟨k,r,m,d,s⟩:=x;simp only [Ex.sub,Ex.rat,Ex.name,Ex.kind,Ex.date] at hxn hxs hq hxb;refine zb.n (zmc ih) [3,41,42,43] (let v5:=lps K147 0;let v3:List (Nat×AV):=[(3,.ptr 1 0),(41,.sl s.length 5 (Ex.exG s)),(42,.i s.length),(43,.i 0)];let v2:=q22 [.agg [.int .u8 k,.str r,.str m,.i d,.sl s.length 5 (Ex.exG s)]];let v1:List AV:=[.int .u8 k,.str r,.str m,.i d,.sl s.length 5 (Ex.exG s)];let v4:List Blk:=[.box v1,.box [.nils,.int .u8 0]];.ite (qL k) (.ite false (.ex v2 λn=>.all (λ(r:Int)=>r=bif ji n.kind n.rat n.name n.date n.sub.length then(1:Int) else(0:Int)) λn=>.R [.int .u8 n] [.box v1,.box [.sl (jD k) 1 λ(j x:Nat)=>.int .u8 (qP k j),.int .u8 (jr k)]]) (.ite (bif bif bif !decide ((s.length:Int)=(↑(jD k):Int)) then true else !decide (r=#[].toList) then true else !decide (m=#[].toList) then true else !decide (d=0)) (.R [.int .u8 0] [.box v1,.box [.sl (jD k) 1 λ(j x:Nat)=>.int .u8 (qP k j),.int .u8 (jr k)]]) (.leaf (.loop v5.1 v5.2 v3 [.box v1,.box [.sl (jD k) 1 λ(j x:Nat)=>.int .u8 (qP k j),.int .u8 (jr k)]])))) (.ite true (.ex v2 λn=>.all (λ(r:Int)=>r=bif ji n.kind n.rat n.name n.date n.sub.length then(1:Int) else(0:Int)) λn=>.R [.int .u8 n] v4) (.ite (bif bif bif !decide ((s.length:Int)=0) then true else !decide (r=#[].toList) then true else !decide (m=#[].toList) then true else !decide (d=0)) (.R [.int .u8 0] v4) (.leaf (.loop v5.1 v5.2 v3 v4))))) ?_;simp only [q22,Tree.holds,ze,inR,lo,hi,aD];refine⟨λhk=>⟨λh=>(by cases h),λ_=>⟨λh=> ?_,λh=> ?_⟩⟩,λhk=> ?_⟩
 ·have hn:¬ (r=[]/\m=[]/\d=0/\Ex.qb s=qt k):=by
   rintro⟨rfl,rfl,rfl,h4⟩;have:s.length=jD k:=by rw [<- Ex.j3,h4]; rfl
   simp [this] at h
  have e:wE k r m d (Ex.qb s)=0:=by unfold wE; rw [aP hk,aO hn]
  exact RetR.scal hq rfl (by simp [resV,e])
 ·have hh:s.length=jD k/\r=[]/\m=[]/\d=0:=by
   simp at h;obtain⟨⟨⟨h1,h2⟩,h3⟩,h4⟩:=h;exact⟨by omega,h2,h3,h4⟩
  obtain⟨hl,rfl,rfl,rfl⟩:=hh;have hlen:=Ex.qp s;have e1:wE k [] [] 0 (Ex.qb s)=if Ex.qb s=qt k then jr k else 0:=by unfold wE; rw [aP hk]; simp
  rw [e1] at hq;clear h e1;refine zb.loop (ι:={i:Nat // i<=s.length/\∀ j,j<i->(s.getD j Ex.nil).zw=qP k j}) (λi=>SSo s i.1) (λ_=>HSo k) (λi=>s.length - i.1) ⟨0,aI _,λj hj=>by omega⟩ 0 ?_ ?_ (by kernel_rfl)
  ·exact⟨by simp [SSo,Ex.exS,za],by simp [HSo,za],by kernel_rfl,aI _⟩
  ·rintro⟨i,hil,hib⟩;refine zb.n (zmc ih) [3,41,42,43] (let v1:=s.getD (i:Int).toNat Ex.nil;let v2:List AV:=[.int .u8 (Ex.kind v1),.str (Ex.rat v1),.str (Ex.name v1),.i (Ex.date v1),.sl (List.length (Ex.sub v1)) 5 (Ex.deep v1)];.D ((i:Int)<s.length) (.side ((0:Int)<=i/\(i:Int)<s.length) (.side ((0:Int)<=i/\(i:Int)<(↑(jD k):Int)) (.ex (λ(x:Ex)=>eqL [.agg [.int .u8 (Ex.kind v1),.str (Ex.rat v1),.str (Ex.name v1),.i (Ex.date v1),.sl (List.length (Ex.sub v1)) 5 (Ex.deep v1)]] [.agg [.int .u8 x.kind,.str x.rat,.str x.name,.i x.date,.sl x.sub.length 5 (Ex.exG x.sub)]]/\Ex.size x<n/\Ex.size x<1152921504606846976/\Ex.zu x<1099511627776) λn=>.all (λ(r:Int)=>r=Ex.zw n) λn=>.N (n=qP k (i:Int).toNat) (.R [.int .u8 0] [.dead,.box [.sl (jD k) 1 λ(j x:Nat)=>.int .u8 (qP k j),.int .u8 (jr k)],.box v2]) (.S (i+1) (.leaf (.back 0 [(3,.ptr 1 0),(41,.sl s.length 5 (Ex.exG s)),(42,.i s.length),(43,.i (i+1))] [.dead,.box [.sl (jD k) 1 λ(j x:Nat)=>.int .u8 (qP k j),.int .u8 (jr k)],.box v2])))))) (.R [.int .u8 (jr k)] [.dead,.box [.sl (jD k) 1 λ(j x:Nat)=>.int .u8 (qP k j),.int .u8 (jr k)]])) ?_;simp only [Tree.holds,ze,inR,lo,hi,aD];refine⟨λhlt=> ?_,λhge=> ?_⟩
   ·have hlt:i<s.length:=by have:=aB hlt; omega
    have hg:=Ex.zO hlt;have hg2:=Ex.JT hlt;have hb0:Ex.zL s<2^40:=by simpa using hxb
    refine⟨by omega,λ_=>⟨by omega,λ_=>⟨s.getD i Ex.nil,⟨xm rfl rfl rfl rfl rfl (Ex.zZ _),by omega,by omega,by omega⟩,⟨_,rfl⟩,?_⟩⟩⟩;intro e he;refine⟨λh=> ?_,λh=>⟨by omega,λ_=> ?_⟩⟩
    ·have hne:¬ Ex.qb s=qt k:=by
      intro h2;have:=(Ex.Za.1 h2).2 i hlt;rw [<- he] at this;have h3:¬ e=qP k i:=by simpa using h
      exact h3 this
     rw [aO hne] at hq;exact RetR.scal hq rfl (by simp [resV])
    ·rw [aP trivial];have h3:e=qP k i:=by simpa using h
     refine⟨⟨i+1,hlt,λj hj=> ?_⟩,by show s.length - (i+1)<s.length - i; omega,by simp [SSo,Ex.exS,za],by simp [HSo,za],by kernel_rfl,aI _⟩;rcases aR j i with h1 | h1
     ·exact hib j h1
     ·have:j=i:=by omega
      rw [this,<- he,h3]
   ·have hge:i=s.length:=by have:=aC hge; omega
    subst hge;have:Ex.qb s=qt k:=Ex.Za.2 ⟨hl,hib⟩;rw [aP this] at hq;exact RetR.scal hq rfl (by simp [resV])
 ·refine⟨λ_=> ?_,λh=>(by cases h)⟩;refine⟨.mk k r m d s,⟨⟨⟨⟨rfl,rfl⟩,rfl,rfl,⟨rfl,rfl⟩,⟨rfl,rfl,za _ _ _⟩,trivial⟩,trivial⟩,by show r.length<_; omega,by show m.length<_; omega⟩,⟨_,rfl⟩,?_⟩;intro e he
  have e1:wE k r m d (Ex.qb s)=e:=by
   unfold wE;rw [aO (by rw [hk]; decide),he,Ex.j3];show _=bif ji k r m d s.length then 1 else 0
   cases ji k r m d s.length<;>rfl
  rw [e1] at hq;exact RetR.scal hq rfl (by simp [resV])
def Ji:Ctr:=ctrP true (λx:Ex=>[x.exA]) (λx=>x.size<2^60/\x.zu<2^40) (λx r=>r=x.zw) (λ_ (r:Int)=>(.int .u8 r,[]))
theorem Xl:zd prog 147 Ji:=qY Ex.size zfg
def zjq:Ctr:=ctrP true (λx:Ex=>[x.exA]) (λx=>x.size<2^62) (λx r=>r=x.size) (λ_ (r:Nat)=>(.i (r:Int),[]))
def zmh:Ctr:=ctrP true (λp:Ex×Nat=>[p.1.exA,.i (p.2:Int)]) (λp=>p.1.size<2^62/\p.2<2^40) (λp r=>r=min p.1.depth (p.2+1)) (λ_ (r:Nat)=>(.i (r:Int),[]))
def Xh:Ctr:=ctrP true (λx:Ex=>[x.exA]) (λx=>x.size<2^40/\x.zu<2^40) (λx r=>r=x.errX) (λ_ (r:Int)=>(.i r,[]))
def zeg(z:Int):Ctr:=ctrP true (λx:Ex=>[x.exA]) (λx=>x.size<2^40/\x.zu<2^40) (λx r=>r=(decide (x.errX=0)&&decide (x.zw=z))) (λ_ (r:Bool)=>(.bool r,[]))
theorem eqX(x:Ex):eqL [.agg [.int .u8 x.kind,.str x.rat,.str x.name,.i x.date,.sl x.sub.length 5 (Ex.exG x.sub)]] [x.exA]:=xm rfl rfl rfl rfl rfl (za _ _ _)
theorem zg4{x:Ex}{n:Nat}(hn:decide (500<(x.size:Int))=false->(60<n↔60<x.depth)) :
  ((bif decide (500<(x.size:Int)) then true else decide (60<(n:Int)))=true->x.errX=4)/\((bif decide (500<(x.size:Int)) then true else decide (60<(n:Int)))=false->x.errX=if x.zw=0 then 8 else 0):=by
 by_cases h:500<x.size
 ·have e:decide (500<(x.size:Int))=true:=aX (by omega);rw [e];exact⟨λ_=>aP (.inl h),λh=>by cases h⟩
 ·have e:decide (500<(x.size:Int))=false:=aW (by omega);have h2:=hn e;rw [e];simp only [cond_false];by_cases h3:60<n
  ·exact⟨λ_=>aP (.inr (h2.1 h3)),λh=>by have:=aC h; omega⟩
  ·refine⟨λh=>by have:=aB h; omega,λ_=> ?_⟩;unfold Ex.errX;rw [aO];rintro(h4 | h4)
   ·exact h h4
   ·exact h3 (h2.2 h4)
noncomputable def GCk:=tb ze9 (tb zmu (tb Xl tz))
abbrev q23(A:List AV)(x:Ex):Prop:=eqL A [.agg [.int .u8 x.kind,.str x.rat,.str x.name,.i x.date,.sl x.sub.length 5 (Ex.exG x.sub)]]/\Ex.size x<1152921504606846976/\Ex.zu x<1099511627776
theorem KO:zd prog 146 Xh:=by
 refine zf' f146 λx hx O w0 Q hq=> ?_
 replace hq:=hq _ rfl;obtain⟨h1,h2⟩:=hx;refine zb.n GCk.h [] (let v2:List Blk:=[.box [.int .u8 x.kind,.str x.rat,.str x.name,.i x.date,.sl x.sub.length 5 (Ex.exG x.sub)]];let v1:=[AV.int .u8 x.kind,AV.str x.rat,AV.str x.name,AV.i x.date,AV.sl x.sub.length 5 (Ex.exG x.sub)];.ex (λ(x_1:Ex)=>eqL [.agg v1] [.agg [.int .u8 x_1.kind,.str x_1.rat,.str x_1.name,.i x_1.date,.sl x_1.sub.length 5 (Ex.exG x_1.sub)]]/\Ex.size x_1<4611686018427387904) λn=>.all (λ(r:Nat)=>r=Ex.size n) λn=>.ex (λ(x_1:Ex×Nat)=>decide ((500:Int)<n)=false->eqL [.agg v1,.i 60] [.agg [.int .u8 x_1.1.kind,.str x_1.1.rat,.str x_1.1.name,.i x_1.1.date,.sl x_1.1.sub.length 5 (Ex.exG x_1.1.sub)],.i x_1.2]/\Ex.size x_1.1<4611686018427387904/\x_1.2<1099511627776) λn_1=>.all (λ(x:Nat)=>decide ((500:Int)<n)=false->x=min n_1.1.depth (n_1.2+1)) λn_2=>.ite (bif decide ((500:Int)<n) then true else decide ((60:Int)<n_2)) (.R [.i 4] v2) (.ex (q23 [.agg v1]) λn=>.all (λ(r:Int)=>r=Ex.zw n) λn=>.D (n=0) (.R [.i 8] v2) (.R [.i 0] v2))) ?_;simp only [q23,Tree.holds,ze,inR,lo,hi,aD];refine⟨x,⟨xm rfl rfl rfl rfl rfl (za _ _ _),by omega⟩,⟨_,rfl⟩,?_⟩;rintro _ rfl;refine⟨(x,60),λ_=>⟨⟨⟨⟨rfl,rfl⟩,rfl,rfl,⟨rfl,rfl⟩,⟨rfl,rfl,za _ _ _⟩,trivial⟩,⟨rfl,rfl⟩,trivial⟩,by show x.size<_; omega,by show 60<1099511627776; omega⟩,⟨_,λ_=>rfl⟩,?_⟩;intro c hc;have em:=zg4 (x:=x) (n:=c) λh=>by have:=hc h; simp only at this; omega
 refine⟨λh=> ?_,λh=>⟨x,⟨eqX x,by omega,by omega⟩,⟨_,rfl⟩,?_⟩⟩
 ·rw [em.1 h] at hq;exact RetR.scal hq rfl (by simp [resV])
 ·have e:=em.2 h;rintro _ rfl;refine⟨λg=> ?_,λg=> ?_⟩
  ·rw [e,aP (aB g)] at hq;exact RetR.scal hq rfl (by simp [resV])
  ·rw [e,aO (aC g)] at hq;exact RetR.scal hq rfl (by simp [resV])
noncomputable def GNu:=tb KO (tb Xl tz)
abbrev q24(A:List AV)(x:Ex):Prop:=eqL A [.agg [.int .u8 x.kind,.str x.rat,.str x.name,.i x.date,.sl x.sub.length 5 (Ex.exG x.sub)]]/\Ex.size x<1099511627776/\Ex.zu x<1099511627776
theorem zsn:zd prog 102 (zeg 1):=by
 refine zf' f102 λx hx O w0 Q hq=> ?_
 replace hq:=hq _ rfl;obtain⟨h1,h2⟩:=hx;refine zb.n GNu.h [] (let v1:=[AV.agg [.int .u8 x.kind,.str x.rat,.str x.name,.i x.date,.sl x.sub.length 5 (Ex.exG x.sub)]];.ex (q24 v1) λn=>.all (λ(r:Int)=>r=Ex.errX n) λn=>.ex (λ(x9:Ex)=>decide (n=0)=true->q23 v1 x9) λn_1=>.all (λ(x:Int)=>decide (n=0)=true->x=Ex.zw n_1) λn_2=>.R [.bool (bif decide (n=0) then decide (n_2=1) else false)] [.box [.int .u8 x.kind,.str x.rat,.str x.name,.i x.date,.sl x.sub.length 5 (Ex.exG x.sub)]]) ?_;simp only [q23,q24,Tree.holds,ze,inR,lo,hi,aD];refine⟨x,⟨eqX x,by omega,by omega⟩,⟨_,rfl⟩,?_⟩;rintro _ rfl;refine⟨x,λ_=>⟨eqX x,by omega,by omega⟩,⟨_,λ_=>rfl⟩,?_⟩;intro c hc;refine RetR.scal hq rfl ?_;cases h:decide (x.errX=0) with
 | false=>rfl
 | true=>rw [hc h]; rfl
theorem zla:zd prog 103 (zeg 2):=by
 refine zf' f103 λx hx O w0 Q hq=> ?_
 replace hq:=hq _ rfl;obtain⟨h1,h2⟩:=hx;refine zb.n GNu.h [] (let v1:=[AV.agg [.int .u8 x.kind,.str x.rat,.str x.name,.i x.date,.sl x.sub.length 5 (Ex.exG x.sub)]];.ex (q24 v1) λn=>.all (λ(r:Int)=>r=Ex.errX n) λn=>.ex (λ(x9:Ex)=>decide (n=0)=true->q23 v1 x9) λn_1=>.all (λ(x:Int)=>decide (n=0)=true->x=Ex.zw n_1) λn_2=>.R [.bool (bif decide (n=0) then decide (n_2=2) else false)] [.box [.int .u8 x.kind,.str x.rat,.str x.name,.i x.date,.sl x.sub.length 5 (Ex.exG x.sub)]]) ?_;simp only [q23,q24,Tree.holds,ze,inR,lo,hi,aD];refine⟨x,⟨eqX x,by omega,by omega⟩,⟨_,rfl⟩,?_⟩;rintro _ rfl;refine⟨x,λ_=>⟨eqX x,by omega,by omega⟩,⟨_,λ_=>rfl⟩,?_⟩;intro c hc;refine RetR.scal hq rfl ?_;cases h:decide (x.errX=0) with
 | false=>rfl
 | true=>rw [hc h]; rfl
theorem zdm(p:Prop):∃ b:Bool,b=true↔p:=by
 by_cases h:p
 ·exact⟨true,by simp [h]⟩
 ·exact⟨false,by simp [h]⟩
end Go.Proofs.Tryz
end
section
namespace Go.Sx
variable [Stat]
section
variable {own own' O:Nat->Prop} {w w':World} {σ Z':List SE} {P:Program} {fn:Func} {Xp:List PanicEntry->Prop}
def upA0(d k:Nat):AV->AV->Prop
 | .nils,.osl i _ off n=>(d<=i/\i<d+k)/\off=0/\n=0
 | a,b=>a=b
def upL0(d k:Nat):List AV->List AV->Prop
 | [],[]=>True
 | a::l,b::m=>upA0 d k a b/\upL0 d k l m
 | _,_=>False
def upA1(d k:Nat):AV->AV->Prop
 | .agg l,.agg m=>upL0 d k l m
 | a,b=>upA0 d k a b
def upL1(d k:Nat):List AV->List AV->Prop
 | [],[]=>True
 | a::l,b::m=>upA1 d k a b/\upL1 d k l m
 | _,_=>False
def upA2(d k:Nat):AV->AV->Prop
 | .tup l,.tup m=>upL1 d k l m
 | a,b=>upA1 d k a b
def vk(k:Nat):List SE:=List.replicate k ⟨none,0⟩
theorem QG.mono{g:Nat}{vals:Array Value}{R R':Value->World->Prop}(hR:∀ v w',R v w'->R' v w')(h:QG P g vals w R):QG P g vals w R':=by
 rcases h with ⟨h1,h2⟩ | ⟨v,w',h1,h2⟩
 ·exact .inl ⟨h1,h2.mono λe w' ⟨v,he,hv⟩=>⟨v,he,hR v w' hv⟩⟩
 ·exact .inr ⟨v,w',h1,hR v w' h2⟩
theorem vQ{k i:Nat}{e:SE}(h:(σ++vk k)[i]?=some e):(i<σ.length/\σ[i]?=some e)\/(σ.length<=i/\e=⟨none,0⟩):=by
 rw [bT] at h;split at h
 ·rename_i hi; exact .inl ⟨hi,h⟩
 ·rename_i hi;right;refine⟨by omega,?_⟩;simp only [vk,List.getElem?_replicate] at h;split at h
  ·cases h; rfl
  ·cases h
theorem uL{k b:Nat}(h:Mine (σ++vk k) b):Mine σ b:=by
 obtain⟨e,he,ad,h1,h2⟩:=h;rcases bZ.1 he with he | he
 ·exact⟨e,he,ad,h1,h2⟩
 ·have:=List.eq_of_mem_replicate he;subst this;cases h1
theorem yU{k b:Nat}(h:Own O (σ++vk k) b):Own O σ b:=by
 rcases h with h | h
 ·exact .inl h
 ·exact .inr (uL h)
theorem xM(K:List Nat)(w:World)(σ:List SE)(k:Nat):Hold K w σ w (σ++vk k):=λi e he _=>by
 have hi:=(aG.1 he).1;exact⟨by rw [bL hi]; exact he,λad _ cs el h=>⟨cs,el,h,rfl⟩⟩
theorem KT{k:Nat}(hx:Ext own w own' w){a b:AV}{v:Value}(hu:upA0 σ.length k a b)(ha:Rep own w a σ v):Rep own' w b (σ++vk k) v:=by
 unfold upA0 at hu;split at hu
 ·obtain⟨⟨h1,h2⟩,rfl,rfl⟩:=hu;rename_i i sz _ _;simp only [Rep] at ha ⊢;refine⟨⟨none,0⟩,?_,by simp,none,0,ha,aJ _,.inl rfl⟩;rw [List.getElem?_append_right h1,vk,List.getElem?_replicate,aP (by omega)]
 ·subst hu;exact zG (K:=[]) hx (xM [] w σ k) _ _ (qD _) ha
theorem J0{k:Nat}(hx:Ext own w own' w):∀ {l m:List AV} {vs:List Value},upL0 σ.length k l m->RepL own w l σ vs->RepL own' w m (σ++vk k) vs
 | [],[],vs,_,h=>by simpa [RepL] using h
 | a::l,b::m,vs,hl,h=>by
  simp only [RepL] at h ⊢;obtain⟨v,r,hv,h1,h2⟩:=h;exact⟨v,r,hv,KT hx hl.1 h1,J0 hx hl.2 h2⟩
 | [],_::_,_,hl,_=>hl.elim
 | _::_,[],_,hl,_=>hl.elim
theorem V1{k:Nat}(hx:Ext own w own' w){a b:AV}{v:Value}(hu:upA1 σ.length k a b)(ha:Rep own w a σ v):Rep own' w b (σ++vk k) v:=by
 unfold upA1 at hu;split at hu
 ·simp only [Rep] at ha ⊢;obtain⟨vs,hv,hr⟩:=ha;exact⟨vs,hv,J0 hx hu hr⟩
 ·exact KT hx hu ha
theorem J3{k:Nat}(hx:Ext own w own' w):∀ {l m:List AV} {vs:List Value},upL1 σ.length k l m->RepL own w l σ vs->RepL own' w m (σ++vk k) vs
 | [],[],vs,_,h=>by simpa [RepL] using h
 | a::l,b::m,vs,hl,h=>by
  simp only [RepL] at h ⊢;obtain⟨v,r,hv,h1,h2⟩:=h;exact⟨v,r,hv,V1 hx hl.1 h1,J3 hx hl.2 h2⟩
 | [],_::_,_,hl,_=>hl.elim
 | _::_,[],_,hl,_=>hl.elim
theorem K1{k:Nat}(hx:Ext own w own' w){a b:AV}{v:Value}(hu:upA2 σ.length k a b)(ha:Rep own w a σ v):Rep own' w b (σ++vk k) v:=by
 unfold upA2 at hu;split at hu
 ·simp only [Rep] at ha ⊢;obtain⟨vs,hv,hr⟩:=ha;exact⟨vs,hv,J3 hx hu hr⟩
 ·exact V1 hx hu ha
def K4(szs:List (Nat×(Nat->Nat->AV))):Heap:=szs.map λs=>.arr 0 s.1 s.2
theorem zd9(hx:Ext own w own' w){hs:Heap}(hh:HRep own w σ hs)(szs:List (Nat×(Nat->Nat->AV))):HRep own' w (σ++vk szs.length) (hs++K4 szs):=by
 have hl:=hh.len;refine⟨by simp [vk,K4,hl],λi j e f a b he hf ha hb hij=> ?_,λi e a he ha=> ?_,λi e b he hb=> ?_⟩
 ·rcases vQ he with ⟨_,he⟩ | ⟨_,rfl⟩
  ·rcases vQ hf with ⟨_,hf⟩ | ⟨_,rfl⟩
   ·exact hh.inj i j e f a b he hf ha hb hij
   ·cases hb
  ·cases ha
 ·rcases vQ he with ⟨_,he⟩ | ⟨_,rfl⟩
  ·exact hh.lt i e a he ha
  ·cases ha
 ·rcases vQ he with ⟨hi,he⟩ | ⟨hi,rfl⟩
  ·rw [bL (by omega)] at hb;have:=jn (K:=[]) hx (xM [] w σ szs.length) (hh.blk i e b he hb) (λ_ _=>rfl)
   rwa [ju] at this
  ·rw [List.getElem?_append_right (by omega)] at hb;simp only [K4,aN] at hb;cases hz:szs[i - hs.length]? with
   | none=>simp [hz] at hb
   | some s=>
    simp only [hz,Option.map_some,aE] at hb;subst hb;exact⟨rfl,.inl rfl⟩
def upQ(Q:AV×Heap->Prop)(p:AV×Heap):Prop:=Q p\/∃ (r:AV) (szs:List (Nat×(Nat->Nat->AV))),upA2 p.2.length szs.length p.1 r/\Q (r,p.2++K4 szs)
theorem jA.up{g:Nat}{c:Ctr}{args:List AV}{hc:Heap}{Q:AV×Heap->Prop}(h:jA P g c args hc (upQ Q)):jA P g c args hc Q:=by
 intro O w σ vals hg hh hr;refine QG.mono ?_ (h O w σ vals hg hh hr);rintro v w' ⟨r,hs,Z',hq,h1,h2,h3,h4,h5,h6⟩;rcases hq with hq | ⟨r',szs,hu,hq⟩
 ·exact⟨r,hs,Z',hq,h1,h2,h3,h4,h5,h6⟩
 ·have hx:Ext (λb=>Own O Z' b\/(c.fresh=true/\b<w.heap.size)) w' (λb=>Own O (Z'++vk szs.length) b\/(c.fresh=true/\b<w.heap.size)) w':=
   ⟨rfl,rfl,rfl,aJ _,λ_ _ _=>rfl,λb hb=>.inl (hb.imp yU id)⟩
  have hl:hs.length=Z'.length:=h2.len.symm;refine⟨r',hs++K4 szs,Z'++vk szs.length,hq,K1 hx (by rw [<- hl]; exact hu) h1,zd9 hx h2 szs,⟨h3.old,λi e ad he had=> ?_,h3.stat.own λb hb=>yU hb⟩,by simp; omega,h5.X3 (xM [] w' Z' _),?_⟩
  ·rcases vQ he with ⟨_,he⟩ | ⟨_,rfl⟩
   ·exact h3.dis i e ad he had
   ·cases had
  ·exact⟨h6.os,h6.tape,h6.output,h6.size,h6.keep,λb hb=>h6.grow b (uL hb)⟩
theorem Ju{X R:Type}{fresh:Bool}{inp:X->List AV}{pre:X->Prop}{post:X->R->Prop}{out:X->R->AV×Heap}{g:Nat}{c:Code}(hf:P.funcs[g]?=some fn)(hb:fn.body=some c) (hn:(fn.name == "runtime.NumGoroutine")=false)
  (H:∀ x,pre x->∀ (O:Nat->Prop) (w0:World) (Q:AV×Heap->Prop),(∀ r,post x r->Q (out x r)) ->
   zb P fn O 0 w0 [] (λ_ _ _=>False) (RetR (ctrP fresh inp pre post out) 0 (upQ Q)) [.code c] (entry fn (inp x))):zd P g (ctrP fresh inp pre post out):=by
 intro args hc Q hq _;simp only [ctrP] at hq;split at hq
 ·obtain⟨x,⟨h1,h4⟩,h5,h6⟩:=hq;refine jA.le h1 (jA.up (fn_k hf hb hn (λh=>rfl) λO w0 I0 hl=> ?_));have h0:I0=[]:=aU.1 (by simpa using hl);subst h0;exact H x h4 O w0 Q h6
 ·exact hq.elim
variable {pin:Nat} {w0:World} {I0:List SE} {a:Act}
theorem RetR.outs{ctr:Ctr}{Q:AV×Heap->Prop}{rs:List AV}{h:Heap}{r:AV}{hs:Heap}(L:List Nat)(hnd:jR L=true)(hlt:(L.all λi=>decide (i<h.length))=true)(hq:Q (r,hs))(hn:ctr.fresh=true->new2 h L (resV rs)/\∀ i∈L,newB (h.getD i .dead))
  (he:eqA2 (exp2 h L (resV rs)) r) (hb:eqH (expH h L) hs) (hl:hs.length=L.length):RetR ctr 0 Q rs h:=
 ⟨L,hnd,λi hi=>by have:=bG.1 hlt i hi; simpa using this,by simp,hn,r,hs,qO he,.inl hb,hl,hq⟩
theorem RetR.keep{ctr:Ctr}{m:Nat}{Q:AV×Heap->Prop}{rs:List AV}{h:Heap}{r:AV}{hs:Heap}(L:List Nat)(hnd:jR L=true)(hlt:(L.all λi=>decide (i<h.length))=true)(hj:∀ j,j<m->L[j]?=some j)(hf:ctr.fresh=false)(hq:Q (r,hs))
  (he:eqA2 (exp2 h L (resV rs)) r) (hb:eqH (expH h L) hs) (hl:hs.length=L.length):RetR ctr m Q rs h:=
 ⟨L,hnd,λi hi=>by have:=bG.1 hlt i hi; simpa using this,hj,(λhh=>absurd hh (by rw [hf]; decide)),r,hs,qO he,.inl hb,hl,hq⟩
end
end Go.Sx
end
section
set_option maxRecDepth 100000
open Go Go.Sx Go.Proofs Go.Nov
namespace Go.Proofs.Tryz
attribute [local simp] eqKV eqA eqA0 eqH eqB eqL eqL0
noncomputable def K59:=Go.Sx.aA f59
def exD(x:Ex):AV:=.agg [.int .u8 x.kind,.str x.rat,.str x.name,.i x.date,.sl x.sub.length 5 x.deep]
def zb6(n:Nat):Ctr:=ctrP false (λx:Ex=>[x.exA]) (λx=>x.size<n/\x.size<2^40) (λ_ (_:Unit)=>True) (λx _=>(exD x,[]))
theorem zlg{s:List Ex}{i:Nat} : eqG (i+1) 5 (appG i (Ex.exG s) (zg (zh 5 [.int .u8 (s.getD i Ex.nil).kind,.str (s.getD i Ex.nil).rat,.str (s.getD i Ex.nil).name,.i (s.getD i Ex.nil).date,.sl (s.getD i Ex.nil).sub.length 5 (s.getD i Ex.nil).deep]) 0)) (Ex.exG s):=by
 intro j o hj ho;simp only [appG,zg,zh];by_cases h:j<i
 ·rw [aP h]
 ·have:j=i:=by omega
  subst this;rw [aO h];have e:j - j=0:=by omega
  match o,ho with
  | 0,_=>simp [e,Ex.exG,Ex.cell]
  | 1,_=>simp [e,Ex.exG,Ex.cell]
  | 2,_=>simp [e,Ex.exG,Ex.cell]
  | 3,_=>simp [e,Ex.exG,Ex.cell]
  | 4,_=>simp [e,Ex.exG,Ex.cell]
def STw(s:List Ex)(i:Nat):KV:=[(1,.ptr 0 0),(2,.ptr 1 0),(3,.osl 2 5 0 i),(7,Ex.exS s),(8,.i (s.length:Int)),(9,.i (i:Int))]
def HTw(x:Ex)(i:Nat):Heap:=[.box [.int .u8 x.kind,.str x.rat,.str x.name,.i x.date,Ex.exS x.sub],.box [.int .u8 0,.str [],.str [],.i 0,.nils],.arr i 5 (Ex.exG x.sub)]
def RTw(x:Ex):List AV:=[.agg [.int .u8 x.kind,.str x.rat,.str x.name,.i x.date,.osl 2 5 0 x.sub.length]]
def HTw2(x:Ex):Heap:=[.box [.int .u8 x.kind,.str x.rat,.str x.name,.i x.date,.osl 2 5 0 x.sub.length],.box [.int .u8 x.kind,.str x.rat,.str x.name,.i x.date,.osl 2 5 0 x.sub.length],.arr x.sub.length 5 (Ex.exG x.sub)]
theorem zmx(n:Nat)(ih:zd prog 59 (zb6 n)){O:Nat->Prop}{w0:World}{C:Ctr}{Q:AV×Heap->Prop}(x:Ex)(h1:x.size<n+1)(h2:x.size<2^40)(hR:RetR C 0 Q (RTw x) (HTw2 x)) :
  zb prog f59 O 0 w0 [] (λ_ _ _=>False) (RetR C 0 Q) K59 (entry f59 [x.exA]):=by
 rw [Ex.size_eq] at h1 h2;have hlen:=Ex.qp x.sub;refine zb.n (vF ih) [1,2,3,7,8,9] (.leaf (.loop (lps K59 0).1 (lps K59 0).2 [(1,.ptr 0 0),(2,.ptr 1 0),(3,.nils),(7,.sl x.sub.length 5 (Ex.exG x.sub)),(8,.i x.sub.length),(9,.i 0)] [.box [.int .u8 x.kind,.str x.rat,.str x.name,.i x.date,.sl x.sub.length 5 (Ex.exG x.sub)],.box [.int .u8 0,.str #[].toList,.str #[].toList,.i 0,.nils]])) ?_;simp only [Tree.holds,ze,inR,lo,hi,aD];refine zb.bear 3 5 (Ex.exG x.sub) rfl (by decide) (by kernel_rfl) ?_;refine zb.loop (ι:={i:Nat // i<=x.sub.length}) (λi=>STw x.sub i.1) (λi=>HTw x i.1) (λi=>x.sub.length - i.1) ⟨0,aI _⟩ 0 ?_ ?_ (by kernel_rfl)
 ·exact⟨by simp [STw,yv,Ex.exS,za],by simp [HTw,Ex.exS,za],by kernel_rfl,aI _⟩
 ·rintro⟨i,hil⟩;refine zb.n (vF ih) [1,2,3,7,8,9] (let v4:=Ex.exG x.sub;let v2:List AV:=[.int .u8 x.kind,.str x.rat,.str x.name,.i x.date,.osl 2 5 0 i];let v1:=List.getD x.sub (i:Int).toNat Ex.nil;.D ((i:Int)<x.sub.length) (.side ((0:Int)<=i/\(i:Int)<x.sub.length) (.ex (λ(x_1:Ex)=>eqL [.agg [.int .u8 (Ex.kind v1),.str (Ex.rat v1),.str (Ex.name v1),.i (Ex.date v1),.sl (List.length (Ex.sub v1)) 5 (Ex.deep v1)]] [.agg [.int .u8 x_1.kind,.str x_1.rat,.str x_1.name,.i x_1.date,.sl x_1.sub.length 5 (Ex.exG x_1.sub)]]/\Ex.size x_1<n/\Ex.size x_1<1099511627776) λn=>let v3:=zh 5 [.int .u8 n.kind,.str n.rat,.str n.name,.i n.date,.sl n.sub.length 5 n.deep];.A λn_1=>.side (0=0/\i<=i/\(i+1)*72<=140737488355328) (.S (i+1) (.leaf (.back 0 [(1,.ptr 0 0),(2,.ptr 1 0),(3,.osl 2 5 0 (i+1)),(7,.sl x.sub.length 5 v4),(8,.i x.sub.length),(9,.i (i+1))] [.box [.int .u8 x.kind,.str x.rat,.str x.name,.i x.date,.sl x.sub.length 5 v4],.box [.int .u8 0,.str [],.str [],.i 0,.nils],.arr (i+1) 5 (appG i v4 (zg v3 0)),.box [.int .u8 (Ex.kind v1),.str (Ex.rat v1),.str (Ex.name v1),.i (Ex.date v1),.sl (List.length (Ex.sub v1)) 5 (Ex.deep v1)],.arr 1 5 v3]))))) (.R [.agg v2] [.box v2,.box v2,.arr i 5 v4])) ?_;simp only [Tree.holds,ze,inR,lo,hi,aD];refine⟨λhlt=> ?_,λhge=> ?_⟩
  ·have hlt:i<x.sub.length:=by have:=aB hlt; omega
   have hg:=Ex.zO hlt;refine⟨by omega,λ_=>⟨x.sub.getD i Ex.nil,⟨xm rfl rfl rfl rfl rfl (Ex.zZ _),by omega,by omega⟩,⟨(),trivial⟩,?_⟩⟩;intro _ _;refine⟨⟨trivial,aJ _,by omega⟩,λ_=>⟨by omega,λ_=> ?_⟩⟩;rw [aP trivial];refine⟨⟨i+1,hlt⟩,by show x.sub.length - (i+1)<x.sub.length - i; omega,by simp [STw,Ex.exS,za],?_,by kernel_rfl,aI _⟩;exact⟨⟨⟨rfl,rfl⟩,rfl,rfl,⟨rfl,rfl⟩,⟨rfl,rfl,za _ _ _⟩,trivial⟩,⟨⟨rfl,rfl⟩,rfl,rfl,⟨rfl,rfl⟩,by simp,trivial⟩,⟨rfl,rfl,zlg⟩,trivial⟩
  ·have hge:i=x.sub.length:=by have:=aC hge; omega
   subst hge;exact hR
theorem zk3{C:Ctr}{Q:AV×Heap->Prop}{x:Ex}{h:Heap}{b:Nat}(hC:C.fresh=false)(hb:h[b]?=some (.arr x.sub.length 5 (Ex.exG x.sub)))(hq:Q (exD x,[])):RetR C 0 Q [.agg [.int .u8 x.kind,.str x.rat,.str x.name,.i x.date,.osl b 5 0 x.sub.length]] h:=by
 refine RetR.out0 hq (λh=>by rw [hC] at h; cases h) ?_;simp only [resV,exp2,exp1,List.map_cons,List.map_nil,exp0,ren0,zE,frz1,jW,hb,eqA2,eqA,eqL0,eqA0,exD,true_and,and_true];simp only [if_true];refine⟨trivial,trivial,λj o hj ho=> ?_⟩;have:=Ex.zZ x j o hj ho;simpa [zg] using this.symm
theorem zhe(n:Nat)(ih:zd prog 59 (zb6 n)):zd prog 59 (zb6 (n+1)):=by
 refine zf' f59 λx hx O w0 Q hq=> ?_
 exact zmx n ih x hx.1 hx.2 (zk3 rfl rfl (hq () trivial))
theorem ziw:zd prog 59 (ctrP false (λx:Ex=>[x.exA]) (λx=>x.size<2^40) (λ_ (_:Unit)=>True) (λx _=>(exD x,[]))):=qY Ex.size zhe
def zhw:Ctr:=ctrP false (λx:Ex=>[x.exA]) (λx=>x.size<2^40) (λ_ (_:Unit)=>True) (λx _=>(exD x,[]))
noncomputable def K61:=Go.Sx.aA f61
def zcc:Ctr:=ctrP true (λx:Ex=>[x.exA]) (λ_=>True) (λx r=>r=qS x) (λ_ (r:Bool)=>(.bool r,[]))
theorem X5:zd prog 95 zcc:=by
 refine zf' f95 λx hx O w0 Q hq=> ?_
 replace hq:=hq _ rfl;obtain⟨k,r,m,d,s⟩:=x;refine zb.n zC [] (let v1:=Ex.mk k r m d s;.R [.bool (bif bif bif bif decide (Ex.kind v1=(0:Int)) then decide (Ex.rat v1=#[].toList) else false then decide (Ex.name v1=#[].toList) else false then decide (Ex.date v1=(0:Int)) else false then decide ((↑(List.length (Ex.sub v1)):Int)=0) else false)] [.box [.int .u8 (Ex.kind v1),.str (Ex.rat v1),.str (Ex.name v1),.i (Ex.date v1),.sl (List.length (Ex.sub v1)) 5 (Ex.exG (Ex.sub v1))]]) ?_;simp only [Tree.holds,ze];refine RetR.scal hq rfl ?_;refine congrArg AV.bool ?_;rw [Bool.eq_iff_iff];simp [qS,Ex.kind,Ex.rat,Ex.name,Ex.date,Ex.sub,and_assoc]
def zbo:Ctr:=ctrT false false (λc:Con=>[c.conA]) (λ_=>[]) (λ_=>True) (λ_ (_:Unit)=>True) (λc _=>(.fn 98 [] [.ptr 0 0],[.box (Con.qJ c.kind c.src c.dst c.name c.x c.date c.days c.sub)]))
theorem Ye:zd prog 63 zbo:=by
 refine zK (fn:=f63) (c:=f63.body.getD .skip) rfl rfl rfl (λh=>by cases h) λc hp O w0 I0 Q hl hq=> ?_
 have h0:I0=[]:=aU.1 (by simpa using hl);subst h0;refine zb.n zC [0] (.R [.fn 98 [] [.ptr 0 0]] [.box (Con.zc c)]) ?_;simp only [Tree.holds,ze];refine RetR.out1 0 (by simp) (hq () trivial) (λh=>by cases h) (by simp [resV,exp2,exp1,exp0,zE,ren0,eqA2]) ?_;simp only [Con.qJ,expB,exp1,List.map_cons,List.map_nil,exp0,Ex.exS,Con.dayS,Con.conS];exact⟨⟨rfl,rfl⟩,rfl,rfl,rfl,⟨rfl,rfl⟩,rfl,rfl,⟨rfl,rfl⟩,⟨rfl,rfl,za _ _ _⟩,⟨rfl,rfl⟩,⟨rfl,rfl,za _ _ _⟩,⟨rfl,rfl,za _ _ _⟩,trivial⟩
noncomputable def GZ1:=tb X5 (tb ze9 (tb Ye tz))
def zj6:Ctr:=ctrP true (λc:Con=>[c.conA]) (λc=>c.big<2^40/\c.nodes<=1000000) (λc r=>r=c.size) (λ_ (r:Nat)=>(.i (r:Int),[]))
theorem zH(c:Con):eqA c.conA c.conA:=by
 simp only [Con.conA,Ex.exS,Con.dayS,Con.conS,eqA];exact⟨⟨rfl,rfl⟩,rfl,rfl,rfl,⟨rfl,rfl⟩,rfl,rfl,⟨rfl,rfl⟩,⟨rfl,rfl,za _ _ _⟩,⟨rfl,rfl⟩,⟨rfl,rfl,za _ _ _⟩,⟨rfl,rfl,za _ _ _⟩,trivial⟩
theorem yQ{own:Nat->Prop}{w:World}{σ:List SE} : ∀ {l:List AV} {vs:List Value},l.all xP=true->RepL own w l σ vs->RepL own w l [] vs
 | [],vs,_,h=>h
 | a::l,vs,hf,h=>by
  simp only [List.all_cons,bA] at hf;simp only [RepL] at h ⊢;obtain⟨v,r,rfl,h1,h2⟩:=h;exact⟨v,r,rfl,ZI hf.1 h1,yQ hf.2 h2⟩
theorem zsm{O:Nat->Prop}{pin:Nat}{w0 w:World}{I0 σ:List SE}{st:St}{a:Act}(hm:Mod O pin w0 I0 w σ st a):∀ b,Go.Sx.Own O σ b->b<w.heap.size:=by
 rintro b (hO | ⟨e,he,ad,h1,rfl⟩)
 ·exact hm.good.old b hO
 ·obtain⟨j,hj⟩:=List.getElem?_of_mem he;exact hm.hp.lt j e ad hj h1
theorem z8(c:Con):eqL c.zc c.zc:=by
 simp only [Con.zc,Con.qJ,Ex.exS,Con.dayS,Con.conS];exact⟨⟨rfl,rfl⟩,rfl,rfl,rfl,⟨rfl,rfl⟩,rfl,rfl,⟨rfl,rfl⟩,⟨rfl,rfl,za _ _ _⟩,⟨rfl,rfl⟩,⟨rfl,rfl,za _ _ _⟩,⟨rfl,rfl,za _ _ _⟩,trivial⟩
theorem j2(x:Ex):eqA x.exA x.exA:=by
 simp only [Ex.exA,Ex.exS,eqA];exact⟨⟨rfl,rfl⟩,rfl,rfl,⟨rfl,rfl⟩,⟨rfl,rfl,za _ _ _⟩,trivial⟩
theorem JL{O:Nat->Prop}{pin:Nat}{w0 w:World}{I0 σ:List SE}{st:St}{a:Act}(hm:Mod O pin w0 I0 w σ st a){i:Nat}{c:Con}(hb:st.heap[i]?=some (.box c.zc))(hn:c.nodes<=1000000){vb:List Value}(hv:RepL (Go.Sx.Own O σ) w [.ptr i 0] σ vb) :
  ∃ ev:Nat->Value,SeqStopsK Fence.wide 0 prog 98 vb.toArray (λx=> #[ev x]) (zT (Go.Sx.Own O σ)) (λxs=>xs=List.range c.all.length) (λpre=>pre <+: List.range c.all.length) c.all.length w/\∀ i,Rep (Go.Sx.Own O σ) w (c.all.getD i c).conA [] (ev i):=by
 simp only [RepL,Rep] at hv;obtain⟨v,r,rfl,⟨e,ad,he,had,rfl⟩,rfl⟩:=hv;obtain⟨ad',vs,el,g1,g2,g3,g4⟩:=hm.hp.blk i e _ he hb;rw [had] at g1; cases g1
 have hr:Rep (Go.Sx.Own O σ) w c.conA [] (.agg vs.toArray):=by
  simp only [Con.conA];rw [Rep];exact⟨vs,rfl,yQ rfl g4⟩
 have:=Yr g3 hr hn (zsm hm);rw [g2];exact this
def HCs(c:Con)(m:Nat):Heap:=[.box c.zc,.box [.i (m:Int)],.box c.zc]
abbrev q26(A:List AV)(x:Ex):Prop:=eqL A [x.exA]/\Ex.size x<4611686018427387904
abbrev q25(A:List AV)(x:Ex):Prop:=eqL A [x.exA]/\True
theorem zn2:zd prog 61 zj6:=by
 refine zf' f61 λc hc O w0 Q hq=> ?_
 obtain⟨h1,h2⟩:=hc;replace hq:=hq _ rfl;refine zb.n GZ1.h [2,3,6,7] (.ex (λ(x:Con)=>eqL [(Con.conA c)] [(Con.conA x)]/\eqH [] []/\0=0/\True) λn=>.A λn_1=>.leaf (.range (Prod.fst (rfs K61 0)) (Prod.snd (rfs K61 0)) [(2,.i 0),(3,.ptr 1 0),(6,.fn 98 [] [.ptr 2 0]),Z 7] [.box (Con.zc c),.box [.i 0],.box (Con.zc n)])) ?_;simp only [Tree.holds,ze];refine⟨c,⟨⟨zH c,trivial⟩,trivial,trivial,trivial⟩,⟨(),trivial⟩,λ_ _=> ?_⟩
 refine zb.zkr (tg:=6) (tp:=7) (td:=4) (t:=38) (n:=12) (zs:=[.int .u8 0,.str [],.str [],.str [],.int .u8 0,.str [],.str [],.i 0,.nils,.i 0,.nils,.nils]) (cap:=[.ptr 2 0]) (gf:=98) (by kernel_rfl) (by kernel_rfl) (by kernel_rfl) rfl (enters_of Tryz.func98 (by kernel_rfl) rfl) (λi:Nat=>(c.all.getD i c).conA) (λi=>(c.all.getD i c).zc) (λi=>⟨rfl,rfl,rfl,rfl⟩) (λpre=>HCs c (pre.map λi=>(c.all.getD i c).wt).sum) (λ_=>[]) (λ_=>False) (λxs=>xs=List.range c.all.length) (λpre=>pre <+: List.range c.all.length) c.all.length 3
  (by kernel_rfl) (by decide +kernel) (by decide +kernel) (by decide +kernel) (by decide) ⟨by simp,⟨z8 c,⟨⟨rfl,rfl⟩,trivial⟩,z8 c,trivial⟩,by kernel_rfl,aI _⟩ (by kernel_rfl) (aI _) (λpre=>rfl) (λpre=>by simp [HCs,alive]) (λpre b hb=>by cases hb) ?_ ?_ ?_ (λ_ _ h=>h.elim)
 ·intro w σ a hm vb hvb;exact JL hm (i:=2) rfl h2 hvb
 ·intro l pre i hlen W E1
  have hwt:(c.all.getD i c).big<=c.big:=by
   by_cases hi:i<c.all.length
   ·exact Con.Jg c _ (by simp [List.getD,hi])
   ·simp [List.getD,hi]
  have hm:(pre.map λi=>(c.all.getD i c).wt).sum<=pre.length*2^40:=by
   have hall:∀ j,(c.all.getD j c).wt<=2^40:=λj=>by
    have h1':=Con.JG (c.all.getD j c).x
    have h2':(c.all.getD j c).big<=c.big:=by
     by_cases hi:j<c.all.length
     ·exact Con.Jg c _ (by simp [List.getD,hi])
     ·simp [List.getD,hi]
    rw [Con.xn] at h2';have:(c.all.getD j c).wt=1+vC (c.all.getD j c).x:=rfl;omega
   clear hlen
   induction pre with
   | nil=>simp
   | cons j pre ih=>
    have:=hall j;simp only [List.map_cons,List.sum_cons,aL];omega
  rw [List.map_append,List.sum_append];simp only [List.map_cons,List.map_nil,List.sum_cons,List.sum_nil,Nat.add_zero];rw [Con.XG] at hlen;have hml:(pre.map λi=>(c.all.getD i c).wt).sum<=1000000*2^40:=bP hm (aT _ (by omega));generalize (pre.map λi=>(c.all.getD i c).wt).sum=m at hml;generalize c.all.getD i c=e at hwt;rw [Con.xn e] at hwt;refine zb.n GZ1.h [3,6,7] (let v1:List (Nat×AV):=[(3,.ptr 1 0),(6,.fn 98 [] [.ptr 2 0]),(7,(Con.conA e))];.S (m+1) (.ex (q25 [(Ex.exA e.x)]) λn=>.all (λ(r:Bool)=>r=qS n) λn=>.ite (!n) (.ex (q26 [(Ex.exA e.x)]) λn=>.all (λ(r:Nat)=>r=Ex.size n) λn=>.S ((m:Int)+(1:Int)+n) (.leaf (.back 0 v1 [.box (Con.zc c),.box [.i ((m:Int)+(1:Int)+n)],.box (Con.zc c)]))) (.leaf (.back 0 v1 [.box (Con.zc c),.box [.i (m+1)],.box (Con.zc c)])))) ?_;simp only [q25,q26,Tree.holds,ze,inR,lo,hi,aD];have hsx:e.wt=1+vC e.x:=rfl;refine⟨by omega,λ_=>⟨e.x,⟨⟨j2 e.x,trivial⟩,trivial⟩,⟨_,rfl⟩,?_⟩⟩;rintro _ rfl;refine⟨λhb=>⟨e.x,⟨⟨j2 e.x,trivial⟩,by show e.x.size<_; omega⟩,⟨_,rfl⟩,?_⟩,λhb=> ?_⟩
  ·rintro _ rfl;refine⟨by omega,λ_=>⟨trivial,⟨z8 c,⟨⟨rfl,?_⟩,trivial⟩,z8 c,trivial⟩,by kernel_rfl,aJ _⟩⟩;have:vC e.x=e.x.size:=by unfold vC; rw [show qS e.x=false by simpa using hb]; rfl
   omega
  ·refine⟨trivial,⟨z8 c,⟨⟨rfl,?_⟩,trivial⟩,z8 c,trivial⟩,by kernel_rfl,aJ _⟩;have:vC e.x=0:=by unfold vC; rw [show qS e.x=true by simpa using hb]; rfl
   omega
 ·intro xs hxs;subst hxs
  have hsum:((List.range c.all.length).map λi=>(c.all.getD i c).wt).sum=c.size:=by
   rw [Con.WC];congr 1;apply List.ext_getElem (by simp);intro i h1 h2;simp at h1;simp [List.getD,h1]
  rw [hsum];generalize c.size=m at hq;refine zb.n GZ1.h [2,3,6,7] (.R [.i m] [.box (Con.zc c),.box [.i m],.box (Con.zc c)]) ?_;simp only [Tree.holds,ze];exact RetR.scal hq rfl rfl
end Go.Proofs.Tryz
end
section
namespace Go.Nov
def sumS(m:Bool)(x:Nat)(n:Bool)(y:Nat):Bool×Nat:=if m=n then(m,x+y) else if y<=x then(m,x - y) else(n,y - x)
def addI(s t:L8):L8×Int:=if z7 s t=0 then wr (sumS (negI s) (numI s) (negI t) (numI t)).1 (sumS (negI s) (numI s) (negI t) (numI t)).2 else([],z7 s t)
def subI(s t:L8):L8×Int:=if z7 s t=0 then wr (sumS (negI s) (numI s) (!negI t) (numI t)).1 (sumS (negI s) (numI s) (!negI t) (numI t)).2 else([],z7 s t)
def mulI(s t:L8):L8×Int:=if z7 s t=0 then wr (negI s != negI t) (numI s*numI t) else([],z7 s t)
def cmpZ(m:Bool)(x:Nat)(n:Bool)(y:Nat):Int:=if m=true/\n=false then -1 else if n=true/\m=false then 1 else if m=true then cmpN y x else cmpN x y
def K0(s t:L8):Int×Int:=if z7 s t=0 then(cmpZ (negI s) (numI s) (negI t) (numI t),0) else(0,z7 s t)
theorem QV{d:Nat}(h:d<10):(byt d).toNat=48+d:=by
 unfold byt;rw [UInt8.toNat_ofNat'];omega
theorem uV{x:Nat}(h:x≠0):txt x=((dec x).map byt).reverse:=aO h
theorem Jl{x:Nat}(h:x≠0):(txt x).length=(dec x).length:=by rw [uV h]; simp
theorem zei{x:Nat}(h:x≠0):allD (txt x):=by
 intro c hc;rw [uV h] at hc;simp only [List.mem_reverse,List.mem_map] at hc;obtain⟨d,hd,rfl⟩:=hc;have:d<10:=Ten.zi x d hd;rw [QV this];omega
theorem zru{x:Nat}(h:x≠0):dg (txt x)=dec x:=by
 rw [uV h,dg,List.map_reverse,List.reverse_reverse,List.map_map]
 conv=>rhs; rw [<- List.map_id (dec x)]
 refine List.map_congr_left λd hd=> ?_
 have:d<10:=Ten.zi x d hd;simp only [Function.comp,QV this,id];omega
theorem zpc{x:Nat}(h:x≠0):numD (txt x)=x:=by
 rw [<- zb5,zru h];exact Ten.zl x
theorem yR{x:Nat}(h:x≠0):(txt x).getD 0 0≠48/\(txt x).getD 0 0≠45:=by
 have hl:=XE h;have ht:=ze2 hl;have hlt:=dec_lt x ((dec x).length - 1)
 have e:(txt x).getD 0 0=byt ((dec x).getD ((dec x).length - 1) 0):=by
  rw [uV h];simp only [List.getD_eq_getElem?_getD];rw [List.getElem?_reverse (by simpa using hl)];simp [aF (show(dec x).length - 1<(dec x).length by omega)]
 rw [e];have hb:=QV hlt;constructor
 ·intro h2;rw [h2] at hb;have:(48:UInt8).toNat=48:=rfl;omega
 ·intro h2;rw [h2] at hb;have:(45:UInt8).toNat=45:=rfl;omega
theorem Xk{x:Nat}(h:x≠0):txt x≠[]:=by
 intro h2;have:=Jl h;rw [h2] at this;have:=XE h;simp at *; omega
theorem zft{x:Nat}(h:x≠0)(neg:Bool):parse (sgn neg (txt x))=(neg,txt x):=by
 cases neg with
 | true=>rfl
 | false=>
  simp only [sgn,Bool.false_eq_true,if_false];have h1:=(yR h).2;cases ht:txt x with
  | nil=>exact absurd ht (Xk h)
  | cons c b=>
   rw [ht] at h1;have:c≠45:=h1;simp [parse,this]
theorem zkw{x:Nat}(h:x≠0)(neg:Bool):w7 neg (txt x)=true:=by
 have h1:=(yR h).1
 have h2:txt x≠[48]:=by
  intro h2;rw [h2] at h1;exact h1 rfl
 have h3:=Xk h;have h4:(txt x).all isD=true:=ze4.2 (zei h);simp only [List.getD_eq_getElem?_getD] at h1;simp [w7,h3,h2,h1,h4]
theorem QD{neg:Bool}{x:Nat}(h:(wr neg x).2=0):errI (wr neg x).1=0/\numI (wr neg x).1=x/\negI (wr neg x).1=(neg&&decide (x≠0)):=by
 unfold wr at h ⊢;by_cases h0:x=0
 ·subst h0;simp only [if_true];refine⟨rfl,rfl,?_⟩;simp [negI,parse]
 ·rw [aO h0] at h ⊢;by_cases h1:1000<(dec x).length
  ·rw [aP h1] at h; cases h
  ·rw [aO h1];simp only [errI,numI,negI,zft h0,zkw h0,if_true];rw [Jl h0,aO h1];exact⟨rfl,zpc h0,by simp [h0]⟩
theorem zbt(neg:Bool)(x:Nat):(wr neg x).2=0\/wr neg x=([],14):=by
 unfold wr;split
 ·exact .inl rfl
 ·split
  ·exact .inr rfl
  ·exact .inl rfl
theorem zoz(neg:Bool)(b:L8):(sgn neg b).length<=b.length+1:=by
 unfold sgn; split<;>simp
theorem xA(neg:Bool)(x:Nat):(wr neg x).1.length<=1001:=by
 unfold wr;split
 ·simp
 ·rename_i h0;split
  ·simp
  ·rename_i h1;have:=zoz neg (txt x);rw [Jl h0] at this;simp only;omega
theorem zjy(s t:L8):(addI s t).1.length<=1001:=by
 unfold addI;split
 ·exact xA _ _
 ·simp
theorem zju(s t:L8):(subI s t).1.length<=1001:=by
 unfold subI;split
 ·exact xA _ _
 ·simp
theorem zn4(s t:L8):(mulI s t).1.length<=1001:=by
 unfold mulI;split
 ·exact xA _ _
 ·simp
theorem zcv(b:Bool)(x:Nat):wr (b&&decide (0<x)) x=wr b x:=by
 unfold wr;by_cases h:x=0
 ·rw [aP h,aP h]
 ·rw [aO h,aO h];have:decide (0<x)=true:=aX (bW h);rw [this,Bool.and_true]
theorem VN(m:Bool)(x:Nat)(n:Bool):sumS m x n 0=(m,x):=by
 unfold sumS;split
 ·rfl
 ·simp
theorem zfo(m:Bool)(x:Nat)(n:Bool)(y:Nat):sumS m x (n&&decide (0<y)) y=sumS m x n y:=by
 by_cases h:y=0
 ·subst h; rw [VN,VN]
 ·have:decide (0<y)=true:=aX (bW h);rw [this,Bool.and_true]
theorem zco(m:Bool)(x:Nat)(n:Bool)(y:Nat):(sumS m x n y).2<=x+y:=by
 unfold sumS;split
 ·exact aJ _
 ·split
  ·simp only; omega
  ·simp only; omega
end Go.Nov
end
section
namespace Go.Nov
def zdn(neg:Bool)(x y:Nat):L8:=
 if y/Nat.gcd x y=1 then(wr neg (x/Nat.gcd x y)).1 else(wr neg (x/Nat.gcd x y)).1++[47]++(wr false (y/Nat.gcd x y)).1
def wB(n d:L8):L8×Int:=if z7 n d≠0 then([],z7 n d) else if numI d=0 then([],16) else(zdn (negI n != negI d) (numI n) (numI d),0)
def wm(a b:L8):Int:=if errR a=0 then errR b else errR a
def numR(a:L8):L8:=(cutR a).1
def denR(a:L8):L8:=if(cutR a).2.2 then(cutR a).2.1 else [49]
def frac(z w:L8×Int):L8×Int:=if z.2≠0\/w.2≠0 then([],14) else wB z.1 w.1
def qo(a b:L8):Int:=if wm a b≠0 then wm a b else if(mulI (numR a) (denR b)).2≠0\/(mulI (numR b) (denR a)).2≠0 then 14 else 0
def addR(a b:L8):L8×Int:=if qo a b≠0 then([],qo a b) else frac (addI (mulI (numR a) (denR b)).1 (mulI (numR b) (denR a)).1) (mulI (denR a) (denR b))
def subR(a b:L8):L8×Int:=if qo a b≠0 then([],qo a b) else frac (subI (mulI (numR a) (denR b)).1 (mulI (numR b) (denR a)).1) (mulI (denR a) (denR b))
def mulR(a b:L8):L8×Int:=if wm a b≠0 then([],wm a b) else frac (mulI (numR a) (numR b)) (mulI (denR a) (denR b))
def cmpR(a b:L8):Int×Int:=if qo a b≠0 then(0,qo a b) else K0 (mulI (numR a) (denR b)).1 (mulI (numR b) (denR a)).1
end Go.Nov
namespace Go.Nov
def dmQ(s t:L8):Nat:=if negI s=true/\0<numI s%numI t then numI s/numI t+1 else numI s/numI t
def dmM(s t:L8):Nat:=if negI s=true/\0<numI s%numI t then numI t - numI s%numI t else numI s%numI t
def dmI(s t:L8):L8×L8×Int:=
 if z7 s t≠0 then([],[],z7 s t) else if numI t=0 then([],[],16) else((wr (negI s != negI t) (dmQ s t)).1,(wr false (dmM s t)).1,0)
theorem znu{s:L8}(h:errI s=0):∃ k,k<=1000/\numI s<10^k:=by
 obtain⟨_,h1,_,h2⟩:=JA h;exact⟨_,h2,Zj h1⟩
def room(x:Nat):Prop:=(dec x).length<=1000
theorem room_le{x y:Nat}(h:x<=y)(hy:room y):room x:=by
 rcases aR (dec y).length (dec x).length with h1 | h1
 ·have:=Ten.qh h1;omega
 ·exact bP h1 hy
theorem jJ{s:L8}(h:errI s=0):room (numI s):=by
 obtain⟨k,h1,h2⟩:=znu h;exact bP (Js h2) h1
theorem kN{neg:Bool}{x:Nat}(h:room x):(wr neg x).2=0:=by
 unfold wr;split
 ·rfl
 ·rw [aO (by have:(dec x).length<=1000:=h; omega)]
theorem zkb{s t:L8}(hs:errI s=0)(ht:numI t≠0):room (dmQ s t):=by
 have h:=jJ hs;unfold dmQ;split
 ·rename_i hc;by_cases h1:numI t=1
  ·rw [h1,Nat.mod_one] at hc; omega
  ·refine room_le ?_ h;have h2:numI s/numI t<=numI s/2:=Nat.div_le_div_left (by omega) (by omega);have h3:numI s≠0:=λh0=>by rw [h0,Nat.zero_mod] at hc; omega
   by_cases h4:numI s=1
   ·have:numI s/numI t=0:=Nat.div_eq_of_lt (by omega);omega
   ·omega
 ·exact room_le (Nat.div_le_self _ _) h
theorem zml{s t:L8}(ht:errI t=0)(h0:numI t≠0):room (dmM s t):=by
 have h:=jJ ht;have hm:=Nat.mod_lt (numI s) (bW h0);unfold dmM;split
 ·exact room_le (Nat.sub_le _ _) h
 ·exact room_le (by omega) h
end Go.Nov
namespace Go.Nov
theorem xo:wr false 1=([49],0):=by
 have h:dec 1=[1]:=by
  show Ten.canon 1=[1];rw [Ten.jl (by decide)];exact congrArg (1 :: ·) Ten.zR
 simp [wr,h,txt,sgn,byt]
theorem zbh{x:Nat}(h:room x):(wr false x).1=[49]↔x=1:=by
 constructor
 ·intro e;have:=(QD (kN (neg:=false) h)).2.1;rw [e] at this;exact this.symm
 ·rintro rfl;rw [xo]
theorem zkg{x:Nat}(h0:x≠0)(h:room x):[45]++(wr false x).1=(wr true x).1:=by
 unfold wr;rw [aO h0,aO h0,aO (by have:(dec x).length<=1000:=h; omega),aO (by have:(dec x).length<=1000:=h; omega)];rfl
theorem Zg{t:L8}(h:errI t=0):t=[48]↔numI t=0:=by
 constructor
 ·rintro rfl; rfl
 ·intro h0;obtain⟨neg,b,h1,h2,h3,h4,h5,h6⟩:=X9 h;have hb:numD b=0:=by simpa [numI,h2] using h0
  cases b with
  | nil=>exact absurd rfl h5
  | cons c r=>
   have hc:=h4 c (by simp)
   have e:numD (c::r)=(c.toNat - 48)*10^r.length+numD r:=by
    have:=kF [c] r;simp only [List.singleton_append] at this;rw [this];simp [numD]
   rw [e] at hb
   have hc0:c.toNat=48:=by
    rcases bC (c.toNat - 48) with h7 | h7
    ·omega
    ·have:=Nat.mul_pos h7 (Nat.pow_pos (n:=r.length) (show 0<10 by decide));omega
   have hc1:c=48:=UInt8.toNat_inj.1 (by rw [hc0]; rfl);subst hc1
   have hr:r=[]:=by
    cases r with
    | nil=>rfl
    | cons d r=>
     have:=x9 (neg:=neg) (b:=48::d::r) rfl (by simp);rw [this] at h3; cases h3
   subst hr;cases neg with
   | true=>cases h3
   | false=>simpa [sgn] using h1
theorem YN{s:L8}{b:Bool}{g:Nat}(hs:errI s=0)(h0:g≠0)(hg:room g)(hd:g ∣ numI s):dmI s (wr b g).1=((wr (negI s != b) (numI s/g)).1,[48],0):=by
 obtain⟨h1,h2,h3⟩:=QD (kN (neg:=b) hg);have hb:negI (wr b g).1=b:=by rw [h3]; simp [h0]
 have he:z7 s (wr b g).1=0:=zo.2 ⟨hs,h1⟩;have hm:numI s%g=0:=Nat.mod_eq_zero_of_dvd hd;unfold dmI;rw [aO (by rw [he]; decide),h2,aO h0,hb]
 have hq:dmQ s (wr b g).1=numI s/g:=by
  unfold dmQ;rw [h2,hm,aO (by omega)]
 have hr:dmM s (wr b g).1=0:=by
  unfold dmM;rw [h2,hm,aO (by omega)]
 rw [hq,hr];rfl
theorem Ut{s t:L8}(ht:errI t=0)(h0:numI t≠0):Nat.gcd (numI s) (numI t)≠0/\room (Nat.gcd (numI s) (numI t)):=by
 have hp:=bW h0;refine⟨λh=> ?_,room_le (Nat.le_of_dvd hp (Nat.gcd_dvd_right _ _)) (jJ ht)⟩;have:=Nat.eq_zero_of_gcd_eq_zero_right h;exact h0 this
end Go.Nov
namespace Go.Nov
theorem zjm:errI [49]=0:=rfl
theorem qN{a:L8}(h:errR a=0):errI (numR a)=0/\errI (denR a)=0/\negI (denR a)=false/\numI (denR a)≠0:=by
 unfold errR at h;unfold numR denR;cases hc:(cutR a).2.2 with
 | true=>
  rw [hc] at h;simp only [if_true] at h ⊢;split at h
  ·cases h
  ·rename_i h1;simp only [not_or] at h1;split at h
   ·cases h
   ·rename_i h2;simp only [not_or,Classical.not_not] at h2;refine⟨h2.1,h2.2,by simpa using h1.2.2.1,λh0=> ?_⟩;exact h1.2.2.2.1 ((Zg h2.2).2 h0)
 | false=>
  rw [hc] at h;simp only [Bool.false_eq_true,if_false] at h ⊢
  have:(cutR a).1=a:=by
   unfold cutR at hc ⊢;split at hc
   ·cases hc
   ·rename_i hn; rw [aO hn]
  rw [this];exact⟨h,zjm,rfl,by decide⟩
theorem YV(a:L8):(numR a).length<=a.length:=(XA a).1
theorem YS(a:L8):(denR a).length<=a.length+1:=by
 unfold denR;split
 ·exact bP (XA a).2 (Nat.le_succ _)
 ·simp
theorem kB{s t:L8}(h:z7 s t=0):(mulI s t).2=0/\errI (mulI s t).1=0\/mulI s t=([],14):=by
 unfold mulI;rw [aP h];exact(zbt _ _).imp (λh=>⟨h,(QD h).1⟩) id
theorem zie{s t:L8}(h:z7 s t=0):(addI s t).2=0/\errI (addI s t).1=0\/addI s t=([],14):=by
 unfold addI;rw [aP h];exact(zbt _ _).imp (λh=>⟨h,(QD h).1⟩) id
theorem zns{s t:L8}(h:z7 s t=0):(subI s t).2=0/\errI (subI s t).1=0\/subI s t=([],14):=by
 unfold subI;rw [aP h];exact(zbt _ _).imp (λh=>⟨h,(QD h).1⟩) id
end Go.Nov
namespace Go.Nov
def stp(e:Int)(f:L8->L8->L8×Int)(x y:L8):L8×Int:=if e≠0 then([],e) else f x y
theorem zpy{e:Int}{f:L8->L8->L8×Int}{x y:L8}(h:(f x y).1.length<=1001):(stp e f x y).1.length<=1001:=by
 unfold stp;split
 ·simp
 ·exact h
theorem qx{e:Int}(h:e≠0)(f:L8->L8->L8×Int)(x y:L8):stp e f x y=([],e):=aP h
theorem wV(f:L8->L8->L8×Int)(x y:L8):stp 0 f x y=f x y:=aO (by simp)
def W9(f:L8->L8->L8×Int)(a b:L8):L8×Int:=
 if qo a b≠0 then([],qo a b) else frac (f (mulI (numR a) (denR b)).1 (mulI (numR b) (denR a)).1) (mulI (denR a) (denR b))
section
variable {a b n m d c:L8} {e:Int} (hp:(e≠0/\wm a b=e)\/(e=0/\errR a=0/\errR b=0/\n=numR a/\m=numR b/\d=denR a/\c=denR b))
include hp
theorem QI{f:L8->L8->L8×Int}(hf:∀ {s t:L8},z7 s t=0->(f s t).2=0/\errI (f s t).1=0\/f s t=([],14)){r1 r2 r3 r4 r5:L8×Int}
  (h1:r1=stp e mulI n c) (h2:r2=stp r1.2 mulI m d) (h3:r3=stp r2.2 f r1.1 r2.1) (h4:r4=stp r3.2 mulI d c) (h5:r5=stp r4.2 wB r3.1 r4.1):r5=W9 f a b:=by
 rcases hp with ⟨he,h2e⟩ | ⟨rfl,ha,hb,rfl,rfl,rfl,rfl⟩
 ·have hc:qo a b=e:=by unfold qo; rw [aP (by rw [h2e]; exact he)]; exact h2e
  unfold W9;rw [hc,aP he];rw [qx he] at h1;subst h1;rw [qx he] at h2;subst h2;rw [qx he] at h3;subst h3;rw [qx he] at h4;subst h4;rw [h5,qx he]
 ·obtain⟨a1,a2,_⟩:=qN ha;obtain⟨b1,b2,_⟩:=qN hb;have he2:wm a b=0:=by unfold wm; rw [aP ha]; exact hb
  have e14:(14:Int)≠0:=by decide
  rw [wV] at h1;have hc:qo a b=if(mulI (numR a) (denR b)).2≠0\/(mulI (numR b) (denR a)).2≠0 then 14 else 0:=by unfold qo; rw [aO (by rw [he2]; simp)]
  rcases kB (zo.2 ⟨a1,b2⟩) with ⟨g1,k1⟩ | g1
  ·rw [<- h1] at g1 k1;rw [g1,wV] at h2;rcases kB (zo.2 ⟨b1,a2⟩) with ⟨g2,k2⟩ | g2
   ·rw [<- h2] at g2 k2;rw [g2,wV] at h3;have hc0:qo a b=0:=by rw [hc,aO]; rw [<- h1,<- h2,g1,g2]; simp
    unfold W9;rw [hc0,aO (by simp),<- h1,<- h2,<- h3];rcases hf (zo.2 ⟨k1,k2⟩) with ⟨g3,k3⟩ | g3
    ·rw [<- h3] at g3 k3;rw [g3,wV] at h4;unfold frac;rw [<- h4,h5];rcases kB (zo.2 ⟨a2,b2⟩) with ⟨g4,k4⟩ | g4
     ·rw [<- h4] at g4;rw [g3,g4,aO (by simp),wV]
     ·rw [<- h4] at g4;rw [g4,aP (by simp),qx e14]
    ·rw [<- h3] at g3;have q4:r4=([],14):=by rw [h4,g3]; exact qx e14 _ _ _
     unfold frac;rw [aP (by rw [g3]; simp),h5,q4,qx e14]
   ·rw [<- h2] at g2;have hc0:qo a b=14:=by rw [hc,aP]; rw [<- h2,g2]; simp
    unfold W9;rw [hc0,aP e14];have q3:r3=([],14):=by rw [h3,g2]; exact qx e14 _ _ _
    have q4:r4=([],14):=by rw [h4,q3]; exact qx e14 _ _ _
    rw [h5,q4,qx e14]
  ·rw [<- h1] at g1;have hc0:qo a b=14:=by rw [hc,aP]; rw [<- h1,g1]; simp
   unfold W9;rw [hc0,aP e14];have q2:r2=([],14):=by rw [h2,g1]; exact qx e14 _ _ _
   have q3:r3=([],14):=by rw [h3,q2]; exact qx e14 _ _ _
   have q4:r4=([],14):=by rw [h4,q3]; exact qx e14 _ _ _
   rw [h5,q4,qx e14]
theorem zh9{x y z w:L8}{r1 r2 r3:L8×Int}(h1:r1=stp e mulI x y)(h2:r2=stp r1.2 mulI z w)(h3:r3=stp r2.2 wB r1.1 r2.1)
  (hv:errR a=0->errR b=0->z7 x y=0/\z7 z w=0):r3=if wm a b≠0 then([],wm a b) else frac (mulI x y) (mulI z w):=by
 rcases hp with ⟨he,h2e⟩ | ⟨rfl,ha,hb,_⟩
 ·rw [h2e,aP he];rw [qx he] at h1;subst h1;rw [qx he] at h2;subst h2;rw [h3,qx he]
 ·obtain⟨v1,v2⟩:=hv ha hb;have he2:wm a b=0:=by unfold wm; rw [aP ha]; exact hb
  have e14:(14:Int)≠0:=by decide
  rw [he2,aO (by simp)];rw [wV] at h1;unfold frac;rcases kB v1 with ⟨g1,_⟩ | g1
  ·rw [<- h1] at g1 ⊢;rw [g1,wV] at h2;rcases kB v2 with ⟨g2,_⟩ | g2
   ·rw [<- h2] at g2 ⊢;rw [g1,g2,aO (by simp),h3,g2,wV]
   ·rw [<- h2] at g2 ⊢;rw [g2,aP (by simp),h3,g2,qx e14]
  ·rw [<- h1] at g1 ⊢;have q2:r2=([],14):=by rw [h2,g1]; exact qx e14 _ _ _
   rw [g1,aP (by simp),h3,q2,qx e14]
theorem zgc{r1 r2:L8×Int}(h1:r1=stp e mulI n c)(h2:r2=stp r1.2 mulI m d):(if r2.2≠0 then(0,r2.2) else K0 r1.1 r2.1)=cmpR a b:=by
 unfold cmpR;rcases hp with ⟨he,h2e⟩ | ⟨rfl,ha,hb,rfl,rfl,rfl,rfl⟩
 ·have hc:qo a b=e:=by unfold qo; rw [aP (by rw [h2e]; exact he)]; exact h2e
  rw [qx he] at h1;subst h1;rw [qx he] at h2;subst h2;rw [hc,aP he,aP he]
 ·obtain⟨a1,a2,_⟩:=qN ha;obtain⟨b1,b2,_⟩:=qN hb;have he2:wm a b=0:=by unfold wm; rw [aP ha]; exact hb
  have e14:(14:Int)≠0:=by decide
  have hc:qo a b=if(mulI (numR a) (denR b)).2≠0\/(mulI (numR b) (denR a)).2≠0 then 14 else 0:=by unfold qo; rw [aO (by rw [he2]; simp)]
  rw [wV] at h1;rcases kB (zo.2 ⟨a1,b2⟩) with ⟨g1,k1⟩ | g1
  ·rw [<- h1] at g1;rw [g1,wV] at h2;rcases kB (zo.2 ⟨b1,a2⟩) with ⟨g2,k2⟩ | g2
   ·rw [<- h2] at g2;have hc0:qo a b=0:=by rw [hc,aO]; rw [<- h1,<- h2,g1,g2]; simp
    rw [hc0,aO (by rw [g2]; simp),aO (by simp),<- h1,<- h2]
   ·rw [<- h2] at g2;have hc0:qo a b=14:=by rw [hc,aP]; rw [<- h2,g2]; simp
    rw [hc0,g2,aP e14,aP e14]
  ·rw [<- h1] at g1;have hc0:qo a b=14:=by rw [hc,aP]; rw [<- h1,g1]; simp
   have q2:r2=([],14):=by rw [h2,g1]; exact qx e14 _ _ _
   rw [hc0,q2,aP e14,aP e14]
end
end Go.Nov
end
section
namespace Go.Nov
open Go.Sx
theorem zj4:∀ s:L8,Op.bytesLess s s=false
 | []=>rfl
 | a::s=>by simp [Op.bytesLess,zj4 s]
theorem yI{s t:L8} : cmpS s t=0↔s=t:=by
 unfold cmpS;cases hb:Op.bytesLess s t with
 | true=>
  simp only [if_true];refine⟨λh=>by omega,λh=> ?_⟩;subst h; rw [zj4] at hb; cases hb
 | false=>by_cases h:s=t<;>simp [h]
theorem zdi{x y:Int} : cmpI x y=0↔x=y:=by
 unfold cmpI;split
 ·exact⟨λh=>by omega,λh=>by omega⟩
 ·split
  ·exact⟨λh=>by omega,λh=>by omega⟩
  ·exact⟨λ_=>by omega,λ_=>rfl⟩
theorem znx{a b:Fx} : cmpF a b=0↔a.name=b.name/\a.date=b.date:=by
 unfold cmpF;by_cases h:cmpS a.name b.name=0
 ·rw [aP h,zdi]; exact⟨λh2=>⟨yI.1 h,h2⟩,λh2=>h2.2⟩
 ·rw [aO h]; exact⟨λh2=>absurd h2 h,λh2=>absurd (yI.2 h2.1) h⟩
theorem zp5{a b:Ch} : cmpC a b=0↔a.zM=b.zM/\a.name=b.name/\a.date=b.date:=by
 unfold cmpC;by_cases h:cmpS a.zM b.zM=0
 ·rw [aP h];have h1:=yI.1 h;by_cases h':cmpS a.name b.name=0
  ·rw [aP h',zdi]; exact⟨λh2=>⟨h1,yI.1 h',h2⟩,λh2=>h2.2.2⟩
  ·rw [aO h']; exact⟨λh2=>absurd h2 h',λh2=>absurd (yI.2 h2.2.1) h'⟩
 ·rw [aO h]; exact⟨λh2=>absurd h2 h,λh2=>absurd (yI.2 h2.1) h⟩
structure OrdK{α:Type}(c:α->α->Int):Prop where
 lt:∀ a b d,c a b<0->c b d<0->c a d<0
 eq:∀ a b d,c a b<0->c b d=0->c a d<0
section
variable {α:Type} {c:α->α->Int} {z x:α}
end
theorem zsj{α:Type}{p:α->Bool}{z:α}{l:List α}(h:∀ j,j<l.length->p (l.getD j z)=true):l.all p=true:=by
 rw [bG];intro x hx;obtain⟨j,hj,rfl⟩:=List.getElem_of_mem hx;have:=h j hj;simpa [List.getD,hj] using this
theorem zou{α:Type}{p:α->Bool}{z:α}{l:List α}{j:Nat}(hj:j<l.length)(h:p (l.getD j z)=false):l.all p=false:=by
 rw [List.all_eq_false];exact⟨l[j],bK hj,by simpa [List.getD,hj] using h⟩
theorem zc3{f:List Fx}{c:List Ch} : errE f c=0↔¬ (1000<f.length\/1000<c.length)/\f.all okF=true/\c.all okC=true/\ordB cmpF Fx.nil f=true/\ordB cmpC Ch.nil c=true:=by
 unfold errE;by_cases hb:1000<f.length\/1000<c.length
 ·rw [aP hb]; simp [hb]
 ·rw [aO hb];by_cases h:(f.all okF&&c.all okC&&ordB cmpF Fx.nil f&&ordB cmpC Ch.nil c)=true
  ·rw [aP h];simp only [bA] at h;exact⟨λ_=>⟨hb,h.1.1.1,h.1.1.2,h.1.2,h.2⟩,λ_=>rfl⟩
  ·rw [aO h];refine⟨λh2=>by omega,λh2=>absurd ?_ h⟩;simp [h2.2.1,h2.2.2.1,h2.2.2.2.1,h2.2.2.2.2]
def vW(l:List Fx)(a:L8)(d:Int):L8×Bool:=match l.find? λx=>decide (x.name=a)&&decide (x.date=d) with
 | some x=>(x.value,true)
 | none=>([],false)
def qg(l:List Ch)(p n:L8)(d:Int):Bool:=match l.find? λx=>decide (x.zM=p)&&(decide (x.name=n)&&decide (x.date=d)) with
 | some x=>x.first
 | none=>false
theorem zq6{α:Type}{p:α->Bool}{l:List α}{z:α}{i:Nat}(hi:i<l.length)(h:p (l.getD i z)=true)(hb:∀ j,j<i->p (l.getD j z)=false):l.find? p=some (l.getD i z):=by
 induction l generalizing i with
 | nil=>simp at hi
 | cons a l ih=>
  cases i with
  | zero=>simp only [List.getD_cons_zero] at h ⊢; simp [h]
  | succ i=>
   have h0:=hb 0 (by omega);simp only [List.getD_cons_zero,List.getD_cons_succ] at h h0 ⊢;rw [List.find?_cons,h0];exact ih (by simpa using hi) h λj hj=>by have:=hb (j+1) (by omega); simpa using this
end Go.Nov
end
section
namespace Go.Nov
theorem zs7{b:L8}(h:allD b)(hn:b≠[])(hz:b.getD 0 0≠48):numD b≠0/\txt (numD b)=b:=by
 have hd:=zs0 h;have hl:0<b.length:=List.length_pos_iff.2 hn
 have htl:Ten.tlen (dg b)=(dg b).length:=by
  rcases aR (Ten.tlen (dg b)) (dg b).length with h1 | h1
  ·exfalso;have h2:=Ten.jS (dg b) ((dg b).length - 1) (by omega);rw [zbm] at h2
   have e:(dg b).getD (b.length - 1) 0=(b.getD 0 0).toNat - 48:=by
    simp only [dg,List.getD_eq_getElem?_getD];rw [List.getElem?_reverse (by simp; omega)];simp [aF hl,show b.length - 1 - (b.length - 1)=0 by omega]
   rw [e] at h2
   have h3:48<=(b.getD 0 0).toNat:=by
    cases b with
    | nil=>exact absurd rfl hn
    | cons c r=>exact(h c (by simp)).1
   apply hz;apply UInt8.toNat_inj.1;show _=48;omega
  ·exact Nat.le_antisymm (Ten.qy _) h1
 have hc:dec (numD b)=dg b:=by
  rw [<- zb5];exact Ten.Ks hd htl
 have h0:numD b≠0:=by
  intro h0;rw [h0] at hc;have:dg b=[]:=by rw [<- hc]; exact Ten.zR
  have:=congrArg List.length this;rw [zbm,List.length_nil] at this;omega
 refine⟨h0,?_⟩;rw [uV h0,hc,dg,<- List.map_reverse,List.reverse_reverse,List.map_map]
 conv=>rhs; rw [<- List.map_id b]
 refine List.map_congr_left λc hcm=> ?_
 obtain⟨h1,h2⟩:=h c hcm;apply UInt8.toNat_inj.1;simp only [Function.comp,id];rw [QV (by omega)];omega
theorem zcb{s:L8}(h:errI s=0):wr (negI s) (numI s)=(s,0):=by
 obtain⟨neg,b,h1,h2,h3,h4,h5,h6⟩:=X9 h;have e1:negI s=neg:=by simp [negI,h2]
 have e2:numI s=numD b:=by simp [numI,h2]
 rw [e1,e2];by_cases hz:b.getD 0 0=48
 ·have hb:b=[48]:=by
   cases b with
   | nil=>exact absurd rfl h5
   | cons c r=>
    cases r with
    | nil=>have:c=48:=hz; rw [this]
    | cons d r=>rw [x9 hz (by simp)] at h3; cases h3
  subst hb;cases neg with
  | true=>cases h3
  | false=>rw [h1]; rfl
 ·obtain⟨g1,g2⟩:=zs7 h4 h5 hz;unfold wr;rw [aO g1,g2,aO,h1];have:=Jl g1;rw [g2] at this;omega
def zI(s:L8):Int:=if negI s then -(numI s:Int) else numI s
theorem wO(s:L8):(zI s).natAbs=numI s:=by unfold zI; split<;>simp
theorem XZ{s:L8}(h:errI s=0):negI s=decide (zI s<0):=by
 unfold zI;cases hn:negI s with
 | false=>simp
 | true=>
  simp only [if_true]
  have:numI s≠0:=by
   intro h0;have:=(Zg h).2 h0;rw [this] at hn;cases hn
  exact(aX (by omega)).symm
def wz(z:Int):L8×Int:=wr (decide (z<0)) z.natAbs
theorem XB{s:L8}(h:errI s=0):wz (zI s)=(s,0):=by
 unfold wz;rw [wO,<- XZ h,zcb h]
theorem zty{neg:Bool}{x:Nat}(h:(wr neg x).2=0):zI (wr neg x).1=if neg then -(x:Int) else x:=by
 obtain⟨h1,h2,h3⟩:=QD h;unfold zI;rw [h2,h3];by_cases h0:x=0
 ·subst h0; simp
 ·cases neg<;>simp [h0]
theorem yZ{z:Int}(h:(wz z).2=0):zI (wz z).1=z:=by
 unfold wz at h ⊢;rw [zty h];by_cases hz:z<0
 ·rw [aX hz]; simp only [if_true]; omega
 ·rw [aW hz]; simp only [Bool.false_eq_true,if_false]; omega
theorem Q6{z:Int}(h:(wz z).2=0):errI (wz z).1=0:=(QD h).1
theorem Ud{neg:Bool}{x:Nat} : wr neg x=wz (if neg then -(x:Int) else x):=by
 unfold wz;by_cases h0:x=0
 ·subst h0;cases neg<;>rfl
 ·cases neg with
  | false=>simp only [Bool.false_eq_true,if_false,Int.natAbs_natCast]; rw [aW (by omega)]
  | true=>simp only [if_true,Int.natAbs_neg,Int.natAbs_natCast]; rw [aX (by omega)]
theorem zjx(m:Bool)(x:Nat)(n:Bool)(y:Nat):(if(sumS m x n y).1 then -((sumS m x n y).2:Int) else(sumS m x n y).2)=(if m then -(x:Int) else x)+(if n then -(y:Int) else y):=by
 unfold sumS;by_cases h:m=n
 ·subst h;rw [aP rfl];cases m<;>simp<;>omega
 ·rw [aO h];by_cases h2:y<=x
  ·rw [aP h2];cases m<;>cases n<;>first | exact absurd rfl h | (simp; omega)
  ·rw [aO h2];cases m<;>cases n<;>first | exact absurd rfl h | (simp; omega)
theorem ztl{s t:L8}(h:z7 s t=0):addI s t=wz (zI s+zI t):=by
 unfold addI;rw [aP h,Ud,zjx]; rfl
theorem zti{s t:L8}(h:z7 s t=0):subI s t=wz (zI s - zI t):=by
 unfold subI;rw [aP h,Ud,zjx];congr 1;unfold zI;cases negI s<;>cases negI t<;>simp<;>omega
theorem Qb{s t:L8}(h:z7 s t=0):mulI s t=wz (zI s*zI t):=by
 unfold mulI;rw [aP h,Ud];congr 1;unfold zI;cases negI s<;>cases negI t<;>simp [Int.neg_mul,Int.mul_neg]
def qv(a:L8):Rat:=Rat.divInt (zI (numR a)) (zI (denR a))
def qstr(r:Rat):L8:=if r.den=1 then(wz r.num).1 else(wz r.num).1++[47]++(wz r.den).1
def kK(r:Rat):Prop:=room r.num.natAbs/\room r.den
theorem zm4(neg:Bool)(x:Nat):∀ c∈(wr neg x).1,c≠47:=by
 intro c hc h;subst h;unfold wr at hc;split at hc
 ·simp at hc
 ·rename_i h0;split at hc
  ·simp at hc
  ·have ht:¬ (47:UInt8)∈txt x:=λhm=>by
    have:=(zei h0 _ hm).1;have e:(47:UInt8).toNat=47:=rfl;omega
   cases neg<;>simp [sgn] at hc<;>exact ht hc
theorem zl1{u v:L8}(h:∀ c∈u,c≠47):cutR (u++[47]++v)=(u,v,true):=by
 have hs:zP (u++[47]++v)=u.length:=by
  refine zig (by simp) (by simp [List.getD]) λj hj=> ?_
  rw [List.append_assoc];simp only [List.getD,bL hj,aF hj,Option.getD_some];exact h _ (bK hj)
 rw [zc9 (by rw [hs]; simp),hs];simp
theorem zg7{u:L8}(h:∀ c∈u,c≠47):cutR u=(u,[],false):=by
 have hs:zP u=u.length:=zb3 λj hj=>by
  simp only [List.getD,aF hj,Option.getD_some];exact h _ (bK hj)
 exact zi2 (by omega)
theorem Us(z:Int):∀ c∈(wz z).1,c≠47:=zm4 _ _
theorem yB{z:Int}(h:room z.natAbs):(wz z).2=0:=kN h
theorem zt4:wz 1=([49],0):=xo
theorem uw{r:Rat}(h:kK r):numR (qstr r)=(wz r.num).1/\denR (qstr r)=(wz (r.den:Int)).1/\(cutR (qstr r)).2.2=decide (r.den≠1):=by
 unfold qstr;by_cases h1:r.den=1
 ·rw [aP h1];have:=zg7 (Us r.num);unfold numR denR;rw [this,h1];exact⟨rfl,by simp only [Bool.false_eq_true,if_false]; exact(congrArg Prod.fst zt4).symm,by simp⟩
 ·rw [aO h1];have:=zl1 (v:=(wz (r.den:Int)).1) (Us r.num);unfold numR denR;rw [this];exact⟨rfl,rfl,by simp [h1]⟩
theorem Ja{r:Rat}(h:kK r):qv (qstr r)=r:=by
 obtain⟨h1,h2,_⟩:=uw h;unfold qv;rw [h1,h2,yZ (yB h.1),yZ (yB (by rw [Int.natAbs_natCast]; exact h.2)),Rat.divInt_ofNat,Rat.mkRat_self]
theorem yK{r:Rat}(h:kK r):errR (qstr r)=0:=by
 obtain⟨h1,h2,h3⟩:=uw h;have e1:=Q6 (yB h.1);have e2:errI (wz (r.den:Int)).1=0:=Q6 (yB (by rw [Int.natAbs_natCast]; exact h.2));have z1:=yZ (yB h.1);have z2:zI (wz (r.den:Int)).1=r.den:=yZ (yB (by rw [Int.natAbs_natCast]; exact h.2));unfold errR;by_cases hd:r.den=1
 ·rw [h3,hd];simp only [ne_eq,not_true_eq_false,decide_false,Bool.false_eq_true,if_false];unfold qstr;rw [aP hd];exact e1
 ·have hc:(cutR (qstr r)).2.2=true:=by rw [h3]; simp [hd]
  have n1:(cutR (qstr r)).1=(wz r.num).1:=h1;have n2:(cutR (qstr r)).2.1=(wz (r.den:Int)).1:=by unfold denR at h2; rw [hc] at h2; exact h2
  rw [hc,aP rfl,n1,n2];have hp:=r.den_pos;have hneg:negI (wz (r.den:Int)).1=false:=by rw [XZ e2,z2]; exact aW (by omega)
  have hn48:(wz (r.den:Int)).1≠[48]:=λh=>by
   rw [h] at z2;have:zI [48]=0:=rfl;omega
  have hn49:(wz (r.den:Int)).1≠[49]:=λh=>by
   rw [h] at z2;have:zI [49]=1:=rfl;omega
  rw [aO (by simp [e1,e2,hneg,hn48,hn49]),aO (by simp [e1,e2])]
  have hg:gcdR (wz r.num).1 (wz (r.den:Int)).1=wr false (Nat.gcd r.num.natAbs r.den):=by
   unfold gcdR;rw [aP (zo.2 ⟨e1,e2⟩),<- wO,<- wO,z1,z2,Int.natAbs_natCast]
  have hr:Nat.gcd r.num.natAbs r.den=1:=r.reduced;rw [hg,hr,xo,aO (by simp)]
theorem Vh{a:L8}(h:errR a=0):(qv a).num=zI (numR a)/\((qv a).den:Int)=zI (denR a)/\qstr (qv a)=a/\kK (qv a):=by
 obtain⟨e1,e2,e3,e4⟩:=qN h;have hz:zI (denR a)=numI (denR a):=by unfold zI; rw [e3]; rfl
 have hcop:Nat.gcd (numI (numR a)) (numI (denR a))=1:=by
  unfold errR at h;cases hc:(cutR a).2.2 with
  | true=>
   rw [hc,aP rfl] at h;have hd:denR a=(cutR a).2.1:=by unfold denR; rw [hc]; rfl
   rw [hd] at e2 e4 ⊢;unfold numR at e1 ⊢;split at h
   ·cases h
   split at h
   ·cases h
   split at h
   ·cases h
   ·rename_i hg;rw [Classical.not_not] at hg;unfold gcdR at hg;rw [aP (zo.2 ⟨e1,e2⟩)] at hg;exact(zbh (Ut e2 e4).2).1 hg
  | false=>
   have:denR a=[49]:=by unfold denR; rw [hc]; rfl
   rw [this];exact Nat.gcd_one_right _
 have hq:qv a=⟨zI (numR a),numI (denR a),e4,by rw [wO]; exact hcop⟩:=by
  unfold qv;rw [hz,Rat.mk_eq_divInt]
 have hroom:kK (qv a):=by
  rw [hq];exact⟨by show room (zI (numR a)).natAbs; rw [wO]; exact jJ e1,jJ e2⟩
 refine⟨by rw [hq],by rw [hq,hz],?_,hroom⟩;rw [hq];unfold qstr;simp only;rw [<- hz,XB e1,XB e2];cases hc:(cutR a).2.2 with
 | true=>
  have hd:denR a=(cutR a).2.1:=by unfold denR; rw [hc]; rfl
  have hn1:numI (denR a)≠1:=by
   intro h1
   have:denR a=[49]:=by
    have:=(zcb e2);rw [e3,h1,xo] at this;exact(congrArg Prod.fst this).symm
   unfold errR at h;rw [hc,aP rfl,aP (by rw [<- hd,this]; simp)] at h;cases h
  rw [aO hn1,hd];simp only [numR];unfold cutR at hc ⊢;split at hc
  ·rename_i hs;rw [aP hs];simp only;have h47:=JX hs
   have:a=a.take (zP a)++([a.getD (zP a) 0]++a.drop (zP a+1)):=by
    conv=>lhs; rw [<- bU (zP a) a]
    congr 1;rw [List.drop_eq_getElem_cons hs];simp [List.getD,aF hs]
   rw [h47] at this;rw [List.append_assoc];exact this.symm
  ·cases hc
 | false=>
  have hd:denR a=[49]:=by unfold denR; rw [hc]; rfl
  rw [hd];have:numI [49]=1:=rfl;rw [aP this];unfold numR;unfold cutR at hc ⊢;split at hc
  ·cases hc
  ·rename_i hs;rw [aO hs]
theorem zqb(a b:Int)(hb:b≠0):b.sign*a=if(decide (a<0) != decide (b<0))=true then -(a.natAbs:Int) else a.natAbs:=by
 by_cases h1:a<0
 ·rw [aX h1];by_cases h2:b<0
  ·rw [aX h2,Int.sign_eq_neg_one_of_neg h2]; simp; omega
  ·rw [aW h2,Int.sign_eq_one_of_pos (by omega)]; simp; omega
 ·rw [aW h1];by_cases h2:b<0
  ·rw [aX h2,Int.sign_eq_neg_one_of_neg h2]; simp; omega
  ·rw [aW h2,Int.sign_eq_one_of_pos (by omega)]; simp; omega
theorem ztp{n d:L8}(hn:errI n=0)(hd:errI d=0)(h0:numI d≠0):wB n d=(qstr (Rat.divInt (zI n) (zI d)),0)/\kK (Rat.divInt (zI n) (zI d)):=by
 have hz0:zI d≠0:=λh=>h0 (by rw [<- wO,h]; rfl)
 have hg:(zI d).gcd (zI n)=Nat.gcd (numI n) (numI d):=by
  show Nat.gcd _ _=_;rw [wO,wO,Nat.gcd_comm]
 have hden:(Rat.divInt (zI n) (zI d)).den=numI d/Nat.gcd (numI n) (numI d):=by
  rw [Rat.den_divInt,aO hz0,hg,wO]
 have hdv:Nat.gcd (numI n) (numI d) ∣ numI n:=Nat.gcd_dvd_left _ _
 have hnum:(Rat.divInt (zI n) (zI d)).num=if(negI n != negI d)=true then -((numI n/Nat.gcd (numI n) (numI d):Nat):Int) else((numI n/Nat.gcd (numI n) (numI d):Nat):Int):=by
  rw [Rat.num_divInt,hg,zqb _ _ hz0,wO,<- XZ hn,<- XZ hd];split
  ·rw [Int.neg_ediv_of_dvd (Int.natCast_dvd_natCast.2 hdv),Int.natCast_ediv]
  ·rw [Int.natCast_ediv]
 have hroom:kK (Rat.divInt (zI n) (zI d)):=by
  refine⟨?_,by rw [hden]; exact room_le (Nat.div_le_self _ _) (jJ hd)⟩;rw [hnum];have:room (numI n/Nat.gcd (numI n) (numI d)):=room_le (Nat.div_le_self _ _) (jJ hn);split
  ·rw [Int.natAbs_neg,Int.natAbs_natCast]; exact this
  ·rw [Int.natAbs_natCast]; exact this
 refine⟨?_,hroom⟩;unfold wB;rw [aO (by rw [zo.2 ⟨hn,hd⟩]; simp),aO h0];congr 1;unfold zdn qstr;rw [hden,hnum];have e2:(wr false (numI d/Nat.gcd (numI n) (numI d))).1=(wz ((numI d/Nat.gcd (numI n) (numI d):Nat):Int)).1:=by rw [Ud]; rfl
 rw [Ud,e2]
theorem zc4{n d:L8}{e f:Int}{z w:Int}(hw:w≠0)(hz:(n,e)=wz z)(hd:(d,f)=wz w):frac (n,e) (d,f)=([],14)\/(frac (n,e) (d,f)=(qstr (Rat.divInt z w),0)/\kK (Rat.divInt z w)):=by
 unfold frac;by_cases he:e=0
 ·by_cases hf:f=0
  ·subst he; subst hf;have h1:(wz z).2=0:=by rw [<- hz]
   have h2:(wz w).2=0:=by rw [<- hd]
   have n1:n=(wz z).1:=by rw [<- hz]
   have n2:d=(wz w).1:=by rw [<- hd]
   have z1:=yZ h1;have z2:=yZ h2;have e1:=Q6 h1;have e2:=Q6 h2;rw [<- n1] at z1 e1;rw [<- n2] at z2 e2;right;rw [aO (by simp)];have:=ztp e1 e2 (λh=>hw (by rw [<- z2]; have:=wO d; omega));rw [z1,z2] at this;exact this
  ·left; rw [aP (.inr hf)]
 ·left; rw [aP (.inl he)]
section
variable {a b:L8} (ha:errR a=0) (hb:errR b=0)
include ha hb
theorem ze6:errI (numR a)=0/\errI (denR a)=0/\errI (numR b)=0/\errI (denR b)=0/\zI (denR a)≠0/\zI (denR b)≠0/\wm a b=0:=by
 obtain⟨a1,a2,_,a4⟩:=qN ha;obtain⟨b1,b2,_,b4⟩:=qN hb;exact⟨a1,a2,b1,b2,λh=>a4 (by rw [<- wO,h]; rfl),λh=>b4 (by rw [<- wO,h]; rfl),by unfold wm; rw [aP ha]; exact hb⟩
theorem zd0:qo a b=14\/(qo a b=0/\mulI (numR a) (denR b)=wz (zI (numR a)*zI (denR b))/\mulI (numR b) (denR a)=wz (zI (numR b)*zI (denR a))/\(mulI (numR a) (denR b)).2=0/\(mulI (numR b) (denR a)).2=0):=by
 obtain⟨a1,a2,b1,b2,a4,b4,h2⟩:=ze6 ha hb;have m1:=Qb (zo.2 ⟨a1,b2⟩);have m2:=Qb (zo.2 ⟨b1,a2⟩);unfold qo;rw [aO (by rw [h2]; simp)];by_cases h:(mulI (numR a) (denR b)).2≠0\/(mulI (numR b) (denR a)).2≠0
 ·left; rw [aP h]
 ·right;rw [aO h];simp only [not_or,Classical.not_not] at h;exact⟨rfl,m1,m2,h.1,h.2⟩
theorem ztv:addR a b=([],14)\/(addR a b=(qstr (qv a+qv b),0)/\kK (qv a+qv b)):=by
 obtain⟨a1,a2,b1,b2,a4,b4,h2⟩:=ze6 ha hb;unfold addR;rcases zd0 ha hb with h | ⟨h,m1,m2,k1,k2⟩
 ·left; rw [h]; rfl
 ·rw [h,aO (by simp)];rw [m1] at k1;rw [m2] at k2;have e1:=Q6 k1;have e2:=Q6 k2
  have:=zc4 (n:=(addI (mulI (numR a) (denR b)).1 (mulI (numR b) (denR a)).1).1) (e:=(addI (mulI (numR a) (denR b)).1 (mulI (numR b) (denR a)).1).2) (d:=(mulI (denR a) (denR b)).1) (f:=(mulI (denR a) (denR b)).2)
   (z:=zI (numR a)*zI (denR b)+zI (numR b)*zI (denR a)) (w:=zI (denR a)*zI (denR b)) (Int.mul_ne_zero a4 b4) (by rw [m1,m2,ztl (zo.2 ⟨e1,e2⟩),yZ k1,yZ k2]) (by rw [Qb (zo.2 ⟨a2,b2⟩)])
  unfold qv;rw [Rat.divInt_add_divInt _ _ a4 b4];exact this
theorem zs2:subR a b=([],14)\/(subR a b=(qstr (qv a - qv b),0)/\kK (qv a - qv b)):=by
 obtain⟨a1,a2,b1,b2,a4,b4,h2⟩:=ze6 ha hb;unfold subR;rcases zd0 ha hb with h | ⟨h,m1,m2,k1,k2⟩
 ·left; rw [h]; rfl
 ·rw [h,aO (by simp)];rw [m1] at k1;rw [m2] at k2;have e1:=Q6 k1;have e2:=Q6 k2
  have:=zc4 (n:=(subI (mulI (numR a) (denR b)).1 (mulI (numR b) (denR a)).1).1) (e:=(subI (mulI (numR a) (denR b)).1 (mulI (numR b) (denR a)).1).2) (d:=(mulI (denR a) (denR b)).1) (f:=(mulI (denR a) (denR b)).2)
   (z:=zI (numR a)*zI (denR b) - zI (numR b)*zI (denR a)) (w:=zI (denR a)*zI (denR b)) (Int.mul_ne_zero a4 b4) (by rw [m1,m2,zti (zo.2 ⟨e1,e2⟩),yZ k1,yZ k2]) (by rw [Qb (zo.2 ⟨a2,b2⟩)])
  unfold qv;rw [Rat.divInt_sub_divInt _ _ a4 b4];exact this
theorem zsw:mulR a b=([],14)\/(mulR a b=(qstr (qv a*qv b),0)/\kK (qv a*qv b)):=by
 obtain⟨a1,a2,b1,b2,a4,b4,h2⟩:=ze6 ha hb;unfold mulR;rw [h2,aO (by simp)]
 have:=zc4 (n:=(mulI (numR a) (numR b)).1) (e:=(mulI (numR a) (numR b)).2) (d:=(mulI (denR a) (denR b)).1) (f:=(mulI (denR a) (denR b)).2)
  (z:=zI (numR a)*zI (numR b)) (w:=zI (denR a)*zI (denR b)) (Int.mul_ne_zero a4 b4) (by rw [Qb (zo.2 ⟨a1,b1⟩)]) (by rw [Qb (zo.2 ⟨a2,b2⟩)])
 unfold qv;rw [Rat.divInt_mul_divInt];exact this
end
theorem zoh{a b:L8}(ha:errR a=0)(hb:errR b=0)(h:(addR a b).2=0):errR (addR a b).1=0/\qv (addR a b).1=qv a+qv b:=by
 rcases ztv ha hb with h1 | ⟨h1,h2⟩
 ·rw [h1] at h; cases h
 ·rw [h1]; exact⟨yK h2,Ja h2⟩
theorem zpx{a b:L8}(ha:errR a=0)(hb:errR b=0)(h:(subR a b).2=0):errR (subR a b).1=0/\qv (subR a b).1=qv a - qv b:=by
 rcases zs2 ha hb with h1 | ⟨h1,h2⟩
 ·rw [h1] at h; cases h
 ·rw [h1]; exact⟨yK h2,Ja h2⟩
theorem XH{a b:L8}(ha:errR a=0)(hb:errR b=0)(h:(mulR a b).2=0):errR (mulR a b).1=0/\qv (mulR a b).1=qv a*qv b:=by
 rcases zsw ha hb with h1 | ⟨h1,h2⟩
 ·rw [h1] at h; cases h
 ·rw [h1]; exact⟨yK h2,Ja h2⟩
end Go.Nov
end
section
namespace Go.Nov
open Go.Sx
structure Ev where
 v:L8
 e:Int
 b:Bool
 g:Int
abbrev Ev.nil:Ev:=⟨[],0,false,0⟩
def wA(k:Int)(a b:L8):L8×Int:=
 if k=7 then(if(cmpR a b).2≠0 then([],(cmpR a b).2) else(if(cmpR a b).1<0 then b else a,0))
 else(if(cmpR b a).2≠0 then([],(cmpR b a).2) else(if(cmpR b a).1<0 then b else a,0))
def opR(k:Int)(a b:L8):L8×Int:=if k=4 then addR a b else if k=5 then subR a b else if k=6 then mulR a b else wA k a b
def fixR(f:List Fx)(a:L8)(d:Int):L8×Int:=if(vW f a d).2=true then((vW f a d).1,0) else([],30)
def J2{α:Type}(z:α)(l0 l1:Ev)(f:L8->L8->α×Int):α×Int:=if l0.e≠0 then(z,l0.e) else if l1.e≠0 then(z,l1.e) else f l0.v l1.v
def valN(f:List Fx)(day k:Int)(r n:L8)(d:Int)(l:List Ev):L8×Int:=
 if k=1 then(r,0) else if k=2 then fixR f n d else if k=3 then fixR f n day
 else if k=9 then(if(l.getD 0 Ev.nil).g≠0 then([],(l.getD 0 Ev.nil).g) else if(l.getD 0 Ev.nil).b then((l.getD 1 Ev.nil).v,(l.getD 1 Ev.nil).e) else((l.getD 2 Ev.nil).v,(l.getD 2 Ev.nil).e))
 else J2 [] (l.getD 0 Ev.nil) (l.getD 1 Ev.nil) (opR k)
def Y2(k:Int)(a b:L8):Bool×Int:=if(cmpR a b).2≠0 then(false,(cmpR a b).2) else(if k=11 then decide ((cmpR a b).1<0) else decide ((cmpR a b).1=0),0)
def hldN(k:Int)(l:List Ev):Bool×Int:=
 if 13<=k then(if(l.getD 0 Ev.nil).g≠0 then(false,(l.getD 0 Ev.nil).g) else if k=15 then(!(l.getD 0 Ev.nil).b,0)
  else if(l.getD 0 Ev.nil).b=decide (k=14) then((l.getD 0 Ev.nil).b,0) else((l.getD 1 Ev.nil).b,(l.getD 1 Ev.nil).g))
 else J2 false (l.getD 0 Ev.nil) (l.getD 1 Ev.nil) (Y2 k)
def evN(f:List Fx)(day k:Int)(r n:L8)(d:Int)(l:List Ev):Ev:=⟨(valN f day k r n d l).1,(valN f day k r n d l).2,(hldN k l).1,(hldN k l).2⟩
namespace Ex
mutual
def ev(f:List Fx)(day:Int):Ex->Ev
 | mk k r n d s=>evN f day k r n d (evs f day s)
def evs(f:List Fx)(day:Int):List Ex->List Ev
 | []=>[]
 | x::l=>ev f day x::evs f day l
end
theorem jd{f:List Fx}{day:Int}{s:List Ex}{i:Nat}(h:i<s.length):(evs f day s).getD i Ev.nil=(s.getD i nil).ev f day:=by
 induction s generalizing i with
 | nil=>simp at h
 | cons x s ih=>
  rw [evs];cases i with
  | zero=>rfl
  | succ i=>exact ih (by simpa using h)
theorem VE{x:Ex}(h:x.zw=1):(x.kind=1/\errR x.rat=0)\/x.kind=2\/x.kind=3 \/
  ((4<=x.kind/\x.kind<=8)/\x.sub.length=2/\(x.sub.getD 0 nil).zw=1/\(x.sub.getD 1 nil).zw=1) \/
  (x.kind=9/\x.sub.length=3/\(x.sub.getD 0 nil).zw=2/\(x.sub.getD 1 nil).zw=1/\(x.sub.getD 2 nil).zw=1):=by
 rw [Wq] at h;by_cases hk:qL x.kind=true
 ·have hk2:(4<=x.kind/\x.kind<=9)\/(11<=x.kind/\x.kind<=15):=by
   by_cases h1:4<=x.kind/\x.kind<=9
   ·exact .inl h1
   ·by_cases h2:11<=x.kind/\x.kind<=15
    ·exact .inr h2
    ·rw [zc8 h1 h2] at hk; cases hk
  have two:∀ {k:Int} {ps:List Int} {w:Int},ub k=some (ps,w)->wE k x.rat x.name x.date (qb x.sub)=1->w=1/\x.sub.length=ps.length/\∀ i,i<x.sub.length->(x.sub.getD i nil).zw=ps.getD i 0:=by
   intro k ps w hs hn;rw [Kg hs] at hn;split at hn
   ·rename_i hc;exact⟨hn,Za.1 hc.2⟩
   ·cases hn
  generalize x.kind=k at h hk2 ⊢;have hk3:k=4\/k=5\/k=6\/k=7\/k=8\/k=9\/k=11\/k=12\/k=13\/k=14\/k=15:=by omega
  right; right; right;rcases hk3 with rfl | rfl | rfl | rfl | rfl | rfl | rfl | rfl | rfl | rfl | rfl
  iterate 5
   ·left;obtain⟨_,h2,h3⟩:=two rfl h;exact⟨by decide,h2,h3 0 (by rw [h2]; decide),h3 1 (by rw [h2]; decide)⟩
  ·right;obtain⟨_,h2,h3⟩:=two rfl h;exact⟨rfl,h2,h3 0 (by rw [h2]; decide),h3 1 (by rw [h2]; decide),h3 2 (by rw [h2]; decide)⟩
  all_goals
   obtain⟨h1,_⟩:=two rfl h;cases h1
 ·have hk:qL x.kind=false:=by simpa using hk
  rw [wG hk] at h;split at h
  ·rename_i hl;simp only [ji,bA] at hl;obtain⟨_,hl⟩:=hl;split at hl
   ·rename_i h1;simp only [bA,aK] at hl;exact .inl ⟨h1,hl.1.1⟩
   ·split at hl
    ·rename_i h2; exact .inr (.inl h2)
    ·split at hl
     ·rename_i h3; exact .inr (.inr (.inl h3))
     ·cases hl
  ·cases h
theorem Yv{x:Ex}(h:x.zw=2):((x.kind=11\/x.kind=12)/\x.sub.length=2/\(x.sub.getD 0 nil).zw=1/\(x.sub.getD 1 nil).zw=1) \/
  ((x.kind=13\/x.kind=14)/\x.sub.length=2/\(x.sub.getD 0 nil).zw=2/\(x.sub.getD 1 nil).zw=2)\/(x.kind=15/\x.sub.length=1/\(x.sub.getD 0 nil).zw=2):=by
 rw [Wq] at h;by_cases hk:qL x.kind=true
 ·have hk2:(4<=x.kind/\x.kind<=9)\/(11<=x.kind/\x.kind<=15):=by
   by_cases h1:4<=x.kind/\x.kind<=9
   ·exact .inl h1
   ·by_cases h2:11<=x.kind/\x.kind<=15
    ·exact .inr h2
    ·rw [zc8 h1 h2] at hk; cases hk
  have two:∀ {k:Int} {ps:List Int} {w:Int},ub k=some (ps,w)->wE k x.rat x.name x.date (qb x.sub)=2->w=2/\x.sub.length=ps.length/\∀ i,i<x.sub.length->(x.sub.getD i nil).zw=ps.getD i 0:=by
   intro k ps w hs hn;rw [Kg hs] at hn;split at hn
   ·rename_i hc;exact⟨hn,Za.1 hc.2⟩
   ·cases hn
  generalize x.kind=k at h hk2 ⊢;have hk3:k=4\/k=5\/k=6\/k=7\/k=8\/k=9\/k=11\/k=12\/k=13\/k=14\/k=15:=by omega
  rcases hk3 with rfl | rfl | rfl | rfl | rfl | rfl | rfl | rfl | rfl | rfl | rfl
  iterate 6
   ·obtain⟨h1,_⟩:=two rfl h;cases h1
  ·obtain⟨_,h2,h3⟩:=two rfl h;exact .inl ⟨.inl rfl,h2,h3 0 (by rw [h2]; decide),h3 1 (by rw [h2]; decide)⟩
  ·obtain⟨_,h2,h3⟩:=two rfl h;exact .inl ⟨.inr rfl,h2,h3 0 (by rw [h2]; decide),h3 1 (by rw [h2]; decide)⟩
  ·obtain⟨_,h2,h3⟩:=two rfl h;exact .inr (.inl ⟨.inl rfl,h2,h3 0 (by rw [h2]; decide),h3 1 (by rw [h2]; decide)⟩)
  ·obtain⟨_,h2,h3⟩:=two rfl h;exact .inr (.inl ⟨.inr rfl,h2,h3 0 (by rw [h2]; decide),h3 1 (by rw [h2]; decide)⟩)
  ·obtain⟨_,h2,h3⟩:=two rfl h;exact .inr (.inr ⟨rfl,h2,h3 0 (by rw [h2]; decide)⟩)
 ·have hk:qL x.kind=false:=by simpa using hk
  rw [wG hk] at h;split at h<;>cases h
end Ex
theorem zmt{f:List Fx}{a:L8}{d:Int}(h:(vW f a d).2=false):(vW f a d).1=[]:=by
 unfold vW at h ⊢;split
 ·rename_i y hy; rw [hy] at h; cases h
 ·rfl
theorem zed{f:List Fx}(hf:f.all okF=true){a:L8}{d:Int}(h:(fixR f a d).2=0):errR (fixR f a d).1=0:=by
 unfold fixR at h ⊢;split
 ·rename_i h1;unfold vW at h1 ⊢;split at h1
  ·rename_i y hy;have hm:=List.mem_of_find?_eq_some hy;have:=bG.1 hf _ hm;simp only [okF,bA,aK] at this;exact this.2
  ·cases h1
 ·rename_i h1;rw [aO h1] at h;cases h
theorem zk5{k:Int}{a b:L8}(ha:errR a=0)(hb:errR b=0)(h:(wA k a b).2=0):errR (wA k a b).1=0:=by
 unfold wA at h ⊢;split
 ·rename_i h1;rw [aP h1] at h;split
  ·rename_i h2; rw [aP h2] at h; exact absurd h h2
  ·simp only; split<;>assumption
 ·rename_i h1;rw [aO h1] at h;split
  ·rename_i h2; rw [aP h2] at h; exact absurd h h2
  ·simp only; split<;>assumption
theorem zth{k:Int}{a b:L8}(ha:errR a=0)(hb:errR b=0)(h:(opR k a b).2=0):errR (opR k a b).1=0:=by
 unfold opR at h ⊢;split
 ·rename_i h1; rw [aP h1] at h; exact(zoh ha hb h).1
 ·rename_i h1;rw [aO h1] at h;split
  ·rename_i h2; rw [aP h2] at h; exact(zpx ha hb h).1
  ·rename_i h2;rw [aO h2] at h;split
   ·rename_i h3; rw [aP h3] at h; exact(XH ha hb h).1
   ·rename_i h3;rw [aO h3] at h;exact zk5 ha hb h
theorem vn{a:L8}(h:errR a=0):a.length<=2003:=by
 have h1:=(Vh h).2.2.1;rw [<- h1];unfold qstr wz;have g1:=xA (decide ((qv a).num<0)) (qv a).num.natAbs;have g2:=xA (decide (((qv a).den:Int)<0)) ((qv a).den:Int).natAbs;split
 ·omega
 ·simp only [bO,aL,List.length_nil];omega
theorem Ex.Z5{f:List Fx}(hf:f.all okF=true)(day:Int):∀ x:Ex,x.zw=1->(x.ev f day).e=0->errR (x.ev f day).v=0
 | .mk k r n d s,hs,he=>by
  have hc:=Ex.VE hs;simp only [Ex.kind,Ex.rat,Ex.sub] at hc;rw [Ex.ev] at he ⊢;simp only [evN] at he ⊢;unfold valN at he ⊢;rcases hc with ⟨rfl,h1⟩ | rfl | rfl | ⟨⟨h1,h2⟩,h3,h4,h5⟩ | ⟨rfl,h3,h4,h5,h6⟩
  ·simpa using h1
  ·simp only [show ¬ (2:Int)=1 by decide,if_false,if_true] at he ⊢;exact zed hf he
  ·simp only [show ¬ (3:Int)=1 by decide,show ¬ (3:Int)=2 by decide,if_false,if_true] at he ⊢;exact zed hf he
  ·rw [aO (by omega),aO (by omega),aO (by omega),aO (by omega)] at he ⊢;rw [Ex.jd (by omega),Ex.jd (by omega)] at he ⊢;unfold J2 at he ⊢;have w0:s.getD 0 Ex.nil∈s:=by simp [List.getD,aF (show 0<s.length by omega)]
   have w1:s.getD 1 Ex.nil∈s:=by simp [List.getD,aF (show 1<s.length by omega)]
   split
   ·rename_i g; rw [aP g] at he; exact absurd he g
   ·rename_i g;rw [aO g] at he;split
    ·rename_i g2; rw [aP g2] at he; exact absurd he g2
    ·rename_i g2;rw [aO g2] at he;rw [Classical.not_not] at g g2;exact zth (Ex.Z5 hf day _ h4 g) (Ex.Z5 hf day _ h5 g2) he
  ·simp only [show ¬ (9:Int)=1 by decide,show ¬ (9:Int)=2 by decide,show ¬ (9:Int)=3 by decide,if_false,if_true] at he ⊢;rw [Ex.jd (by omega),Ex.jd (by omega),Ex.jd (by omega)] at he ⊢;have w1:s.getD 1 Ex.nil∈s:=by simp [List.getD,aF (show 1<s.length by omega)]
   have w2:s.getD 2 Ex.nil∈s:=by simp [List.getD,aF (show 2<s.length by omega)]
   split
   ·rename_i g; rw [aP g] at he; exact absurd he g
   ·rename_i g;rw [aO g] at he;split
    ·rename_i g2; rw [aP g2] at he; exact Ex.Z5 hf day _ h5 he
    ·rename_i g2; rw [aO g2] at he; exact Ex.Z5 hf day _ h6 he
termination_by x=>x.size
decreasing_by
 all_goals
  rw [Ex.size];have a0:=Ex.zO (s:=s) (i:=0);have a1:=Ex.zO (s:=s) (i:=1);have a2:=Ex.zO (s:=s) (i:=2)
  first
  | (have:=a0 (by omega); omega)
  | (have:=a1 (by omega); omega)
  | (have:=a2 (by omega); omega)
end Go.Nov
end
section
namespace Go.Nov
def askE(x:Ex)(want day:Int)(f:List Fx)(c:List Ch):Int:=if x.errX≠0 then x.errX else if x.zw≠want then 32 else if errE f c≠0 then errE f c else if dayB day then 0 else 2
def jP(x:Ex)(day:Int)(f:List Fx)(c:List Ch):L8×Int:=if askE x 1 day f c≠0 then([],askE x 1 day f c) else if(x.ev f day).e≠0 then([],(x.ev f day).e) else((x.ev f day).v,0)
def xW(x:Ex)(day:Int)(f:List Fx)(c:List Ch):Bool×Int:=if askE x 2 day f c≠0 then(false,askE x 2 day f c) else if(x.ev f day).g≠0 then(false,(x.ev f day).g) else((x.ev f day).b,0)
theorem zuc{x:Ex}{want day:Int}{f:List Fx}{c:List Ch}(h:x.errX≠0):askE x want day f c=x.errX:=by unfold askE; rw [aP h]
theorem zui{x:Ex}{want day:Int}{f:List Fx}{c:List Ch}(h:x.errX=0)(h2:¬ x.zw=want):askE x want day f c=32:=by unfold askE; rw [aO (by rw [h]; simp),aP h2]
theorem zr4{x:Ex}{want day:Int}{f:List Fx}{c:List Ch}(h:x.errX=0)(h2:x.zw=want):askE x want day f c=if errE f c=0 then(if dayB day=true then 0 else 2) else errE f c:=by
 unfold askE;rw [aO (by rw [h]; simp),aO (by rw [h2]; simp)];by_cases g:errE f c=0
 ·rw [aP g,aO (by rw [g]; simp)]
 ·rw [aO g,aP g]
theorem WO{x:Ex}{want day:Int}{f:List Fx}{c:List Ch}(h:askE x want day f c=0):x.errX=0/\x.zw=want/\errE f c=0/\dayB day=true:=by
 unfold askE at h;split at h
 ·rename_i g; exact absurd h g
 ·rename_i g1;split at h
  ·cases h
  ·rename_i g2;split at h
   ·rename_i g; exact absurd h g
   ·rename_i g3;split at h
    ·rename_i g4;exact⟨Classical.not_not.1 g1,Classical.not_not.1 g2,Classical.not_not.1 g3,g4⟩
    ·cases h
end Go.Nov
end
section
namespace Go.Nov
open Go.Sx
structure Fl where
 date:Int
 src:L8
 dst:L8
 ccy:L8
 amt:L8
def Fl.nil:Fl:=⟨0,[],[],[],[]⟩
def Fl.cell(f:Fl):Nat->AV
 | 0=>.i f.date
 | 1=>.str f.src
 | 2=>.str f.dst
 | 3=>.str f.ccy
 | 4=>.str f.amt
 | _=>.undef
def flG(l:List Fl):Nat->Nat->AV:=λj=>(l.getD j Fl.nil).cell
def flS(l:List Fl):AV:=.sl l.length 5 (flG l)
def Fl.av(f:Fl):AV:=.agg [.i f.date,.str f.src,.str f.dst,.str f.ccy,.str f.amt]
def payF(d:Int)(a b n r:L8):List Fl:=if r=[48] then [] else if r.getD 0 0=45 then [⟨d,b,a,n,r.drop 1⟩] else [⟨d,a,b,n,r⟩]
def firstM(is:Int->Except Int Bool)(day fin:Int):List Int->Except Int Int
 | []=>.ok fin
 | d::l=>if fin<=d then .ok fin else if day<=d then(match is d with
  | .error e=>.error e
  | .ok true=>.ok d
  | .ok false=>firstM is day fin l) else firstM is day fin l
def qj(k:L8):List Fl->Except Int (List Fl)
 | []=>.ok []
 | f::l=>if(mulR f.amt k).2≠0 then .error (mulR f.amt k).2 else match qj k l with
  | .error e=>.error e
  | .ok m=>.ok (payF f.date f.src f.dst f.ccy (mulR f.amt k).1++m)
def valM(x:Ex)(d:Int)(f:List Fx)(c:List Ch):Except Int (L8):=if(jP x d f c).2=0 then .ok (jP x d f c).1 else .error (jP x d f c).2
def holM(x:Ex)(d:Int)(f:List Fx)(c:List Ch):Except Int Bool:=if(xW x d f c).2=0 then .ok (xW x d f c).1 else .error (xW x d f c).2
def andM{α β:Type}(x:Except Int α)(k:α->Except Int β):Except Int β:=match x with
 | .error e=>.error e
 | .ok a=>k a
mutual
def flM(f:List Fx)(c:List Ch):Con->Int->Int->Except Int (List Fl)
 | .mk k a b n x d l s=>λday fin=>
  if fin<=day then .ok []
  else if k=2 then andM (valM x day f c) λr=>.ok (payF day a b n r)
  else if k=3 then andM ((flMs f c s).getD 0 (λ_ _=>.ok []) day fin) λu=>andM ((flMs f c s).getD 1 (λ_ _=>.ok []) day fin) λv=>.ok (u++v)
  else if k=4 then andM (valM x day f c) λr=>andM ((flMs f c s).getD 0 (λ_ _=>.ok []) day fin) λu=>qj r u
  else if k=5 then andM (holM x day f c) λt=>(flMs f c s).getD (if t=true then 0 else 1) (λ_ _=>.ok []) day fin
  else if k=6 then(if day<=d then(flMs f c s).getD 0 (λ_ _=>.ok []) d fin else .ok [])
  else if k=7 then(flMs f c s).getD (if qg c a n day=true then 0 else 1) (λ_ _=>.ok []) day fin
  else if k=8 then andM (firstM (λt=>.ok (qg c a n t)) day fin l) λt=>(flMs f c s).getD 0 (λ_ _=>.ok []) t fin
  else if k=9 then andM (firstM (λt=>holM x t f c) day fin l) λt=>(flMs f c s).getD 0 (λ_ _=>.ok []) day t
  else if k=10 then andM (firstM (λt=>holM x t f c) day fin l) λt=>(flMs f c s).getD 0 (λ_ _=>.ok []) t fin
  else .ok []
def flMs(f:List Fx)(c:List Ch):List Con->List (Int->Int->Except Int (List Fl))
 | []=>[]
 | e::s=>flM f c e::flMs f c s
end
theorem Yf(f:List Fx)(c:List Ch):∀ (s:List Con) (i:Nat),i<s.length->(flMs f c s).getD i (λ_ _=>.ok [])=flM f c (s.getD i Con.nil)
 | [],_,h=>by simp at h
 | e::s,0,_=>by rw [flMs]; rfl
 | e::s,i+1,h=>by rw [flMs,List.getD_cons_succ,List.getD_cons_succ]; exact Yf f c s i (by simpa using h)
def insF(x:Fl):List Fl->List Fl
 | []=>[x]
 | y::l=>if y.date<=x.date then y::insF x l else x::y::l
def ordM(l:List Fl):List Fl:=l.foldl (λm x=>insF x m) []
def befM(c:Con)(day fin:Int)(f:List Fx)(h:List Ch):List Fl×Int:=
 if c.errC≠0 then([],c.errC) else if errE f h≠0 then([],errE f h) else if day<0\/99999<day\/fin<0\/100000<fin then([],2) else match flM f h c day fin with
  | .error e=>([],e)
  | .ok l=>(ordM l,0)
def yi(c:Con)(day:Int)(f:List Fx)(h:List Ch):List Fl×Int:=befM c day 100000 f h
def jk(l:List Fl):Prop:=l.Pairwise λx y=>x.date<=y.date
def onF(d:Int)(l:List Fl):List Fl:=l.filter λy=>decide (y.date=d)
theorem qi(d:Int)(x:Fl)(l:List Fl):onF d (x::l)=if x.date=d then x::onF d l else onF d l:=by
 unfold onF; rw [List.filter_cons]; by_cases h:x.date=d<;>simp [h]
theorem zcw(d:Int)(l m:List Fl):onF d (l++m)=onF d l++onF d m:=by unfold onF; rw [List.filter_append]
theorem UF{d:Int}{l:List Fl}(h:∀ y∈l,d<y.date):onF d l=[]:=by
 unfold onF;rw [List.filter_eq_nil_iff];intro y hy;have:=h y hy;simp; omega
theorem Qk:∀ {l m:List Fl},jk l->jk m->(∀ d,onF d l=onF d m)->l=m
 | [],[],_,_,_=>rfl
 | [],y::m,_,_,h=>by have:=h y.date; rw [qi,aP rfl] at this; cases this
 | x::l,[],_,_,h=>by have:=h x.date; rw [qi,aP rfl] at this; cases this
 | x::l,y::m,hl,hm,h=>by
  unfold jk at hl hm;rw [List.pairwise_cons] at hl hm;have mem:∀ {z:Fl} {n:List Fl},z∈onF z.date n->z∈n:=λhz=>(List.mem_filter.1 hz).1
  have h1:y.date<=x.date:=by
   have:x∈onF x.date (y::m):=by rw [<- h,qi,aP rfl]; simp
   rcases aM.1 (mem this) with e | e
   ·rw [e]; exact Int.le_refl _
   ·exact hm.1 x e
  have h2:x.date<=y.date:=by
   have:y∈onF y.date (x::l):=by rw [h,qi,aP rfl]; simp
   rcases aM.1 (mem this) with e | e
   ·rw [e]; exact Int.le_refl _
   ·exact hl.1 y e
  have h3:y.date=x.date:=by omega
  have h4:=h x.date;rw [qi,qi,aP rfl,aP h3] at h4;have h5:x=y:=(List.cons.inj h4).1;subst h5;congr 1;refine Qk hl.2 hm.2 λd=> ?_
  have:=h d;rw [qi,qi] at this;split at this
  ·exact(List.cons.inj this).2
  ·exact this
theorem zek(x z:Fl):∀ l:List Fl,z∈insF x l↔z=x\/z∈l
 | []=>by simp [insF]
 | y::l=>by
  rw [insF];split
  ·rw [aM,zek x z l,aM];exact⟨λh=>by rcases h with h | h | h<;>simp [h],λh=>by rcases h with h | h | h<;>simp [h]⟩
  ·simp
theorem UK(x:Fl):∀ {l:List Fl},jk l->jk (insF x l)
 | [],_=>by unfold jk; simp [insF]
 | y::l,h=>by
  unfold jk at h;rw [List.pairwise_cons] at h;rw [insF];split
  ·rename_i hle;unfold jk;rw [List.pairwise_cons];refine⟨λz hz=> ?_,UK x h.2⟩;rcases(zek x z l).1 hz with e | e
   ·rw [e]; exact hle
   ·exact h.1 z e
  ·rename_i hlt;unfold jk;rw [List.pairwise_cons,List.pairwise_cons];refine⟨λz hz=> ?_,h⟩;rcases aM.1 hz with e | e
   ·rw [e]; omega
   ·have:=h.1 z e; omega
theorem zlr(x:Fl)(d:Int):∀ {l:List Fl},jk l->onF d (insF x l)=onF d l++onF d [x]
 | [],_=>by rw [insF]; rfl
 | y::l,h=>by
  have h0:=h;unfold jk at h;rw [List.pairwise_cons] at h;rw [insF];split
  ·rw [qi,qi,zlr x d h.2];split<;>simp
  ·rename_i hlt;rw [qi d x];by_cases hx:x.date=d
   ·have hn:onF d (y::l)=[]:=UF λz hz=>by
     rcases aM.1 hz with e | e
     ·rw [e]; omega
     ·have:=h.1 z e; omega
    rw [aP hx,hn,qi,aP hx]; rfl
   ·rw [aO hx,qi d x,aO hx];show _=_++[];rw [List.append_nil]
theorem XL:∀ (l m:List Fl),jk m->jk (l.foldl (λm x=>insF x m) m)/\∀ d,onF d (l.foldl (λm x=>insF x m) m)=onF d m++onF d l
 | [],m,h=>⟨h,λd=>by show onF d m=onF d m++[]; rw [List.append_nil]⟩
 | x::l,m,h=>by
  obtain⟨h1,h2⟩:=XL l (insF x m) (UK x h);refine⟨h1,λd=> ?_⟩;rw [List.foldl_cons,h2,zlr x d h,List.append_assoc,<- zcw]; rfl
theorem J9(l:List Fl):jk (ordM l):=(XL l [] List.Pairwise.nil).1
theorem X2(d:Int)(l:List Fl):onF d (ordM l)=onF d l:=by
 have:=(XL l [] List.Pairwise.nil).2 d;simpa [ordM,onF] using this
def qw:Nat->List Fl->List Fl->List Fl
 | n+1,x::a,y::b=>if y.date<x.date then y::qw n (x::a) b else x::qw n a (y::b)
 | _,a,b=>a++b
theorem yV(n:Nat)(a:List Fl):qw n a []=a:=by cases n<;>cases a<;>simp [qw]
theorem xB(n:Nat)(b:List Fl):qw n [] b=b:=by cases n<;>simp [qw]
theorem yG(z:Fl):∀ (n:Nat) (a b:List Fl),z∈qw n a b↔z∈a\/z∈b
 | 0,a,b=>by simp [qw]
 | n+1,[],b=>by rw [xB]; simp
 | n+1,x::a,[]=>by rw [yV]; simp
 | n+1,x::a,y::b=>by
  rw [qw];split
  ·rw [aM,yG z n (x::a) b,aM (l:=b)];exact⟨λh=>by rcases h with h | h | h<;>simp [h],λh=>by rcases h with h | h | h<;>simp [h]⟩
  ·rw [aM,yG z n a (y::b),aM (l:=a)];exact⟨λh=>by rcases h with h | h | h<;>simp [h],λh=>by rcases h with (h | h) | h<;>simp [h]⟩
theorem ZY:∀ (n:Nat) (a b:List Fl),a.length+b.length<=n->jk a->jk b->jk (qw n a b)/\∀ d,onF d (qw n a b)=onF d a++onF d b
 | n,[],b,_,_,hb=>by rw [xB]; exact⟨hb,λd=>rfl⟩
 | n,x::a,[],_,ha,_=>by rw [yV]; exact⟨ha,λd=>by show _=_++[]; rw [List.append_nil]⟩
 | 0,x::a,y::b,h,_,_=>by simp at h
 | n+1,x::a,y::b,h,ha,hb=>by
  have ha':=ha;have hb':=hb;unfold jk at ha' hb';rw [List.pairwise_cons] at ha' hb';simp only [aL] at h;rw [qw];split
  ·rename_i hlt;obtain⟨h1,h2⟩:=ZY n (x::a) b (by simp only [aL]; omega) ha hb'.2;refine⟨?_,λd=> ?_⟩
   ·unfold jk;rw [List.pairwise_cons];refine⟨λz hz=> ?_,h1⟩;rcases(yG z n _ _).1 hz with e | e
    ·rcases aM.1 e with e | e
     ·rw [e]; omega
     ·have:=ha'.1 z e; omega
    ·exact hb'.1 z e
   ·rw [qi,h2,qi d y b];by_cases hy:y.date=d
    ·have hn:onF d (x::a)=[]:=UF λz hz=>by
      rcases aM.1 hz with e | e
      ·rw [e]; omega
      ·have:=ha'.1 z e; omega
     rw [aP hy,aP hy,hn]; rfl
    ·rw [aO hy,aO hy]
  ·rename_i hge;obtain⟨h1,h2⟩:=ZY n a (y::b) (by simp only [aL]; omega) ha'.2 hb;refine⟨?_,λd=> ?_⟩
   ·unfold jk;rw [List.pairwise_cons];refine⟨λz hz=> ?_,h1⟩;rcases(yG z n _ _).1 hz with e | e
    ·exact ha'.1 z e
    ·rcases aM.1 e with e | e
     ·rw [e]; omega
     ·have:=hb'.1 z e; omega
   ·rw [qi,h2,qi d x a];split<;>simp
def ordP:Nat->List Fl->List Fl
 | 0,l=>l
 | n+1,l=>if l.length<2 then l else qw l.length (ordP n (l.take (l.length/2))) (ordP n (l.drop (l.length/2)))
theorem Zz:∀ (n:Nat) (l:List Fl),l.length<=n->jk (ordP n l)/\(∀ d,onF d (ordP n l)=onF d l)/\(ordP n l).length=l.length
 | 0,l,h=>by
  obtain rfl:l=[]:=aU.1 (by omega);exact⟨List.Pairwise.nil,λd=>rfl,rfl⟩
 | n+1,l,h=>by
  rw [ordP];split
  ·rename_i h2;refine⟨?_,λd=>rfl,rfl⟩
   match l,h2 with
   | [],_=>exact List.Pairwise.nil
   | [x],_=>unfold jk; simp
  ·have e1:(l.take (l.length/2)).length<=n:=by rw [aH]; omega
   have e2:(l.drop (l.length/2)).length<=n:=by rw [bV]; omega
   obtain⟨a1,a2,a3⟩:=Zz n _ e1;obtain⟨b1,b2,b3⟩:=Zz n _ e2
   have hlen:(ordP n (l.take (l.length/2))).length+(ordP n (l.drop (l.length/2))).length=l.length:=by
    rw [a3,b3,aH,bV]; omega
   obtain⟨c1,c2⟩:=ZY l.length _ _ (by omega) a1 b1;refine⟨c1,λd=> ?_,?_⟩
   ·rw [c2,a2,b2,<- zcw,bU]
   ·rw [Q0,hlen]
where
 Q0:∀ {n:Nat} {a b:List Fl},(qw n a b).length=a.length+b.length
  | 0,a,b=>by simp [qw]
  | n+1,[],b=>by rw [xB]; simp
  | n+1,x::a,[]=>by rw [yV]; simp
  | n+1,x::a,y::b=>by
   rw [qw];split
   ·rw [aL,Q0]; simp; omega
   ·rw [aL,Q0]; simp; omega
theorem Zv{n:Nat}{l:List Fl}(h:l.length<=n):ordP n l=ordM l:=by
 obtain⟨h1,h2,_⟩:=Zz n l h;exact Qk h1 (J9 l) λd=>by rw [h2,X2]
end Go.Nov
end
section
namespace Go.Nov
open Go.Sx
structure Ver where
 day:Int
 con:Con
abbrev Ver.nil:Ver:=⟨0,Con.nil⟩
def Ver.cell(d:Int)(c:Con):Nat->AV
 | 0=>.i d
 | 1=>.int .u8 c.kind
 | 2=>.str c.src
 | 3=>.str c.dst
 | 4=>.str c.name
 | 5=>.int .u8 c.x.kind
 | 6=>.str c.x.rat
 | 7=>.str c.x.name
 | 8=>.i c.x.date
 | 9=>.sl c.x.sub.length 5 (Ex.exG c.x.sub)
 | 10=>.i c.date
 | 11=>.sl c.days.length 1 (Con.dayG c.days)
 | 12=>.sl c.sub.length 12 c.deep
 | _=>.undef
def verG(s:List Ver):Nat->Nat->AV:=λj=>Ver.cell (s.getD j Ver.nil).day (s.getD j Ver.nil).con
def verS(s:List Ver):AV:=.sl s.length 13 (verG s)
def verA(s:List Ver):AV:=.agg [.sl s.length 13 (verG s)]
def Ver.cells(v:Ver):List AV:=[.i v.day,.int .u8 v.con.kind,.str v.con.src,.str v.con.dst,.str v.con.name,.int .u8 v.con.x.kind,.str v.con.x.rat,.str v.con.x.name,.i v.con.x.date,.sl v.con.x.sub.length 5 (Ex.exG v.con.x.sub),.i v.con.date,.sl v.con.days.length 1 (Con.dayG v.con.days),.sl v.con.sub.length 12 v.con.deep]
def Ver.av(v:Ver):AV:=.agg v.cells
def endL(s:List Ver)(i:Nat):Int:=if i+1<s.length then(s.getD (i+1) Ver.nil).day else 100000
def vK(d:Int):Bool:=decide (0<=d)&&decide (d<=99999)
def okAt(s:List Ver)(i:Nat):Bool:=vK (s.getD i Ver.nil).day&&(decide (i=0)||decide ((s.getD (i - 1) Ver.nil).day<(s.getD i Ver.nil).day))&&decide ((s.getD i Ver.nil).con.errC=0)
def okV(s:List Ver):Bool:=decide (1<=s.length)&&decide (s.length<=100)&&(List.range s.length).all (okAt s)
def errV(s:List Ver):Int:=if okV s=true then 0 else 8
def flAt(s:List Ver)(f:List Fx)(h:List Ch)(i:Nat):List Fl×Int:=befM (s.getD i Ver.nil).con (s.getD i Ver.nil).day (endL s i) f h
def kn(s:List Ver)(f:List Fx)(h:List Ch)(l:List Nat):List Fl:=l.flatMap λi=>(flAt s f h i).1
def Kd(s:List Ver)(f:List Fx)(h:List Ch)(n:Nat):Option Nat:=(List.range n).find? λi=>decide ((flAt s f h i).2≠0)
def flV(s:List Ver)(f:List Fx)(h:List Ch):List Fl×Int:=
 if errV s≠0 then([],errV s) else if errE f h≠0 then([],errE f h) else match Kd s f h s.length with
  | some i=>([],(flAt s f h i).2)
  | none=>(kn s f h (List.range s.length),0)
def newV(c:Con)(d:Int):List Ver×Int:=if c.errC≠0 then([],c.errC) else if vK d=false then([],2) else([⟨d,c⟩],0)
def chgV(s:List Ver)(d:Int)(c:Con):List Ver×Int:=
 if errV s≠0 then([],errV s) else if c.errC≠0 then([],c.errC) else if vK d=false then([],2) else if d<=(s.getD (s.length - 1) Ver.nil).day then([],40) else if s.length=100 then([],22) else(s++[⟨d,c⟩],0)
theorem xe{s:List Ver} : errV s=0↔okV s=true:=by
 unfold errV; split<;>simp_all
theorem Zo{s:List Ver}(h:okV s=true):1<=s.length/\s.length<=100:=by
 unfold okV at h;simp only [bA,aK] at h;exact h.1
theorem zbf{s:List Ver}(h:okV s=true){i:Nat}(hi:i<s.length):okAt s i=true:=by
 unfold okV at h;simp only [bA,bG] at h;exact h.2 i (List.mem_range.2 hi)
theorem WL{s:List Ver}{i:Nat} : okAt s i=true↔(0<=(s.getD i Ver.nil).day/\(s.getD i Ver.nil).day<=99999)/\(i=0\/(s.getD (i - 1) Ver.nil).day<(s.getD i Ver.nil).day)/\(s.getD i Ver.nil).con.errC=0:=by
 unfold okAt vK;simp only [bA,Bool.or_eq_true,aK];constructor
 ·rintro⟨⟨a,b⟩,c⟩; exact⟨a,b,c⟩
 ·rintro⟨a,b,c⟩; exact⟨⟨a,b⟩,c⟩
theorem zkd{s:List Ver}(h1:1<=s.length)(h2:s.length<=100)(h3:∀ i,i<s.length->okAt s i=true):okV s=true:=by
 unfold okV;simp only [bA,aK,bG];exact⟨⟨h1,h2⟩,λi hi=>h3 i (List.mem_range.1 hi)⟩
theorem zoj{s:List Ver}{i:Nat}(hi:i<s.length)(h:okAt s i=false):okV s=false:=by
 cases hk:okV s with
 | false=>rfl
 | true=>rw [zbf hk hi] at h; cases h
theorem zto{s:List Ver}(h:okV s=true):∀ {i j:Nat},i<j->j<s.length->(s.getD i Ver.nil).day<(s.getD j Ver.nil).day:=by
 intro i j hij hj
 induction j with
 | zero=>omega
 | succ j ih=>
  have h1:=(WL.1 (zbf h hj)).2.1
  have h2:(s.getD j Ver.nil).day<(s.getD (j+1) Ver.nil).day:=by
   rcases h1 with h1 | h1
   ·omega
   ·simpa using h1
  rcases aR i j with h3 | h3
  ·have:=ih h3 (by omega); omega
  ·have:i=j:=by omega
   rw [this]; exact h2
end Go.Nov
end
section
namespace Go.Sx
variable [Stat]
section
variable {O:Nat->Prop} {pin:Nat} {w0:World} {I0:List SE} {P:Program} {fn:Func}
def noH(n:Nat):Heap:=.box [.ptr n 0]::List.replicate (n - 1) (.box [])
theorem zcr{n:Nat}(h:1<=n):(noH n).length=n:=by simp [noH]; omega
theorem zgl(n:Nat):∀ b∈noH n,alive b:=by
 intro b hb;unfold noH at hb;rcases aM.1 hb with rfl | hb
 ·trivial
 ·rw [List.eq_of_mem_replicate hb]; trivial
theorem zb.never{M:Option Nat}{Hs:Nat->KV->Heap->Prop}{R:List AV->Heap->Prop}{k:List Item}{kv:KV}{n:Nat}(hn:1<=n):wh M P fn O pin w0 I0 Hs R k (mk fn.ntmps kv (noH n)):=by
 intro w σ a hm;have hl:σ.length=n:=by rw [hm.hp.len]; exact zcr hn
 have h0:σ[0]?=some (σ[0]'(by omega)):=aF _;have hb:=hm.hp.blk 0 _ (.box [.ptr n 0]) h0 rfl;simp only [BRep] at hb;obtain⟨ad,vs,el,_,_,_,q⟩:=hb;simp only [RepL,Rep] at q;obtain⟨v,r,_,⟨e,ad',he,_⟩,_⟩:=q;have:=(aG.1 he).1;omega
open Classical in
theorem zb.zrz{α:Type}{Hs:Nat->KV->Heap->Prop}{R:List AV->Heap->Prop}{k:List Item}{c:Code}{kv:KV}{h:Heap}{tg tp td t n gf:Nat}{cap:List AV}{zs:List AV}(I:List α->Prop)(hc:Xc c tg tp td t=true)(hz:zeroCells P t=some zs)(hn:qa P t=some n)(hzl:zs.length=n)
  (he:∀ args w,(callFunc gf args).run P w = .ok (.enter gf args) w) (av:α->AV) (cs:α->List AV) (hcs:∀ x,cellsOf (av x)=some (cs x)/\(cs x).length=n/\(cs x).all oneA=true/\(cs x).all xP=true) (H Hx:List α->Heap) (X S Sp:List α->Prop) (N pinR:Nat)
  (hg:look kv tg = .fn gf [] cap) (htg:tg<fn.ntmps) (htp:tp<fn.ntmps) (htd:td<fn.ntmps) (hne:td≠tp) (hle:LeK pin fn.ntmps kv h kv (H [])) (hlow:(pk fn.ntmps kv).all (lowB pinR)=true) (hpin:pin<=pinR) (hpos:1<=pinR) (hI:I []) (hlen:∀ pre,(H pre).length=pinR)
  (halive:∀ pre,∀ b∈H pre,alive b) (halivex:∀ pre,∀ b∈Hx pre,alive b)
  (iter:∀ w σ a,Mod O pin w0 I0 w σ (mk fn.ntmps kv (H [])) a->∀ vb,RepL (Own O σ) w cap σ vb->∃ ev:α->Value,SeqStopsK Fence.wide 0 P gf vb.toArray (λx=> #[ev x]) (zT (Own O σ)) S Sp N w/\∀ x,Rep (Own O σ) w (av x) [] (ev x))
  (round:∀ l pre x,I pre->pre.length<N->∀ (W:World) (E1:List SE),wh (some l) P (bare fn) O pinR W E1 (λd kv' h'=>I (pre++[x])/\LeK pinR fn.ntmps [] h' [] (H (pre++[x]))) (λ_ h'=>X (pre++[x])/\LeK pinR fn.ntmps [] h' [] (Hx (pre++[x]))) [.code (vX c),.inLoop] (mk fn.ntmps ((td,.iptr n λo=>(cs x).getD o .undef)::(tp,av x)::kv) (H pre)))
  (done:∀ xs,S xs->I xs->zb P fn O pin w0 I0 Hs R k (mk fn.ntmps kv (H xs)))
  (stop:∀ pre,Sp pre->X pre->(resX P (mk fn.ntmps kv (Hx pre)) fn.results.toList).holds λrs=>R rs (Hx pre)) :
  zb P fn O pin w0 I0 Hs R (.code c::k) (mk fn.ntmps kv h):=by
 refine zb.zkr hc hz hn hzl he av cs hcs (λpre=>if I pre then H pre else noH pinR) Hx X S Sp N pinR hg htg htp htd hne (by rw [aP hI]; exact hle) hlow hpin (λpre=> ?_) (λpre=> ?_) halivex ?_ ?_ ?_ stop
 ·split
  ·exact hlen pre
  ·exact zcr hpos
 ·split
  ·exact halive pre
  ·exact zgl _
 ·rw [aP hI]; exact iter
 ·intro l pre x hl W E1;by_cases h1:I pre
  ·simp only [aP h1];intro w σ a hm;refine W7 ?_ (round l pre x h1 hl W E1 w σ a hm);rintro d a' w' ⟨st,Z',⟨kv',h',⟨h2,h3⟩,rfl⟩,hm'⟩;exact⟨_,Z',⟨kv',h',by rw [aP h2]; exact h3,rfl⟩,hm'⟩
  ·simp only [aO h1];exact zb.never (fn:=bare fn) hpos
 ·intro xs hs;by_cases h1:I xs
  ·simp only [aP h1]; exact done xs hs h1
  ·simp only [aO h1]; exact zb.never hpos
end
end Go.Sx
end
section
namespace Go.Sx
variable [Stat]
open Go.RowKit (Below)
def Xn(c:Code)(tg tp tq td te t:Nat):Bool:=match c with
 | .rangeFunc (.tmp g) ps (.seq (.region _ ops false) (.region _ ops2 false)) _=>decide (g=tg)&&decide (ps.toList=[tp,tq])&&(match ops.toList with
  | [o1,o2]=>(decide (o1.dst=some td)&&o1.guard.isNone&&decide (o2.dst=none)&&o2.guard.isNone)&&(match o1.op with
   | .alloc u=>decide (u=t)
   | _=>false)&&(match o2.op with
   | .store u (.tmp p) (.tmp q)=>decide (u=t)&&decide (p=td)&&decide (q=tp)
   | _=>false)
  | _=>false)&&(match ops2.toList with
  | [o]=>decide (o.dst=some te)&&o.guard.isNone&&(match o.op with
   | .assign (.tmp q)=>decide (q=tq)
   | _=>false)
  | _=>false)
 | _=>false
theorem Xj{c:Code}{tg tp tq td te t:Nat}(h:Xn c tg tp tq td te t=true):∃ id id2 o1 o2 o3,c = .rangeFunc (.tmp tg) #[tp,tq] (.seq (.region id #[o1,o2] false) (.region id2 #[o3] false)) (vX c)/\(o1.dst=some td/\o1.guard=none/\o1.op = .alloc t)/\(o2.dst=none/\o2.guard=none/\o2.op = .store t (.tmp td) (.tmp tp))/\o3.dst=some te/\o3.guard=none/\o3.op = .assign (.tmp tq):=by
 unfold Xn at h;split at h
 ·rename_i g ps id ops id2 ops2 body;simp only [bA,aK] at h;obtain⟨⟨⟨rfl,h2⟩,h3⟩,k3⟩:=h;split at h3
  ·rename_i o1 o2 ho;simp only [bA,aK,Option.isNone_iff_eq_none] at h3;obtain⟨⟨⟨⟨⟨h4,h5⟩,h6⟩,h7⟩,h8⟩,h9⟩:=h3;split at h8
   ·rename_i u hu;simp only [aK] at h8;subst h8;split at h9
    ·rename_i v p q hv;simp only [bA,aK] at h9;obtain⟨⟨rfl,rfl⟩,rfl⟩:=h9;split at k3
     ·rename_i o3 ho3;simp only [bA,aK,Option.isNone_iff_eq_none] at k3;obtain⟨⟨k4,k5⟩,k6⟩:=k3;split at k6
      ·rename_i q' hq';simp only [aK] at k6;subst k6;refine⟨id,id2,o1,o2,o3,?_,⟨h4,h5,hu⟩,⟨h6,h7,hv⟩,k4,k5,hq'⟩;have e1:ps = #[q,q']:=by rw [<- Array.toList_inj]; exact h2
       have e2:ops = #[o1,o2]:=by rw [<- Array.toList_inj]; exact ho
       have e3:ops2 = #[o3]:=by rw [<- Array.toList_inj]; exact ho3
       rw [e1,e2,e3]; rfl
      ·cases k6
     ·cases k3
    ·cases h9
   ·cases h8
  ·cases h3
 ·cases h
section
variable {O:Nat->Prop} {pin:Nat} {w0:World} {I0:List SE} {w:World} {σ:List SE} {P:Program} {a:Act} {fn:Func} {Γ:Nat->Option Ctr}
theorem zgo{F:Fence}{n:Nat}{c d:Code}{K:Act->World->Prop}{Qe:Exit->Act->World->Prop}(h:c.wpIn F n P (Exit.then (λa w=>d.wpIn F n P (Exit.then K Qe) a w) (Exit.then K Qe)) a w):(Code.seq c d).wpIn F n P (Exit.then K Qe) a w:=by
 exact wpIn_seq h
end
section
variable {O:Nat->Prop} {pin:Nat} {w0:World} {I0:List SE} {P:Program} {fn:Func}
open Classical in
end
end Go.Sx
end
section
namespace Go.Sx
variable [Stat]
open Go.RowKit (Below)
section
variable {O:Nat->Prop} {pin:Nat} {w0:World} {I0:List SE} {w:World} {σ:List SE} {P:Program} {a:Act} {fn:Func} {Γ:Nat->Option Ctr}
end
end Go.Sx
end
section
namespace Go.Sx
variable [Stat]
open Go.RowKit (Below)
section
variable {O:Nat->Prop} {pin:Nat} {w0:World} {I0:List SE} {w:World} {σ:List SE} {P:Program} {a:Act} {fn:Func} {Γ:Nat->Option Ctr}
def zme(w:World)(σ:List SE)(p ib:Nat):Prop:=∀ e ad,σ[p]?=some e->e.ad=some ad->(∃ cs el,w.heap[ad.block]?=some (.cells cs el (0,0)))/\∃ eb adb n cap o,σ[ib]?=some eb/\eb.ad=some adb/\0<cap/\w.cell? ⟨adb.block,0,none⟩=some (.slice (some ⟨ad.block,o,none⟩) n cap)
def accH(Hb:Heap)(n sz:Nat)(g:Nat->Nat->AV):Heap:=Hb++[.arr n sz g]
structure VQ(p ib n sz:Nat)(Hb:Heap):Prop where
 len:Hb.length=p
 box:Hb[ib]?=some (.box [.osl p sz 0 n])
 flat:∀ i b,i≠ib->Hb[i]?=some b->∃ cs,b = .box cs/\cs.all xP=true
theorem VQ.lt{p ib n sz:Nat}{Hb:Heap}(h:VQ p ib n sz Hb):ib<p:=by
 rw [<- h.len]; exact(aG.1 h.box).1
theorem Wh{own own':Nat->Prop}{w:World}{σ τ:List SE}(hs:∀ b,own' b->own b):∀ {cs:List AV} {vs:List Value},cs.all xP=true->RepL own w cs σ vs->RepL own' w cs τ vs
 | [],vs,_,h=>h
 | a::l,vs,hf,h=>by
  simp only [List.all_cons,bA] at hf;simp only [RepL] at h ⊢;obtain⟨v,r,rfl,h1,h2⟩:=h;refine⟨v,r,rfl,?_,Wh hs hf.2 h2⟩;have h3:=j1 hs (ZI hf.1 h1);have hf1:=hf.1;cases a<;>first | (simp [xP] at hf1; done) | (simp only [Rep] at h3 ⊢; exact h3)
theorem zdj{p ib n sz cap:Nat}{g:Nat->Nat->AV}{Hb:Heap}{kv:KV}{eb ep:SE}{adb:Addr}{a0:Option Addr}{el:TypeId}(hm:Mod O pin w0 I0 w σ (mk fn.ntmps kv (accH Hb n sz g)) a)(hA:VQ p ib n sz Hb)(hlow:(pk fn.ntmps kv).all (lowB p)=true)(hpin:pin<=p)
  (hlen:σ.length=p+1) (heb:σ[ib]?=some eb) (hep:σ[p]?=some ep) (hbb:(mk fn.ntmps kv (accH Hb n sz g)).heap[ib]?=some (.box [.osl p sz 0 n])) (hbp:(mk fn.ntmps kv (accH Hb n sz g)).heap[p]?=some (.arr n sz g)) (h1:eb.ad=some adb) (h2:adb.off=0) (h3:w.heap[adb.block]?=some (.cells (List.toArray [.slice a0 n cap]) el (0,0))) (hc0:cap=0) (hn0:n=0) :
  ∃ τ,(∀ i,i<p->τ[i]?=σ[i]?)/\Mod O pin w0 I0 w τ (mk fn.ntmps kv (accH Hb n sz g)) a/\(∀ b,Own O τ b->Own O σ b)/\zme w τ p ib:=by
 have hib:=hA.lt
 have hget:∀ i,i<p->(frzS [p] σ)[i]?=σ[i]?:=λi hi=>by
  rw [qZ];have:[p].contains i=false:=by simp; omega
  rw [this]; simp
 have hgp:(frzS [p] σ)[p]?=some ⟨none,0⟩:=by rw [qZ,hep]; simp
 have hx:=j7 (O:=O) [p] w σ;have hsub:∀ b,Own O (frzS [p] σ) b->Own O σ b:=λb hb=>xa hb
 have hcase:∀ (i:Nat) (e:SE),(frzS [p] σ)[i]?=some e->(i=p/\e=⟨none,0⟩)\/(i<p/\σ[i]?=some e):=by
  intro i e he;rcases Nat.lt_trichotomy i p with hi | hi | hi
  ·rw [hget i hi] at he; exact .inr ⟨hi,he⟩
  ·subst hi; rw [hgp] at he; cases he; exact .inl ⟨rfl,rfl⟩
  ·rw [aZ (by simp [frzS]; omega)] at he; cases he
 refine⟨frzS [p] σ,hget,⟨yk [p] hm.good,⟨?_,?_,?_,?_⟩,hm.size,λt=> ?_,hm.df.ext hx,hm.since.trans ⟨hx,λ_ _ _=>rfl,λi e hi2 he=>xl [p] w σ i e he λh=>by simp at h; omega⟩,hm.lim⟩,hsub,?_⟩
 ·simp [frzS,hm.hp.len]
 ·intro i j e f a b he hf ha hb hne;rcases hcase i e he with ⟨_,rfl⟩ | ⟨_,he⟩
  ·cases ha
  rcases hcase j f hf with ⟨_,rfl⟩ | ⟨_,hf⟩
  ·cases hb
  exact hm.hp.inj i j e f a b he hf ha hb hne
 ·intro i e a he ha;rcases hcase i e he with ⟨_,rfl⟩ | ⟨_,he⟩
  ·cases ha
  exact hm.hp.lt i e a he ha
 ·intro i e b he hb;rcases hcase i e he with ⟨rfl,rfl⟩ | ⟨hi,he⟩
  ·rw [hbp] at hb; cases hb;exact⟨by rw [hn0],.inl hn0⟩
  ·have hb0:=hm.hp.blk i e b he hb;by_cases hii:i=ib
   ·subst hii;rw [hbb] at hb; cases hb;rw [heb] at he; cases he;refine⟨adb,_,el,h1,h2,h3,?_⟩;simp only [RepL,Rep];exact⟨_,_,rfl,⟨_,hgp,by show 0+n<=0; omega,a0,cap,rfl,by omega,.inl hc0⟩,rfl⟩
   ·have hb2:Hb[i]?=some b:=by
     simp only [mk,accH] at hb; rwa [bL (by rw [hA.len]; exact hi)] at hb
    obtain⟨cs,rfl,hf⟩:=hA.flat i b hii hb2;obtain⟨ad,vs,el',g1,g2,g3,g4⟩:=hb0;exact⟨ad,vs,el',g1,g2,g3,Wh hsub hf g4⟩
 ·have ht:=hm.tm t;have hold:Hold (List.range' p 1) w σ w (frzS [p] σ):=λi e he hi=>xl [p] w σ i e he λh=>hi (by simp at h; subst h; simp [List.mem_range'])
  by_cases htn:t<fn.ntmps
  ·simp only [mk] at ht ⊢;rw [ja htn] at ht ⊢;have hl:lowB p (look kv t)=true:=bG.1 hlow (look kv t) (by simp only [pk,List.mem_map,List.mem_range]; exact⟨t,htn,rfl⟩);generalize look kv t=y at ht hl;cases y with
   | opt u b z=>exact absurd rfl (jN hl u b z)
   | _=>simp only [TRep] at ht ⊢; exact zG hx hold _ _ (yz hl) ht
  ·have:(mk fn.ntmps kv (accH Hb n sz g)).tmps.getD t .undef = .undef:=by simp [mk,pk,List.getD,htn]
   rw [this]; simp [TRep,Rep]
 ·intro e ad he had;rw [hgp] at he; cases he; cases had
theorem Y4{p ib n sz:Nat}{g:Nat->Nat->AV}{Hb:Heap}{kv:KV}(hm:Mod O pin w0 I0 w σ (mk fn.ntmps kv (accH Hb n sz g)) a)(hA:VQ p ib n sz Hb)(hlow:(pk fn.ntmps kv).all (lowB p)=true)(hpin:pin<=p) :
  ∃ τ,(∀ i,i<p->τ[i]?=σ[i]?)/\Mod O pin w0 I0 w τ (mk fn.ntmps kv (accH Hb n sz g)) a/\(∀ b,Own O τ b->Own O σ b)/\zme w τ p ib:=by
 have hlen:σ.length=p+1:=by rw [hm.hp.len]; simp [mk,accH,hA.len]
 have hib:=hA.lt;obtain⟨eb,heb⟩:∃ e,σ[ib]?=some e:=⟨_,aF (by omega)⟩;obtain⟨ep,hep⟩:∃ e,σ[p]?=some e:=⟨_,aF (by omega)⟩
 have hbb:(mk fn.ntmps kv (accH Hb n sz g)).heap[ib]?=some (.box [.osl p sz 0 n]):=by
  simp only [mk,accH]; rw [bL (by rw [hA.len]; exact hib)]; exact hA.box
 have hbp:(mk fn.ntmps kv (accH Hb n sz g)).heap[p]?=some (.arr n sz g):=by
  simp only [mk,accH]; rw [List.getElem?_append_right (by rw [hA.len]; exact aJ _),hA.len]; simp
 obtain⟨adb,vs,el,h1,h2,h3,h4⟩:=hm.hp.blk ib eb _ heb hbb;have hn:ep.n=n:=(hm.hp.blk p ep _ hep hbp).1;simp only [RepL,Rep] at h4;obtain⟨v,r,rfl,⟨e',he',hle,a0,cap,rfl,hcap,hc⟩,rfl⟩:=h4;rw [hep] at he'; cases he';rcases hc with h0 | ⟨ad,had,ha0,cs,el2,hcs,_⟩
 rotate_left
 ·by_cases hc0:cap=0
  rotate_left
  ·refine⟨σ,λ_ _=>rfl,hm,λ_ h=>h,λe ad2 he had2=> ?_⟩;rw [hep] at he; cases he;rw [had] at had2; cases had2;refine⟨⟨cs,el2,hcs⟩,eb,adb,n,cap,ad.off+0*sz,heb,h1,by omega,?_⟩;simp only [World.cell?,h3];rw [ha0]; rfl
  ·
   have hn0:n=0:=by omega
   exact zdj hm hA hlow hpin hlen heb hep hbb hbp h1 h2 h3 hc0 hn0
 ·have hn0:n=0:=by omega
  exact zdj hm hA hlow hpin hlen heb hep hbb hbp h1 h2 h3 h0 hn0
end
end Go.Sx
end
section
namespace Go.Sx
variable [Stat]
open Go.RowKit (Below)
section
variable {O:Nat->Prop} {pin:Nat} {w0:World} {I0:List SE} {w:World} {σ:List SE} {P:Program} {a:Act} {fn:Func} {Γ:Nat->Option Ctr}
def OwnN(O:Nat->Prop)(σ:List SE)(w:World)(b:Nat):Prop:=Own O σ b\/w.heap.size<=b
structure Rnd(O:Nat->Prop)(σ:List SE)(w:World)(p ib:Nat)(τ:List SE)(W:World):Prop where
 same:∀ i,i<p->τ[i]?=σ[i]?
 ext:Ext (Own O σ) w (Own O τ) W
 norm:zme W τ p ib
 len:τ.length=p+1
theorem zb.zp8{α:Type}{Hs:Nat->KV->Heap->Prop}{R:List AV->Heap->Prop}{k k1:List Item}{c:Code}{kv0 kv:KV}{h:Heap}{tg tp tq td te t n gf id0:Nat}{cap:List AV}{zs:List AV}(hc:Xn c tg tp tq td te t=true)(hz:zeroCells P t=some zs)(hn:qa P t=some n)(hzl:zs.length=n)
  (he:∀ args w,(callFunc gf args).run P w = .ok (.enter gf args) w) (av:α->AV) (cs:α->List AV) (hcs:∀ x,cellsOf (av x)=some (cs x)/\(cs x).length=n/\(cs x).all oneA=true/\(cs x).all xP=true) (bv:α->AV) (hbv:∀ x,xP (bv x)=true) (I:List α->Prop) (ib sz:Nat) (Hb:List α->Heap) (nn:List α->Nat) (gg:List α->Nat->Nat->AV) (Hx Hy:List α->Heap) (X Y S Sp:List α->Prop) (N pinR:Nat)
  (hg:look kv0 tg = .fn gf [] cap) (htg:tg<fn.ntmps) (htp:tp<fn.ntmps) (htq:tq<fn.ntmps) (htd:td<fn.ntmps) (hte:te<fn.ntmps) (hd1:tp≠tq) (hd2:td≠tp) (hd3:td≠tq) (hd4:te≠tp) (hd5:te≠tq) (hd6:te≠td) (hle:LeK pin fn.ntmps kv0 h kv (accH (Hb []) (nn []) sz (gg []))) (hI:I []) (hlow:(pk fn.ntmps kv).all (lowB pinR)=true) (hpin:pin<=pinR) (hA:∀ pre,VQ pinR ib (nn pre) sz (Hb pre))
  (halivex:∀ pre,∀ b∈Hx pre,alive b) (halivey:∀ pre,∀ b∈Hy pre,alive b)
  (iter:∀ w σ a,Mod O pin w0 I0 w σ (mk fn.ntmps kv0 h) a->∀ vb,RepL (Own O σ) w cap σ vb->∃ ev ew:α->Value,SeqStopsK Fence.wide 0 P gf vb.toArray (λx=> #[ev x,ew x]) (zT (OwnN O (σ.take (pinR+1)) w)) S Sp N w/\(∀ x,Rep (Own O (σ.take (pinR+1))) w (av x) [] (ev x))/\∀ x,Rep (Own O (σ.take (pinR+1))) w (bv x) [] (ew x))
  (round:∀ l pre x,I pre->pre.length<N->∀ (W:World) (E1:List SE),wh (some l) P (bare fn) O pinR W E1 (λd kv' h'=>(d=1/\I (pre++[x])/\LeK pinR fn.ntmps [] h' [] (accH (Hb (pre++[x])) (nn (pre++[x])) sz (gg (pre++[x]))))\/(d=0/\Y (pre++[x])/\LeK pinR fn.ntmps [] h' [] (Hy (pre++[x])))) (λ_ h'=>X (pre++[x])/\LeK pinR fn.ntmps [] h' [] (Hx (pre++[x]))) [.code (vX c),.inLoop,.inBlock id0,.inLoop] (mk fn.ntmps ((te,bv x)::(td,.iptr n λo=>(cs x).getD o .undef)::(tq,bv x)::(tp,av x)::kv) (accH (Hb pre) (nn pre) sz (gg pre))))
  (done:∀ xs,S xs->I xs->zb P fn O pin w0 I0 Hs R k (mk fn.ntmps kv (accH (Hb xs) (nn xs) sz (gg xs))))
  (hex:(∃ pre,Y pre)->exitTo id0 k=some k1) (leave:∀ pre,Sp pre->Y pre->zb P fn O pin w0 I0 Hs R k1 (mk fn.ntmps kv (Hy pre)))
  (stop:∀ pre,Sp pre->X pre->(resX P (mk fn.ntmps kv (Hx pre)) fn.results.toList).holds λrs=>R rs (Hx pre)) :
  zb P fn O pin w0 I0 Hs R (.code c::k) (mk fn.ntmps kv0 h):=by
 obtain⟨id,id2,o1,o2,o3,hco,ho1,ho2,ho3,ho4,ho5⟩:=Xj hc;generalize vX c=body at *
 subst hco;clear hc;intro w σ a hm0;have hm:=hle.le.mod hm0;have hpR:(mk fn.ntmps kv (accH (Hb []) (nn []) sz (gg []))).heap.length=pinR+1:=by simp [mk,accH,(hA []).len]
 rw [hpR] at hm;simp only [wpK];have hgt:=hm0.tm tg;have hev:(mk fn.ntmps kv0 h).tmps.getD tg .undef = .fn gf [] cap:=by simp only [mk]; rw [ja htg]; exact hg
 rw [hev] at hgt;simp only [TRep,Rep] at hgt;obtain⟨va,vb,hval,hva,hvb⟩:=hgt;have hva:va=[]:=by simpa [RepL] using hva
 subst hva;obtain⟨ev,ew,hseq,hev0,hew0⟩:=iter w σ a hm0 vb hvb;clear hm0 hvb;generalize σ.take (pinR+1)=σ at hm hseq hev0 hew0;have hib:=(hA []).lt;obtain⟨τ0,hτ1,hmt,hτ2,hτ3⟩:=Y4 hm (hA []) hlow hpin
 have hlenM:∀ {pre:List α} {W:World} {τ:List SE} {w1:World} {E1:List SE} {p1:Nat} {kv':KV} {a':Act},Mod O p1 w1 E1 W τ (mk fn.ntmps kv' (accH (Hb pre) (nn pre) sz (gg pre))) a'->τ.length=pinR+1:=λ{pre} {W} {τ} {w1} {E1} {p1} {kv'} {a'} h=>by
  rw [h.hp.len]; simp [mk,accH,(hA pre).len]
 have hR0:Rnd O σ w pinR ib τ0 w:=⟨hτ1,⟨rfl,rfl,rfl,aJ _,λ_ _ _=>rfl,λb hb=>.inl (hτ2 b hb)⟩,hτ3,hlenM hmt⟩;have hlow0:∀ i e ad,i<pinR->σ[i]?=some e->e.ad=some ad->ad.block<w.heap.size:=λi e ad _ he had=>hm.hp.lt i e ad he had
 have mineT:∀ {τ:List SE} {W:World},Rnd O σ w pinR ib τ W->∀ b,Mine τ b->b<w.heap.size\/∃ cs el,W.heap[b]?=some (.cells cs el (0,0)):=by
  intro τ W hR b hb;obtain⟨i,e,ad,h1,h2,rfl⟩:=zq.1 hb;have hi:i<pinR+1:=by have:=(aG.1 h1).1; rw [hR.len] at this; exact this
  rcases aR i pinR with h3 | h3
  ·rw [hR.same i h3] at h1;exact .inl (hlow0 i e ad h3 h1 h2)
  ·have:i=pinR:=by omega
   subst this;exact .inr (hR.norm e ad h1 h2).1
 have hkeep:∀ {W:World} {τ:List SE},Rnd O σ w pinR ib τ W->∀ x,Rep (Own O τ) W (av x) τ (ev x):=λhR x=>zG (K:=[]) (E1:=[]) hR.ext (λi e h=>by simp at h) _ _ (qD _) (hev0 x)
 have hkeep2:∀ {W:World} {τ:List SE},Rnd O σ w pinR ib τ W->∀ x,Rep (Own O τ) W (bv x) τ (ew x):=λhR x=>zG (K:=[]) (E1:=[]) hR.ext (λi e h=>by simp at h) _ _ (qD _) (hew0 x)
 have rndG:∀ {W W':World} {τ:List SE} {row:Option Nat},W.grownBy W' row->(∀ r,row=some r->w.heap.size<=r/\∃ o:Obj,W.heap[r]?=some o/\o.isCells=false)->Rnd O σ w pinR ib τ W->Rnd O σ w pinR ib τ W':=λ{W} {W'} {τ} {row} hg hr hR=>by
  refine⟨hR.same,⟨hg.os.trans hR.ext.os,hg.tape.trans hR.ext.tape,hg.output.trans hR.ext.output,bP hR.ext.size hg.size,λb hb hn=> ?_,hR.ext.grow⟩,λe ad he had=> ?_,hR.len⟩
  ·rw [hg.block b (bB hb hR.ext.size) λe=>by have:=(hr b e.symm).1; omega];exact hR.ext.keep b hb hn
  ·obtain⟨⟨cs,el,h1⟩,eb,adb,n,cap,o,h2,h3,h4,h5⟩:=hR.norm e ad he had;have hs:zT (λ_=>False) W W':=zT.grown hg λr e=>(hr r e).2
   exact⟨⟨cs,el,hs.2 _ _ _ _ (λh=>h) h1⟩,eb,adb,n,cap,o,h2,h3,h4,hs.cell (λh=>h) h5⟩
 have hB:∀ d∈a.defers,∃ D,d={ target:=.collected D,args:= #[] } /\ D<w.heap.size:=by
  intro d hd;obtain⟨D,h1,_,_,h4⟩:=hm.df.2 d hd;exact⟨D,h1,(aQ.1 h4).1⟩
 have hOB:∀ b,O b->b<w.heap.size:=hm.good.old;have hsz:a.tmps.size=fn.ntmps:=by rw [hm.size]; simp [mk,pk]
 have turnM:∀ {Hh:Heap} {τ:List SE} {W W':World} {row:Option Nat},(∀ b∈Hh,ZR b=false)->W.grownBy W' row->(∀ r,row=some r->w.heap.size<=r/\∃ o:Obj,W.heap[r]?=some o/\o.isCells=false)->Mod O pin w0 I0 W τ (mk fn.ntmps kv Hh) a->Mod O pin w0 I0 W' τ (mk fn.ntmps kv Hh) a:=by
  intro Hh τ W W' row hal hgr hr hM
  have:=hM.turn hgr (ds:=a.defers) (λr e=>⟨bP hm.since.ext.size (hr r e).1,(hr r e).2⟩) (.inl hal) (hM.df.turn hgr λr e hmem=>by
   obtain⟨D,h1,h2⟩:=hB _ hmem;have:=(hr r e).1;simp only [Deferred.mk.injEq,Target.collected.injEq,and_true] at h1;omega)
  exact this
 have nomap:∀ pre:List α,∀ b∈accH (Hb pre) (nn pre) sz (gg pre),ZR b=false:=by
  intro pre b hb;simp only [accH,bZ,List.mem_singleton] at hb;rcases hb with hb | rfl
  ·obtain⟨i,hi,rfl⟩:=List.getElem_of_mem hb;by_cases h:i=ib
   ·have:=(hA pre).box;subst h;rw [aF hi] at this;rw [Option.some.inj this]; rfl
   ·obtain⟨cs,h1,_⟩:=(hA pre).flat i _ h (aF hi);rw [h1]; rfl
  ·rfl
 have push:∀ (D:Nat) (Hh:Heap) (W:World) (Z':List SE),(∀ b,Mine Z' b->b<w.heap.size\/∃ cs el fr,W.heap[b]?=some (.cells cs el fr))->w.heap.size<=D->W.heap[D]?=some (.deferred (some []))->Mod O pin w0 I0 W Z' (mk fn.ntmps kv Hh) a->Mod O pin w0 I0 W Z' (mk fn.ntmps kv Hh) { a with defers:={ target:=.collected D,args:= #[] } :: a.defers } :=by
  intro D Hh W Z' hal hD hWD hM;refine⟨hM.good,hM.hp,hM.size,hM.tm,⟨List.nodup_cons.2 ⟨λhmem=> ?_,hM.df.1⟩,λd hd=> ?_⟩,hM.since,hM.lim⟩
  ·obtain⟨D',h1,h2⟩:=hB _ hmem;simp only [Deferred.mk.injEq,Target.collected.injEq,and_true] at h1;omega
  ·rcases aM.1 hd with rfl | hd
   ·refine⟨D,rfl,bP hm.since.ext.size hD,?_,hWD⟩;rintro(hO | hM')
    ·have:=hOB D hO; omega
    ·rcases hal D hM' with h | ⟨cs,el,fr,hcs⟩
     ·omega
     ·rw [hWD] at hcs; cases hcs
   ·exact hM.df.2 d hd
 have aliveM:∀ {Hh:Heap} {W:World} {τ:List SE},(∀ b∈Hh,alive b)->Mod O pin w0 I0 W τ (mk fn.ntmps kv Hh) a->∀ b,Mine τ b->b<w.heap.size\/∃ cs el fr,W.heap[b]?=some (.cells cs el fr):=λhal hM b hb=>.inr (ky hM.hp hal hb)
 have rndM:∀ {W:World} {τ:List SE},Rnd O σ w pinR ib τ W->∀ b,Mine τ b->b<w.heap.size\/∃ cs el fr,W.heap[b]?=some (.cells cs el fr):=λhR b hb=>(mineT hR b hb).imp (λh=>h) λ⟨cs,el,h⟩=>⟨cs,el,_,h⟩
 let act:α->Nat->Act:=λx B=>{ tmps:=(((a.tmps.setIfInBounds tp (ev x)).setIfInBounds tq (ew x)).setIfInBounds td (.pointer (some ⟨B,0,none⟩))).setIfInBounds te (ew x),defers:=[] }
 refine uH 1 0 ?_
 refine wpIn_rangeFunc_ownH (F:=Fence.wide) rfl (aJ 1) (gf:=gf) (lb:=vb.toArray) (by simp only [Act.eval]; exact hval) trivial he (encs:=λx=> #[ev x,ew x]) (Kp:=zT (OwnN O σ w)) (S:=S) (Sp:=Sp) (N:=N) (w0:=w) hseq
  (λh1 h2=>h1.trans h2) (λW l o o' h1 h2 h3 _=>zT.grown (grownBy_putObj' W l o') λr e=>by cases e; exact⟨o,h2,h3⟩) (Below.refl _ _) (λ_=>rfl)
  (λpre W=>I pre/\∃ τ,Rnd O σ w pinR ib τ W/\Mod O pin w0 I0 W τ (mk fn.ntmps kv (accH (Hb pre) (nn pre) sz (gg pre))) a) (λc pre W=>(c = .ret/\X pre/\∃ Z',Mod O pin w0 I0 W Z' (mk fn.ntmps kv (Hx pre)) a)\/(c = .exit id0/\Y pre/\∃ Z',Mod O pin w0 I0 W Z' (mk fn.ntmps kv (Hy pre)) a))
  (λpre W W' row hI hgr hr=>⟨hI.1,hI.2.imp λ τ h=>⟨rndG hgr hr h.1,turnM (nomap pre) hgr hr h.2⟩⟩) (λc pre W W' row hI hgr hr=>hI.imp (λhI=>⟨hI.1,hI.2.1,hI.2.2.imp λ_ h=>turnM (kD (halivex pre)) hgr hr h⟩) (λhI=>⟨hI.1,hI.2.1,hI.2.2.imp λ_ h=>turnM (kD (halivey pre)) hgr hr h⟩)) ⟨hI,τ0,hR0,hmt⟩
  (λx a' W=>∃ B,a'=act x B/\w.heap.size<=B/\(∀ eb adb n cap b o,σ[ib]?=some eb->eb.ad=some adb->0<cap->W.cell? ⟨adb.block,0,none⟩=some (.slice (some ⟨b,o,none⟩) n cap)->B≠b)/\(∃ pre τ,Rnd O σ w pinR ib τ W/\Mod O pin w0 I0 W τ (mk fn.ntmps kv (accH (Hb pre) (nn pre) sz (gg pre))) a)/\W.heap[B]?=some (.cells (ev x).cells t (0,0)))
  ?_ ?_ ?_ ?_ ?_
 ·
  rintro x a' _ W W' row ⟨B,h1,h2,h4,⟨pre,τ,hR,h0⟩,h3⟩ hgr hr;have hk:=uo h0 hgr λr e=>⟨bP hm.since.ext.size (hr r e).1,(hr r e).2⟩
  refine⟨B,h1,h2,λeb adb n cap b o g1 g2 g3 g4=>h4 eb adb n cap b o g1 g2 g3 ?_,⟨pre,τ,rndG hgr hr hR,turnM (nomap pre) hgr hr h0⟩,hk.cells _ _ _ _ h3⟩
  have hb1:(mk fn.ntmps kv (accH (Hb pre) (nn pre) sz (gg pre))).heap[ib]?=some (.box [.osl pinR sz 0 (nn pre)]):=by
   simp only [mk,accH]; rw [bL (by rw [(hA pre).len]; exact hib)]; exact(hA pre).box
  rw [<- hR.same ib hib] at g1;obtain⟨ad2,vs2,el2,k1,_,k3,_⟩:=h0.hp.blk ib eb _ g1 hb1;rw [g2] at k1; cases k1;have hs:zT (λ_=>False) W W':=zT.grown hgr λr e=>(hr r e).2
  have k4:=hs.2 _ _ _ _ (λh=>h) k3;simp only [World.cell?,k4] at g4;simp only [World.cell?,k3];exact g4
 ·
  rintro l pre x W K ⟨hIp,τ,hR,hM⟩ hK
  have htpv:((a.tmps.setIfInBounds tp (ev x)).setIfInBounds tq (ew x)).getD tp undef=ev x:=by
   simp only [bQ];rw [Array.getElem?_setIfInBounds_ne (Ne.symm hd1)];simp [hsz,htp]
  have hx:=hkeep hR x;have hcl:=zN (hcs x).1 hx
  suffices hgoal:Code.wpIn (FM (some l)) 0 P (.seq (.region id #[o1,o2] false) (.region id2 #[o3] false)) (Exit.then K (λ_ _ _=>False)) { tmps:=(a.tmps.setIfInBounds tp (ev x)).setIfInBounds tq (ew x),defers:=[] } W by simpa [FM] using hgoal
  refine zgo (zca ho1 ho2 hz hn hzl hd2 (by simp [hsz,htd]) (by rw [htpv]; have:=hcl.length; simp at this; rw [<- (hcs x).2.1]; omega) ?_ λW' hB hgr=>Vb ho3 ho4 ho5 ?_)
  ·rw [htpv];intro u hu;obtain⟨j,hj,hju⟩:=List.mem_iff_getElem.1 hu;have hl:=hcl.length;have hj':j<(cs x).length:=by omega
   exact jz (bG.1 (hcs x).2.2.1 _ (bK hj')) ((zn.1 hcl).2 j (cs x)[j] u (aF hj') (by rw [aF hj,hju]))
  ·rw [htpv] at hB;have hI:=turnM (nomap pre) hgr (λr e=>by cases e) hM
   have htqv:(((a.tmps.setIfInBounds tp (ev x)).setIfInBounds tq (ew x)).setIfInBounds td (.pointer (some ⟨W.heap.size,0,none⟩))).getD tq undef=ew x:=by
    simp only [bQ];rw [Array.getElem?_setIfInBounds_ne hd3];simp [hsz,htq]
   rw [htqv];refine hK _ W' ⟨hgr.size,λk o _ ho _=> ?_⟩ (zT.grown hgr λr e=>by cases e) ⟨hIp,τ,rndG hgr (λr e=>by cases e) hR,hI⟩ ⟨W.heap.size,rfl,hR.ext.size,λeb adb n cap b o g1 g2 g3 g4=> ?_,⟨pre,τ,rndG hgr (λr e=>by cases e) hR,hI⟩,hB⟩
   ·rw [hgr.block k (aQ.1 ho).1 (by simp)]; exact ho
   ·have hb1:(mk fn.ntmps kv (accH (Hb pre) (nn pre) sz (gg pre))).heap[ib]?=some (.box [.osl pinR sz 0 (nn pre)]):=by
     simp only [mk,accH]; rw [bL (by rw [(hA pre).len]; exact hib)]; exact(hA pre).box
    rw [<- hR.same ib hib] at g1;obtain⟨ad2,vs2,el2,k1,k2,k3,k4⟩:=hM.hp.blk ib eb _ g1 hb1;rw [g2] at k1; cases k1;have hs:zT (λ_=>False) W W':=zT.grown hgr λr e=>by cases e
    have k5:=hs.2 _ _ _ _ (λh=>h) k3;simp only [World.cell?,k5] at g4;simp only [RepL,Rep] at k4;obtain⟨v,r,rfl,⟨e',he',hle,a0,cap',rfl,hcap,hc⟩,rfl⟩:=k4;simp at g4;obtain⟨rfl,rfl,rfl⟩:=g4;rcases hc with h0 | ⟨ad,had,ha0,cs,el2,hcs,_⟩
    ·omega
    ·cases ha0;have:=(aQ.1 hcs).1;omega
 ·
  rintro l pre x a' W hl _ ⟨hIp,τ,hR,hM⟩ ⟨B,rfl,hBs,hBn,_,hB⟩ hpre;have hx:=hkeep hR x;have hcl:=zN (hcs x).1 hx
  have hnB:¬ Own O τ B:=by
   rintro(hO | hb)
   ·have:=hOB B hO; omega
   ·obtain⟨i,e,ad,h1,h2,h3⟩:=zq.1 hb;have hi:i<pinR+1:=by have:=(aG.1 h1).1; rw [hR.len] at this; exact this
    rcases aR i pinR with h4 | h4
    ·rw [hR.same i h4] at h1;have:=hlow0 i e ad h4 h1 h2;omega
    ·have:i=pinR:=by omega
     subst this;obtain⟨_,eb,adb,n,cap,o,k1,k2,k3,k4⟩:=hR.norm e ad h1 h2;rw [hR.same ib hib] at k1;exact hBn eb adb n cap _ o k1 k2 k3 k4 h3.symm
  have hno:∀ u b y,av x≠.opt u b y:=λu b y e=>by have:=(hcs x).1; rw [e] at this; simp [cellsOf] at this
  have hxT:∀ T,TRep (Own O τ) W τ T (av x) (ev x):=by
   intro T;generalize av x=y at hx hno;cases y with
   | opt t b z=>exact absurd rfl (hno t b z)
   | _=>simpa only [TRep] using hx
  have hy:=hkeep2 hR x
  have hyT:∀ T,TRep (Own O τ) W τ T (bv x) (ew x):=by
   intro T;have hf:=hbv x;generalize bv x=y at hy hf;cases y with
   | opt t b z=>simp [xP] at hf
   | _=>simpa only [TRep] using hy
  have hptr:Rep (Own O τ) W (.iptr n λo=>(cs x).getD o .undef) τ (.pointer (some ⟨B,0,none⟩)):=by
   simp only [Rep];refine⟨⟨B,0,none⟩,rfl,rfl,λo ho=>⟨hnB,?_⟩⟩;have hlen2:=hcl.length;have ho':o<(cs x).length:=by rw [(hcs x).2.1]; exact ho
   refine⟨(ev x).cells.toList[o]'(by omega),?_,?_⟩
   ·simp only [World.cell?,hB,Nat.zero_add];simp
   ·have:=(zn.1 hcl).2 o (cs x)[o] _ (aF ho') (aF (by omega));have hf:=bG.1 (hcs x).2.2.2 _ (bK ho');simp only [List.getD,aF ho',Option.getD_some];exact ZI hf this
  have hM2:Mod O pinR W τ W τ (mk fn.ntmps ((te,bv x)::(td,.iptr n λo=>(cs x).getD o .undef)::(tq,bv x)::(tp,av x)::kv) (accH (Hb pre) (nn pre) sz (gg pre))) (act x B):=by
   refine⟨hM.good,hM.hp,by simp [act,mk,pk,hsz],λu=> ?_,Marks.nil _ _ _,Stp.refl _ _ _ _,hM.good.stat⟩;by_cases hu:u<fn.ntmps
   ·simp only [mk];rw [ja hu];by_cases h0:te=u
    ·subst h0;simp only [look,if_true];have:(act x B).tmps.getD te undef=ew x:=by simp [act,hsz,hu]
     rw [this]; exact hyT _
    have e0:(act x B).tmps.getD u undef=(((a.tmps.setIfInBounds tp (ev x)).setIfInBounds tq (ew x)).setIfInBounds td (.pointer (some ⟨B,0,none⟩))).getD u undef:=by
     simp only [act,bQ];rw [Array.getElem?_setIfInBounds_ne h0]
    rw [e0];by_cases h1:td=u
    ·subst h1;simp only [look,aO h0,if_true];have:(((a.tmps.setIfInBounds tp (ev x)).setIfInBounds tq (ew x)).setIfInBounds td (.pointer (some ⟨B,0,none⟩))).getD td undef = .pointer (some ⟨B,0,none⟩):=by simp [hsz,hu]
     rw [this]; simpa only [TRep] using hptr
    ·have e1:(((a.tmps.setIfInBounds tp (ev x)).setIfInBounds tq (ew x)).setIfInBounds td (.pointer (some ⟨B,0,none⟩))).getD u undef=((a.tmps.setIfInBounds tp (ev x)).setIfInBounds tq (ew x)).getD u undef:=by
      simp only [bQ];rw [Array.getElem?_setIfInBounds_ne h1]
     rw [e1];by_cases h3:tq=u
     ·subst h3;simp only [look,aO h0,aO h1,if_true];have:((a.tmps.setIfInBounds tp (ev x)).setIfInBounds tq (ew x)).getD tq undef=ew x:=by simp [hsz,hu]
      rw [this]; exact hyT _
     have e3:((a.tmps.setIfInBounds tp (ev x)).setIfInBounds tq (ew x)).getD u undef=(a.tmps.setIfInBounds tp (ev x)).getD u undef:=by
      simp only [bQ];rw [Array.getElem?_setIfInBounds_ne h3]
     rw [e3];by_cases h2:tp=u
     ·subst h2;simp only [look,aO h0,aO h1,aO h3,if_true];have:(a.tmps.setIfInBounds tp (ev x)).getD tp undef=ev x:=by simp [hsz,hu]
      rw [this]; exact hxT _
     ·simp only [look,aO h0,aO h1,aO h3,aO h2]
      have e2:(a.tmps.setIfInBounds tp (ev x)).getD u undef=a.tmps.getD u undef:=by
       simp only [bQ];rw [Array.getElem?_setIfInBounds_ne h2]
      rw [e2];have:=hM.tm u;simp only [mk] at this;rw [ja hu] at this;have hl:lowB pinR (look kv u)=true:=bG.1 hlow (look kv u) (by simp only [pk,List.mem_map,List.mem_range]; exact⟨u,hu,rfl⟩);generalize look kv u=y at this hl;cases y with
      | opt u b z=>exact absurd rfl (jN hl u b z)
      | _=>simpa only [TRep] using this
   ·have:(mk fn.ntmps ((te,bv x)::(td,.iptr n λo=>(cs x).getD o .undef)::(tq,bv x)::(tp,av x)::kv) (accH (Hb pre) (nn pre) sz (gg pre))).tmps.getD u .undef = .undef:=by simp [mk,pk,List.getD,hu]
    rw [this]; simp [TRep,Rep]
  have hr:=round l pre x hIp hpre W τ W τ _ hM2;simp only [wpK] at hr
  have hkf:∀ (W':World) (τ':List SE) (st':St) (a':Act),Mod O pinR W τ W' τ' st' a'->KeepsFrom w.heap.size W W':=by
   intro W' τ' st' a' h2;have hx:=h2.since.ext;refine⟨hx.size,λb o hb ho hoc=> ?_⟩;have hlt:=(aQ.1 ho).1;rw [<- ho];by_cases hO:O b
   ·exact h2.since.jK b hO hlt
   ·refine hx.keep b hlt ?_;rintro(h3 | h3)
    ·exact hO h3
    ·rcases mineT hR b h3 with h4 | ⟨cs,el,hcs⟩
     ·omega
     ·rw [ho] at hcs; cases hcs; simp [Obj.isCells] at hoc
  have fin:∀ (Hh:Heap) (st':St) (W':World) (τ':List SE) (a':Act),LeK pinR fn.ntmps [] st'.heap [] Hh->Mod O pinR W τ W' τ' st' a'->KeepsFrom w.heap.size W W'/\Mod O pinR W τ W' (τ'.take (mk fn.ntmps [] Hh).heap.length) (mk fn.ntmps [] Hh) { tmps:=Array.replicate fn.ntmps undef,defers:=[] } /\ Mod O pin w0 I0 W' (τ'.take (mk fn.ntmps [] Hh).heap.length) (mk fn.ntmps kv Hh) a:=by
   intro Hh st' W' τ' a' hL hM';have h1:=KU (n:=fn.ntmps) hM';have h2:=hL.le.mod h1;exact⟨hkf _ _ _ _ hM',h2,YB hM hlow hpin h2⟩
  refine wpIn_mono hr λe a' W' h=> ?_
  cases e with
  | normal=>
   simp only [wpK] at h;obtain⟨st,τ',⟨kv',h',hL,rfl⟩,hM'⟩:=h;rcases hL with ⟨_,hIx,hL⟩ | ⟨h0,_⟩
   rotate_left
   ·simp [jc] at h0
   obtain⟨h1,h2,h3⟩:=fin _ (mk fn.ntmps kv' h') _ _ _ hL hM';obtain⟨τ2,q1,q2,q3,q4⟩:=Y4 h3 (hA (pre++[x])) hlow hpin
   have hsame:∀ i,i<pinR->τ2[i]?=σ[i]?:=λi hi=>by
    rw [q1 i hi,<- hR.same i hi];have hlt:i<τ.length:=by rw [hR.len]; omega
    have:=(h2.since.hold i _ hi (aF hlt)).1;rw [this,aF hlt]
   have hxe:Ext (Own O σ) w (Own O τ2) W':=by
    have h5:=hR.ext.trans h2.since.ext;exact⟨h5.os,h5.tape,h5.output,h5.size,h5.keep,λb hb=>h5.grow b (q3 b hb)⟩
   refine⟨h1,?_,hIx,τ2,⟨hsame,hxe,q4,hlenM q2⟩,q2⟩;refine⟨h2.since.ext.size,λb cs el fr hb hc=> ?_⟩;rw [h2.since.ext.keep b (aQ.1 hc).1 λho=>hb (hR.ext.grow b ho)];exact hc
  | ret=>
   simp only [wpK] at h;rcases h with ⟨_,st,τ',⟨hX,hL⟩,hM'⟩ | ⟨_,_,h,_⟩
   rotate_left
   ·exact h.elim
   obtain⟨h1,_,h3⟩:=fin _ st _ _ _ hL hM';exact⟨h1,.inl ⟨rfl,hX,_,h3⟩⟩
  | exit i=>
   simp only [wpK] at h;split at h
   ·rename_i hi;obtain⟨st,τ',⟨kv',h',hL,rfl⟩,hM'⟩:=h;rcases hL with ⟨h0,_⟩ | ⟨_,hY,hL⟩
    ·simp [jc] at h0
    obtain⟨h1,_,h3⟩:=fin _ _ _ _ _ hL hM';exact⟨h1,.inr ⟨by rw [hi],hY,_,h3⟩⟩
   ·exact absurd h (by simp)
  | goto t=>simp only [wpK] at h; exact absurd h (by simp)
  | panic ch=>simp only [wpK] at h; exact absurd h (by simp)
  | outgrown=>simp only [wpK] at h; exact absurd h (by simp)
 ·
  rintro D xs W hD hS ⟨hIp,τ,hR,hM⟩ hWD;exact done xs hS hIp W τ _ (push D _ W τ (rndM hR) hD hWD hM)
 ·rintro D c pre W hD hSp (⟨rfl,hX,E1,hM⟩ | ⟨rfl,hY,E1,hM⟩) hWD
  rotate_left
  ·exact wpIn_exit (yu (hex ⟨_,hY⟩) (leave pre hSp hY W E1 _ (push D _ W E1 (aliveM (halivey pre) hM) hD hWD hM)))
  refine wpIn_ret (xJ (.inl ⟨.inl rfl,mk fn.ntmps kv (Hx pre),E1,stop pre hSp hX,push D _ W E1 (aliveM (halivex pre) hM) hD hWD hM⟩))
end
end Go.Sx
end
section
set_option maxRecDepth 100000
open Go Go.Sx Go.Proofs Go.Nov
namespace Go.Proofs.Tryz
attribute [local simp] eqKV eqA eqA0 eqH eqB eqL eqL0
def zni:Ctr:=ctrT false false (λs:List Ver=>[verA s]) (λ_=>[]) (λ_=>True) (λ_ (_:Unit)=>True) (λs _=>(.fn 58 [] [.ptr 0 0],[.box [.sl s.length 13 (verG s)]]))
theorem zm5:zd prog 37 zni:=by
 refine zK (fn:=f37) (c:=f37.body.getD .skip) rfl rfl rfl (λh=>by cases h) λs hp O w0 I0 Q hl hq=> ?_
 have h0:I0=[]:=aU.1 (by simpa using hl);subst h0;refine zb.n zC [0] (.R [.fn 58 [] [.ptr 0 0]] [.box [.sl s.length 13 (verG s)]]) ?_;simp only [Tree.holds,ze];refine RetR.out1 0 (by simp) (hq () trivial) (λh=>by cases h) (by simp [resV,exp2,exp1,exp0,zE,ren0,eqA2]) ?_;simp only [expB,exp1,List.map_cons,List.map_nil,exp0];exact⟨⟨rfl,rfl,za _ _ _⟩,trivial⟩
theorem zhr{own:Nat->Prop}{w:World}{σ:List SE}{v:Ver}{vs:List Value}(h:RepL own w v.cells σ vs) :
  ∃ (p q r:Option Addr) (l m n:Nat),vs=[.i v.day,.int .u8 v.con.kind,.string ⟨v.con.src.toArray⟩,.string ⟨v.con.dst.toArray⟩,.string ⟨v.con.name.toArray⟩,.int .u8 v.con.x.kind,.string ⟨v.con.x.rat.toArray⟩,.string ⟨v.con.x.name.toArray⟩,.i v.con.x.date,.slice p v.con.x.sub.length l,.i v.con.date,.slice q v.con.days.length m,.slice r v.con.sub.length n]:=by
 simp only [Ver.cells,RepL] at h;obtain⟨v0,_,rfl,h0,v1,_,rfl,h1,v2,_,rfl,h2,v3,_,rfl,h3,v4,_,rfl,h4,v5,_,rfl,h5,v6,_,rfl,h6,v7,_,rfl,h7,v8,_,rfl,h8,v9,_,rfl,h9,v10,_,rfl,h10,v11,_,rfl,h11,v12,_,rfl,h12,rfl⟩:=h;obtain⟨p,l,rfl⟩:=yS h9;obtain⟨q,m,rfl⟩:=yS h11;obtain⟨r,n,rfl⟩:=yS h12;simp only [Rep] at h0 h1 h2 h3 h4 h5 h6 h7 h8 h10;subst h0 h1 h2 h3 h4 h5 h6 h7 h8 h10;exact⟨p,q,r,l,m,n,rfl⟩
theorem zrr{own own2:Nat->Prop}{w:World}(ho2:∀ b,own2 b->own b\/w.heap.size<=b){s:List Ver}{v:Value}(h:Rep own w (.sl s.length 13 (verG s)) [] v) :
  ∃ (a:Option Addr) (cap:Nat) (L:List VT),v = .slice a L.length cap/\L.length=s.length/\(∀ i t,L[i]?=some t->Rep own w (s.getD i Ver.nil).av [] t.val/\t.f=(s.getD i Ver.nil).day) /\
   ∀ i t,L[i]?=some t->∃ ad B o,a=some ad/\ad.add (i*13)=⟨B,o,none⟩/\∀ W,zT own2 w W->∀ (k:Nat) (u:Value),t.cells[k]?=some u->W.cell? ⟨B,o+k,none⟩=some u:=by
 simp only [Rep] at h;obtain⟨a,cap,rfl,_,hz | ⟨ad,rfl,hspot,hcells⟩⟩:=h
 ·refine⟨a,cap,[],?_,?_,?_,?_⟩
  ·rw [hz]; rfl
  ·rw [hz]; rfl
  ·intro i t h; simp at h
  ·intro i t h; simp at h
 have elt:∀ i,i<s.length->∃ t:VT,(Rep own w (s.getD i Ver.nil).av [] t.val/\t.f=(s.getD i Ver.nil).day)/\∀ W,zT own2 w W->∀ (k:Nat) (u:Value),t.cells[k]?=some u->W.cell? ⟨ad.block,ad.off+i*13+k,none⟩=some u:=by
  intro i hi;have cells:∀ o,o<13->¬ own ad.block/\∃ u,w.cell? ⟨ad.block,ad.off+(i*13+o),none⟩=some u/\u.oneCell'=true/\Rep own w (Ver.cell (s.getD i Ver.nil).day (s.getD i Ver.nil).con o) [] u:=λo ho=>hcells i o hi ho
  generalize s.getD i Ver.nil=e at cells;obtain⟨hnb,u0,c0,_,r0⟩:=cells 0 (by decide);obtain⟨_,u1,c1,_,r1⟩:=cells 1 (by decide);obtain⟨_,u2,c2,_,r2⟩:=cells 2 (by decide);obtain⟨_,u3,c3,_,r3⟩:=cells 3 (by decide);obtain⟨_,u4,c4,_,r4⟩:=cells 4 (by decide);obtain⟨_,u5,c5,_,r5⟩:=cells 5 (by decide);obtain⟨_,u6,c6,_,r6⟩:=cells 6 (by decide);obtain⟨_,u7,c7,_,r7⟩:=cells 7 (by decide);obtain⟨_,u8,c8,_,r8⟩:=cells 8 (by decide);obtain⟨_,u9,c9,_,r9⟩:=cells 9 (by decide);obtain⟨_,u10,c10,_,r10⟩:=cells 10 (by decide);obtain⟨_,u11,c11,_,r11⟩:=cells 11 (by decide);obtain⟨_,u12,c12,_,r12⟩:=cells 12 (by decide)
  have hrl:RepL own w e.cells [] [u0,u1,u2,u3,u4,u5,u6,u7,u8,u9,u10,u11,u12]:=by
   simp only [Ver.cells,RepL];exact⟨_,_,rfl,r0,_,_,rfl,r1,_,_,rfl,r2,_,_,rfl,r3,_,_,rfl,r4,_,_,rfl,r5,_,_,rfl,r6,_,_,rfl,r7,_,_,rfl,r8,_,_,rfl,r9,_,_,rfl,r10,_,_,rfl,r11,_,_,rfl,r12,rfl⟩
  obtain⟨p,q,r,l,m,n,hvs⟩:=zhr hrl;refine⟨⟨e.day,e.con.kind,⟨e.con.src.toArray⟩,⟨e.con.dst.toArray⟩,⟨e.con.name.toArray⟩,e.con.x.kind,⟨e.con.x.rat.toArray⟩,⟨e.con.x.name.toArray⟩,e.con.x.date,p,e.con.x.sub.length,l,e.con.date,q,e.con.days.length,m,r,e.con.sub.length,n⟩,⟨?_,rfl⟩,?_⟩
  ·simp only [Ver.av];rw [Rep];exact⟨_,by rw [hvs]; rfl,hrl⟩
  ·intro W hW k u hu;have hu2:[u0,u1,u2,u3,u4,u5,u6,u7,u8,u9,u10,u11,u12][k]?=some u:=by rw [hvs]; exact hu
   rw [Nat.add_assoc]
   have hlt:ad.block<w.heap.size:=by
    unfold World.cell? at c0;cases hh:w.heap[ad.block]? with
    | none=>simp [hh] at c0
    | some o=>exact(aQ.1 hh).1
   refine hW.cell (λh=>(ho2 _ h).elim hnb λh=>by omega) ?_;have hk:k<13:=by have:=(aG.1 hu2).1; simpa using this
   match k,hk with
   | 0,_=>cases hu2; exact c0
   | 1,_=>cases hu2; exact c1
   | 2,_=>cases hu2; exact c2
   | 3,_=>cases hu2; exact c3
   | 4,_=>cases hu2; exact c4
   | 5,_=>cases hu2; exact c5
   | 6,_=>cases hu2; exact c6
   | 7,_=>cases hu2; exact c7
   | 8,_=>cases hu2; exact c8
   | 9,_=>cases hu2; exact c9
   | 10,_=>cases hu2; exact c10
   | 11,_=>cases hu2; exact c11
   | 12,_=>cases hu2; exact c12
 classical
 let T:Nat->VT:=λi=>if h:i<s.length then(elt i h).choose else⟨0,0,default,default,default,0,default,default,0,none,0,0,0,none,0,0,none,0,0⟩
 have hget:∀ i t,((List.range s.length).map T)[i]?=some t->∃ h:i<s.length,t=(elt i h).choose:=by
  intro i t h;simp only [aN] at h;by_cases hi:i<s.length
  ·rw [List.getElem?_range hi] at h;simp only [Option.map_some,aE] at h;refine⟨hi,?_⟩;rw [<- h]; simp only [T]; rw [dif_pos hi]
  ·rw [aZ (by simp; omega)] at h; cases h
 refine⟨some ad,cap,(List.range s.length).map T,by simp,by simp,λi t h=> ?_,λi t h=> ?_⟩
 ·obtain⟨hi,rfl⟩:=hget i t h;exact(elt i hi).choose_spec.1
 ·obtain⟨hi,rfl⟩:=hget i t h;exact⟨ad,ad.block,ad.off+i*13,rfl,by obtain⟨ab,ao,as'⟩:=ad; simp only at hspot; subst hspot; exact Addr.add_lit ..,(elt i hi).choose_spec.2⟩
theorem zkh{O own2:Nat->Prop}{pin m:Nat}{w0 w:World}{I0 σ:List SE}{st:St}{a:Act}(hm:Mod O pin w0 I0 w σ st a){i:Nat}{s:List Ver}(hb:st.heap[i]?=some (.box [.sl s.length 13 (verG s)]))(hi:m<=i)(hn:s.length<=1000000)(ho2:∀ b,own2 b->OwnN O (σ.take m) w b){vb:List Value}(hv:RepL (Go.Sx.Own O σ) w [.ptr i 0] σ vb) :
  ∃ ev ew:Nat->Value,SeqStopsK Fence.wide 0 prog 58 vb.toArray (λx=> #[ev x,ew x]) (zT own2) (λxs=>xs=List.range s.length) (λpre=>pre <+: List.range s.length) s.length w/\(∀ i,Rep (Go.Sx.Own O (σ.take m)) w (s.getD i Ver.nil).av [] (ev i))/\∀ i,Rep (Go.Sx.Own O (σ.take m)) w (.i (endL s i)) [] (ew i):=by
 simp only [RepL,Rep] at hv;obtain⟨v,r,rfl,⟨e,ad,he,had,rfl⟩,rfl⟩:=hv;obtain⟨ad',vs,el,g1,g2,g3,g4⟩:=hm.hp.blk i e _ he hb;rw [had] at g1; cases g1
 have hnb:¬ Go.Sx.Own O (σ.take m) ad.block:=by
  rintro(hO | ⟨f,hf,ad2,h1,h2⟩)
  ·exact hm.good.dis i e ad he had hO
  ·obtain⟨j,hj⟩:=List.getElem?_of_mem hf;have hjm:j<m:=by have:=(aG.1 hj).1; simp at this; omega
   rw [bR,aP hjm] at hj;exact hm.hp.inj j i f e ad2 ad hj he h1 had (by omega) h2
 have hlt:=hm.hp.lt i e ad he had;simp only [RepL] at g4;obtain⟨v0,_,rfl,g4,rfl⟩:=g4
 have g5:Rep (Go.Sx.Own O (σ.take m)) w (.sl s.length 13 (verG s)) [] v0:=by
  simp only [Rep] at g4 ⊢;obtain⟨a1,cap1,k1,k2,k3⟩:=g4;refine⟨a1,cap1,k1,k2,k3.imp id λ⟨ad1,q1,q2,q3⟩=>⟨ad1,q1,q2,λj o hj ho=> ?_⟩⟩;obtain⟨q4,c,q5,q6,q7⟩:=q3 j o hj ho;exact⟨λh=>q4 (Wr h),c,q5,q6,j1 (λb hb=>Wr hb) q7⟩
 obtain⟨a1,cap,L,rfl,hL,hval,hmem⟩:=zrr (own2:=own2) ho2 g5;rw [g2];have hnb2:¬ own2 ad.block:=λh=>(ho2 _ h).elim hnb λh=>by omega
 clear ho2;generalize Go.Sx.Own O (σ.take m)=own at *
 refine⟨λi=>if h:i<L.length then(L[i]).val else .agg #[.i 0,.int .u8 0,.string ⟨#[]⟩,.string ⟨#[]⟩,.string ⟨#[]⟩,.int .u8 0,.string ⟨#[]⟩,.string ⟨#[]⟩,.i 0,.slice none 0 0,.i 0,.slice none 0 0,.slice none 0 0],λi=>.i (endL s i),?_,λi=> ?_,λi=>by simp [Rep]⟩
 ·intro l J Jx W hW hJ hJx hY h0;have hK:zT own2 w W:=⟨hW.size,λb cs el fr _ hc=>by rw [hW.block b (aQ.1 hc).1]; exact hc⟩
  have hend:∀ i,i<L.length->endV L i=endL s i:=by
   intro i hi;unfold endV endL;by_cases h:i+1<L.length
   ·rw [aF h,aP (by omega)];exact(hval (i+1) _ (aF h)).2
   ·rw [aZ (by omega),aO (by omega)]
  refine CallsIn.mono (Tryz.zh4 Fence.wide rfl trivial rfl l 0 ad.block L a1 cap (λW=>zT own2 w W) (zT own2) J Jx (λpre A B h hg=>hJ _ _ _ none h hg λr e=>by cases e)
   (λA B C h k=>h.trans k) (λA B hg=>zT.grown hg λr e=>by cases e) (λA B h k=>h.trans k) (λW h=>h.cell hnb2 ?_) (by omega) hmem ?_ W hK h0) ?_
  ·simp only [World.cell?,g3]; rfl
  ·intro m1 i t W1 ht hj _;have hi:i<L.length:=(aG.1 ht).1;have hti:L[i]=t:=(aG.1 ht).2;have:=hY (List.range i) i W1 hj (by rw [List.length_range]; omega);simp only [dif_pos hi,hti,<- hend i hi] at this;refine Wt rfl m1 (YieldAt.mono this ?_);rintro e W' (⟨rfl,h2,h3⟩ | ⟨rfl,h2⟩)
   ·exact .inl ⟨rfl,by rw [List.range_succ]; exact h2,h3⟩
   ·exact .inr ⟨rfl,by rw [List.range_succ]; exact h2⟩
  ·rintro e W' ⟨hv,h⟩;refine⟨hv,?_⟩;rcases h with h | ⟨i,hi,h⟩
   ·exact .inl ⟨_,by rw [hL],h⟩
   ·exact .inr ⟨_,ZC (by omega),h⟩
 ·by_cases hi:i<L.length
  ·simp only [dif_pos hi];exact(hval i _ (aF hi)).1
  ·simp only [dif_neg hi];have:s.getD i Ver.nil=Ver.nil:=by simp only [List.getD]; rw [aZ (by omega)]; rfl
   rw [this];simp only [Ver.av,Ver.cells];rw [Rep];refine⟨_,rfl,?_⟩;simp only [RepL,Rep];exact⟨_,_,rfl,rfl,_,_,rfl,rfl,_,_,rfl,rfl,_,_,rfl,rfl,_,_,rfl,rfl,_,_,rfl,rfl,_,_,rfl,rfl,_,_,rfl,rfl,_,_,rfl,rfl,_,_,rfl,⟨none,0,rfl,aJ _,.inl rfl⟩,_,_,rfl,rfl,_,_,rfl,⟨none,0,rfl,aJ _,.inl rfl⟩,_,_,rfl,⟨none,0,rfl,aJ _,.inl rfl⟩,rfl⟩
noncomputable def K97:=Go.Sx.aA f97
noncomputable def K62:=Go.Sx.aA f62
def zda(n:Nat):Ctr:=ctrP true (λx:Ex=>[x.exA]) (λx=>x.size<n/\x.size<2^62) (λx r=>r=x.depth) (λ_ (r:Nat)=>(.i (r:Int),[]))
def SEd(s:List Ex)(c i:Nat):KV:=[(3,.i (c:Int)),(7,Ex.exS s),(8,.i (s.length:Int)),(9,.i (i:Int))]
theorem Y9(n:Nat)(ih:zd prog 97 (zda n)):zd prog 97 (zda (n+1)):=by
 refine zf' f97 λx hp O w0 Q hq=> ?_
 obtain⟨hxn,hxs⟩:=hp;replace hq:=hq _ rfl;have hds:=Ex.jG x;rw [Ex.xj] at hq hds;rw [Ex.size_eq] at hxn hxs hds;obtain⟨k,r,m,d,s⟩:=x;simp only [Ex.sub] at hxn hxs hq hds;have hlen:=Ex.qp s;refine zb.n (vF ih) [3,7,8,9] (.leaf (.loop (lps K97 0).1 (lps K97 0).2 [(3,.i 0),(7,.sl s.length 5 (Ex.exG s)),(8,.i s.length),(9,.i 0)] [.box [.int .u8 k,.str r,.str m,.i d,.sl s.length 5 (Ex.exG s)]])) ?_;simp only [Tree.holds,ze,inR,lo,hi,aD];refine zb.loop (ι:={i:Nat // i<=s.length}) (λi=>SEd s (Ex.zz (s.take i.1)) i.1) (λ_=>[]) (λi=>s.length - i.1) ⟨0,aI _⟩ 0 ?_ ?_ (by kernel_rfl)
 ·exact⟨by simp [SEd,Ex.zz,Ex.exS,za],by simp,by kernel_rfl,aI _⟩
 ·rintro⟨i,hil⟩;have hcb:Ex.zz (s.take i)<=Ex.zz s:=Ex.WQ s i;obtain⟨c,hc⟩:∃ c,Ex.zz (s.take i)=c:=⟨_,rfl⟩;simp only [hc];refine zb.n (vF ih) [3,7,8,9] (let v1:=s.getD (i:Int).toNat Ex.nil;.D ((i:Int)<s.length) (.side ((0:Int)<=i/\(i:Int)<s.length) (.ex (λ(x:Ex)=>eqL [(exD v1)] [x.exA]/\Ex.size x<n/\Ex.size x<4611686018427387904) λn=>.all (λ(r:Nat)=>r=Ex.depth n) λn=>.S (i+1) (.leaf (.back 0 [(3,.i (max (c:Int) (n:Int))),(7,.sl s.length 5 (Ex.exG s)),(8,.i s.length),(9,.i (i+1))] [.box (Ex.cellsD v1)])))) (.S (c+1) (.R [.i (c+1)] []))) ?_;simp only [Tree.holds,ze,inR,lo,hi,aD];refine⟨λhlt=> ?_,λhge=> ?_⟩
  ·have hlt:i<s.length:=by have:=aB hlt; omega
   have hg:=Ex.zO hlt;have ht:=Ex.ve s i hlt;refine⟨by omega,λ_=>⟨s.getD i Ex.nil,⟨⟨⟨⟨rfl,rfl⟩,rfl,rfl,⟨rfl,rfl⟩,⟨rfl,rfl,Ex.zZ _⟩,trivial⟩,trivial⟩,by omega,by omega⟩,⟨_,rfl⟩,?_⟩⟩;rintro _ rfl;refine⟨by omega,λ_=> ?_⟩;rw [aP trivial];refine⟨⟨i+1,hlt⟩,by show s.length - (i+1)<s.length - i; omega,?_,by simp,by kernel_rfl,aI _⟩;simp [SEd,ht,hc,Ex.exS,za]; omega
  ·have hge:i=s.length:=by have:=aC hge; omega
   subst hge;rw [bD] at hc;refine⟨by omega,λ_=> ?_⟩;exact RetR.scal hq rfl (by simp [resV]; omega)
def V0:Ctr:=ctrP true (λx:Ex=>[x.exA]) (λx=>x.size<2^62) (λx r=>r=x.depth) (λ_ (r:Nat)=>(.i (r:Int),[]))
theorem zgp:zd prog 97 V0:=qY Ex.size Y9
theorem kJ(e:Con):eqA (.agg [.int .u8 e.kind,.str e.src,.str e.dst,.str e.name,.int .u8 e.x.kind,.str e.x.rat,.str e.x.name,.i e.x.date,.sl e.x.sub.length 5 (Ex.exG e.x.sub),.i e.date,.sl e.days.length 1 (Con.dayG e.days),.sl e.sub.length 12 e.deep]) e.conA:=by
 simp only [Con.conA,Ex.exS,Con.dayS,Con.conS,eqA];exact⟨⟨rfl,rfl⟩,rfl,rfl,rfl,⟨rfl,rfl⟩,rfl,rfl,⟨rfl,rfl⟩,⟨rfl,rfl,za _ _ _⟩,⟨rfl,rfl⟩,⟨rfl,rfl,za _ _ _⟩,⟨rfl,rfl,Con.zZ e⟩,trivial⟩
theorem Jr(x:Ex):kS x<=x.size:=bP (Con.Km x) (Con.JG x)
def SCd(c:Con)(d i:Nat):KV:=[(3,.i (d:Int)),(14,Con.conS c.sub),(15,.i (c.sub.length:Int)),(16,.i (i:Int))]
def Z8(n:Nat):Ctr:=ctrP true (λc:Con=>[c.conA]) (λc=>c.nodes<n/\c.big<2^40) (λc r=>r=c.depth) (λ_ (r:Nat)=>(.i (r:Int),[]))
noncomputable def GDb:=tb X5 (tb zgp tz)
noncomputable def GDc(n:Nat):Nat->Option Ctr:=λf=>if f=62 then some (Z8 n) else GDb.g f
theorem zjf{n:Nat}(h:zd prog 62 (Z8 n)):∀ f c,GDc n f=some c->zd prog f c:=by
 intro f c hf;simp only [GDc] at hf;split at hf
 ·rename_i hg; subst hg; cases hf; exact h
 ·exact GDb.h f c hf
theorem Uq(n:Nat)(ih:zd prog 62 (Z8 n)):zd prog 62 (Z8 (n+1)):=by
 refine zf' f62 λc hp O w0 Q hq=> ?_
 obtain⟨hcn,hcb⟩:=hp;replace hq:=hq _ rfl;rw [Con.xj] at hq;refine zb.n (zjf ih) [3,14,15,16] (.ex (q25 [(Ex.exA c.x)]) λn=>.all (λ(r:Bool)=>r=qS n) λn=>.ite (!n) (.ex (q26 [(Ex.exA c.x)]) λn=>.all (λ(r:Nat)=>r=Ex.depth n) λn=>.leaf (.loop (lps K62 0).1 (lps K62 0).2 [(3,.i n),(14,.sl c.sub.length 12 (Con.conG c.sub)),(15,.i c.sub.length),(16,.i 0)] [.box (Con.zc c)])) (.leaf (.loop (lps K62 0).1 (lps K62 0).2 [(3,.i 0),(14,.sl c.sub.length 12 (Con.conG c.sub)),(15,.i c.sub.length),(16,.i 0)] [.box (Con.zc c)]))) ?_;simp only [q25,q26,Tree.holds,ze,inR,lo,hi,aD];have hb:=hcb;rw [Con.xn] at hb;rw [Con.jF] at hcn;have hxd:=Jr c.x;have hsd:=Con.zaf c.sub;have hl:=Con.JM c.sub
 have loop:∀ (d0:Nat) (h:Heap),d0=kS c.x->(∀ S,LeK 0 f62.ntmps S h S []->True)->h=[.box c.zc]->zb prog f62 O 0 w0 [] (λ_ _ _=>False) (RetR (Z8 (n+1)) 0 Q) (.code (.loop (lps K62 0).1)::(lps K62 0).2) (mk f62.ntmps [(3,.i (d0:Int)),(14,.sl c.sub.length 12 (Con.conG c.sub)),(15,.i (c.sub.length:Int)),(16,.i 0)] h):=by
  rintro d0 h rfl _ rfl;refine zb.loop (ι:={i:Nat // i<=c.sub.length}) (λi=>SCd c (max (kS c.x) (Con.zz (c.sub.take i.1))) i.1) (λ_=>[]) (λi=>c.sub.length - i.1) ⟨0,aI _⟩ 0 ?_ ?_ (by kernel_rfl)
  ·exact⟨by simp [SCd,Con.zz,Con.conS,za],by simp,by kernel_rfl,aI _⟩
  ·rintro⟨i,hil⟩;have hdb:Con.zz (c.sub.take i)<=Con.zz c.sub:=Con.Kt c.sub i;obtain⟨d,hd⟩:∃ d,max (kS c.x) (Con.zz (c.sub.take i))=d:=⟨_,rfl⟩;simp only [hd];refine zb.n (zjf ih) [3,14,15,16] (let v1:=List.getD c.sub (i:Int).toNat Con.nil;.D ((i:Int)<(c.sub.length:Int)) (.side ((0:Int)<=i/\(i:Int)<(c.sub.length:Int)) (.ex (λ(x:Con)=>eqL [(Con.conD v1)] [(Con.conA x)]/\Con.nodes x<n/\Con.big x<1099511627776) λn=>.all (λ(r:Nat)=>r=Con.depth n) λn=>.S (i+1) (.leaf (.back 0 [(3,.i (max (d:Int) (n:Int))),(14,.sl c.sub.length 12 (Con.conG c.sub)),(15,.i c.sub.length),(16,.i (i+1))] [.box (Con.xw v1)])))) (.S (d+1) (.R [.i (d+1)] []))) ?_;simp only [Tree.holds,ze,inR,lo,hi,aD];refine⟨λhlt=> ?_,λhge=> ?_⟩
   ·have hlt:i<c.sub.length:=by have:=aB hlt; omega
    have hg:=Con.je hlt;have hgb:=Con.Zy hlt;have ht:=Con.ve c.sub i hlt;refine⟨by omega,λ_=>⟨c.sub.getD i Con.nil,⟨⟨kJ _,trivial⟩,by omega,by omega⟩,⟨_,rfl⟩,?_⟩⟩;rintro _ rfl;refine⟨by omega,λ_=> ?_⟩;rw [aP trivial];refine⟨⟨i+1,hlt⟩,by show c.sub.length - (i+1)<c.sub.length - i; omega,?_,by simp,by kernel_rfl,aI _⟩;simp [SCd,ht,Con.conS,za]; omega
   ·have hge:i=c.sub.length:=by have:=aC hge; omega
    subst hge;rw [bD] at hd;refine⟨by omega,λ_=> ?_⟩;exact RetR.scal hq rfl (by simp [resV]; omega)
 refine⟨c.x,⟨⟨j2 c.x,trivial⟩,trivial⟩,⟨_,rfl⟩,?_⟩;rintro _ rfl;refine⟨λh=>⟨c.x,⟨⟨j2 c.x,trivial⟩,by show c.x.size<_; omega⟩,⟨_,rfl⟩,?_⟩,λh=> ?_⟩
 ·rintro _ rfl;exact loop c.x.depth _ (by unfold kS; rw [show qS c.x=false by simpa using h]; rfl) (λ_ _=>trivial) rfl
 ·exact loop 0 _ (by unfold kS; rw [show qS c.x=true by simpa using h]; rfl) (λ_ _=>trivial) rfl
def VZ:Ctr:=ctrP true (λc:Con=>[c.conA]) (λc=>c.big<2^40) (λc r=>r=c.depth) (λ_ (r:Nat)=>(.i (r:Int),[]))
theorem zgm:zd prog 62 VZ:=qY Con.nodes Uq
end Go.Proofs.Tryz
end
section
namespace Go.Sx
variable [Stat]
section
variable {P:Program}
theorem VV(a:AV):eqA0 a a:=by
 cases a<;>simp [eqA0]
 exactλ_ _ _ _=>rfl
theorem Qi:∀ l:List AV,eqL0 l l
 | []=>trivial
 | a::l=>⟨VV a,Qi l⟩
theorem zlo(a:AV):eqA a a:=by
 cases a with
 | agg l=>exact Qi l
 | tup l=>exact Qi l
 | _=>unfold eqA; exact VV _
theorem JF:∀ l:List AV,eqL l l
 | []=>trivial
 | a::l=>by
  unfold eqL;split
  ·rename_i h1 h2; cases h1
  ·rename_i h1 h2; cases h1; cases h2; exact JF l
  ·rename_i h1 h2; cases h1; cases h2; exact⟨zlo _,JF l⟩
  ·rename_i hx; exact(hx _ _ _ _ rfl rfl).elim
end
end Go.Sx
end
section
namespace Go.Sx
variable [Stat]
section
variable {P:Program} {Γ:Nat->Option Ctr} {fn:Func}
def inlC(P:Program)(Γ:Nat->Option Ctr)(n:Nat)(fn:Func):Ctr where
 fresh:=false
 spec args hc:=match fn.body with
  | some c=>(run P Γ hc.length n [.code c] (wJ fn args hc)).bind λlf=>match lf with
   | .ret st=>(resX P st fn.results.toList).bind λrs=>bif decide (hc.length<=st.heap.length) then .leaf (exp2 st.heap (List.range st.heap.length) (resV rs),expH st.heap (List.range st.heap.length)) else .fail
   | _=>.fail
  | none=>.fail
theorem nodup_range':∀ (n s:Nat),jR (List.range' s n)=true
 | 0,_=>rfl
 | n+1,s=>by
  rw [List.range'_succ];simp only [jR,bA];refine⟨?_,nodup_range' n (s+1)⟩;simp [bY,List.mem_range'_1]
theorem zf4(b:Blk):eqB b b:=by
 cases b with
 | dead=>trivial
 | box l=>exact JF l
 | arr n sz g=>exact⟨rfl,rfl,λ_ _ _ _=>rfl⟩
 | arrI k n f=>exact⟨rfl,λ_ _ _ _=>rfl⟩
 | arrS n f=>exact⟨rfl,λ_ _ _ _=>rfl⟩
 | map ag sh has get pe=>exact⟨⟨rfl,.inr rfl⟩,rfl,λ_=>rfl,λ_ _=>rfl⟩
theorem zgg(h:Heap):eqH h h:=by
 induction h with
 | nil=>trivial
 | cons b l ih=>exact⟨zf4 b,ih⟩
theorem zsy{g n:Nat}(hmix:P.follows .mixedOrders=true)(hΓ:∀ g c,Γ g=some c->zd P g c)(hf:P.funcs[g]?=some fn) (hn:(fn.name == "runtime.NumGoroutine")=false):zd P g (inlC P Γ n fn):=by
 intro args hc Q hq hfr;simp only [inlC] at hq;cases hb:fn.body with
 | none=>rw [hb] at hq; exact hq.elim
 | some c=>
  rw [hb] at hq;simp only [Tree.zm] at hq;refine qK.plain (zqw hf hb hn hfr λO w0 I0 hl=>Safe.run hmix (λg c h=>(hΓ g c h).x) n (Tree.qe (λlf h=> ?_) hq));cases lf with
  | ret st=>
   simp only [Tree.zm] at h;refine Tree.qe (λrs h=> ?_) h;cases hd:decide (hc.length<=st.heap.length) with
   | false=>rw [hd] at h; exact h.elim
   | true=>
    rw [hd] at h;have h:Q (exp2 st.heap (List.range st.heap.length) (resV rs),expH st.heap (List.range st.heap.length)):=h;have hd:=aB hd;exact⟨List.range st.heap.length,by rw [List.range_eq_range']; exact nodup_range' _ _,λi hi=>List.mem_range.1 hi,λj hj=>by rw [List.getElem?_range (by omega)],λh=>(by cases h),_,_,LeA.refl _,.inl (zgg _),by simp [expH],h⟩
  | _=>exact h.elim
end
end Go.Sx
end
section
set_option maxRecDepth 100000
open Go Go.Sx Go.Proofs Go.Nov
namespace Go.Proofs.Tryz
attribute [local simp] eqKV eqA eqA0 eqH eqB eqL eqL0
noncomputable def K105:=Go.Sx.aA f105
def zr3:Ctr:=ctrP true (λl:List Int=>[Con.dayS l]) (λl=>l.length<2^40) (λl r=>r=kU l) (λ_ (r:Bool)=>(.bool r,[]))
noncomputable def UO:Ctr:=inlC prog noG 100 f104
theorem KH:zd prog 104 UO:=zsy hmix zC rfl rfl
noncomputable def GDy:=tb KH tz
def zen(l:List Int)(i:Nat):Prop:=∀ j,j<i->dayB (l.getD j 0)=true/\(0<j->l.getD (j - 1) 0<l.getD j 0)
theorem zfc{l:List Int}(h1:1<=l.length)(h2:l.length<=100)(h:zen l l.length):kU l=true:=by
 unfold kU;rw [aX h1,aX h2,zsj (z:=0) λj hj=>(h j hj).1];simp only [Bool.true_and];unfold incB;refine JD λj hj=> ?_
 rw [zd7];exact(h (j+1) hj).2 (by omega)
theorem zkv{l:List Int}{i:Nat}(hi:i<l.length)(h:¬ (dayB (l.getD i 0)=true/\(0<i->l.getD (i - 1) 0<l.getD i 0))):kU l=false:=by
 unfold kU;by_cases hd:dayB (l.getD i 0)=true
 ·have h:0<i/\¬ l.getD (i - 1) 0<l.getD i 0:=by
   refine⟨?_,?_⟩
   ·rcases bC i with h0 | h0
    ·exact absurd ⟨hd,λh1=>by omega⟩ h
    ·exact h0
   ·exactλh1=>h ⟨hd,λ_=>h1⟩
  have:incB l=false:=by
   unfold incB;refine Jn (j:=i - 1) (by omega) ?_;rw [zd7,show i - 1+1=i by omega];exact h.2
  rw [this]; simp
 ·have:l.all dayB=false:=zou (z:=0) hi (by simpa using hd);rw [this]; simp
theorem zas{l:List Int}{i:Nat}(h:zen l i)(h1:dayB (l.getD i 0)=true/\(0<i->l.getD (i - 1) 0<l.getD i 0)):zen l (i+1):=λj hj=>by
 rcases aR j i with h2 | h2
 ·exact h j h2
 ·rw [show j=i by omega]; exact h1
theorem zde{l:List Int}{i:Nat}{b:Bool}(hb:b=dayB (l.getD i 0)):(bif !b then true else bif decide (0<(i:Int)) then decide (l.getD i 0<=l.getD ((i:Int) - 1).toNat 0) else false)=false↔(dayB (l.getD i 0)=true/\(0<i->l.getD (i - 1) 0<l.getD i 0)):=by
 have e:((i:Int) - 1).toNat=i - 1:=by omega
 rw [e,<- hb];cases b with
 | false=>simp
 | true=>
  by_cases h0:0<i
  ·have h1:0<(i:Int):=by omega
   rw [aX h1];simp only [Bool.not_true,cond_false,cond_true,aV,true_and];exact⟨λh _=>by omega,λh=>by have:=h h0; omega⟩
  ·have h1:¬ 0<(i:Int):=by omega
   rw [aW h1];simp [h0]
theorem zih{l:List Int}{i:Nat}{b:Bool}(hb:b=dayB (l.getD i 0)):(bif !b then true else bif decide (0<(i:Int)) then decide (l.getD i 0<=l.getD ((i:Int) - 1).toNat 0) else false)=true->¬ (dayB (l.getD i 0)=true/\(0<i->l.getD (i - 1) 0<l.getD i 0)):=λh g=>by
 rw [(zde hb).2 g] at h; cases h
def SDy(l:List Int)(i:Nat):KV:=[(0,Con.dayS l),(13,Con.dayS l),(14,.i (l.length:Int)),(15,.i (i:Int)),Z 24,Z 25,Z 26,Z 27,Z 28,Z 29,Z 30,Z 31,Z 32,Z 33,Z 34]
theorem zrj(d:Int):(bif decide (0<=d) then decide (d<=99999) else false)=dayB d:=by
 rw [Bool.eq_iff_iff];simp [dayB]
theorem zo8:zd prog 105 zr3:=by
 refine zf' f105 λl hl O w0 Q hq=> ?_
 replace hq:=hq _ rfl;refine zb.n GDy.h [0,13,14,15,24,25,26,27,28,29,30,31,32,33,34] (.ite (bif decide ((l.length:Int)<1) then true else decide ((100:Int)<l.length)) (.R [.bool false] []) (.leaf (.loop (lps K105 0).1 (lps K105 0).2 [(0,.sl l.length 1 (Con.dayG l)),(13,.sl l.length 1 (Con.dayG l)),(14,.i l.length),(15,.i 0),Z 24,Z 25,Z 26,Z 27,Z 28,Z 29,Z 30,Z 31,Z 32,Z 33,Z 34] []))) ?_;simp only [Tree.holds,ze,inR,lo,hi,aD];refine⟨λh=> ?_,λh=> ?_⟩
 ·have hb:kU l=false:=by
   unfold kU;by_cases h1:1<=l.length
   ·by_cases h2:l.length<=100
    ·rw [aW (by omega),aW (by omega)] at h; cases h
    ·rw [aW h2]; simp
   ·rw [aW h1]; simp
  rw [hb] at hq;exact RetR.scal hq rfl rfl
 have hlen:1<=l.length/\l.length<=100:=by
  by_cases h1:(l.length:Int)<1
  ·rw [aX h1] at h; cases h
  ·rw [aW h1] at h;have:=aC h;omega
 clear h;refine zb.loop (ι:={i:Nat // i<=l.length/\zen l i}) (λi=>SDy l i.1) (λ_=>[]) (λi=>l.length - i.1) ⟨0,aI _,λj hj=>by omega⟩ 0 ?_ ?_ (by kernel_rfl)
 ·exact⟨by simp [SDy,Con.dayS,za],by simp,by kernel_rfl,aI _⟩
 rintro⟨i,hil,hg⟩;refine zb.n GDy.h [0,13,14,15,24,25,26,27,28,29,30,31,32,33,34] (let v1:=l.getD (i:Int).toNat (0:Int)<=99999;.D ((i:Int)<l.length) (.side ((0:Int)<=i/\(i:Int)<l.length) (.side ((!bif decide ((0:Int)<=List.getD l (i:Int).toNat (0:Int)) then decide v1 else false)=false/\decide ((0:Int)<i)=true->inR .i64 (i-1)) (.side ((!bif decide ((0:Int)<=List.getD l (i:Int).toNat (0:Int)) then decide v1 else false)=false/\decide ((0:Int)<i)=true->(0:Int)<=i - (1:Int)/\(i:Int) - (1:Int)<l.length) (.ite (bif !bif decide ((0:Int)<=List.getD l (i:Int).toNat (0:Int)) then decide v1 else false then true else bif decide ((0:Int)<i) then decide (l.getD (i:Int).toNat (0:Int)<=List.getD l (Int.toNat (i-1)) (0:Int)) else false) (.R [.bool false] []) (.S (i+1) (.leaf (.back 0 [(0,.sl l.length 1 (Con.dayG l)),(13,.sl l.length 1 (Con.dayG l)),(14,.i l.length),(15,.i (i+1)),Z 24,Z 25,Z 26,Z 27,Z 28,Z 29,Z 30,Z 31,Z 32,Z 33,Z 34] []))))))) (.R [.bool true] [])) ?_;simp only [Tree.holds,ze,inR,lo,hi,aD];refine⟨λhlt=> ?_,λhge=> ?_⟩
 ·have hlt:i<l.length:=by have:=aB hlt; omega
  refine⟨by omega,λ_=>⟨λh=>(by have:=aB h.2; omega),λ_=>⟨λh=>(by have:=aB h.2; omega),λ_=>⟨λht=> ?_,λht=>⟨by omega,λ_=> ?_⟩⟩⟩⟩⟩
  ·rw [zkv hlt (zih (zrj _) ht)] at hq;exact RetR.scal hq rfl rfl
  ·rw [aP trivial];exact⟨⟨i+1,hlt,zas hg ((zde (zrj _)).1 ht)⟩,by show l.length - (i+1)<l.length - i; omega,by simp [SDy,Con.dayS,za],by simp,by kernel_rfl,aI _⟩
 ·have hge:i=l.length:=by have:=aC hge; omega
  subst hge;rw [zfc hlen.1 hlen.2 hg] at hq;exact RetR.scal hq rfl rfl
def bitB(p q:Int):Bool:=decide (((p.toNat &&& q.toNat:Nat):Int)≠0)
def HHas(p:Int):Heap:=[.box [.i p]]
def hasC:Ctr:=ctrT false false (λp:Int×Int=>[.i p.2,.ptr 0 0]) (λp=>HHas p.1) (λp=>0<=p.1/\p.1<512/\0<=p.2/\p.2<512) (λp r=>r=bitB p.1 p.2) (λp (r:Bool)=>(.bool r,HHas p.1))
theorem zld:zd prog 100 hasC:=by
 refine zK (fn:=f100) (c:=f100.body.getD .skip) rfl rfl rfl (λh=>by cases h) λp hp O w0 I0 Q hl0 hq=> ?_
 obtain⟨p,q⟩:=p;obtain⟨h1,h2,h3,h4⟩:=hp;replace hq:=hq _ rfl;simp only at h1 h2 h3 h4 hq;refine zb.n zC [] (.side (((0:Int)<=p/\p<=9223372036854775807)/\(0:Int)<=q/\q<=9223372036854775807) (.R [.bool !decide ((↑(Int.toNat p &&& Int.toNat q):Int)=0)] [.box [.i p]])) ?_;simp only [Tree.holds,ze,inR,lo,hi,aD];refine⟨by omega,λ_=> ?_⟩;refine RetR.keep [0] rfl rfl (by show ∀ j,j<1->_; decide) rfl hq ?_ ?_ rfl
 ·show(!decide (((p.toNat &&& q.toNat:Nat):Int)=0))=bitB p q;simp [bitB]
 ·exact⟨⟨⟨rfl,rfl⟩,trivial⟩,trivial⟩
noncomputable def GNd2:=tb zld (tb Xq tz)
def zqz(p:Int):Heap:=[.box [.fn 100 [] [.ptr 1 0]],.box [.i p]]
def w9(b:Bool)(s:L8):Bool:=if b=true then qE s else decide (s=[])
def zrm:Ctr:=ctrT false false (λp:Int×Int×L8=>[.i p.2.1,.str p.2.2,.ptr 0 0]) (λp=>zqz p.1) (λp=>0<=p.1/\p.1<512/\0<=p.2.1/\p.2.1<512/\p.2.2.length<2^62) (λp r=>r=w9 (bitB p.1 p.2.1) p.2.2) (λp (r:Bool)=>(.bool r,zqz p.1))
abbrev q27(A:List AV)(H:Heap)(x:Int×Int):Prop:=eqL A [.i x.2,.ptr 0 0]/\eqH H [.box [.i x.1]]/\1=1/\(0:Int)<=x.1/\x.1<512/\(0:Int)<=x.2/\x.2<512
theorem zot:zd prog 101 zrm:=by
 refine zK (fn:=f101) (c:=f101.body.getD .skip) rfl rfl rfl (λh=>by cases h) λp hp O w0 I0 Q hl0 hq=> ?_
 obtain⟨p,q,s⟩:=p;obtain⟨h1,h2,h3,h4,h5⟩:=hp;replace hq:=hq _ rfl;simp only at h1 h2 h3 h4 h5 hq;refine zb.n GNd2.h [] (.ex (q27 [.i q,.ptr 0 0] [.box [.i p]]) λn=>.all (λ(r:Bool)=>r=bitB n.1 n.2) λn_1=>.ex (λ(x:L8)=>n_1=true->q15 [.str s] x) λn_2=>.all (λ(x:Bool)=>n_1=true->x=qE n_2) λn_3=>.ite ((bif n_1 then n_3 else false) == false) (.ex (q27 [.i q,.ptr 0 0] [.box [.i n.1]]) λn=>.all (λ(r:Bool)=>r=bitB n.1 n.2) λn_4=>.R [.bool (bif bif n_1 then n_3 else false then true else bif !n_4 then decide (s=#[].toList) else false)] [.box [.fn 100 [] [.ptr 1 0]],.box [.i n.1]]) (.R [.bool (bif bif n_1 then n_3 else false then true else bif !false then decide (s=#[].toList) else false)] [.box [.fn 100 [] [.ptr 1 0]],.box [.i n.1]])) ?_;simp only [q15,q27,Tree.holds,ze,inR,lo,hi,aD];refine⟨(p,q),⟨⟨⟨rfl,rfl⟩,⟨rfl,rfl⟩,trivial⟩,⟨⟨⟨rfl,rfl⟩,trivial⟩,trivial⟩,trivial,h1,h2,h3,h4⟩,⟨_,rfl⟩,?_⟩;rintro b rfl;refine⟨s,λ_=>⟨⟨rfl,trivial⟩,h5⟩,⟨qE s,λ_=>rfl⟩,λm hm=>⟨λhb=> ?_,λhb=> ?_⟩⟩
 ·refine⟨(p,q),⟨⟨⟨rfl,rfl⟩,⟨rfl,rfl⟩,trivial⟩,⟨⟨⟨rfl,rfl⟩,trivial⟩,trivial⟩,trivial,h1,h2,h3,h4⟩,⟨_,rfl⟩,?_⟩;rintro b rfl;refine RetR.keep [0,1] rfl rfl (by show ∀ j,j<2->_; decide) rfl hq ?_ ?_ rfl
  ·simp only [exp2,exp1,exp0,resV,eqA2,w9];cases hbb:bitB p q with
   | true=>
    have:=hm hbb;rw [hbb] at hb;subst this;have:qE s=false:=by simpa using hb
    rw [this]; rfl
   | false=>simp; rfl
  ·exact⟨⟨rfl,trivial⟩,⟨⟨rfl,rfl⟩,trivial⟩,trivial⟩
 ·refine RetR.keep [0,1] rfl rfl (by show ∀ j,j<2->_; decide) rfl hq ?_ ?_ rfl
  ·simp only [exp2,exp1,exp0,resV,eqA2,w9];cases hbb:bitB p q with
   | true=>
    have:=hm hbb;rw [hbb] at hb;subst this;have:qE s=true:=by simpa using hb
    rw [this]; rfl
   | false=>rw [hbb] at hb; simp at hb
  ·exact⟨⟨rfl,trivial⟩,⟨⟨rfl,rfl⟩,trivial⟩,trivial⟩
noncomputable def GNd:=tb zld (tb zot (tb zsn (tb zla (tb X5 (tb KH (tb zo8 tz))))))
end Go.Proofs.Tryz
end
section
namespace Go.Sx
variable [Stat]
section
variable {O:Nat->Prop} {pin:Nat} {w0:World} {I0:List SE} {P:Program} {fn:Func} {Xp:List PanicEntry->Prop}
end
end Go.Sx
end
section
namespace Go.Sx
variable [Stat]
section
variable {O:Nat->Prop} {pin:Nat} {w0:World} {I0:List SE} {P:Program} {fn:Func} {Xp:List PanicEntry->Prop}
def jE:Nat->Code->List Item
 | n+1,.seq a b=>.code a::jE n b
 | _,c=>[.code c]
theorem WV{M:Option Nat}{H:Nat->Act->World->Prop}{B:Exit->Act->World->Prop}{k:List Item}{e:Exit}(he:e≠.normal){a:Act}{w:World} : ∀ (n:Nat) (c:Code),wpK M P H B (jE n c++k) e a w->wpK M P H B k e a w
 | 0,c,h=>by cases c<;>cases e<;>first | exact absurd rfl he | exact h
 | n+1,c,h=>by
  cases c with
  | seq x y=>cases e<;>first | exact absurd rfl he | exact WV he n y h
  | _=>cases e<;>first | exact absurd rfl he | exact h
theorem Qg{M:Option Nat}{H:Nat->Act->World->Prop}{B:Exit->Act->World->Prop} : ∀ (n:Nat) (c:Code) (k:List Item) (a:Act) (w:World),wpK M P H B (jE n c++k) .normal a w->wpK M P H B (.code c::k) .normal a w
 | 0,c,k,a,w,h=>by cases c<;>exact h
 | n+1,c,k,a,w,h=>by
  cases c with
  | seq x y=>
   simp only [jE,List.cons_append,wpK] at h ⊢;refine wpIn_seq (wpIn_mono h λe a w h=> ?_);cases e with
   | normal=>exact Qg n y k a w h
   | _=>exact WV (by simp) n y h
  | _=>exact h
theorem zb.spine{M:Option Nat}{Hs:Nat->KV->Heap->Prop}{R:List AV->Heap->Prop}{k:List Item}{c:Code}{st:St}(n:Nat)(h:qn Xp M P fn O pin w0 I0 Hs R (Go.Sx.jE n c++k) st):qn Xp M P fn O pin w0 I0 Hs R (.code c::k) st:=
 λw σ a hm=>Qg n c k a w (h w σ a hm)
def Q7:Item->Bool
 | .inLoop=>false
 | _=>true
theorem kM{M:Option Nat}{H H':Nat->Act->World->Prop}{B:Exit->Act->World->Prop}{k:List Item}(h1:∀ a w,H' (jc k) a w->wpK M P H B k .normal a w)(h2:∀ d a w,d<jc k->H' d a w->H d a w) :
  ∀ (ks:List Item),ks.all Q7=true->∀ (e:Exit) (a:Act) (w:World),wpK M P H' B (ks++.inLoop::k) e a w->wpK M P H B (ks++k) e a w
 | [],_,e,a,w,h=>by
  cases e with
  | normal=>exact h1 a w h
  | _=>exact j4 (k:=k) (λd a w hd h=>h2 d a w hd h) h
 | .code c::ks,hf,e,a,w,h=>by
  have hf':ks.all Q7=true:=by simpa [Q7] using hf
  cases e with
  | normal=>exact wpIn_mono h λe a w h=>kM h1 h2 ks hf' e a w h
  | _=>exact kM h1 h2 ks hf' _ a w h
 | .inBlock id::ks,hf,e,a,w,h=>by
  have hf':ks.all Q7=true:=by simpa [Q7] using hf
  cases e with
  | normal=>exact kM h1 h2 ks hf' _ a w h
  | exit i=>
   simp only [List.cons_append,wpK] at h ⊢;split at h
   ·rename_i hi; rw [aP hi]; exact kM h1 h2 ks hf' _ a w h
   ·rename_i hi; rw [aO hi]; exact kM h1 h2 ks hf' _ a w h
  | _=>exact kM h1 h2 ks hf' _ a w h
 | .inLoop::ks,hf,e,a,w,h=>by simp [Q7] at hf
theorem zb.cutL{M:Option Nat}{ι:Type}{Hs:Nat->KV->Heap->Prop}{R:List AV->Heap->Prop}{st:St}(L:List Item)(m dk:Nat)(S:ι->KV)(H:ι->Heap)(hf:(L.take m).all Q7=true)(hd:jc (L.drop m)=dk)
  (h1:qn Xp M P fn O pin w0 I0 (λd kv h=>if d=dk then ∃ x,LeK pin fn.ntmps kv h (S x) (H x) else Hs d kv h) R (L.take m++.inLoop::L.drop m) st)
  (h2:∀ x,qn Xp M P fn O pin w0 I0 Hs R (L.drop m) (mk fn.ntmps (S x) (H x))):qn Xp M P fn O pin w0 I0 Hs R L st:=by
 subst hd;intro w σ a hm;have:=h1 w σ a hm;rw [<- bU m L];refine kM ?_ ?_ (L.take m) hf .normal a w this
 ·rintro a' w' ⟨st',Z',⟨kv,h,hh,rfl⟩,hm'⟩;rw [aP rfl] at hh;obtain⟨x,hle⟩:=hh;exact h2 x w' _ a' (hle.le.mod hm')
 ·rintro d a' w' hd ⟨st',Z',⟨kv,h,hh,rfl⟩,hm'⟩;rw [aO (by omega)] at hh;exact⟨_,Z',⟨kv,h,hh,rfl⟩,hm'⟩
end
end Go.Sx
end
