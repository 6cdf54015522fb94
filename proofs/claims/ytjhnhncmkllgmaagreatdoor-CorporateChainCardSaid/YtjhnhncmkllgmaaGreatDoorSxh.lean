/- Part 8 of the proof. -/
import Derived.Test.YtjhnhncmkllgmaaGreatDoorSxg
set_option linter.unusedVariables false
set_option linter.unusedSimpArgs false
set_option linter.unusedSectionVars false
section
set_option maxRecDepth 100000
open Go Go.Sx Go.Proofs Go.Nov
namespace Go.Proofs.Tryz
attribute [local simp] eqKV eqA eqA0 eqH eqB eqL eqL0
noncomputable def K46:=Go.Sx.aA f46
def Jt:Ctr:=ctrP true (λd:Int=>[.i d]) (λ_=>True) (λd r=>r=dayB d) (λ_ (r:Bool)=>(.bool r,[]))
theorem Qj:zc prog 56 Jt:=by
 refine zf' f56 λd hs O w0 Q hq=> ?_
 replace hq:=hq _ rfl;refine zb.n zD [] (.R [.bool (bif decide ((0:Int)<=d) then decide (d<=99999) else false)] []) ?_;simp only [Tree.holds,ze];refine RetR.scal hq rfl ?_;simp only [resV,dayB];cases decide (0<=d)<;>rfl
theorem zp7(c:UInt8):(bif bif decide (97<=(c.toNat:Int)) then decide ((c.toNat:Int)<=122) else false then true else bif decide (65<=(c.toNat:Int)) then decide ((c.toNat:Int)<=90) else false)=isL c:=by
 have e1:decide (97<=(c.toNat:Int))=decide (97<=c.toNat):=decide_eq_decide.2 (by omega);have e2:decide ((c.toNat:Int)<=122)=decide (c.toNat<=122):=decide_eq_decide.2 (by omega);have e3:decide (65<=(c.toNat:Int))=decide (65<=c.toNat):=decide_eq_decide.2 (by omega);have e4:decide ((c.toNat:Int)<=90)=decide (c.toNat<=90):=decide_eq_decide.2 (by omega);rw [e1,e2,e3,e4];simp only [isL];cases decide (97<=c.toNat)<;>cases decide (c.toNat<=122)<;>cases decide (65<=c.toNat)<;>rfl
def zdm:Ctr:=ctrP true (λc:UInt8=>[.int .u8 (c.toNat:Int)]) (λ_=>True) (λc r=>r=isL c) (λ_ (r:Bool)=>(.bool r,[]))
theorem zfb:zc prog 82 zdm:=by
 refine zf' f82 λc hs O w0 Q hq=> ?_
 replace hq:=hq _ rfl;refine zb.n zD [] (.R [.bool (bif bif decide ((97:Int)<=(↑(UInt8.toNat c):Int)) then decide ((↑(UInt8.toNat c):Int)<=122) else false then true else bif decide ((65:Int)<=(↑(UInt8.toNat c):Int)) then decide ((↑(UInt8.toNat c):Int)<=90) else false)] []) ?_;simp only [Tree.holds,ze];refine RetR.scal hq rfl ?_;simp only [resV];rw [zp7]
theorem VL(c d:UInt8):decide ((c.toNat:Int)=(d.toNat:Int))=(c == d):=by
 by_cases h:c=d
 ·subst h; simp
 ·rw [aW λh2=>h (U3 h2)];simp [h]
theorem zqn(c:UInt8):(bif decide ((c.toNat:Int)<48) then true else decide (57<(c.toNat:Int))) = !isD c:=by
 rw [Bool.cond_eq_ite]; exact WQ c
theorem znj(c:UInt8):(bif bif bif !isL c then bif decide ((c.toNat:Int)<48) then true else decide (57<(c.toNat:Int)) else false then !decide ((c.toNat:Int)=95) else false then !decide ((c.toNat:Int)=45) else false) = !isN c:=by
 rw [zqn];have e1:decide ((c.toNat:Int)=95)=(c == 95):=VL c 95;have e2:decide ((c.toNat:Int)=45)=(c == 45):=VL c 45;rw [e1,e2]; simp only [isN];cases isL c<;>cases isD c<;>cases (c == 95)<;>cases (c == 45)<;>rfl
def VY:Ctr:=ctrP true (λs:L8=>[.str s]) (λs=>s.length<2^62) (λs r=>r=qe s) (λ_ (r:Bool)=>(.bool r,[]))
noncomputable def GN1:=tb zfb tz
def SNa(s:L8)(i:Nat):KV:=[(0,.str s),(20,.i (s.length:Int)),(21,.i (i:Int)),Z 31,Z 32,Z 33,Z 34,Z 35,Z 36,Z 39,Z 40,Z 43,Z 44]
theorem zfr{O:Nat->Prop}{w0:World}{Q:AV×Heap->Prop}{Hs:Nat->KV->Heap->Prop}(s:L8)(hs:s.length<2^62)(hq:Q (.bool (s.all isN),[])) :
  zb prog f46 O 0 w0 [] Hs (RetR VY 0 Q) (.code (.loop (lps K46 0).1)::(lps K46 0).2) (mk f46.ntmps (SNa s 0) []):=by
 refine zb.loop (ι:={i:Nat // i<=s.length/\∀ j,j<i->isN (s.getD j 0)=true}) (λi=>SNa s i.1) (λ_=>[]) (λi=>s.length - i.1) ⟨0,aI _,λj hj=>by omega⟩ 0 ?_ ?_ (by kernel_rfl)
 ·exact⟨by simp [SNa],by simp,by kernel_rfl,aI _⟩
 ·rintro⟨i,hil,hib⟩;refine zb.n GN1.h [0,20,21,31,32,33,34,35,36,39,40,43,44] (let v1:=s.getD (i:Int).toNat (0:UInt8);.D ((i:Int)<s.length) (.side ((0:Int)<=i/\(i:Int)<s.length) (.ex (λ(x:UInt8)=>eqL [.int .u8 ↑(UInt8.toNat v1)] [.int .u8 ↑(UInt8.toNat x)]/\True) λn=>.all (λ(r:Bool)=>r=isL n) λn=>.ite (bif bif bif !n then bif decide ((↑(UInt8.toNat v1):Int)<48) then true else decide ((57:Int)<(↑(UInt8.toNat v1):Int)) else false then !decide ((↑(UInt8.toNat v1):Int)=95) else false then !decide ((↑(UInt8.toNat v1):Int)=45) else false) (.R [.bool false] []) (.S (i+1) (.leaf (.back 0 [(0,.str s),(20,.i s.length),(21,.i (i+1)),Z 31,Z 32,Z 33,Z 34,Z 35,Z 36,Z 39,Z 40,Z 43,Z 44] []))))) (.R [.bool true] [])) ?_;simp only [Tree.holds,ze,inR,lo,hi,aD];refine⟨λhlt=> ?_,λhge=> ?_⟩
  ·have hlt:i<s.length:=by have:=aB hlt; omega
   refine⟨by omega,λ_=>⟨s.getD i 0,⟨by simp,trivial⟩,⟨_,rfl⟩,?_⟩⟩;rintro _ rfl;rw [znj];refine⟨λh=> ?_,λh=>⟨by omega,λ_=> ?_⟩⟩
   ·rw [XT hlt (by simpa using h)] at hq;exact RetR.scal hq rfl (by simp [resV])
   ·rw [aP trivial];refine⟨⟨i+1,hlt,λj hj=> ?_⟩,by show s.length - (i+1)<s.length - i; omega,by simp [SNa],by simp,by kernel_rfl,aI _⟩;rcases aR j i with h1 | h1
    ·exact hib j h1
    ·have:j=i:=by omega
     rw [this]; simpa using h
  ·have hge:i=s.length:=by have:=aC hge; omega
   subst hge;rw [zo8 hib] at hq;exact RetR.scal hq rfl (by simp [resV])
theorem Jd:zc prog 46 VY:=by
 refine zf' f46 λs hs O w0 Q hq=> ?_
 replace hq:=hq _ rfl;refine zb.n GN1.h [0,20,21,31,32,33,34,35,36,39,40,43,44] (.side ((bif decide ((s.length:Int)<1) then true else decide ((40:Int)<s.length))=false->(0:Int)<=0/\(0:Int)<s.length) (.ex (λ(x:UInt8)=>(bif decide ((s.length:Int)<1) then true else decide ((40:Int)<s.length))=false->eqL [.int .u8 ↑(UInt8.toNat (s.getD 0 (0:UInt8)))] [.int .u8 ↑(UInt8.toNat x)]/\True) λn=>.all (λ(x:Bool)=>(bif decide ((s.length:Int)<1) then true else decide ((40:Int)<s.length))=false->x=isL n) λn=>.ite (bif bif decide ((s.length:Int)<1) then true else decide ((40:Int)<s.length) then true else !n) (.R [.bool false] []) (.leaf (.loop (lps K46 0).1 (lps K46 0).2 [(0,.str s),(20,.i s.length),(21,.i 0),Z 31,Z 32,Z 33,Z 34,Z 35,Z 36,Z 39,Z 40,Z 43,Z 44] [])))) ?_;simp only [Tree.holds,ze,inR,lo,hi]
 have hd:decide ((s.length:Int)<1) = !decide (0<s.length):=by
  by_cases h:0<s.length
  ·rw [aX h,aW (by omega)]; rfl
  ·rw [aW h,aX (by omega)]; rfl
 have hd2:decide (40<(s.length:Int)) = !decide (s.length<=40):=by
  by_cases h:s.length<=40
  ·rw [aX h,aW (by omega)]; rfl
  ·rw [aW h,aX (by omega)]; rfl
 rw [hd,hd2];have hnb:qe s=(decide (0<s.length)&&decide (s.length<=40)&&isL (s.getD 0 0)&&s.all isN):=rfl;cases h1:decide (0<s.length) with
 | false=>
  rw [hnb,h1] at hq;refine⟨λh=>(by cases h),λ_=>⟨0,λh=>(by cases h),⟨false,λh=>(by cases h)⟩,?_⟩⟩;intro b _;exact⟨λ_=>RetR.scal hq rfl (by simp [resV]),λh=>(by cases h)⟩
 | true=>
  have h1':=aB h1;cases h2:decide (s.length<=40) with
  | false=>
   rw [hnb,h1,h2] at hq;refine⟨λh=>(by cases h),λ_=>⟨0,λh=>(by cases h),⟨false,λh=>(by cases h)⟩,?_⟩⟩;intro b _;exact⟨λ_=>RetR.scal hq rfl (by simp [resV]),λh=>(by cases h)⟩
  | true=>
   refine⟨λ_=>by omega,λ_=>⟨s.getD 0 0,λ_=>⟨by simp,trivial⟩,⟨_,λ_=>rfl⟩,?_⟩⟩;intro b hb;have hb:=hb rfl;subst hb;cases h3:isL (s.getD 0 0) with
   | false=>
    rw [hnb,h1,h2,h3] at hq;exact⟨λ_=>RetR.scal hq rfl (by simp [resV]),λh=>(by cases h)⟩
   | true=>
    rw [hnb,h1,h2,h3] at hq;refine⟨λh=>(by cases h),λ_=> ?_⟩;exact zfr s hs hq
noncomputable def K73:=Go.Sx.aA f73
noncomputable def K44:=Go.Sx.aA f44
theorem jf{X R:Type}{P:Program}{g:Nat}{fresh:Bool}{inp:X->List AV}{pre:X->Prop}{post:X->R->Prop}{out:X->R->AV×Heap}(μ:X->Nat)
  (step:∀ n,zc P g (ctrP fresh inp (λx=>μ x<n/\pre x) post out)->zc P g (ctrP fresh inp (λx=>μ x<n+1/\pre x) post out)):zc P g (ctrP fresh inp pre post out):=by
 have all:∀ n,zc P g (ctrP fresh inp (λx=>μ x<n/\pre x) post out):=by
  intro n
  induction n with
  | zero=>
   intro args hc Q hq _;simp only [ctrP] at hq;split at hq
   ·obtain⟨x,⟨_,h,_⟩,_⟩:=hq;exact absurd h (Nat.not_lt_zero _)
   ·exact hq.elim
  | succ n ih=>exact step n ih
 intro args hc Q hq hf
 match hc,hq,hf with
 | [],hq,hf=>
  obtain⟨x,⟨h1,h2⟩,h3⟩:=hq;exact all (μ x+1) args [] Q ⟨x,⟨h1,Nat.lt_succ_self _,h2⟩,h3⟩ hf
 | _::_,hq,_=>exact hq.elim
def VQ(n:Nat):Ctr:=ctrP true (λx:Ex=>[x.exA]) (λx=>x.size<n/\x.size<2^62) (λx r=>r=x.size) (λ_ (r:Nat)=>(.i (r:Int),[]))
def GSz(g n:Nat):Nat->Option Ctr:=λf=>if f=g then some (VQ n) else none
theorem XW{g n:Nat}(h:zc prog g (VQ n)):∀ f c,GSz g n f=some c->zc prog f c:=by
 intro f c hf;simp only [GSz] at hf;split at hf
 ·rename_i hg; subst hg; cases hf; exact h
 ·cases hf
theorem yA{x:Ex}{k d:Int}{r m:L8}{l:Nat}{g:Nat->Nat->AV}(hk:k=x.kind)(hr:r=x.rat)(hm:m=x.name)(hd:d=x.date)(hl:l=x.sub.length)(hg:eqG x.sub.length 5 g (Ex.exG x.sub)):eqL [.agg [.int .u8 k,.str r,.str m,.i d,.sl l 5 g]] [x.exA]:=by
 subst hk; subst hr; subst hm; subst hd; subst hl;exact⟨⟨⟨rfl,rfl⟩,rfl,rfl,⟨rfl,rfl⟩,⟨rfl,rfl,hg⟩,trivial⟩,trivial⟩
def SSz(s:List Ex)(c i:Nat):KV:=[(3,.i (c:Int)),(7,Ex.exS s),(8,.i (s.length:Int)),(9,.i (i:Int))]
theorem zfq(n:Nat)(ih:zc prog 73 (VQ n)):zc prog 73 (VQ (n+1)):=by
 refine zf' f73 λx hx O w0 Q hq=> ?_
 replace hq:=hq _ rfl;obtain⟨hxn,hxs⟩:=hx;rw [Ex.size_eq] at hxn hxs hq;obtain⟨k,r,m,d,s⟩:=x;simp only [Ex.sub] at hxn hxs hq;refine zb.n (XW ih) [3,7,8,9] (.leaf (.loop (lps K73 0).1 (lps K73 0).2 [(3,.i 1),(7,.sl s.length 5 (Ex.exG s)),(8,.i s.length),(9,.i 0)] [.box [.int .u8 k,.str r,.str m,.i d,.sl s.length 5 (Ex.exG s)]])) ?_;simp only [Tree.holds,ze];have hlen:=Ex.qh s;refine zb.loop (ι:={i:Nat // i<=s.length}) (λi=>SSz s (1+Ex.zp (s.take i.1)) i.1) (λ_=>[]) (λi=>s.length - i.1) ⟨0,aI _⟩ 0 ?_ ?_ (by kernel_rfl)
 ·exact⟨by simp [SSz,Ex.zp,Ex.exS,za],by simp,by kernel_rfl,aI _⟩
 ·rintro⟨i,hil⟩;have hle:=Ex.vf s i;obtain⟨c,hc⟩:∃ c,1+Ex.zp (s.take i)=c:=⟨_,rfl⟩;simp only [hc];refine zb.n (XW ih) [3,7,8,9] (let v1:=s.getD (i:Int).toNat Ex.nil;.D ((i:Int)<s.length) (.side ((0:Int)<=i/\(i:Int)<s.length) (.ex (λ(x:Ex)=>eqL [.agg [.int .u8 (Ex.kind v1),.str (Ex.rat v1),.str (Ex.name v1),.i (Ex.date v1),.sl (List.length (Ex.sub v1)) 5 (Ex.deep v1)]] [.agg [.int .u8 x.kind,.str x.rat,.str x.name,.i x.date,.sl x.sub.length 5 (Ex.exG x.sub)]]/\Ex.size x<n/\Ex.size x<4611686018427387904) λn=>.all (λ(r:Nat)=>r=Ex.size n) λn=>.S ((c:Int)+n) (.S (i+1) (.leaf (.back 0 [(3,.i ((c:Int)+n)),(7,.sl s.length 5 (Ex.exG s)),(8,.i s.length),(9,.i (i+1))] [.box [.int .u8 (Ex.kind v1),.str (Ex.rat v1),.str (Ex.name v1),.i (Ex.date v1),.sl (List.length (Ex.sub v1)) 5 (Ex.deep v1)]]))))) (.R [.i c] [])) ?_;simp only [Tree.holds,ze,inR,lo,hi,aD];refine⟨λhlt=> ?_,λhge=> ?_⟩
  ·have hlt:i<s.length:=by have:=aB hlt; omega
   have hg:=Ex.zM hlt;have ht:=Ex.xF s i hlt;have hle2:=Ex.vf s (i+1);refine⟨by omega,λ_=>⟨s.getD i Ex.nil,⟨yA rfl rfl rfl rfl rfl (Ex.qb _),by omega,by omega⟩,⟨_,rfl⟩,?_⟩⟩;rintro _ rfl;refine⟨by omega,λ_=>⟨by omega,λ_=> ?_⟩⟩;rw [aP trivial];refine⟨⟨i+1,hlt⟩,by show s.length - (i+1)<s.length - i; omega,?_,by simp,by kernel_rfl,aI _⟩;simp [SSz,Ex.exS,za,ht]; omega
  ·have hge:i=s.length:=by have:=aC hge; omega
   subst hge;rw [bD] at hc;rw [hc] at hq;exact RetR.scal hq rfl (by simp [resV])
def Zt:Ctr:=ctrP true (λx:Ex=>[x.exA]) (λx=>x.size<2^62) (λx r=>r=x.size) (λ_ (r:Nat)=>(.i (r:Int),[]))
theorem zep:zc prog 73 Zt:=jf Ex.size zfq
def boxE(k:Int)(r m:L8)(d:Int)(s:List Ex):Heap:=[.box [.int .u8 k,.str r,.str m,.i d,Ex.exS s]]
def SSr(c i:Nat):KV:=[(1,.ptr 0 0),(3,.i (c:Int)),(4,.i (i:Int))]
theorem zae(n:Nat)(ih:zc prog 44 (VQ n)):zc prog 44 (VQ (n+1)):=by
 refine zf' f44 λx hx O w0 Q hq=> ?_
 replace hq:=hq _ rfl;obtain⟨hxn,hxs⟩:=hx;rw [Ex.size_eq] at hxn hxs hq;obtain⟨k,r,m,d,s⟩:=x;simp only [Ex.sub] at hxn hxs hq;refine zb.n (XW ih) [1,3,4] (.leaf (.loop (lps K44 0).1 (lps K44 0).2 [(1,.ptr 0 0),(3,.i 1),(4,.i 0)] [.box [.int .u8 k,.str r,.str m,.i d,.sl s.length 5 (Ex.exG s)]])) ?_;simp only [Tree.holds,ze];have hlen:=Ex.qh s;refine zb.loop (ι:={i:Nat // i<=s.length}) (λi=>SSr (1+Ex.zp (s.take i.1)) i.1) (λ_=>boxE k r m d s) (λi=>s.length - i.1) ⟨0,aI _⟩ 0 ?_ ?_ (by kernel_rfl)
 ·exact⟨by simp [SSr,Ex.zp],by simp [boxE,Ex.exS,za],by kernel_rfl,aI _⟩
 ·rintro⟨i,hil⟩;have hle:=Ex.vf s i;obtain⟨c,hc⟩:∃ c,1+Ex.zp (s.take i)=c:=⟨_,rfl⟩;simp only [hc];refine zb.n (XW ih) [1,3,4] (let v2:List Blk:=[.box [.int .u8 k,.str r,.str m,.i d,.sl s.length 5 (Ex.exG s)]];let v1:=s.getD (i:Int).toNat Ex.nil;.D ((i:Int)<s.length) (.side ((0:Int)<=i/\(i:Int)<s.length) (.ex (λ(x:Ex)=>eqL [.agg [.int .u8 (Ex.kind v1),.str (Ex.rat v1),.str (Ex.name v1),.i (Ex.date v1),.sl (List.length (Ex.sub v1)) 5 (Ex.deep v1)]] [.agg [.int .u8 x.kind,.str x.rat,.str x.name,.i x.date,.sl x.sub.length 5 (Ex.exG x.sub)]]/\Ex.size x<n/\Ex.size x<4611686018427387904) λn=>.all (λ(r:Nat)=>r=Ex.size n) λn=>.S ((c:Int)+n) (.S (i+1) (.leaf (.back 0 [(1,.ptr 0 0),(3,.i ((c:Int)+n)),(4,.i (i+1))] v2))))) (.R [.i c] v2)) ?_;simp only [Tree.holds,ze,inR,lo,hi,aD];refine⟨λhlt=> ?_,λhge=> ?_⟩
  ·have hlt:i<s.length:=by have:=aB hlt; omega
   have hg:=Ex.zM hlt;have ht:=Ex.xF s i hlt;have hle2:=Ex.vf s (i+1);refine⟨by omega,λ_=>⟨s.getD i Ex.nil,⟨yA rfl rfl rfl rfl rfl (Ex.qb _),by omega,by omega⟩,⟨_,rfl⟩,?_⟩⟩;rintro _ rfl;refine⟨by omega,λ_=>⟨by omega,λ_=> ?_⟩⟩;rw [aP trivial];refine⟨⟨i+1,hlt⟩,by show s.length - (i+1)<s.length - i; omega,?_,by simp [boxE,Ex.exS,za],by kernel_rfl,aI _⟩;simp [SSr,ht]; omega
  ·have hge:i=s.length:=by have:=aC hge; omega
   subst hge;rw [bD] at hc;rw [hc] at hq;exact RetR.scal hq rfl (by simp [resV])
theorem U2:zc prog 44 Zt:=jf Ex.size zae
noncomputable def K76:=Go.Sx.aA f76
noncomputable def K77:=Go.Sx.aA f77
def G1c(g:Nat)(C:Ctr):Nat->Option Ctr:=λf=>if f=g then some C else none
theorem jl{g:Nat}{C:Ctr}(h:zc prog g C):∀ f c,G1c g C f=some c->zc prog f c:=by
 intro f c hf;simp only [G1c] at hf;split at hf
 ·rename_i hg; subst hg; cases hf; exact h
 ·cases hf
def zis(n:Nat):Ctr:=ctrP true (λp:Ex×Nat×Nat=>[p.1.exA,.i (p.2.1:Int),.i (p.2.2:Int)]) (λp=>p.1.size<n/\p.2.1<2^40/\p.2.2<2^40)
 (λp (r:Nat×Bool)=>1<=r.1/\r.1<=p.2.1+1/\(r.2=true->r.1<=p.2.1->r.1=p.1.size)) (λ_ (r:Nat×Bool)=>(.tup [.i (r.1:Int),.bool r.2],[]))
def SCn(limit deep m i:Nat):KV:=[(1,.i (limit:Int)),(2,.i (deep:Int)),(3,.ptr 0 0),(8,.i (m:Int)),(9,.i (i:Int)),Z 20,Z 21,Z 22]
theorem zbv(n:Nat)(ih:zc prog 76 (zis n)):zc prog 76 (zis (n+1)):=by
 refine zf' f76 λp hp O w0 Q hq=> ?_
 obtain⟨x,limit,deep⟩:=p;obtain⟨hxn,hli,hde⟩:=hp;simp only at hxn hli hde hq;rw [Ex.size_eq] at hxn hq;obtain⟨k,r,m,d,s⟩:=x;simp only [Ex.sub] at hxn hq;refine zb.n (jl ih) [1,2,3,8,9,20,21,22] (let v1:List Blk:=[.box [.int .u8 k,.str r,.str m,.i d,.sl s.length 5 (Ex.exG s)]];.D ((deep:Int)=0) (.R [.i 1,.bool false] v1) (.leaf (.loop (lps K76 0).1 (lps K76 0).2 [(1,.i limit),(2,.i deep),(3,.ptr 0 0),(8,.i 1),(9,.i 0),Z 20,Z 21,Z 22] v1))) ?_;simp only [Tree.holds,ze];refine⟨λh0=> ?_,λh0=> ?_⟩
 ·exact RetR.scal (hq (1,false) ⟨aJ _,by simp,λh=>by cases h⟩) rfl (by simp [resV])
 ·have h0:0<deep:=by have:=aC h0; omega
  refine zb.loop (ι:={q:Nat×Nat // q.1<=limit+1/\q.2<q.1/\q.2<=s.length/\(q.1<=limit->q.1=1+Ex.zp (s.take q.2))}) (λq=>SCn limit deep q.1.1 q.1.2) (λ_=>boxE k r m d s) (λq=>s.length - q.1.2) ⟨(1,0),by simp [Ex.zp]⟩ 0 ?_ ?_ (by kernel_rfl)
  ·exact⟨by simp [SCn],by simp [boxE,Ex.exS,za],by kernel_rfl,aI _⟩
  ·rintro⟨⟨c,i⟩,h1,h2,h3,h4⟩;simp only at h1 h2 h3 h4;refine zb.n (jl ih) [1,2,3,8,9,20,21,22] (let v2:List Blk:=[.box [.int .u8 k,.str r,.str m,.i d,.sl s.length 5 (Ex.exG s)]];let v1:=s.getD (i:Int).toNat Ex.nil;.ite (bif decide ((i:Int)<s.length) then decide ((c:Int)<=limit) else false) (.side ((0:Int)<=i/\(i:Int)<s.length) (.S ((limit:Int) - c) (.S (deep-1) (.ex (λ(x:Ex×Nat×Nat)=>eqL [.agg [.int .u8 (Ex.kind v1),.str (Ex.rat v1),.str (Ex.name v1),.i (Ex.date v1),.sl (List.length (Ex.sub v1)) 5 (Ex.deep v1)],.i ((limit:Int) - c),.i (deep-1)] [.agg [.int .u8 x.1.kind,.str x.1.rat,.str x.1.name,.i x.1.date,.sl x.1.sub.length 5 (Ex.exG x.1.sub)],.i x.2.1,.i x.2.2]/\Ex.size x.1<n/\x.2.1<1099511627776/\x.2.2<1099511627776) λn=>.all (λ(r:Nat×Bool)=>1<=r.1/\r.1<=n.2.1+1/\(r.2=true->r.1<=n.2.1->r.1=Ex.size n.1)) λn=>.ite (!Prod.snd n) (.R [.i c,.bool false] v2) (.S ((c:Int)+n.1) (.S (i+1) (.leaf (.back 0 [(1,.i limit),(2,.i deep),(3,.ptr 0 0),(8,.i ((c:Int)+n.1)),(9,.i (i+1)),Z 20,Z 21,Z 22] v2)))))))) (.R [.i c,.bool true] v2)) ?_;simp only [Tree.holds,ze,inR,lo,hi,aD];refine⟨λhlt=> ?_,λhge=> ?_⟩
   ·have hlt1:i<s.length/\c<=limit:=by
     by_cases g1:i<s.length
     ·by_cases g2:c<=limit
      ·exact⟨g1,g2⟩
      ·rw [aW (show ¬ (c:Int)<=limit by omega)] at hlt;cases hx:decide ((i:Int)<s.length)<;>rw [hx] at hlt<;>cases hlt
     ·rw [aW (show ¬ (i:Int)<s.length by omega)] at hlt;cases hlt
    obtain⟨hlt,hcl⟩:=hlt1;have hg:=Ex.zM hlt;have ht:=Ex.xF s i hlt;have h4:=h4 hcl
    iterate 3 refine⟨by omega,λ_=> ?_⟩
    refine⟨(s.getD i Ex.nil,limit - c,deep - 1),⟨?_,by show(s.getD i Ex.nil).size<n; omega,by show limit - c<2^40; omega,by show deep - 1<2^40; omega⟩,⟨(1,false),aJ _,by simp,λh=>by cases h⟩,?_⟩
    ·have e1:(limit:Int) - c=((limit - c:Nat):Int):=by omega
     have e2:(deep:Int) - 1=((deep - 1:Nat):Int):=by omega
     rw [e1,e2];exact⟨⟨⟨rfl,rfl⟩,rfl,rfl,⟨rfl,rfl⟩,⟨rfl,rfl,Ex.qb _⟩,trivial⟩,⟨rfl,rfl⟩,⟨rfl,rfl⟩,trivial⟩
    rintro⟨m',b⟩ ⟨g1,g2,g3⟩;simp only at g1 g2 g3;refine⟨λhb=> ?_,λhb=> ?_⟩
    ·exact RetR.scal (hq (c,false) ⟨by show 1<=c; omega,by show c<=limit+1; omega,λh=>by cases h⟩) rfl (by simp [resV])
    ·have hb:b=true:=by simpa using hb
     refine⟨by omega,λ_=>⟨by omega,λ_=> ?_⟩⟩;rw [aP trivial];refine⟨⟨(c+m',i+1),?_,?_,hlt,?_⟩,by show s.length - (i+1)<s.length - i; omega,?_,by simp [boxE,Ex.exS,za],by kernel_rfl,aI _⟩
     ·show c+m'<=limit+1; omega
     ·show i+1<c+m'; omega
     ·show c+m'<=limit->c+m'=1+Ex.zp (s.take (i+1));intro hle;have:=g3 hb (by omega);omega
     ·simp [SCn]
   ·refine RetR.scal (hq (c,true) ⟨by show 1<=c; omega,h1,λ_ hle=> ?_⟩) rfl (by simp [resV]);simp only at hle
    have hge:i=s.length:=by
     by_cases g1:i<s.length
     ·rw [aX (show(i:Int)<s.length by omega),aX (show(c:Int)<=limit by omega)] at hge;cases hge
     ·omega
    have h4:=h4 hle;rw [hge,bD] at h4;exact h4
theorem zk8:zc prog 76 (ctrP true (λp:Ex×Nat×Nat=>[p.1.exA,.i (p.2.1:Int),.i (p.2.2:Int)]) (λp=>p.2.1<2^40/\p.2.2<2^40)
 (λp (r:Nat×Bool)=>1<=r.1/\r.1<=p.2.1+1/\(r.2=true->r.1<=p.2.1->r.1=p.1.size)) (λ_ (r:Nat×Bool)=>(.tup [.i (r.1:Int),.bool r.2],[]))):=jf (λp=>p.1.size) zbv
def ziz(n:Nat):Ctr:=ctrP true (λx:Ex=>[x.exA]) (λx=>x.size<n/\x.size<2^60/\x.zo<2^60) (λx r=>r=x.zo) (λ_ (r:Nat)=>(.i (r:Int),[]))
def SBy(c i:Nat):KV:=[(1,.ptr 0 0),(3,.i (c:Int)),(4,.i (i:Int))]
theorem zb1(n:Nat)(ih:zc prog 77 (ziz n)):zc prog 77 (ziz (n+1)):=by
 refine zf' f77 λx hx O w0 Q hq=> ?_
 replace hq:=hq _ rfl;obtain⟨hxn,hxs,hxb⟩:=hx;rw [Ex.Kh] at hq hxb;rw [Ex.size_eq] at hxn hxs;obtain⟨k,r,m,d,s⟩:=x;simp only [Ex.sub,Ex.rat,Ex.name] at hxn hxs hq hxb;refine zb.n (jl ih) [1,3,4] (.S ((r.length:Int)+m.length) (.leaf (.loop (lps K77 0).1 (lps K77 0).2 [(1,.ptr 0 0),(3,.i ((r.length:Int)+m.length)),(4,.i 0)] [.box [.int .u8 k,.str r,.str m,.i d,.sl s.length 5 (Ex.exG s)]]))) ?_;simp only [Tree.holds,ze,inR,lo,hi,aD];have hlen:=Ex.qh s;refine⟨by omega,λ_=> ?_⟩;refine zb.loop (ι:={i:Nat // i<=s.length}) (λi=>SBy (r.length+m.length+Ex.zN (s.take i.1)) i.1) (λ_=>boxE k r m d s) (λi=>s.length - i.1) ⟨0,aI _⟩ 0 ?_ ?_ (by kernel_rfl)
 ·exact⟨by simp [SBy,Ex.zN],by simp [boxE,Ex.exS,za],by kernel_rfl,aI _⟩
 ·rintro⟨i,hil⟩;have hle:=Ex.xY s i;obtain⟨c,hc⟩:∃ c,r.length+m.length+Ex.zN (s.take i)=c:=⟨_,rfl⟩;simp only [hc];refine zb.n (jl ih) [1,3,4] (let v2:List Blk:=[.box [.int .u8 k,.str r,.str m,.i d,.sl s.length 5 (Ex.exG s)]];let v1:=s.getD (i:Int).toNat Ex.nil;.D ((i:Int)<s.length) (.side ((0:Int)<=i/\(i:Int)<s.length) (.ex (λ(x:Ex)=>eqL [.agg [.int .u8 (Ex.kind v1),.str (Ex.rat v1),.str (Ex.name v1),.i (Ex.date v1),.sl (List.length (Ex.sub v1)) 5 (Ex.deep v1)]] [.agg [.int .u8 x.kind,.str x.rat,.str x.name,.i x.date,.sl x.sub.length 5 (Ex.exG x.sub)]]/\Ex.size x<n/\Ex.size x<1152921504606846976/\Ex.zo x<1152921504606846976) λn=>.all (λ(r:Nat)=>r=Ex.zo n) λn=>.S ((c:Int)+n) (.S (i+1) (.leaf (.back 0 [(1,.ptr 0 0),(3,.i ((c:Int)+n)),(4,.i (i+1))] v2))))) (.R [.i c] v2)) ?_;simp only [Tree.holds,ze,inR,lo,hi,aD];refine⟨λhlt=> ?_,λhge=> ?_⟩
  ·have hlt:i<s.length:=by have:=aB hlt; omega
   have hg:=Ex.zM hlt;have hg2:=Ex.Wa hlt;have ht:=Ex.Yn s i hlt;have hle2:=Ex.xY s (i+1);refine⟨by omega,λ_=>⟨s.getD i Ex.nil,⟨yA rfl rfl rfl rfl rfl (Ex.qb _),by omega,by omega,by omega⟩,⟨_,rfl⟩,?_⟩⟩;rintro _ rfl;refine⟨by omega,λ_=>⟨by omega,λ_=> ?_⟩⟩;rw [aP trivial];refine⟨⟨i+1,hlt⟩,by show s.length - (i+1)<s.length - i; omega,?_,by simp [boxE,Ex.exS,za],by kernel_rfl,aI _⟩;simp [SBy,ht]; omega
  ·have hge:i=s.length:=by have:=aC hge; omega
   subst hge;rw [bD] at hc;rw [hc] at hq;exact RetR.scal hq rfl (by simp [resV])
theorem zl6:zc prog 77 (ctrP true (λx:Ex=>[x.exA]) (λx=>x.size<2^60/\x.zo<2^60) (λx r=>r=x.zo) (λ_ (r:Nat)=>(.i (r:Int),[]))):=jf Ex.size zb1
noncomputable def K74:=Go.Sx.aA f74
def zio(n:Nat):Ctr:=ctrP true (λp:Ex×Nat=>[p.1.exA,.i (p.2:Int)]) (λp=>p.1.size<n/\p.1.size<2^62/\p.2<2^40) (λp r=>r=min p.1.depth (p.2+1)) (λ_ (r:Nat)=>(.i (r:Int),[]))
def SDp(s:List Ex)(limit c i:Nat):KV:=[(1,.i (limit:Int)),(5,.i (c:Int)),(11,Ex.exS s),(12,.i (s.length:Int)),(13,.i (i:Int))]
theorem zas(n:Nat)(ih:zc prog 74 (zio n)):zc prog 74 (zio (n+1)):=by
 refine zf' f74 λp hp O w0 Q hq=> ?_
 obtain⟨x,limit⟩:=p;obtain⟨hxn,hxs,hli⟩:=hp;replace hq:=hq _ rfl;simp only at hxn hxs hli hq;have hds:=Ex.jI x;have hdp:=Ex.zho x;rw [Ex.xj] at hq hds hdp;rw [Ex.size_eq] at hxn hxs hds;obtain⟨k,r,m,d,s⟩:=x;simp only [Ex.sub] at hxn hxs hq hds hdp;have hlen:=Ex.qh s;refine zb.n (jl ih) [1,5,11,12,13] (let v1:List Blk:=[.box [.int .u8 k,.str r,.str m,.i d,.sl s.length 5 (Ex.exG s)]];.D ((0:Int)<limit) (.leaf (.loop (lps K74 0).1 (lps K74 0).2 [(1,.i limit),(5,.i 0),(11,.sl s.length 5 (Ex.exG s)),(12,.i s.length),(13,.i 0)] v1)) (.S 1 (.R [.i 1] v1))) ?_;simp only [Tree.holds,ze,inR,lo,hi,aD];refine⟨λhl=> ?_,λhl=> ?_⟩
 ·have hl:0<limit:=by have:=aB hl; omega
  refine zb.loop (ι:={i:Nat // i<=s.length}) (λi=>SDp s limit (min (Ex.z7 (s.take i.1)) limit) i.1) (λ_=>[]) (λi=>s.length - i.1) ⟨0,aI _⟩ 0 ?_ ?_ (by kernel_rfl)
  ·exact⟨by simp [SDp,Ex.z7,Ex.exS,za],by simp,by kernel_rfl,aI _⟩
  ·rintro⟨i,hil⟩;obtain⟨c,hc⟩:∃ c,min (Ex.z7 (s.take i)) limit=c:=⟨_,rfl⟩;simp only [hc];refine zb.n (jl ih) [1,5,11,12,13] (let v1:=s.getD (i:Int).toNat Ex.nil;.D ((i:Int)<s.length) (.side ((0:Int)<=i/\(i:Int)<s.length) (.S (limit-1) (.ex (λ(x:Ex×Nat)=>eqL [.agg [.int .u8 (Ex.kind v1),.str (Ex.rat v1),.str (Ex.name v1),.i (Ex.date v1),.sl (List.length (Ex.sub v1)) 5 (Ex.deep v1)],.i (limit-1)] [.agg [.int .u8 x.1.kind,.str x.1.rat,.str x.1.name,.i x.1.date,.sl x.1.sub.length 5 (Ex.exG x.1.sub)],.i x.2]/\Ex.size x.1<n/\Ex.size x.1<4611686018427387904/\x.2<1099511627776) λn=>.all (λ(r:Nat)=>r=min n.1.depth (n.2+1)) λn=>.S (i+1) (.leaf (.back 0 [(1,.i limit),(5,.i (max (c:Int) (n:Int))),(11,.sl s.length 5 (Ex.exG s)),(12,.i s.length),(13,.i (i+1))] [.box [.int .u8 (Ex.kind v1),.str (Ex.rat v1),.str (Ex.name v1),.i (Ex.date v1),.sl (List.length (Ex.sub v1)) 5 (Ex.deep v1)]]))))) (.S (c+1) (.R [.i (c+1)] []))) ?_;simp only [Tree.holds,ze,inR,lo,hi,aD];refine⟨λhlt=> ?_,λhge=> ?_⟩
   ·have hlt:i<s.length:=by have:=aB hlt; omega
    have hg:=Ex.zM hlt;have ht:=Ex.vC s i hlt;refine⟨by omega,λ_=>⟨by omega,λ_=>⟨(s.getD i Ex.nil,limit - 1),⟨?_,by show(s.getD i Ex.nil).size<n; omega,by show(s.getD i Ex.nil).size<2^62; omega,by show limit - 1<2^40; omega⟩,⟨_,rfl⟩,?_⟩⟩⟩
    ·have e1:(limit:Int) - 1=((limit - 1:Nat):Int):=by omega
     rw [e1];exact⟨⟨⟨rfl,rfl⟩,rfl,rfl,⟨rfl,rfl⟩,⟨rfl,rfl,Ex.qb _⟩,trivial⟩,⟨rfl,rfl⟩,trivial⟩
    rintro _ rfl;refine⟨by omega,λ_=> ?_⟩;rw [aP trivial];refine⟨⟨i+1,hlt⟩,by show s.length - (i+1)<s.length - i; omega,?_,by simp,by kernel_rfl,aI _⟩;simp [SDp,ht,Ex.exS,za]; omega
   ·have hge:i=s.length:=by have:=aC hge; omega
    subst hge;rw [bD] at hc;refine⟨by omega,λ_=> ?_⟩;exact RetR.scal hq rfl (by simp [resV]; omega)
 ·have hl:limit=0:=by have:=aC hl; omega
  refine⟨by decide,λ_=> ?_⟩;exact RetR.scal hq rfl (by simp [resV]; omega)
theorem znp:zc prog 74 (ctrP true (λp:Ex×Nat=>[p.1.exA,.i (p.2:Int)]) (λp=>p.1.size<2^62/\p.2<2^40) (λp r=>r=min p.1.depth (p.2+1)) (λ_ (r:Nat)=>(.i (r:Int),[]))):=jf (λp=>p.1.size) zas
noncomputable def K75:=Go.Sx.aA f75
def zk4:Ctr:=ctrP true (λp:Ex×Nat×Nat=>[p.1.exA,.i (p.2.1:Int),.i (p.2.2:Int)]) (λp=>p.2.1<2^40/\p.2.2<2^40)
 (λp (r:Nat×Bool)=>1<=r.1/\r.1<=p.2.1+1/\(r.2=true->r.1<=p.2.1->r.1=p.1.size)) (λ_ (r:Nat×Bool)=>(.tup [.i (r.1:Int),.bool r.2],[]))
def zkg:Ctr:=ctrP true (λx:Ex=>[x.exA]) (λx=>x.size<2^60/\x.zo<2^60) (λx r=>r=x.zo) (λ_ (r:Nat)=>(.i (r:Int),[]))
def zms:Ctr:=ctrP true (λx:Ex=>[x.exA]) (λx=>x.thin) (λx r=>r=false->x.size<=600/\x.zo<=3000) (λ_ (r:Bool)=>(.bool r,[]))
noncomputable def GGt:=tb zk8 (tb zl6 tz)
theorem zfd:zc prog 43 zms:=by
 refine zf' f43 λx hx O w0 Q hq=> ?_
 have hb:=Ex.V8 x hx;obtain⟨k,r,m,d,s⟩:=x;refine zb.n GGt.h [] (let v1:=[AV.int .u8 k,AV.str r,AV.str m,AV.i d,AV.sl s.length 5 (Ex.exG s)];.ex (λ(x:Ex×Nat×Nat)=>eqL [.agg v1,.i 600,.i 100] [.agg [.int .u8 x.1.kind,.str x.1.rat,.str x.1.name,.i x.1.date,.sl x.1.sub.length 5 (Ex.exG x.1.sub)],.i x.2.1,.i x.2.2]/\x.2.1<1099511627776/\x.2.2<1099511627776) λn=>.all (λ(r:Nat×Bool)=>1<=r.1/\r.1<=n.2.1+1/\(r.2=true->r.1<=n.2.1->r.1=Ex.size n.1)) λn=>.ex (λ(x:Ex)=>(bif !Prod.snd n then true else decide ((600:Int)<n.1))=false->eqL [.agg v1] [.agg [.int .u8 x.kind,.str x.rat,.str x.name,.i x.date,.sl x.sub.length 5 (Ex.exG x.sub)]]/\Ex.size x<1152921504606846976/\Ex.zo x<1152921504606846976) λn_1=>.all (λ(x:Nat)=>(bif !Prod.snd n then true else decide ((600:Int)<n.1))=false->x=Ex.zo n_1) λn_2=>.R [.bool (bif bif !Prod.snd n then true else decide ((600:Int)<n.1) then true else decide ((3000:Int)<n_2))] [.box [.int .u8 k,.str r,.str m,.i d,.sl s.length 5 (Ex.exG s)]]) ?_;simp only [Tree.holds,ze,inR,lo,hi,aD];refine⟨(.mk k r m d s,600,100),⟨⟨⟨⟨rfl,rfl⟩,rfl,rfl,⟨rfl,rfl⟩,⟨rfl,rfl,za _ _ _⟩,trivial⟩,⟨rfl,rfl⟩,⟨rfl,rfl⟩,trivial⟩,by show 600<1099511627776; omega,by show 100<1099511627776; omega⟩,⟨(1,false),aJ _,by show 1<=600+1; omega,λh=>by cases h⟩,?_⟩;rintro⟨c,b⟩ ⟨g1,g2,g3⟩;simp only at g1 g2 g3
 have hsz:(bif !b then true else decide (600<(c:Int)))=false->(Ex.mk k r m d s).size<=600:=by
  intro h;cases b with
  | false=>cases h
  | true=>
   have h:¬ 600<(c:Int):=aC h;have:=g3 rfl (by omega);omega
 refine⟨.mk k r m d s,λh=>⟨⟨⟨⟨rfl,rfl⟩,rfl,rfl,⟨rfl,rfl⟩,⟨rfl,rfl,za _ _ _⟩,trivial⟩,trivial⟩,by have:=hsz h; omega,by have:=hsz h; omega⟩,⟨_,λ_=>rfl⟩,?_⟩;intro c2 hc2;refine RetR.scal (hq (bif (bif !b then true else decide (600<(c:Int))) then true else decide (3000<(c2:Int))) λh=> ?_) rfl (by simp [resV]);cases ht:(bif !b then true else decide (600<(c:Int))) with
 | true=>rw [ht] at h; cases h
 | false=>
  rw [ht] at h;have h2:=hc2 ht;have h:¬ 3000<(c2:Int):=aC h;exact⟨hsz ht,by omega⟩
def zsj:Ctr:=ctrP true (λx:Ex=>[x.exA]) (λx=>x.rat.length<2^40/\x.name.length<2^40) (λx r=>r=bif je x.kind x.rat x.name x.date x.sub.length then 1 else 0) (λ_ (r:Int)=>(.int .u8 r,[]))
noncomputable def GLf:=tb yV (tb Jd (tb Qj tz))
abbrev q21(A:List AV)(x:Int):Prop:=eqL A [.i x]/\True
theorem zrk:zc prog 119 zsj:=by
 refine zf' f119 λx hx O w0 Q hq=> ?_
 obtain⟨k,r,m,d,s⟩:=x;replace hq:=hq _ rfl;obtain⟨h1,h2⟩:=hx;simp only [Ex.rat,Ex.name,Ex.kind,Ex.date,Ex.sub] at h1 h2 hq;refine zb.n GLf.h [] (let v2:=r=#[].toList;let v1:List Blk:=[.box [.int .u8 k,.str r,.str m,.i d,.sl s.length 5 (Ex.exG s)]];let v4:qa:=.ret [.int .u8 1] v1;let v3:qa:=.ret [.int .u8 0] v1;.D (k=1) (.ex (λ(x:L8)=>decide ((s.length:Int)=0)=true->q15 [.str r] x) λn=>.all (λ(x:Int)=>decide ((s.length:Int)=0)=true->x=errR n) λn=>.ite (!bif bif bif decide ((s.length:Int)=0) then decide (n=0) else false then decide (m=#[].toList) else false then decide (d=0) else false) (.leaf v3) (.leaf v4)) (.D (k=2) (.ex (λ(x:L8)=>(bif decide ((s.length:Int)=0) then decide v2 else false)=true->q15 [.str m] x) λn=>.all (λ(x:Bool)=>(bif decide ((s.length:Int)=0) then decide v2 else false)=true->x=qe n) λn=>.ex (λ(x:Int)=>(bif bif decide ((s.length:Int)=0) then decide v2 else false then n else false)=true->q21 [.i d] x) λn_1=>.all (λ(x:Bool)=>(bif bif decide ((s.length:Int)=0) then decide v2 else false then n else false)=true->x=dayB n_1) λn_2=>.ite (!bif bif bif decide ((s.length:Int)=0) then decide v2 else false then n else false then n_2 else false) (.leaf v3) (.leaf v4)) (.D (k=3) (.ex (λ(x:L8)=>(bif decide ((s.length:Int)=0) then decide v2 else false)=true->q15 [.str m] x) λn=>.all (λ(x:Bool)=>(bif decide ((s.length:Int)=0) then decide v2 else false)=true->x=qe n) λn=>.ite (!bif bif bif decide ((s.length:Int)=0) then decide v2 else false then n else false then decide (d=0) else false) (.leaf v3) (.leaf v4)) (.ite true (.leaf v3) (.leaf v4))))) ?_;simp only [q15,q21,Tree.holds,ze,inR,lo,hi,aD]
 have fin:∀ T:Bool,T=je k r m d s.length->((!T)=true->Q (.int .u8 0,[]))/\((!T)=false->Q (.int .u8 1,[])):=by
  intro T hT;subst hT;cases hl:je k r m d s.length with
  | true=>rw [hl] at hq; exact⟨λh=>(by cases h),λ_=>hq⟩
  | false=>rw [hl] at hq; exact⟨λ_=>hq,λh=>(by cases h)⟩
 refine⟨λhk=> ?_,λhk=> ?_⟩
 ·have hk:k=1:=aB hk;refine⟨r,λ_=>⟨by simp,by omega⟩,⟨_,λ_=>rfl⟩,?_⟩;intro e he
  have F:=fin (bif bif bif decide ((s.length:Int)=0) then decide (e=0) else false then decide (m=[]) else false then decide (d=0) else false) (by
   by_cases hl:s.length=0
   ·have:=he (by simp [hl]);subst this;simp [je,hk,hl,Bool.and_assoc]
   ·simp [je,hl])
  exact⟨λh=>RetR.scal (F.1 h) rfl (by simp [resV]),λh=>RetR.scal (F.2 h) rfl (by simp [resV])⟩
 ·have hk1:k≠1:=aC hk;refine⟨λhk=> ?_,λhk=> ?_⟩
  ·have hk:k=2:=aB hk;refine⟨m,λ_=>⟨by simp,by omega⟩,⟨_,λ_=>rfl⟩,?_⟩;intro e he;refine⟨d,λ_=>⟨by simp,trivial⟩,⟨_,λ_=>rfl⟩,?_⟩;intro f hf
   have F:=fin (bif bif bif decide ((s.length:Int)=0) then decide (r=[]) else false then e else false then f else false) (by
    by_cases hl:s.length=0
    ·by_cases hr:r=[]
     ·have:=he (by simp [hl,hr]);subst this;cases hn:qe m with
      | true=>
       have:=hf (by simp [hl,hr,hn]);subst this;simp [je,hk,hl,hr,hn]
      | false=>simp [je,hk,hl,hr,hn]
     ·simp [je,hk,hl,hr]
    ·simp [je,hl])
   exact⟨λh=>RetR.scal (F.1 h) rfl (by simp [resV]),λh=>RetR.scal (F.2 h) rfl (by simp [resV])⟩
  ·have hk2:k≠2:=aC hk;refine⟨λhk=> ?_,λhk=> ?_⟩
   ·have hk:k=3:=aB hk;refine⟨m,λ_=>⟨by simp,by omega⟩,⟨_,λ_=>rfl⟩,?_⟩;intro e he
    have F:=fin (bif bif bif decide ((s.length:Int)=0) then decide (r=[]) else false then e else false then decide (d=0) else false) (by
     by_cases hl:s.length=0
     ·by_cases hr:r=[]
      ·have:=he (by simp [hl,hr]);subst this;simp [je,hk,hl,hr]
      ·simp [je,hk,hl,hr]
     ·simp [je,hl])
    exact⟨λh=>RetR.scal (F.1 h) rfl (by simp [resV]),λh=>RetR.scal (F.2 h) rfl (by simp [resV])⟩
   ·have hk3:k≠3:=aC hk;have F:=fin false (by simp [je,hk1,hk2,hk3]);exact⟨λh=>RetR.scal (F.1 rfl) rfl (by simp [resV]),λh=>by cases h⟩
def SSo(s:List Ex)(i:Nat):KV:=[(3,.ptr 1 0),(41,Ex.exS s),(42,.i (s.length:Int)),(43,.i (i:Int))]
def HSo(k:Int):Heap:=[.dead,.box [.sl (jC k) 1 λj _=>.int .u8 (qN k j),.int .u8 (jm k)]]
def zf1(n:Nat):Ctr:=ctrP true (λx:Ex=>[x.exA]) (λx=>x.size<n/\x.size<2^60/\x.zo<2^40) (λx r=>r=x.zu) (λ_ (r:Int)=>(.int .u8 r,[]))
def GSo(n:Nat):Nat->Option Ctr:=λf=>if f=75 then some (zf1 n) else if f=119 then some zsj else none
theorem zn3{n:Nat}(h:zc prog 75 (zf1 n)):∀ f c,GSo n f=some c->zc prog f c:=by
 intro f c hf;simp only [GSo] at hf;split at hf
 ·rename_i hg; subst hg; cases hf; exact h
 ·split at hf
  ·rename_i hg; subst hg; cases hf; exact zrk
  ·cases hf
abbrev q22(A:List AV)(x:Ex):Prop:=eqL A [.agg [.int .u8 x.kind,.str x.rat,.str x.name,.i x.date,.sl x.sub.length 5 (Ex.exG x.sub)]]/\x.rat.length<1099511627776/\x.name.length<1099511627776
theorem zfs(n:Nat)(ih:zc prog 75 (zf1 n)):zc prog 75 (zf1 (n+1)):=by
 refine zf' f75 λx hx O w0 Q hq=> ?_
 replace hq:=hq _ rfl;obtain⟨hxn,hxs,hxb⟩:=hx;rw [Ex.size_eq] at hxn hxs;rw [Ex.Kh] at hxb;rw [Ex.Wz] at hq;obtain⟨k,r,m,d,s⟩:=x;simp only [Ex.sub,Ex.rat,Ex.name,Ex.kind,Ex.date] at hxn hxs hq hxb;refine zb.n (zn3 ih) [3,41,42,43] (let v3:List (Nat×AV):=[(3,.ptr 1 0),(41,.sl s.length 5 (Ex.exG s)),(42,.i s.length),(43,.i 0)];let v2:=q22 [.agg [.int .u8 k,.str r,.str m,.i d,.sl s.length 5 (Ex.exG s)]];let v1:List AV:=[.int .u8 k,.str r,.str m,.i d,.sl s.length 5 (Ex.exG s)];let v4:List Blk:=[.box v1,.box [.nils,.int .u8 0]];.ite (qK k) (.ite false (.ex v2 λn=>.all (λ(r:Int)=>r=bif je n.kind n.rat n.name n.date n.sub.length then(1:Int) else(0:Int)) λn=>.R [.int .u8 n] [.box v1,.box [.sl (jC k) 1 λ(j x:Nat)=>.int .u8 (qN k j),.int .u8 (jm k)]]) (.ite (bif bif bif !decide ((s.length:Int)=(↑(jC k):Int)) then true else !decide (r=#[].toList) then true else !decide (m=#[].toList) then true else !decide (d=0)) (.R [.int .u8 0] [.box v1,.box [.sl (jC k) 1 λ(j x:Nat)=>.int .u8 (qN k j),.int .u8 (jm k)]]) (.leaf (.loop (lps K75 0).1 (lps K75 0).2 v3 [.box v1,.box [.sl (jC k) 1 λ(j x:Nat)=>.int .u8 (qN k j),.int .u8 (jm k)]])))) (.ite true (.ex v2 λn=>.all (λ(r:Int)=>r=bif je n.kind n.rat n.name n.date n.sub.length then(1:Int) else(0:Int)) λn=>.R [.int .u8 n] v4) (.ite (bif bif bif !decide ((s.length:Int)=0) then true else !decide (r=#[].toList) then true else !decide (m=#[].toList) then true else !decide (d=0)) (.R [.int .u8 0] v4) (.leaf (.loop (lps K75 0).1 (lps K75 0).2 v3 v4))))) ?_;simp only [q22,Tree.holds,ze,inR,lo,hi,aD];refine⟨λhk=>⟨λh=>(by cases h),λ_=>⟨λh=> ?_,λh=> ?_⟩⟩,λhk=> ?_⟩
 ·have hn:¬ (r=[]/\m=[]/\d=0/\Ex.qf s=qw k):=by
   rintro⟨rfl,rfl,rfl,h4⟩;have:s.length=jC k:=by rw [<- Ex.j1,h4]; rfl
   simp [this] at h
  have e:wL k r m d (Ex.qf s)=0:=by unfold wL; rw [aP hk,aO hn]
  exact RetR.scal hq rfl (by simp [resV,e])
 ·have hh:s.length=jC k/\r=[]/\m=[]/\d=0:=by
   simp at h;obtain⟨⟨⟨h1,h2⟩,h3⟩,h4⟩:=h;exact⟨by omega,h2,h3,h4⟩
  obtain⟨hl,rfl,rfl,rfl⟩:=hh;have hlen:=Ex.qh s;have e1:wL k [] [] 0 (Ex.qf s)=if Ex.qf s=qw k then jm k else 0:=by unfold wL; rw [aP hk]; simp
  rw [e1] at hq;clear h e1;refine zb.loop (ι:={i:Nat // i<=s.length/\∀ j,j<i->(s.getD j Ex.nil).zu=qN k j}) (λi=>SSo s i.1) (λ_=>HSo k) (λi=>s.length - i.1) ⟨0,aI _,λj hj=>by omega⟩ 0 ?_ ?_ (by kernel_rfl)
  ·exact⟨by simp [SSo,Ex.exS,za],by simp [HSo,za],by kernel_rfl,aI _⟩
  ·rintro⟨i,hil,hib⟩;refine zb.n (zn3 ih) [3,41,42,43] (let v1:=s.getD (i:Int).toNat Ex.nil;let v2:List AV:=[.int .u8 (Ex.kind v1),.str (Ex.rat v1),.str (Ex.name v1),.i (Ex.date v1),.sl (List.length (Ex.sub v1)) 5 (Ex.deep v1)];.D ((i:Int)<s.length) (.side ((0:Int)<=i/\(i:Int)<s.length) (.side ((0:Int)<=i/\(i:Int)<(↑(jC k):Int)) (.ex (λ(x:Ex)=>eqL [.agg [.int .u8 (Ex.kind v1),.str (Ex.rat v1),.str (Ex.name v1),.i (Ex.date v1),.sl (List.length (Ex.sub v1)) 5 (Ex.deep v1)]] [.agg [.int .u8 x.kind,.str x.rat,.str x.name,.i x.date,.sl x.sub.length 5 (Ex.exG x.sub)]]/\Ex.size x<n/\Ex.size x<1152921504606846976/\Ex.zo x<1099511627776) λn=>.all (λ(r:Int)=>r=Ex.zu n) λn=>.N (n=qN k (i:Int).toNat) (.R [.int .u8 0] [.dead,.box [.sl (jC k) 1 λ(j x:Nat)=>.int .u8 (qN k j),.int .u8 (jm k)],.box v2]) (.S (i+1) (.leaf (.back 0 [(3,.ptr 1 0),(41,.sl s.length 5 (Ex.exG s)),(42,.i s.length),(43,.i (i+1))] [.dead,.box [.sl (jC k) 1 λ(j x:Nat)=>.int .u8 (qN k j),.int .u8 (jm k)],.box v2])))))) (.R [.int .u8 (jm k)] [.dead,.box [.sl (jC k) 1 λ(j x:Nat)=>.int .u8 (qN k j),.int .u8 (jm k)]])) ?_;simp only [Tree.holds,ze,inR,lo,hi,aD];refine⟨λhlt=> ?_,λhge=> ?_⟩
   ·have hlt:i<s.length:=by have:=aB hlt; omega
    have hg:=Ex.zM hlt;have hg2:=Ex.Wa hlt;have hb0:Ex.zN s<2^40:=by simpa using hxb
    refine⟨by omega,λ_=>⟨by omega,λ_=>⟨s.getD i Ex.nil,⟨yA rfl rfl rfl rfl rfl (Ex.qb _),by omega,by omega,by omega⟩,⟨_,rfl⟩,?_⟩⟩⟩;intro e he;refine⟨λh=> ?_,λh=>⟨by omega,λ_=> ?_⟩⟩
    ·have hne:¬ Ex.qf s=qw k:=by
      intro h2;have:=(Ex.Ze.1 h2).2 i hlt;rw [<- he] at this;have h3:¬ e=qN k i:=by simpa using h
      exact h3 this
     rw [aO hne] at hq;exact RetR.scal hq rfl (by simp [resV])
    ·rw [aP trivial];have h3:e=qN k i:=by simpa using h
     refine⟨⟨i+1,hlt,λj hj=> ?_⟩,by show s.length - (i+1)<s.length - i; omega,by simp [SSo,Ex.exS,za],by simp [HSo,za],by kernel_rfl,aI _⟩;rcases aR j i with h1 | h1
     ·exact hib j h1
     ·have:j=i:=by omega
      rw [this,<- he,h3]
   ·have hge:i=s.length:=by have:=aC hge; omega
    subst hge;have:Ex.qf s=qw k:=Ex.Ze.2 ⟨hl,hib⟩;rw [aP this] at hq;exact RetR.scal hq rfl (by simp [resV])
 ·refine⟨λ_=> ?_,λh=>(by cases h)⟩;refine⟨.mk k r m d s,⟨⟨⟨⟨rfl,rfl⟩,rfl,rfl,⟨rfl,rfl⟩,⟨rfl,rfl,za _ _ _⟩,trivial⟩,trivial⟩,by show r.length<_; omega,by show m.length<_; omega⟩,⟨_,rfl⟩,?_⟩;intro e he
  have e1:wL k r m d (Ex.qf s)=e:=by
   unfold wL;rw [aO (by rw [hk]; decide),he,Ex.j1];show _=bif je k r m d s.length then 1 else 0
   cases je k r m d s.length<;>rfl
  rw [e1] at hq;exact RetR.scal hq rfl (by simp [resV])
def Jq:Ctr:=ctrP true (λx:Ex=>[x.exA]) (λx=>x.size<2^60/\x.zo<2^40) (λx r=>r=x.zu) (λ_ (r:Int)=>(.int .u8 r,[]))
theorem Xf:zc prog 75 Jq:=jf Ex.size zfs
def zk2:Ctr:=ctrP true (λx:Ex=>[x.exA]) (λx=>x.size<2^62) (λx r=>r=x.size) (λ_ (r:Nat)=>(.i (r:Int),[]))
def zn7:Ctr:=ctrP true (λp:Ex×Nat=>[p.1.exA,.i (p.2:Int)]) (λp=>p.1.size<2^62/\p.2<2^40) (λp r=>r=min p.1.depth (p.2+1)) (λ_ (r:Nat)=>(.i (r:Int),[]))
def QZ:Ctr:=ctrP true (λx:Ex=>[x.exA]) (λx=>x.size<2^40/\x.zo<2^40) (λx r=>r=x.errX) (λ_ (r:Int)=>(.i r,[]))
def zet(z:Int):Ctr:=ctrP true (λx:Ex=>[x.exA]) (λx=>x.size<2^40/\x.zo<2^40) (λx r=>r=(decide (x.errX=0)&&decide (x.zu=z))) (λ_ (r:Bool)=>(.bool r,[]))
theorem eqX(x:Ex):eqL [.agg [.int .u8 x.kind,.str x.rat,.str x.name,.i x.date,.sl x.sub.length 5 (Ex.exG x.sub)]] [x.exA]:=yA rfl rfl rfl rfl rfl (za _ _ _)
theorem zgg{x:Ex}{n:Nat}(hn:decide (500<(x.size:Int))=false->(60<n↔60<x.depth)) :
  ((bif decide (500<(x.size:Int)) then true else decide (60<(n:Int)))=true->x.errX=4)/\((bif decide (500<(x.size:Int)) then true else decide (60<(n:Int)))=false->x.errX=if x.zu=0 then 8 else 0):=by
 by_cases h:500<x.size
 ·have e:decide (500<(x.size:Int))=true:=aX (by omega);rw [e];exact⟨λ_=>aP (.inl h),λh=>by cases h⟩
 ·have e:decide (500<(x.size:Int))=false:=aW (by omega);have h2:=hn e;rw [e];simp only [cond_false];by_cases h3:60<n
  ·exact⟨λ_=>aP (.inr (h2.1 h3)),λh=>by have:=aC h; omega⟩
  ·refine⟨λh=>by have:=aB h; omega,λ_=> ?_⟩;unfold Ex.errX;rw [aO];rintro(h4 | h4)
   ·exact h h4
   ·exact h3 (h2.2 h4)
noncomputable def GCk:=tb zep (tb znp (tb Xf tz))
abbrev q23(A:List AV)(x:Ex):Prop:=eqL A [.agg [.int .u8 x.kind,.str x.rat,.str x.name,.i x.date,.sl x.sub.length 5 (Ex.exG x.sub)]]/\Ex.size x<1152921504606846976/\Ex.zo x<1099511627776
theorem Q3:zc prog 41 QZ:=by
 refine zf' f41 λx hx O w0 Q hq=> ?_
 replace hq:=hq _ rfl;obtain⟨h1,h2⟩:=hx;refine zb.n GCk.h [] (let v2:List Blk:=[.box [.int .u8 x.kind,.str x.rat,.str x.name,.i x.date,.sl x.sub.length 5 (Ex.exG x.sub)]];let v1:=[AV.int .u8 x.kind,AV.str x.rat,AV.str x.name,AV.i x.date,AV.sl x.sub.length 5 (Ex.exG x.sub)];.ex (λ(x_1:Ex)=>eqL [.agg v1] [.agg [.int .u8 x_1.kind,.str x_1.rat,.str x_1.name,.i x_1.date,.sl x_1.sub.length 5 (Ex.exG x_1.sub)]]/\Ex.size x_1<4611686018427387904) λn=>.all (λ(r:Nat)=>r=Ex.size n) λn=>.ex (λ(x_1:Ex×Nat)=>decide ((500:Int)<n)=false->eqL [.agg v1,.i 60] [.agg [.int .u8 x_1.1.kind,.str x_1.1.rat,.str x_1.1.name,.i x_1.1.date,.sl x_1.1.sub.length 5 (Ex.exG x_1.1.sub)],.i x_1.2]/\Ex.size x_1.1<4611686018427387904/\x_1.2<1099511627776) λn_1=>.all (λ(x:Nat)=>decide ((500:Int)<n)=false->x=min n_1.1.depth (n_1.2+1)) λn_2=>.ite (bif decide ((500:Int)<n) then true else decide ((60:Int)<n_2)) (.R [.i 4] v2) (.ex (q23 [.agg v1]) λn=>.all (λ(r:Int)=>r=Ex.zu n) λn=>.D (n=0) (.R [.i 8] v2) (.R [.i 0] v2))) ?_;simp only [q23,Tree.holds,ze,inR,lo,hi,aD];refine⟨x,⟨yA rfl rfl rfl rfl rfl (za _ _ _),by omega⟩,⟨_,rfl⟩,?_⟩;rintro _ rfl;refine⟨(x,60),λ_=>⟨⟨⟨⟨rfl,rfl⟩,rfl,rfl,⟨rfl,rfl⟩,⟨rfl,rfl,za _ _ _⟩,trivial⟩,⟨rfl,rfl⟩,trivial⟩,by show x.size<_; omega,by show 60<1099511627776; omega⟩,⟨_,λ_=>rfl⟩,?_⟩;intro c hc;have em:=zgg (x:=x) (n:=c) λh=>by have:=hc h; simp only at this; omega
 refine⟨λh=> ?_,λh=>⟨x,⟨eqX x,by omega,by omega⟩,⟨_,rfl⟩,?_⟩⟩
 ·rw [em.1 h] at hq;exact RetR.scal hq rfl (by simp [resV])
 ·have e:=em.2 h;rintro _ rfl;refine⟨λg=> ?_,λg=> ?_⟩
  ·rw [e,aP (aB g)] at hq;exact RetR.scal hq rfl (by simp [resV])
  ·rw [e,aO (aC g)] at hq;exact RetR.scal hq rfl (by simp [resV])
noncomputable def GNu:=tb Q3 (tb Xf tz)
abbrev q24(A:List AV)(x:Ex):Prop:=eqL A [.agg [.int .u8 x.kind,.str x.rat,.str x.name,.i x.date,.sl x.sub.length 5 (Ex.exG x.sub)]]/\Ex.size x<1099511627776/\Ex.zo x<1099511627776
theorem ztq:zc prog 93 (zet 1):=by
 refine zf' f93 λx hx O w0 Q hq=> ?_
 replace hq:=hq _ rfl;obtain⟨h1,h2⟩:=hx;refine zb.n GNu.h [] (let v1:=[AV.agg [.int .u8 x.kind,.str x.rat,.str x.name,.i x.date,.sl x.sub.length 5 (Ex.exG x.sub)]];.ex (q24 v1) λn=>.all (λ(r:Int)=>r=Ex.errX n) λn=>.ex (λ(x9:Ex)=>decide (n=0)=true->q23 v1 x9) λn_1=>.all (λ(x:Int)=>decide (n=0)=true->x=Ex.zu n_1) λn_2=>.R [.bool (bif decide (n=0) then decide (n_2=1) else false)] [.box [.int .u8 x.kind,.str x.rat,.str x.name,.i x.date,.sl x.sub.length 5 (Ex.exG x.sub)]]) ?_;simp only [q23,q24,Tree.holds,ze,inR,lo,hi,aD];refine⟨x,⟨eqX x,by omega,by omega⟩,⟨_,rfl⟩,?_⟩;rintro _ rfl;refine⟨x,λ_=>⟨eqX x,by omega,by omega⟩,⟨_,λ_=>rfl⟩,?_⟩;intro c hc;refine RetR.scal hq rfl ?_;cases h:decide (x.errX=0) with
 | false=>rfl
 | true=>rw [hc h]; rfl
theorem zlt:zc prog 94 (zet 2):=by
 refine zf' f94 λx hx O w0 Q hq=> ?_
 replace hq:=hq _ rfl;obtain⟨h1,h2⟩:=hx;refine zb.n GNu.h [] (let v1:=[AV.agg [.int .u8 x.kind,.str x.rat,.str x.name,.i x.date,.sl x.sub.length 5 (Ex.exG x.sub)]];.ex (q24 v1) λn=>.all (λ(r:Int)=>r=Ex.errX n) λn=>.ex (λ(x9:Ex)=>decide (n=0)=true->q23 v1 x9) λn_1=>.all (λ(x:Int)=>decide (n=0)=true->x=Ex.zu n_1) λn_2=>.R [.bool (bif decide (n=0) then decide (n_2=2) else false)] [.box [.int .u8 x.kind,.str x.rat,.str x.name,.i x.date,.sl x.sub.length 5 (Ex.exG x.sub)]]) ?_;simp only [q23,q24,Tree.holds,ze,inR,lo,hi,aD];refine⟨x,⟨eqX x,by omega,by omega⟩,⟨_,rfl⟩,?_⟩;rintro _ rfl;refine⟨x,λ_=>⟨eqX x,by omega,by omega⟩,⟨_,λ_=>rfl⟩,?_⟩;intro c hc;refine RetR.scal hq rfl ?_;cases h:decide (x.errX=0) with
 | false=>rfl
 | true=>rw [hc h]; rfl
noncomputable def K42:=Go.Sx.aA f42
def zbz(n:Nat):Ctr:=ctrP true (λp:Ex×Ex=>[p.1.exA,p.2.exA]) (λp=>p.1.size<n/\p.1.size<2^60) (λp r=>(r=true↔p.1=p.2)) (λ_ (r:Bool)=>(.bool r,[]))
def eqfC(n:Nat):Ctr:=ctrP true (λp:List Ex×List Ex=>[Ex.exS p.1,Ex.exS p.2,.fn 20 [] []]) (λp=>Ex.zp p.1<n/\Ex.zp p.1<2^60) (λp r=>(r=true↔p.1=p.2)) (λ_ (r:Bool)=>(.bool r,[]))
theorem X5(p:Prop):∃ b:Bool,b=true↔p:=by
 by_cases h:p
 ·exact⟨true,by simp [h]⟩
 ·exact⟨false,by simp [h]⟩
def SEq(s t:List Ex)(i:Nat):KV:=[(1,Ex.exS t),(2,.fn 20 [] []),(15,Ex.exS s),(16,.i (s.length:Int)),(17,.i (i:Int))]
theorem zsu(n:Nat)(ih:zc prog 20 (zbz n)):zc prog 42 (eqfC n):=by
 refine zf' f42 λp hp O w0 Q hq=> ?_
 obtain⟨s,t⟩:=p;obtain⟨h1,h2⟩:=hp;simp only at h1 h2 hq;have hlen:=Ex.qh s;refine zb.n (jl ih) [1,2,15,16,17] (.N ((s.length:Int)=t.length) (.R [.bool false] []) (.leaf (.loop (lps K42 0).1 (lps K42 0).2 [(1,.sl t.length 5 (Ex.exG t)),(2,.fn 20 [] []),(15,.sl s.length 5 (Ex.exG s)),(16,.i s.length),(17,.i 0)] []))) ?_;simp only [Tree.holds,ze,inR,lo,hi,aD];refine⟨λh=> ?_,λh=> ?_⟩
 ·refine RetR.scal (hq false ⟨λh=>(by cases h),λhe=> ?_⟩) rfl (by simp [resV]);subst he;simp at h
 ·have hl:s.length=t.length:=by
   by_cases e1:s.length=t.length
   ·exact e1
   ·rw [aW (show ¬ ((s.length:Nat):Int)=t.length by omega)] at h;cases h
  refine zb.loop (ι:={i:Nat // i<=s.length/\∀ j,j<i->s.getD j Ex.nil=t.getD j Ex.nil}) (λi=>SEq s t i.1) (λ_=>[]) (λi=>s.length - i.1) ⟨0,aI _,λj hj=>by omega⟩ 0 ?_ ?_ (by kernel_rfl)
  ·exact⟨by simp [SEq,Ex.exS,za],by simp,by kernel_rfl,aI _⟩
  ·rintro⟨i,hil,hib⟩;refine zb.n (jl ih) [1,2,15,16,17] (let v3:=t.getD (i:Int).toNat Ex.nil;let v2:=s.getD (i:Int).toNat Ex.nil;let v1:List Blk:=[.box [.int .u8 (Ex.kind v2),.str (Ex.rat v2),.str (Ex.name v2),.i (Ex.date v2),.sl (List.length (Ex.sub v2)) 5 (Ex.deep v2)],.box [.int .u8 (Ex.kind v3),.str (Ex.rat v3),.str (Ex.name v3),.i (Ex.date v3),.sl (List.length (Ex.sub v3)) 5 (Ex.deep v3)]];.D ((i:Int)<s.length) (.side ((0:Int)<=i/\(i:Int)<s.length) (.side ((0:Int)<=i/\(i:Int)<t.length) (.ex (λ(x:Ex×Ex)=>eqL [.agg [.int .u8 (Ex.kind v2),.str (Ex.rat v2),.str (Ex.name v2),.i (Ex.date v2),.sl (List.length (Ex.sub v2)) 5 (Ex.deep v2)],.agg [.int .u8 (Ex.kind v3),.str (Ex.rat v3),.str (Ex.name v3),.i (Ex.date v3),.sl (List.length (Ex.sub v3)) 5 (Ex.deep v3)]] [.agg [.int .u8 x.1.kind,.str x.1.rat,.str x.1.name,.i x.1.date,.sl x.1.sub.length 5 (Ex.exG x.1.sub)],.agg [.int .u8 x.2.kind,.str x.2.rat,.str x.2.name,.i x.2.date,.sl x.2.sub.length 5 (Ex.exG x.2.sub)]]/\Ex.size x.1<n/\Ex.size x.1<1152921504606846976) λn=>.all (λ(r:Bool)=>r=true↔n.1=n.2) λn=>.ite (!n) (.R [.bool false] v1) (.S (i+1) (.leaf (.back 0 [(1,.sl t.length 5 (Ex.exG t)),(2,.fn 20 [] []),(15,.sl s.length 5 (Ex.exG s)),(16,.i s.length),(17,.i (i+1))] v1)))))) (.R [.bool true] [])) ?_;simp only [Tree.holds,ze,inR,lo,hi,aD];refine⟨λhlt=> ?_,λhge=> ?_⟩
   ·have hlt:i<s.length:=by have:=aB hlt; omega
    have hg:=Ex.zM hlt;refine⟨by omega,λ_=>⟨by omega,λ_=>⟨(s.getD i Ex.nil,t.getD i Ex.nil),⟨⟨⟨⟨rfl,rfl⟩,rfl,rfl,⟨rfl,rfl⟩,⟨rfl,rfl,Ex.qb _⟩,trivial⟩,⟨⟨rfl,rfl⟩,rfl,rfl,⟨rfl,rfl⟩,⟨rfl,rfl,Ex.qb _⟩,trivial⟩,trivial⟩,by show(s.getD i Ex.nil).size<n; omega,by show(s.getD i Ex.nil).size<_; omega⟩,X5 _,?_⟩⟩⟩;intro e he;simp only at he;refine⟨λg=> ?_,λg=>⟨by omega,λ_=> ?_⟩⟩
    ·refine RetR.scal (hq false ⟨λh=>(by cases h),λh3=> ?_⟩) rfl (by simp [resV]);have:e=true:=he.2 (by rw [h3]);rw [this] at g; cases g
    ·rw [aP trivial];have g:e=true:=by simpa using g
     refine⟨⟨i+1,hlt,λj hj=> ?_⟩,by show s.length - (i+1)<s.length - i; omega,by simp [SEq,Ex.exS,za],by simp,by kernel_rfl,aI _⟩;rcases aR j i with h1 | h1
     ·exact hib j h1
     ·have:j=i:=by omega
      rw [this]; exact he.1 g
   ·have hge:i=s.length:=by have:=aC hge; omega
    subst hge;exact RetR.scal (hq true ⟨λ_=>Ex.KM hl hib,λ_=>rfl⟩) rfl (by simp [resV])
theorem zc0(n:Nat)(ih:zc prog 20 (zbz n)):zc prog 20 (zbz (n+1)):=by
 refine zf' f20 λp hp O w0 Q hq=> ?_
 obtain⟨x,y⟩:=p;obtain⟨h1,h2⟩:=hp;simp only at h1 h2 hq;rw [Ex.size_eq] at h1 h2;refine zb.run hmix (jl (zsu n ih)) [] 400 (T:=let v4:=Ex.rat x=Ex.rat y;let v3:=Ex.date x=Ex.date y;let v2:=Ex.name x=Ex.name y;let v1:=Ex.kind x=Ex.kind y;.ex (λ(x_1:List Ex×List Ex)=>(bif bif bif decide v1 then decide v4 else false then decide v2 else false then decide v3 else false)=true->eqL [.sl x.sub.length 5 (Ex.exG x.sub),.sl y.sub.length 5 (Ex.exG y.sub),.fn 20 [] []] [.sl x_1.1.length 5 (Ex.exG x_1.1),.sl x_1.2.length 5 (Ex.exG x_1.2),.fn 20 [] []]/\Ex.zp x_1.1<n/\Ex.zp x_1.1<1152921504606846976) λn=>.all (λ(x_1:Bool)=>(bif bif bif decide v1 then decide v4 else false then decide v2 else false then decide v3 else false)=true->(x_1=true↔n.1=n.2)) λn=>.R [.bool (bif bif bif bif decide v1 then decide v4 else false then decide v2 else false then decide v3 else false then n else false)] [.box [.int .u8 x.kind,.str x.rat,.str x.name,.i x.date,.sl x.sub.length 5 (Ex.exG x.sub)],.box [.int .u8 y.kind,.str y.rat,.str y.name,.i y.date,.sl y.sub.length 5 (Ex.exG y.sub)]]) (by kernel_rfl) ?_;simp only [Tree.holds,ze,inR,lo,hi,aD];refine⟨(x.sub,y.sub),λ_=>⟨⟨⟨rfl,rfl,za _ _ _⟩,⟨rfl,rfl,za _ _ _⟩,by simp,trivial⟩,by show Ex.zp x.sub<n; omega,by show Ex.zp x.sub<_; omega⟩,(X5 _).imp λ_ h _=>h,?_⟩;intro e he;refine RetR.scal (hq (bif (bif bif bif decide (x.kind=y.kind) then decide (x.rat=y.rat) else false then decide (x.name=y.name) else false then decide (x.date=y.date) else false) then e else false) ?_) rfl (by simp [resV]);rw [Ex.Yf];by_cases g1:x.kind=y.kind
 ·by_cases g2:x.rat=y.rat
  ·by_cases g3:x.name=y.name
   ·by_cases g4:x.date=y.date
    ·have:=he (by simp [g1,g2,g3,g4]);simp [g1,g2,g3,g4];exact this
    ·simp [g4]
   ·simp [g3]
  ·simp [g2]
 ·simp [g1]
def UF:Ctr:=ctrP true (λp:Ex×Ex=>[p.1.exA,p.2.exA]) (λp=>p.1.size<2^60) (λp r=>(r=true↔p.1=p.2)) (λ_ (r:Bool)=>(.bool r,[]))
theorem zik:zc prog 20 UF:=jf (λp=>p.1.size) zc0
end Go.Proofs.Tryz
end
section
namespace Go.Sx
variable [Stat]
section
variable {own own' O:Nat->Prop} {w w':World} {σ Z':List SE} {P:Program} {fn:Func} {Xp:List PanicEntry->Prop}
def upA0(d k:Nat):AV->AV->Prop
 | .nils,.osl i _ off n=>(d<=i/\i<d+k)/\off=0/\n=0
 | a,b=>a=b
def upL0(d k:Nat):List AV->List AV->Prop
 | [],[]=>True
 | a::l,b::m=>upA0 d k a b/\upL0 d k l m
 | _,_=>False
def upA1(d k:Nat):AV->AV->Prop
 | .agg l,.agg m=>upL0 d k l m
 | a,b=>upA0 d k a b
def upL1(d k:Nat):List AV->List AV->Prop
 | [],[]=>True
 | a::l,b::m=>upA1 d k a b/\upL1 d k l m
 | _,_=>False
def upA2(d k:Nat):AV->AV->Prop
 | .tup l,.tup m=>upL1 d k l m
 | a,b=>upA1 d k a b
def vE(k:Nat):List SE:=List.replicate k ⟨none,0⟩
theorem Z8.mono{g:Nat}{vals:Array Value}{R R':Value->World->Prop}(hR:∀ v w',R v w'->R' v w')(h:Z8 P g vals w R):Z8 P g vals w R':=by
 rcases h with ⟨h1,h2⟩ | ⟨v,w',h1,h2⟩
 ·exact .inl ⟨h1,h2.mono λe w' ⟨v,he,hv⟩=>⟨v,he,hR v w' hv⟩⟩
 ·exact .inr ⟨v,w',h1,hR v w' h2⟩
theorem vZ{k i:Nat}{e:SE}(h:(σ++vE k)[i]?=some e):(i<σ.length/\σ[i]?=some e)\/(σ.length<=i/\e=⟨none,0⟩):=by
 rw [bT] at h;split at h
 ·rename_i hi; exact .inl ⟨hi,h⟩
 ·rename_i hi;right;refine⟨by omega,?_⟩;simp only [vE,List.getElem?_replicate] at h;split at h
  ·cases h; rfl
  ·cases h
theorem uN{k b:Nat}(h:Mine (σ++vE k) b):Mine σ b:=by
 obtain⟨e,he,ad,h1,h2⟩:=h;rcases bZ.1 he with he | he
 ·exact⟨e,he,ad,h1,h2⟩
 ·have:=List.eq_of_mem_replicate he;subst this;cases h1
theorem yX{k b:Nat}(h:Own O (σ++vE k) b):Own O σ b:=by
 rcases h with h | h
 ·exact .inl h
 ·exact .inr (uN h)
theorem xK(K:List Nat)(w:World)(σ:List SE)(k:Nat):Hold K w σ w (σ++vE k):=λi e he _=>by
 have hi:=(aG.1 he).1;exact⟨by rw [bL hi]; exact he,λad _ cs el h=>⟨cs,el,h,rfl⟩⟩
theorem KL{k:Nat}(hx:Ext own w own' w){a b:AV}{v:Value}(hu:upA0 σ.length k a b)(ha:Rep own w a σ v):Rep own' w b (σ++vE k) v:=by
 unfold upA0 at hu;split at hu
 ·obtain⟨⟨h1,h2⟩,rfl,rfl⟩:=hu;rename_i i sz _ _;simp only [Rep] at ha ⊢;refine⟨⟨none,0⟩,?_,by simp,none,0,ha,aJ _,.inl rfl⟩;rw [List.getElem?_append_right h1,vE,List.getElem?_replicate,aP (by omega)]
 ·subst hu;exact zO (K:=[]) hx (xK [] w σ k) _ _ (qO _) ha
theorem J8{k:Nat}(hx:Ext own w own' w):∀ {l m:List AV} {vs:List Value},upL0 σ.length k l m->RepL own w l σ vs->RepL own' w m (σ++vE k) vs
 | [],[],vs,_,h=>by simpa [RepL] using h
 | a::l,b::m,vs,hl,h=>by
  simp only [RepL] at h ⊢;obtain⟨v,r,hv,h1,h2⟩:=h;exact⟨v,r,hv,KL hx hl.1 h1,J8 hx hl.2 h2⟩
 | [],_::_,_,hl,_=>hl.elim
 | _::_,[],_,hl,_=>hl.elim
theorem V4{k:Nat}(hx:Ext own w own' w){a b:AV}{v:Value}(hu:upA1 σ.length k a b)(ha:Rep own w a σ v):Rep own' w b (σ++vE k) v:=by
 unfold upA1 at hu;split at hu
 ·simp only [Rep] at ha ⊢;obtain⟨vs,hv,hr⟩:=ha;exact⟨vs,hv,J8 hx hu hr⟩
 ·exact KL hx hu ha
theorem JC{k:Nat}(hx:Ext own w own' w):∀ {l m:List AV} {vs:List Value},upL1 σ.length k l m->RepL own w l σ vs->RepL own' w m (σ++vE k) vs
 | [],[],vs,_,h=>by simpa [RepL] using h
 | a::l,b::m,vs,hl,h=>by
  simp only [RepL] at h ⊢;obtain⟨v,r,hv,h1,h2⟩:=h;exact⟨v,r,hv,V4 hx hl.1 h1,JC hx hl.2 h2⟩
 | [],_::_,_,hl,_=>hl.elim
 | _::_,[],_,hl,_=>hl.elim
theorem Kz{k:Nat}(hx:Ext own w own' w){a b:AV}{v:Value}(hu:upA2 σ.length k a b)(ha:Rep own w a σ v):Rep own' w b (σ++vE k) v:=by
 unfold upA2 at hu;split at hu
 ·simp only [Rep] at ha ⊢;obtain⟨vs,hv,hr⟩:=ha;exact⟨vs,hv,JC hx hu hr⟩
 ·exact V4 hx hu ha
def K1(szs:List (Nat×(Nat->Nat->AV))):Heap:=szs.map λs=>.arr 0 s.1 s.2
theorem zdu(hx:Ext own w own' w){hs:Heap}(hh:HRep own w σ hs)(szs:List (Nat×(Nat->Nat->AV))):HRep own' w (σ++vE szs.length) (hs++K1 szs):=by
 have hl:=hh.len;refine⟨by simp [vE,K1,hl],λi j e f a b he hf ha hb hij=> ?_,λi e a he ha=> ?_,λi e b he hb=> ?_⟩
 ·rcases vZ he with ⟨_,he⟩ | ⟨_,rfl⟩
  ·rcases vZ hf with ⟨_,hf⟩ | ⟨_,rfl⟩
   ·exact hh.inj i j e f a b he hf ha hb hij
   ·cases hb
  ·cases ha
 ·rcases vZ he with ⟨_,he⟩ | ⟨_,rfl⟩
  ·exact hh.lt i e a he ha
  ·cases ha
 ·rcases vZ he with ⟨hi,he⟩ | ⟨hi,rfl⟩
  ·rw [bL (by omega)] at hb;have:=ji (K:=[]) hx (xK [] w σ szs.length) (hh.blk i e b he hb) (λ_ _=>rfl)
   rwa [js] at this
  ·rw [List.getElem?_append_right (by omega)] at hb;simp only [K1,aN] at hb;cases hz:szs[i - hs.length]? with
   | none=>simp [hz] at hb
   | some s=>
    simp only [hz,Option.map_some,aE] at hb;subst hb;exact⟨rfl,.inl rfl⟩
def upQ(Q:AV×Heap->Prop)(p:AV×Heap):Prop:=Q p\/∃ (r:AV) (szs:List (Nat×(Nat->Nat->AV))),upA2 p.2.length szs.length p.1 r/\Q (r,p.2++K1 szs)
theorem jd.up{g:Nat}{c:Ctr}{args:List AV}{hc:Heap}{Q:AV×Heap->Prop}(h:jd P g c args hc (upQ Q)):jd P g c args hc Q:=by
 intro O w σ vals hg hh hr;refine Z8.mono ?_ (h O w σ vals hg hh hr);rintro v w' ⟨r,hs,Z',hq,h1,h2,h3,h4,h5,h6⟩;rcases hq with hq | ⟨r',szs,hu,hq⟩
 ·exact⟨r,hs,Z',hq,h1,h2,h3,h4,h5,h6⟩
 ·have hx:Ext (λb=>Own O Z' b\/(c.fresh=true/\b<w.heap.size)) w' (λb=>Own O (Z'++vE szs.length) b\/(c.fresh=true/\b<w.heap.size)) w':=
   ⟨rfl,rfl,rfl,aJ _,λ_ _ _=>rfl,λb hb=>.inl (hb.imp yX id)⟩
  have hl:hs.length=Z'.length:=h2.len.symm;refine⟨r',hs++K1 szs,Z'++vE szs.length,hq,Kz hx (by rw [<- hl]; exact hu) h1,zdu hx h2 szs,⟨h3.old,λi e ad he had=> ?_,h3.stat.own λb hb=>yX hb⟩,by simp; omega,h5.Xy (xK [] w' Z' _),?_⟩
  ·rcases vZ he with ⟨_,he⟩ | ⟨_,rfl⟩
   ·exact h3.dis i e ad he had
   ·cases had
  ·exact⟨h6.os,h6.tape,h6.output,h6.size,h6.keep,λb hb=>h6.grow b (uN hb)⟩
theorem uX{X R:Type}{fresh:Bool}{inp:X->List AV}{pre:X->Prop}{post:X->R->Prop}{out:X->R->AV×Heap}{g:Nat}{c:Code}(hf:P.funcs[g]?=some fn)(hb:fn.body=some c) (hn:(fn.name == "runtime.NumGoroutine")=false)
  (H:∀ x,pre x->∀ (O:Nat->Prop) (w0:World) (Q:AV×Heap->Prop),(∀ r,post x r->Q (out x r)) ->
   zb P fn O 0 w0 [] (λ_ _ _=>False) (RetR (ctrP fresh inp pre post out) 0 (upQ Q)) [.code c] (entry fn (inp x))):zc P g (ctrP fresh inp pre post out):=by
 intro args hc Q hq _;simp only [ctrP] at hq;split at hq
 ·obtain⟨x,⟨h1,h4⟩,h5,h6⟩:=hq;refine jd.le h1 (jd.up (fn_k hf hb hn (λh=>rfl) λO w0 I0 hl=> ?_));have h0:I0=[]:=aU.1 (by simpa using hl);subst h0;exact H x h4 O w0 Q h6
 ·exact hq.elim
variable {pin:Nat} {w0:World} {I0:List SE} {a:Act}
theorem RetR.outs{ctr:Ctr}{Q:AV×Heap->Prop}{rs:List AV}{h:Heap}{r:AV}{hs:Heap}(L:List Nat)(hnd:jW L=true)(hlt:(L.all λi=>decide (i<h.length))=true)(hq:Q (r,hs))(hn:ctr.fresh=true->new2 h L (resV rs)/\∀ i∈L,newB (h.getD i .dead))
  (he:eqA2 (exp2 h L (resV rs)) r) (hb:eqH (expH h L) hs) (hl:hs.length=L.length):RetR ctr 0 Q rs h:=
 ⟨L,hnd,λi hi=>by have:=bG.1 hlt i hi; simpa using this,by simp,hn,r,hs,qA he,.inl hb,hl,hq⟩
theorem RetR.keep{ctr:Ctr}{m:Nat}{Q:AV×Heap->Prop}{rs:List AV}{h:Heap}{r:AV}{hs:Heap}(L:List Nat)(hnd:jW L=true)(hlt:(L.all λi=>decide (i<h.length))=true)(hj:∀ j,j<m->L[j]?=some j)(hf:ctr.fresh=false)(hq:Q (r,hs))
  (he:eqA2 (exp2 h L (resV rs)) r) (hb:eqH (expH h L) hs) (hl:hs.length=L.length):RetR ctr m Q rs h:=
 ⟨L,hnd,λi hi=>by have:=bG.1 hlt i hi; simpa using this,hj,(λhh=>absurd hh (by rw [hf]; decide)),r,hs,qA he,.inl hb,hl,hq⟩
end
end Go.Sx
end
section
set_option maxRecDepth 100000
open Go Go.Sx Go.Proofs Go.Nov
namespace Go.Proofs.Tryz
attribute [local simp] eqKV eqA eqA0 eqH eqB eqL eqL0
def exD(x:Ex):AV:=.agg [.int .u8 x.kind,.str x.rat,.str x.name,.i x.date,.sl x.sub.length 5 x.deep]
theorem zlz{s:List Ex}{i:Nat} : eqG (i+1) 5 (appG i (Ex.exG s) (zg (zh 5 [.int .u8 (s.getD i Ex.nil).kind,.str (s.getD i Ex.nil).rat,.str (s.getD i Ex.nil).name,.i (s.getD i Ex.nil).date,.sl (s.getD i Ex.nil).sub.length 5 (s.getD i Ex.nil).deep]) 0)) (Ex.exG s):=by
 intro j o hj ho;simp only [appG,zg,zh];by_cases h:j<i
 ·rw [aP h]
 ·have:j=i:=by omega
  subst this;rw [aO h];have e:j - j=0:=by omega
  match o,ho with
  | 0,_=>simp [e,Ex.exG,Ex.cell]
  | 1,_=>simp [e,Ex.exG,Ex.cell]
  | 2,_=>simp [e,Ex.exG,Ex.cell]
  | 3,_=>simp [e,Ex.exG,Ex.cell]
  | 4,_=>simp [e,Ex.exG,Ex.cell]
noncomputable def K48:=Go.Sx.aA f48
def zd4:Ctr:=ctrP true (λx:Ex=>[x.exA]) (λ_=>True) (λx r=>r=qR x) (λ_ (r:Bool)=>(.bool r,[]))
theorem X0:zc prog 87 zd4:=by
 refine zf' f87 λx hx O w0 Q hq=> ?_
 replace hq:=hq _ rfl;obtain⟨k,r,m,d,s⟩:=x;refine zb.n zD [] (let v1:=Ex.mk k r m d s;.R [.bool (bif bif bif bif decide (Ex.kind v1=(0:Int)) then decide (Ex.rat v1=#[].toList) else false then decide (Ex.name v1=#[].toList) else false then decide (Ex.date v1=(0:Int)) else false then decide ((↑(List.length (Ex.sub v1)):Int)=0) else false)] [.box [.int .u8 (Ex.kind v1),.str (Ex.rat v1),.str (Ex.name v1),.i (Ex.date v1),.sl (List.length (Ex.sub v1)) 5 (Ex.exG (Ex.sub v1))]]) ?_;simp only [Tree.holds,ze];refine RetR.scal hq rfl ?_;refine congrArg AV.bool ?_;rw [Bool.eq_iff_iff];simp [qR,Ex.kind,Ex.rat,Ex.name,Ex.date,Ex.sub,and_assoc]
def zcd:Ctr:=ctrT false false (λc:Con=>[c.conA]) (λ_=>[]) (λ_=>True) (λ_ (_:Unit)=>True) (λc _=>(.fn 89 [] [.ptr 0 0],[.box (Con.qI c.kind c.src c.dst c.name c.x c.date c.days c.sub)]))
theorem Yi:zc prog 50 zcd:=by
 refine zH (fn:=f50) (c:=f50.body.getD .skip) rfl rfl rfl (λh=>by cases h) λc hp O w0 I0 Q hl hq=> ?_
 have h0:I0=[]:=aU.1 (by simpa using hl);subst h0;refine zb.n zD [0] (.R [.fn 89 [] [.ptr 0 0]] [.box (Con.zd c)]) ?_;simp only [Tree.holds,ze];refine RetR.out1 0 (by simp) (hq () trivial) (λh=>by cases h) (by simp [resV,exp2,exp1,exp0,zy,ren0,eqA2]) ?_;simp only [Con.qI,expB,exp1,List.map_cons,List.map_nil,exp0,Ex.exS,Con.dayS,Con.conS];exact⟨⟨rfl,rfl⟩,rfl,rfl,rfl,⟨rfl,rfl⟩,rfl,rfl,⟨rfl,rfl⟩,⟨rfl,rfl,za _ _ _⟩,⟨rfl,rfl⟩,⟨rfl,rfl,za _ _ _⟩,⟨rfl,rfl,za _ _ _⟩,trivial⟩
noncomputable def GZ1:=tb X0 (tb zep (tb Yi tz))
def zjl:Ctr:=ctrP true (λc:Con=>[c.conA]) (λc=>c.big<2^40/\c.nodes<=1000000) (λc r=>r=c.size) (λ_ (r:Nat)=>(.i (r:Int),[]))
theorem zQ(c:Con):eqA c.conA c.conA:=by
 simp only [Con.conA,Ex.exS,Con.dayS,Con.conS,eqA];exact⟨⟨rfl,rfl⟩,rfl,rfl,rfl,⟨rfl,rfl⟩,rfl,rfl,⟨rfl,rfl⟩,⟨rfl,rfl,za _ _ _⟩,⟨rfl,rfl⟩,⟨rfl,rfl,za _ _ _⟩,⟨rfl,rfl,za _ _ _⟩,trivial⟩
theorem yR{own:Nat->Prop}{w:World}{σ:List SE} : ∀ {l:List AV} {vs:List Value},l.all Yu=true->RepL own w l σ vs->RepL own w l [] vs
 | [],vs,_,h=>h
 | a::l,vs,hf,h=>by
  simp only [List.all_cons,bA] at hf;simp only [RepL] at h ⊢;obtain⟨v,r,rfl,h1,h2⟩:=h;exact⟨v,r,rfl,UY hf.1 h1,yR hf.2 h2⟩
theorem ztp{O:Nat->Prop}{pin:Nat}{w0 w:World}{I0 σ:List SE}{st:St}{a:Act}(hm:Mod O pin w0 I0 w σ st a):∀ b,Go.Sx.Own O σ b->b<w.heap.size:=by
 rintro b (hO | ⟨e,he,ad,h1,rfl⟩)
 ·exact hm.good.old b hO
 ·obtain⟨j,hj⟩:=List.getElem?_of_mem he;exact hm.hp.lt j e ad hj h1
theorem zB(c:Con):eqL c.zd c.zd:=by
 simp only [Con.zd,Con.qI,Ex.exS,Con.dayS,Con.conS];exact⟨⟨rfl,rfl⟩,rfl,rfl,rfl,⟨rfl,rfl⟩,rfl,rfl,⟨rfl,rfl⟩,⟨rfl,rfl,za _ _ _⟩,⟨rfl,rfl⟩,⟨rfl,rfl,za _ _ _⟩,⟨rfl,rfl,za _ _ _⟩,trivial⟩
theorem qF(x:Ex):eqA x.exA x.exA:=by
 simp only [Ex.exA,Ex.exS,eqA];exact⟨⟨rfl,rfl⟩,rfl,rfl,⟨rfl,rfl⟩,⟨rfl,rfl,za _ _ _⟩,trivial⟩
theorem JS{O:Nat->Prop}{pin:Nat}{w0 w:World}{I0 σ:List SE}{st:St}{a:Act}(hm:Mod O pin w0 I0 w σ st a){i:Nat}{c:Con}(hb:st.heap[i]?=some (.box c.zd))(hn:c.nodes<=1000000){vb:List Value}(hv:RepL (Go.Sx.Own O σ) w [.ptr i 0] σ vb) :
  ∃ ev:Nat->Value,SeqStopsK Fence.wide 0 prog 89 vb.toArray (λx=> #[ev x]) (jo (Go.Sx.Own O σ)) (λxs=>xs=List.range c.all.length) (λpre=>pre <+: List.range c.all.length) c.all.length w/\∀ i,Rep (Go.Sx.Own O σ) w (c.all.getD i c).conA [] (ev i):=by
 simp only [RepL,Rep] at hv;obtain⟨v,r,rfl,⟨e,ad,he,had,rfl⟩,rfl⟩:=hv;obtain⟨ad',vs,el,g1,g2,g3,g4⟩:=hm.hp.blk i e _ he hb;rw [had] at g1; cases g1
 have hr:Rep (Go.Sx.Own O σ) w c.conA [] (.agg vs.toArray):=by
  simp only [Con.conA];rw [Rep];exact⟨vs,rfl,yR rfl g4⟩
 have:=Yw g3 hr hn (ztp hm);rw [g2];exact this
def HCs(c:Con)(m:Nat):Heap:=[.box c.zd,.box [.i (m:Int)],.box c.zd]
abbrev q26(A:List AV)(x:Ex):Prop:=eqL A [x.exA]/\Ex.size x<4611686018427387904
abbrev q25(A:List AV)(x:Ex):Prop:=eqL A [x.exA]/\True
theorem znv:zc prog 48 zjl:=by
 refine zf' f48 λc hc O w0 Q hq=> ?_
 obtain⟨h1,h2⟩:=hc;replace hq:=hq _ rfl;refine zb.n GZ1.h [2,3,6,7] (.ex (λ(x:Con)=>eqL [(Con.conA c)] [(Con.conA x)]/\eqH [] []/\0=0/\True) λn=>.A λn_1=>.leaf (.range (Prod.fst (rfs K48 0)) (Prod.snd (rfs K48 0)) [(2,.i 0),(3,.ptr 1 0),(6,.fn 89 [] [.ptr 2 0]),Z 7] [.box (Con.zd c),.box [.i 0],.box (Con.zd n)])) ?_;simp only [Tree.holds,ze];refine⟨c,⟨⟨zQ c,trivial⟩,trivial,trivial,trivial⟩,⟨(),trivial⟩,λ_ _=> ?_⟩
 refine zb.zl9 (tg:=6) (tp:=7) (td:=4) (t:=31) (n:=12) (zs:=[.int .u8 0,.str [],.str [],.str [],.int .u8 0,.str [],.str [],.i 0,.nils,.i 0,.nils,.nils]) (cap:=[.ptr 2 0]) (gf:=89) (by kernel_rfl) (by kernel_rfl) (by kernel_rfl) rfl (enters_of Tryz.func89 (by kernel_rfl) rfl) (λi:Nat=>(c.all.getD i c).conA) (λi=>(c.all.getD i c).zd) (λi=>⟨rfl,rfl,rfl,rfl⟩) (λpre=>HCs c (pre.map λi=>(c.all.getD i c).wt).sum) (λ_=>[]) (λ_=>False) (λxs=>xs=List.range c.all.length) (λpre=>pre <+: List.range c.all.length) c.all.length 3
  (by kernel_rfl) (by decide +kernel) (by decide +kernel) (by decide +kernel) (by decide) ⟨by simp,⟨zB c,⟨⟨rfl,rfl⟩,trivial⟩,zB c,trivial⟩,by kernel_rfl,aI _⟩ (by kernel_rfl) (aI _) (λpre=>rfl) (λpre=>by simp [HCs,alive]) (λpre b hb=>by cases hb) ?_ ?_ ?_ (λ_ _ h=>h.elim)
 ·intro w σ a hm vb hvb;exact JS hm (i:=2) rfl h2 hvb
 ·intro l pre i hlen W E1
  have hwt:(c.all.getD i c).big<=c.big:=by
   by_cases hi:i<c.all.length
   ·exact Con.Jp c _ (by simp [List.getD,hi])
   ·simp [List.getD,hi]
  have hm:(pre.map λi=>(c.all.getD i c).wt).sum<=pre.length*2^40:=by
   have hall:∀ j,(c.all.getD j c).wt<=2^40:=λj=>by
    have h1':=Con.JN (c.all.getD j c).x
    have h2':(c.all.getD j c).big<=c.big:=by
     by_cases hi:j<c.all.length
     ·exact Con.Jp c _ (by simp [List.getD,hi])
     ·simp [List.getD,hi]
    rw [Con.xm] at h2';have:(c.all.getD j c).wt=1+vJ (c.all.getD j c).x:=rfl;omega
   clear hlen
   induction pre with
   | nil=>simp
   | cons j pre ih=>
    have:=hall j;simp only [List.map_cons,List.sum_cons,aL];omega
  rw [List.map_append,List.sum_append];simp only [List.map_cons,List.map_nil,List.sum_cons,List.sum_nil,Nat.add_zero];rw [Con.XE] at hlen;have hml:(pre.map λi=>(c.all.getD i c).wt).sum<=1000000*2^40:=bP hm (aT _ (by omega));generalize (pre.map λi=>(c.all.getD i c).wt).sum=m at hml;generalize c.all.getD i c=e at hwt;rw [Con.xm e] at hwt;refine zb.n GZ1.h [3,6,7] (let v1:List (Nat×AV):=[(3,.ptr 1 0),(6,.fn 89 [] [.ptr 2 0]),(7,(Con.conA e))];.S (m+1) (.ex (q25 [(Ex.exA e.x)]) λn=>.all (λ(r:Bool)=>r=qR n) λn=>.ite (!n) (.ex (q26 [(Ex.exA e.x)]) λn=>.all (λ(r:Nat)=>r=Ex.size n) λn=>.S ((m:Int)+(1:Int)+n) (.leaf (.back 0 v1 [.box (Con.zd c),.box [.i ((m:Int)+(1:Int)+n)],.box (Con.zd c)]))) (.leaf (.back 0 v1 [.box (Con.zd c),.box [.i (m+1)],.box (Con.zd c)])))) ?_;simp only [q25,q26,Tree.holds,ze,inR,lo,hi,aD];have hsx:e.wt=1+vJ e.x:=rfl;refine⟨by omega,λ_=>⟨e.x,⟨⟨qF e.x,trivial⟩,trivial⟩,⟨_,rfl⟩,?_⟩⟩;rintro _ rfl;refine⟨λhb=>⟨e.x,⟨⟨qF e.x,trivial⟩,by show e.x.size<_; omega⟩,⟨_,rfl⟩,?_⟩,λhb=> ?_⟩
  ·rintro _ rfl;refine⟨by omega,λ_=>⟨trivial,⟨zB c,⟨⟨rfl,?_⟩,trivial⟩,zB c,trivial⟩,by kernel_rfl,aJ _⟩⟩;have:vJ e.x=e.x.size:=by unfold vJ; rw [show qR e.x=false by simpa using hb]; rfl
   omega
  ·refine⟨trivial,⟨zB c,⟨⟨rfl,?_⟩,trivial⟩,zB c,trivial⟩,by kernel_rfl,aJ _⟩;have:vJ e.x=0:=by unfold vJ; rw [show qR e.x=true by simpa using hb]; rfl
   omega
 ·intro xs hxs;subst hxs
  have hsum:((List.range c.all.length).map λi=>(c.all.getD i c).wt).sum=c.size:=by
   rw [Con.WL];congr 1;apply List.ext_getElem (by simp);intro i h1 h2;simp at h1;simp [List.getD,h1]
  rw [hsum];generalize c.size=m at hq;refine zb.n GZ1.h [2,3,6,7] (.R [.i m] [.box (Con.zd c),.box [.i m],.box (Con.zd c)]) ?_;simp only [Tree.holds,ze];exact RetR.scal hq rfl rfl
noncomputable def K88:=Go.Sx.aA f88
noncomputable def K49:=Go.Sx.aA f49
def zdv(n:Nat):Ctr:=ctrP true (λx:Ex=>[x.exA]) (λx=>x.size<n/\x.size<2^62) (λx r=>r=x.depth) (λ_ (r:Nat)=>(.i (r:Int),[]))
def SEd(s:List Ex)(c i:Nat):KV:=[(3,.i (c:Int)),(7,Ex.exS s),(8,.i (s.length:Int)),(9,.i (i:Int))]
theorem YJ(n:Nat)(ih:zc prog 88 (zdv n)):zc prog 88 (zdv (n+1)):=by
 refine zf' f88 λx hp O w0 Q hq=> ?_
 obtain⟨hxn,hxs⟩:=hp;replace hq:=hq _ rfl;have hds:=Ex.jI x;rw [Ex.xj] at hq hds;rw [Ex.size_eq] at hxn hxs hds;obtain⟨k,r,m,d,s⟩:=x;simp only [Ex.sub] at hxn hxs hq hds;have hlen:=Ex.qh s;refine zb.n (jl ih) [3,7,8,9] (.leaf (.loop (lps K88 0).1 (lps K88 0).2 [(3,.i 0),(7,.sl s.length 5 (Ex.exG s)),(8,.i s.length),(9,.i 0)] [.box [.int .u8 k,.str r,.str m,.i d,.sl s.length 5 (Ex.exG s)]])) ?_;simp only [Tree.holds,ze,inR,lo,hi,aD];refine zb.loop (ι:={i:Nat // i<=s.length}) (λi=>SEd s (Ex.z7 (s.take i.1)) i.1) (λ_=>[]) (λi=>s.length - i.1) ⟨0,aI _⟩ 0 ?_ ?_ (by kernel_rfl)
 ·exact⟨by simp [SEd,Ex.z7,Ex.exS,za],by simp,by kernel_rfl,aI _⟩
 ·rintro⟨i,hil⟩;have hcb:Ex.z7 (s.take i)<=Ex.z7 s:=Ex.WW s i;obtain⟨c,hc⟩:∃ c,Ex.z7 (s.take i)=c:=⟨_,rfl⟩;simp only [hc];refine zb.n (jl ih) [3,7,8,9] (let v1:=s.getD (i:Int).toNat Ex.nil;.D ((i:Int)<s.length) (.side ((0:Int)<=i/\(i:Int)<s.length) (.ex (λ(x:Ex)=>eqL [(exD v1)] [x.exA]/\Ex.size x<n/\Ex.size x<4611686018427387904) λn=>.all (λ(r:Nat)=>r=Ex.depth n) λn=>.S (i+1) (.leaf (.back 0 [(3,.i (max (c:Int) (n:Int))),(7,.sl s.length 5 (Ex.exG s)),(8,.i s.length),(9,.i (i+1))] [.box (Ex.cellsD v1)])))) (.S (c+1) (.R [.i (c+1)] []))) ?_;simp only [Tree.holds,ze,inR,lo,hi,aD];refine⟨λhlt=> ?_,λhge=> ?_⟩
  ·have hlt:i<s.length:=by have:=aB hlt; omega
   have hg:=Ex.zM hlt;have ht:=Ex.vC s i hlt;refine⟨by omega,λ_=>⟨s.getD i Ex.nil,⟨⟨⟨⟨rfl,rfl⟩,rfl,rfl,⟨rfl,rfl⟩,⟨rfl,rfl,Ex.qb _⟩,trivial⟩,trivial⟩,by omega,by omega⟩,⟨_,rfl⟩,?_⟩⟩;rintro _ rfl;refine⟨by omega,λ_=> ?_⟩;rw [aP trivial];refine⟨⟨i+1,hlt⟩,by show s.length - (i+1)<s.length - i; omega,?_,by simp,by kernel_rfl,aI _⟩;simp [SEd,ht,hc,Ex.exS,za]; omega
  ·have hge:i=s.length:=by have:=aC hge; omega
   subst hge;rw [bD] at hc;refine⟨by omega,λ_=> ?_⟩;exact RetR.scal hq rfl (by simp [resV]; omega)
def V3:Ctr:=ctrP true (λx:Ex=>[x.exA]) (λx=>x.size<2^62) (λx r=>r=x.depth) (λ_ (r:Nat)=>(.i (r:Int),[]))
theorem zh3:zc prog 88 V3:=jf Ex.size YJ
theorem yH(e:Con):eqA (.agg [.int .u8 e.kind,.str e.src,.str e.dst,.str e.name,.int .u8 e.x.kind,.str e.x.rat,.str e.x.name,.i e.x.date,.sl e.x.sub.length 5 (Ex.exG e.x.sub),.i e.date,.sl e.days.length 1 (Con.dayG e.days),.sl e.sub.length 12 e.deep]) e.conA:=by
 simp only [Con.conA,Ex.exS,Con.dayS,Con.conS,eqA];exact⟨⟨rfl,rfl⟩,rfl,rfl,rfl,⟨rfl,rfl⟩,rfl,rfl,⟨rfl,rfl⟩,⟨rfl,rfl,za _ _ _⟩,⟨rfl,rfl⟩,⟨rfl,rfl,za _ _ _⟩,⟨rfl,rfl,Con.qb e⟩,trivial⟩
theorem Jz(x:Ex):xa x<=x.size:=bP (Con.Kj x) (Con.JN x)
def SCd(c:Con)(d i:Nat):KV:=[(3,.i (d:Int)),(14,Con.conS c.sub),(15,.i (c.sub.length:Int)),(16,.i (i:Int))]
def ZH(n:Nat):Ctr:=ctrP true (λc:Con=>[c.conA]) (λc=>c.nodes<n/\c.big<2^40) (λc r=>r=c.depth) (λ_ (r:Nat)=>(.i (r:Int),[]))
noncomputable def GDb:=tb X0 (tb zh3 tz)
noncomputable def GDc(n:Nat):Nat->Option Ctr:=λf=>if f=49 then some (ZH n) else GDb.g f
theorem zju{n:Nat}(h:zc prog 49 (ZH n)):∀ f c,GDc n f=some c->zc prog f c:=by
 intro f c hf;simp only [GDc] at hf;split at hf
 ·rename_i hg; subst hg; cases hf; exact h
 ·exact GDb.h f c hf
theorem U7(n:Nat)(ih:zc prog 49 (ZH n)):zc prog 49 (ZH (n+1)):=by
 refine zf' f49 λc hp O w0 Q hq=> ?_
 obtain⟨hcn,hcb⟩:=hp;replace hq:=hq _ rfl;rw [Con.xj] at hq;refine zb.n (zju ih) [3,14,15,16] (.ex (q25 [(Ex.exA c.x)]) λn=>.all (λ(r:Bool)=>r=qR n) λn=>.ite (!n) (.ex (q26 [(Ex.exA c.x)]) λn=>.all (λ(r:Nat)=>r=Ex.depth n) λn=>.leaf (.loop (lps K49 0).1 (lps K49 0).2 [(3,.i n),(14,.sl c.sub.length 12 (Con.conG c.sub)),(15,.i c.sub.length),(16,.i 0)] [.box (Con.zd c)])) (.leaf (.loop (lps K49 0).1 (lps K49 0).2 [(3,.i 0),(14,.sl c.sub.length 12 (Con.conG c.sub)),(15,.i c.sub.length),(16,.i 0)] [.box (Con.zd c)]))) ?_;simp only [q25,q26,Tree.holds,ze,inR,lo,hi,aD];have hb:=hcb;rw [Con.xm] at hb;rw [Con.jH] at hcn;have hxd:=Jz c.x;have hsd:=Con.zaz c.sub;have hl:=Con.JT c.sub
 have loop:∀ (d0:Nat) (h:Heap),d0=xa c.x->(∀ S,LeK 0 f49.ntmps S h S []->True)->h=[.box c.zd]->zb prog f49 O 0 w0 [] (λ_ _ _=>False) (RetR (ZH (n+1)) 0 Q) (.code (.loop (lps K49 0).1)::(lps K49 0).2) (mk f49.ntmps [(3,.i (d0:Int)),(14,.sl c.sub.length 12 (Con.conG c.sub)),(15,.i (c.sub.length:Int)),(16,.i 0)] h):=by
  rintro d0 h rfl _ rfl;refine zb.loop (ι:={i:Nat // i<=c.sub.length}) (λi=>SCd c (max (xa c.x) (Con.z7 (c.sub.take i.1))) i.1) (λ_=>[]) (λi=>c.sub.length - i.1) ⟨0,aI _⟩ 0 ?_ ?_ (by kernel_rfl)
  ·exact⟨by simp [SCd,Con.z7,Con.conS,za],by simp,by kernel_rfl,aI _⟩
  ·rintro⟨i,hil⟩;have hdb:Con.z7 (c.sub.take i)<=Con.z7 c.sub:=Con.Ks c.sub i;obtain⟨d,hd⟩:∃ d,max (xa c.x) (Con.z7 (c.sub.take i))=d:=⟨_,rfl⟩;simp only [hd];refine zb.n (zju ih) [3,14,15,16] (let v1:=List.getD c.sub (i:Int).toNat Con.nil;.D ((i:Int)<(c.sub.length:Int)) (.side ((0:Int)<=i/\(i:Int)<(c.sub.length:Int)) (.ex (λ(x:Con)=>eqL [(Con.conD v1)] [(Con.conA x)]/\Con.nodes x<n/\Con.big x<1099511627776) λn=>.all (λ(r:Nat)=>r=Con.depth n) λn=>.S (i+1) (.leaf (.back 0 [(3,.i (max (d:Int) (n:Int))),(14,.sl c.sub.length 12 (Con.conG c.sub)),(15,.i c.sub.length),(16,.i (i+1))] [.box (Con.vM v1)])))) (.S (d+1) (.R [.i (d+1)] []))) ?_;simp only [Tree.holds,ze,inR,lo,hi,aD];refine⟨λhlt=> ?_,λhge=> ?_⟩
   ·have hlt:i<c.sub.length:=by have:=aB hlt; omega
    have hg:=Con.qZ hlt;have hgb:=Con.Z4 hlt;have ht:=Con.vC c.sub i hlt;refine⟨by omega,λ_=>⟨c.sub.getD i Con.nil,⟨⟨yH _,trivial⟩,by omega,by omega⟩,⟨_,rfl⟩,?_⟩⟩;rintro _ rfl;refine⟨by omega,λ_=> ?_⟩;rw [aP trivial];refine⟨⟨i+1,hlt⟩,by show c.sub.length - (i+1)<c.sub.length - i; omega,?_,by simp,by kernel_rfl,aI _⟩;simp [SCd,ht,Con.conS,za]; omega
   ·have hge:i=c.sub.length:=by have:=aC hge; omega
    subst hge;rw [bD] at hd;refine⟨by omega,λ_=> ?_⟩;exact RetR.scal hq rfl (by simp [resV]; omega)
 refine⟨c.x,⟨⟨qF c.x,trivial⟩,trivial⟩,⟨_,rfl⟩,?_⟩;rintro _ rfl;refine⟨λh=>⟨c.x,⟨⟨qF c.x,trivial⟩,by show c.x.size<_; omega⟩,⟨_,rfl⟩,?_⟩,λh=> ?_⟩
 ·rintro _ rfl;exact loop c.x.depth _ (by unfold xa; rw [show qR c.x=false by simpa using h]; rfl) (λ_ _=>trivial) rfl
 ·exact loop 0 _ (by unfold xa; rw [show qR c.x=true by simpa using h]; rfl) (λ_ _=>trivial) rfl
def VV:Ctr:=ctrP true (λc:Con=>[c.conA]) (λc=>c.big<2^40) (λc r=>r=c.depth) (λ_ (r:Nat)=>(.i (r:Int),[]))
theorem zh0:zc prog 49 VV:=jf Con.nodes U7
end Go.Proofs.Tryz
end
section
namespace Go.Sx
variable [Stat]
section
variable {P:Program}
theorem VS(a:AV):eqA0 a a:=by
 cases a<;>simp [eqA0]
 exactλ_ _ _ _=>rfl
theorem Qp:∀ l:List AV,eqL0 l l
 | []=>trivial
 | a::l=>⟨VS a,Qp l⟩
theorem zm9(a:AV):eqA a a:=by
 cases a with
 | agg l=>exact Qp l
 | tup l=>exact Qp l
 | _=>unfold eqA; exact VS _
theorem JM:∀ l:List AV,eqL l l
 | []=>trivial
 | a::l=>by
  unfold eqL;split
  ·rename_i h1 h2; cases h1
  ·rename_i h1 h2; cases h1; cases h2; exact JM l
  ·rename_i h1 h2; cases h1; cases h2; exact⟨zm9 _,JM l⟩
  ·rename_i hx; exact(hx _ _ _ _ rfl rfl).elim
end
end Go.Sx
end
section
namespace Go.Sx
variable [Stat]
section
variable {P:Program} {Γ:Nat->Option Ctr} {fn:Func}
def inlC(P:Program)(Γ:Nat->Option Ctr)(n:Nat)(fn:Func):Ctr where
 fresh:=false
 spec args hc:=match fn.body with
  | some c=>(run P Γ hc.length n [.code c] (wR fn args hc)).bind λlf=>match lf with
   | .ret st=>(resX P st fn.results.toList).bind λrs=>bif decide (hc.length<=st.heap.length) then .leaf (exp2 st.heap (List.range st.heap.length) (resV rs),expH st.heap (List.range st.heap.length)) else .fail
   | _=>.fail
  | none=>.fail
theorem nodup_range':∀ (n s:Nat),jW (List.range' s n)=true
 | 0,_=>rfl
 | n+1,s=>by
  rw [List.range'_succ];simp only [jW,bA];refine⟨?_,nodup_range' n (s+1)⟩;simp [bY,List.mem_range'_1]
theorem zJ(b:Blk):eqB b b:=by
 cases b with
 | dead=>trivial
 | box l=>exact JM l
 | arr n sz g=>exact⟨rfl,rfl,λ_ _ _ _=>rfl⟩
 | arrI k n f=>exact⟨rfl,λ_ _ _ _=>rfl⟩
 | arrS n f=>exact⟨rfl,λ_ _ _ _=>rfl⟩
 | map ag sh has get pe=>exact⟨⟨rfl,.inr rfl⟩,rfl,λ_=>rfl,λ_ _=>rfl⟩
theorem zgu(h:Heap):eqH h h:=by
 induction h with
 | nil=>trivial
 | cons b l ih=>exact⟨zJ b,ih⟩
theorem zlm{g n:Nat}(hmix:P.follows .mixedOrders=true)(hΓ:∀ g c,Γ g=some c->zc P g c)(hf:P.funcs[g]?=some fn) (hn:(fn.name == "runtime.NumGoroutine")=false):zc P g (inlC P Γ n fn):=by
 intro args hc Q hq hfr;simp only [inlC] at hq;cases hb:fn.body with
 | none=>rw [hb] at hq; exact hq.elim
 | some c=>
  rw [hb] at hq;simp only [Tree.zn] at hq;refine qJ.plain (zrx hf hb hn hfr λO w0 I0 hl=>Safe.run hmix (λg c h=>(hΓ g c h).x) n (Tree.qk (λlf h=> ?_) hq));cases lf with
  | ret st=>
   simp only [Tree.zn] at h;refine Tree.qk (λrs h=> ?_) h;cases hd:decide (hc.length<=st.heap.length) with
   | false=>rw [hd] at h; exact h.elim
   | true=>
    rw [hd] at h;have h:Q (exp2 st.heap (List.range st.heap.length) (resV rs),expH st.heap (List.range st.heap.length)):=h;have hd:=aB hd;exact⟨List.range st.heap.length,by rw [List.range_eq_range']; exact nodup_range' _ _,λi hi=>List.mem_range.1 hi,λj hj=>by rw [List.getElem?_range (by omega)],λh=>(by cases h),_,_,LeA.refl _,.inl (zgu _),by simp [expH],h⟩
  | _=>exact h.elim
end
end Go.Sx
end
section
namespace Go.Nov
open Go.Sx
theorem ye:∀ s:L8,Op.bytesLess s s=false
 | []=>rfl
 | a::s=>by simp [Op.bytesLess,ye s]
theorem yf:∀ {s t u:L8},Op.bytesLess s t=true->Op.bytesLess t u=true->Op.bytesLess s u=true
 | s,[],u,h,_=>by cases s<;>simp [Op.bytesLess] at h
 | [],b::t,[],_,h=>by simp [Op.bytesLess] at h
 | [],b::t,c::u,_,_=>rfl
 | a::s,b::t,[],_,h=>by simp [Op.bytesLess] at h
 | a::s,b::t,c::u,h,k=>by
  simp only [Op.bytesLess,Bool.or_eq_true,bA,aK,beq_iff_eq] at h k ⊢;rcases h with h | ⟨rfl,h⟩
  ·rcases k with k | ⟨rfl,k⟩
   ·exact .inl (UInt8.lt_trans h k)
   ·exact .inl h
  ·rcases k with k | ⟨rfl,k⟩
   ·exact .inl k
   ·exact .inr ⟨rfl,yf h k⟩
theorem zop{s t:L8} : cmpS s t<0↔Op.bytesLess s t=true:=by
 unfold cmpS;cases Op.bytesLess s t with
 | true=>simp
 | false=>by_cases h:s=t<;>simp [h]
theorem kO{s t:L8} : cmpS s t=0↔s=t:=by
 unfold cmpS;cases hb:Op.bytesLess s t with
 | true=>
  simp only [if_true];refine⟨λh=>by omega,λh=> ?_⟩;subst h; rw [ye] at hb; cases hb
 | false=>by_cases h:s=t<;>simp [h]
theorem ze3{x y:Int} : cmpI x y=0↔x=y:=by
 unfold cmpI;split
 ·exact⟨λh=>by omega,λh=>by omega⟩
 ·split
  ·exact⟨λh=>by omega,λh=>by omega⟩
  ·exact⟨λ_=>by omega,λ_=>rfl⟩
theorem vQ{a b:Fx} : cmpF a b=0↔a.name=b.name/\a.date=b.date:=by
 unfold cmpF;by_cases h:cmpS a.name b.name=0
 ·rw [aP h,ze3]; exact⟨λh2=>⟨kO.1 h,h2⟩,λh2=>h2.2⟩
 ·rw [aO h]; exact⟨λh2=>absurd h2 h,λh2=>absurd (kO.2 h2.1) h⟩
theorem vR{a b:Fx} : cmpF a b<0↔Op.bytesLess a.name b.name=true\/a.name=b.name/\a.date<b.date:=by
 unfold cmpF;by_cases h:cmpS a.name b.name=0
 ·rw [aP h,Xw];have h2:=kO.1 h;rw [h2,ye];simp
 ·rw [aO h,zop];exact⟨λh2=>.inl h2,λh2=>h2.elim id λh3=>absurd (kO.2 h3.1) h⟩
theorem zq0{a b:Ch} : cmpC a b=0↔a.zL=b.zL/\a.name=b.name/\a.date=b.date:=by
 unfold cmpC;by_cases h:cmpS a.zL b.zL=0
 ·rw [aP h];have h1:=kO.1 h;by_cases h':cmpS a.name b.name=0
  ·rw [aP h',ze3]; exact⟨λh2=>⟨h1,kO.1 h',h2⟩,λh2=>h2.2.2⟩
  ·rw [aO h']; exact⟨λh2=>absurd h2 h',λh2=>absurd (kO.2 h2.2.1) h'⟩
 ·rw [aO h]; exact⟨λh2=>absurd h2 h,λh2=>absurd (kO.2 h2.1) h⟩
structure OrdK{α:Type}(c:α->α->Int):Prop where
 lt:∀ a b d,c a b<0->c b d<0->c a d<0
 eq:∀ a b d,c a b<0->c b d=0->c a d<0
theorem W6:OrdK cmpF where
 lt a b d h k:=by
  rw [vR] at *
  rcases h with h | ⟨h1,h2⟩
  ·rcases k with k | ⟨k1,k2⟩
   ·exact .inl (yf h k)
   ·rw [k1] at h; exact .inl h
  ·rcases k with k | ⟨k1,k2⟩
   ·rw [<- h1] at k; exact .inl k
   ·exact .inr ⟨h1.trans k1,by omega⟩
 eq a b d h k:=by
  rw [vQ] at k;rw [vR] at *
  rw [k.1,k.2] at h;exact h
section
variable {α:Type} {c:α->α->Int} {z x:α}
def zb2(c:α->α->Int)(x:α):List α->List α
 | []=>[x]
 | o::l=>if c o x<0 then o::zb2 c x l else if c o x=0 then x::l else x::o::l
theorem ZF(hk:OrdK c):∀ {l:List α},ordB c z l=true->l.Pairwise λa b=>c a b<0
 | [],_=>.nil
 | [a],_=>by simp
 | a::b::l,h=>by
  have h1:c a b<0:=by
   simp only [ordB,bG,List.mem_range,aK] at h;have:=h 0 (by simp);simpa using this
  have h2:ordB c z (b::l)=true:=by
   simp only [ordB,bG,List.mem_range,aK] at h ⊢;intro i hi;have:=h (i+1) (by simp at hi ⊢; omega);simpa using this
  have ih:=ZF hk h2;refine List.pairwise_cons.2 ⟨λy hy=> ?_,ih⟩;rcases aM.1 hy with rfl | hy
  ·exact h1
  ·exact hk.lt _ _ _ h1 (List.rel_of_pairwise_cons ih hy)
end
theorem ztl{α:Type}{p:α->Bool}{z:α}{l:List α}(h:∀ j,j<l.length->p (l.getD j z)=true):l.all p=true:=by
 rw [bG];intro x hx;obtain⟨j,hj,rfl⟩:=List.getElem_of_mem hx;have:=h j hj;simpa [List.getD,hj] using this
theorem zpo{α:Type}{p:α->Bool}{z:α}{l:List α}{j:Nat}(hj:j<l.length)(h:p (l.getD j z)=false):l.all p=false:=by
 rw [List.all_eq_false];exact⟨l[j],bK hj,by simpa [List.getD,hj] using h⟩
theorem jG{f:List Fx}{c:List Ch} : errE f c=0↔¬ (1000<f.length\/1000<c.length)/\f.all okF=true/\c.all okC=true/\ordB cmpF Fx.nil f=true/\ordB cmpC Ch.nil c=true:=by
 unfold errE;by_cases hb:1000<f.length\/1000<c.length
 ·rw [aP hb]; simp [hb]
 ·rw [aO hb];by_cases h:(f.all okF&&c.all okC&&ordB cmpF Fx.nil f&&ordB cmpC Ch.nil c)=true
  ·rw [aP h];simp only [bA] at h;exact⟨λ_=>⟨hb,h.1.1.1,h.1.1.2,h.1.2,h.2⟩,λ_=>rfl⟩
  ·rw [aO h];refine⟨λh2=>by omega,λh2=>absurd ?_ h⟩;simp [h2.2.1,h2.2.2.1,h2.2.2.2.1,h2.2.2.2.2]
def zF(l:List Fx)(a:L8)(d:Int):L8×Bool:=match l.find? λx=>decide (x.name=a)&&decide (x.date=d) with
 | some x=>(x.value,true)
 | none=>([],false)
def qc(l:List Ch)(p n:L8)(d:Int):Bool:=match l.find? λx=>decide (x.zL=p)&&(decide (x.name=n)&&decide (x.date=d)) with
 | some x=>x.first
 | none=>false
theorem zr9{α:Type}{p:α->Bool}{l:List α}{z:α}{i:Nat}(hi:i<l.length)(h:p (l.getD i z)=true)(hb:∀ j,j<i->p (l.getD j z)=false):l.find? p=some (l.getD i z):=by
 induction l generalizing i with
 | nil=>simp at hi
 | cons a l ih=>
  cases i with
  | zero=>simp only [List.getD_cons_zero] at h ⊢; simp [h]
  | succ i=>
   have h0:=hb 0 (by omega);simp only [List.getD_cons_zero,List.getD_cons_succ] at h h0 ⊢;rw [List.find?_cons,h0];exact ih (by simpa using hi) h λj hj=>by have:=hb (j+1) (by omega); simpa using this
def putF(f:List Fx)(c:List Ch)(x:Fx):(List Fx×List Ch)×Int:=
 if errE f c≠0 then(([],[]),errE f c) else if(qe x.name&&dayB x.date)=false then(([],[]),2) else if errR x.value≠0 then(([],[]),errR x.value)
 else if 1000<(zb2 cmpF x f).length then(([],[]),22) else((zb2 cmpF x f,c),0)
end Go.Nov
end
section
set_option maxRecDepth 100000
open Go Go.Sx Go.Proofs Go.Nov
namespace Go.Proofs.Tryz
attribute [local simp] eqKV eqA eqA0 eqH eqB eqL eqL0
noncomputable def K96:=Go.Sx.aA f96
def zs4:Ctr:=ctrP true (λl:List Int=>[Con.dayS l]) (λl=>l.length<2^40) (λl r=>r=xV l) (λ_ (r:Bool)=>(.bool r,[]))
noncomputable def za6:Ctr:=inlC prog noG 100 f95
theorem KF:zc prog 95 za6:=zlm hmix zD rfl rfl
noncomputable def GDy:=tb KF tz
def zf0(l:List Int)(i:Nat):Prop:=∀ j,j<i->dayB (l.getD j 0)=true/\(0<j->l.getD (j - 1) 0<l.getD j 0)
theorem zfn{l:List Int}(h1:1<=l.length)(h2:l.length<=100)(h:zf0 l l.length):xV l=true:=by
 unfold xV;rw [aX h1,aX h2,ztl (z:=0) λj hj=>(h j hj).1];simp only [Bool.true_and];unfold incB;refine Zk λj hj=> ?_
 rw [Xw];exact(h (j+1) hj).2 (by omega)
theorem zlc{l:List Int}{i:Nat}(hi:i<l.length)(h:¬ (dayB (l.getD i 0)=true/\(0<i->l.getD (i - 1) 0<l.getD i 0))):xV l=false:=by
 unfold xV;by_cases hd:dayB (l.getD i 0)=true
 ·have h:0<i/\¬ l.getD (i - 1) 0<l.getD i 0:=by
   refine⟨?_,?_⟩
   ·rcases bC i with h0 | h0
    ·exact absurd ⟨hd,λh1=>by omega⟩ h
    ·exact h0
   ·exactλh1=>h ⟨hd,λ_=>h1⟩
  have:incB l=false:=by
   unfold incB;refine Jv (j:=i - 1) (by omega) ?_;rw [Xw,show i - 1+1=i by omega];exact h.2
  rw [this]; simp
 ·have:l.all dayB=false:=zpo (z:=0) hi (by simpa using hd);rw [this]; simp
theorem zbf{l:List Int}{i:Nat}(h:zf0 l i)(h1:dayB (l.getD i 0)=true/\(0<i->l.getD (i - 1) 0<l.getD i 0)):zf0 l (i+1):=λj hj=>by
 rcases aR j i with h2 | h2
 ·exact h j h2
 ·rw [show j=i by omega]; exact h1
theorem zdz{l:List Int}{i:Nat}{b:Bool}(hb:b=dayB (l.getD i 0)):(bif !b then true else bif decide (0<(i:Int)) then decide (l.getD i 0<=l.getD ((i:Int) - 1).toNat 0) else false)=false↔(dayB (l.getD i 0)=true/\(0<i->l.getD (i - 1) 0<l.getD i 0)):=by
 have e:((i:Int) - 1).toNat=i - 1:=by omega
 rw [e,<- hb];cases b with
 | false=>simp
 | true=>
  by_cases h0:0<i
  ·have h1:0<(i:Int):=by omega
   rw [aX h1];simp only [Bool.not_true,cond_false,cond_true,aV,true_and];exact⟨λh _=>by omega,λh=>by have:=h h0; omega⟩
  ·have h1:¬ 0<(i:Int):=by omega
   rw [aW h1];simp [h0]
theorem zix{l:List Int}{i:Nat}{b:Bool}(hb:b=dayB (l.getD i 0)):(bif !b then true else bif decide (0<(i:Int)) then decide (l.getD i 0<=l.getD ((i:Int) - 1).toNat 0) else false)=true->¬ (dayB (l.getD i 0)=true/\(0<i->l.getD (i - 1) 0<l.getD i 0)):=λh g=>by
 rw [(zdz hb).2 g] at h; cases h
def SDy(l:List Int)(i:Nat):KV:=[(0,Con.dayS l),(13,Con.dayS l),(14,.i (l.length:Int)),(15,.i (i:Int)),Z 24,Z 25,Z 26,Z 27,Z 28,Z 29,Z 30,Z 31,Z 32,Z 33,Z 34]
theorem zsk(d:Int):(bif decide (0<=d) then decide (d<=99999) else false)=dayB d:=by
 rw [Bool.eq_iff_iff];simp [dayB]
theorem zp3:zc prog 96 zs4:=by
 refine zf' f96 λl hl O w0 Q hq=> ?_
 replace hq:=hq _ rfl;refine zb.n GDy.h [0,13,14,15,24,25,26,27,28,29,30,31,32,33,34] (.ite (bif decide ((l.length:Int)<1) then true else decide ((100:Int)<l.length)) (.R [.bool false] []) (.leaf (.loop (lps K96 0).1 (lps K96 0).2 [(0,.sl l.length 1 (Con.dayG l)),(13,.sl l.length 1 (Con.dayG l)),(14,.i l.length),(15,.i 0),Z 24,Z 25,Z 26,Z 27,Z 28,Z 29,Z 30,Z 31,Z 32,Z 33,Z 34] []))) ?_;simp only [Tree.holds,ze,inR,lo,hi,aD];refine⟨λh=> ?_,λh=> ?_⟩
 ·have hb:xV l=false:=by
   unfold xV;by_cases h1:1<=l.length
   ·by_cases h2:l.length<=100
    ·rw [aW (by omega),aW (by omega)] at h; cases h
    ·rw [aW h2]; simp
   ·rw [aW h1]; simp
  rw [hb] at hq;exact RetR.scal hq rfl rfl
 have hlen:1<=l.length/\l.length<=100:=by
  by_cases h1:(l.length:Int)<1
  ·rw [aX h1] at h; cases h
  ·rw [aW h1] at h;have:=aC h;omega
 clear h;refine zb.loop (ι:={i:Nat // i<=l.length/\zf0 l i}) (λi=>SDy l i.1) (λ_=>[]) (λi=>l.length - i.1) ⟨0,aI _,λj hj=>by omega⟩ 0 ?_ ?_ (by kernel_rfl)
 ·exact⟨by simp [SDy,Con.dayS,za],by simp,by kernel_rfl,aI _⟩
 rintro⟨i,hil,hg⟩;refine zb.n GDy.h [0,13,14,15,24,25,26,27,28,29,30,31,32,33,34] (let v1:=l.getD (i:Int).toNat (0:Int)<=99999;.D ((i:Int)<l.length) (.side ((0:Int)<=i/\(i:Int)<l.length) (.side ((!bif decide ((0:Int)<=List.getD l (i:Int).toNat (0:Int)) then decide v1 else false)=false/\decide ((0:Int)<i)=true->inR .i64 (i-1)) (.side ((!bif decide ((0:Int)<=List.getD l (i:Int).toNat (0:Int)) then decide v1 else false)=false/\decide ((0:Int)<i)=true->(0:Int)<=i - (1:Int)/\(i:Int) - (1:Int)<l.length) (.ite (bif !bif decide ((0:Int)<=List.getD l (i:Int).toNat (0:Int)) then decide v1 else false then true else bif decide ((0:Int)<i) then decide (l.getD (i:Int).toNat (0:Int)<=List.getD l (Int.toNat (i-1)) (0:Int)) else false) (.R [.bool false] []) (.S (i+1) (.leaf (.back 0 [(0,.sl l.length 1 (Con.dayG l)),(13,.sl l.length 1 (Con.dayG l)),(14,.i l.length),(15,.i (i+1)),Z 24,Z 25,Z 26,Z 27,Z 28,Z 29,Z 30,Z 31,Z 32,Z 33,Z 34] []))))))) (.R [.bool true] [])) ?_;simp only [Tree.holds,ze,inR,lo,hi,aD];refine⟨λhlt=> ?_,λhge=> ?_⟩
 ·have hlt:i<l.length:=by have:=aB hlt; omega
  refine⟨by omega,λ_=>⟨λh=>(by have:=aB h.2; omega),λ_=>⟨λh=>(by have:=aB h.2; omega),λ_=>⟨λht=> ?_,λht=>⟨by omega,λ_=> ?_⟩⟩⟩⟩⟩
  ·rw [zlc hlt (zix (zsk _) ht)] at hq;exact RetR.scal hq rfl rfl
  ·rw [aP trivial];exact⟨⟨i+1,hlt,zbf hg ((zdz (zsk _)).1 ht)⟩,by show l.length - (i+1)<l.length - i; omega,by simp [SDy,Con.dayS,za],by simp,by kernel_rfl,aI _⟩
 ·have hge:i=l.length:=by have:=aC hge; omega
  subst hge;rw [zfn hlen.1 hlen.2 hg] at hq;exact RetR.scal hq rfl rfl
def bitB(p q:Int):Bool:=decide (((p.toNat &&& q.toNat:Nat):Int)≠0)
def HHas(p:Int):Heap:=[.box [.i p]]
def hasC:Ctr:=ctrT false false (λp:Int×Int=>[.i p.2,.ptr 0 0]) (λp=>HHas p.1) (λp=>0<=p.1/\p.1<512/\0<=p.2/\p.2<512) (λp r=>r=bitB p.1 p.2) (λp (r:Bool)=>(.bool r,HHas p.1))
theorem zlx:zc prog 91 hasC:=by
 refine zH (fn:=f91) (c:=f91.body.getD .skip) rfl rfl rfl (λh=>by cases h) λp hp O w0 I0 Q hl0 hq=> ?_
 obtain⟨p,q⟩:=p;obtain⟨h1,h2,h3,h4⟩:=hp;replace hq:=hq _ rfl;simp only at h1 h2 h3 h4 hq;refine zb.n zD [] (.side (((0:Int)<=p/\p<=9223372036854775807)/\(0:Int)<=q/\q<=9223372036854775807) (.R [.bool !decide ((↑(Int.toNat p &&& Int.toNat q):Int)=0)] [.box [.i p]])) ?_;simp only [Tree.holds,ze,inR,lo,hi,aD];refine⟨by omega,λ_=> ?_⟩;refine RetR.keep [0] rfl rfl (by show ∀ j,j<1->_; decide) rfl hq ?_ ?_ rfl
 ·show(!decide (((p.toNat &&& q.toNat:Nat):Int)=0))=bitB p q;simp [bitB]
 ·exact⟨⟨⟨rfl,rfl⟩,trivial⟩,trivial⟩
noncomputable def GNd2:=tb zlx (tb Jd tz)
def zs0(p:Int):Heap:=[.box [.fn 91 [] [.ptr 1 0]],.box [.i p]]
def wG(b:Bool)(s:L8):Bool:=if b=true then qe s else decide (s=[])
def zsn:Ctr:=ctrT false false (λp:Int×Int×L8=>[.i p.2.1,.str p.2.2,.ptr 0 0]) (λp=>zs0 p.1) (λp=>0<=p.1/\p.1<512/\0<=p.2.1/\p.2.1<512/\p.2.2.length<2^62) (λp r=>r=wG (bitB p.1 p.2.1) p.2.2) (λp (r:Bool)=>(.bool r,zs0 p.1))
abbrev q27(A:List AV)(H:Heap)(x:Int×Int):Prop:=eqL A [.i x.2,.ptr 0 0]/\eqH H [.box [.i x.1]]/\1=1/\(0:Int)<=x.1/\x.1<512/\(0:Int)<=x.2/\x.2<512
theorem zpn:zc prog 92 zsn:=by
 refine zH (fn:=f92) (c:=f92.body.getD .skip) rfl rfl rfl (λh=>by cases h) λp hp O w0 I0 Q hl0 hq=> ?_
 obtain⟨p,q,s⟩:=p;obtain⟨h1,h2,h3,h4,h5⟩:=hp;replace hq:=hq _ rfl;simp only at h1 h2 h3 h4 h5 hq;refine zb.n GNd2.h [] (.ex (q27 [.i q,.ptr 0 0] [.box [.i p]]) λn=>.all (λ(r:Bool)=>r=bitB n.1 n.2) λn_1=>.ex (λ(x:L8)=>n_1=true->q15 [.str s] x) λn_2=>.all (λ(x:Bool)=>n_1=true->x=qe n_2) λn_3=>.ite ((bif n_1 then n_3 else false) == false) (.ex (q27 [.i q,.ptr 0 0] [.box [.i n.1]]) λn=>.all (λ(r:Bool)=>r=bitB n.1 n.2) λn_4=>.R [.bool (bif bif n_1 then n_3 else false then true else bif !n_4 then decide (s=#[].toList) else false)] [.box [.fn 91 [] [.ptr 1 0]],.box [.i n.1]]) (.R [.bool (bif bif n_1 then n_3 else false then true else bif !false then decide (s=#[].toList) else false)] [.box [.fn 91 [] [.ptr 1 0]],.box [.i n.1]])) ?_;simp only [q15,q27,Tree.holds,ze,inR,lo,hi,aD];refine⟨(p,q),⟨⟨⟨rfl,rfl⟩,⟨rfl,rfl⟩,trivial⟩,⟨⟨⟨rfl,rfl⟩,trivial⟩,trivial⟩,trivial,h1,h2,h3,h4⟩,⟨_,rfl⟩,?_⟩;rintro b rfl;refine⟨s,λ_=>⟨⟨rfl,trivial⟩,h5⟩,⟨qe s,λ_=>rfl⟩,λm hm=>⟨λhb=> ?_,λhb=> ?_⟩⟩
 ·refine⟨(p,q),⟨⟨⟨rfl,rfl⟩,⟨rfl,rfl⟩,trivial⟩,⟨⟨⟨rfl,rfl⟩,trivial⟩,trivial⟩,trivial,h1,h2,h3,h4⟩,⟨_,rfl⟩,?_⟩;rintro b rfl;refine RetR.keep [0,1] rfl rfl (by show ∀ j,j<2->_; decide) rfl hq ?_ ?_ rfl
  ·simp only [exp2,exp1,exp0,resV,eqA2,wG];cases hbb:bitB p q with
   | true=>
    have:=hm hbb;rw [hbb] at hb;subst this;have:qe s=false:=by simpa using hb
    rw [this]; rfl
   | false=>simp; rfl
  ·exact⟨⟨rfl,trivial⟩,⟨⟨rfl,rfl⟩,trivial⟩,trivial⟩
 ·refine RetR.keep [0,1] rfl rfl (by show ∀ j,j<2->_; decide) rfl hq ?_ ?_ rfl
  ·simp only [exp2,exp1,exp0,resV,eqA2,wG];cases hbb:bitB p q with
   | true=>
    have:=hm hbb;rw [hbb] at hb;subst this;have:qe s=true:=by simpa using hb
    rw [this]; rfl
   | false=>rw [hbb] at hb; simp at hb
  ·exact⟨⟨rfl,trivial⟩,⟨⟨rfl,rfl⟩,trivial⟩,trivial⟩
noncomputable def GNd:=tb zlx (tb zpn (tb ztq (tb zlt (tb X0 (tb KF (tb zp3 tz))))))
end Go.Proofs.Tryz
end
section
namespace Go.Sx
variable [Stat]
section
variable {O:Nat->Prop} {pin:Nat} {w0:World} {I0:List SE} {P:Program} {fn:Func} {Xp:List PanicEntry->Prop}
end
end Go.Sx
end
section
namespace Go.Sx
variable [Stat]
section
variable {O:Nat->Prop} {pin:Nat} {w0:World} {I0:List SE} {P:Program} {fn:Func} {Xp:List PanicEntry->Prop}
def jF:Nat->Code->List Item
 | n+1,.seq a b=>.code a::jF n b
 | _,c=>[.code c]
theorem Va{M:Option Nat}{H:Nat->Act->World->Prop}{B:Exit->Act->World->Prop}{k:List Item}{e:Exit}(he:e≠.normal){a:Act}{w:World} : ∀ (n:Nat) (c:Code),wpK M P H B (jF n c++k) e a w->wpK M P H B k e a w
 | 0,c,h=>by cases c<;>cases e<;>first | exact absurd rfl he | exact h
 | n+1,c,h=>by
  cases c with
  | seq x y=>cases e<;>first | exact absurd rfl he | exact Va he n y h
  | _=>cases e<;>first | exact absurd rfl he | exact h
theorem Qo{M:Option Nat}{H:Nat->Act->World->Prop}{B:Exit->Act->World->Prop} : ∀ (n:Nat) (c:Code) (k:List Item) (a:Act) (w:World),wpK M P H B (jF n c++k) .normal a w->wpK M P H B (.code c::k) .normal a w
 | 0,c,k,a,w,h=>by cases c<;>exact h
 | n+1,c,k,a,w,h=>by
  cases c with
  | seq x y=>
   simp only [jF,List.cons_append,wpK] at h ⊢;refine wpIn_seq (wpIn_mono h λe a w h=> ?_);cases e with
   | normal=>exact Qo n y k a w h
   | _=>exact Va (by simp) n y h
  | _=>exact h
theorem zb.spine{M:Option Nat}{Hs:Nat->KV->Heap->Prop}{R:List AV->Heap->Prop}{k:List Item}{c:Code}{st:St}(n:Nat)(h:qt Xp M P fn O pin w0 I0 Hs R (Go.Sx.jF n c++k) st):qt Xp M P fn O pin w0 I0 Hs R (.code c::k) st:=
 λw σ a hm=>Qo n c k a w (h w σ a hm)
def QA:Item->Bool
 | .inLoop=>false
 | _=>true
theorem kU{M:Option Nat}{H H':Nat->Act->World->Prop}{B:Exit->Act->World->Prop}{k:List Item}(h1:∀ a w,H' (j0 k) a w->wpK M P H B k .normal a w)(h2:∀ d a w,d<j0 k->H' d a w->H d a w) :
  ∀ (ks:List Item),ks.all QA=true->∀ (e:Exit) (a:Act) (w:World),wpK M P H' B (ks++.inLoop::k) e a w->wpK M P H B (ks++k) e a w
 | [],_,e,a,w,h=>by
  cases e with
  | normal=>exact h1 a w h
  | _=>exact j2 (k:=k) (λd a w hd h=>h2 d a w hd h) h
 | .code c::ks,hf,e,a,w,h=>by
  have hf':ks.all QA=true:=by simpa [QA] using hf
  cases e with
  | normal=>exact wpIn_mono h λe a w h=>kU h1 h2 ks hf' e a w h
  | _=>exact kU h1 h2 ks hf' _ a w h
 | .inBlock id::ks,hf,e,a,w,h=>by
  have hf':ks.all QA=true:=by simpa [QA] using hf
  cases e with
  | normal=>exact kU h1 h2 ks hf' _ a w h
  | exit i=>
   simp only [List.cons_append,wpK] at h ⊢;split at h
   ·rename_i hi; rw [aP hi]; exact kU h1 h2 ks hf' _ a w h
   ·rename_i hi; rw [aO hi]; exact kU h1 h2 ks hf' _ a w h
  | _=>exact kU h1 h2 ks hf' _ a w h
 | .inLoop::ks,hf,e,a,w,h=>by simp [QA] at hf
theorem zb.cutL{M:Option Nat}{ι:Type}{Hs:Nat->KV->Heap->Prop}{R:List AV->Heap->Prop}{st:St}(L:List Item)(m dk:Nat)(S:ι->KV)(H:ι->Heap)(hf:(L.take m).all QA=true)(hd:j0 (L.drop m)=dk)
  (h1:qt Xp M P fn O pin w0 I0 (λd kv h=>if d=dk then ∃ x,LeK pin fn.ntmps kv h (S x) (H x) else Hs d kv h) R (L.take m++.inLoop::L.drop m) st)
  (h2:∀ x,qt Xp M P fn O pin w0 I0 Hs R (L.drop m) (mk fn.ntmps (S x) (H x))):qt Xp M P fn O pin w0 I0 Hs R L st:=by
 subst hd;intro w σ a hm;have:=h1 w σ a hm;rw [<- bU m L];refine kU ?_ ?_ (L.take m) hf .normal a w this
 ·rintro a' w' ⟨st',Z',⟨kv,h,hh,rfl⟩,hm'⟩;rw [aP rfl] at hh;obtain⟨x,hle⟩:=hh;exact h2 x w' _ a' (hle.le.mod hm')
 ·rintro d a' w' hd ⟨st',Z',⟨kv,h,hh,rfl⟩,hm'⟩;rw [aO (by omega)] at hh;exact⟨_,Z',⟨kv,h,hh,rfl⟩,hm'⟩
end
end Go.Sx
end
section
set_option maxRecDepth 100000
open Go Go.Sx Go.Proofs Go.Nov
def Go.Nov.Con.p(c:Con):Int:=kX c.kind
namespace Go.Proofs.Tryz
attribute [local simp] eqKV eqA eqA0 eqH eqB eqL eqL0
def zlp:Ctr:=ctrP true (λc:Con=>[c.conA]) (λc=>c.big<2^40) (λc r=>r=c.xZ) (λ_ (r:Bool)=>(.bool r,[]))
noncomputable def LN:List Go.Sx.Item:=jF 12 (f51.body.getD .skip)++[]
noncomputable def LN1:List Go.Sx.Item:=LN.drop 6
noncomputable def LN2:List Go.Sx.Item:=LN1.drop 1
noncomputable def LN3:List Go.Sx.Item:=LN2.drop 3
noncomputable def LN4:List Go.Sx.Item:=LN3.drop 1
noncomputable def LN5:List Go.Sx.Item:=LN4.drop 1
def HNd(c:Con):Heap:=[.box c.zd,.box [.i c.p],.box [.fn 91 [] [.ptr 1 0]]]
def SN1:KV:=[(1,.ptr 0 0),(5,.ptr 2 0),(6,.fn 92 [] [.ptr 2 0])]
def SN2(a:Bool):KV:=[(1,.ptr 0 0),(4,.bool a),(5,.ptr 2 0)]
def SN3(a:Bool)(m:Int):KV:=[(1,.ptr 0 0),(4,.bool a),(5,.ptr 2 0),(7,.i m)]
def SN4(a:Bool)(m:Int)(b:Bool):KV:=[(1,.ptr 0 0),(4,.bool a),(5,.ptr 2 0),(7,.i m),(8,.bool b)]
def SN5(a:Bool)(m:Int)(b d:Bool):KV:=[(1,.ptr 0 0),(4,.bool a),(7,.i m),(8,.bool b),(9,.bool d)]
namespace Nd
def words(c:Con):Prop:=wG (bitB c.p 1) c.src=true/\wG (bitB c.p 2) c.dst=true/\wG (bitB c.p 4) c.name=true/\¬ (bitB c.p 2=true/\c.src=c.dst)
def okX(c:Con):Bool:=if bitB c.p 8=true then numX c.x else if bitB c.p 16=true then truX c.x else qR c.x
def subs(c:Con):Int:=if bitB c.p 256=true then 2 else if bitB c.p 128=true then 1 else 0
def right(c:Con):Bool:=if bitB c.p 32=true then dayB c.date else decide (c.date=0)
def list(c:Con):Bool:=if bitB c.p 64=true then xV c.days else decide (c.days.length=0)
end Nd
theorem zfh(k:Int):0<=kX k/\kX k<512:=by
 unfold kX
 repeat' split
 all_goals decide
theorem VP{c:Con}(hk:1<=c.kind/\c.kind<=10):c.xZ=true↔Nd.words c/\Nd.okX c=true/\Nd.right c=true/\Nd.list c=true/\(c.sub.length:Int)=Nd.subs c:=by
 have hr:c.kind=1\/c.kind=2\/c.kind=3\/c.kind=4\/c.kind=5\/c.kind=6\/c.kind=7\/c.kind=8\/c.kind=9\/c.kind=10:=by omega
 unfold Con.xZ j7 Nd.words Nd.okX Nd.right Nd.list Nd.subs Con.p kX wG bitB;generalize c.kind=k at hr hk;generalize c.src=a;generalize c.dst=b;generalize c.name=n;generalize c.x=x;generalize c.date=d;generalize c.days=l;generalize c.sub.length=m;rcases hr with rfl | rfl | rfl | rfl | rfl | rfl | rfl | rfl | rfl | rfl
 all_goals
  simp;grind
theorem UJ{c:Con}(h:¬ ((1<=c.kind/\c.kind<=10)/\Nd.words c)):c.xZ=false:=by
 by_cases hk:1<=c.kind/\c.kind<=10
 ·rw [Bool.eq_false_iff];exactλhh=>h ⟨hk,((VP hk).1 hh).1⟩
 ·unfold Con.xZ j7;rw [aO (by omega),aO (by omega),aO (by omega),aO (by omega),aO (by omega),aO (by omega),aO (by omega),aO (by omega),aO (by omega)]
abbrev q30(A:List AV)(x:List Int):Prop:=eqL A [.sl x.length 1 (Con.dayG x)]/\x.length<1099511627776
abbrev q29(A:List AV)(x:Ex):Prop:=eqL A [x.exA]/\Ex.size x<1099511627776/\Ex.zo x<1099511627776
abbrev q28(A:List AV)(H:Heap)(x:Int×Int×L8):Prop:=eqL A [.i x.2.1,.str x.2.2,.ptr 0 0]/\eqH H [.box [.fn 91 [] [.ptr 1 0]],.box [.i x.1]]/\2=2/\(0:Int)<=x.1/\x.1<512/\(0:Int)<=x.2.1/\x.2.1<512/\x.2.2.length<4611686018427387904
theorem zox:zc prog 51 zlp:=by
 refine zf' f51 λc hc O w0 Q hq=> ?_
 replace hq:=hq _ rfl;have hb:=hc;rw [Con.xm] at hb;obtain⟨hp0,hp1⟩:=zfh c.kind;refine zb.spine 12 ?_;refine zb.cutL (ι:={u:Unit // (1<=c.kind/\c.kind<=10)/\Nd.words c}) LN 6 0 (λ_=>SN1) (λ_=>HNd c) (by kernel_rfl) (by kernel_rfl) ?_ ?_
 ·refine zb.n GNd.h [1,5,6] (let v9:=[AV.i 2,AV.str c.dst,AV.ptr 0 0];let v8:=[AV.i 1,AV.str c.src,AV.ptr 0 0];let v7:=[AV.i 4,AV.str c.name,AV.ptr 0 0];let v6:=[AV.i 2,AV.ptr 0 0];let v5:=[AV.fn 91 [] [.ptr 1 0]];let v4:List AV:=[.bool false];let v3:=Con.src c=Con.dst c;let v2:List AV:=[.fn 91 [] [.ptr 1 0]];let v1:List (Nat×AV):=[(1,.ptr 0 0),(5,.ptr 2 0),(6,.fn 92 [] [.ptr 2 0])];.D ((1:Int)<=Con.kind c/\Con.kind c<=10) (.ite false (.R v4 [.box (Con.zd c),.box [.i (kX c.kind)]]) (.ex (q28 v8 [.box v5,.box [.i (kX c.kind)]]) λn=>let v26:=[AV.i n.1];let v17:List Blk:=[.box (Con.zd c),.box [.i n.1],.box v2];.all (λ(r:Bool)=>r=wG (bitB n.1 n.2.1) n.2.2) λn_1=>.ite ((!n_1) == false) (.ex (q28 v9 [.box v5,.box v26]) λn=>let v13:List Blk:=[.box (Con.zd c),.box [.i n.1],.box v2];.all (λ(r:Bool)=>r=wG (bitB n.1 n.2.1) n.2.2) λn_2=>.ite ((bif !n_1 then true else !n_2) == false) (.ex (q28 v7 [.box v5,.box [.i n.1]]) λn=>let v11:List Blk:=[.box (Con.zd c),.box [.i n.1],.box v2];.all (λ(r:Bool)=>r=wG (bitB n.1 n.2.1) n.2.2) λn_3=>.ite ((bif bif !n_1 then true else !n_2 then true else !n_3) == false) (.ex (q27 v6 [.box [.i n.1]]) λn=>let v10:List Blk:=[.box (Con.zd c),.box [.i n.1],.box v2];.all (λ(r:Bool)=>r=bitB n.1 n.2) λn_4=>.ite (bif bif bif !n_1 then true else !n_2 then true else !n_3 then true else bif n_4 then decide v3 else false) (.R v4 v10) (.leaf (.back 0 v1 v10))) (.ite (bif bif bif !n_1 then true else !n_2 then true else !n_3 then true else bif false then decide v3 else false) (.R v4 v11) (.leaf (.back 0 v1 v11)))) (.ite ((bif bif !n_1 then true else !n_2 then true else !false) == false) (.ex (q27 v6 [.box [.i n.1]]) λn=>let v12:List Blk:=[.box (Con.zd c),.box [.i n.1],.box v2];.all (λ(r:Bool)=>r=bitB n.1 n.2) λn_3=>.ite (bif bif bif !n_1 then true else !n_2 then true else !false then true else bif n_3 then decide v3 else false) (.R v4 v12) (.leaf (.back 0 v1 v12))) (.ite (bif bif bif !n_1 then true else !n_2 then true else !false then true else bif false then decide v3 else false) (.R v4 v13) (.leaf (.back 0 v1 v13))))) (.ite ((bif !n_1 then true else !false) == false) (.ex (q28 v7 [.box v5,.box v26]) λn=>let v15:List Blk:=[.box (Con.zd c),.box [.i n.1],.box v2];.all (λ(r:Bool)=>r=wG (bitB n.1 n.2.1) n.2.2) λn_2=>.ite ((bif bif !n_1 then true else !false then true else !n_2) == false) (.ex (q27 v6 [.box [.i n.1]]) λn=>let v14:List Blk:=[.box (Con.zd c),.box [.i n.1],.box v2];.all (λ(r:Bool)=>r=bitB n.1 n.2) λn_3=>.ite (bif bif bif !n_1 then true else !false then true else !n_2 then true else bif n_3 then decide v3 else false) (.R v4 v14) (.leaf (.back 0 v1 v14))) (.ite (bif bif bif !n_1 then true else !false then true else !n_2 then true else bif false then decide v3 else false) (.R v4 v15) (.leaf (.back 0 v1 v15)))) (.ite ((bif bif !n_1 then true else !false then true else !false) == false) (.ex (q27 v6 [.box v26]) λn=>let v16:List Blk:=[.box (Con.zd c),.box [.i n.1],.box v2];.all (λ(r:Bool)=>r=bitB n.1 n.2) λn_2=>.ite (bif bif bif !n_1 then true else !false then true else !false then true else bif n_2 then decide v3 else false) (.R v4 v16) (.leaf (.back 0 v1 v16))) (.ite (bif bif bif !n_1 then true else !false then true else !false then true else bif false then decide v3 else false) (.R v4 v17) (.leaf (.back 0 v1 v17))))))) (.ite true (.R v4 [.box (Con.zd c),.box [.i 0]]) (.ex (q28 v8 [.box v5,.box [.i 0]]) λn=>let v27:=[AV.i n.1];let v25:List Blk:=[.box (Con.zd c),.box [.i n.1],.box v2];.all (λ(r:Bool)=>r=wG (bitB n.1 n.2.1) n.2.2) λn_1=>.ite ((!n_1) == false) (.ex (q28 v9 [.box v5,.box v27]) λn=>let v21:List Blk:=[.box (Con.zd c),.box [.i n.1],.box v2];.all (λ(r:Bool)=>r=wG (bitB n.1 n.2.1) n.2.2) λn_2=>.ite ((bif !n_1 then true else !n_2) == false) (.ex (q28 v7 [.box v5,.box [.i n.1]]) λn=>let v19:List Blk:=[.box (Con.zd c),.box [.i n.1],.box v2];.all (λ(r:Bool)=>r=wG (bitB n.1 n.2.1) n.2.2) λn_3=>.ite ((bif bif !n_1 then true else !n_2 then true else !n_3) == false) (.ex (q27 v6 [.box [.i n.1]]) λn=>let v18:List Blk:=[.box (Con.zd c),.box [.i n.1],.box v2];.all (λ(r:Bool)=>r=bitB n.1 n.2) λn_4=>.ite (bif bif bif !n_1 then true else !n_2 then true else !n_3 then true else bif n_4 then decide v3 else false) (.R v4 v18) (.leaf (.back 0 v1 v18))) (.ite (bif bif bif !n_1 then true else !n_2 then true else !n_3 then true else bif false then decide v3 else false) (.R v4 v19) (.leaf (.back 0 v1 v19)))) (.ite ((bif bif !n_1 then true else !n_2 then true else !false) == false) (.ex (q27 v6 [.box [.i n.1]]) λn=>let v20:List Blk:=[.box (Con.zd c),.box [.i n.1],.box v2];.all (λ(r:Bool)=>r=bitB n.1 n.2) λn_3=>.ite (bif bif bif !n_1 then true else !n_2 then true else !false then true else bif n_3 then decide v3 else false) (.R v4 v20) (.leaf (.back 0 v1 v20))) (.ite (bif bif bif !n_1 then true else !n_2 then true else !false then true else bif false then decide v3 else false) (.R v4 v21) (.leaf (.back 0 v1 v21))))) (.ite ((bif !n_1 then true else !false) == false) (.ex (q28 v7 [.box v5,.box v27]) λn=>let v23:List Blk:=[.box (Con.zd c),.box [.i n.1],.box v2];.all (λ(r:Bool)=>r=wG (bitB n.1 n.2.1) n.2.2) λn_2=>.ite ((bif bif !n_1 then true else !false then true else !n_2) == false) (.ex (q27 v6 [.box [.i n.1]]) λn=>let v22:List Blk:=[.box (Con.zd c),.box [.i n.1],.box v2];.all (λ(r:Bool)=>r=bitB n.1 n.2) λn_3=>.ite (bif bif bif !n_1 then true else !false then true else !n_2 then true else bif n_3 then decide v3 else false) (.R v4 v22) (.leaf (.back 0 v1 v22))) (.ite (bif bif bif !n_1 then true else !false then true else !n_2 then true else bif false then decide v3 else false) (.R v4 v23) (.leaf (.back 0 v1 v23)))) (.ite ((bif bif !n_1 then true else !false then true else !false) == false) (.ex (q27 v6 [.box v27]) λn=>let v24:List Blk:=[.box (Con.zd c),.box [.i n.1],.box v2];.all (λ(r:Bool)=>r=bitB n.1 n.2) λn_2=>.ite (bif bif bif !n_1 then true else !false then true else !false then true else bif n_2 then decide v3 else false) (.R v4 v24) (.leaf (.back 0 v1 v24))) (.ite (bif bif bif !n_1 then true else !false then true else !false then true else bif false then decide v3 else false) (.R v4 v25) (.leaf (.back 0 v1 v25)))))))) ?_;simp only [q27,q28,Tree.holds,ze,inR,lo,hi,aD];obtain⟨b1,e1⟩:∃ b,wG (bitB c.p 1) c.src=b:=⟨_,rfl⟩;obtain⟨b2,e2⟩:∃ b,wG (bitB c.p 2) c.dst=b:=⟨_,rfl⟩;obtain⟨b3,e3⟩:∃ b,wG (bitB c.p 4) c.name=b:=⟨_,rfl⟩;obtain⟨b4,e4⟩:∃ b,bitB c.p 2=b:=⟨_,rfl⟩;obtain⟨b5,e5⟩:∃ b,decide (c.src=c.dst)=b:=⟨_,rfl⟩
  have hbad:¬ ((1<=c.kind/\c.kind<=10)/\Nd.words c)->∀ h,RetR zlp 0 Q [.bool false] h:=λhn h=>by
   have:c.xZ=false:=UJ hn;rw [this] at hq;exact RetR.scal hq rfl (by simp [resV])
  refine⟨λhk=>⟨λh=>(by cases h),λ_=> ?_⟩,λhk=> ?_⟩
  ·have hk:=aB hk;refine⟨(c.p,1,c.src),⟨by simp,by simp [Con.p],trivial,hp0,hp1,(by simp only; omega),(by simp only; omega),by simp only; omega⟩,⟨_,rfl⟩,?_⟩;rintro _ rfl;simp only [e1];cases b1 with
   | false=>exact⟨λh=>by simp at h,λ_=>⟨λh=>by simp at h,λ_=>⟨λh=>by simp at h,λ_=>⟨λ_=>hbad (λh=>by have:=h.2.1; rw [e1] at this; cases this) _,λh=>by simp at h⟩⟩⟩⟩
   | true=>
   refine⟨λ_=> ?_,λh=>by simp at h⟩;refine⟨(c.p,2,c.dst),⟨by simp,by simp [Con.p],trivial,hp0,hp1,(by simp only; omega),(by simp only; omega),by simp only; omega⟩,⟨_,rfl⟩,?_⟩;rintro _ rfl;simp only [e2];cases b2 with
   | false=>exact⟨λh=>by simp at h,λ_=>⟨λh=>by simp at h,λ_=>⟨λ_=>hbad (λh=>by have:=h.2.2.1; rw [e2] at this; cases this) _,λh=>by simp at h⟩⟩⟩
   | true=>
   refine⟨λ_=> ?_,λh=>by simp at h⟩;refine⟨(c.p,4,c.name),⟨by simp,by simp [Con.p],trivial,hp0,hp1,(by simp only; omega),(by simp only; omega),by simp only; omega⟩,⟨_,rfl⟩,?_⟩;rintro _ rfl;simp only [e3];cases b3 with
   | false=>exact⟨λh=>by simp at h,λ_=>⟨λ_=>hbad (λh=>by have:=h.2.2.2.1; rw [e3] at this; cases this) _,λh=>by simp at h⟩⟩
   | true=>
   refine⟨λ_=> ?_,λh=>by simp at h⟩;refine⟨(c.p,2),⟨by simp,by simp [Con.p],trivial,hp0,hp1,(by simp only; omega),(by simp only; omega)⟩,⟨_,rfl⟩,?_⟩;rintro _ rfl;simp only [e4];refine⟨λh=> ?_,λh=> ?_⟩
   ·refine hbad (λhn=>hn.2.2.2.2 ?_) _;cases b4 with
    | false=>simp at h
    | true=>exact⟨e4,by simpa using h⟩
   ·rw [aP trivial];refine⟨⟨(),hk,e1,e2,e3,λhh=> ?_⟩,by simp [SN1],⟨zB c,⟨⟨rfl,rfl⟩,trivial⟩,⟨rfl,trivial⟩,trivial⟩,by kernel_rfl,aI _⟩;rw [e4] at hh;rw [hh.1] at h;simp [hh.2] at h
  ·have hk:=aC hk;refine⟨λ_=>hbad (λh=>hk h.1) _,λh=>by cases h⟩
 ·rintro⟨_,hk,hw⟩;show qS none prog f51 O 0 w0 [] _ _ LN1 _;refine zb.cutL (ι:=Unit) LN1 1 0 (λ_=>SN2 (Nd.okX c)) (λ_=>HNd c) (by kernel_rfl) (by kernel_rfl) ?_ ?_
  ·refine zb.n GNd.h [1,4,5] (.ex (q27 [.i 8,.ptr 0 0] [.box [.i (Con.p c)]]) λn=>.all (λ(r:Bool)=>r=bitB n.1 n.2) λn_1=>.ite n_1 (.ex (q29 [(Ex.exA c.x)]) λn_2=>.all (λ(r:Bool)=>r=(decide (Ex.errX n_2=0)&&decide (Ex.zu n_2=1))) λn_3=>.leaf (.back 0 [(1,.ptr 0 0),(4,.bool n_3),(5,.ptr 2 0)] [.box (Con.zd c),.box [.i n.1],.box [.fn 91 [] [.ptr 1 0]]])) (.ex (q27 [.i 16,.ptr 0 0] [.box [.i n.1]]) λn=>let v1:List Blk:=[.box (Con.zd c),.box [.i n.1],.box [.fn 91 [] [.ptr 1 0]]];.all (λ(r:Bool)=>r=bitB n.1 n.2) λn_2=>.ite n_2 (.ex (q29 [(Ex.exA c.x)]) λn_3=>.all (λ(r:Bool)=>r=(decide (Ex.errX n_3=0)&&decide (Ex.zu n_3=2))) λn_4=>.leaf (.back 0 [(1,.ptr 0 0),(4,.bool n_4),(5,.ptr 2 0)] v1)) (.ex (q25 [(Ex.exA c.x)]) λn_3=>.all (λ(r:Bool)=>r=qR n_3) λn_4=>.leaf (.back 0 [(1,.ptr 0 0),(4,.bool n_4),(5,.ptr 2 0)] v1)))) ?_;simp only [q25,q27,q29,Tree.holds,ze,inR,lo,hi,aD];have hx1:c.x.size<2^40:=by omega
   have hx2:c.x.zo<2^40:=by omega
   have leaf:∀ b,b=Nd.okX c->LeK 0 f51.ntmps [(1,.ptr 0 0),(4,.bool b),(5,.ptr 2 0)] (HNd c) (SN2 (Nd.okX c)) (HNd c):=λb hb=>by
    subst hb;exact⟨by simp [SN2],⟨zB c,⟨⟨rfl,rfl⟩,trivial⟩,⟨rfl,trivial⟩,trivial⟩,by kernel_rfl,aI _⟩
   refine⟨(c.p,8),⟨by simp,by simp,trivial,hp0,hp1,(by simp only; omega),(by simp only; omega)⟩,⟨_,rfl⟩,?_⟩;rintro _ rfl;refine⟨λh=> ?_,λh=> ?_⟩
   ·refine⟨c.x,⟨(by first | exact⟨qF _,trivial⟩ | simp [za]),hx1,hx2⟩,⟨_,rfl⟩,?_⟩;rintro _ rfl;rw [aP trivial];exact⟨(),leaf _ (by unfold Nd.okX; rw [aP h]; rfl)⟩
   ·have h8:¬ bitB c.p 8=true:=by simpa using h
    refine⟨(c.p,16),⟨by simp,by simp,trivial,hp0,hp1,(by simp only; omega),(by simp only; omega)⟩,⟨_,rfl⟩,?_⟩;rintro _ rfl;refine⟨λh=> ?_,λh=> ?_⟩
    ·refine⟨c.x,⟨(by first | exact⟨qF _,trivial⟩ | simp [za]),hx1,hx2⟩,⟨_,rfl⟩,?_⟩;rintro _ rfl;rw [aP trivial];exact⟨(),leaf _ (by unfold Nd.okX; rw [aO h8,aP h]; rfl)⟩
    ·refine⟨c.x,⟨(by first | exact⟨qF _,trivial⟩ | simp [za]),trivial⟩,⟨_,rfl⟩,?_⟩;rintro _ rfl;rw [aP trivial];exact⟨(),leaf _ (by unfold Nd.okX; rw [aO h8,aO (by simpa using h)])⟩
  ·rintro⟨⟩;obtain⟨a,ea⟩:∃ a,Nd.okX c=a:=⟨_,rfl⟩;rw [ea];show qS none prog f51 O 0 w0 [] _ _ LN2 _;refine zb.cutL (ι:=Unit) LN2 3 0 (λ_=>SN3 a (Nd.subs c)) (λ_=>HNd c) (by kernel_rfl) (by kernel_rfl) ?_ ?_
   ·refine zb.n GNd.h [1,4,5,7] (let v4:List (Nat×AV):=[(1,.ptr 0 0),(4,.bool a),(5,.ptr 2 0),(7,.i 2)];.ex (q27 [.i 128,.ptr 0 0] [.box [.i (Con.p c)]]) λn=>let v1:=q27 [.i 256,.ptr 0 0] [.box [.i n.1]];.all (λ(r:Bool)=>r=bitB n.1 n.2) λn_1=>.ite n_1 (.ex v1 λn=>let v2:List Blk:=[.box (Con.zd c),.box [.i n.1],.box [.fn 91 [] [.ptr 1 0]]];.all (λ(r:Bool)=>r=bitB n.1 n.2) λn_2=>.ite n_2 (.leaf (.back 0 v4 v2)) (.leaf (.back 0 [(1,.ptr 0 0),(4,.bool a),(5,.ptr 2 0),(7,.i 1)] v2))) (.ex v1 λn=>let v3:List Blk:=[.box (Con.zd c),.box [.i n.1],.box [.fn 91 [] [.ptr 1 0]]];.all (λ(r:Bool)=>r=bitB n.1 n.2) λn_2=>.ite n_2 (.leaf (.back 0 v4 v3)) (.leaf (.back 0 [(1,.ptr 0 0),(4,.bool a),(5,.ptr 2 0),(7,.i 0)] v3)))) ?_;simp only [q27,Tree.holds,ze,inR,lo,hi,aD]
    have leaf:∀ m:Int,m=Nd.subs c->LeK 0 f51.ntmps [(1,.ptr 0 0),(4,.bool a),(5,.ptr 2 0),(7,.i m)] (HNd c) (SN3 a (Nd.subs c)) (HNd c):=λm hm=>by
     subst hm;exact⟨by simp [SN3],⟨zB c,⟨⟨rfl,rfl⟩,trivial⟩,⟨rfl,trivial⟩,trivial⟩,by kernel_rfl,aI _⟩
    refine⟨(c.p,128),⟨by simp,by simp,trivial,hp0,hp1,(by simp only; omega),(by simp only; omega)⟩,⟨_,rfl⟩,?_⟩;rintro _ rfl;refine⟨λh1=> ?_,λh1=> ?_⟩
    all_goals
     refine⟨(c.p,256),⟨by simp,by simp,trivial,hp0,hp1,(by simp only; omega),(by simp only; omega)⟩,⟨_,rfl⟩,?_⟩;rintro _ rfl;refine⟨λh2=> ?_,λh2=> ?_⟩
     all_goals
      rw [aP trivial];simp only at h1 h2;exact⟨(),leaf _ (by unfold Nd.subs; simp [h1,h2])⟩
   ·rintro⟨⟩;show qS none prog f51 O 0 w0 [] _ _ LN3 _;obtain⟨m,em⟩:∃ m,Nd.subs c=m:=⟨_,rfl⟩;rw [em];refine zb.cutL (ι:=Unit) LN3 1 0 (λ_=>SN4 a m (Nd.right c)) (λ_=>HNd c) (by kernel_rfl) (by kernel_rfl) ?_ ?_
    ·refine zb.n GNd.h [1,4,5,7,8] (let v1:=Con.date c<=99999;.ex (q27 [.i 32,.ptr 0 0] [.box [.i (Con.p c)]]) λn=>.all (λ(r:Bool)=>r=bitB n.1 n.2) λn_1=>.ite ((bif n_1 then bif decide ((0:Int)<=Con.date c) then decide v1 else false else false) == false) (.ex (q27 [.i 32,.ptr 0 0] [.box [.i n.1]]) λn=>.all (λ(r:Bool)=>r=bitB n.1 n.2) λn_2=>.leaf (.back 0 [(1,.ptr 0 0),(4,.bool a),(5,.ptr 2 0),(7,.i m),(8,.bool (bif bif n_1 then bif decide ((0:Int)<=Con.date c) then decide v1 else false else false then true else bif !n_2 then decide (Con.date c=0) else false))] [.box (Con.zd c),.box [.i n.1],.box [.fn 91 [] [.ptr 1 0]]])) (.leaf (.back 0 [(1,.ptr 0 0),(4,.bool a),(5,.ptr 2 0),(7,.i m),(8,.bool (bif bif n_1 then bif decide ((0:Int)<=Con.date c) then decide v1 else false else false then true else bif !false then decide (Con.date c=0) else false))] [.box (Con.zd c),.box [.i n.1],.box [.fn 91 [] [.ptr 1 0]]]))) ?_;simp only [q27,Tree.holds,ze,inR,lo,hi,aD]
     have leaf:∀ b,b=Nd.right c->LeK 0 f51.ntmps [(1,.ptr 0 0),(4,.bool a),(5,.ptr 2 0),(7,.i m),(8,.bool b)] (HNd c) (SN4 a m (Nd.right c)) (HNd c):=λb hb=>by
      subst hb;exact⟨by simp [SN4],⟨zB c,⟨⟨rfl,rfl⟩,trivial⟩,⟨rfl,trivial⟩,trivial⟩,by kernel_rfl,aI _⟩
     refine⟨(c.p,32),⟨by simp,by simp,trivial,hp0,hp1,(by simp only; omega),(by simp only; omega)⟩,⟨_,rfl⟩,?_⟩;rintro _ rfl;refine⟨λh1=> ?_,λh1=> ?_⟩
     ·refine⟨(c.p,32),⟨by simp,by simp,trivial,hp0,hp1,(by simp only; omega),(by simp only; omega)⟩,⟨_,rfl⟩,?_⟩;rintro _ rfl;rw [aP trivial];refine⟨(),leaf _ ?_⟩;unfold Nd.right dayB;simp only;cases bitB c.p 32<;>simp [Bool.cond_eq_ite]
     ·rw [aP trivial];refine⟨(),leaf _ ?_⟩;unfold Nd.right dayB;simp only at h1 ⊢
      revert h1
      cases bitB c.p 32<;>simp [Bool.cond_eq_ite]
      exactλh1 h2 _=>⟨h1,h2⟩
    ·rintro⟨⟩;show qS none prog f51 O 0 w0 [] _ _ LN4 _;obtain⟨b,eb⟩:∃ b,Nd.right c=b:=⟨_,rfl⟩;rw [eb];refine zb.cutL (ι:=Unit) LN4 1 0 (λ_=>SN5 a m b (Nd.list c)) (λ_=>HNd c) (by kernel_rfl) (by kernel_rfl) ?_ ?_
     ·refine zb.n GNd.h [1,4,7,8,9] (.ex (q27 [.i 64,.ptr 0 0] [.box [.i (Con.p c)]]) λn=>.all (λ(r:Bool)=>r=bitB n.1 n.2) λn_1=>.ex (λ(x:List Int)=>n_1=true->q30 [.sl c.days.length 1 (Con.dayG c.days)] x) λn_2=>.all (λ(x:Bool)=>n_1=true->x=xV n_2) λn_3=>.ite ((bif n_1 then n_3 else false) == false) (.ex (q27 [.i 64,.ptr 0 0] [.box [.i n.1]]) λn=>.all (λ(r:Bool)=>r=bitB n.1 n.2) λn_4=>.leaf (.back 0 [(1,.ptr 0 0),(4,.bool a),(7,.i m),(8,.bool b),(9,.bool (bif bif n_1 then n_3 else false then true else bif !n_4 then decide ((c.days.length:Int)=0) else false))] [.box (Con.zd c),.box [.i n.1],.box [.fn 91 [] [.ptr 1 0]]])) (.leaf (.back 0 [(1,.ptr 0 0),(4,.bool a),(7,.i m),(8,.bool b),(9,.bool (bif bif n_1 then n_3 else false then true else bif !false then decide ((c.days.length:Int)=0) else false))] [.box (Con.zd c),.box [.i n.1],.box [.fn 91 [] [.ptr 1 0]]]))) ?_;simp only [q27,q30,Tree.holds,ze,inR,lo,hi,aD]
      have leaf:∀ d,d=Nd.list c->LeK 0 f51.ntmps [(1,.ptr 0 0),(4,.bool a),(7,.i m),(8,.bool b),(9,.bool d)] (HNd c) (SN5 a m b (Nd.list c)) (HNd c):=λd hd=>by
       subst hd;exact⟨by simp [SN5],⟨zB c,⟨⟨rfl,rfl⟩,trivial⟩,⟨rfl,trivial⟩,trivial⟩,by kernel_rfl,aI _⟩
      refine⟨(c.p,64),⟨by simp,by simp,trivial,hp0,hp1,(by simp only; omega),(by simp only; omega)⟩,⟨_,rfl⟩,?_⟩;rintro _ rfl;refine⟨c.days,λ_=>⟨by simp [za],by omega⟩,⟨_,λ_=>rfl⟩,λn hn=> ?_⟩;refine⟨λh1=> ?_,λh1=> ?_⟩
      ·refine⟨(c.p,64),⟨by simp,by simp,trivial,hp0,hp1,(by simp only; omega),(by simp only; omega)⟩,⟨_,rfl⟩,?_⟩;rintro _ rfl;rw [aP trivial];refine⟨(),leaf _ ?_⟩;unfold Nd.list;simp only at hn ⊢
       revert hn
       cases bitB c.p 64<;>simp [Bool.cond_eq_ite]
      ·rw [aP trivial];refine⟨(),leaf _ ?_⟩;unfold Nd.list;simp only at hn h1 ⊢
       revert hn h1
       cases bitB c.p 64<;>simp [Bool.cond_eq_ite]
       intro h2 h3;rw [<- h2,h3];rfl
     ·rintro⟨⟩;show qS none prog f51 O 0 w0 [] _ _ LN5 _;obtain⟨d,ed⟩:∃ d,Nd.list c=d:=⟨_,rfl⟩;rw [ed];refine zb.n GNd.h [1,4,7,8,9] (.R [.bool (bif bif bif a then b else false then d else false then decide ((c.sub.length:Int)=m) else false)] [.box (Con.zd c),.box [.i (Con.p c)],.box [.fn 91 [] [.ptr 1 0]]]) ?_;simp only [Tree.holds,ze,inR,lo,hi,aD]
      have hr:c.xZ=(bif bif bif a then b else false then d else false then decide ((c.sub.length:Int)=m) else false):=by
       rw [Bool.eq_iff_iff,VP hk,ea,em,eb,ed];cases a<;>cases b<;>cases d<;>simp [hw]
      rw [hr] at hq;exact RetR.scal hq rfl (by simp [resV])
end Go.Proofs.Tryz
end
section
set_option maxRecDepth 100000
open Go Go.Sx Go.Proofs Go.Nov
namespace Go.Proofs.Tryz
attribute [local simp] eqKV eqA eqA0 eqH eqB eqL eqL0
end Go.Proofs.Tryz
end
section
namespace Go.Sx
variable [Stat]
section
variable {O:Nat->Prop} {pin:Nat} {w0:World} {I0:List SE} {P:Program} {fn:Func}
def noH(n:Nat):Heap:=.box [.ptr n 0]::List.replicate (n - 1) (.box [])
theorem zdk{n:Nat}(h:1<=n):(noH n).length=n:=by simp [noH]; omega
theorem zgz(n:Nat):∀ b∈noH n,alive b:=by
 intro b hb;unfold noH at hb;rcases aM.1 hb with rfl | hb
 ·trivial
 ·rw [List.eq_of_mem_replicate hb]; trivial
theorem zb.never{M:Option Nat}{Hs:Nat->KV->Heap->Prop}{R:List AV->Heap->Prop}{k:List Item}{kv:KV}{n:Nat}(hn:1<=n):qS M P fn O pin w0 I0 Hs R k (mk fn.ntmps kv (noH n)):=by
 intro w σ a hm;have hl:σ.length=n:=by rw [hm.hp.len]; exact zdk hn
 have h0:σ[0]?=some (σ[0]'(by omega)):=aF _;have hb:=hm.hp.blk 0 _ (.box [.ptr n 0]) h0 rfl;simp only [BRep] at hb;obtain⟨ad,vs,el,_,_,_,q⟩:=hb;simp only [RepL,Rep] at q;obtain⟨v,r,_,⟨e,ad',he,_⟩,_⟩:=q;have:=(aG.1 he).1;omega
open Classical in
theorem zb.zsy{α:Type}{Hs:Nat->KV->Heap->Prop}{R:List AV->Heap->Prop}{k:List Item}{c:Code}{kv:KV}{h:Heap}{tg tp td t n gf:Nat}{cap:List AV}{zs:List AV}(I:List α->Prop)(hc:KW c tg tp td t=true)(hz:zeroCells P t=some zs)(hn:qg P t=some n)(hzl:zs.length=n)
  (he:∀ args w,(callFunc gf args).run P w = .ok (.enter gf args) w) (av:α->AV) (cs:α->List AV) (hcs:∀ x,cellsOf (av x)=some (cs x)/\(cs x).length=n/\(cs x).all oneA=true/\(cs x).all Yu=true) (H Hx:List α->Heap) (X S Sp:List α->Prop) (N pinR:Nat)
  (hg:look kv tg = .fn gf [] cap) (htg:tg<fn.ntmps) (htp:tp<fn.ntmps) (htd:td<fn.ntmps) (hne:td≠tp) (hle:LeK pin fn.ntmps kv h kv (H [])) (hlow:(pk fn.ntmps kv).all (lowB pinR)=true) (hpin:pin<=pinR) (hpos:1<=pinR) (hI:I []) (hlen:∀ pre,(H pre).length=pinR)
  (halive:∀ pre,∀ b∈H pre,alive b) (halivex:∀ pre,∀ b∈Hx pre,alive b)
  (iter:∀ w σ a,Mod O pin w0 I0 w σ (mk fn.ntmps kv (H [])) a->∀ vb,RepL (Own O σ) w cap σ vb->∃ ev:α->Value,SeqStopsK Fence.wide 0 P gf vb.toArray (λx=> #[ev x]) (jo (Own O σ)) S Sp N w/\∀ x,Rep (Own O σ) w (av x) [] (ev x))
  (round:∀ l pre x,I pre->pre.length<N->∀ (W:World) (E1:List SE),qS (some l) P (bare fn) O pinR W E1 (λd kv' h'=>I (pre++[x])/\LeK pinR fn.ntmps [] h' [] (H (pre++[x]))) (λ_ h'=>X (pre++[x])/\LeK pinR fn.ntmps [] h' [] (Hx (pre++[x]))) [.code (xX c),.inLoop] (mk fn.ntmps ((td,.iptr n λo=>(cs x).getD o .undef)::(tp,av x)::kv) (H pre)))
  (done:∀ xs,S xs->I xs->zb P fn O pin w0 I0 Hs R k (mk fn.ntmps kv (H xs)))
  (stop:∀ pre,Sp pre->X pre->(resX P (mk fn.ntmps kv (Hx pre)) fn.results.toList).holds λrs=>R rs (Hx pre)) :
  zb P fn O pin w0 I0 Hs R (.code c::k) (mk fn.ntmps kv h):=by
 refine zb.zl9 hc hz hn hzl he av cs hcs (λpre=>if I pre then H pre else noH pinR) Hx X S Sp N pinR hg htg htp htd hne (by rw [aP hI]; exact hle) hlow hpin (λpre=> ?_) (λpre=> ?_) halivex ?_ ?_ ?_ stop
 ·split
  ·exact hlen pre
  ·exact zdk hpos
 ·split
  ·exact halive pre
  ·exact zgz _
 ·rw [aP hI]; exact iter
 ·intro l pre x hl W E1;by_cases h1:I pre
  ·simp only [aP h1];intro w σ a hm;refine WG ?_ (round l pre x h1 hl W E1 w σ a hm);rintro d a' w' ⟨st,Z',⟨kv',h',⟨h2,h3⟩,rfl⟩,hm'⟩;exact⟨_,Z',⟨kv',h',by rw [aP h2]; exact h3,rfl⟩,hm'⟩
  ·simp only [aO h1];exact zb.never (fn:=bare fn) hpos
 ·intro xs hs;by_cases h1:I xs
  ·simp only [aP h1]; exact done xs hs h1
  ·simp only [aO h1]; exact zb.never hpos
end
end Go.Sx
end
section
set_option maxRecDepth 100000
open Go Go.Sx Go.Proofs Go.Nov
namespace Go.Proofs.Tryz
attribute [local simp] eqKV eqA eqA0 eqH eqB eqL eqL0
noncomputable def K26:=Go.Sx.aA f26
def Jg:Ctr:=ctrP true (λc:Con=>[c.conA]) (λc=>c.big<2^40/\c.nodes<=1000000) (λc r=>r=c.errC) (λ_ (r:Int)=>(.i r,[]))
noncomputable def GCkk:=tb znv (tb zh0 (tb Yi (tb zox tz)))
def HCk(c:Con)(m:Int):Heap:=[.box c.zd,.box [.i m],.box c.zd]
abbrev q31(A:List AV)(x:Con):Prop:=eqL A [(Con.conA x)]/\Con.big x<1099511627776/\Con.nodes x<=1000000
theorem VD:zc prog 26 Jg:=by
 refine zf' f26 λc hc O w0 Q hq=> ?_
 obtain⟨h1,h2⟩:=hc;replace hq:=hq _ rfl;refine zb.n GCkk.h [2,13,14] (.ex (q31 [(Con.conA c)]) λn=>.all (λ(r:Nat)=>r=Con.size n) λn=>.ex (λ(x:Con)=>decide ((500:Int)<n)=false->eqL [(Con.conA c)] [(Con.conA x)]/\Con.big x<1099511627776) λn_1=>.all (λ(x:Nat)=>decide ((500:Int)<n)=false->x=Con.depth n_1) λn_2=>.ite (bif decide ((500:Int)<n) then true else decide ((60:Int)<n_2)) (.R [.i 4] [.box (Con.zd c),.box [.i 4]]) (.ex (λ(x:Con)=>eqL [(Con.conA c)] [(Con.conA x)]/\eqH [] []/\0=0/\True) λn=>.A λn_3=>.leaf (.range (Prod.fst (rfs K26 0)) (Prod.snd (rfs K26 0)) [(2,.ptr 1 0),(13,.fn 89 [] [.ptr 2 0]),Z 14] [.box (Con.zd c),.box [.i 0],.box (Con.zd n)]))) ?_;simp only [q31,Tree.holds,ze];have hq1:(500<c.size\/60<c.depth)->Q (.i 4,[]):=λh=>by unfold Con.errC at hq; rw [aP h] at hq; exact hq
 have hq2:¬ (500<c.size\/60<c.depth)->Q (.i (if c.form=true then 0 else 8),[]):=λh=>by unfold Con.errC at hq; rw [aO h] at hq; exact hq
 refine⟨c,⟨⟨zQ c,trivial⟩,h1,h2⟩,⟨_,rfl⟩,?_⟩;rintro _ rfl;refine⟨c,λ_=>⟨⟨zQ c,trivial⟩,h1⟩,⟨_,λ_=>rfl⟩,λn hn=> ?_⟩
 have key:(bif decide (500<(c.size:Int)) then true else decide (60<(n:Int)))=decide (500<c.size\/60<c.depth):=by
  by_cases g:500<c.size
  ·simp [g]; omega
  ·rw [hn (aW (by omega)),Bool.eq_iff_iff]; simp [g]; omega
 rw [key];refine⟨λh=>RetR.scal (hq1 (aB h)) rfl (by simp [resV]),λh=>⟨c,⟨⟨zQ c,trivial⟩,trivial,trivial,trivial⟩,⟨(),trivial⟩,λ_ _=> ?_⟩⟩;have hq2:=hq2 (aC h);clear hq hq1
 refine zb.zsy (λpre:List Nat=>∀ i∈pre,(c.all.getD i c).xZ=true) (tg:=13) (tp:=14) (td:=3) (t:=31) (n:=12) (zs:=[.int .u8 0,.str [],.str [],.str [],.int .u8 0,.str [],.str [],.i 0,.nils,.i 0,.nils,.nils]) (cap:=[.ptr 2 0]) (gf:=89) (by kernel_rfl) (by kernel_rfl) (by kernel_rfl) rfl (enters_of Tryz.func89 (by kernel_rfl) rfl) (λi:Nat=>(c.all.getD i c).conA) (λi=>(c.all.getD i c).zd) (λi=>⟨rfl,rfl,rfl,rfl⟩) (λ_=>HCk c 0) (λ_=>HCk c 8) (λpre=>¬ c.form=true) (λxs=>xs=List.range c.all.length) (λpre=>pre <+: List.range c.all.length) c.all.length 3
  (by kernel_rfl) (by decide +kernel) (by decide +kernel) (by decide +kernel) (by decide) ⟨by simp,⟨zB c,⟨⟨rfl,rfl⟩,trivial⟩,zB c,trivial⟩,by kernel_rfl,aI _⟩ (by kernel_rfl) (aI _) (by decide) (λi hi=>by cases hi) (λpre=>rfl) (λpre=>by simp [HCk,alive]) (λpre b hb=>by simp [HCk] at hb; rcases hb with rfl | rfl | rfl<;>trivial) ?_ ?_ ?_ ?_
 ·intro w σ a hm vb hvb;exact JS hm (i:=2) rfl h2 hvb
 ·intro l pre i hI hlen W E1
  have hwt:(c.all.getD i c).big<=c.big/\(c.all.getD i c)∈c.all:=by
   by_cases hi:i<c.all.length
   ·have:(c.all.getD i c)∈c.all:=by simp [List.getD,hi]
    exact⟨Con.Jp c _ this,this⟩
   ·have:c.all.getD i c=c:=by simp [List.getD,hi]
    rw [this];exact⟨aJ _,by rw [Con.all_eq]; simp⟩
  obtain⟨e,he⟩:∃ e,c.all.getD i c=e:=⟨_,rfl⟩;rw [he] at hwt ⊢;refine zb.n GCkk.h [2,13,14] (.ex (λ(x:Con)=>eqL [(Con.conA e)] [(Con.conA x)]/\Con.big x<1099511627776) λn=>.all (λ(r:Bool)=>r=Con.xZ n) λn=>.ite (!n) (.R [] [.box (Con.zd c),.box [.i 8],.box (Con.zd c)]) (.leaf (.back 0 [(2,.ptr 1 0),(13,.fn 89 [] [.ptr 2 0]),(14,(Con.conA e))] [.box (Con.zd c),.box [.i 0],.box (Con.zd c)]))) ?_;simp only [Tree.holds,ze,inR,lo,hi,aD];refine⟨e,⟨⟨zQ e,trivial⟩,by omega⟩,⟨_,rfl⟩,?_⟩;rintro _ rfl;refine⟨λh=>⟨λhf=> ?_,?_⟩,λh=>⟨λj hj=> ?_,?_⟩⟩
  ·rw [Con.Vh,bG] at hf;have:=hf e hwt.2;simp [this] at h
  ·exact⟨trivial,⟨zB c,⟨⟨rfl,rfl⟩,trivial⟩,zB c,trivial⟩,by kernel_rfl,aJ _⟩
  ·rcases bZ.1 hj with hj | hj
   ·exact hI j hj
   ·rw [List.mem_singleton.1 hj,he]; simpa using h
  ·exact⟨trivial,⟨zB c,⟨⟨rfl,rfl⟩,trivial⟩,zB c,trivial⟩,by kernel_rfl,aJ _⟩
 ·intro xs hxs hI
  have hform:c.form=true:=by
   rw [Con.Vh,bG];intro e hem;obtain⟨j,hj,rfl⟩:=List.getElem_of_mem hem;have:=hI j (by rw [hxs]; simpa using hj);simpa [List.getD,hj] using this
  rw [aP hform] at hq2;refine zb.n GCkk.h [2,13,14] (.R [.i 0] [.box (Con.zd c),.box [.i 0],.box (Con.zd c)]) ?_;simp only [Tree.holds,ze];exact RetR.scal hq2 rfl (by simp [resV])
 ·intro pre hpre hX;rw [aO hX] at hq2;exact(RetR.scal hq2 rfl (by simp [resV]):RetR Jg 0 Q [.i 8] (HCk c 8))
end Go.Proofs.Tryz
end
section
namespace Go.Nov
open Go.Sx
theorem Fx.zgv(x:Fx){j o:Nat}(hj:j<1)(ho:o<3):zg (zh 3 [.str x.name,.i x.date,.str x.value]) 0 j o=x.cell o:=by
 have:j=0:=by omega
 subst this;rcases o with _ | _ | _ | o
 ·rfl
 ·rfl
 ·rfl
 ·omega
theorem zfv{α:Type}(l:List α)(x z:α)(j:Nat):(l++[x]).getD j z=if j<l.length then l.getD j z else if j=l.length then x else z:=by
 simp only [List.getD,bT];split
 ·rfl
 ·rename_i h;split
  ·rename_i h2; subst h2; simp
  ·rename_i h2;have:j - l.length≠0:=by omega
   obtain⟨k,hk⟩:=Nat.exists_eq_succ_of_ne_zero this;rw [hk]; simp
theorem Jf{l:List Fx}{x:Fx}{g:Nat->Nat->AV}(hg:eqG l.length 3 g (fxG l)):eqG (l.length+1) 3 (appG l.length g (zg (zh 3 [.str x.name,.i x.date,.str x.value]) 0)) (fxG (l++[x])):=by
 intro j o hj ho;simp only [appG,fxG,zfv];split
 ·rename_i h; exact hg j o h ho
 ·rename_i h;have:j=l.length:=by omega
  subst this;rw [aP rfl,Fx.zgv x (by omega) ho]
theorem Ww(n sz:Nat)(g g':Nat->Nat->AV):eqG (0+n) sz (appG 0 g g') g':=by
 intro j o _ _;simp [appG]
theorem KH(n sz:Nat)(g:Nat->Nat->AV):eqG n sz (zg g 0) g:=by
 intro j o _ _;simp [zg]
theorem zcz(l:List Fx)(j o:Nat)(ho:o<3):zX (fxG l j o)=true:=by
 simp only [fxG];rcases o with _ | _ | _ | o
 ·rfl
 ·rfl
 ·rfl
 ·omega
theorem ze6(l:List Ch)(j o:Nat)(ho:o<4):zX (chG l j o)=true:=by
 simp only [chG];rcases o with _ | _ | _ | _ | o
 ·rfl
 ·rfl
 ·rfl
 ·rfl
 ·omega
theorem Ko{α:Type}{p:α->Bool}(z:α)(l:List α):idxB p l<l.length/\l.find? p=if 0<=idxB p l then some (l.getD (idxB p l).toNat z) else none:=by
 unfold idxB;by_cases h:l.findIdx p<l.length
 ·rw [aP h];refine⟨by omega,?_⟩;rw [aP (by omega),aD];refine zr9 h ?_ λj hj=> ?_
  ·have:=List.findIdx_getElem (w:=h);simpa [List.getD,h] using this
  ·have:=List.not_of_lt_findIdx hj;have hjl:j<l.length:=by omega
   simpa [List.getD,hjl] using this
 ·rw [aO h];refine⟨by omega,?_⟩;rw [aO (by omega),List.find?_eq_none];intro x hx hpx;exact h (List.findIdx_lt_length_of_exists ⟨x,hx,hpx⟩)
theorem zi7(f:List Fx)(a:L8)(d:Int):idxB (λx=>decide (cmpF x ⟨a,d,[]⟩=0)) f<f.length/\zF f a d=if 0<=idxB (λx=>decide (cmpF x ⟨a,d,[]⟩=0)) f then((f.getD (idxB (λx=>decide (cmpF x ⟨a,d,[]⟩=0)) f).toNat Fx.nil).value,true) else([],false):=by
 obtain⟨h1,h2⟩:=Ko (p:=λx=>decide (cmpF x ⟨a,d,[]⟩=0)) Fx.nil f;refine⟨h1,?_⟩
 have e:(λx:Fx=>decide (x.name=a)&&decide (x.date=d))=λx=>decide (cmpF x ⟨a,d,[]⟩=0):=by
  funext x;rw [<- Bool.decide_and]; exact decide_eq_decide.2 (@vQ x ⟨a,d,[]⟩).symm
 unfold zF;rw [e,h2];by_cases h:0<=idxB (λx=>decide (cmpF x ⟨a,d,[]⟩=0)) f
 ·rw [aP h,aP h]
 ·rw [aO h,aO h]
theorem zap(c:List Ch)(a v:L8)(d:Int):idxB (λx=>decide (cmpC x ⟨a,v,d,false⟩=0)) c<c.length/\qc c a v d=if 0<=idxB (λx=>decide (cmpC x ⟨a,v,d,false⟩=0)) c then(c.getD (idxB (λx=>decide (cmpC x ⟨a,v,d,false⟩=0)) c).toNat Ch.nil).first else false:=by
 obtain⟨h1,h2⟩:=Ko (p:=λx=>decide (cmpC x ⟨a,v,d,false⟩=0)) Ch.nil c;refine⟨h1,?_⟩
 have e:(λx:Ch=>decide (x.zL=a)&&(decide (x.name=v)&&decide (x.date=d)))=λx=>decide (cmpC x ⟨a,v,d,false⟩=0):=by
  funext x;rw [<- Bool.decide_and,<- Bool.decide_and]; exact decide_eq_decide.2 (@zq0 x ⟨a,v,d,false⟩).symm
 unfold qc;rw [e,h2];by_cases h:0<=idxB (λx=>decide (cmpC x ⟨a,v,d,false⟩=0)) c
 ·rw [aP h,aP h]
 ·rw [aO h,aO h]
end Go.Nov
end
section
set_option maxRecDepth 100000
open Go Go.Sx Go.Proofs Go.Nov
namespace Go.Proofs.Tryz
attribute [local simp] eqKV eqA eqA0 eqH eqB eqL eqL0
theorem zgh(n sz:Nat)(g g':Nat->Nat->AV):eqG (0+n) sz (appG 0 g g') g':=Ww n sz g g'
def zdj:Ctr:=ctrP false (λl:List Int=>[Con.dayS l]) (λl=>l.length<2^40) (λ_ (_:Unit)=>True) (λl _=>(.osl 0 1 0 l.length,[.arr l.length 1 (Con.dayG l)]))
theorem zg2:zc prog 29 zdj:=by
 refine uX (fn:=f29) (c:=f29.body.getD .skip) rfl rfl rfl λl hl O w0 Q hq=> ?_
 replace hq:=hq () trivial;refine zb.n zD [] (.all (λ(b:Bool)=>0<l.length->b=false) λn=>.ite n (.R [.nils] []) (.side (0=0/\0<=0/\(0+l.length)*8<=140737488355328) (.R [.osl 0 1 0 (0+l.length)] [.arr (0+l.length) 1 (appG 0 (zh 1 []) (Con.dayG l))]))) ?_;simp only [Tree.holds,ze];refine⟨⟨false,λ_=>rfl⟩,λb hb=>⟨λh=> ?_,λh=>⟨⟨trivial,aJ _,by omega⟩,λ_=> ?_⟩⟩⟩
 ·have h0:l=[]:=by
   rcases bC l.length with h0 | h0
   ·exact aU.1 h0
   ·rw [hb h0] at h; cases h
  subst h0;refine RetR.scal (.inr ⟨.osl 0 1 0 0,[(1,Con.dayG [])],by simp [upA2,upA1,upA0],?_⟩) (r:=.nils) rfl (by simp [resV]);exact hq
 ·refine RetR.outs [0] rfl rfl (.inl hq) (λh=>by cases h) ?_ ?_ rfl
  ·simp [resV,exp2,exp1,exp0,zy,eqA2,eqL1]
  ·exact⟨⟨by omega,rfl,zgh _ _ _ _⟩,trivial⟩
theorem zgk{s:List Con}{i:Nat} : eqG (i+1) 12 (appG i (Con.conG s) (zg (zh 12 [.int .u8 (s.getD i Con.nil).kind,.str (s.getD i Con.nil).src,.str (s.getD i Con.nil).dst,.str (s.getD i Con.nil).name,.int .u8 (s.getD i Con.nil).x.kind,.str (s.getD i Con.nil).x.rat,.str (s.getD i Con.nil).x.name,.i (s.getD i Con.nil).x.date,.sl (s.getD i Con.nil).x.sub.length 5 (Ex.exG (s.getD i Con.nil).x.sub),.i (s.getD i Con.nil).date,.sl (s.getD i Con.nil).days.length 1 (Con.dayG (s.getD i Con.nil).days),.sl (s.getD i Con.nil).sub.length 12 (s.getD i Con.nil).deep]) 0)) (Con.conG s):=by
 intro j o hj ho;simp only [appG,zg,zh];by_cases h:j<i
 ·rw [aP h]
 ·have:j=i:=by omega
  subst this;rw [aO h];have e:j - j=0:=by omega
  match o,ho with
  | 0,_=>simp [e,Con.conG,Con.cell]
  | 1,_=>simp [e,Con.conG,Con.cell]
  | 2,_=>simp [e,Con.conG,Con.cell]
  | 3,_=>simp [e,Con.conG,Con.cell]
  | 4,_=>simp [e,Con.conG,Con.cell]
  | 5,_=>simp [e,Con.conG,Con.cell]
  | 6,_=>simp [e,Con.conG,Con.cell]
  | 7,_=>simp [e,Con.conG,Con.cell]
  | 8,_=>simp [e,Con.conG,Con.cell]
  | 9,_=>simp [e,Con.conG,Con.cell]
  | 10,_=>simp [e,Con.conG,Con.cell]
  | 11,_=>simp [e,Con.conG,Con.cell]
end Go.Proofs.Tryz
end
section
namespace Go.Sx
variable [Stat]
variable {P:Program} {fn:Func} {Xp:List PanicEntry->Prop}
theorem zc.frozen{X R:Type}{inp:X->List AV}{pre:X->Prop}{post:X->R->Prop}{out:X->R->AV×Heap}{out':X->R->AV}{g:Nat}(h:zc P g (ctrP true inp pre post out))
  (hn:∀ x r,pre x->post x r->new2 (out x r).2 [] (out x r).1) (he:∀ x r,pre x->post x r->LeA (exp2 (out x r).2 [] (out x r).1) (out' x r)):zc P g (ctrP true inp pre post λx r=>(out' x r,[])):=by
 intro args hc Q hq hfr;have hc0:=hfr rfl;subst hc0;simp only [ctrP] at hq;obtain⟨x,⟨h1,h2⟩,h3,h4⟩:=hq;have k:=h args [] (λp=>∃ r,post x r/\p=out x r) (by simp only [ctrP]; exact⟨x,⟨h1,h2⟩,h3,λr hr=>⟨r,hr,rfl⟩⟩) (λ_=>rfl);intro O w σ vals hg hh hr;have hZ:σ=[]:=aU.1 (by simpa using hh.len);subst hZ;refine Z8.mono ?_ (k O w [] vals hg hh hr);rintro v w' ⟨a,hs,Z',⟨r,hr,e⟩,g1,g2,g3,g4,g5,g6⟩;have ea:a=(out x r).1:=by rw [<- e]
 have eh:hs=(out x r).2:=by rw [<- e]
 have sub:∀ b,Own O Z' b->(Own O Z' b\/((ctrP true inp pre post out).fresh=true/\b<w.heap.size)):=λb hb=>.inl hb
 have hnew:∀ b,Mine Z' b->w.heap.size<=b:=λb hb=>by
  rcases g6.grow b hb with hx | hx
  ·obtain⟨_,he,_⟩:=hx; simp at he
  ·exact hx
 have XX:Exp O w' Z' hs [] [] (λb=>Own O [] b\/((ctrP true inp pre post λx r=>(out' x r,([]:Heap))).fresh=true/\b<w.heap.size)):=
  ⟨g3,⟨g2.len,g2.inj,g2.lt,λi e b he hb=>ZG sub (g2.blk i e b he hb)⟩,rfl,by simp,λj=>by simp,λb hb=>by
   rcases hb with hb | ⟨_,hb⟩
   ·exact .inl hb
   ·exact .inr λhm=>by have:=hnew b hm; omega⟩
 refine⟨out' x r,[],[],h4 r hr,he x r h2 hr _ _ _ _ ?_,⟨rfl,λi j e f a b he=>by simp at he,λi e a he=>by simp at he,λi e b he=>by simp at he⟩,⟨g3.old,λi e ad he=>by simp at he,g3.stat.own λb hb=>by
  rcases hb with hb | ⟨e,he,_⟩
  ·exact .inl hb
  ·simp at he⟩,aJ _,λi e he=>by simp at he,⟨g6.os,g6.tape,g6.output,g6.size,λb hb hno=>g6.keep b hb hno,λb hb=>by obtain⟨_,he,_⟩:=hb; simp at he⟩⟩
 rw [<- ea,<- eh];exact xM XX (.inr (by rw [ea,eh]; exact hn x r h2 hr)) (jQ sub g1)
end Go.Sx
end
section
namespace Go.Nov
def sumS(m:Bool)(x:Nat)(n:Bool)(y:Nat):Bool×Nat:=if m=n then(m,x+y) else if y<=x then(m,x - y) else(n,y - x)
def addI(s t:L8):L8×Int:=if zA s t=0 then wr (sumS (negI s) (numI s) (negI t) (numI t)).1 (sumS (negI s) (numI s) (negI t) (numI t)).2 else([],zA s t)
def subI(s t:L8):L8×Int:=if zA s t=0 then wr (sumS (negI s) (numI s) (!negI t) (numI t)).1 (sumS (negI s) (numI s) (!negI t) (numI t)).2 else([],zA s t)
def mulI(s t:L8):L8×Int:=if zA s t=0 then wr (negI s != negI t) (numI s*numI t) else([],zA s t)
def cmpZ(m:Bool)(x:Nat)(n:Bool)(y:Nat):Int:=if m=true/\n=false then -1 else if n=true/\m=false then 1 else if m=true then cmpN y x else cmpN x y
def QM(s t:L8):Int×Int:=if zA s t=0 then(cmpZ (negI s) (numI s) (negI t) (numI t),0) else(0,zA s t)
theorem Ja{d:Nat}(h:d<10):(byt d).toNat=48+d:=by
 unfold byt;rw [UInt8.toNat_ofNat'];omega
theorem uZ{x:Nat}(h:x≠0):txt x=((dec x).map byt).reverse:=aO h
theorem Js{x:Nat}(h:x≠0):(txt x).length=(dec x).length:=by rw [uZ h]; simp
theorem zev{x:Nat}(h:x≠0):allD (txt x):=by
 intro c hc;rw [uZ h] at hc;simp only [List.mem_reverse,List.mem_map] at hc;obtain⟨d,hd,rfl⟩:=hc;have:d<10:=Ten.zi x d hd;rw [Ja this];omega
theorem zsv{x:Nat}(h:x≠0):dg (txt x)=dec x:=by
 rw [uZ h,dg,List.map_reverse,List.reverse_reverse,List.map_map]
 conv=>rhs; rw [<- List.map_id (dec x)]
 refine List.map_congr_left λd hd=> ?_
 have:d<10:=Ten.zi x d hd;simp only [Function.comp,Ja this,id];omega
theorem zqb{x:Nat}(h:x≠0):numD (txt x)=x:=by
 rw [<- zbr,zsv h];exact Ten.zm x
theorem yS{x:Nat}(h:x≠0):(txt x).getD 0 0≠48/\(txt x).getD 0 0≠45:=by
 have hl:=XC h;have ht:=zei hl;have hlt:=dec_lt x ((dec x).length - 1)
 have e:(txt x).getD 0 0=byt ((dec x).getD ((dec x).length - 1) 0):=by
  rw [uZ h];simp only [List.getD_eq_getElem?_getD];rw [List.getElem?_reverse (by simpa using hl)];simp [aF (show(dec x).length - 1<(dec x).length by omega)]
 rw [e];have hb:=Ja hlt;constructor
 ·intro h2;rw [h2] at hb;have:(48:UInt8).toNat=48:=rfl;omega
 ·intro h2;rw [h2] at hb;have:(45:UInt8).toNat=45:=rfl;omega
theorem Xd{x:Nat}(h:x≠0):txt x≠[]:=by
 intro h2;have:=Js h;rw [h2] at this;have:=XC h;simp at *; omega
theorem zg6{x:Nat}(h:x≠0)(neg:Bool):parse (sgn neg (txt x))=(neg,txt x):=by
 cases neg with
 | true=>rfl
 | false=>
  simp only [sgn,Bool.false_eq_true,if_false];have h1:=(yS h).2;cases ht:txt x with
  | nil=>exact absurd ht (Xd h)
  | cons c b=>
   rw [ht] at h1;have:c≠45:=h1;simp [parse,this]
theorem zld{x:Nat}(h:x≠0)(neg:Bool):wF neg (txt x)=true:=by
 have h1:=(yS h).1
 have h2:txt x≠[48]:=by
  intro h2;rw [h2] at h1;exact h1 rfl
 have h3:=Xd h;have h4:(txt x).all isD=true:=zek.2 (zev h);simp only [List.getD_eq_getElem?_getD] at h1;simp [wF,h3,h2,h1,h4]
theorem QI{neg:Bool}{x:Nat}(h:(wr neg x).2=0):errI (wr neg x).1=0/\numI (wr neg x).1=x/\negI (wr neg x).1=(neg&&decide (x≠0)):=by
 unfold wr at h ⊢;by_cases h0:x=0
 ·subst h0;simp only [if_true];refine⟨rfl,rfl,?_⟩;simp [negI,parse]
 ·rw [aO h0] at h ⊢;by_cases h1:1000<(dec x).length
  ·rw [aP h1] at h; cases h
  ·rw [aO h1];simp only [errI,numI,negI,zg6 h0,zld h0,if_true];rw [Js h0,aO h1];exact⟨rfl,zqb h0,by simp [h0]⟩
theorem zci(neg:Bool)(x:Nat):(wr neg x).2=0\/wr neg x=([],14):=by
 unfold wr;split
 ·exact .inl rfl
 ·split
  ·exact .inr rfl
  ·exact .inl rfl
theorem zps(neg:Bool)(b:L8):(sgn neg b).length<=b.length+1:=by
 unfold sgn; split<;>simp
theorem k6(neg:Bool)(x:Nat):(wr neg x).1.length<=1001:=by
 unfold wr;split
 ·simp
 ·rename_i h0;split
  ·simp
  ·rename_i h1;have:=zps neg (txt x);rw [Js h0] at this;simp only;omega
theorem zke(s t:L8):(addI s t).1.length<=1001:=by
 unfold addI;split
 ·exact k6 _ _
 ·simp
theorem zk7(s t:L8):(subI s t).1.length<=1001:=by
 unfold subI;split
 ·exact k6 _ _
 ·simp
theorem znw(s t:L8):(mulI s t).1.length<=1001:=by
 unfold mulI;split
 ·exact k6 _ _
 ·simp
theorem zdn(b:Bool)(x:Nat):wr (b&&decide (0<x)) x=wr b x:=by
 unfold wr;by_cases h:x=0
 ·rw [aP h,aP h]
 ·rw [aO h,aO h];have:decide (0<x)=true:=aX (bW h);rw [this,Bool.and_true]
theorem VO(m:Bool)(x:Nat)(n:Bool):sumS m x n 0=(m,x):=by
 unfold sumS;split
 ·rfl
 ·simp
theorem zg1(m:Bool)(x:Nat)(n:Bool)(y:Nat):sumS m x (n&&decide (0<y)) y=sumS m x n y:=by
 by_cases h:y=0
 ·subst h; rw [VO,VO]
 ·have:decide (0<y)=true:=aX (bW h);rw [this,Bool.and_true]
theorem zdi(m:Bool)(x:Nat)(n:Bool)(y:Nat):(sumS m x n y).2<=x+y:=by
 unfold sumS;split
 ·exact aJ _
 ·split
  ·simp only; omega
  ·simp only; omega
end Go.Nov
end
section
namespace Go.Nov
def Km(neg:Bool)(x y:Nat):L8:=
 if y/Nat.gcd x y=1 then(wr neg (x/Nat.gcd x y)).1 else(wr neg (x/Nat.gcd x y)).1++[47]++(wr false (y/Nat.gcd x y)).1
def wx(n d:L8):L8×Int:=if zA n d≠0 then([],zA n d) else if numI d=0 then([],16) else(Km (negI n != negI d) (numI n) (numI d),0)
def jP(a b:L8):Int:=if errR a=0 then errR b else errR a
def numR(a:L8):L8:=(cutR a).1
def denR(a:L8):L8:=if(cutR a).2.2 then(cutR a).2.1 else [49]
def frac(z w:L8×Int):L8×Int:=if z.2≠0\/w.2≠0 then([],14) else wx z.1 w.1
def zS(a b:L8):Int:=if jP a b≠0 then jP a b else if(mulI (numR a) (denR b)).2≠0\/(mulI (numR b) (denR a)).2≠0 then 14 else 0
def addR(a b:L8):L8×Int:=if zS a b≠0 then([],zS a b) else frac (addI (mulI (numR a) (denR b)).1 (mulI (numR b) (denR a)).1) (mulI (denR a) (denR b))
def subR(a b:L8):L8×Int:=if zS a b≠0 then([],zS a b) else frac (subI (mulI (numR a) (denR b)).1 (mulI (numR b) (denR a)).1) (mulI (denR a) (denR b))
def mulR(a b:L8):L8×Int:=if jP a b≠0 then([],jP a b) else frac (mulI (numR a) (numR b)) (mulI (denR a) (denR b))
def cmpR(a b:L8):Int×Int:=if zS a b≠0 then(0,zS a b) else QM (mulI (numR a) (denR b)).1 (mulI (numR b) (denR a)).1
end Go.Nov
namespace Go.Nov
def dmQ(s t:L8):Nat:=if negI s=true/\0<numI s%numI t then numI s/numI t+1 else numI s/numI t
def dmM(s t:L8):Nat:=if negI s=true/\0<numI s%numI t then numI t - numI s%numI t else numI s%numI t
def dmI(s t:L8):L8×L8×Int:=
 if zA s t≠0 then([],[],zA s t) else if numI t=0 then([],[],16) else((wr (negI s != negI t) (dmQ s t)).1,(wr false (dmM s t)).1,0)
theorem zol{s:L8}(h:errI s=0):∃ k,k<=1000/\numI s<10^k:=by
 obtain⟨_,h1,_,h2⟩:=JH h;exact⟨_,h2,Zm h1⟩
def room(x:Nat):Prop:=(dec x).length<=1000
theorem room_le{x y:Nat}(h:x<=y)(hy:room y):room x:=by
 rcases aR (dec y).length (dec x).length with h1 | h1
 ·have:=Ten.qn h1;omega
 ·exact bP h1 hy
theorem jN{s:L8}(h:errI s=0):room (numI s):=by
 obtain⟨k,h1,h2⟩:=zol h;exact bP (J0 h2) h1
theorem kV{neg:Bool}{x:Nat}(h:room x):(wr neg x).2=0:=by
 unfold wr;split
 ·rfl
 ·rw [aO (by have:(dec x).length<=1000:=h; omega)]
theorem zkt{s t:L8}(hs:errI s=0)(ht:numI t≠0):room (dmQ s t):=by
 have h:=jN hs;unfold dmQ;split
 ·rename_i hc;by_cases h1:numI t=1
  ·rw [h1,Nat.mod_one] at hc; omega
  ·refine room_le ?_ h;have h2:numI s/numI t<=numI s/2:=Nat.div_le_div_left (by omega) (by omega);have h3:numI s≠0:=λh0=>by rw [h0,Nat.zero_mod] at hc; omega
   by_cases h4:numI s=1
   ·have:numI s/numI t=0:=Nat.div_eq_of_lt (by omega);omega
   ·omega
 ·exact room_le (Nat.div_le_self _ _) h
theorem znc{s t:L8}(ht:errI t=0)(h0:numI t≠0):room (dmM s t):=by
 have h:=jN ht;have hm:=Nat.mod_lt (numI s) (bW h0);unfold dmM;split
 ·exact room_le (Nat.sub_le _ _) h
 ·exact room_le (by omega) h
end Go.Nov
namespace Go.Nov
theorem xn:wr false 1=([49],0):=by
 have h:dec 1=[1]:=by
  show Ten.canon 1=[1];rw [Ten.jg (by decide)];exact congrArg (1 :: ·) Ten.zT
 simp [wr,h,txt,sgn,byt]
theorem zc6{x:Nat}(h:room x):(wr false x).1=[49]↔x=1:=by
 constructor
 ·intro e;have:=(QI (kV (neg:=false) h)).2.1;rw [e] at this;exact this.symm
 ·rintro rfl;rw [xn]
theorem zkx{x:Nat}(h0:x≠0)(h:room x):[45]++(wr false x).1=(wr true x).1:=by
 unfold wr;rw [aO h0,aO h0,aO (by have:(dec x).length<=1000:=h; omega),aO (by have:(dec x).length<=1000:=h; omega)];rfl
theorem yg{t:L8}(h:errI t=0):t=[48]↔numI t=0:=by
 constructor
 ·rintro rfl; rfl
 ·intro h0;obtain⟨neg,b,h1,h2,h3,h4,h5,h6⟩:=X7 h;have hb:numD b=0:=by simpa [numI,h2] using h0
  cases b with
  | nil=>exact absurd rfl h5
  | cons c r=>
   have hc:=h4 c (by simp)
   have e:numD (c::r)=(c.toNat - 48)*10^r.length+numD r:=by
    have:=kK [c] r;simp only [List.singleton_append] at this;rw [this];simp [numD]
   rw [e] at hb
   have hc0:c.toNat=48:=by
    rcases bC (c.toNat - 48) with h7 | h7
    ·omega
    ·have:=Nat.mul_pos h7 (Nat.pow_pos (n:=r.length) (show 0<10 by decide));omega
   have hc1:c=48:=UInt8.toNat_inj.1 (by rw [hc0]; rfl);subst hc1
   have hr:r=[]:=by
    cases r with
    | nil=>rfl
    | cons d r=>
     have:=x8 (neg:=neg) (b:=48::d::r) rfl (by simp);rw [this] at h3; cases h3
   subst hr;cases neg with
   | true=>cases h3
   | false=>simpa [sgn] using h1
theorem Ud{s:L8}{b:Bool}{g:Nat}(hs:errI s=0)(h0:g≠0)(hg:room g)(hd:g ∣ numI s):dmI s (wr b g).1=((wr (negI s != b) (numI s/g)).1,[48],0):=by
 obtain⟨h1,h2,h3⟩:=QI (kV (neg:=b) hg);have hb:negI (wr b g).1=b:=by rw [h3]; simp [h0]
 have he:zA s (wr b g).1=0:=zk.2 ⟨hs,h1⟩;have hm:numI s%g=0:=Nat.mod_eq_zero_of_dvd hd;unfold dmI;rw [aO (by rw [he]; decide),h2,aO h0,hb]
 have hq:dmQ s (wr b g).1=numI s/g:=by
  unfold dmQ;rw [h2,hm,aO (by omega)]
 have hr:dmM s (wr b g).1=0:=by
  unfold dmM;rw [h2,hm,aO (by omega)]
 rw [hq,hr];rfl
theorem U9{s t:L8}(ht:errI t=0)(h0:numI t≠0):Nat.gcd (numI s) (numI t)≠0/\room (Nat.gcd (numI s) (numI t)):=by
 have hp:=bW h0;refine⟨λh=> ?_,room_le (Nat.le_of_dvd hp (Nat.gcd_dvd_right _ _)) (jN ht)⟩;have:=Nat.eq_zero_of_gcd_eq_zero_right h;exact h0 this
theorem zhf(neg:Bool)(x y:Nat):(Km neg x y).length<=2003:=by
 unfold Km;have h1:=k6 neg (x/Nat.gcd x y);have h2:=k6 false (y/Nat.gcd x y);split
 ·omega
 ·simp only [bO,aL,List.length_nil]; omega
end Go.Nov
namespace Go.Nov
theorem YL:errI [49]=0:=rfl
theorem qM{a:L8}(h:errR a=0):errI (numR a)=0/\errI (denR a)=0/\negI (denR a)=false/\numI (denR a)≠0:=by
 unfold errR at h;unfold numR denR;cases hc:(cutR a).2.2 with
 | true=>
  rw [hc] at h;simp only [if_true] at h ⊢;split at h
  ·cases h
  ·rename_i h1;simp only [not_or] at h1;split at h
   ·cases h
   ·rename_i h2;simp only [not_or,Classical.not_not] at h2;refine⟨h2.1,h2.2,by simpa using h1.2.2.1,λh0=> ?_⟩;exact h1.2.2.2.1 ((yg h2.2).2 h0)
 | false=>
  rw [hc] at h;simp only [Bool.false_eq_true,if_false] at h ⊢
  have:(cutR a).1=a:=by
   unfold cutR at hc ⊢;split at hc
   ·cases hc
   ·rename_i hn; rw [aO hn]
  rw [this];exact⟨h,YL,rfl,by decide⟩
theorem Ul(a:L8):(numR a).length<=a.length:=(X9 a).1
theorem Ui(a:L8):(denR a).length<=a.length+1:=by
 unfold denR;split
 ·exact bP (X9 a).2 (Nat.le_succ _)
 ·simp
theorem kG{s t:L8}(h:zA s t=0):(mulI s t).2=0/\errI (mulI s t).1=0\/mulI s t=([],14):=by
 unfold mulI;rw [aP h];exact(zci _ _).imp (λh=>⟨h,(QI h).1⟩) id
theorem ziv{s t:L8}(h:zA s t=0):(addI s t).2=0/\errI (addI s t).1=0\/addI s t=([],14):=by
 unfold addI;rw [aP h];exact(zci _ _).imp (λh=>⟨h,(QI h).1⟩) id
theorem zoi{s t:L8}(h:zA s t=0):(subI s t).2=0/\errI (subI s t).1=0\/subI s t=([],14):=by
 unfold subI;rw [aP h];exact(zci _ _).imp (λh=>⟨h,(QI h).1⟩) id
end Go.Nov
namespace Go.Nov
def stp(e:Int)(f:L8->L8->L8×Int)(x y:L8):L8×Int:=if e≠0 then([],e) else f x y
theorem zr3{e:Int}{f:L8->L8->L8×Int}{x y:L8}(h:(f x y).1.length<=1001):(stp e f x y).1.length<=1001:=by
 unfold stp;split
 ·simp
 ·exact h
theorem qz{e:Int}(h:e≠0)(f:L8->L8->L8×Int)(x y:L8):stp e f x y=([],e):=aP h
theorem vk(f:L8->L8->L8×Int)(x y:L8):stp 0 f x y=f x y:=aO (by simp)
def WH(f:L8->L8->L8×Int)(a b:L8):L8×Int:=
 if zS a b≠0 then([],zS a b) else frac (f (mulI (numR a) (denR b)).1 (mulI (numR b) (denR a)).1) (mulI (denR a) (denR b))
section
variable {a b n m d c:L8} {e:Int} (hp:(e≠0/\jP a b=e)\/(e=0/\errR a=0/\errR b=0/\n=numR a/\m=numR b/\d=denR a/\c=denR b))
include hp
theorem QO{f:L8->L8->L8×Int}(hf:∀ {s t:L8},zA s t=0->(f s t).2=0/\errI (f s t).1=0\/f s t=([],14)){r1 r2 r3 r4 r5:L8×Int}
  (h1:r1=stp e mulI n c) (h2:r2=stp r1.2 mulI m d) (h3:r3=stp r2.2 f r1.1 r2.1) (h4:r4=stp r3.2 mulI d c) (h5:r5=stp r4.2 wx r3.1 r4.1):r5=WH f a b:=by
 rcases hp with ⟨he,h2e⟩ | ⟨rfl,ha,hb,rfl,rfl,rfl,rfl⟩
 ·have hc:zS a b=e:=by unfold zS; rw [aP (by rw [h2e]; exact he)]; exact h2e
  unfold WH;rw [hc,aP he];rw [qz he] at h1;subst h1;rw [qz he] at h2;subst h2;rw [qz he] at h3;subst h3;rw [qz he] at h4;subst h4;rw [h5,qz he]
 ·obtain⟨a1,a2,_⟩:=qM ha;obtain⟨b1,b2,_⟩:=qM hb;have he2:jP a b=0:=by unfold jP; rw [aP ha]; exact hb
  have e14:(14:Int)≠0:=by decide
  rw [vk] at h1;have hc:zS a b=if(mulI (numR a) (denR b)).2≠0\/(mulI (numR b) (denR a)).2≠0 then 14 else 0:=by unfold zS; rw [aO (by rw [he2]; simp)]
  rcases kG (zk.2 ⟨a1,b2⟩) with ⟨g1,k1⟩ | g1
  ·rw [<- h1] at g1 k1;rw [g1,vk] at h2;rcases kG (zk.2 ⟨b1,a2⟩) with ⟨g2,k2⟩ | g2
   ·rw [<- h2] at g2 k2;rw [g2,vk] at h3;have hc0:zS a b=0:=by rw [hc,aO]; rw [<- h1,<- h2,g1,g2]; simp
    unfold WH;rw [hc0,aO (by simp),<- h1,<- h2,<- h3];rcases hf (zk.2 ⟨k1,k2⟩) with ⟨g3,k3⟩ | g3
    ·rw [<- h3] at g3 k3;rw [g3,vk] at h4;unfold frac;rw [<- h4,h5];rcases kG (zk.2 ⟨a2,b2⟩) with ⟨g4,k4⟩ | g4
     ·rw [<- h4] at g4;rw [g3,g4,aO (by simp),vk]
     ·rw [<- h4] at g4;rw [g4,aP (by simp),qz e14]
    ·rw [<- h3] at g3;have q4:r4=([],14):=by rw [h4,g3]; exact qz e14 _ _ _
     unfold frac;rw [aP (by rw [g3]; simp),h5,q4,qz e14]
   ·rw [<- h2] at g2;have hc0:zS a b=14:=by rw [hc,aP]; rw [<- h2,g2]; simp
    unfold WH;rw [hc0,aP e14];have q3:r3=([],14):=by rw [h3,g2]; exact qz e14 _ _ _
    have q4:r4=([],14):=by rw [h4,q3]; exact qz e14 _ _ _
    rw [h5,q4,qz e14]
  ·rw [<- h1] at g1;have hc0:zS a b=14:=by rw [hc,aP]; rw [<- h1,g1]; simp
   unfold WH;rw [hc0,aP e14];have q2:r2=([],14):=by rw [h2,g1]; exact qz e14 _ _ _
   have q3:r3=([],14):=by rw [h3,q2]; exact qz e14 _ _ _
   have q4:r4=([],14):=by rw [h4,q3]; exact qz e14 _ _ _
   rw [h5,q4,qz e14]
theorem zhp{x y z w:L8}{r1 r2 r3:L8×Int}(h1:r1=stp e mulI x y)(h2:r2=stp r1.2 mulI z w)(h3:r3=stp r2.2 wx r1.1 r2.1)
  (hv:errR a=0->errR b=0->zA x y=0/\zA z w=0):r3=if jP a b≠0 then([],jP a b) else frac (mulI x y) (mulI z w):=by
 rcases hp with ⟨he,h2e⟩ | ⟨rfl,ha,hb,_⟩
 ·rw [h2e,aP he];rw [qz he] at h1;subst h1;rw [qz he] at h2;subst h2;rw [h3,qz he]
 ·obtain⟨v1,v2⟩:=hv ha hb;have he2:jP a b=0:=by unfold jP; rw [aP ha]; exact hb
  have e14:(14:Int)≠0:=by decide
  rw [he2,aO (by simp)];rw [vk] at h1;unfold frac;rcases kG v1 with ⟨g1,_⟩ | g1
  ·rw [<- h1] at g1 ⊢;rw [g1,vk] at h2;rcases kG v2 with ⟨g2,_⟩ | g2
   ·rw [<- h2] at g2 ⊢;rw [g1,g2,aO (by simp),h3,g2,vk]
   ·rw [<- h2] at g2 ⊢;rw [g2,aP (by simp),h3,g2,qz e14]
  ·rw [<- h1] at g1 ⊢;have q2:r2=([],14):=by rw [h2,g1]; exact qz e14 _ _ _
   rw [g1,aP (by simp),h3,q2,qz e14]
theorem zgo{r1 r2:L8×Int}(h1:r1=stp e mulI n c)(h2:r2=stp r1.2 mulI m d):(if r2.2≠0 then(0,r2.2) else QM r1.1 r2.1)=cmpR a b:=by
 unfold cmpR;rcases hp with ⟨he,h2e⟩ | ⟨rfl,ha,hb,rfl,rfl,rfl,rfl⟩
 ·have hc:zS a b=e:=by unfold zS; rw [aP (by rw [h2e]; exact he)]; exact h2e
  rw [qz he] at h1;subst h1;rw [qz he] at h2;subst h2;rw [hc,aP he,aP he]
 ·obtain⟨a1,a2,_⟩:=qM ha;obtain⟨b1,b2,_⟩:=qM hb;have he2:jP a b=0:=by unfold jP; rw [aP ha]; exact hb
  have e14:(14:Int)≠0:=by decide
  have hc:zS a b=if(mulI (numR a) (denR b)).2≠0\/(mulI (numR b) (denR a)).2≠0 then 14 else 0:=by unfold zS; rw [aO (by rw [he2]; simp)]
  rw [vk] at h1;rcases kG (zk.2 ⟨a1,b2⟩) with ⟨g1,k1⟩ | g1
  ·rw [<- h1] at g1;rw [g1,vk] at h2;rcases kG (zk.2 ⟨b1,a2⟩) with ⟨g2,k2⟩ | g2
   ·rw [<- h2] at g2;have hc0:zS a b=0:=by rw [hc,aO]; rw [<- h1,<- h2,g1,g2]; simp
    rw [hc0,aO (by rw [g2]; simp),aO (by simp),<- h1,<- h2]
   ·rw [<- h2] at g2;have hc0:zS a b=14:=by rw [hc,aP]; rw [<- h2,g2]; simp
    rw [hc0,g2,aP e14,aP e14]
  ·rw [<- h1] at g1;have hc0:zS a b=14:=by rw [hc,aP]; rw [<- h1,g1]; simp
   have q2:r2=([],14):=by rw [h2,g1]; exact qz e14 _ _ _
   rw [hc0,q2,aP e14,aP e14]
end
end Go.Nov
end
section
namespace Go.Nov
theorem zt7{b:L8}(h:allD b)(hn:b≠[])(hz:b.getD 0 0≠48):numD b≠0/\txt (numD b)=b:=by
 have hd:=zsz h;have hl:0<b.length:=List.length_pos_iff.2 hn
 have htl:Ten.tlen (dg b)=(dg b).length:=by
  rcases aR (Ten.tlen (dg b)) (dg b).length with h1 | h1
  ·exfalso;have h2:=Ten.jX (dg b) ((dg b).length - 1) (by omega);rw [zcb] at h2
   have e:(dg b).getD (b.length - 1) 0=(b.getD 0 0).toNat - 48:=by
    simp only [dg,List.getD_eq_getElem?_getD];rw [List.getElem?_reverse (by simp; omega)];simp [aF hl,show b.length - 1 - (b.length - 1)=0 by omega]
   rw [e] at h2
   have h3:48<=(b.getD 0 0).toNat:=by
    cases b with
    | nil=>exact absurd rfl hn
    | cons c r=>exact(h c (by simp)).1
   apply hz;apply UInt8.toNat_inj.1;show _=48;omega
  ·exact Nat.le_antisymm (Ten.q5 _) h1
 have hc:dec (numD b)=dg b:=by
  rw [<- zbr];exact Ten.Kq hd htl
 have h0:numD b≠0:=by
  intro h0;rw [h0] at hc;have:dg b=[]:=by rw [<- hc]; exact Ten.zT
  have:=congrArg List.length this;rw [zcb,List.length_nil] at this;omega
 refine⟨h0,?_⟩;rw [uZ h0,hc,dg,<- List.map_reverse,List.reverse_reverse,List.map_map]
 conv=>rhs; rw [<- List.map_id b]
 refine List.map_congr_left λc hcm=> ?_
 obtain⟨h1,h2⟩:=h c hcm;apply UInt8.toNat_inj.1;simp only [Function.comp,id];rw [Ja (by omega)];omega
theorem zd3{s:L8}(h:errI s=0):wr (negI s) (numI s)=(s,0):=by
 obtain⟨neg,b,h1,h2,h3,h4,h5,h6⟩:=X7 h;have e1:negI s=neg:=by simp [negI,h2]
 have e2:numI s=numD b:=by simp [numI,h2]
 rw [e1,e2];by_cases hz:b.getD 0 0=48
 ·have hb:b=[48]:=by
   cases b with
   | nil=>exact absurd rfl h5
   | cons c r=>
    cases r with
    | nil=>have:c=48:=hz; rw [this]
    | cons d r=>rw [x8 hz (by simp)] at h3; cases h3
  subst hb;cases neg with
  | true=>cases h3
  | false=>rw [h1]; rfl
 ·obtain⟨g1,g2⟩:=zt7 h4 h5 hz;unfold wr;rw [aO g1,g2,aO,h1];have:=Js g1;rw [g2] at this;omega
def zI(s:L8):Int:=if negI s then -(numI s:Int) else numI s
theorem wX(s:L8):(zI s).natAbs=numI s:=by unfold zI; split<;>simp
theorem Yc{s:L8}(h:errI s=0):negI s=decide (zI s<0):=by
 unfold zI;cases hn:negI s with
 | false=>simp
 | true=>
  simp only [if_true]
  have:numI s≠0:=by
   intro h0;have:=(yg h).2 h0;rw [this] at hn;cases hn
  exact(aX (by omega)).symm
def wz(z:Int):L8×Int:=wr (decide (z<0)) z.natAbs
theorem vw{s:L8}(h:errI s=0):wz (zI s)=(s,0):=by
 unfold wz;rw [wX,<- Yc h,zd3 h]
theorem zv0{neg:Bool}{x:Nat}(h:(wr neg x).2=0):zI (wr neg x).1=if neg then -(x:Int) else x:=by
 obtain⟨h1,h2,h3⟩:=QI h;unfold zI;rw [h2,h3];by_cases h0:x=0
 ·subst h0; simp
 ·cases neg<;>simp [h0]
theorem xN{z:Int}(h:(wz z).2=0):zI (wz z).1=z:=by
 unfold wz at h ⊢;rw [zv0 h];by_cases hz:z<0
 ·rw [aX hz]; simp only [if_true]; omega
 ·rw [aW hz]; simp only [Bool.false_eq_true,if_false]; omega
theorem ui{z:Int}(h:(wz z).2=0):errI (wz z).1=0:=(QI h).1
theorem Us{neg:Bool}{x:Nat} : wr neg x=wz (if neg then -(x:Int) else x):=by
 unfold wz;by_cases h0:x=0
 ·subst h0;cases neg<;>rfl
 ·cases neg with
  | false=>simp only [Bool.false_eq_true,if_false,Int.natAbs_natCast]; rw [aW (by omega)]
  | true=>simp only [if_true,Int.natAbs_neg,Int.natAbs_natCast]; rw [aX (by omega)]
theorem zkd(m:Bool)(x:Nat)(n:Bool)(y:Nat):(if(sumS m x n y).1 then -((sumS m x n y).2:Int) else(sumS m x n y).2)=(if m then -(x:Int) else x)+(if n then -(y:Int) else y):=by
 unfold sumS;by_cases h:m=n
 ·subst h;rw [aP rfl];cases m<;>simp<;>omega
 ·rw [aO h];by_cases h2:y<=x
  ·rw [aP h2];cases m<;>cases n<;>first | exact absurd rfl h | (simp; omega)
  ·rw [aO h2];cases m<;>cases n<;>first | exact absurd rfl h | (simp; omega)
theorem zo1{s t:L8}(h:zA s t=0):addI s t=wz (zI s+zI t):=by
 unfold addI;rw [aP h,Us,zkd]; rfl
theorem zuo{s t:L8}(h:zA s t=0):subI s t=wz (zI s - zI t):=by
 unfold subI;rw [aP h,Us,zkd];congr 1;unfold zI;cases negI s<;>cases negI t<;>simp<;>omega
theorem wU{s t:L8}(h:zA s t=0):mulI s t=wz (zI s*zI t):=by
 unfold mulI;rw [aP h,Us];congr 1;unfold zI;cases negI s<;>cases negI t<;>simp [Int.neg_mul,Int.mul_neg]
theorem ztd(m:Bool)(x:Nat)(n:Bool)(y:Nat)(hm:m=true->x≠0)(hn:n=true->y≠0):cmpZ m x n y=cmpI (if m then -(x:Int) else x) (if n then -(y:Int) else y):=by
 unfold cmpZ cmpI cmpN;cases m<;>cases n
 ·simp only [Bool.false_eq_true,false_and,if_false]
  repeat' split
  all_goals first | rfl | omega
 ·have:=hn rfl;simp only [Bool.false_eq_true,false_and,if_false,true_and,and_self,if_true]
  repeat' split
  all_goals first | rfl | omega
 ·have:=hm rfl;simp only [and_self,if_true,Bool.false_eq_true,if_false]
  repeat' split
  all_goals first | rfl | omega
 ·simp only [Bool.true_eq_false,and_false,if_false,if_true]
  repeat' split
  all_goals first | rfl | omega
def qv(a:L8):Rat:=Rat.divInt (zI (numR a)) (zI (denR a))
def qstr(r:Rat):L8:=if r.den=1 then(wz r.num).1 else(wz r.num).1++[47]++(wz r.den).1
def kP(r:Rat):Prop:=room r.num.natAbs/\room r.den
theorem zmt(neg:Bool)(x:Nat):∀ c∈(wr neg x).1,c≠47:=by
 intro c hc h;subst h;unfold wr at hc;split at hc
 ·simp at hc
 ·rename_i h0;split at hc
  ·simp at hc
  ·have ht:¬ (47:UInt8)∈txt x:=λhm=>by
    have:=(zev h0 _ hm).1;have e:(47:UInt8).toNat=47:=rfl;omega
   cases neg<;>simp [sgn] at hc<;>exact ht hc
theorem zli{u v:L8}(h:∀ c∈u,c≠47):cutR (u++[47]++v)=(u,v,true):=by
 have hs:zP (u++[47]++v)=u.length:=by
  refine ziw (by simp) (by simp [List.getD]) λj hj=> ?_
  rw [List.append_assoc];simp only [List.getD,bL hj,aF hj,Option.getD_some];exact h _ (bK hj)
 rw [zd0 (by rw [hs]; simp),hs];simp
theorem zgj{u:L8}(h:∀ c∈u,c≠47):cutR u=(u,[],false):=by
 have hs:zP u=u.length:=zbq λj hj=>by
  simp only [List.getD,aF hj,Option.getD_some];exact h _ (bK hj)
 exact zih (by omega)
theorem U8(z:Int):∀ c∈(wz z).1,c≠47:=zmt _ _
theorem yD{z:Int}(h:room z.natAbs):(wz z).2=0:=kV h
theorem zu9:wz 1=([49],0):=xn
theorem uy{r:Rat}(h:kP r):numR (qstr r)=(wz r.num).1/\denR (qstr r)=(wz (r.den:Int)).1/\(cutR (qstr r)).2.2=decide (r.den≠1):=by
 unfold qstr;by_cases h1:r.den=1
 ·rw [aP h1];have:=zgj (U8 r.num);unfold numR denR;rw [this,h1];exact⟨rfl,by simp only [Bool.false_eq_true,if_false]; exact(congrArg Prod.fst zu9).symm,by simp⟩
 ·rw [aO h1];have:=zli (v:=(wz (r.den:Int)).1) (U8 r.num);unfold numR denR;rw [this];exact⟨rfl,rfl,by simp [h1]⟩
theorem Ji{r:Rat}(h:kP r):qv (qstr r)=r:=by
 obtain⟨h1,h2,_⟩:=uy h;unfold qv;rw [h1,h2,xN (yD h.1),xN (yD (by rw [Int.natAbs_natCast]; exact h.2)),Rat.divInt_ofNat,Rat.mkRat_self]
theorem yL{r:Rat}(h:kP r):errR (qstr r)=0:=by
 obtain⟨h1,h2,h3⟩:=uy h;have e1:=ui (yD h.1);have e2:errI (wz (r.den:Int)).1=0:=ui (yD (by rw [Int.natAbs_natCast]; exact h.2));have z1:=xN (yD h.1);have z2:zI (wz (r.den:Int)).1=r.den:=xN (yD (by rw [Int.natAbs_natCast]; exact h.2));unfold errR;by_cases hd:r.den=1
 ·rw [h3,hd];simp only [ne_eq,not_true_eq_false,decide_false,Bool.false_eq_true,if_false];unfold qstr;rw [aP hd];exact e1
 ·have hc:(cutR (qstr r)).2.2=true:=by rw [h3]; simp [hd]
  have n1:(cutR (qstr r)).1=(wz r.num).1:=h1;have n2:(cutR (qstr r)).2.1=(wz (r.den:Int)).1:=by unfold denR at h2; rw [hc] at h2; exact h2
  rw [hc,aP rfl,n1,n2];have hp:=r.den_pos;have hneg:negI (wz (r.den:Int)).1=false:=by rw [Yc e2,z2]; exact aW (by omega)
  have hn48:(wz (r.den:Int)).1≠[48]:=λh=>by
   rw [h] at z2;have:zI [48]=0:=rfl;omega
  have hn49:(wz (r.den:Int)).1≠[49]:=λh=>by
   rw [h] at z2;have:zI [49]=1:=rfl;omega
  rw [aO (by simp [e1,e2,hneg,hn48,hn49]),aO (by simp [e1,e2])]
  have hg:gcdR (wz r.num).1 (wz (r.den:Int)).1=wr false (Nat.gcd r.num.natAbs r.den):=by
   unfold gcdR;rw [aP (zk.2 ⟨e1,e2⟩),<- wX,<- wX,z1,z2,Int.natAbs_natCast]
  have hr:Nat.gcd r.num.natAbs r.den=1:=r.reduced;rw [hg,hr,xn,aO (by simp)]
theorem kH{a:L8}(h:errR a=0):(qv a).num=zI (numR a)/\((qv a).den:Int)=zI (denR a)/\qstr (qv a)=a/\kP (qv a):=by
 obtain⟨e1,e2,e3,e4⟩:=qM h;have hz:zI (denR a)=numI (denR a):=by unfold zI; rw [e3]; rfl
 have hcop:Nat.gcd (numI (numR a)) (numI (denR a))=1:=by
  unfold errR at h;cases hc:(cutR a).2.2 with
  | true=>
   rw [hc,aP rfl] at h;have hd:denR a=(cutR a).2.1:=by unfold denR; rw [hc]; rfl
   rw [hd] at e2 e4 ⊢;unfold numR at e1 ⊢;split at h
   ·cases h
   split at h
   ·cases h
   split at h
   ·cases h
   ·rename_i hg;rw [Classical.not_not] at hg;unfold gcdR at hg;rw [aP (zk.2 ⟨e1,e2⟩)] at hg;exact(zc6 (U9 e2 e4).2).1 hg
  | false=>
   have:denR a=[49]:=by unfold denR; rw [hc]; rfl
   rw [this];exact Nat.gcd_one_right _
 have hq:qv a=⟨zI (numR a),numI (denR a),e4,by rw [wX]; exact hcop⟩:=by
  unfold qv;rw [hz,Rat.mk_eq_divInt]
 have hroom:kP (qv a):=by
  rw [hq];exact⟨by show room (zI (numR a)).natAbs; rw [wX]; exact jN e1,jN e2⟩
 refine⟨by rw [hq],by rw [hq,hz],?_,hroom⟩;rw [hq];unfold qstr;simp only;rw [<- hz,vw e1,vw e2];cases hc:(cutR a).2.2 with
 | true=>
  have hd:denR a=(cutR a).2.1:=by unfold denR; rw [hc]; rfl
  have hn1:numI (denR a)≠1:=by
   intro h1
   have:denR a=[49]:=by
    have:=(zd3 e2);rw [e3,h1,xn] at this;exact(congrArg Prod.fst this).symm
   unfold errR at h;rw [hc,aP rfl,aP (by rw [<- hd,this]; simp)] at h;cases h
  rw [aO hn1,hd];simp only [numR];unfold cutR at hc ⊢;split at hc
  ·rename_i hs;rw [aP hs];simp only;have h47:=Wf hs
   have:a=a.take (zP a)++([a.getD (zP a) 0]++a.drop (zP a+1)):=by
    conv=>lhs; rw [<- bU (zP a) a]
    congr 1;rw [List.drop_eq_getElem_cons hs];simp [List.getD,aF hs]
   rw [h47] at this;rw [List.append_assoc];exact this.symm
  ·cases hc
 | false=>
  have hd:denR a=[49]:=by unfold denR; rw [hc]; rfl
  rw [hd];have:numI [49]=1:=rfl;rw [aP this];unfold numR;unfold cutR at hc ⊢;split at hc
  ·cases hc
  ·rename_i hs;rw [aO hs]
theorem zko{a b:L8}(ha:errR a=0)(hb:errR b=0)(h:qv a=qv b):a=b:=by
 rw [<- (kH ha).2.2.1,<- (kH hb).2.2.1,h]
theorem zre(a b:Int)(hb:b≠0):b.sign*a=if(decide (a<0) != decide (b<0))=true then -(a.natAbs:Int) else a.natAbs:=by
 by_cases h1:a<0
 ·rw [aX h1];by_cases h2:b<0
  ·rw [aX h2,Int.sign_eq_neg_one_of_neg h2]; simp; omega
  ·rw [aW h2,Int.sign_eq_one_of_pos (by omega)]; simp; omega
 ·rw [aW h1];by_cases h2:b<0
  ·rw [aX h2,Int.sign_eq_neg_one_of_neg h2]; simp; omega
  ·rw [aW h2,Int.sign_eq_one_of_pos (by omega)]; simp; omega
theorem zcq{n d:L8}(hn:errI n=0)(hd:errI d=0)(h0:numI d≠0):wx n d=(qstr (Rat.divInt (zI n) (zI d)),0)/\kP (Rat.divInt (zI n) (zI d)):=by
 have hz0:zI d≠0:=λh=>h0 (by rw [<- wX,h]; rfl)
 have hg:(zI d).gcd (zI n)=Nat.gcd (numI n) (numI d):=by
  show Nat.gcd _ _=_;rw [wX,wX,Nat.gcd_comm]
 have hden:(Rat.divInt (zI n) (zI d)).den=numI d/Nat.gcd (numI n) (numI d):=by
  rw [Rat.den_divInt,aO hz0,hg,wX]
 have hdv:Nat.gcd (numI n) (numI d) ∣ numI n:=Nat.gcd_dvd_left _ _
 have hnum:(Rat.divInt (zI n) (zI d)).num=if(negI n != negI d)=true then -((numI n/Nat.gcd (numI n) (numI d):Nat):Int) else((numI n/Nat.gcd (numI n) (numI d):Nat):Int):=by
  rw [Rat.num_divInt,hg,zre _ _ hz0,wX,<- Yc hn,<- Yc hd];split
  ·rw [Int.neg_ediv_of_dvd (Int.natCast_dvd_natCast.2 hdv),Int.natCast_ediv]
  ·rw [Int.natCast_ediv]
 have hroom:kP (Rat.divInt (zI n) (zI d)):=by
  refine⟨?_,by rw [hden]; exact room_le (Nat.div_le_self _ _) (jN hd)⟩;rw [hnum];have:room (numI n/Nat.gcd (numI n) (numI d)):=room_le (Nat.div_le_self _ _) (jN hn);split
  ·rw [Int.natAbs_neg,Int.natAbs_natCast]; exact this
  ·rw [Int.natAbs_natCast]; exact this
 refine⟨?_,hroom⟩;unfold wx;rw [aO (by rw [zk.2 ⟨hn,hd⟩]; simp),aO h0];congr 1;unfold Km qstr;rw [hden,hnum];have e2:(wr false (numI d/Nat.gcd (numI n) (numI d))).1=(wz ((numI d/Nat.gcd (numI n) (numI d):Nat):Int)).1:=by rw [Us]; rfl
 rw [Us,e2]
theorem zct{n d:L8}{e f:Int}{z w:Int}(hw:w≠0)(hz:(n,e)=wz z)(hd:(d,f)=wz w):frac (n,e) (d,f)=([],14)\/(frac (n,e) (d,f)=(qstr (Rat.divInt z w),0)/\kP (Rat.divInt z w)):=by
 unfold frac;by_cases he:e=0
 ·by_cases hf:f=0
  ·subst he; subst hf;have h1:(wz z).2=0:=by rw [<- hz]
   have h2:(wz w).2=0:=by rw [<- hd]
   have n1:n=(wz z).1:=by rw [<- hz]
   have n2:d=(wz w).1:=by rw [<- hd]
   have z1:=xN h1;have z2:=xN h2;have e1:=ui h1;have e2:=ui h2;rw [<- n1] at z1 e1;rw [<- n2] at z2 e2;right;rw [aO (by simp)];have:=zcq e1 e2 (λh=>hw (by rw [<- z2]; have:=wX d; omega));rw [z1,z2] at this;exact this
  ·left; rw [aP (.inr hf)]
 ·left; rw [aP (.inl he)]
section
variable {a b:L8} (ha:errR a=0) (hb:errR b=0)
include ha hb
theorem QP:errI (numR a)=0/\errI (denR a)=0/\errI (numR b)=0/\errI (denR b)=0/\zI (denR a)≠0/\zI (denR b)≠0/\jP a b=0:=by
 obtain⟨a1,a2,_,a4⟩:=qM ha;obtain⟨b1,b2,_,b4⟩:=qM hb;exact⟨a1,a2,b1,b2,λh=>a4 (by rw [<- wX,h]; rfl),λh=>b4 (by rw [<- wX,h]; rfl),by unfold jP; rw [aP ha]; exact hb⟩
theorem Xt:zS a b=14\/(zS a b=0/\mulI (numR a) (denR b)=wz (zI (numR a)*zI (denR b))/\mulI (numR b) (denR a)=wz (zI (numR b)*zI (denR a))/\(mulI (numR a) (denR b)).2=0/\(mulI (numR b) (denR a)).2=0):=by
 obtain⟨a1,a2,b1,b2,a4,b4,h2⟩:=QP ha hb;have m1:=wU (zk.2 ⟨a1,b2⟩);have m2:=wU (zk.2 ⟨b1,a2⟩);unfold zS;rw [aO (by rw [h2]; simp)];by_cases h:(mulI (numR a) (denR b)).2≠0\/(mulI (numR b) (denR a)).2≠0
 ·left; rw [aP h]
 ·right;rw [aO h];simp only [not_or,Classical.not_not] at h;exact⟨rfl,m1,m2,h.1,h.2⟩
theorem zux:addR a b=([],14)\/(addR a b=(qstr (qv a+qv b),0)/\kP (qv a+qv b)):=by
 obtain⟨a1,a2,b1,b2,a4,b4,h2⟩:=QP ha hb;unfold addR;rcases Xt ha hb with h | ⟨h,m1,m2,k1,k2⟩
 ·left; rw [h]; rfl
 ·rw [h,aO (by simp)];rw [m1] at k1;rw [m2] at k2;have e1:=ui k1;have e2:=ui k2
  have:=zct (n:=(addI (mulI (numR a) (denR b)).1 (mulI (numR b) (denR a)).1).1) (e:=(addI (mulI (numR a) (denR b)).1 (mulI (numR b) (denR a)).1).2) (d:=(mulI (denR a) (denR b)).1) (f:=(mulI (denR a) (denR b)).2)
   (z:=zI (numR a)*zI (denR b)+zI (numR b)*zI (denR a)) (w:=zI (denR a)*zI (denR b)) (Int.mul_ne_zero a4 b4) (by rw [m1,m2,zo1 (zk.2 ⟨e1,e2⟩),xN k1,xN k2]) (by rw [wU (zk.2 ⟨a2,b2⟩)])
  unfold qv;rw [Rat.divInt_add_divInt _ _ a4 b4];exact this
theorem zt1:subR a b=([],14)\/(subR a b=(qstr (qv a - qv b),0)/\kP (qv a - qv b)):=by
 obtain⟨a1,a2,b1,b2,a4,b4,h2⟩:=QP ha hb;unfold subR;rcases Xt ha hb with h | ⟨h,m1,m2,k1,k2⟩
 ·left; rw [h]; rfl
 ·rw [h,aO (by simp)];rw [m1] at k1;rw [m2] at k2;have e1:=ui k1;have e2:=ui k2
  have:=zct (n:=(subI (mulI (numR a) (denR b)).1 (mulI (numR b) (denR a)).1).1) (e:=(subI (mulI (numR a) (denR b)).1 (mulI (numR b) (denR a)).1).2) (d:=(mulI (denR a) (denR b)).1) (f:=(mulI (denR a) (denR b)).2)
   (z:=zI (numR a)*zI (denR b) - zI (numR b)*zI (denR a)) (w:=zI (denR a)*zI (denR b)) (Int.mul_ne_zero a4 b4) (by rw [m1,m2,zuo (zk.2 ⟨e1,e2⟩),xN k1,xN k2]) (by rw [wU (zk.2 ⟨a2,b2⟩)])
  unfold qv;rw [Rat.divInt_sub_divInt _ _ a4 b4];exact this
theorem zu2:mulR a b=([],14)\/(mulR a b=(qstr (qv a*qv b),0)/\kP (qv a*qv b)):=by
 obtain⟨a1,a2,b1,b2,a4,b4,h2⟩:=QP ha hb;unfold mulR;rw [h2,aO (by simp)]
 have:=zct (n:=(mulI (numR a) (numR b)).1) (e:=(mulI (numR a) (numR b)).2) (d:=(mulI (denR a) (denR b)).1) (f:=(mulI (denR a) (denR b)).2)
  (z:=zI (numR a)*zI (numR b)) (w:=zI (denR a)*zI (denR b)) (Int.mul_ne_zero a4 b4) (by rw [wU (zk.2 ⟨a1,b1⟩)]) (by rw [wU (zk.2 ⟨a2,b2⟩)])
 unfold qv;rw [Rat.divInt_mul_divInt];exact this
theorem zti:cmpR a b=(0,14)\/cmpR a b=(if qv a<qv b then -1 else if qv b<qv a then 1 else 0,0):=by
 obtain⟨a1,a2,b1,b2,a4,b4,h2⟩:=QP ha hb;obtain⟨p1,p2,_,_⟩:=kH ha;obtain⟨r1,r2,_,_⟩:=kH hb;unfold cmpR;rcases Xt ha hb with h | ⟨h,m1,m2,k1,k2⟩
 ·left; rw [h]; rfl
 ·right;rw [h,aO (by simp)];rw [m1] at k1;rw [m2] at k2;have e1:=ui k1;have e2:=ui k2;rw [m1,m2];unfold QM;rw [aP (zk.2 ⟨e1,e2⟩)];congr 1
  have hx:∀ s:L8,errI s=0->negI s=true->numI s≠0:=λs he hn h0=>by
   rw [(yg he).2 h0] at hn; cases hn
  rw [ztd _ _ _ _ (hx _ e1) (hx _ e2)];show cmpI (zI (wz (zI (numR a)*zI (denR b))).1) (zI (wz (zI (numR b)*zI (denR a))).1)=_;rw [xN k1,xN k2,<- p1,<- p2,<- r1,<- r2];unfold cmpI;simp only [Rat.lt_iff]
end
theorem Xe{a b:L8}(ha:errR a=0)(hb:errR b=0)(h:(addR a b).2=0):errR (addR a b).1=0/\qv (addR a b).1=qv a+qv b:=by
 rcases zux ha hb with h1 | ⟨h1,h2⟩
 ·rw [h1] at h; cases h
 ·rw [h1]; exact⟨yL h2,Ji h2⟩
theorem zr0{a b:L8}(ha:errR a=0)(hb:errR b=0)(h:(subR a b).2=0):errR (subR a b).1=0/\qv (subR a b).1=qv a - qv b:=by
 rcases zt1 ha hb with h1 | ⟨h1,h2⟩
 ·rw [h1] at h; cases h
 ·rw [h1]; exact⟨yL h2,Ji h2⟩
theorem yT{a b:L8}(ha:errR a=0)(hb:errR b=0)(h:(mulR a b).2=0):errR (mulR a b).1=0/\qv (mulR a b).1=qv a*qv b:=by
 rcases zu2 ha hb with h1 | ⟨h1,h2⟩
 ·rw [h1] at h; cases h
 ·rw [h1]; exact⟨yL h2,Ji h2⟩
end Go.Nov
end
section
namespace Go.Nov
end Go.Nov
end
section
namespace Go.Nov
open Go.Sx
structure TOp where
 kind:Int
 a:Int
 b:Int
 rat:L8
def TOp.cell(o:TOp):Nat->AV
 | 0=>.int .u8 o.kind
 | 1=>.i o.a
 | 2=>.i o.b
 | 3=>.str o.rat
 | _=>.undef
end Go.Nov
end
section
namespace Go.Nov
open Go.Sx
structure Deal where
 long:L8
 short:L8
 ccy:L8
 name:L8
 Wt:L8
 YX:L8
namespace Tm
def kon(r:L8):Ex:=.mk 1 r [] 0 []
def spot(n:L8):Ex:=.mk 3 [] n 0 []
def fixg(n:L8)(d:Int):Ex:=.mk 2 [] n d []
def opx(k:Int)(s:List Ex):Ex:=.mk k [] [] 0 s
def over(k:L8)(x:Ex)(below:Bool):Ex:=opx 7 [kon [48],opx 5 (if below=true then [kon k,x] else [x,kon k])]
def pay(d:Deal)(x:Ex)(r:L8):Con:=.mk 2 d.short d.long d.ccy (opx 6 [x,kon r]) 0 [] []
def at_(day:Int)(c:Con):Con:=.mk 6 [] [] [] (.mk 0 [] [] 0 []) day [] [c]
def call(d:Deal)(ch:L8)(days:List Int)(c:Con):Con:=.mk 8 d.long [] ch (.mk 0 [] [] 0 []) 0 days [c]
def first(e:Int)(l:List L8):Int:=l.foldl (λe r=>if e=0 then errR r else e) e
def zero:Con:=.mk 0 [] [] [] (.mk 0 [] [] 0 []) 0 [] []
def fits(d:Deal):Prop:=d.long.length<=200/\d.short.length<=200/\d.ccy.length<=200/\d.name.length<=200/\d.Wt.length<=2500/\d.YX.length<=2500
def res(d:Deal)(c:Con):Int:=if first 0 [d.Wt,d.YX]=0 then c.errC else first 0 [d.Wt,d.YX]
def out(e:Int)(c:Con):Con:=if e=0 then c else zero
def opt(d:Deal)(ch:L8)(days:List Int)(put:Bool):Con:=call d ch days (pay d (over d.Wt (spot d.name) put) d.YX)
end Tm
end Go.Nov
end
section
namespace Go.Sx
open Go.Nov
variable [Stat]
theorem LeL.dAt:∀ {l m:List AV} (i:Nat),LeL l m->LeA (l.getD i .undef) (m.getD i .undef)
 | [],[],_,_=>LeA.refl _
 | [],_::_,_,h=>by simp [LeL] at h
 | _::_,[],_,h=>by simp [LeL] at h
 | a::l,b::m,0,h=>by simp only [LeL] at h; exact h.1
 | a::l,b::m,i+1,h=>by
  simp only [LeL] at h;have:=LeL.dAt i h.2;simpa [List.getD] using this
theorem RetR.km{ctr:Ctr}{m:Nat}{Q:AV×Heap->Prop}{rs:List AV}{h:Heap}{r:AV}{hs:Heap}(L:List Nat)(hnd:jW L=true)(hlt:(L.all λi=>decide (i<h.length))=true)(hj:∀ j,j<m->L[j]?=some j)(hf:ctr.fresh=false)(hq:Q (r,hs))
  (he:LeA (exp2 h L (resV rs)) r) (hb:eqH (expH h L) hs) (hl:hs.length=L.length):RetR ctr m Q rs h:=
 ⟨L,hnd,λi hi=>by have:=bG.1 hlt i hi; simpa using this,hj,(λhh=>absurd hh (by rw [hf]; decide)),r,hs,he,.inl hb,hl,hq⟩
theorem RetR.ze2{ctr:Ctr}{m:Nat}{Q:AV×Heap->Prop}{rs:List AV}{h:Heap}{r:AV}{hs:Heap}(L:List Nat)(hnd:jW L=true)(hlt:(L.all λi=>decide (i<h.length))=true)(hj:∀ j,j<m->L[j]?=some j)(hf:ctr.fresh=false)(hq:Q (r,hs))
  (he:LeA (exp2 h L (resV rs)) r) (hb:leHs (expH h L) hs):RetR ctr m Q rs h:=
 ⟨L,hnd,λi hi=>by have:=bG.1 hlt i hi; simpa using this,hj,(λhh=>absurd hh (by rw [hf]; decide)),r,hs,he,.inr hb,by rw [Yt hb]; simp [expH],hq⟩
end Go.Sx
namespace Go.Nov
open Go.Sx
variable [Go.Sx.Stat]
theorem Ex.uU{x y:Ex}{k d:Int}{r n:L8}{c:List AV}(h:LeL c (x.cellsD++y.cellsD)):LeA (.sl 2 5 (zg (zh 5 c) 0)) (.sl 2 5 (Ex.mk k r n d [x,y]).deep):=by
 refine LeA.sl rfl λj o hj ho=> ?_
 rw [Ex.qb (Ex.mk k r n d [x,y]) j o (by show j<2; omega) ho];have:=LeL.dAt (j*5+o) h;simp only [zg,zh,Nat.zero_add];rcases(show j=0\/j=1 by omega) with rfl | rfl<;>rcases(show o=0\/o=1\/o=2\/o=3\/o=4 by omega) with rfl | rfl | rfl | rfl | rfl<;>exact this
theorem Ex.wk(z:Ex):LeA (.sl z.sub.length 5 (Ex.exG z.sub)) (.sl z.sub.length 5 z.deep):=LeA.sl rfl λj o hj ho=>by rw [Ex.qb z j o hj ho]; exact LeA.refl _
theorem Con.wk(z:Con):LeA (.sl z.sub.length 12 (Con.conG z.sub)) (.sl z.sub.length 12 z.deep):=LeA.sl rfl λj o hj ho=>by rw [Con.qb z j o hj ho]; exact LeA.refl _
end Go.Nov
end
section
set_option maxRecDepth 100000
open Go Go.Sx Go.Proofs Go.Nov
namespace Go.Proofs.Tryz
attribute [local simp] eqKV eqA eqA0 eqH eqB eqL eqL0
end Go.Proofs.Tryz
end
section
namespace Go.Nov
theorem Xi:∀ s t:L8,Op.bytesLess s t=true\/s=t\/Op.bytesLess t s=true
 | [],[]=>.inr (.inl rfl)
 | [],_::_=>.inl rfl
 | _::_,[]=>.inr (.inr rfl)
 | a::s,b::t=>by
  simp only [Op.bytesLess,Bool.or_eq_true,bA,aK,beq_iff_eq];by_cases h:a=b
  ·subst h;rcases Xi s t with g | g | g
   ·exact .inl (.inr ⟨rfl,g⟩)
   ·exact .inr (.inl (by rw [g]))
   ·exact .inr (.inr (.inr ⟨rfl,g⟩))
  ·rcases UInt8.lt_or_lt_of_ne h with g | g
   ·exact .inl (.inl g)
   ·exact .inr (.inr (.inl g))
structure OrdT{α:Type}(c:α->α->Int):Prop extends OrdK c where
 irr:∀ a,c a a=0
 tot:∀ a b,c a b<0\/c a b=0\/c b a<0
 sym:∀ a b,c a b=0->c b a=0
 eqt:∀ a b d,c a b=0->c b d=0->c a d=0
 eq2:∀ a b d,c a b=0->c b d<0->c a d<0
theorem zum:OrdT cmpF where
 toOrdK:=W6
 irr a:=by rw [vQ]; exact⟨rfl,rfl⟩
 tot a b:=by
  rw [vR,vQ,vR];rcases Xi a.name b.name with h | h | h
  ·exact .inl (.inl h)
  ·rcases Int.lt_trichotomy a.date b.date with g | g | g
   ·exact .inl (.inr ⟨h,g⟩)
   ·exact .inr (.inl ⟨h,g⟩)
   ·exact .inr (.inr (.inr ⟨h.symm,g⟩))
  ·exact .inr (.inr (.inl h))
 sym a b h:=by rw [vQ] at h ⊢; exact⟨h.1.symm,h.2.symm⟩
 eqt a b d h g:=by rw [vQ] at h g ⊢; exact⟨h.1.trans g.1,h.2.trans g.2⟩
 eq2 a b d h g:=by rw [vQ] at h; rw [vR] at g ⊢; rw [h.1,h.2]; exact g
section
variable {α:Type} {c:α->α->Int} {z x y:α} (hk:OrdT c)
include hk
theorem zno:∀ {l:List α},l.Pairwise (λa b=>c a b<0)->ordB c z l=true:=λ{l} h=>by
 refine Zk λj hj=> ?_
 have:=List.pairwise_iff_getElem.1 h j (j+1) (by omega) hj (by omega);simpa [List.getD,aF (show j<l.length by omega),aF hj] using this
end
end Go.Nov
end
section
namespace Go.Nov
def negS(a:L8):L8:=if a=[48] then a else if a.getD 0 0=45 then a.drop 1 else [45]++a
theorem W8(z:Int):z=0/\(wz z).1=[48]\/z≠0/\room z.natAbs/\(wz z).1=sgn (decide (z<0)) (txt z.natAbs)\/¬ room z.natAbs:=by
 by_cases h0:z=0
 ·left; subst h0; exact⟨rfl,rfl⟩
 ·right;by_cases hr:room z.natAbs
  ·left;refine⟨h0,hr,?_⟩;unfold wz wr;have hr':(dec z.natAbs).length<=1000:=hr;rw [aO (by omega),aO (by omega)]
  ·exact .inr hr
theorem WN(b:L8):sgn true b=45::b:=rfl
theorem Qd(b:L8):sgn false b=b:=rfl
theorem zi6{r:Rat}(h:kP r):negS (qstr r)=qstr (-r):=by
 have hn:(-r).num = -r.num:=rfl;have hd:(-r).den=r.den:=rfl
 have tail:∀ t:L8,(r.den=1->t=[])->(r.den≠1->t=[47]++(wz (r.den:Int)).1)->qstr r=(wz r.num).1++t/\qstr (-r)=(wz (-r.num)).1++t:=by
  intro t h1 h2;unfold qstr;rw [hn,hd];by_cases hd1:r.den=1
  ·rw [aP hd1,aP hd1,h1 hd1]; simp
  ·rw [aO hd1,aO hd1,h2 hd1]; simp
 obtain⟨t,ht1,ht2⟩:∃ t:L8,(r.den=1->t=[])/\(r.den≠1->t=[47]++(wz (r.den:Int)).1):=by
  by_cases hd1:r.den=1
  ·exact⟨[],λ_=>rfl,λh=>absurd hd1 h⟩
  ·exact⟨_,λh=>absurd h hd1,λ_=>rfl⟩
 obtain⟨e1,e2⟩:=tail t ht1 ht2;rw [e1,e2];rcases W8 r.num with ⟨z0,zs⟩ | ⟨z0,zr,zs⟩ | zr
 ·have hr0:r=0:=Rat.num_eq_zero.1 z0;have ht:t=[]:=ht1 (by rw [hr0]; rfl);rw [z0,ht];rfl
 ·rcases W8 (-r.num) with ⟨z0',_⟩ | ⟨_,_,zs'⟩ | zr'
  ·omega
  ·rw [zs,zs',Int.natAbs_neg];have hx:r.num.natAbs≠0:=by omega
   obtain⟨f1,f2⟩:=yS hx;have fne:=Xd hx;by_cases hlt:r.num<0
   ·rw [aX hlt,aW (by omega),WN,Qd];unfold negS;rw [aO (by simp),aP (by simp)];rfl
   ·rw [aW hlt,aX (by omega),WN,Qd];generalize txt r.num.natAbs=b at *
    cases b with
    | nil=>exact absurd rfl fne
    | cons c b=>
     simp only [List.getD_cons_zero] at f1 f2;unfold negS;rw [aO (by simp [f1]),aO (by simpa using f2)];rfl
  ·rw [Int.natAbs_neg] at zr'; exact absurd zr zr'
 ·exact absurd h.1 zr
theorem zm3{r:Rat}(h:kP r):kP (-r):=by
 refine⟨?_,h.2⟩;show room (-r.num).natAbs;rw [Int.natAbs_neg]; exact h.1
theorem zq3{a:L8}(h:errR a=0):errR (negS a)=0/\qv (negS a) = -qv a/\numR (negS a)=(wz (-zI (numR a))).1/\denR (negS a)=denR a:=by
 obtain⟨h1,h2,h3,h4⟩:=kH h;have e:negS a=qstr (-qv a):=by rw [<- zi6 h4,h3]
 have hr:=zm3 h4;obtain⟨p1,p2,_⟩:=uy hr;rw [e];refine⟨yL hr,Ji hr,?_,?_⟩
 ·rw [p1];show(wz (-(qv a).num)).1=_;rw [h1]
 ·rw [p2];show(wz ((qv a).den:Int)).1=_;rw [h2,vw (qM h).2.1]
end Go.Nov
end
section
namespace Go.Nov
open Go.Sx
structure Ca where
 name:L8
 into:L8
 date:Int
 ratio:L8
 extra:L8
def Ca.av(a:Ca):AV:=.agg [.str a.name,.str a.into,.i a.date,.str a.ratio,.str a.extra]
theorem Zg{a:L8}(h:errR a=0):(a.getD 0 0=45↔qv a<0)/\(a=[48]↔qv a=0)/\a≠[]:=by
 obtain⟨p1,p2,p3,p4⟩:=kH h;generalize qv a=r at p1 p2 p3 p4
 have ht:∃ t:L8,a=(wz r.num).1++t/\(r.den=1->t=[]):=by
  rw [<- p3];unfold qstr;by_cases hd1:r.den=1
  ·rw [aP hd1]; exact⟨[],by simp,λ_=>rfl⟩
  ·rw [aO hd1]; exact⟨[47]++(wz r.den).1,by simp,λh=>absurd h hd1⟩
 obtain⟨t,e,ht⟩:=ht
 have hneg:r<0↔r.num<0:=by
  rw [Rat.lt_iff];simp
 rcases W8 r.num with ⟨z0,zs⟩ | ⟨z0,zr,zs⟩ | zr
 ·have hr0:r=0:=Rat.num_eq_zero.1 z0;have ht:=ht (by rw [hr0]; rfl);rw [zs,ht] at e;subst e;rw [hneg,z0];exact⟨⟨λh=>absurd h (by decide),λh=>absurd h (by decide)⟩,⟨λ_=>hr0,λ_=>rfl⟩,by simp⟩
 ·have hr0:r≠0:=λh=>z0 (by rw [h]; rfl)
  have hx:r.num.natAbs≠0:=by omega
  obtain⟨f1,f2⟩:=yS hx;have fne:=Xd hx;rw [zs] at e;rw [hneg];by_cases hlt:r.num<0
  ·rw [aX hlt,WN] at e;subst e;exact⟨⟨λ_=>hlt,λ_=>rfl⟩,⟨λh=>by simp at h,λh=>absurd h hr0⟩,by simp⟩
  ·rw [aW hlt,Qd] at e;generalize txt r.num.natAbs=b at *
   cases b with
   | nil=>exact absurd rfl fne
   | cons c b=>
    simp only [List.getD_cons_zero] at f1 f2;subst e;exact⟨⟨λh=>absurd h f2,λh=>absurd h hlt⟩,⟨λh=>by simp [f1] at h,λh=>absurd h hr0⟩,by simp⟩
 ·exact absurd p4.1 zr
theorem zqo{a:L8}(h:errR a=0):0<qv a↔a≠[48]/\a.getD 0 0≠45:=by
 obtain⟨h1,h2,h3⟩:=Zg h;rw [ne_eq,ne_eq,h1,h2];generalize qv a=r;have:=Rat.lt_iff (a:=r) (b:=0);constructor
 ·intro h; exact⟨by grind,by grind⟩
 ·rintro⟨h4,h5⟩; grind
theorem Jj:errR [48]=0:=by decide +kernel
theorem zs5:qv [48]=0:=by decide +kernel
theorem zoa{a:L8} : (errR a≠0->(cmpR a [48]).2≠0)/\(errR a=0->(cmpR a [48]).2=0/\(cmpR a [48]).1=if qv a<0 then -1 else if 0<qv a then 1 else 0):=by
 constructor
 ·intro h;have h2:jP a [48]=errR a:=by unfold jP; rw [aO h]
  have hc:zS a [48]=errR a:=by unfold zS; rw [h2,aP h]
  unfold cmpR;rw [hc,aP h];exact h
 ·intro h;have hn:(cmpR a [48]).2≠14->_:=λg=>(zti h Jj).resolve_left (λk=>g (by rw [k]))
  have key:(cmpR a [48]).2≠14:=by
   obtain⟨a1,a2,b1,b2,a4,b4,h2⟩:=QP h Jj
   have hx:mulI (numR a) (denR [48])=(numR a,0):=by
    rw [show denR [48]=[49] from by decide +kernel,wU (zk.2 ⟨a1,YL⟩),show zI [49]=1 from by decide +kernel,Int.mul_one];exact vw a1
   have hy:mulI (numR [48]) (denR a)=([48],0):=by
    rw [wU (zk.2 ⟨b1,a2⟩),show zI (numR [48])=0 from by decide +kernel,Int.zero_mul];decide +kernel
   have hc:zS a [48]=0:=by
    unfold zS;rw [h2,aO (by simp),hx,hy];simp
   unfold cmpR;rw [hc,aO (by simp),hx,hy];unfold QM;rw [aP (zk.2 ⟨a1,by decide +kernel⟩)];simp
  have:=hn key;rw [this,zs5];exact⟨rfl,rfl⟩
theorem zm6(z w:L8×Int):(frac z w).1.length<=2003:=by
 unfold frac;split
 ·simp
 ·unfold wx;split
  ·simp
  ·split
   ·simp
   ·exact zhf _ _ _
theorem zmu(a b:L8):(mulR a b).1.length<=2003:=by
 unfold mulR;split
 ·simp
 ·exact zm6 _ _
namespace Ca
def ok(a:Ca):Bool:=qe a.name&&(qe a.into&&(dayB a.date&&(decide (errR a.ratio=0)&&(decide (0<qv a.ratio)&&decide (errR a.extra=0)))))
def old(a:Ca)(x:L8):L8×Int:=if(mulR a.ratio x).2≠0 then([],(mulR a.ratio x).2) else addR (mulR a.ratio x).1 a.extra
def hit(a:Ca)(f:Fx):Bool:=decide (f.name=a.into)&&decide (a.date<=f.date)
def keep(a:Ca)(f:Fx):Bool:= !decide (f.name=a.name)||decide (f.date<a.date)
def mk'(a:Ca)(f:Fx):Fx:=⟨a.name,f.date,(a.old f.value).1⟩
def fresh(a:Ca)(l:List Fx):List Fx:=(l.filter a.hit).map a.mk'
def kept(a:Ca)(l:List Fx):List Fx:=l.filter a.keep
def bad(a:Ca)(f:Fx):Bool:=a.hit f&&decide ((a.old f.value).2≠0)
def err(a:Ca)(l:List Fx):Int:=match l.find? a.bad with
 | some f=>(a.old f.value).2
 | none=>0
def at_(a:Ca)(l:List Fx):Nat:=l.findIdx λf=>Op.bytesLess a.name f.name
def join(a:Ca)(l m:List Fx):List Fx:=l.take (a.at_ l)++m++l.drop (a.at_ l)
def before(a:Ca)(f:List Fx)(c:List Ch):(List Fx×List Ch)×Int:=
 if a.ok=false then(([],[]),8) else if errE f c≠0 then(([],[]),errE f c) else if a.err f≠0 then(([],[]),a.err f)
 else if 1000<(a.kept f).length+(a.fresh f).length then(([],[]),22) else((a.join (a.kept f) (a.fresh f),c),0)
theorem zil{a:Ca}{l:List Fx}{i:Nat}(hi:i<l.length)(h:a.err (l.take i)=0):a.err (l.take (i+1))=if a.bad (l.getD i Fx.nil)=true then(a.old (l.getD i Fx.nil).value).2 else 0:=by
 have hn:(l.take i).find? a.bad=none:=by
  unfold err at h;split at h
  ·rename_i f hf;have:=List.find?_some hf;simp only [bad,bA,aK] at this;exact absurd h this.2
  ·assumption
 have e:l.take (i+1)=l.take i++[l.getD i Fx.nil]:=by
  rw [List.take_add_one];simp [List.getD,hi]
 unfold err;rw [e,List.find?_append,hn];simp only [Option.none_or,List.find?_cons];cases a.bad (l.getD i Fx.nil)<;>rfl
theorem zln{a:Ca}{l:List Fx}{i:Nat}(hi:i<l.length)(h:a.err (l.take i)=0)(hb:a.bad (l.getD i Fx.nil)=true):a.err l=(a.old (l.getD i Fx.nil).value).2:=by
 have hn:(l.take i).find? a.bad=none:=by
  unfold err at h;split at h
  ·rename_i f hf;have:=List.find?_some hf;simp only [bad,bA,aK] at this;exact absurd h this.2
  ·assumption
 have e:l=l.take i++(l.getD i Fx.nil::l.drop (i+1)):=by
  conv=>lhs; rw [<- bU i l,List.drop_eq_getElem_cons hi]
  simp [List.getD,hi]
 unfold err;rw [e,List.find?_append,<- e,hn];simp only [Option.none_or,List.find?_cons,hb]
theorem KB{α:Type}{l:List α}{p:α->Bool}{z:α}{i:Nat}(h:i<l.length):(l.take (i+1)).filter p=if p (l.getD i z)=true then(l.take i).filter p++[l.getD i z] else(l.take i).filter p:=by
 have e:l.take (i+1)=l.take i++[l.getD i z]:=by
  rw [List.take_add_one];simp [List.getD,h]
 rw [e,List.filter_append];split<;>rename_i hp
 ·rw [List.filter_cons_of_pos hp]; rfl
 ·rw [List.filter_cons_of_neg hp]; simp
theorem U6{α:Type}(l:List α)(p:α->Bool)(i:Nat):((l.take i).filter p).length<=l.length:=by
 have:=List.length_filter_le p (l.take i);rw [aH] at this; omega
theorem zgp{a:Ca}{l:List Fx}{i:Nat}(h:i<l.length):a.kept (l.take (i+1))=if a.keep (l.getD i Fx.nil)=true then a.kept (l.take i)++[l.getD i Fx.nil] else a.kept (l.take i):=KB h
theorem zb7{a:Ca}{l:List Fx}{i:Nat}(h:i<l.length):a.fresh (l.take (i+1))=if a.hit (l.getD i Fx.nil)=true then a.fresh (l.take i)++[⟨a.name,(l.getD i Fx.nil).date,(a.old (l.getD i Fx.nil).value).1⟩] else a.fresh (l.take i):=by
 unfold fresh;rw [KB (z:=Fx.nil) h];split<;>simp [mk']
theorem zjd{a:Ca}(l:List Fx)(i:Nat):(a.kept (l.take i)).length<=l.length:=U6 l _ i
theorem zg8{a:Ca}(l:List Fx)(i:Nat):(a.fresh (l.take i)).length<=l.length:=by
 unfold fresh; rw [List.length_map]; exact U6 l _ i
theorem zau{a:Ca}(h:a.ok=true){x:L8}(hx:errR x=0)(h0:(a.old x).2=0):errR (a.old x).1=0/\qv (a.old x).1=qv a.ratio*qv x+qv a.extra:=by
 unfold ok at h;simp only [bA,aK] at h;obtain⟨_,_,_,h1,_,h2⟩:=h;unfold old at h0 ⊢;split at h0
 ·rename_i g; exact absurd h0 g
 ·rename_i g;rw [aO g];have g:(mulR a.ratio x).2=0:=Classical.not_not.1 g;obtain⟨k1,k2⟩:=yT h1 hx g;obtain⟨k3,k4⟩:=Xe k1 h2 h0;exact⟨k3,by rw [k4,k2]⟩
theorem Ym{a:Ca}{l:List Fx}(h:a.err l=0):∀ f∈l,a.hit f=true->(a.old f.value).2=0:=by
 intro f hf hh;unfold err at h;split at h
 ·rename_i g hg;have:=List.find?_some hg;simp only [bad,bA,aK] at this;exact absurd h this.2
 ·rename_i hn;rw [List.find?_eq_none] at hn;have:=hn f hf;simpa [bad,hh] using this
theorem YC{a:Ca}{f:List Fx}{c:List Ch}(h:a.ok=true)(he:errE f c=0)(h0:a.err f=0):(∀ x∈a.fresh f,okF x=true/\x.name=a.name/\a.date<=x.date)/\(a.fresh f).Pairwise (λx y=>cmpF x y<0):=by
 obtain⟨h1,h2,h3,h4,h5⟩:=jG.1 he;rw [bG] at h2;have hp:=ZF W6 h4;constructor
 ·intro x hx;unfold fresh at hx;obtain⟨y,hy,rfl⟩:=List.mem_map.1 hx;obtain⟨hy1,hy2⟩:=List.mem_filter.1 hy;have hok:=h2 y hy1;unfold okF at hok ⊢;simp only [bA,aK] at hok ⊢;have hh:=hy2;unfold hit at hh;simp only [bA,aK] at hh;refine⟨⟨⟨?_,hok.1.2⟩,(zau h hok.2 (Ym h0 y hy1 hy2)).1⟩,rfl,hh.2⟩;unfold ok at h;simp only [bA,aK] at h;exact h.1
 ·unfold fresh;rw [List.pairwise_map];have hq:((f.filter a.hit).Pairwise λa b=>cmpF a b<0):=hp.filter _;refine List.Pairwise.imp_of_mem ?_ hq;intro x y hx hy hlt;have hx:=(List.mem_filter.1 hx).2;have hy:=(List.mem_filter.1 hy).2;unfold hit at hx hy;simp only [bA,aK] at hx hy;rw [vR] at hlt ⊢;rw [hx.1,hy.1,ye] at hlt;rcases hlt with hlt | hlt
  ·cases hlt
  ·exact .inr ⟨rfl,hlt.2⟩
theorem KO{a:Ca}{f:List Fx}{c:List Ch}(he:errE f c=0):(∀ x∈a.kept f,okF x=true/\(x.name≠a.name\/x.date<a.date))/\(a.kept f).Pairwise (λx y=>cmpF x y<0):=by
 obtain⟨h1,h2,h3,h4,h5⟩:=jG.1 he;rw [bG] at h2;refine⟨λx hx=> ?_,(ZF W6 h4).filter _⟩;obtain⟨hy1,hy2⟩:=List.mem_filter.1 hx;refine⟨h2 x hy1,?_⟩;unfold keep at hy2;simpa using hy2
theorem YE{a:Ca}{l:List Fx} : a.at_ l<=l.length:=List.findIdx_le_length
theorem zl2{a:Ca}{l:List Fx}(hp:l.Pairwise λx y=>cmpF x y<0):(∀ w∈l.take (a.at_ l),Op.bytesLess a.name w.name=false)/\(∀ w∈l.drop (a.at_ l),Op.bytesLess a.name w.name=true):=by
 constructor
 ·intro w hw;obtain⟨j,hj,rfl⟩:=List.getElem_of_mem hw;rw [aH] at hj;have:(l.take (a.at_ l))[j]'(by rw [aH]; exact hj)=l[j]'(by omega):=by simp
  rw [this];have:=List.not_of_lt_findIdx (p:=λf:Fx=>Op.bytesLess a.name f.name) (xs:=l) (i:=j) (by unfold at_ at hj; omega);simpa using this
 ·intro w hw;obtain⟨j,hj,rfl⟩:=List.getElem_of_mem hw;rw [bV] at hj;rw [List.getElem_drop];have h0:a.at_ l<l.length:=by omega
  have h1:Op.bytesLess a.name (l[a.at_ l]).name=true:=List.findIdx_getElem (p:=λf:Fx=>Op.bytesLess a.name f.name) (w:=h0);rcases bC j with rfl | hpos
  ·exact h1
  ·have:=List.pairwise_iff_getElem.1 hp (a.at_ l) (a.at_ l+j) (by omega) (by omega) (by omega);rw [vR] at this;rcases this with h2 | ⟨h2,_⟩
   ·exact yf h1 h2
   ·rw [<- h2]; exact h1
end Ca
end Go.Nov
end
section
namespace Go.Nov
open Go.Sx
namespace Ca
def rel(a:Ca)(y:Ex):Ex:=
 if a.extra=[48] then(if a.ratio=[49] then y else Tm.opx 6 [Tm.kon a.ratio,y])
 else Tm.opx 4 [if a.ratio=[49] then y else Tm.opx 6 [Tm.kon a.ratio,y],Tm.kon a.extra]
def onX(a:Ca)(k:Int)(n:L8)(d:Int):Bool:=decide (n=a.name)&&(decide (k=3)||decide (k=2)&&decide (a.date<=d))
mutual
def chg(a:Ca):Ex->Ex
 | .mk k r n d s=>if a.onX k n d=true then a.rel (.mk k [] a.into d []) else .mk k r n d (chgs a s)
def chgs(a:Ca):List Ex->List Ex
 | []=>[]
 | x::l=>chg a x::chgs a l
end
mutual
def adj(a:Ca):Ex->Ex
 | .mk k r n d s=>if a.onX k n d=true then a.rel (.mk k r a.into d s) else .mk k r n d (adjs a s)
def adjs(a:Ca):List Ex->List Ex
 | []=>[]
 | x::l=>adj a x::adjs a l
end
theorem UW(a:Ca):∀ l,chgs a l=l.map (chg a)
 | []=>by rw [chgs]; rfl
 | x::l=>by rw [chgs,UW a l]; rfl
theorem US(a:Ca):∀ l,adjs a l=l.map (adj a)
 | []=>by rw [adjs]; rfl
 | x::l=>by rw [adjs,US a l]; rfl
theorem zsq(a:Ca)(x:Ex):adj a x=if a.onX x.kind x.name x.date=true then a.rel (.mk x.kind x.rat a.into x.date x.sub) else .mk x.kind x.rat x.name x.date (x.sub.map (adj a)):=by
 cases x; rw [adj,US]; rfl
mutual
def whole(f:Ex->Ex):Con->Con
 | .mk k a b n x d l s=>.mk k a b n (f x) d l (qx f s)
def qx(f:Ex->Ex):List Con->List Con
 | []=>[]
 | c::l=>whole f c::qx f l
end
theorem JQ(f:Ex->Ex):∀ l,qx f l=l.map (whole f)
 | []=>by rw [qx]; rfl
 | x::l=>by rw [qx,JQ f l]; rfl
theorem Zy(f:Ex->Ex)(c:Con):whole f c = .mk c.kind c.src c.dst c.name (f c.x) c.date c.days (c.sub.map (whole f)):=by
 cases c; rw [whole,JQ]; rfl
end Ca
end Go.Nov
end
section
set_option maxRecDepth 100000
open Go Go.Sx Go.Proofs Go.Nov
namespace Go.Proofs.Tryz
attribute [local simp] eqKV eqA eqA0 eqH eqB eqL eqL0
theorem kS(e:Ex):eqA (exD e) e.exA:=by
 simp only [exD,Ex.exA,Ex.exS,eqA];exact⟨⟨rfl,rfl⟩,rfl,rfl,⟨rfl,rfl⟩,⟨rfl,rfl,Ex.qb e⟩,trivial⟩
theorem zhj{f:Ex->Ex}{s:List Ex}{i:Nat}(h:i<s.length):eqG (i+1) 5 (appG i (Ex.exG (s.map f)) (zg (zh 5 (f (s.getD i Ex.nil)).cellsD) 0)) (Ex.exG (s.map f)):=by
 have e:f (s.getD i Ex.nil)=(s.map f).getD i Ex.nil:=by simp [List.getD,h]
 rw [e];exact zlz
theorem zao{f:Con->Con}{s:List Con}{i:Nat}(h:i<s.length):eqG (i+1) 12 (appG i (Con.conG (s.map f)) (zg (zh 12 (f (s.getD i Con.nil)).vM) 0)) (Con.conG (s.map f)):=by
 have e:f (s.getD i Con.nil)=(s.map f).getD i Con.nil:=by simp [List.getD,h]
 rw [e];exact zgk
noncomputable def K97:=Go.Sx.aA f97
def HAd(a:Ca):Heap:=[.box [.str a.name,.str a.into,.i a.date,.str a.ratio,.str a.extra],.box [.fn 52 [] [.ptr 0 0,.ptr 1 0]]]
def adjC(n:Nat):Ctr:=ctrT false false (λp:Ca×Ex=>[p.2.exA,.ptr 0 0,.ptr 1 0]) (λp=>HAd p.1) (λp=>p.2.size<n/\p.2.size<2^40) (λ_ (_:Unit)=>True) (λp _=>(exD (p.1.adj p.2),HAd p.1))
def zv7(n:Nat):Ctr:=ctrT false false (λp:Ca×List Ex=>[Ex.exS p.2,.fn 52 [] [.ptr 0 0,.ptr 1 0]]) (λp=>HAd p.1) (λp=>Ex.zp p.2<n/\Ex.zp p.2<2^40) (λ_ (_:Unit)=>True) (λp _=>(Ex.exS (p.2.map (Ca.adj p.1)),HAd p.1))
def SMp(s:List Ex)(i:Nat):KV:=[(1,.fn 52 [] [.ptr 0 0,.ptr 1 0]),(5,.osl 2 5 0 i),(8,Ex.exS s),(9,.i (s.length:Int)),(10,.i (i:Int))]
def HMp(f:Ex->Ex)(a:Ca)(s:List Ex)(i:Nat):Heap:=[.box [.str a.name,.str a.into,.i a.date,.str a.ratio,.str a.extra],.box [.fn 52 [] [.ptr 0 0,.ptr 1 0]],.arr i 5 (Ex.exG (s.map f))]
theorem zr1(n:Nat)(ih:zc prog 52 (adjC n)):zc prog 97 (zv7 n):=by
 refine zH (fn:=f97) (c:=f97.body.getD .skip) rfl rfl rfl (λh=>by cases h) λp hp O w0 I0 Q hl0 hq=> ?_
 obtain⟨a,s⟩:=p;obtain⟨h1,h2⟩:=hp;simp only at h1 h2;replace hq:=hq () trivial;have hlen:=Ex.qh s;refine zb.n (jl ih) [1,5,8,9,10] (.leaf (.loop (lps K97 0).1 (lps K97 0).2 [(1,.fn 52 [] [.ptr 0 0,.ptr 1 0]),(5,.nils),(8,.sl s.length 5 (Ex.exG s)),(9,.i s.length),(10,.i 0)] [.box [.str a.name,.str a.into,.i a.date,.str a.ratio,.str a.extra],.box [.fn 52 [] [.ptr 0 0,.ptr 1 0]]])) ?_;simp only [Tree.holds,ze,inR,lo,hi,aD];show qS none prog f97 O 2 w0 I0 _ _ _ _;refine zb.bear 5 5 (Ex.exG (s.map (Ca.adj a))) rfl (by decide) (by kernel_rfl) ?_;refine zb.loop (ι:={i:Nat // i<=s.length}) (λi=>SMp s i.1) (λi=>HMp (Ca.adj a) a s i.1) (λi=>s.length - i.1) ⟨0,aI _⟩ 0 ?_ ?_ (by kernel_rfl)
 ·exact⟨by simp [SMp,yy,Ex.exS,za],by simp [HMp,HAd,za],by kernel_rfl,by show 2<=3; decide⟩
 ·rintro⟨i,hil⟩;refine zb.n (jl ih) [1,5,8,9,10] (let v4:=Ex.exG (List.map (Ca.adj a) s);let v3:=s.getD (i:Int).toNat Ex.nil;let v1:=[AV.fn 52 [] [.ptr 0 0,.ptr 1 0]];.D ((i:Int)<s.length) (.side ((0:Int)<=i/\(i:Int)<s.length) (.ex (λ(x:Ca×Ex)=>eqL [(exD v3),.ptr 0 0,.ptr 1 0] [x.2.exA,.ptr 0 0,.ptr 1 0]/\eqH [.box [.str a.name,.str a.into,.i a.date,.str a.ratio,.str a.extra],.box v1] [.box [.str x.1.name,.str x.1.into,.i x.1.date,.str x.1.ratio,.str x.1.extra],.box v1]/\2=2/\Ex.size x.2<n/\Ex.size x.2<1099511627776) λn=>let v2:=zh 5 (Ex.cellsD (Ca.adj n.1 n.2));.A λn_1=>.side (0=0/\i<=i/\(i+1)*72<=140737488355328) (.S (i+1) (.leaf (.back 0 [(1,.fn 52 [] [.ptr 0 0,.ptr 1 0]),(5,.osl 2 5 0 (i+1)),(8,.sl s.length 5 (Ex.exG s)),(9,.i s.length),(10,.i (i+1))] [.box [.str n.1.name,.str n.1.into,.i n.1.date,.str n.1.ratio,.str n.1.extra],.box [.fn 52 [] [.ptr 0 0,.ptr 1 0]],.arr (i+1) 5 (appG i v4 (zg v2 0)),.box (Ex.cellsD v3),.arr 1 5 v2]))))) (.R [.osl 2 5 0 i] [.box [.str a.name,.str a.into,.i a.date,.str a.ratio,.str a.extra],.box [.fn 52 [] [.ptr 0 0,.ptr 1 0]],.arr i 5 v4])) ?_;simp only [Tree.holds,ze,inR,lo,hi,aD];refine⟨λhlt=> ?_,λhge=> ?_⟩
  ·have hlt:i<s.length:=by have:=aB hlt; omega
   have hg:=Ex.zM hlt;have ha:eqH [.box [.str a.name,.str a.into,.i a.date,.str a.ratio,.str a.extra],.box [.fn 52 [] [.ptr 0 0,.ptr 1 0]]] [.box [.str a.name,.str a.into,.i a.date,.str a.ratio,.str a.extra],.box [.fn 52 [] [.ptr 0 0,.ptr 1 0]]]:=by simp
   refine⟨by omega,λ_=>⟨(a,s.getD i Ex.nil),⟨⟨kS _,⟨rfl,rfl⟩,⟨rfl,rfl⟩,trivial⟩,ha,trivial,by show Ex.size (s.getD i Ex.nil)<n; omega,by show Ex.size (s.getD i Ex.nil)<_; omega⟩,⟨(),trivial⟩,?_⟩⟩;intro _ _;refine⟨⟨trivial,aJ _,by omega⟩,λ_=>⟨by omega,λ_=> ?_⟩⟩;rw [aP trivial];refine⟨⟨i+1,hlt⟩,by show s.length - (i+1)<s.length - i; omega,by simp [SMp,Ex.exS,za],?_,by kernel_rfl,by show 2<=3; decide⟩;refine⟨⟨rfl,rfl,⟨rfl,rfl⟩,rfl,rfl,trivial⟩,by simp,⟨rfl,rfl,zhj hlt⟩,trivial⟩
  ·have hge:i=(s.map (Ca.adj a)).length:=by have:=aC hge; simp; omega
   subst hge;exact RetR.km [0,1] rfl rfl (by show ∀ j,j<2->_; decide) rfl hq (LeA.sl rfl λj o hj ho=>by simp only [zg,Nat.zero_add]; exact LeA.refl _) (by simp [expH,expB,exp1,exp0,ren0,HAd,HMp,zy]) rfl
def zsp:Ctr:=ctrP false (λr:L8=>[.str r]) (λ_=>True) (λ_ (_:Unit)=>True) (λr _=>(exD (Tm.kon r),[]))
theorem zqf:zc prog 53 zsp:=by
 refine zf' f53 λr hp O w0 Q hq=> ?_
 replace hq:=hq () trivial;refine zb.n zD [] (.R [.agg [.int .u8 1,.str r,.str #[].toList,.i 0,.nils]] [.box [.int .u8 1,.str r,.str #[].toList,.i 0,.nils]]) ?_;simp only [Tree.holds,ze];refine RetR.out0 hq (λh=>by cases h) ?_;exact⟨⟨rfl,rfl⟩,rfl,rfl,⟨rfl,rfl⟩,rfl,trivial⟩
def zl8(n:Nat):Ctr:=ctrT false false (λp:Ca×Ex=>[p.2.exA,.fn 52 [] [.ptr 0 0,.ptr 1 0]]) (λp=>HAd p.1) (λp=>Ex.zp p.2.sub<n/\Ex.zp p.2.sub<2^40) (λ_ (_:Unit)=>True) (λp _=>(exD (.mk p.2.kind p.2.rat p.2.name p.2.date (p.2.sub.map (Ca.adj p.1))),HAd p.1))
theorem zro(n:Nat)(ih:zc prog 52 (adjC n)):zc prog 54 (zl8 n):=by
 refine zH (fn:=f54) (c:=f54.body.getD .skip) rfl rfl rfl (λh=>by cases h) λp hp O w0 I0 Q hl0 hq=> ?_
 obtain⟨a,x⟩:=p;replace hq:=hq () trivial;refine zb.run hmix (jl (zr1 n ih)) [] 400 (T:=let v2:=[AV.ptr 0 0,AV.ptr 1 0];.ex (λ(x_1:Ca×List Ex)=>eqL [.sl x.sub.length 5 (Ex.exG x.sub),.fn 52 [] v2] [.sl x_1.2.length 5 (Ex.exG x_1.2),.fn 52 [] v2]/\eqH [.box [.str a.name,.str a.into,.i a.date,.str a.ratio,.str a.extra],.box [.fn 52 [] v2]] [.box [.str x_1.1.name,.str x_1.1.into,.i x_1.1.date,.str x_1.1.ratio,.str x_1.1.extra],.box [.fn 52 [] v2]]/\2=2/\Ex.zp x_1.2<n/\Ex.zp x_1.2<1099511627776) λn=>let v1:List AV:=[.int .u8 x.kind,.str x.rat,.str x.name,.i x.date,.sl (List.length (List.map (Ca.adj n.1) n.2)) 5 (Ex.exG (List.map (Ca.adj n.1) n.2))];.A λn_1=>.R [.agg v1] [.box [.str n.1.name,.str n.1.into,.i n.1.date,.str n.1.ratio,.str n.1.extra],.box [.fn 52 [] [.ptr 0 0,.ptr 1 0]],.box v1,.box v1]) (by kernel_rfl) ?_;simp only [Tree.holds,ze];refine⟨(a,x.sub),⟨⟨⟨rfl,rfl,za _ _ _⟩,by simp,trivial⟩,by simp,trivial,hp.1,hp.2⟩,⟨(),trivial⟩,λ_ _=> ?_⟩;exact RetR.km [0,1] rfl rfl (by show ∀ j,j<2->_; decide) rfl hq (LeA.agg ⟨LeA.refl _,LeA.refl _,LeA.refl _,LeA.refl _,Ex.wk (.mk x.kind x.rat x.name x.date (x.sub.map (Ca.adj a))),trivial⟩) (by simp [expH,expB,exp1,exp0,ren0,HAd,zy]) rfl
end Go.Proofs.Tryz
end
