/- Part 5 of the proof. -/
import Derived.Test.YtfiocgnojggdjaaGreatDoorSxd
set_option linter.unusedVariables false
set_option linter.unusedSimpArgs false
set_option linter.unusedSectionVars false
section
set_option maxRecDepth 100000
open Go Go.Sx Go.Proofs Go.Nov
namespace Go.Proofs.Tryz
attribute [local simp] eqKV eqA eqA0 eqH eqB eqL eqL0
noncomputable def K102:=Go.Sx.aA f102
def Zr:Ctr:=ctrP true (λd:Int=>[.i d]) (λ_=>True) (λd r=>r=dayB d) (λ_ (r:Bool)=>(.bool r,[]))
theorem ux:zc prog 63 Zr:=by
 refine zh' f63 λd hs O w0 Q hq=> ?_
 replace hq:=hq _ rfl;refine zb.n zA [] (.R [.bool (bif decide ((0:Int)<=d) then decide (d<=99999) else false)] []) ?_;simp only [Tree.holds,ze];refine RetR.scal hq rfl ?_;simp only [resV,dayB];cases decide (0<=d)<;>rfl
theorem zga(c:UInt8):(bif bif decide (97<=(c.toNat:Int)) then decide ((c.toNat:Int)<=122) else false then true else bif decide (65<=(c.toNat:Int)) then decide ((c.toNat:Int)<=90) else false)=isL c:=by
 have e1:decide (97<=(c.toNat:Int))=decide (97<=c.toNat):=decide_eq_decide.2 (by omega);have e2:decide ((c.toNat:Int)<=122)=decide (c.toNat<=122):=decide_eq_decide.2 (by omega);have e3:decide (65<=(c.toNat:Int))=decide (65<=c.toNat):=decide_eq_decide.2 (by omega);have e4:decide ((c.toNat:Int)<=90)=decide (c.toNat<=90):=decide_eq_decide.2 (by omega);rw [e1,e2,e3,e4];simp only [isL];cases decide (97<=c.toNat)<;>cases decide (c.toNat<=122)<;>cases decide (65<=c.toNat)<;>rfl
def Y8:Ctr:=ctrP true (λc:UInt8=>[.int .u8 (c.toNat:Int)]) (λ_=>True) (λc r=>r=isL c) (λ_ (r:Bool)=>(.bool r,[]))
theorem U1:zc prog 136 Y8:=by
 refine zh' f136 λc hs O w0 Q hq=> ?_
 replace hq:=hq _ rfl;refine zb.n zA [] (.R [.bool (bif bif decide ((97:Int)<=(↑(UInt8.toNat c):Int)) then decide ((↑(UInt8.toNat c):Int)<=122) else false then true else bif decide ((65:Int)<=(↑(UInt8.toNat c):Int)) then decide ((↑(UInt8.toNat c):Int)<=90) else false)] []) ?_;simp only [Tree.holds,ze];refine RetR.scal hq rfl ?_;simp only [resV];rw [zga]
theorem Jy(c d:UInt8):decide ((c.toNat:Int)=(d.toNat:Int))=(c == d):=by
 by_cases h:c=d
 ·subst h; simp
 ·rw [aW λh2=>h (Km h2)];simp [h]
theorem zh1(c:UInt8):(bif decide ((c.toNat:Int)<48) then true else decide (57<(c.toNat:Int))) = !isD c:=by
 rw [Bool.cond_eq_ite]; exact Qz c
theorem zeo(c:UInt8):(bif bif bif !isL c then bif decide ((c.toNat:Int)<48) then true else decide (57<(c.toNat:Int)) else false then !decide ((c.toNat:Int)=95) else false then !decide ((c.toNat:Int)=45) else false) = !isN c:=by
 rw [zh1];have e1:decide ((c.toNat:Int)=95)=(c == 95):=Jy c 95;have e2:decide ((c.toNat:Int)=45)=(c == 45):=Jy c 45;rw [e1,e2]; simp only [isN];cases isL c<;>cases isD c<;>cases (c == 95)<;>cases (c == 45)<;>rfl
def YJ:Ctr:=ctrP true (λs:L8=>[.str s]) (λs=>s.length<2^62) (λs r=>r=jb s) (λ_ (r:Bool)=>(.bool r,[]))
noncomputable def GN1:=tb U1 tz
def SNa(s:L8)(i:Nat):KV:=[(0,.str s),(20,.i (s.length:Int)),(21,.i (i:Int)),Z 31,Z 32,Z 33,Z 34,Z 35,Z 36,Z 39,Z 40,Z 43,Z 44]
theorem UE{O:Nat->Prop}{w0:World}{Q:AV×Heap->Prop}{Hs:Nat->KV->Heap->Prop}(s:L8)(hs:s.length<2^62)(hq:Q (.bool (s.all isN),[])) :
  zb prog f102 O 0 w0 [] Hs (RetR YJ 0 Q) (.code (.loop (lps K102 0).1)::(lps K102 0).2) (mk f102.ntmps (SNa s 0) []):=by
 refine zb.loop (ι:={i:Nat // i<=s.length/\∀ j,j<i->isN (s.getD j 0)=true}) (λi=>SNa s i.1) (λ_=>[]) (λi=>s.length - i.1) ⟨0,aI _,λj hj=>by omega⟩ 0 ?_ ?_ (by kernel_rfl)
 ·exact⟨by simp [SNa],by simp,by kernel_rfl,aI _⟩
 ·rintro⟨i,hil,hib⟩;refine zb.n GN1.h [0,20,21,31,32,33,34,35,36,39,40,43,44] (let v1:=s.getD (i:Int).toNat (0:UInt8);.D ((i:Int)<s.length) (.side ((0:Int)<=i/\(i:Int)<s.length) (.ex (λ(x:UInt8)=>eqL [.int .u8 ↑(UInt8.toNat v1)] [.int .u8 ↑(UInt8.toNat x)]/\True) λn=>.all (λ(r:Bool)=>r=isL n) λn=>.ite (bif bif bif !n then bif decide ((↑(UInt8.toNat v1):Int)<48) then true else decide ((57:Int)<(↑(UInt8.toNat v1):Int)) else false then !decide ((↑(UInt8.toNat v1):Int)=95) else false then !decide ((↑(UInt8.toNat v1):Int)=45) else false) (.R [.bool false] []) (.S (i+1) (.leaf (.back 0 [(0,.str s),(20,.i s.length),(21,.i (i+1)),Z 31,Z 32,Z 33,Z 34,Z 35,Z 36,Z 39,Z 40,Z 43,Z 44] []))))) (.R [.bool true] [])) ?_;simp only [Tree.holds,ze,inR,lo,hi,aD];refine⟨λhlt=> ?_,λhge=> ?_⟩
  ·have hlt:i<s.length:=by have:=aB hlt; omega
   refine⟨by omega,λ_=>⟨s.getD i 0,⟨by simp,trivial⟩,⟨_,rfl⟩,?_⟩⟩;rintro _ rfl;rw [zeo];refine⟨λh=> ?_,λh=>⟨by omega,λ_=> ?_⟩⟩
   ·rw [WW hlt (by simpa using h)] at hq;exact RetR.scal hq rfl (by simp [resV])
   ·rw [aP trivial];refine⟨⟨i+1,hlt,λj hj=> ?_⟩,by show s.length - (i+1)<s.length - i; omega,by simp [SNa],by simp,by kernel_rfl,aI _⟩;rcases aR j i with h1 | h1
    ·exact hib j h1
    ·have:j=i:=by omega
     rw [this]; simpa using h
  ·have hge:i=s.length:=by have:=aC hge; omega
   subst hge;rw [zfm hib] at hq;exact RetR.scal hq rfl (by simp [resV])
theorem Y5:zc prog 102 YJ:=by
 refine zh' f102 λs hs O w0 Q hq=> ?_
 replace hq:=hq _ rfl;refine zb.n GN1.h [0,20,21,31,32,33,34,35,36,39,40,43,44] (.side ((bif decide ((s.length:Int)<1) then true else decide ((40:Int)<s.length))=false->(0:Int)<=0/\(0:Int)<s.length) (.ex (λ(x:UInt8)=>(bif decide ((s.length:Int)<1) then true else decide ((40:Int)<s.length))=false->eqL [.int .u8 ↑(UInt8.toNat (s.getD 0 (0:UInt8)))] [.int .u8 ↑(UInt8.toNat x)]/\True) λn=>.all (λ(x:Bool)=>(bif decide ((s.length:Int)<1) then true else decide ((40:Int)<s.length))=false->x=isL n) λn=>.ite (bif bif decide ((s.length:Int)<1) then true else decide ((40:Int)<s.length) then true else !n) (.R [.bool false] []) (.leaf (.loop (lps K102 0).1 (lps K102 0).2 [(0,.str s),(20,.i s.length),(21,.i 0),Z 31,Z 32,Z 33,Z 34,Z 35,Z 36,Z 39,Z 40,Z 43,Z 44] [])))) ?_;simp only [Tree.holds,ze,inR,lo,hi]
 have hd:decide ((s.length:Int)<1) = !decide (0<s.length):=by
  by_cases h:0<s.length
  ·rw [aX h,aW (by omega)]; rfl
  ·rw [aW h,aX (by omega)]; rfl
 have hd2:decide (40<(s.length:Int)) = !decide (s.length<=40):=by
  by_cases h:s.length<=40
  ·rw [aX h,aW (by omega)]; rfl
  ·rw [aW h,aX (by omega)]; rfl
 rw [hd,hd2];have hnb:jb s=(decide (0<s.length)&&decide (s.length<=40)&&isL (s.getD 0 0)&&s.all isN):=rfl;cases h1:decide (0<s.length) with
 | false=>
  rw [hnb,h1] at hq;refine⟨λh=>(by cases h),λ_=>⟨0,λh=>(by cases h),⟨false,λh=>(by cases h)⟩,?_⟩⟩;intro b _;exact⟨λ_=>RetR.scal hq rfl (by simp [resV]),λh=>(by cases h)⟩
 | true=>
  have h1':=aB h1;cases h2:decide (s.length<=40) with
  | false=>
   rw [hnb,h1,h2] at hq;refine⟨λh=>(by cases h),λ_=>⟨0,λh=>(by cases h),⟨false,λh=>(by cases h)⟩,?_⟩⟩;intro b _;exact⟨λ_=>RetR.scal hq rfl (by simp [resV]),λh=>(by cases h)⟩
  | true=>
   refine⟨λ_=>by omega,λ_=>⟨s.getD 0 0,λ_=>⟨by simp,trivial⟩,⟨_,λ_=>rfl⟩,?_⟩⟩;intro b hb;have hb:=hb rfl;subst hb;cases h3:isL (s.getD 0 0) with
   | false=>
    rw [hnb,h1,h2,h3] at hq;exact⟨λ_=>RetR.scal hq rfl (by simp [resV]),λh=>(by cases h)⟩
   | true=>
    rw [hnb,h1,h2,h3] at hq;refine⟨λh=>(by cases h),λ_=> ?_⟩;exact UE s hs hq
end Go.Proofs.Tryz
end
section
namespace Go.Nov
def sumS(m:Bool)(x:Nat)(n:Bool)(y:Nat):Bool×Nat:=if m=n then(m,x+y) else if y<=x then(m,x - y) else(n,y - x)
def addI(s t:L8):L8×Int:=if zu s t=0 then wr (sumS (negI s) (numI s) (negI t) (numI t)).1 (sumS (negI s) (numI s) (negI t) (numI t)).2 else([],zu s t)
def subI(s t:L8):L8×Int:=if zu s t=0 then wr (sumS (negI s) (numI s) (!negI t) (numI t)).1 (sumS (negI s) (numI s) (!negI t) (numI t)).2 else([],zu s t)
def mulI(s t:L8):L8×Int:=if zu s t=0 then wr (negI s != negI t) (numI s*numI t) else([],zu s t)
def cmpZ(m:Bool)(x:Nat)(n:Bool)(y:Nat):Int:=if m=true/\n=false then -1 else if n=true/\m=false then 1 else if m=true then cmpN y x else cmpN x y
def Qx(s t:L8):Int×Int:=if zu s t=0 then(cmpZ (negI s) (numI s) (negI t) (numI t),0) else(0,zu s t)
theorem Zh{d:Nat}(h:d<10):(byt d).toNat=48+d:=by
 unfold byt;rw [UInt8.toNat_ofNat'];omega
theorem yq{x:Nat}(h:x≠0):txt x=((dec x).map byt).reverse:=aO h
theorem Zq{x:Nat}(h:x≠0):(txt x).length=(dec x).length:=by rw [yq h]; simp
theorem Up{x:Nat}(h:x≠0):allD (txt x):=by
 intro c hc;rw [yq h] at hc;simp only [List.mem_reverse,List.mem_map] at hc;obtain⟨d,hd,rfl⟩:=hc;have:d<10:=Ten.zj x d hd;rw [Zh this];omega
theorem zj8{x:Nat}(h:x≠0):dg (txt x)=dec x:=by
 rw [yq h,dg,List.map_reverse,List.reverse_reverse,List.map_map]
 conv=>rhs; rw [<- List.map_id (dec x)]
 refine List.map_congr_left λd hd=> ?_
 have:d<10:=Ten.zj x d hd;simp only [Function.comp,Zh this,id];omega
theorem zgr{x:Nat}(h:x≠0):numD (txt x)=x:=by
 rw [<- XA,zj8 h];exact Ten.zm x
theorem u7{x:Nat}(h:x≠0):(txt x).getD 0 0≠48/\(txt x).getD 0 0≠45:=by
 have hl:=WJ h;have ht:=Ui hl;have hlt:=dec_lt x ((dec x).length - 1)
 have e:(txt x).getD 0 0=byt ((dec x).getD ((dec x).length - 1) 0):=by
  rw [yq h];simp only [List.getD_eq_getElem?_getD];rw [List.getElem?_reverse (by simpa using hl)];simp [aF (show(dec x).length - 1<(dec x).length by omega)]
 rw [e];have hb:=Zh hlt;constructor
 ·intro h2;rw [h2] at hb;have:(48:UInt8).toNat=48:=rfl;omega
 ·intro h2;rw [h2] at hb;have:(45:UInt8).toNat=45:=rfl;omega
theorem Xa{x:Nat}(h:x≠0):txt x≠[]:=by
 intro h2;have:=Zq h;rw [h2] at this;have:=WJ h;simp at *; omega
theorem UQ{x:Nat}(h:x≠0)(neg:Bool):parse (sgn neg (txt x))=(neg,txt x):=by
 cases neg with
 | true=>rfl
 | false=>
  simp only [sgn,Bool.false_eq_true,if_false];have h1:=(u7 h).2;cases ht:txt x with
  | nil=>exact absurd ht (Xa h)
  | cons c b=>
   rw [ht] at h1;have:c≠45:=h1;simp [parse,this]
theorem zd6{x:Nat}(h:x≠0)(neg:Bool):wa neg (txt x)=true:=by
 have h1:=(u7 h).1
 have h2:txt x≠[48]:=by
  intro h2;rw [h2] at h1;exact h1 rfl
 have h3:=Xa h;have h4:(txt x).all isD=true:=Uk.2 (Up h);simp only [List.getD_eq_getElem?_getD] at h1;simp [wa,h3,h2,h1,h4]
theorem uS{neg:Bool}{x:Nat}(h:(wr neg x).2=0):errI (wr neg x).1=0/\numI (wr neg x).1=x/\negI (wr neg x).1=(neg&&decide (x≠0)):=by
 unfold wr at h ⊢;by_cases h0:x=0
 ·subst h0;simp only [if_true];refine⟨rfl,rfl,?_⟩;simp [negI,parse]
 ·rw [aO h0] at h ⊢;by_cases h1:1000<(dec x).length
  ·rw [aP h1] at h; cases h
  ·rw [aO h1];simp only [errI,numI,negI,UQ h0,zd6 h0,if_true];rw [Zq h0,aO h1];exact⟨rfl,zgr h0,by simp [h0]⟩
theorem XU(neg:Bool)(x:Nat):(wr neg x).2=0\/wr neg x=([],14):=by
 unfold wr;split
 ·exact .inl rfl
 ·split
  ·exact .inr rfl
  ·exact .inl rfl
theorem zgi(neg:Bool)(b:L8):(sgn neg b).length<=b.length+1:=by
 unfold sgn; split<;>simp
theorem kC(neg:Bool)(x:Nat):(wr neg x).1.length<=1001:=by
 unfold wr;split
 ·simp
 ·rename_i h0;split
  ·simp
  ·rename_i h1;have:=zgi neg (txt x);rw [Zq h0] at this;simp only;omega
theorem zck(s t:L8):(addI s t).1.length<=1001:=by
 unfold addI;split
 ·exact kC _ _
 ·simp
theorem zcd(s t:L8):(subI s t).1.length<=1001:=by
 unfold subI;split
 ·exact kC _ _
 ·simp
theorem zf8(s t:L8):(mulI s t).1.length<=1001:=by
 unfold mulI;split
 ·exact kC _ _
 ·simp
theorem YD(b:Bool)(x:Nat):wr (b&&decide (0<x)) x=wr b x:=by
 unfold wr;by_cases h:x=0
 ·rw [aP h,aP h]
 ·rw [aO h,aO h];have:decide (0<x)=true:=aX (bV h);rw [this,Bool.and_true]
theorem J0(m:Bool)(x:Nat)(n:Bool):sumS m x n 0=(m,x):=by
 unfold sumS;split
 ·rfl
 ·simp
theorem UL(m:Bool)(x:Nat)(n:Bool)(y:Nat):sumS m x (n&&decide (0<y)) y=sumS m x n y:=by
 by_cases h:y=0
 ·subst h; rw [J0,J0]
 ·have:decide (0<y)=true:=aX (bV h);rw [this,Bool.and_true]
theorem Y4(m:Bool)(x:Nat)(n:Bool)(y:Nat):(sumS m x n y).2<=x+y:=by
 unfold sumS;split
 ·exact aJ _
 ·split
  ·simp only; omega
  ·simp only; omega
end Go.Nov
end
section
set_option maxRecDepth 100000
open Go Go.Sx Go.Proofs Go.Nov
namespace Go.Proofs.Tryz
attribute [local simp] eqKV eqA eqA0 eqH eqB eqL eqL0
noncomputable def K147:=Go.Sx.aA f147
def Ud:Ctr:=ctr2 true (λx y=>(canon x).length<100000/\(canon y).length<100000) (λx y d=>d=x+y) (λ_ _ d=>(magS d,[]))
def SPl(x y:Nat)(o:List Nat)(c i:Nat):KV:=[(1,magS y),(5,.osl 0 1 0 o.length),(6,.int .u32 (c:Int)),(21,magS x),(22,.i ((canon x).length:Int)),(23,.i (i:Int))]
structure IPl(x y:Nat) where
 o:List Nat
 c:Nat
 i:Nat
 len:o.length=i
 le:i<=(canon x).length
 dg:dig o
 c1:c<=1
 eq:val o+B^i*c=val ((canon x).take i)+val ((canon y).take i)
theorem zk4{x y o c i d c':Nat}{l m:List Nat}(h:o+B^i*c=val (l.take i)+val (m.take i))(he:d+B*c'=l.getD i 0+m.getD i 0+c):o+B^i*d+B^(i+1)*c'=val (l.take (i+1))+val (m.take (i+1)):=by
 rw [zq,zq,Nat.pow_succ];have:=congrArg (B^i * ·) he;simp only [bN] at this;rw [bI];omega
theorem RetR.zkr{ctr:Ctr}{Q:AV×Heap->Prop}{h:Heap}{i m n:Nat}{k:IntKind}{l:List Nat}{G:Nat->Nat->AV}(hq:Q (natS k l,[]))(hb:h[i]?=some (.arr m 1 G))(hn:n<=m)(hl:l.length=n)(hG:∀ j,j<n->G j 0 = .int k ((l.getD j 0:Nat):Int)):RetR ctr 0 Q [.osl i 1 0 n] h:=by
 refine RetR.out0 hq (λ_=> ?_) ?_
 ·refine zcy hb (by omega) λj o hj ho=> ?_
  have:o=0:=by omega
  subst this;simp only [zf,Nat.zero_add,hG j hj,qk]
 ·have e:exp2 h [] (resV [.osl i 1 0 n])=exp0 h [] (.osl i 1 0 n):=rfl;rw [e,Vv hb (by omega),zko];simp only [eqA2,natS];refine⟨hl.symm,rfl,λj o hj ho=> ?_⟩;have:o=0:=by omega
  subst this;rw [hG j hj]; rfl
theorem Kx{O:Nat->Prop}{w0:World}{Q:AV×Heap->Prop}(x y:Nat)(hx:(canon x).length<100000)(hlen:(canon y).length<=(canon x).length)(hq:Q (magS (x+y),[]))(kv:KV)(h:Heap)(hle:LeK 0 f147.ntmps kv h (SPl x y [] 0 0) [.arr 0 1 (natG .u32 [])]) :
  zb prog f147 O 0 w0 [] (λ_ _ _=>False) (RetR Ud 0 Q) (.code (.loop (lps K147 0).1)::(lps K147 0).2) (mk f147.ntmps kv h):=by
 refine zb.loop (ι:=IPl x y) (λs=>SPl x y s.o s.c s.i) (λs=>[.arr s.o.length 1 (natG .u32 s.o)]) (λs=>(canon x).length - s.i) ⟨[],0,0,rfl,aI _,by simp [dig],by omega,by simp [val]⟩ 0 hle ?_ (by kernel_rfl);rintro⟨o,c,i,ho,hle,hd,hc,he⟩;subst ho;have hB:B=1000000000:=rfl;refine zb.n G1.h [1,5,6,21,22,23] (let v8:=natG .u32 o;let v7:=inR .i64 (o.length+1);let v4:=o.length+1;let v1:=Int.toNat o.length;let v6:=Int.tdiv ((↑(List.getD (canon x) v1 0):Int)+c) (1000000000:Int);let v5:=zd 1 [.int .u32 (Int.tmod ((↑(List.getD (canon x) v1 0):Int)+c) (1000000000:Int))];let v3:=Int.tdiv ((↑(List.getD (canon x) v1 0):Int)+c+(↑(List.getD (canon y) v1 0):Int)) (1000000000:Int);let v2:=zd 1 [.int .u32 (Int.tmod ((↑(List.getD (canon x) v1 0):Int)+c+(↑(List.getD (canon y) v1 0):Int)) (1000000000:Int))];.D ((o.length:Int)<((canon x).length:Int)) (.side ((0:Int)<=o.length/\(o.length:Int)<((canon x).length:Int)) (.side (inR .u32 ((↑(List.getD (canon x) v1 0):Int)+c)) (.D ((o.length:Int)<((canon y).length:Int)) (.side ((0:Int)<=o.length/\(o.length:Int)<((canon y).length:Int)) (.side (inR .u32 ((↑(List.getD (canon x) v1 0):Int)+c+(↑(List.getD (canon y) v1 0):Int))) (.side ((1000000000:Int)≠0/\inR .u32 v3) (.side ((1000000000:Int)≠0) (.side (0=0/\o.length<=o.length/\v4 *4<=140737488355328) (.side v7 (.leaf (.back 0 [(1,.sl (canon y).length 1 (natG .u32 (canon y))),(5,.osl 0 1 0 v4),(6,.int .u32 v3),(21,.sl (canon x).length 1 (natG .u32 (canon x))),(22,.i (canon x).length),(23,.i (o.length+1))] [.arr v4 1 (appG o.length v8 (zf v2 0)),.arr 1 1 v2])))))))) (.side ((1000000000:Int)≠0/\inR .u32 v6) (.side ((1000000000:Int)≠0) (.side (0=0/\o.length<=o.length/\v4 *4<=140737488355328) (.side v7 (.leaf (.back 0 [(1,.sl (canon y).length 1 (natG .u32 (canon y))),(5,.osl 0 1 0 v4),(6,.int .u32 v6),(21,.sl (canon x).length 1 (natG .u32 (canon x))),(22,.i (canon x).length),(23,.i (o.length+1))] [.arr v4 1 (appG o.length v8 (zf v5 0)),.arr 1 1 v5]))))))))) (.side (0=0/\o.length<=o.length/\v4 *4<=140737488355328) (.ex (λ(u:List Nat)=>u.length=o.length+1/\0+(o.length+1)<=o.length+1/\o.length+1<4611686018427387904/\eqG v4 1 (appG o.length v8 (zf (zd 1 [.int .u32 c]) 0)) (natG .u32 u)/\dig (List.take v4 (List.drop 0 u))) λn=>.all (λ(x:Nat)=>x=val (List.take v4 (List.drop 0 n))) λn=>.R [.osl 0 1 0 (canon n).length] [.arr v4 1 (appG o.length v8 (zf (zd 1 [.int .u32 c]) 0)),.arr 1 1 (zd 1 [.int .u32 c])]))) ?_;simp only [Tree.holds,ze,inR,lo,hi,aD,xA];have ha:=zL (zj x) o.length;have hb:=zL (zj y) o.length
 have hnext:∀ d c':Nat,d<B->c'<=1->o.length<(canon x).length->d+B*c'=(canon x).getD o.length 0+(canon y).getD o.length 0+c ->
   ∃ s:IPl x y,s.o=o++[d]/\s.c=c'/\s.i=o.length+1:=λd c' h1 h2 h3 h4=>
  ⟨⟨o++[d],c',o.length+1,by simp,h3,ji.2 ⟨hd,by simp [dig,h1]⟩,h2,by rw [QN]; exact zk4 (x:=x) (y:=y) he h4⟩,rfl,rfl,rfl⟩
 have hdiv:∀ v:Nat,(v:Int).tdiv 1000000000=((v/B:Nat):Int)/\(v:Int).tmod 1000000000=((v%B:Nat):Int):=λv=>⟨rfl,rfl⟩
 have hq2:∀ v:Nat,v<2*B->v/B<=1/\v%B<B/\v%B+B*(v/B)=v:=λv hv=>⟨by have:=Nat.div_lt_of_lt_mul (show v<B*2 by omega); omega,Nat.mod_lt _ (by omega),Nat.mod_add_div _ _⟩
 refine⟨λhlt=> ?_,λhge=> ?_⟩
 ·have hlt:o.length<(canon x).length:=by have:=aB hlt; omega
  refine⟨by omega,λ_=>⟨by omega,λ_=>⟨λhb2=> ?_,λhb2=> ?_⟩⟩⟩
  ·have hb2:o.length<(canon y).length:=by have:=aB hb2; omega
   refine⟨by omega,λ_=>⟨by omega,λ_=> ?_⟩⟩;obtain⟨v,hv⟩:∃ v,(canon x).getD o.length 0+c+(canon y).getD o.length 0=v:=⟨_,rfl⟩;have ev:(((canon x).getD o.length 0:Nat):Int)+(c:Int)+(((canon y).getD o.length 0:Nat):Int)=(v:Int):=by omega
   rw [ev,(hdiv v).1,(hdiv v).2];obtain⟨g1,g2,g3⟩:=hq2 v (by omega);generalize v/B=q at g1 g3 ⊢;generalize v%B=r at g2 g3 ⊢;refine⟨⟨by decide,by omega,by omega⟩,λ_=>⟨by decide,λ_=>⟨⟨trivial,aJ _,by omega⟩,λ_=>⟨by omega,λ_=> ?_⟩⟩⟩⟩;obtain⟨s,h1,h2,h3⟩:=hnext r q g2 g1 hlt (by omega);rw [aP trivial];exact⟨s,by show _ - s.i<_; omega,by simp [SPl,h1,h2,h3,magS,natS,za],by rw [h1]; exact vc rfl,by kernel_rfl,aI _⟩
  ·have hb2:(canon y).length<=o.length:=by have:=aC hb2; omega
   have hb0:(canon y).getD o.length 0=0:=by simp [List.getD,aZ hb2]
   obtain⟨v,hv⟩:∃ v,(canon x).getD o.length 0+c=v:=⟨_,rfl⟩;have ev:(((canon x).getD o.length 0:Nat):Int)+(c:Int)=(v:Int):=by omega
   rw [ev,(hdiv v).1,(hdiv v).2];obtain⟨g1,g2,g3⟩:=hq2 v (by omega);generalize v/B=q at g1 g3 ⊢;generalize v%B=r at g2 g3 ⊢;refine⟨⟨by decide,by omega,by omega⟩,λ_=>⟨by decide,λ_=>⟨⟨trivial,aJ _,by omega⟩,λ_=>⟨by omega,λ_=> ?_⟩⟩⟩⟩;obtain⟨s,h1,h2,h3⟩:=hnext r q g2 g1 hlt (by omega);rw [aP trivial];exact⟨s,by show _ - s.i<_; omega,by simp [SPl,h1,h2,h3,magS,natS,za],by rw [h1]; exact vc rfl,by kernel_rfl,aI _⟩
 ·have hge:o.length=(canon x).length:=by have:=aC hge; omega
  have hv:val (o++[c])=x+y:=by
   rw [QN];rw [hge,bD,bF hlen,zm,zm] at he;rw [hge]; exact he
  have hdo:dig (o++[c]):=ji.2 ⟨hd,by simp [dig]; omega⟩
  have hpush:eqG (o.length+1) 1 (appG o.length (natG .u32 o) (zf (zd 1 [.int .u32 (c:Int)]) 0)) (natG .u32 (o++[c])):=by
   have:=y3 (k:=.u32) (l:=o) (v:=(c:Int)) (by omega);simpa using this
  have hall:List.take (o.length+1) (List.drop 0 (o++[c]))=o++[c]:=by rw [List.drop_zero]; exact bF (by simp)
  refine⟨⟨trivial,aJ _,by omega⟩,λ_=>⟨o++[c],⟨by simp,by omega,by omega,hpush,by rw [hall]; exact hdo⟩,⟨_,rfl⟩,?_⟩⟩;intro X hX;have hX:X=x+y:=by rw [hX,hall,hv]
  subst hX;have htr:qF (o++[c])=canon (x+y):=by rw [zO hdo,hv]
  have htl:(canon (x+y)).length=tlen (o++[c]):=by rw [<- htr,qF,aH]; have:=qp (o++[c]); omega
  rw [htl];have hle2:=qp (o++[c]);have hln:(o++[c]).length=o.length+1:=by simp
  refine RetR.zkr (l:=canon (x+y)) (k:=.u32) hq rfl (by omega) htl λj hj=> ?_
  have:=hpush j 0 (by omega) (by omega);rw [this,<- htr];simp only [natG,qF];rw [YZ hj]
theorem YE:zc prog 147 Ud:=by
 refine yZ (fn:=f147) (c:=f147.body.getD .skip) rfl rfl rfl λx y hp O w0 Q hq=> ?_
 replace hq:=hq _ rfl;obtain⟨hx,hy⟩:=hp;refine zb.n G1.h [1,5,6,21,22,23] (let v1:=lps K147 0;.D (((canon x).length:Int)<((canon y).length:Int)) (.S ((canon y).length+1) (.side ((0:Int)<=0/\(0:Int)<=((canon y).length:Int)+(1:Int)/\inR .i64 ((canon y).length+1)/\Int.toNat ((canon y).length+1)*4<=140737488355328) (.leaf (.loop v1.1 v1.2 [(1,.sl (canon x).length 1 (natG .u32 (canon x))),(5,.osl 0 1 0 0),(6,.int .u32 0),(21,.sl (canon y).length 1 (natG .u32 (canon y))),(22,.i (canon y).length),(23,.i 0)] [.arr 0 1 (qb [.int .u32 0])])))) (.S ((canon x).length+1) (.side ((0:Int)<=0/\(0:Int)<=((canon x).length:Int)+(1:Int)/\inR .i64 ((canon x).length+1)/\Int.toNat ((canon x).length+1)*4<=140737488355328) (.leaf (.loop v1.1 v1.2 [(1,.sl (canon y).length 1 (natG .u32 (canon y))),(5,.osl 0 1 0 0),(6,.int .u32 0),(21,.sl (canon x).length 1 (natG .u32 (canon x))),(22,.i (canon x).length),(23,.i 0)] [.arr 0 1 (qb [.int .u32 0])]))))) ?_;simp only [Tree.holds,ze,inR,lo,hi];refine⟨λh=> ?_,λh=> ?_⟩
 ·have h:(canon x).length<(canon y).length:=by have:=aB h; omega
  refine⟨by omega,λ_=>⟨⟨by omega,by omega,by omega,by omega⟩,λ_=> ?_⟩⟩;rw [Nat.add_comm] at hq;exact Kx y x hy (by omega) hq _ _ ⟨by simp [SPl,magS,natS,za],by simp [eqG],by kernel_rfl,aI _⟩
 ·have h:(canon y).length<=(canon x).length:=by have:=aC h; omega
  refine⟨by omega,λ_=>⟨⟨by omega,by omega,by omega,by omega⟩,λ_=> ?_⟩⟩;exact Kx x y hx h hq _ _ ⟨by simp [SPl,magS,natS,za],by simp [eqG],by kernel_rfl,aI _⟩
def ziv:Ctr:=ctrP false (λp:Bool×Nat=>[.bool p.1,magS p.2]) (λ_=>True) (λp r=>r=(p.1&&decide (0<p.2),p.2)) (λ_ (r:Bool×Nat)=>(numV r.1 r.2,[]))
theorem Zw{x:Nat} : decide (0<((canon x).length:Int))=decide (0<x):=by
 by_cases h:x=0
 ·subst h; simp [canon]
 ·have h1:0<x:=bV h;have h2:(canon x).length≠0:=λh2=>h (xD.1 h2)
  rw [aX (by omega),aX h1]
theorem RetR.numV{ctr:Ctr}{Q:AV×Heap->Prop}{h:Heap}{b:Bool}{x:Nat}(hf:ctr.fresh=false)(hq:Q (numV b x,[])):RetR ctr 0 Q [.agg [.bool b,magS x]] h:=by
 refine RetR.out0 hq (λh=>by rw [hf] at h; cases h) ?_;simp [resV,exp2,exp1,exp0,ren0,frz1,eqA2,eqL1,eqA,eqL0,eqA0,Tryz.numV,magS,natS,za]
theorem zgd:zc prog 146 ziv:=by
 refine zh' f146 λp hp O w0 Q hq=> ?_
 obtain⟨b,x⟩:=p;replace hq:=hq _ rfl;refine zb.n zA [] (let v1:List AV:=[.bool (bif b then decide ((0:Int)<((canon x).length:Int)) else false),.sl (canon x).length 1 (natG .u32 (canon x))];.R [.agg v1] [.box v1]) ?_;simp only [Tree.holds,ze];rw [Zw];have e:(bif b then decide (0<x) else false)=(b&&decide (0<x)):=by cases b<;>rfl
 rw [e];exact RetR.numV rfl hq
def sumC:Ctr:=ctrP false (λp:(Bool×Nat)×(Bool×Nat)=>[numV p.1.1 p.1.2,numV p.2.1 p.2.2]) (λp=>(canon p.1.2).length<100000/\(canon p.2.2).length<100000)
 (λp r=>r=((sumS p.1.1 p.1.2 p.2.1 p.2.2).1&&decide (0<(sumS p.1.1 p.1.2 p.2.1 p.2.2).2),(sumS p.1.1 p.1.2 p.2.1 p.2.2).2)) (λ_ (r:Bool×Nat)=>(numV r.1 r.2,[]))
noncomputable def GSu:=tb zgd (tb YE (tb xX (tb Qj tz)))
abbrev q22(A:List AV)(x:Bool×Nat):Prop:=eqL A [.bool x.1,.sl (canon x.2).length 1 (natG .u32 (canon x.2))]/\True
abbrev q21(A:List AV)(x:Nat×Nat):Prop:=eqL A [.sl (canon x.1).length 1 (natG .u32 (canon x.1)),.sl (canon x.2).length 1 (natG .u32 (canon x.2))]/\List.length (canon x.1)<100000/\List.length (canon x.2)<100000
theorem zfe:zc prog 119 sumC:=by
 refine zh' f119 λp hp O w0 Q hq=> ?_
 obtain⟨⟨m,x⟩,⟨n,y⟩⟩:=p;obtain⟨h1,h2⟩:=hp;replace hq:=hq _ rfl;simp only at h1 h2 hq;refine zb.n GSu.h [] (let v8:=natG .u32 (canon x);let v7:=natG .u32 (canon y);let v3:List AV:=[.bool n,.sl (canon y).length 1 v7];let v2:List AV:=[.bool m,.sl (canon x).length 1 v8];let v1:=[AV.sl (canon x).length 1 v8,AV.sl (canon y).length 1 v7];.ite (m == n) (.ex (q21 v1) λn_1=>.all (λ(d:Nat)=>d=n_1.1+n_1.2) λn_2=>.ex (q22 [.bool m,.sl (canon n_2).length 1 (natG .u32 (canon n_2))]) λn_3=>.all (λ(r:Bool×Nat)=>r=(n_3.1&&decide (0<n_3.2),n_3.2)) λn_4=>let v4:List AV:=[.bool n_4.1,.sl (canon n_4.2).length 1 (natG .u32 (canon n_4.2))];.R [.agg v4] [.box v2,.box v3,.box v4]) (.ex (q11 v1) λn_1=>.all (λ(r:Int)=>r=cmp3 n_1.1 n_1.2) λn_2=>.D ((0:Int)<=n_2) (.ex (q12 v1) λn_3=>.all (λ(d:Nat)=>d=n_3.1 - n_3.2) λn_4=>.ex (q22 [.bool m,.sl (canon n_4).length 1 (natG .u32 (canon n_4))]) λn_5=>.all (λ(r:Bool×Nat)=>r=(n_5.1&&decide (0<n_5.2),n_5.2)) λn_6=>let v5:List AV:=[.bool n_6.1,.sl (canon n_6.2).length 1 (natG .u32 (canon n_6.2))];.R [.agg v5] [.box v2,.box v3,.box v5]) (.ex (q12 [.sl (canon y).length 1 v7,.sl (canon x).length 1 v8]) λn_3=>.all (λ(d:Nat)=>d=n_3.1 - n_3.2) λn_4=>.ex (q22 [.bool n,.sl (canon n_4).length 1 (natG .u32 (canon n_4))]) λn_5=>.all (λ(r:Bool×Nat)=>r=(n_5.1&&decide (0<n_5.2),n_5.2)) λn_6=>let v6:List AV:=[.bool n_6.1,.sl (canon n_6.2).length 1 (natG .u32 (canon n_6.2))];.R [.agg v6] [.box v2,.box v3,.box v6]))) ?_;simp only [q11,q12,q21,q22,Tree.holds,ze];have eL:∀ a b:Nat,eqL [.sl (canon a).length 1 (natG .u32 (canon a)),.sl (canon b).length 1 (natG .u32 (canon b))] [.sl (canon a).length 1 (natG .u32 (canon a)),.sl (canon b).length 1 (natG .u32 (canon b))]:=λa b=>⟨⟨rfl,rfl,za _ _ _⟩,⟨rfl,rfl,za _ _ _⟩,trivial⟩
 have eK:∀ (b:Bool) (a:Nat),eqL [.bool b,.sl (canon a).length 1 (natG .u32 (canon a))] [.bool b,.sl (canon a).length 1 (natG .u32 (canon a))]:=λb a=>⟨rfl,⟨rfl,rfl,za _ _ _⟩,trivial⟩
 have hcm:∀ v,v=cmp3 x y->(0<=v↔y<=x):=by
  rintro v rfl;unfold cmp3;split
  ·exact⟨λh=>by omega,λh=>by omega⟩
  ·split
   ·exact⟨λh=>by omega,λh=>by omega⟩
   ·exact⟨λh=>by omega,λh=>by omega⟩
 refine⟨λh=> ?_,λh=>⟨(x,y),⟨eL x y,by show(canon x).length<_; omega,by show(canon y).length<_; omega⟩,⟨_,rfl⟩,?_⟩⟩
 ·have h:m=n:=by simpa using h
  refine⟨(x,y),⟨eL x y,h1,h2⟩,⟨_,rfl⟩,?_⟩;rintro _ rfl;refine⟨(m,x+y),⟨eK m _,trivial⟩,⟨_,rfl⟩,?_⟩;rintro _ rfl;have e:sumS m x n y=(m,x+y):=aP h;rw [e] at hq;exact RetR.numV rfl hq
 ·have h:¬ m=n:=by simpa using h
  intro v hv;have hv:=hcm v hv;refine⟨λg=> ?_,λg=> ?_⟩
  ·have g:y<=x:=hv.1 (aB g);refine⟨(x,y),⟨eL x y,by show(canon x).length<_; omega,g⟩,⟨_,rfl⟩,?_⟩;rintro _ rfl;refine⟨(m,x - y),⟨eK m _,trivial⟩,⟨_,rfl⟩,?_⟩;rintro _ rfl;have e:sumS m x n y=(m,x - y):=by rw [sumS,aO h,aP g]
   rw [e] at hq;exact RetR.numV rfl hq
  ·have g:¬ y<=x:=λh3=>aC g (hv.2 h3)
   refine⟨(y,x),⟨eL y x,by show(canon y).length<_; omega,by show x<=y; omega⟩,⟨_,rfl⟩,?_⟩;rintro _ rfl;refine⟨(n,y - x),⟨eK n _,trivial⟩,⟨_,rfl⟩,?_⟩;rintro _ rfl;have e:sumS m x n y=(n,y - x):=by rw [sumS,aO h,aO g]
   rw [e] at hq;exact RetR.numV rfl hq
theorem zV{x n:Nat}(h:x<B^n)(hn:n<100000):(canon x).length<100000:=by have:=zy h; omega
theorem qD{s:L8}(h:errI s=0):numI s<B^112:=jF.2 (yg h)
theorem Yv{x y:Nat}(hx:x<B^112)(hy:y<B^112):x+y<B^113/\x*y<B^224:=by
 constructor
 ·have:B^113=B^112*B:=Nat.pow_succ B 112;have hB:B=1000000000:=rfl;generalize B^112=p at *
  rw [this,hB]; omega
 ·have:B^224=B^112*B^112:=by rw [<- Nat.pow_add]
  rw [this];exact Nat.mul_lt_mul_of_lt_of_lt hx hy
noncomputable def GAd:=tb Wu (tb zfe (tb Q2 (tb V5 (tb xX tz))))
def addC:Ctr:=ctrP true (λp:L8×L8=>[.str p.1,.str p.2]) (λp=>p.1.length<2^62/\p.2.length<2^62) (λp r=>r=addI p.1 p.2) (λ_ r=>(.tup [.str r.1,.i r.2],[]))
def subC:Ctr:=ctrP true (λp:L8×L8=>[.str p.1,.str p.2]) (λp=>p.1.length<2^62/\p.2.length<2^62) (λp r=>r=subI p.1 p.2) (λ_ r=>(.tup [.str r.1,.i r.2],[]))
def mulC:Ctr:=ctrP true (λp:L8×L8=>[.str p.1,.str p.2]) (λp=>p.1.length<2^62/\p.2.length<2^62) (λp r=>r=mulI p.1 p.2) (λ_ r=>(.tup [.str r.1,.i r.2],[]))
def zhw:Ctr:=ctrP true (λp:L8×L8=>[.str p.1,.str p.2]) (λp=>p.1.length<2^62/\p.2.length<2^62) (λp r=>r=Qx p.1 p.2) (λ_ r=>(.tup [.i r.1,.i r.2],[]))
abbrev q23(A:List AV)(x:(Bool×Nat)×Bool×Nat):Prop:=eqL A [.agg [.bool x.1.1,.sl (canon x.1.2).length 1 (natG .u32 (canon x.1.2))],.agg [.bool x.2.1,.sl (canon x.2.2).length 1 (natG .u32 (canon x.2.2))]]/\List.length (canon x.1.2)<100000/\List.length (canon x.2.2)<100000
theorem zk1:zc prog 82 addC:=by
 refine zh' f82 λp hp O w0 Q hq=> ?_
 obtain⟨s,t⟩:=p;obtain⟨hs,ht⟩:=hp;replace hq:=hq _ rfl;simp only at hs ht hq;refine zb.n GAd.h [] (.ex (q17 [.str s,.str t]) λn=>.all (λ(r:Int×(Bool×Nat)×Bool×Nat)=>r=if zu n.1 n.2=0 then((0:Int),(negI n.1,numI n.1),negI n.2,numI n.2) else(zu n.1 n.2,(false,0),false,0)) λn=>let v4:=canon n.2.2.2;let v3:=canon n.2.1.2;let v1:List Blk:=[.box [.bool n.2.1.1,.sl v3.length 1 (natG .u32 v3)],.box [.bool n.2.2.1,.sl v4.length 1 (natG .u32 v4)]];.N (n.1=0) (.R [.str #[].toList,.i n.1] v1) (.ex (q23 [.agg [.bool n.2.1.1,.sl v3.length 1 (natG .u32 v3)],.agg [.bool n.2.2.1,.sl v4.length 1 (natG .u32 v4)]]) λn_1=>let v2:=sumS n_1.1.1 n_1.1.2 n_1.2.1 n_1.2.2;.all (λ(r:Bool×Nat)=>r=(Prod.fst v2 &&decide (0<Prod.snd v2),Prod.snd v2)) λn_2=>.ex (q19 [.agg [.bool n_2.1,.sl (canon n_2.2).length 1 (natG .u32 (canon n_2.2))]]) λn_3=>.all (λ(r:L8×Int)=>r=wr n_3.1 n_3.2) λn_4=>.R [.str n_4.1,.i n_4.2] v1)) ?_;simp only [q17,q19,q23,Tree.holds,ze];refine⟨(s,t),⟨by simp,by omega,by omega⟩,⟨_,rfl⟩,?_⟩;rintro _ rfl;simp only;by_cases he:zu s t=0
 ·obtain⟨e1,e2⟩:=zl.1 he;obtain⟨b1,b2⟩:=Yv (qD e1) (qD e2);have c1:=zV (qD e1) (by decide);have c2:=zV (qD e2) (by decide);simp only [aP he];refine⟨λh=>(by simp at h),λ_=> ?_⟩;refine⟨((negI s,numI s),(negI t,numI t)),⟨⟨⟨rfl,⟨rfl,rfl,za _ _ _⟩,trivial⟩,⟨rfl,⟨rfl,rfl,za _ _ _⟩,trivial⟩,trivial⟩,c1,c2⟩,⟨_,rfl⟩,?_⟩;rintro _ rfl;refine⟨((sumS (negI s) (numI s) (negI t) (numI t)).1&&decide (0<(sumS (negI s) (numI s) (negI t) (numI t)).2),(sumS (negI s) (numI s) (negI t) (numI t)).2),⟨⟨⟨rfl,⟨rfl,rfl,za _ _ _⟩,trivial⟩,trivial⟩,?_⟩,⟨_,rfl⟩,?_⟩
  ·have:=zV (Nat.lt_of_le_of_lt (Y4 (negI s) (numI s) (negI t) (numI t)) b1) (by decide);show(canon (sumS (negI s) (numI s) (negI t) (numI t)).2).length<1000000;omega
  rintro _ rfl;rw [YD];have e:addI s t=wr (sumS (negI s) (numI s) (negI t) (numI t)).1 (sumS (negI s) (numI s) (negI t) (numI t)).2:=aP he;rw [e] at hq;exact RetR.scal hq rfl (by simp [resV])
 ·simp only [aO he];refine⟨λ_=> ?_,λh=>(by simp [he] at h)⟩;have e:addI s t=([],zu s t):=aO he;rw [e] at hq;exact RetR.scal hq rfl (by simp [resV])
theorem zje:zc prog 80 subC:=by
 refine zh' f80 λp hp O w0 Q hq=> ?_
 obtain⟨s,t⟩:=p;obtain⟨hs,ht⟩:=hp;replace hq:=hq _ rfl;simp only at hs ht hq;refine zb.n GAd.h [] (.ex (q17 [.str s,.str t]) λn=>.all (λ(r:Int×(Bool×Nat)×Bool×Nat)=>r=if zu n.1 n.2=0 then((0:Int),(negI n.1,numI n.1),negI n.2,numI n.2) else(zu n.1 n.2,(false,0),false,0)) λn=>let v5:=canon n.2.1.2;let v4:=canon n.2.2.2;let v3:List AV:=[.bool n.2.1.1,.sl v5.length 1 (natG .u32 v5)];let v1:=bif !Prod.fst n.2.2 then decide ((0:Int)<((canon n.2.2.2).length:Int)) else false;.N (n.1=0) (.R [.str #[].toList,.i n.1] [.box v3,.box [.bool n.2.2.1,.sl v4.length 1 (natG .u32 v4)]]) (.ex (q23 [.agg [.bool n.2.1.1,.sl v5.length 1 (natG .u32 v5)],.agg [.bool v1,.sl v4.length 1 (natG .u32 v4)]]) λn_1=>let v2:=sumS n_1.1.1 n_1.1.2 n_1.2.1 n_1.2.2;.all (λ(r:Bool×Nat)=>r=(Prod.fst v2 &&decide (0<Prod.snd v2),Prod.snd v2)) λn_2=>.ex (q19 [.agg [.bool n_2.1,.sl (canon n_2.2).length 1 (natG .u32 (canon n_2.2))]]) λn_3=>.all (λ(r:L8×Int)=>r=wr n_3.1 n_3.2) λn_4=>.R [.str n_4.1,.i n_4.2] [.box v3,.box [.bool v1,.sl v4.length 1 (natG .u32 v4)]])) ?_;simp only [q17,q19,q23,Tree.holds,ze];refine⟨(s,t),⟨by simp,by omega,by omega⟩,⟨_,rfl⟩,?_⟩;rintro _ rfl;simp only;by_cases he:zu s t=0
 ·obtain⟨e1,e2⟩:=zl.1 he;obtain⟨b1,b2⟩:=Yv (qD e1) (qD e2);have c1:=zV (qD e1) (by decide);have c2:=zV (qD e2) (by decide);simp only [aP he];refine⟨λh=>(by simp at h),λ_=> ?_⟩;have eN:(bif !negI t then decide (0<((canon (numI t)).length:Int)) else false)=(!negI t&&decide (0<numI t)):=by rw [Zw]; cases negI t<;>rfl
  rw [eN];refine⟨((negI s,numI s),(!negI t&&decide (0<numI t),numI t)),⟨⟨⟨rfl,⟨rfl,rfl,za _ _ _⟩,trivial⟩,⟨rfl,⟨rfl,rfl,za _ _ _⟩,trivial⟩,trivial⟩,c1,c2⟩,⟨_,rfl⟩,?_⟩;rintro _ rfl;simp only [UL];refine⟨((sumS (negI s) (numI s) (!negI t) (numI t)).1&&decide (0<(sumS (negI s) (numI s) (!negI t) (numI t)).2),(sumS (negI s) (numI s) (!negI t) (numI t)).2),⟨⟨⟨rfl,⟨rfl,rfl,za _ _ _⟩,trivial⟩,trivial⟩,?_⟩,⟨_,rfl⟩,?_⟩
  ·have:=zV (Nat.lt_of_le_of_lt (Y4 (negI s) (numI s) (!negI t) (numI t)) b1) (by decide);show(canon (sumS (negI s) (numI s) (!negI t) (numI t)).2).length<1000000;omega
  rintro _ rfl;rw [YD];have e:subI s t=wr (sumS (negI s) (numI s) (!negI t) (numI t)).1 (sumS (negI s) (numI s) (!negI t) (numI t)).2:=aP he;rw [e] at hq;exact RetR.scal hq rfl (by simp [resV])
 ·simp only [aO he];refine⟨λ_=> ?_,λh=>(by simp [he] at h)⟩;have e:subI s t=([],zu s t):=aO he;rw [e] at hq;exact RetR.scal hq rfl (by simp [resV])
theorem zjo:zc prog 79 mulC:=by
 refine zh' f79 λp hp O w0 Q hq=> ?_
 obtain⟨s,t⟩:=p;obtain⟨hs,ht⟩:=hp;replace hq:=hq _ rfl;simp only at hs ht hq;refine zb.n GAd.h [] (.ex (q17 [.str s,.str t]) λn=>.all (λ(r:Int×(Bool×Nat)×Bool×Nat)=>r=if zu n.1 n.2=0 then((0:Int),(negI n.1,numI n.1),negI n.2,numI n.2) else(zu n.1 n.2,(false,0),false,0)) λn=>let v5:=canon n.2.1.2;let v4:=canon n.2.2.2;let v3:List AV:=[.bool n.2.2.1,.sl v4.length 1 (natG .u32 v4)];let v2:List AV:=[.bool n.2.1.1,.sl v5.length 1 (natG .u32 v5)];.N (n.1=0) (.R [.str #[].toList,.i n.1] [.box v2,.box v3]) (.ex (q11 [.sl v5.length 1 (natG .u32 v5),.sl v4.length 1 (natG .u32 v4)]) λn_1=>let v1:=List.length (canon n_1.1)+List.length (canon n_1.2);.all (λ(p:Nat)=>p=n_1.1*n_1.2) λn_2=>.ex (q19 [.agg [.bool !Prod.fst n.2.1 == n.2.2.1,.sl (canon n_2).length 1 (zf (natG .u32 (padN v1 n_2)) 0)]]) λn_3=>.all (λ(r:L8×Int)=>r=wr n_3.1 n_3.2) λn_4=>.R [.str n_4.1,.i n_4.2] [.box v2,.box v3,.arr v1 1 (natG .u32 (padN v1 n_2))])) ?_;simp only [q11,q17,q19,Tree.holds,ze];refine⟨(s,t),⟨by simp,by omega,by omega⟩,⟨_,rfl⟩,?_⟩;rintro _ rfl;simp only;by_cases he:zu s t=0
 ·obtain⟨e1,e2⟩:=zl.1 he;obtain⟨b1,b2⟩:=Yv (qD e1) (qD e2);have c1:=zV (qD e1) (by decide);have c2:=zV (qD e2) (by decide);simp only [aP he];refine⟨λh=>(by simp at h),λ_=> ?_⟩;refine⟨(numI s,numI t),⟨⟨⟨rfl,rfl,za _ _ _⟩,⟨rfl,rfl,za _ _ _⟩,trivial⟩,by show(canon (numI s)).length<1000000; omega,by show(canon (numI t)).length<1000000; omega⟩,⟨_,rfl⟩,?_⟩;rintro _ rfl;refine⟨(negI s != negI t,numI s*numI t),⟨⟨⟨rfl,⟨rfl,rfl,λj o hj ho=>by simp only [zf,natG,Nat.zero_add,padN,yh hj]⟩,trivial⟩,trivial⟩,?_⟩,⟨_,rfl⟩,?_⟩
  ·have:=zV b2 (by decide);show(canon (numI s*numI t)).length<1000000;omega
  rintro _ rfl;have e:mulI s t=wr (negI s != negI t) (numI s*numI t):=aP he;rw [e] at hq;exact RetR.scal hq rfl (by simp [resV])
 ·simp only [aO he];refine⟨λ_=> ?_,λh=>(by simp [he] at h)⟩;have e:mulI s t=([],zu s t):=aO he;rw [e] at hq;exact RetR.scal hq rfl (by simp [resV])
theorem zhj:zc prog 85 zhw:=by
 refine zh' f85 λp hp O w0 Q hq=> ?_
 obtain⟨s,t⟩:=p;obtain⟨hs,ht⟩:=hp;replace hq:=hq _ rfl;simp only at hs ht hq;refine zb.n GAd.h [] (.ex (q17 [.str s,.str t]) λn=>.all (λ(r:Int×(Bool×Nat)×Bool×Nat)=>r=if zu n.1 n.2=0 then((0:Int),(negI n.1,numI n.1),negI n.2,numI n.2) else(zu n.1 n.2,(false,0),false,0)) λn=>let v3:=canon n.2.2.2;let v2:=canon n.2.1.2;let v1:List Blk:=[.box [.bool n.2.1.1,.sl v2.length 1 (natG .u32 v2)],.box [.bool n.2.2.1,.sl v3.length 1 (natG .u32 v3)]];.N (n.1=0) (.R [.i 0,.i n.1] v1) (.ite (bif n.2.1.1 then !Prod.fst n.2.2 else false) (.R [.i (-1:Int),.i 0] v1) (.ite (bif n.2.2.1 then !Prod.fst n.2.1 else false) (.R [.i 1,.i 0] v1) (.ite n.2.1.1 (.ex (q11 [.sl v3.length 1 (natG .u32 v3),.sl v2.length 1 (natG .u32 v2)]) λn_1=>.all (λ(r:Int)=>r=cmp3 n_1.1 n_1.2) λn_2=>.R [.i n_2,.i 0] v1) (.ex (q11 [.sl v2.length 1 (natG .u32 v2),.sl v3.length 1 (natG .u32 v3)]) λn_1=>.all (λ(r:Int)=>r=cmp3 n_1.1 n_1.2) λn_2=>.R [.i n_2,.i 0] v1))))) ?_;simp only [q11,q17,Tree.holds,ze];refine⟨(s,t),⟨by simp,by omega,by omega⟩,⟨_,rfl⟩,?_⟩;rintro _ rfl;simp only;by_cases he:zu s t=0
 ·obtain⟨e1,e2⟩:=zl.1 he;obtain⟨b1,b2⟩:=Yv (qD e1) (qD e2);have c1:=zV (qD e1) (by decide);have c2:=zV (qD e2) (by decide);simp only [aP he];refine⟨λh=>(by simp at h),λ_=> ?_⟩;have e:Qx s t=(cmpZ (negI s) (numI s) (negI t) (numI t),0):=aP he;rw [e] at hq;have ec:∀ a b:Nat,cmp3 a b=cmpN a b:=λ_ _=>rfl
  simp only [cmpZ] at hq;have f1:fits (numI s):=by show(canon (numI s)).length<1000000; omega
  have f2:fits (numI t):=by show(canon (numI t)).length<1000000; omega
  refine⟨λh=> ?_,λh1=>⟨λh=> ?_,λh2=>⟨λh=>⟨(numI t,numI s),⟨⟨⟨rfl,rfl,za _ _ _⟩,⟨rfl,rfl,za _ _ _⟩,trivial⟩,f2,f1⟩,⟨_,rfl⟩,?_⟩,λh=>⟨(numI s,numI t),⟨⟨⟨rfl,rfl,za _ _ _⟩,⟨rfl,rfl,za _ _ _⟩,trivial⟩,f1,f2⟩,⟨_,rfl⟩,?_⟩⟩⟩⟩
  ·cases hm:negI s<;>cases hn:negI t<;>rw [hm,hn] at h hq<;>first | (cases h; done) | exact RetR.scal hq rfl (by simp [resV])
  ·cases hm:negI s<;>cases hn:negI t<;>rw [hm,hn] at h h1 hq<;>first | (cases h; done) | (cases h1; done) | exact RetR.scal hq rfl (by simp [resV])
  ·rintro _ rfl;rw [ec];cases hm:negI s<;>cases hn:negI t<;>rw [hm,hn] at h1 h2 hq<;>rw [hm] at h<;>first | (cases h; done) | (cases h1; done) | (cases h2; done) | exact RetR.scal hq rfl (by simp [resV])
  ·rintro _ rfl;rw [ec];cases hm:negI s<;>cases hn:negI t<;>rw [hm,hn] at h1 h2 hq<;>rw [hm] at h<;>first | (cases h; done) | (cases h1; done) | (cases h2; done) | exact RetR.scal hq rfl (by simp [resV])
 ·simp only [aO he];refine⟨λ_=> ?_,λh=>(by simp [he] at h)⟩;have e:Qx s t=(0,zu s t):=aO he;rw [e] at hq;exact RetR.scal hq rfl (by simp [resV])
end Go.Proofs.Tryz
end
section
namespace Go.Nov
def YV(neg:Bool)(x y:Nat):L8:=
 if y/Nat.gcd x y=1 then(wr neg (x/Nat.gcd x y)).1 else(wr neg (x/Nat.gcd x y)).1++[47]++(wr false (y/Nat.gcd x y)).1
def jQ(n d:L8):L8×Int:=if zu n d≠0 then([],zu n d) else if numI d=0 then([],16) else(YV (negI n != negI d) (numI n) (numI d),0)
def jk(a b:L8):Int:=if errR a=0 then errR b else errR a
def numR(a:L8):L8:=(cutR a).1
def denR(a:L8):L8:=if(cutR a).2.2 then(cutR a).2.1 else [49]
def frac(z w:L8×Int):L8×Int:=if z.2≠0\/w.2≠0 then([],14) else jQ z.1 w.1
def zW(a b:L8):Int:=if jk a b≠0 then jk a b else if(mulI (numR a) (denR b)).2≠0\/(mulI (numR b) (denR a)).2≠0 then 14 else 0
def addR(a b:L8):L8×Int:=if zW a b≠0 then([],zW a b) else frac (addI (mulI (numR a) (denR b)).1 (mulI (numR b) (denR a)).1) (mulI (denR a) (denR b))
def subR(a b:L8):L8×Int:=if zW a b≠0 then([],zW a b) else frac (subI (mulI (numR a) (denR b)).1 (mulI (numR b) (denR a)).1) (mulI (denR a) (denR b))
def mulR(a b:L8):L8×Int:=if jk a b≠0 then([],jk a b) else frac (mulI (numR a) (numR b)) (mulI (denR a) (denR b))
def divR(a b:L8):L8×Int:=if jk a b≠0 then([],jk a b) else if numR b=[48] then([],16) else frac (mulI (numR a) (denR b)) (mulI (denR a) (numR b))
def cmpR(a b:L8):Int×Int:=if zW a b≠0 then(0,zW a b) else Qx (mulI (numR a) (denR b)).1 (mulI (numR b) (denR a)).1
end Go.Nov
namespace Go.Nov
def dmQ(s t:L8):Nat:=if negI s=true/\0<numI s%numI t then numI s/numI t+1 else numI s/numI t
def dmM(s t:L8):Nat:=if negI s=true/\0<numI s%numI t then numI t - numI s%numI t else numI s%numI t
def dmI(s t:L8):L8×L8×Int:=
 if zu s t≠0 then([],[],zu s t) else if numI t=0 then([],[],16) else((wr (negI s != negI t) (dmQ s t)).1,(wr false (dmM s t)).1,0)
theorem zft{s:L8}(h:errI s=0):∃ k,k<=1000/\numI s<10^k:=by
 obtain⟨_,h1,_,h2⟩:=Z9 h;exact⟨_,h2,y4 h1⟩
def room(x:Nat):Prop:=(dec x).length<=1000
theorem room_le{x y:Nat}(h:x<=y)(hy:room y):room x:=by
 rcases aR (dec y).length (dec x).length with h1 | h1
 ·have:=Ten.zZ h1;omega
 ·exact bP h1 hy
theorem j5{s:L8}(h:errI s=0):room (numI s):=by
 obtain⟨k,h1,h2⟩:=zft h;exact bP (Zv h2) h1
theorem vU{neg:Bool}{x:Nat}(h:room x):(wr neg x).2=0:=by
 unfold wr;split
 ·rfl
 ·rw [aO (by have:(dec x).length<=1000:=h; omega)]
theorem zcs{s t:L8}(hs:errI s=0)(ht:numI t≠0):room (dmQ s t):=by
 have h:=j5 hs;unfold dmQ;split
 ·rename_i hc;by_cases h1:numI t=1
  ·rw [h1,Nat.mod_one] at hc; omega
  ·refine room_le ?_ h;have h2:numI s/numI t<=numI s/2:=Nat.div_le_div_left (by omega) (by omega);have h3:numI s≠0:=λh0=>by rw [h0,Nat.zero_mod] at hc; omega
   by_cases h4:numI s=1
   ·have:numI s/numI t=0:=Nat.div_eq_of_lt (by omega);omega
   ·omega
 ·exact room_le (Nat.div_le_self _ _) h
theorem zej{s t:L8}(ht:errI t=0)(h0:numI t≠0):room (dmM s t):=by
 have h:=j5 ht;have hm:=Nat.mod_lt (numI s) (bV h0);unfold dmM;split
 ·exact room_le (Nat.sub_le _ _) h
 ·exact room_le (by omega) h
end Go.Nov
namespace Go.Nov
theorem ku:wr false 1=([49],0):=by
 have h:dec 1=[1]:=by
  show Ten.canon 1=[1];rw [Ten.qQ (by decide)];exact congrArg (1 :: ·) Ten.zH
 simp [wr,h,txt,sgn,byt]
theorem XK{x:Nat}(h:room x):(wr false x).1=[49]↔x=1:=by
 constructor
 ·intro e;have:=(uS (vU (neg:=false) h)).2.1;rw [e] at this;exact this.symm
 ·rintro rfl;rw [ku]
theorem zcv{x:Nat}(h0:x≠0)(h:room x):[45]++(wr false x).1=(wr true x).1:=by
 unfold wr;rw [aO h0,aO h0,aO (by have:(dec x).length<=1000:=h; omega),aO (by have:(dec x).length<=1000:=h; omega)];rfl
theorem kb{t:L8}(h:errI t=0):t=[48]↔numI t=0:=by
 constructor
 ·rintro rfl; rfl
 ·intro h0;obtain⟨neg,b,h1,h2,h3,h4,h5,h6⟩:=WE h;have hb:numD b=0:=by simpa [numI,h2] using h0
  cases b with
  | nil=>exact absurd rfl h5
  | cons c r=>
   have hc:=h4 c (by simp)
   have e:numD (c::r)=(c.toNat - 48)*10^r.length+numD r:=by
    have:=vM [c] r;simp only [List.singleton_append] at this;rw [this];simp [numD]
   rw [e] at hb
   have hc0:c.toNat=48:=by
    rcases bC (c.toNat - 48) with h7 | h7
    ·omega
    ·have:=Nat.mul_pos h7 (Nat.pow_pos (n:=r.length) (show 0<10 by decide));omega
   have hc1:c=48:=UInt8.toNat_inj.1 (by rw [hc0]; rfl);subst hc1
   have hr:r=[]:=by
    cases r with
    | nil=>rfl
    | cons d r=>
     have:=kB (neg:=neg) (b:=48::d::r) rfl (by simp);rw [this] at h3; cases h3
   subst hr;cases neg with
   | true=>cases h3
   | false=>simpa [sgn] using h1
theorem VM{s:L8}{b:Bool}{g:Nat}(hs:errI s=0)(h0:g≠0)(hg:room g)(hd:g ∣ numI s):dmI s (wr b g).1=((wr (negI s != b) (numI s/g)).1,[48],0):=by
 obtain⟨h1,h2,h3⟩:=uS (vU (neg:=b) hg);have hb:negI (wr b g).1=b:=by rw [h3]; simp [h0]
 have he:zu s (wr b g).1=0:=zl.2 ⟨hs,h1⟩;have hm:numI s%g=0:=Nat.mod_eq_zero_of_dvd hd;unfold dmI;rw [aO (by rw [he]; decide),h2,aO h0,hb]
 have hq:dmQ s (wr b g).1=numI s/g:=by
  unfold dmQ;rw [h2,hm,aO (by omega)]
 have hr:dmM s (wr b g).1=0:=by
  unfold dmM;rw [h2,hm,aO (by omega)]
 rw [hq,hr];rfl
theorem Kt{s t:L8}(ht:errI t=0)(h0:numI t≠0):Nat.gcd (numI s) (numI t)≠0/\room (Nat.gcd (numI s) (numI t)):=by
 have hp:=bV h0;refine⟨λh=> ?_,room_le (Nat.le_of_dvd hp (Nat.gcd_dvd_right _ _)) (j5 ht)⟩;have:=Nat.eq_zero_of_gcd_eq_zero_right h;exact h0 this
end Go.Nov
namespace Go.Nov
theorem zc6:errI [49]=0:=rfl
theorem qg{a:L8}(h:errR a=0):errI (numR a)=0/\errI (denR a)=0/\negI (denR a)=false/\numI (denR a)≠0:=by
 unfold errR at h;unfold numR denR;cases hc:(cutR a).2.2 with
 | true=>
  rw [hc] at h;simp only [if_true] at h ⊢;split at h
  ·cases h
  ·rename_i h1;simp only [not_or] at h1;split at h
   ·cases h
   ·rename_i h2;simp only [not_or,Classical.not_not] at h2;refine⟨h2.1,h2.2,by simpa using h1.2.2.1,λh0=> ?_⟩;exact h1.2.2.2.1 ((kb h2.2).2 h0)
 | false=>
  rw [hc] at h;simp only [Bool.false_eq_true,if_false] at h ⊢
  have:(cutR a).1=a:=by
   unfold cutR at hc ⊢;split at hc
   ·cases hc
   ·rename_i hn; rw [aO hn]
  rw [this];exact⟨h,zc6,rfl,by decide⟩
theorem VW(a:L8):(numR a).length<=a.length:=(WG a).1
theorem VS(a:L8):(denR a).length<=a.length+1:=by
 unfold denR;split
 ·exact bP (WG a).2 (Nat.le_succ _)
 ·simp
theorem vG{s t:L8}(h:zu s t=0):(mulI s t).2=0/\errI (mulI s t).1=0\/mulI s t=([],14):=by
 unfold mulI;rw [aP h];exact(XU _ _).imp (λh=>⟨h,(uS h).1⟩) id
theorem zbi{s t:L8}(h:zu s t=0):(addI s t).2=0/\errI (addI s t).1=0\/addI s t=([],14):=by
 unfold addI;rw [aP h];exact(XU _ _).imp (λh=>⟨h,(uS h).1⟩) id
theorem zfq{s t:L8}(h:zu s t=0):(subI s t).2=0/\errI (subI s t).1=0\/subI s t=([],14):=by
 unfold subI;rw [aP h];exact(XU _ _).imp (λh=>⟨h,(uS h).1⟩) id
end Go.Nov
namespace Go.Nov
def stp(e:Int)(f:L8->L8->L8×Int)(x y:L8):L8×Int:=if e≠0 then([],e) else f x y
theorem zhg{e:Int}{f:L8->L8->L8×Int}{x y:L8}(h:(f x y).1.length<=1001):(stp e f x y).1.length<=1001:=by
 unfold stp;split
 ·simp
 ·exact h
theorem qo{e:Int}(h:e≠0)(f:L8->L8->L8×Int)(x y:L8):stp e f x y=([],e):=aP h
theorem wB(f:L8->L8->L8×Int)(x y:L8):stp 0 f x y=f x y:=aO (by simp)
def Qs(f:L8->L8->L8×Int)(a b:L8):L8×Int:=
 if zW a b≠0 then([],zW a b) else frac (f (mulI (numR a) (denR b)).1 (mulI (numR b) (denR a)).1) (mulI (denR a) (denR b))
section
variable {a b n m d c:L8} {e:Int} (hp:(e≠0/\jk a b=e)\/(e=0/\errR a=0/\errR b=0/\n=numR a/\m=numR b/\d=denR a/\c=denR b))
include hp
theorem uU{f:L8->L8->L8×Int}(hf:∀ {s t:L8},zu s t=0->(f s t).2=0/\errI (f s t).1=0\/f s t=([],14)){r1 r2 r3 r4 r5:L8×Int}
  (h1:r1=stp e mulI n c) (h2:r2=stp r1.2 mulI m d) (h3:r3=stp r2.2 f r1.1 r2.1) (h4:r4=stp r3.2 mulI d c) (h5:r5=stp r4.2 jQ r3.1 r4.1):r5=Qs f a b:=by
 rcases hp with ⟨he,h2e⟩ | ⟨rfl,ha,hb,rfl,rfl,rfl,rfl⟩
 ·have hc:zW a b=e:=by unfold zW; rw [aP (by rw [h2e]; exact he)]; exact h2e
  unfold Qs;rw [hc,aP he];rw [qo he] at h1;subst h1;rw [qo he] at h2;subst h2;rw [qo he] at h3;subst h3;rw [qo he] at h4;subst h4;rw [h5,qo he]
 ·obtain⟨a1,a2,_⟩:=qg ha;obtain⟨b1,b2,_⟩:=qg hb;have he2:jk a b=0:=by unfold jk; rw [aP ha]; exact hb
  have e14:(14:Int)≠0:=by decide
  rw [wB] at h1;have hc:zW a b=if(mulI (numR a) (denR b)).2≠0\/(mulI (numR b) (denR a)).2≠0 then 14 else 0:=by unfold zW; rw [aO (by rw [he2]; simp)]
  rcases vG (zl.2 ⟨a1,b2⟩) with ⟨g1,k1⟩ | g1
  ·rw [<- h1] at g1 k1;rw [g1,wB] at h2;rcases vG (zl.2 ⟨b1,a2⟩) with ⟨g2,k2⟩ | g2
   ·rw [<- h2] at g2 k2;rw [g2,wB] at h3;have hc0:zW a b=0:=by rw [hc,aO]; rw [<- h1,<- h2,g1,g2]; simp
    unfold Qs;rw [hc0,aO (by simp),<- h1,<- h2,<- h3];rcases hf (zl.2 ⟨k1,k2⟩) with ⟨g3,k3⟩ | g3
    ·rw [<- h3] at g3 k3;rw [g3,wB] at h4;unfold frac;rw [<- h4,h5];rcases vG (zl.2 ⟨a2,b2⟩) with ⟨g4,k4⟩ | g4
     ·rw [<- h4] at g4;rw [g3,g4,aO (by simp),wB]
     ·rw [<- h4] at g4;rw [g4,aP (by simp),qo e14]
    ·rw [<- h3] at g3;have q4:r4=([],14):=by rw [h4,g3]; exact qo e14 _ _ _
     unfold frac;rw [aP (by rw [g3]; simp),h5,q4,qo e14]
   ·rw [<- h2] at g2;have hc0:zW a b=14:=by rw [hc,aP]; rw [<- h2,g2]; simp
    unfold Qs;rw [hc0,aP e14];have q3:r3=([],14):=by rw [h3,g2]; exact qo e14 _ _ _
    have q4:r4=([],14):=by rw [h4,q3]; exact qo e14 _ _ _
    rw [h5,q4,qo e14]
  ·rw [<- h1] at g1;have hc0:zW a b=14:=by rw [hc,aP]; rw [<- h1,g1]; simp
   unfold Qs;rw [hc0,aP e14];have q2:r2=([],14):=by rw [h2,g1]; exact qo e14 _ _ _
   have q3:r3=([],14):=by rw [h3,q2]; exact qo e14 _ _ _
   have q4:r4=([],14):=by rw [h4,q3]; exact qo e14 _ _ _
   rw [h5,q4,qo e14]
theorem JV{x y z w:L8}{r1 r2 r3:L8×Int}(h1:r1=stp e mulI x y)(h2:r2=stp r1.2 mulI z w)(h3:r3=stp r2.2 jQ r1.1 r2.1)
  (hv:errR a=0->errR b=0->zu x y=0/\zu z w=0):r3=if jk a b≠0 then([],jk a b) else frac (mulI x y) (mulI z w):=by
 rcases hp with ⟨he,h2e⟩ | ⟨rfl,ha,hb,_⟩
 ·rw [h2e,aP he];rw [qo he] at h1;subst h1;rw [qo he] at h2;subst h2;rw [h3,qo he]
 ·obtain⟨v1,v2⟩:=hv ha hb;have he2:jk a b=0:=by unfold jk; rw [aP ha]; exact hb
  have e14:(14:Int)≠0:=by decide
  rw [he2,aO (by simp)];rw [wB] at h1;unfold frac;rcases vG v1 with ⟨g1,_⟩ | g1
  ·rw [<- h1] at g1 ⊢;rw [g1,wB] at h2;rcases vG v2 with ⟨g2,_⟩ | g2
   ·rw [<- h2] at g2 ⊢;rw [g1,g2,aO (by simp),h3,g2,wB]
   ·rw [<- h2] at g2 ⊢;rw [g2,aP (by simp),h3,g2,qo e14]
  ·rw [<- h1] at g1 ⊢;have q2:r2=([],14):=by rw [h2,g1]; exact qo e14 _ _ _
   rw [g1,aP (by simp),h3,q2,qo e14]
theorem za1{r1 r2:L8×Int}(h1:r1=stp e mulI n c)(h2:r2=stp r1.2 mulI m d):(if r2.2≠0 then(0,r2.2) else Qx r1.1 r2.1)=cmpR a b:=by
 unfold cmpR;rcases hp with ⟨he,h2e⟩ | ⟨rfl,ha,hb,rfl,rfl,rfl,rfl⟩
 ·have hc:zW a b=e:=by unfold zW; rw [aP (by rw [h2e]; exact he)]; exact h2e
  rw [qo he] at h1;subst h1;rw [qo he] at h2;subst h2;rw [hc,aP he,aP he]
 ·obtain⟨a1,a2,_⟩:=qg ha;obtain⟨b1,b2,_⟩:=qg hb;have he2:jk a b=0:=by unfold jk; rw [aP ha]; exact hb
  have e14:(14:Int)≠0:=by decide
  have hc:zW a b=if(mulI (numR a) (denR b)).2≠0\/(mulI (numR b) (denR a)).2≠0 then 14 else 0:=by unfold zW; rw [aO (by rw [he2]; simp)]
  rw [wB] at h1;rcases vG (zl.2 ⟨a1,b2⟩) with ⟨g1,k1⟩ | g1
  ·rw [<- h1] at g1;rw [g1,wB] at h2;rcases vG (zl.2 ⟨b1,a2⟩) with ⟨g2,k2⟩ | g2
   ·rw [<- h2] at g2;have hc0:zW a b=0:=by rw [hc,aO]; rw [<- h1,<- h2,g1,g2]; simp
    rw [hc0,aO (by rw [g2]; simp),aO (by simp),<- h1,<- h2]
   ·rw [<- h2] at g2;have hc0:zW a b=14:=by rw [hc,aP]; rw [<- h2,g2]; simp
    rw [hc0,g2,aP e14,aP e14]
  ·rw [<- h1] at g1;have hc0:zW a b=14:=by rw [hc,aP]; rw [<- h1,g1]; simp
   have q2:r2=([],14):=by rw [h2,g1]; exact qo e14 _ _ _
   rw [hc0,q2,aP e14,aP e14]
end
end Go.Nov
end
section
set_option maxRecDepth 100000
open Go Go.Sx Go.Proofs Go.Nov
namespace Go.Proofs.Tryz
attribute [local simp] eqKV eqA eqA0 eqH eqB eqL eqL0
def dmC:Ctr:=ctrP true (λp:L8×L8=>[.str p.1,.str p.2]) (λp=>p.1.length<2^62/\p.2.length<2^62) (λp r=>r=dmI p.1 p.2) (λ_ r=>(.tup [.str r.1,.str r.2.1,.i r.2.2],[]))
noncomputable def GDm:=tb Wu (tb J7 (tb YE (tb Qj (tb Q2 tz))))
theorem za6:zc prog 148 dmC:=by
 refine zh' f148 λp hp O w0 Q hq=> ?_
 obtain⟨s,t⟩:=p;obtain⟨hs,ht⟩:=hp;replace hq:=hq _ rfl;simp only at hs ht hq;refine zb.n GDm.h [] (.ex (q17 [.str s,.str t]) λn=>.all (λ(r:Int×(Bool×Nat)×Bool×Nat)=>r=if zu n.1 n.2=0 then((0:Int),(negI n.1,numI n.1),negI n.2,numI n.2) else(zu n.1 n.2,(false,0),false,0)) λn=>let v5:=canon n.2.1.2;let v4:List AV:=[.bool n.2.1.1,.sl v5.length 1 (natG .u32 v5)];let v3:=canon n.2.2.2;let v6:List AV:=[.bool n.2.2.1,.sl v3.length 1 (natG .u32 v3)];let v2:List Blk:=[.box v4,.box v6,.arr 1 1 (zd 1 [.int .u32 1])];let v1:List Blk:=[.box v4,.box v6];.N (n.1=0) (.R [.str #[].toList,.str #[].toList,.i n.1] v1) (.D (((canon n.2.2.2).length:Int)=0) (.R [.str #[].toList,.str #[].toList,.i 16] v1) (.ex (q18 [.sl v5.length 1 (natG .u32 v5),.sl v3.length 1 (natG .u32 v3)]) λn_1=>.all (λ(r:Nat×Nat)=>r=(n_1.1/n_1.2,n_1.1%n_1.2)) λn_2=>let v8:=canon n_2.2;let v7:=canon n_2.1;.ite (bif n.2.1.1 then decide ((0:Int)<((canon n_2.2).length:Int)) else false) (.ex (q21 [.sl v7.length 1 (natG .u32 v7),.sl 1 1 (zf (zd 1 [.int .u32 1]) 0)]) λn_3=>.all (λ(d:Nat)=>d=n_3.1+n_3.2) λn_4=>.ex (q12 [.sl v3.length 1 (natG .u32 v3),.sl v8.length 1 (natG .u32 v8)]) λn_5=>.all (λ(d:Nat)=>d=n_5.1 - n_5.2) λn_6=>.ex (q19 [.agg [.bool !Prod.fst n.2.1 == n.2.2.1,.sl (canon n_4).length 1 (natG .u32 (canon n_4))]]) λn_7=>.all (λ(r:L8×Int)=>r=wr n_7.1 n_7.2) λn_8=>.N (n_8.2=0) (.R [.str #[].toList,.str #[].toList,.i n_8.2] v2) (.ex (q19 [.agg [.bool false,.sl (canon n_6).length 1 (natG .u32 (canon n_6))]]) λn_9=>.all (λ(r:L8×Int)=>r=wr n_9.1 n_9.2) λn_10=>.R [.str n_8.1,.str n_10.1,.i 0] v2)) (.ex (q19 [.agg [.bool !Prod.fst n.2.1 == n.2.2.1,.sl v7.length 1 (natG .u32 v7)]]) λn_3=>.all (λ(r:L8×Int)=>r=wr n_3.1 n_3.2) λn_4=>.N (n_4.2=0) (.R [.str #[].toList,.str #[].toList,.i n_4.2] v1) (.ex (q19 [.agg [.bool false,.sl v8.length 1 (natG .u32 v8)]]) λn_5=>.all (λ(r:L8×Int)=>r=wr n_5.1 n_5.2) λn_6=>.R [.str n_4.1,.str n_6.1,.i 0] v1))))) ?_;simp only [q12,q17,q18,q19,q21,Tree.holds,ze];refine⟨(s,t),⟨by simp,by omega,by omega⟩,⟨_,rfl⟩,?_⟩;rintro _ rfl;simp only;by_cases he:zu s t=0
 ·obtain⟨e1,e2⟩:=zl.1 he;have c1:=zV (qD e1) (by decide);have c2:=zV (qD e2) (by decide);simp only [aP he];refine⟨λh=>(by simp at h),λ_=> ?_⟩;refine⟨λh0=> ?_,λh0=> ?_⟩
  ·have h0:numI t=0:=xD.1 (by have:=aB h0; omega);have e:dmI s t=([],[],16):=by rw [dmI,aO (by rw [he]; decide),aP h0]
   rw [e] at hq;exact RetR.scal hq rfl (by simp [resV])
  have h0:numI t≠0:=λh=>aC h0 (by rw [xD.2 h]; rfl)
  have e:dmI s t=((wr (negI s != negI t) (dmQ s t)).1,(wr false (dmM s t)).1,0):=by rw [dmI,aO (by rw [he]; decide),aO h0]
  rw [e] at hq;have rq:=zcs e1 h0;have rm:=zej (s:=s) e2 h0;have eL:∀ a b:Nat,eqL [.sl (canon a).length 1 (natG .u32 (canon a)),.sl (canon b).length 1 (natG .u32 (canon b))] [.sl (canon a).length 1 (natG .u32 (canon a)),.sl (canon b).length 1 (natG .u32 (canon b))]:=λa b=>⟨⟨rfl,rfl,za _ _ _⟩,⟨rfl,rfl,za _ _ _⟩,trivial⟩
  have eV:∀ (b:Bool) (a:Nat),eqL [.agg [.bool b,.sl (canon a).length 1 (natG .u32 (canon a))]] [.agg [.bool b,.sl (canon a).length 1 (natG .u32 (canon a))]]:=λb a=>⟨⟨rfl,⟨rfl,rfl,za _ _ _⟩,trivial⟩,trivial⟩
  have big:∀ {a:Nat},room a->(canon a).length<1000000:=λ{a} h=>by
   obtain⟨h3,h4,_⟩:=uS (vU (neg:=false) h);have:=zV (qD h3) (by decide);rw [h4] at this; omega
  refine⟨(numI s,numI t),⟨eL _ _,c1,c2,bV h0⟩,⟨_,rfl⟩,?_⟩;rintro _ rfl;simp only;rw [Zw];have hmod:=Nat.mod_lt (numI s) (bV h0);refine⟨λhc=> ?_,λhc=> ?_⟩
  ·have hc:negI s=true/\0<numI s%numI t:=by
    cases hn:negI s with
    | false=>rw [hn] at hc; cases hc
    | true=>rw [hn] at hc; exact⟨rfl,aB hc⟩
   have eQ:dmQ s t=numI s/numI t+1:=aP hc;have eM:dmM s t=numI t - numI s%numI t:=aP hc;rw [eQ,eM] at hq;rw [eQ] at rq;rw [eM] at rm
   have hone:canon 1=[1]:=by
    rw [qQ (by decide)];exact congrArg (1 :: ·) zH
   have rdiv:=room_le (Nat.div_le_self (numI s) (numI t)) (j5 e1)
   have hdl:(canon (numI s/numI t)).length<100000:=by
    have:=zV (Nat.lt_of_le_of_lt (Nat.div_le_self (numI s) (numI t)) (qD e1)) (by decide);exact this
   refine⟨(numI s/numI t,1),⟨⟨⟨rfl,rfl,za _ _ _⟩,⟨by rw [hone]; rfl,rfl,?_⟩,trivial⟩,hdl,by show(canon 1).length<100000; rw [hone]; decide⟩,⟨_,rfl⟩,?_⟩
   ·intro j o hj ho;have:j=0:=by omega
    subst this;have:o=0:=by omega
    subst this;show AV.int .u32 1 = .int .u32 (((canon 1).getD 0 0:Nat):Int);rw [hone]; rfl
   rintro _ rfl;refine⟨(numI t,numI s%numI t),⟨eL _ _,by show(canon (numI t)).length<1000000; omega,by show numI s%numI t<=numI t; omega⟩,⟨_,rfl⟩,?_⟩;rintro _ rfl;refine⟨(negI s != negI t,numI s/numI t+1),⟨eV _ _,big rq⟩,⟨_,rfl⟩,?_⟩;rintro _ rfl;have hz:=vU (neg:=(negI s != negI t)) rq;refine⟨λh=>by simp [hz] at h,λ_=>⟨(false,numI t - numI s%numI t),⟨eV _ _,big rm⟩,⟨_,rfl⟩,?_⟩⟩;rintro _ rfl;exact RetR.scal hq rfl (by simp [resV])
  ·have hc:¬ (negI s=true/\0<numI s%numI t):=by
    rintro⟨g1,g2⟩;rw [g1,aX g2] at hc;cases hc
   have eQ:dmQ s t=numI s/numI t:=aO hc;have eM:dmM s t=numI s%numI t:=aO hc;rw [eQ,eM] at hq;rw [eQ] at rq;rw [eM] at rm;refine⟨(negI s != negI t,numI s/numI t),⟨eV _ _,big rq⟩,⟨_,rfl⟩,?_⟩;rintro _ rfl;have hz:=vU (neg:=(negI s != negI t)) rq;refine⟨λh=>by simp [hz] at h,λ_=>⟨(false,numI s%numI t),⟨eV _ _,big rm⟩,⟨_,rfl⟩,?_⟩⟩;rintro _ rfl;exact RetR.scal hq rfl (by simp [resV])
 ·simp only [aO he];refine⟨λ_=> ?_,λh=>(by simp [he] at h)⟩;have e:dmI s t=([],[],zu s t):=aP he;rw [e] at hq;exact RetR.scal hq rfl (by simp [resV])
def zbn:Ctr:=ctrP true (λs:L8=>[.str s]) (λs=>s.length<2^62) (λs r=>r=if errR s=0 then(numR s,denR s,0) else([],[],errR s)) (λ_ (r:L8×L8×Int)=>(.tup [.str r.1,.str r.2.1,.i r.2.2],[]))
noncomputable def GPa:=tb jM (tb V4 tz)
theorem zdp:zc prog 116 zbn:=by
 refine zh' f116 λs hs O w0 Q hq=> ?_
 replace hq:=hq _ rfl;refine zb.n GPa.h [] (.ex (q15 [.str s]) λn=>.all (λ(r:Int)=>r=errR n) λn=>.N (n=0) (.R [.str #[].toList,.str #[].toList,.i n] []) (.ex (q15 [.str s]) λn=>.all (λ(r:L8×L8×Bool)=>r=cutR n) λn=>.ite (!Prod.snd n.2) (.R [.str n.1,.str #[(49:UInt8)].toList,.i 0] []) (.R [.str n.1,.str n.2.1,.i 0] []))) ?_;simp only [q15,Tree.holds,ze];refine⟨s,⟨by simp,hs⟩,⟨_,rfl⟩,?_⟩;rintro _ rfl;refine⟨λh=> ?_,λh=>⟨s,⟨by simp,hs⟩,⟨_,rfl⟩,?_⟩⟩
 ·have h:errR s≠0:=by simpa using h
  rw [aO h] at hq;exact RetR.scal hq rfl (by simp [resV])
 ·have h:errR s=0:=by simpa using h
  rw [aP h] at hq;rintro _ rfl;refine⟨λg=> ?_,λg=> ?_⟩
  ·have e:denR s=[49]:=by unfold denR; rw [aO (by simpa using g)]
   rw [e] at hq;exact RetR.scal hq rfl (by simp [resV,numR])
  ·have e:denR s=(cutR s).2.1:=by unfold denR; rw [aP (by simpa using g)]
   rw [e] at hq;exact RetR.scal hq rfl (by simp [resV,numR])
def Uf:Ctr:=ctrP true (λp:L8×L8=>[.str p.1,.str p.2]) (λp=>p.1.length<2^62/\p.2.length<2^62) (λp r=>r=jQ p.1 p.2) (λ_ r=>(.tup [.str r.1,.i r.2],[]))
noncomputable def GMk:=tb zd5 (tb za6 tz)
theorem zg4:zc prog 120 Uf:=by
 refine zh' f120 λp hp O w0 Q hq=> ?_
 obtain⟨s,t⟩:=p;obtain⟨hs,ht⟩:=hp;replace hq:=hq _ rfl;simp only at hs ht hq;refine zb.n GMk.h [] (.ex (q17 [.str s,.str t]) λn=>.all (λ(r:L8×Int)=>r=gcdR n.1 n.2) λn=>.N (n.2=0) (.R [.str #[].toList,.i n.2] []) (.D (t=#[(48:UInt8)].toList) (.R [.str #[].toList,.i 16] []) (.side ((0:Int)<=0/\(0:Int)<t.length) (.D ((↑(UInt8.toNat (t.getD 0 (0:UInt8))):Int)=45) (.side (1+n.1.length<=9223372036854775807) (.ex (q17 [.str s,.str (#[(45:UInt8)].toList++n.1)]) λn_1=>.all (λ(r:L8×L8×Int)=>r=dmI n_1.1 n_1.2) λn_2=>.ex (q17 [.str t,.str (#[(45:UInt8)].toList++n.1)]) λn=>.all (λ(r:L8×L8×Int)=>r=dmI n.1 n.2) λn=>.D (n.1=#[(49:UInt8)].toList) (.R [.str n_2.1,.i 0] []) (.side (n_2.1.length+1<=9223372036854775807) (.side (List.length (n_2.1++#[(47:UInt8)].toList)+n.1.length<=9223372036854775807) (.R [.str (n_2.1++#[(47:UInt8)].toList++n.1),.i 0] []))))) (.ex (q17 [.str s,.str n.1]) λn_1=>.all (λ(r:L8×L8×Int)=>r=dmI n_1.1 n_1.2) λn_2=>.ex (q17 [.str t,.str n.1]) λn=>.all (λ(r:L8×L8×Int)=>r=dmI n.1 n.2) λn=>.D (n.1=#[(49:UInt8)].toList) (.R [.str n_2.1,.i 0] []) (.side (n_2.1.length+1<=9223372036854775807) (.side (List.length (n_2.1++#[(47:UInt8)].toList)+n.1.length<=9223372036854775807) (.R [.str (n_2.1++#[(47:UInt8)].toList++n.1),.i 0] [])))))))) ?_;simp only [q17,Tree.holds,ze,inR,lo,hi,aD];refine⟨(s,t),⟨by simp,by omega,by omega⟩,⟨_,rfl⟩,?_⟩;rintro _ rfl;by_cases he:zu s t=0
 ·obtain⟨e1,e2⟩:=zl.1 he;have eg:gcdR s t=wr false (Nat.gcd (numI s) (numI t)):=aP he;by_cases h0:numI t=0
  ·have ht0:t=[48]:=(kb e2).2 h0;have hg0:Nat.gcd (numI s) (numI t)=numI s:=by rw [h0,Nat.gcd_zero_right]
   have hz:(gcdR s t).2=0:=by rw [eg,hg0]; exact vU (j5 e1)
   have e:jQ s t=([],16):=by rw [jQ,aO (by rw [he]; decide),aP h0]
   rw [e] at hq;refine⟨λh=>(by simp [hz] at h),λ_=>⟨λ_=>RetR.scal hq rfl (by simp [resV]),λh=>(by simp [ht0] at h)⟩⟩
  ·obtain⟨g0,gr⟩:=Kt (s:=s) e2 h0;have hz:(gcdR s t).2=0:=by rw [eg]; exact vU gr
   have ht0:t≠[48]:=λh=>h0 ((kb e2).1 h)
   have htn:t≠[]:=by rintro rfl; simp [KA] at e2
   have hneg:=Ju htn;have e:jQ s t=(YV (negI s != negI t) (numI s) (numI t),0):=by rw [jQ,aO (by rw [he]; decide),aO h0]
   rw [e,YV] at hq;have ds:Nat.gcd (numI s) (numI t) ∣ numI s:=Nat.gcd_dvd_left _ _;have dt:Nat.gcd (numI s) (numI t) ∣ numI t:=Nat.gcd_dvd_right _ _;generalize hgg:Nat.gcd (numI s) (numI t)=g at *
   have rt:=room_le (Nat.div_le_self (numI t) g) (j5 e2);have l1:=kC false g;have l2:=kC true g
   have fin:∀ b:Bool,b=negI t->∀ (z w:L8×L8×Int),z=dmI s (wr b g).1->w=dmI t (wr b g).1 ->
     (decide (w.1=[49])=true->RetR Uf 0 Q [.str z.1,.i 0] [])/\(decide (w.1=[49])=false->z.1.length+1<=9223372036854775807/\(z.1.length+1<=9223372036854775807->(z.1++[47]).length+w.1.length<=9223372036854775807/\((z.1++[47]).length+w.1.length<=9223372036854775807->RetR Uf 0 Q [.str (z.1++[47]++w.1),.i 0] []))):=by
    rintro b rfl z w rfl rfl;rw [VM e1 g0 gr ds,VM e2 g0 gr dt];simp only;have:(negI t != negI t)=false:=by simp
    rw [this];have k1:=kC (negI s != negI t) (numI s/g);have k2:=kC false (numI t/g);refine⟨λh=> ?_,λh=>⟨by omega,λ_=>⟨by simp; omega,λ_=> ?_⟩⟩⟩
    ·have h1:=(XK rt).1 (aB h);rw [aP h1] at hq;exact RetR.scal hq rfl (by simp [resV])
    ·have h1:¬ numI t/g=1:=λh1=>aC h ((XK rt).2 h1)
     rw [aO h1] at hq;exact RetR.scal hq rfl (by simp [resV])
   rw [eg] at hz ⊢;refine⟨λh=>(by simp [hz] at h),λ_=>⟨λh=>absurd (aB h) ht0,λ_=>⟨⟨by omega,by have:=List.length_pos_iff.2 htn; omega⟩,λ_=>⟨λhb=>⟨by omega,λ_=> ?_⟩,λhb=> ?_⟩⟩⟩⟩
   ·have hn:negI t=true:=by
     rw [hneg,aK];exact Km (aB hb)
    rw [zcv g0 gr];refine⟨(s,(wr true g).1),⟨by simp,by show s.length<_; omega,by show(wr true g).1.length<_; omega⟩,⟨_,rfl⟩,?_⟩;intro z hz;refine⟨(t,(wr true g).1),⟨by simp,by show t.length<_; omega,by show(wr true g).1.length<_; omega⟩,⟨_,rfl⟩,?_⟩;intro w hw;exact fin true hn.symm z w hz hw
   ·have hn:negI t=false:=by
     rw [hneg,aV];intro h;apply aC hb;rw [h]; rfl
    refine⟨(s,(wr false g).1),⟨by simp,by show s.length<_; omega,by show(wr false g).1.length<_; omega⟩,⟨_,rfl⟩,?_⟩;intro z hz;refine⟨(t,(wr false g).1),⟨by simp,by show t.length<_; omega,by show(wr false g).1.length<_; omega⟩,⟨_,rfl⟩,?_⟩;intro w hw;exact fin false hn.symm z w hz hw
 ·have eg:gcdR s t=([],zu s t):=aO he;have e:jQ s t=([],zu s t):=aP he;rw [e] at hq;rw [eg];exact⟨λ_=>RetR.scal hq rfl (by simp [resV]),λh=>by simp [he] at h⟩
end Go.Proofs.Tryz
end
section
namespace Go.Sx
variable [Stat]
section
variable {own own' O:Nat->Prop} {w w':World} {σ Z':List SE} {P:Program} {fn:Func} {Xp:List PanicEntry->Prop}
def upA0(d k:Nat):AV->AV->Prop
 | .nils,.osl i _ off n=>(d<=i/\i<d+k)/\off=0/\n=0
 | a,b=>a=b
def upL0(d k:Nat):List AV->List AV->Prop
 | [],[]=>True
 | a::l,b::m=>upA0 d k a b/\upL0 d k l m
 | _,_=>False
def upA1(d k:Nat):AV->AV->Prop
 | .agg l,.agg m=>upL0 d k l m
 | a,b=>upA0 d k a b
def upL1(d k:Nat):List AV->List AV->Prop
 | [],[]=>True
 | a::l,b::m=>upA1 d k a b/\upL1 d k l m
 | _,_=>False
def upA2(d k:Nat):AV->AV->Prop
 | .tup l,.tup m=>upL1 d k l m
 | a,b=>upA1 d k a b
def vj(k:Nat):List SE:=List.replicate k ⟨none,0⟩
theorem yQ.mono{g:Nat}{vals:Array Value}{R R':Value->World->Prop}(hR:∀ v w',R v w'->R' v w')(h:yQ P g vals w R):yQ P g vals w R':=by
 rcases h with ⟨h1,h2⟩ | ⟨v,w',h1,h2⟩
 ·exact .inl ⟨h1,h2.mono λe w' ⟨v,he,hv⟩=>⟨v,he,hR v w' hv⟩⟩
 ·exact .inr ⟨v,w',h1,hR v w' h2⟩
theorem kh{k i:Nat}{e:SE}(h:(σ++vj k)[i]?=some e):(i<σ.length/\σ[i]?=some e)\/(σ.length<=i/\e=⟨none,0⟩):=by
 rw [bT] at h;split at h
 ·rename_i hi; exact .inl ⟨hi,h⟩
 ·rename_i hi;right;refine⟨by omega,?_⟩;simp only [vj,List.getElem?_replicate] at h;split at h
  ·cases h; rfl
  ·cases h
theorem Q8{k b:Nat}(h:Mine (σ++vj k) b):Mine σ b:=by
 obtain⟨e,he,ad,h1,h2⟩:=h;rcases bY.1 he with he | he
 ·exact⟨e,he,ad,h1,h2⟩
 ·have:=List.eq_of_mem_replicate he;subst this;cases h1
theorem JS{k b:Nat}(h:Own O (σ++vj k) b):Own O σ b:=by
 rcases h with h | h
 ·exact .inl h
 ·exact .inr (Q8 h)
theorem yi(K:List Nat)(w:World)(σ:List SE)(k:Nat):Hold K w σ w (σ++vj k):=λi e he _=>by
 have hi:=(aG.1 he).1;exact⟨by rw [bL hi]; exact he,λad _ cs el h=>⟨cs,el,h,rfl⟩⟩
theorem JY{k:Nat}(hx:Ext own w own' w){a b:AV}{v:Value}(hu:upA0 σ.length k a b)(ha:Rep own w a σ v):Rep own' w b (σ++vj k) v:=by
 unfold upA0 at hu;split at hu
 ·obtain⟨⟨h1,h2⟩,rfl,rfl⟩:=hu;rename_i i sz _ _;simp only [Rep] at ha ⊢;refine⟨⟨none,0⟩,?_,by simp,none,0,ha,aJ _,.inl rfl⟩;rw [List.getElem?_append_right h1,vj,List.getElem?_replicate,aP (by omega)]
 ·subst hu;exact qi (K:=[]) hx (yi [] w σ k) _ _ (j6 _) ha
theorem Zz{k:Nat}(hx:Ext own w own' w):∀ {l m:List AV} {vs:List Value},upL0 σ.length k l m->RepL own w l σ vs->RepL own' w m (σ++vj k) vs
 | [],[],vs,_,h=>by simpa [RepL] using h
 | a::l,b::m,vs,hl,h=>by
  simp only [RepL] at h ⊢;obtain⟨v,r,hv,h1,h2⟩:=h;exact⟨v,r,hv,JY hx hl.1 h1,Zz hx hl.2 h2⟩
 | [],_::_,_,hl,_=>hl.elim
 | _::_,[],_,hl,_=>hl.elim
theorem Jk{k:Nat}(hx:Ext own w own' w){a b:AV}{v:Value}(hu:upA1 σ.length k a b)(ha:Rep own w a σ v):Rep own' w b (σ++vj k) v:=by
 unfold upA1 at hu;split at hu
 ·simp only [Rep] at ha ⊢;obtain⟨vs,hv,hr⟩:=ha;exact⟨vs,hv,Zz hx hu hr⟩
 ·exact JY hx hu ha
theorem Z1{k:Nat}(hx:Ext own w own' w):∀ {l m:List AV} {vs:List Value},upL1 σ.length k l m->RepL own w l σ vs->RepL own' w m (σ++vj k) vs
 | [],[],vs,_,h=>by simpa [RepL] using h
 | a::l,b::m,vs,hl,h=>by
  simp only [RepL] at h ⊢;obtain⟨v,r,hv,h1,h2⟩:=h;exact⟨v,r,hv,Jk hx hl.1 h1,Z1 hx hl.2 h2⟩
 | [],_::_,_,hl,_=>hl.elim
 | _::_,[],_,hl,_=>hl.elim
theorem zab{k:Nat}(hx:Ext own w own' w){a b:AV}{v:Value}(hu:upA2 σ.length k a b)(ha:Rep own w a σ v):Rep own' w b (σ++vj k) v:=by
 unfold upA2 at hu;split at hu
 ·simp only [Rep] at ha ⊢;obtain⟨vs,hv,hr⟩:=ha;exact⟨vs,hv,Z1 hx hu hr⟩
 ·exact Jk hx hu ha
def Ky(szs:List (Nat×(Nat->Nat->AV))):Heap:=szs.map λs=>.arr 0 s.1 s.2
theorem zgp(hx:Ext own w own' w){hs:Heap}(hh:HRep own w σ hs)(szs:List (Nat×(Nat->Nat->AV))):HRep own' w (σ++vj szs.length) (hs++Ky szs):=by
 have hl:=hh.len;refine⟨by simp [vj,Ky,hl],λi j e f a b he hf ha hb hij=> ?_,λi e a he ha=> ?_,λi e b he hb=> ?_⟩
 ·rcases kh he with ⟨_,he⟩ | ⟨_,rfl⟩
  ·rcases kh hf with ⟨_,hf⟩ | ⟨_,rfl⟩
   ·exact hh.inj i j e f a b he hf ha hb hij
   ·cases hb
  ·cases ha
 ·rcases kh he with ⟨_,he⟩ | ⟨_,rfl⟩
  ·exact hh.lt i e a he ha
  ·cases ha
 ·rcases kh he with ⟨hi,he⟩ | ⟨hi,rfl⟩
  ·rw [bL (by omega)] at hb;have:=jt (K:=[]) hx (yi [] w σ szs.length) (hh.blk i e b he hb) (λ_ _=>rfl)
   rwa [j9] at this
  ·rw [List.getElem?_append_right (by omega)] at hb;simp only [Ky,aN] at hb;cases hz:szs[i - hs.length]? with
   | none=>simp [hz] at hb
   | some s=>
    simp only [hz,Option.map_some,aE] at hb;subst hb;exact⟨rfl,.inl rfl⟩
def upQ(Q:AV×Heap->Prop)(p:AV×Heap):Prop:=Q p\/∃ (r:AV) (szs:List (Nat×(Nat->Nat->AV))),upA2 p.2.length szs.length p.1 r/\Q (r,p.2++Ky szs)
theorem jy.up{g:Nat}{c:Ctr}{args:List AV}{hc:Heap}{Q:AV×Heap->Prop}(h:jy P g c args hc (upQ Q)):jy P g c args hc Q:=by
 intro O w σ vals hg hh hr;refine yQ.mono ?_ (h O w σ vals hg hh hr);rintro v w' ⟨r,hs,Z',hq,h1,h2,h3,h4,h5,h6⟩;rcases hq with hq | ⟨r',szs,hu,hq⟩
 ·exact⟨r,hs,Z',hq,h1,h2,h3,h4,h5,h6⟩
 ·have hx:Ext (λb=>Own O Z' b\/(c.fresh=true/\b<w.heap.size)) w' (λb=>Own O (Z'++vj szs.length) b\/(c.fresh=true/\b<w.heap.size)) w':=
   ⟨rfl,rfl,rfl,aJ _,λ_ _ _=>rfl,λb hb=>.inl (hb.imp JS id)⟩
  have hl:hs.length=Z'.length:=h2.len.symm;refine⟨r',hs++Ky szs,Z'++vj szs.length,hq,zab hx (by rw [<- hl]; exact hu) h1,zgp hx h2 szs,⟨h3.old,λi e ad he had=> ?_,h3.stat.own λb hb=>JS hb⟩,by simp; omega,h5.Xw (yi [] w' Z' _),?_⟩
  ·rcases kh he with ⟨_,he⟩ | ⟨_,rfl⟩
   ·exact h3.dis i e ad he had
   ·cases had
  ·exact⟨h6.os,h6.tape,h6.output,h6.size,h6.keep,λb hb=>h6.grow b (Q8 hb)⟩
theorem Vm{X R:Type}{fresh:Bool}{inp:X->List AV}{pre:X->Prop}{post:X->R->Prop}{out:X->R->AV×Heap}{g:Nat}{c:Code}(hf:P.funcs[g]?=some fn)(hb:fn.body=some c) (hn:(fn.name == "runtime.NumGoroutine")=false)
  (H:∀ x,pre x->∀ (O:Nat->Prop) (w0:World) (Q:AV×Heap->Prop),(∀ r,post x r->Q (out x r)) ->
   zb P fn O 0 w0 [] (λ_ _ _=>False) (RetR (ctrP fresh inp pre post out) 0 (upQ Q)) [.code c] (entry fn (inp x))):zc P g (ctrP fresh inp pre post out):=by
 intro args hc Q hq _;simp only [ctrP] at hq;split at hq
 ·obtain⟨x,⟨h1,h4⟩,h5,h6⟩:=hq;refine jy.le h1 (jy.up (fn_k hf hb hn (λh=>rfl) λO w0 I0 hl=> ?_));have h0:I0=[]:=aU.1 (by simpa using hl);subst h0;exact H x h4 O w0 Q h6
 ·exact hq.elim
variable {pin:Nat} {w0:World} {I0:List SE} {a:Act}
theorem RetR.outs{ctr:Ctr}{Q:AV×Heap->Prop}{rs:List AV}{h:Heap}{r:AV}{hs:Heap}(L:List Nat)(hnd:w8 L=true)(hlt:(L.all λi=>decide (i<h.length))=true)(hq:Q (r,hs))(hn:ctr.fresh=true->new2 h L (resV rs)/\∀ i∈L,newB (h.getD i .dead))
  (he:eqA2 (exp2 h L (resV rs)) r) (hb:eqH (expH h L) hs) (hl:hs.length=L.length):RetR ctr 0 Q rs h:=
 ⟨L,hnd,λi hi=>by have:=bG.1 hlt i hi; simpa using this,by simp,hn,r,hs,qw he,.inl hb,hl,hq⟩
theorem RetR.keep{ctr:Ctr}{m:Nat}{Q:AV×Heap->Prop}{rs:List AV}{h:Heap}{r:AV}{hs:Heap}(L:List Nat)(hnd:w8 L=true)(hlt:(L.all λi=>decide (i<h.length))=true)(hj:∀ j,j<m->L[j]?=some j)(hf:ctr.fresh=false)(hq:Q (r,hs))
  (he:eqA2 (exp2 h L (resV rs)) r) (hb:eqH (expH h L) hs) (hl:hs.length=L.length):RetR ctr m Q rs h:=
 ⟨L,hnd,λi hi=>by have:=bG.1 hlt i hi; simpa using this,hj,(λhh=>absurd hh (by rw [hf]; decide)),r,hs,qw he,.inl hb,hl,hq⟩
end
end Go.Sx
end
section
set_option maxRecDepth 100000
open Go Go.Sx Go.Proofs Go.Nov
namespace Go.Proofs.Tryz
attribute [local simp] eqKV eqA eqA0 eqH eqB eqL eqL0
noncomputable def K77:=Go.Sx.aA f77
structure Pr where
 n:L8
 m:L8
 d:L8
 c:L8
 e:Int
def Pr.box(p:Pr):Blk:=.box [.str p.n,.str p.m,.str p.d,.str p.c,.i p.e]
def Pr.err(p:Pr)(e:Int):Pr:=⟨p.n,p.m,p.d,p.c,e⟩
inductive QOp where
 | add | sub | mul
def QOp.fn:QOp->Nat
 | .add=>82
 | .sub=>80
 | .mul=>79
def QOp.has:QOp->Prop
 | .sub=>True
 | _=>True
def QOp.op:QOp->L8->L8->L8×Int
 | .add=>addI
 | .sub=>subI
 | .mul=>mulI
def qX(a b:L8):Pr:=if errR a≠0 then⟨[],[],[],[],errR a⟩ else if errR b≠0 then⟨numR a,[],denR a,[],errR b⟩ else⟨numR a,numR b,denR a,denR b,0⟩
def Yc:Ctr:=ctrT false false (λp:L8×L8=>[.str p.1,.str p.2]) (λ_=>[]) (λp=>p.1.length<2^62/\p.2.length<2^62) (λp r=>r=qX p.1 p.2) (λ_ (r:Pr)=>(.ptr 0 0,[r.box]))
def Xi:Ctr:=ctrT false false (λp:Pr×QOp=>[.ptr 0 0,.fn p.2.fn [] []]) (λp=>[p.1.box]) (λ_=>True) (λ_ (_:Unit)=>True) (λp _=>(.fn 117 [] [.ptr 1 0,.ptr 2 0],[p.1.box,.box [.ptr 0 0],.box [.fn p.2.fn [] []]]))
structure KX where
 p:Pr
 o:QOp
 x:L8
 y:L8
def Wj:Ctr:=ctrT false false (λk:KX=>[.str k.x,.str k.y,.ptr 0 0,.ptr 2 0]) (λk=>[.box [.ptr 1 0],k.p.box,.box [.fn k.o.fn [] []]]) (λk=>k.x.length<2^62/\k.y.length<2^62/\k.o.has) (λk r=>r=if k.p.e≠0 then([],k.p.e) else k.o.op k.x k.y)
 (λk (r:L8×Int)=>(.str r.1,[.box [.ptr 1 0],(k.p.err r.2).box,.box [.fn k.o.fn [] []]]))
def Yp:Ctr:=ctrT false false (λk:Pr×L8×L8=>[.ptr 0 0,.str k.2.1,.str k.2.2]) (λk=>[k.1.box]) (λk=>k.2.1.length<2^62/\k.2.2.length<2^62) (λk r=>r=if k.1.e≠0 then([],k.1.e) else jQ k.2.1 k.2.2)
 (λk (r:L8×Int)=>(.tup [.str r.1,.i r.2],[k.1.box]))
theorem KF:zc prog 78 Xi:=by
 refine zD (fn:=f78) (c:=f78.body.getD .skip) rfl rfl rfl (λh=>by cases h) λp hp O w0 I0 Q hl0 hq=> ?_
 obtain⟨p,o⟩:=p;replace hq:=hq () trivial;refine zb.n zA [] (.R [.fn 117 [] [.ptr 1 0,.ptr 2 0]] [.box [.str p.n,.str p.m,.str p.d,.str p.c,.i p.e],.box [.ptr 0 0],.box [.fn (QOp.fn o) [] []]]) ?_;simp only [Tree.holds,ze];refine RetR.keep [0,1,2] rfl rfl (by show ∀ j,j<1->_; decide) rfl hq ?_ ?_ rfl
 ·rfl
 ·exact⟨⟨rfl,rfl,rfl,rfl,⟨rfl,rfl⟩,trivial⟩,⟨⟨rfl,rfl⟩,trivial⟩,⟨rfl,trivial⟩,trivial⟩
noncomputable def GK1:=tb zk1 (tb zje (tb zjo tz))
theorem Vy:zc prog 117 Wj:=by
 refine zD (fn:=f117) (c:=f117.body.getD .skip) rfl rfl rfl (λh=>by cases h) λk hk O w0 I0 Q hl0 hq=> ?_
 obtain⟨⟨n,m,d,c,e⟩,o,x,y⟩:=k;obtain⟨h1,h2,h3⟩:=hk;replace hq:=hq _ rfl;simp only at h1 h2 h3 hq
 have fin:∀ r:L8×Int,(if e≠0 then([],e) else o.op x y)=r->RetR Wj 3 Q [.str r.1] [.box [.ptr 1 0],.box [.str n,.str m,.str d,.str c,.i r.2],.box [.fn o.fn [] []]]:=by
  rintro r rfl;refine RetR.keep [0,1,2] rfl rfl (by show ∀ j,j<3->_; decide) rfl hq ?_ ?_ rfl
  ·rfl
  ·exact⟨⟨⟨rfl,rfl⟩,trivial⟩,⟨rfl,rfl,rfl,rfl,⟨rfl,rfl⟩,trivial⟩,⟨rfl,trivial⟩,trivial⟩
 cases o with
 | add=>
  refine zb.n GK1.h [] (.N (e=0) (.R [.str #[].toList] [.box [.ptr 1 0],.box [.str n,.str m,.str d,.str c,.i e],.box [.fn 82 [] []]]) (.ex (q17 [.str x,.str y]) λn_1=>.all (λ(r:L8×Int)=>r=addI n_1.1 n_1.2) λn_2=>.R [.str n_2.1] [.box [.ptr 1 0],.box [.str n,.str m,.str d,.str c,.i n_2.2],.box [.fn 82 [] []]])) ?_;simp only [q17,Tree.holds,ze];refine⟨λh=> ?_,λh=>⟨(x,y),⟨by simp,h1,h2⟩,⟨_,rfl⟩,?_⟩⟩
  ·have h:e≠0:=by simpa using h
   exact fin ([],e) (aP h)
  ·have h:e=0:=by simpa using h
   rintro _ rfl;exact fin (addI x y) (aO (by simp [h]))
 | sub=>
  refine zb.n GK1.h [] (.N (e=0) (.R [.str #[].toList] [.box [.ptr 1 0],.box [.str n,.str m,.str d,.str c,.i e],.box [.fn 80 [] []]]) (.ex (q17 [.str x,.str y]) λn_1=>.all (λ(r:L8×Int)=>r=subI n_1.1 n_1.2) λn_2=>.R [.str n_2.1] [.box [.ptr 1 0],.box [.str n,.str m,.str d,.str c,.i n_2.2],.box [.fn 80 [] []]])) ?_;simp only [q17,Tree.holds,ze];refine⟨λh=> ?_,λh=>⟨(x,y),⟨by simp,h1,h2⟩,⟨_,rfl⟩,?_⟩⟩
  ·have h:e≠0:=by simpa using h
   exact fin ([],e) (aP h)
  ·have h:e=0:=by simpa using h
   rintro _ rfl;exact fin (subI x y) (aO (by simp [h]))
 | mul=>
  refine zb.n GK1.h [] (.N (e=0) (.R [.str #[].toList] [.box [.ptr 1 0],.box [.str n,.str m,.str d,.str c,.i e],.box [.fn 79 [] []]]) (.ex (q17 [.str x,.str y]) λn_1=>.all (λ(r:L8×Int)=>r=mulI n_1.1 n_1.2) λn_2=>.R [.str n_2.1] [.box [.ptr 1 0],.box [.str n,.str m,.str d,.str c,.i n_2.2],.box [.fn 79 [] []]])) ?_;simp only [q17,Tree.holds,ze];refine⟨λh=> ?_,λh=>⟨(x,y),⟨by simp,h1,h2⟩,⟨_,rfl⟩,?_⟩⟩
  ·have h:e≠0:=by simpa using h
   exact fin ([],e) (aP h)
  ·have h:e=0:=by simpa using h
   rintro _ rfl;exact fin (mulI x y) (aO (by simp [h]))
noncomputable def GMd:=tb zg4 tz
theorem Yz:zc prog 81 Yp:=by
 refine zD (fn:=f81) (c:=f81.body.getD .skip) rfl rfl rfl (λh=>by cases h) λk hk O w0 I0 Q hl0 hq=> ?_
 obtain⟨⟨n,m,d,c,e⟩,x,y⟩:=k;obtain⟨h1,h2⟩:=hk;replace hq:=hq _ rfl;simp only at h1 h2 hq
 have fin:∀ r:L8×Int,(if e≠0 then([],e) else jQ x y)=r->RetR Yp 1 Q [.str r.1,.i r.2] [.box [.str n,.str m,.str d,.str c,.i e]]:=by
  rintro r rfl;refine RetR.keep [0] rfl rfl (by show ∀ j,j<1->_; decide) rfl hq ?_ ?_ rfl
  ·exact⟨rfl,⟨rfl,rfl⟩,trivial⟩
  ·exact⟨⟨rfl,rfl,rfl,rfl,⟨rfl,rfl⟩,trivial⟩,trivial⟩
 refine zb.n GMd.h [] (let v1:List Blk:=[.box [.str n,.str m,.str d,.str c,.i e]];.N (e=0) (.R [.str #[].toList,.i e] v1) (.ex (q17 [.str x,.str y]) λn_1=>.all (λ(r:L8×Int)=>r=jQ n_1.1 n_1.2) λn_2=>.R [.str n_2.1,.i n_2.2] v1)) ?_;simp only [q17,Tree.holds,ze];refine⟨λh=> ?_,λh=>⟨(x,y),⟨by simp,h1,h2⟩,⟨_,rfl⟩,?_⟩⟩
 ·have h:e≠0:=by simpa using h
  exact fin ([],e) (aP h)
 ·have h:e=0:=by simpa using h
  rintro _ rfl;exact fin (jQ x y) (aO (by simp [h]))
def Pst(a b:L8):Nat->Pr
 | 0=>⟨[],[],[],[],0⟩
 | 1=>if errR a≠0 then⟨[],[],[],[],errR a⟩ else⟨numR a,[],denR a,[],0⟩
 | _=>qX a b
def SBq(a b:L8)(i:Nat):KV:=[(5,.ptr 0 0),(12,.agg [.str a,.str b]),(13,.i (i:Int))]
noncomputable def GBq:=tb zdp tz
theorem Vs:zc prog 77 Yc:=by
 refine zD (fn:=f77) (c:=f77.body.getD .skip) rfl rfl rfl (λh=>by cases h) λp hp O w0 I0 Q hl0 hq=> ?_
 obtain rfl:I0=[]:=aU.1 hl0;obtain⟨a,b⟩:=p;obtain⟨h1,h2⟩:=hp;replace hq:=hq _ rfl;simp only at h1 h2 hq;refine zb.n GBq.h [5,12,13] (.leaf (.loop (lps K77 0).1 (lps K77 0).2 [(5,.ptr 0 0),(12,.agg [.str a,.str b]),(13,.i 0)] [.box [.str #[].toList,.str #[].toList,.str #[].toList,.str #[].toList,.i 0]])) ?_;simp only [Tree.holds,ze];refine zb.loop (ι:={i:Nat // i<=2}) (λi=>SBq a b i.1) (λi=>[(Pst a b i.1).box]) (λi=>2 - i.1) ⟨0,aI _⟩ 0 ?_ ?_ (by kernel_rfl)
 ·exact⟨by simp [SBq],by simp [Pst,Pr.box],by kernel_rfl,aI _⟩
 rintro⟨i,hil⟩
 match i,hil with
 | 0,_=>
  refine zb.n GBq.h [5,12,13] (let v2:List Blk:=[.box [.str [],.str [],.str [],.str [],.i 0]];let v1:List (Nat×AV):=[(5,.ptr 0 0),(12,.agg [.str a,.str b]),(13,.i 1)];.ite true (.side ((0:Int)<=0/\(0:Int)<2/\1<=List.length [AV.str a,AV.str b]) (.ite true (.ex (q15 [.str a]) λn=>.all (λ(r:L8×L8×Int)=>r=if errR n=0 then(numR n,denR n,(0:Int)) else([],[],errR n)) λn=>.side ((0:Int)<=0/\(0:Int)<2) (.side ((0:Int)<=0/\(0:Int)<2) (.S 1 (.leaf (.back 0 v1 [.box [.str n.1,.str [],.str n.2.1,.str [],.i n.2.2]]))))) (.S 1 (.leaf (.back 0 v1 v2))))) (.R [.ptr 0 0] v2)) ?_;simp only [q15,Tree.holds,ze,inR,lo,hi,aD];refine⟨λ_=>⟨by simp,λ_=>⟨λ_=>⟨a,⟨by simp,h1⟩,⟨_,rfl⟩,?_⟩,λh=>(by cases h)⟩⟩,λh=>(by cases h)⟩;intro r hr;refine⟨by decide,λ_=>⟨by decide,λ_=>⟨by decide,λ_=> ?_⟩⟩⟩;rw [aP trivial];refine⟨⟨1,by decide⟩,by decide,by simp [SBq],?_,by kernel_rfl,aI _⟩
  have e:Pst a b 1=⟨r.1,[],r.2.1,[],r.2.2⟩:=by
   rw [hr];by_cases h:errR a=0
   ·simp [Pst,h]
   ·simp [Pst,h]
  show eqH _ [(Pst a b 1).box];rw [e];simp [Pr.box]
 | 1,_=>
  obtain⟨⟨n,m,d,c,e⟩,hp⟩:∃ p,Pst a b 1=p:=⟨_,rfl⟩;simp only [hp];refine zb.n GBq.h [5,12,13] (let v2:List Blk:=[.box [.str n,.str m,.str d,.str c,.i e]];let v1:List (Nat×AV):=[(5,.ptr 0 0),(12,.agg [.str a,.str b]),(13,.i 2)];.ite true (.side ((0:Int)<=1/\(1:Int)<2/\2<=List.length [AV.str a,AV.str b]) (.D (e=0) (.ex (q15 [.str b]) λn_1=>.all (λ(r:L8×L8×Int)=>r=if errR n_1=0 then(numR n_1,denR n_1,(0:Int)) else([],[],errR n_1)) λn_2=>.side ((0:Int)<=1/\(1:Int)<2) (.side ((0:Int)<=1/\(1:Int)<2) (.S 2 (.leaf (.back 0 v1 [.box [.str n,.str n_2.1,.str d,.str n_2.2.1,.i n_2.2.2]]))))) (.S 2 (.leaf (.back 0 v1 v2))))) (.R [.ptr 0 0] v2)) ?_;simp only [q15,Tree.holds,ze,inR,lo,hi,aD];refine⟨λ_=>⟨by simp,λ_=>⟨λh=>⟨b,⟨by simp,h2⟩,⟨_,rfl⟩,?_⟩,λh=>⟨by decide,λ_=> ?_⟩⟩⟩,λh=>(by cases h)⟩
  ·have h:e=0:=by simpa using h
   intro r hr;refine⟨by decide,λ_=>⟨by decide,λ_=>⟨by decide,λ_=> ?_⟩⟩⟩;rw [aP trivial];refine⟨⟨2,by decide⟩,by decide,by simp [SBq],?_,by kernel_rfl,aI _⟩
   have e2:Pst a b 2=⟨n,r.1,d,r.2.1,r.2.2⟩:=by
    rw [hr];by_cases ha:errR a=0
    ·simp only [Pst,ha] at hp;simp at hp;obtain⟨rfl,rfl,rfl,rfl,_⟩:=hp;by_cases hb:errR b=0
     ·simp [Pst,qX,ha,hb]
     ·simp [Pst,qX,ha,hb]
    ·simp only [Pst] at hp;rw [aP ha] at hp;cases hp;exact absurd h ha
   show eqH _ [(Pst a b 2).box];rw [e2];simp [Pr.box]
  ·have h:e≠0:=by simpa using h
   rw [aP trivial];refine⟨⟨2,by decide⟩,by decide,by simp [SBq],?_,by kernel_rfl,aI _⟩
   have e2:Pst a b 2=⟨n,m,d,c,e⟩:=by
    by_cases ha:errR a=0
    ·simp only [Pst,ha] at hp;simp at hp;exact absurd hp.2.2.2.2.symm h
    ·rw [<- hp];simp only [Pst,qX];rw [aP ha,aP ha]
   show eqH _ [(Pst a b 2).box];rw [e2];simp [Pr.box]
 | 2,_=>
  obtain⟨⟨n,m,d,c,e⟩,hp⟩:∃ p,Pst a b 2=p:=⟨_,rfl⟩;simp only [hp];refine zb.n GBq.h [5,12,13] (.ite false (.side ((0:Int)<=2/\(2:Int)<2/\3<=List.length [AV.str a,AV.str b]) .fail) (.R [.ptr 0 0] [.box [.str n,.str m,.str d,.str c,.i e]])) ?_;simp only [Tree.holds,ze,inR,lo,hi,aD];refine⟨λh=>(by cases h),λ_=> ?_⟩;have hp:qX a b=⟨n,m,d,c,e⟩:=hp;rw [hp] at hq;refine RetR.out1 0 (by show 0<1; decide) hq (λh=>by cases h) ?_ ?_
  ·exact⟨rfl,rfl⟩
  ·exact⟨rfl,rfl,rfl,rfl,⟨rfl,rfl⟩,trivial⟩
theorem wI(a b:L8):((qX a b).e≠0/\jk a b=(qX a b).e)\/((qX a b).e=0/\errR a=0/\errR b=0/\(qX a b).n=numR a/\(qX a b).m=numR b/\(qX a b).d=denR a/\(qX a b).c=denR b):=by
 unfold qX;by_cases ha:errR a=0
 ·rw [aO (by rw [ha]; simp)];by_cases hb:errR b=0
  ·rw [aO (by rw [hb]; simp)];exact .inr ⟨rfl,ha,hb,rfl,rfl,rfl,rfl⟩
  ·rw [aP hb];exact .inl ⟨hb,by unfold jk; rw [aP ha]⟩
 ·rw [aP ha];exact .inl ⟨ha,by unfold jk; rw [aO ha]⟩
theorem kf(a b:L8):(qX a b).n.length<=a.length/\(qX a b).m.length<=b.length/\(qX a b).d.length<=a.length+1/\(qX a b).c.length<=b.length+1:=by
 have h1:=VW a;have h2:=VW b;have h3:=VS a;have h4:=VS b;unfold qX;split
 ·simp
 ·split
  ·simp; omega
  ·simp only; omega
theorem kx_l(x y:L8):eqL [.str x,.str y,.ptr 0 0,.ptr 2 0] [.str x,.str y,.ptr 0 0,.ptr 2 0]:=⟨rfl,rfl,⟨rfl,rfl⟩,⟨rfl,rfl⟩,trivial⟩
theorem kx_b(p:Pr):eqH [.box [.str p.n,.str p.m,.str p.d,.str p.c,.i p.e]] [.box [.str p.n,.str p.m,.str p.d,.str p.c,.i p.e]]:=⟨⟨rfl,rfl,rfl,rfl,⟨rfl,rfl⟩,trivial⟩,trivial⟩
theorem kx_h(p:Pr)(f:Nat):eqH [.box [.ptr 1 0],.box [.str p.n,.str p.m,.str p.d,.str p.c,.i p.e],.box [.fn f [] []]] [.box [.ptr 1 0],.box [.str p.n,.str p.m,.str p.d,.str p.c,.i p.e],.box [.fn f [] []]]:=⟨⟨⟨rfl,rfl⟩,trivial⟩,(kx_b p).1,⟨rfl,trivial⟩,trivial⟩
theorem kx_k(f:Nat):eqL [.ptr 0 0,.fn f [] []] [.ptr 0 0,.fn f [] []]:=⟨⟨rfl,rfl⟩,rfl,trivial⟩
theorem kx_m(x y:L8):eqL [.ptr 0 0,.str x,.str y] [.ptr 0 0,.str x,.str y]:=⟨⟨rfl,rfl⟩,rfl,rfl,trivial⟩
theorem qe(p:Pr)(o:QOp)(x y:L8){r:L8×Int}(h:r=if p.e≠0 then([],p.e) else o.op x y):r.1.length<=1001:=by
 rw [h];refine zhg ?_;cases o
 ·exact zck x y
 ·exact zcd x y
 ·exact zf8 x y
noncomputable def GQA:=tb Vs (tb KF (tb Vy (tb Yz (tb zhj tz))))
def J3:Ctr:=ctrP true (λp:L8×L8=>[.str p.1,.str p.2]) (λp=>p.1.length<2^61/\p.2.length<2^61) (λp r=>r=addR p.1 p.2) (λ_ r=>(.tup [.str r.1,.i r.2],[]))
def Za:Ctr:=ctrP true (λp:L8×L8=>[.str p.1,.str p.2]) (λp=>p.1.length<2^61/\p.2.length<2^61) (λp r=>r=subR p.1 p.2) (λ_ r=>(.tup [.str r.1,.i r.2],[]))
def JG:Ctr:=ctrP true (λp:L8×L8=>[.str p.1,.str p.2]) (λp=>p.1.length<2^61/\p.2.length<2^61) (λp r=>r=mulR p.1 p.2) (λ_ r=>(.tup [.str r.1,.i r.2],[]))
def zcp:Ctr:=ctrP true (λp:L8×L8=>[.str p.1,.str p.2]) (λp=>p.1.length<2^61/\p.2.length<2^61) (λp r=>r=cmpR p.1 p.2) (λ_ r=>(.tup [.i r.1,.i r.2],[]))
abbrev q27(A:List AV)(H:Heap)(x:Pr×L8×L8):Prop:=eqL A [.ptr 0 0,.str x.2.1,.str x.2.2]/\eqH H [.box [.str x.1.n,.str x.1.m,.str x.1.d,.str x.1.c,.i x.1.e]]/\1=1/\x.2.1.length<4611686018427387904/\x.2.2.length<4611686018427387904
abbrev q26(A:List AV)(H:Heap)(x:KX):Prop:=eqL A [.str x.x,.str x.y,.ptr 0 0,.ptr 2 0]/\eqH H [.box [.ptr 1 0],.box [.str x.p.n,.str x.p.m,.str x.p.d,.str x.p.c,.i x.p.e],.box [.fn (QOp.fn x.o) [] []]]/\3=3/\x.x.length<4611686018427387904/\x.y.length<4611686018427387904/\QOp.has x.o
abbrev q25(A:List AV)(H:Heap)(x:Pr×QOp):Prop:=eqL A [.ptr 0 0,.fn (QOp.fn x.2) [] []]/\eqH H [.box [.str x.1.n,.str x.1.m,.str x.1.d,.str x.1.c,.i x.1.e]]/\1=1/\True
abbrev q24(A:List AV)(H:Heap)(x:L8×L8):Prop:=eqL A [.str x.1,.str x.2]/\eqH H []/\0=0/\x.1.length<4611686018427387904/\x.2.length<4611686018427387904
theorem y8:zc prog 46 J3:=by
 refine zh' f46 λp hp O w0 Q hq=> ?_
 obtain⟨a,b⟩:=p;obtain⟨h1,h2⟩:=hp;replace hq:=hq _ rfl;simp only at h1 h2 hq;refine zb.n GQA.h [] (let v5:=[AV.ptr 1 0];.ex (q24 [.str a,.str b] []) λn=>.all (λ(r:Pr)=>r=qX n.1 n.2) λn=>.ex (q25 [.ptr 0 0,.fn 79 [] []] [.box [.str n.n,.str n.m,.str n.d,.str n.c,.i n.e]]) λn=>.A λn_1=>.ex (q25 [.ptr 0 0,.fn 82 [] []] [.box [.str n.1.n,.str n.1.m,.str n.1.d,.str n.1.c,.i n.1.e]]) λn_2=>.A λn_3=>.side ((0:Int)<=0/\(0:Int)<2) (.side ((0:Int)<=1/\(1:Int)<2) (.side ((0:Int)<=1/\(1:Int)<2) (.side ((0:Int)<=0/\(0:Int)<2) (.side ((0:Int)<=0/\(0:Int)<2) (.side ((0:Int)<=1/\(1:Int)<2) (.ex (q26 [.str n_2.1.n,.str n_2.1.c,.ptr 0 0,.ptr 2 0] [.box v5,.box [.str n_2.1.n,.str n_2.1.m,.str n_2.1.d,.str n_2.1.c,.i n_2.1.e],.box [.fn (QOp.fn n.2) [] []]]) λn=>.all (λ(r:L8×Int)=>r=if Pr.e n.p≠0 then([],Pr.e n.p) else QOp.op n.o n.x n.y) λn_4=>let v1:=Pr.err n.p n_4.2;.side (Pr.c v1=Pr.c n_2.1) (.side (Pr.d v1=Pr.d n_2.1) (.side (Pr.d v1=Pr.d n_2.1) (.side (Pr.m v1=Pr.m n_2.1) (.ex (q26 [.str n_2.1.m,.str n_2.1.d,.ptr 0 0,.ptr 2 0] [.box v5,.box [.str v1.n,.str v1.m,.str v1.d,.str v1.c,.i v1.e],.box [.fn (QOp.fn n.o) [] []]]) λn=>.all (λ(r:L8×Int)=>r=if Pr.e n.p≠0 then([],Pr.e n.p) else QOp.op n.o n.x n.y) λn_5=>let v3:=Pr.err n.p n_5.2;.side (Pr.c v3=Pr.c n_2.1) (.side (Pr.d v3=Pr.d n_2.1) (.ex (q26 [.str n_4.1,.str n_5.1,.ptr 0 0,.ptr 2 0] [.box v5,.box [.str v3.n,.str v3.m,.str v3.d,.str v3.c,.i v3.e],.box [.fn (QOp.fn n_2.2) [] []]]) λn_6=>.all (λ(r:L8×Int)=>r=if Pr.e n_6.p≠0 then([],Pr.e n_6.p) else QOp.op n_6.o n_6.x n_6.y) λn_7=>let v2:=Pr.err n_6.p n_7.2;.side (Pr.c v2=Pr.c n_2.1) (.side (Pr.d v2=Pr.d n_2.1) (.ex (q26 [.str n_2.1.d,.str n_2.1.c,.ptr 0 0,.ptr 2 0] [.box v5,.box [.str v2.n,.str v2.m,.str v2.d,.str v2.c,.i v2.e],.box [.fn (QOp.fn n.o) [] []]]) λn=>.all (λ(r:L8×Int)=>r=if Pr.e n.p≠0 then([],Pr.e n.p) else QOp.op n.o n.x n.y) λn_8=>let v4:=Pr.err n.p n_8.2;.ex (q27 [.ptr 0 0,.str n_7.1,.str n_8.1] [.box [.str v4.n,.str v4.m,.str v4.d,.str v4.c,.i v4.e]]) λn_9=>.all (λ(r:L8×Int)=>r=if Pr.e n_9.1≠0 then([],Pr.e n_9.1) else jQ n_9.2.1 n_9.2.2) λn_10=>.R [.str n_10.1,.i n_10.2] [.box [.str n_9.1.n,.str n_9.1.m,.str n_9.1.d,.str n_9.1.c,.i n_9.1.e],.box [.ptr 0 0],.box [.fn (QOp.fn n.o) [] []],.box [.ptr 0 0],.box [.fn (QOp.fn n_6.o) [] []]]))))))))))))))) ?_;simp only [q24,q25,q26,q27,Tree.holds,ze];refine⟨(a,b),⟨⟨rfl,rfl,trivial⟩,trivial,by trivial,by show a.length<_; omega,by show b.length<_; omega⟩,⟨_,rfl⟩,?_⟩;intro p hp;have hc:=wI a b;obtain⟨l1,l2,l3,l4⟩:=kf a b;rw [<- hp] at hc l1 l2 l3 l4;refine⟨(p,.mul),⟨kx_k _,kx_b p,by trivial,trivial⟩,⟨(),trivial⟩,?_⟩;intro _ _;refine⟨(p,.add),⟨kx_k _,kx_b p,by trivial,trivial⟩,⟨(),trivial⟩,?_⟩;intro _ _
 iterate 6 refine⟨by decide,λ_=> ?_⟩
 refine⟨⟨p,.mul,p.n,p.c⟩,⟨kx_l _ _,kx_h (p) _,by trivial,by show(p.n).length<_; omega,by show(p.c).length<_; omega,by trivial⟩,⟨_,rfl⟩,?_⟩;intro r1 hr1;have kr1:=qe _ _ _ _ hr1
 iterate 4 refine⟨rfl,λ_=> ?_⟩
 refine⟨⟨p.err r1.2,.mul,p.m,p.d⟩,⟨kx_l _ _,kx_h (p.err r1.2) _,by trivial,by show(p.m).length<_; omega,by show(p.d).length<_; omega,by trivial⟩,⟨_,rfl⟩,?_⟩;intro r2 hr2;have kr2:=qe _ _ _ _ hr2
 iterate 2 refine⟨rfl,λ_=> ?_⟩
 refine⟨⟨(p.err r1.2).err r2.2,.add,r1.1,r2.1⟩,⟨kx_l _ _,kx_h ((p.err r1.2).err r2.2) _,by trivial,by show(r1.1).length<_; omega,by show(r2.1).length<_; omega,by trivial⟩,⟨_,rfl⟩,?_⟩;intro r3 hr3;have kr3:=qe _ _ _ _ hr3
 iterate 2 refine⟨rfl,λ_=> ?_⟩
 refine⟨⟨((p.err r1.2).err r2.2).err r3.2,.mul,p.d,p.c⟩,⟨kx_l _ _,kx_h (((p.err r1.2).err r2.2).err r3.2) _,by trivial,by show(p.d).length<_; omega,by show(p.c).length<_; omega,by trivial⟩,⟨_,rfl⟩,?_⟩;intro r4 hr4;have kr4:=qe _ _ _ _ hr4;refine⟨((((p.err r1.2).err r2.2).err r3.2).err r4.2,r3.1,r4.1),⟨kx_m _ _,kx_b _,by trivial,by show(r3.1).length<_; omega,by show(r4.1).length<_; omega⟩,⟨_,rfl⟩,?_⟩;intro r5 hr5;have hfin:=uU hc (λ{s t} =>zbi (s:=s) (t:=t)) hr1 hr2 hr3 hr4 hr5;have e:r5=addR a b:=hfin;rw [<- e] at hq;exact RetR.scal hq rfl (by simp [resV])
theorem kP:zc prog 43 Za:=by
 refine zh' f43 λp hp O w0 Q hq=> ?_
 obtain⟨a,b⟩:=p;obtain⟨h1,h2⟩:=hp;replace hq:=hq _ rfl;simp only at h1 h2 hq;refine zb.n GQA.h [] (let v5:=[AV.ptr 1 0];.ex (q24 [.str a,.str b] []) λn=>.all (λ(r:Pr)=>r=qX n.1 n.2) λn=>.ex (q25 [.ptr 0 0,.fn 79 [] []] [.box [.str n.n,.str n.m,.str n.d,.str n.c,.i n.e]]) λn=>.A λn_1=>.ex (q25 [.ptr 0 0,.fn 80 [] []] [.box [.str n.1.n,.str n.1.m,.str n.1.d,.str n.1.c,.i n.1.e]]) λn_2=>.A λn_3=>.side ((0:Int)<=0/\(0:Int)<2) (.side ((0:Int)<=1/\(1:Int)<2) (.side ((0:Int)<=1/\(1:Int)<2) (.side ((0:Int)<=0/\(0:Int)<2) (.side ((0:Int)<=0/\(0:Int)<2) (.side ((0:Int)<=1/\(1:Int)<2) (.ex (q26 [.str n_2.1.n,.str n_2.1.c,.ptr 0 0,.ptr 2 0] [.box v5,.box [.str n_2.1.n,.str n_2.1.m,.str n_2.1.d,.str n_2.1.c,.i n_2.1.e],.box [.fn (QOp.fn n.2) [] []]]) λn=>.all (λ(r:L8×Int)=>r=if Pr.e n.p≠0 then([],Pr.e n.p) else QOp.op n.o n.x n.y) λn_4=>let v1:=Pr.err n.p n_4.2;.side (Pr.c v1=Pr.c n_2.1) (.side (Pr.d v1=Pr.d n_2.1) (.side (Pr.d v1=Pr.d n_2.1) (.side (Pr.m v1=Pr.m n_2.1) (.ex (q26 [.str n_2.1.m,.str n_2.1.d,.ptr 0 0,.ptr 2 0] [.box v5,.box [.str v1.n,.str v1.m,.str v1.d,.str v1.c,.i v1.e],.box [.fn (QOp.fn n.o) [] []]]) λn=>.all (λ(r:L8×Int)=>r=if Pr.e n.p≠0 then([],Pr.e n.p) else QOp.op n.o n.x n.y) λn_5=>let v3:=Pr.err n.p n_5.2;.side (Pr.c v3=Pr.c n_2.1) (.side (Pr.d v3=Pr.d n_2.1) (.ex (q26 [.str n_4.1,.str n_5.1,.ptr 0 0,.ptr 2 0] [.box v5,.box [.str v3.n,.str v3.m,.str v3.d,.str v3.c,.i v3.e],.box [.fn (QOp.fn n_2.2) [] []]]) λn_6=>.all (λ(r:L8×Int)=>r=if Pr.e n_6.p≠0 then([],Pr.e n_6.p) else QOp.op n_6.o n_6.x n_6.y) λn_7=>let v2:=Pr.err n_6.p n_7.2;.side (Pr.c v2=Pr.c n_2.1) (.side (Pr.d v2=Pr.d n_2.1) (.ex (q26 [.str n_2.1.d,.str n_2.1.c,.ptr 0 0,.ptr 2 0] [.box v5,.box [.str v2.n,.str v2.m,.str v2.d,.str v2.c,.i v2.e],.box [.fn (QOp.fn n.o) [] []]]) λn=>.all (λ(r:L8×Int)=>r=if Pr.e n.p≠0 then([],Pr.e n.p) else QOp.op n.o n.x n.y) λn_8=>let v4:=Pr.err n.p n_8.2;.ex (q27 [.ptr 0 0,.str n_7.1,.str n_8.1] [.box [.str v4.n,.str v4.m,.str v4.d,.str v4.c,.i v4.e]]) λn_9=>.all (λ(r:L8×Int)=>r=if Pr.e n_9.1≠0 then([],Pr.e n_9.1) else jQ n_9.2.1 n_9.2.2) λn_10=>.R [.str n_10.1,.i n_10.2] [.box [.str n_9.1.n,.str n_9.1.m,.str n_9.1.d,.str n_9.1.c,.i n_9.1.e],.box [.ptr 0 0],.box [.fn (QOp.fn n.o) [] []],.box [.ptr 0 0],.box [.fn (QOp.fn n_6.o) [] []]]))))))))))))))) ?_;simp only [q24,q25,q26,q27,Tree.holds,ze];refine⟨(a,b),⟨⟨rfl,rfl,trivial⟩,trivial,by trivial,by show a.length<_; omega,by show b.length<_; omega⟩,⟨_,rfl⟩,?_⟩;intro p hp;have hc:=wI a b;obtain⟨l1,l2,l3,l4⟩:=kf a b;rw [<- hp] at hc l1 l2 l3 l4;refine⟨(p,.mul),⟨kx_k _,kx_b p,by trivial,trivial⟩,⟨(),trivial⟩,?_⟩;intro _ _;refine⟨(p,.sub),⟨kx_k _,kx_b p,by trivial,trivial⟩,⟨(),trivial⟩,?_⟩;intro _ _
 iterate 6 refine⟨by decide,λ_=> ?_⟩
 refine⟨⟨p,.mul,p.n,p.c⟩,⟨kx_l _ _,kx_h (p) _,by trivial,by show(p.n).length<_; omega,by show(p.c).length<_; omega,by trivial⟩,⟨_,rfl⟩,?_⟩;intro r1 hr1;have kr1:=qe _ _ _ _ hr1
 iterate 4 refine⟨rfl,λ_=> ?_⟩
 refine⟨⟨p.err r1.2,.mul,p.m,p.d⟩,⟨kx_l _ _,kx_h (p.err r1.2) _,by trivial,by show(p.m).length<_; omega,by show(p.d).length<_; omega,by trivial⟩,⟨_,rfl⟩,?_⟩;intro r2 hr2;have kr2:=qe _ _ _ _ hr2
 iterate 2 refine⟨rfl,λ_=> ?_⟩
 refine⟨⟨(p.err r1.2).err r2.2,.sub,r1.1,r2.1⟩,⟨kx_l _ _,kx_h ((p.err r1.2).err r2.2) _,by trivial,by show(r1.1).length<_; omega,by show(r2.1).length<_; omega,by trivial⟩,⟨_,rfl⟩,?_⟩;intro r3 hr3;have kr3:=qe _ _ _ _ hr3
 iterate 2 refine⟨rfl,λ_=> ?_⟩
 refine⟨⟨((p.err r1.2).err r2.2).err r3.2,.mul,p.d,p.c⟩,⟨kx_l _ _,kx_h (((p.err r1.2).err r2.2).err r3.2) _,by trivial,by show(p.d).length<_; omega,by show(p.c).length<_; omega,by trivial⟩,⟨_,rfl⟩,?_⟩;intro r4 hr4;have kr4:=qe _ _ _ _ hr4;refine⟨((((p.err r1.2).err r2.2).err r3.2).err r4.2,r3.1,r4.1),⟨kx_m _ _,kx_b _,by trivial,by show(r3.1).length<_; omega,by show(r4.1).length<_; omega⟩,⟨_,rfl⟩,?_⟩;intro r5 hr5;have hfin:=uU hc (λ{s t} =>zfq (s:=s) (t:=t)) hr1 hr2 hr3 hr4 hr5;have e:r5=subR a b:=hfin;rw [<- e] at hq;exact RetR.scal hq rfl (by simp [resV])
theorem yp:zc prog 48 JG:=by
 refine zh' f48 λp hp O w0 Q hq=> ?_
 obtain⟨a,b⟩:=p;obtain⟨h1,h2⟩:=hp;replace hq:=hq _ rfl;simp only at h1 h2 hq;refine zb.n GQA.h [] (.ex (q24 [.str a,.str b] []) λn=>.all (λ(r:Pr)=>r=qX n.1 n.2) λn=>.ex (q25 [.ptr 0 0,.fn 79 [] []] [.box [.str n.n,.str n.m,.str n.d,.str n.c,.i n.e]]) λn=>.A λn_1=>.side ((0:Int)<=0/\(0:Int)<2) (.side ((0:Int)<=1/\(1:Int)<2) (.side ((0:Int)<=0/\(0:Int)<2) (.side ((0:Int)<=1/\(1:Int)<2) (.ex (q26 [.str n.1.n,.str n.1.m,.ptr 0 0,.ptr 2 0] [.box [.ptr 1 0],.box [.str n.1.n,.str n.1.m,.str n.1.d,.str n.1.c,.i n.1.e],.box [.fn (QOp.fn n.2) [] []]]) λn_2=>.all (λ(r:L8×Int)=>r=if Pr.e n_2.p≠0 then([],Pr.e n_2.p) else QOp.op n_2.o n_2.x n_2.y) λn_3=>let v1:=Pr.err n_2.p n_3.2;.side (Pr.c v1=Pr.c n.1) (.side (Pr.d v1=Pr.d n.1) (.ex (q26 [.str n.1.d,.str n.1.c,.ptr 0 0,.ptr 2 0] [.box [.ptr 1 0],.box [.str v1.n,.str v1.m,.str v1.d,.str v1.c,.i v1.e],.box [.fn (QOp.fn n_2.o) [] []]]) λn=>.all (λ(r:L8×Int)=>r=if Pr.e n.p≠0 then([],Pr.e n.p) else QOp.op n.o n.x n.y) λn_4=>let v2:=Pr.err n.p n_4.2;.ex (q27 [.ptr 0 0,.str n_3.1,.str n_4.1] [.box [.str v2.n,.str v2.m,.str v2.d,.str v2.c,.i v2.e]]) λn_5=>.all (λ(r:L8×Int)=>r=if Pr.e n_5.1≠0 then([],Pr.e n_5.1) else jQ n_5.2.1 n_5.2.2) λn_6=>.R [.str n_6.1,.i n_6.2] [.box [.str n_5.1.n,.str n_5.1.m,.str n_5.1.d,.str n_5.1.c,.i n_5.1.e],.box [.ptr 0 0],.box [.fn (QOp.fn n.o) [] []]]))))))) ?_;simp only [q24,q25,q26,q27,Tree.holds,ze];refine⟨(a,b),⟨⟨rfl,rfl,trivial⟩,trivial,by trivial,by show a.length<_; omega,by show b.length<_; omega⟩,⟨_,rfl⟩,?_⟩;intro p hp;have hc:=wI a b;obtain⟨l1,l2,l3,l4⟩:=kf a b;rw [<- hp] at hc l1 l2 l3 l4;refine⟨(p,.mul),⟨kx_k _,kx_b p,by trivial,trivial⟩,⟨(),trivial⟩,?_⟩;intro _ _
 iterate 4 refine⟨by decide,λ_=> ?_⟩
 refine⟨⟨p,.mul,p.n,p.m⟩,⟨kx_l _ _,kx_h (p) _,by trivial,by show(p.n).length<_; omega,by show(p.m).length<_; omega,by trivial⟩,⟨_,rfl⟩,?_⟩;intro r1 hr1;have kr1:=qe _ _ _ _ hr1
 iterate 2 refine⟨rfl,λ_=> ?_⟩
 refine⟨⟨p.err r1.2,.mul,p.d,p.c⟩,⟨kx_l _ _,kx_h (p.err r1.2) _,by trivial,by show(p.d).length<_; omega,by show(p.c).length<_; omega,by trivial⟩,⟨_,rfl⟩,?_⟩;intro r2 hr2;have kr2:=qe _ _ _ _ hr2;refine⟨((p.err r1.2).err r2.2,r1.1,r2.1),⟨kx_m _ _,kx_b _,by trivial,by show(r1.1).length<_; omega,by show(r2.1).length<_; omega⟩,⟨_,rfl⟩,?_⟩;intro r3 hr3
 have hv:errR a=0->errR b=0->zu p.n p.m=0/\zu p.d p.c=0:=by
  intro ha hb;obtain⟨a1,a2,_⟩:=qg ha;obtain⟨b1,b2,_⟩:=qg hb;rcases hc with ⟨g1,g2⟩ | ⟨_,_,_,g1,g2,g3,g4⟩
  ·exact absurd g2 (by unfold jk; rw [aP ha,hb]; exactλh=>g1 h.symm)
  ·rw [g1,g2,g3,g4]; exact⟨zl.2 ⟨a1,b1⟩,zl.2 ⟨a2,b2⟩⟩
 have hfin:=JV hc hr1 hr2 hr3 hv
 have e:r3=mulR a b:=by
  rw [hfin];unfold mulR;rcases hc with ⟨g1,g2⟩ | ⟨_,_,_,g1,g2,g3,g4⟩
  ·rw [aP (by rw [g2]; exact g1),aP (by rw [g2]; exact g1)]
  ·rw [g1,g2,g3,g4]
 rw [<- e] at hq;exact RetR.scal hq rfl (by simp [resV])
theorem Uv:zc prog 53 zcp:=by
 refine zh' f53 λp hp O w0 Q hq=> ?_
 obtain⟨a,b⟩:=p;obtain⟨h1,h2⟩:=hp;replace hq:=hq _ rfl;simp only at h1 h2 hq;refine zb.n GQA.h [] (.ex (q24 [.str a,.str b] []) λn=>.all (λ(r:Pr)=>r=qX n.1 n.2) λn=>.ex (q25 [.ptr 0 0,.fn 79 [] []] [.box [.str n.n,.str n.m,.str n.d,.str n.c,.i n.e]]) λn=>.A λn_1=>.side ((0:Int)<=0/\(0:Int)<2) (.side ((0:Int)<=1/\(1:Int)<2) (.side ((0:Int)<=1/\(1:Int)<2) (.side ((0:Int)<=0/\(0:Int)<2) (.ex (q26 [.str n.1.n,.str n.1.c,.ptr 0 0,.ptr 2 0] [.box [.ptr 1 0],.box [.str n.1.n,.str n.1.m,.str n.1.d,.str n.1.c,.i n.1.e],.box [.fn (QOp.fn n.2) [] []]]) λn_2=>.all (λ(r:L8×Int)=>r=if Pr.e n_2.p≠0 then([],Pr.e n_2.p) else QOp.op n_2.o n_2.x n_2.y) λn_3=>let v2:=Pr.err n_2.p n_3.2;.side (Pr.d v2=Pr.d n.1) (.side (Pr.m v2=Pr.m n.1) (.ex (q26 [.str n.1.m,.str n.1.d,.ptr 0 0,.ptr 2 0] [.box [.ptr 1 0],.box [.str v2.n,.str v2.m,.str v2.d,.str v2.c,.i v2.e],.box [.fn (QOp.fn n_2.o) [] []]]) λn=>.all (λ(r:L8×Int)=>r=if Pr.e n.p≠0 then([],Pr.e n.p) else QOp.op n.o n.x n.y) λn_4=>let v3:=Pr.err n.p n_4.2;let v1:List Blk:=[.box [.str v3.n,.str v3.m,.str v3.d,.str v3.c,.i v3.e],.box [.ptr 0 0],.box [.fn (QOp.fn n.o) [] []]];.N (Pr.e v3=(0:Int)) (.R [.i 0,.i v3.e] v1) (.ex (q17 [.str n_3.1,.str n_4.1]) λn_5=>.all (λ(r:Int×Int)=>r=Qx n_5.1 n_5.2) λn_6=>.R [.i n_6.1,.i n_6.2] v1)))))))) ?_;simp only [q17,q24,q25,q26,Tree.holds,ze];refine⟨(a,b),⟨⟨rfl,rfl,trivial⟩,trivial,by trivial,by show a.length<_; omega,by show b.length<_; omega⟩,⟨_,rfl⟩,?_⟩;intro p hp;have hc:=wI a b;obtain⟨l1,l2,l3,l4⟩:=kf a b;rw [<- hp] at hc l1 l2 l3 l4;refine⟨(p,.mul),⟨kx_k _,kx_b p,by trivial,trivial⟩,⟨(),trivial⟩,?_⟩;intro _ _
 iterate 4 refine⟨by decide,λ_=> ?_⟩
 refine⟨⟨p,.mul,p.n,p.c⟩,⟨kx_l _ _,kx_h (p) _,by trivial,by show(p.n).length<_; omega,by show(p.c).length<_; omega,by trivial⟩,⟨_,rfl⟩,?_⟩;intro r1 hr1;have kr1:=qe _ _ _ _ hr1
 iterate 2 refine⟨rfl,λ_=> ?_⟩
 refine⟨⟨p.err r1.2,.mul,p.m,p.d⟩,⟨kx_l _ _,kx_h (p.err r1.2) _,by trivial,by show(p.m).length<_; omega,by show(p.d).length<_; omega,by trivial⟩,⟨_,rfl⟩,?_⟩;intro r2 hr2;have kr2:=qe _ _ _ _ hr2;have hfin:=za1 hc hr1 hr2;refine⟨λh=> ?_,λh=>⟨(r1.1,r2.1),⟨⟨rfl,rfl,trivial⟩,by show r1.1.length<_; omega,by show r2.1.length<_; omega⟩,⟨_,rfl⟩,?_⟩⟩
 ·have h:r2.2≠0:=by
   intro h0;have h':(!decide (r2.2=0))=true:=h;rw [h0] at h'; cases h'
  rw [aP h] at hfin;rw [<- hfin] at hq;exact RetR.scal hq rfl (by simp [resV,Pr.err])
 ·have h:r2.2=0:=by
   have h':(!decide (r2.2=0))=false:=h;cases hd:decide (r2.2=0) with
   | true=>exact aB hd
   | false=>rw [hd] at h'; cases h'
  rw [aO (by rw [h]; simp)] at hfin;rintro _ rfl;rw [<- hfin] at hq;exact RetR.scal hq rfl (by simp [resV])
noncomputable def GQD:=tb Vs (tb KF (tb Vy (tb Yz tz)))
def zfg:Ctr:=ctrP true (λp:L8×L8=>[.str p.1,.str p.2]) (λp=>p.1.length<2^61/\p.2.length<2^61) (λp r=>r=divR p.1 p.2) (λ_ r=>(.tup [.str r.1,.i r.2],[]))
theorem Uu:zc prog 76 zfg:=by
 refine zh' f76 λp hp O w0 Q hq=> ?_
 obtain⟨a,b⟩:=p;obtain⟨h1,h2⟩:=hp;replace hq:=hq _ rfl;simp only at h1 h2 hq;refine zb.n GQD.h [] (.ex (q24 [.str a,.str b] []) λn=>.all (λ(r:Pr)=>r=qX n.1 n.2) λn=>.side (decide (Pr.e n=0)=true->(0:Int)<=1/\(1:Int)<2) (.ite (bif decide (Pr.e n=0) then decide (Pr.m n=#[(48:UInt8)].toList) else false) (.R [.str #[].toList,.i 16] [.box [.str n.n,.str n.m,.str n.d,.str n.c,.i n.e]]) (.ex (q25 [.ptr 0 0,.fn 79 [] []] [.box [.str n.n,.str n.m,.str n.d,.str n.c,.i n.e]]) λn=>.A λn_1=>.side ((0:Int)<=0/\(0:Int)<2) (.side ((0:Int)<=1/\(1:Int)<2) (.side ((0:Int)<=0/\(0:Int)<2) (.side ((0:Int)<=1/\(1:Int)<2) (.ex (q26 [.str n.1.n,.str n.1.c,.ptr 0 0,.ptr 2 0] [.box [.ptr 1 0],.box [.str n.1.n,.str n.1.m,.str n.1.d,.str n.1.c,.i n.1.e],.box [.fn (QOp.fn n.2) [] []]]) λn_2=>.all (λ(r:L8×Int)=>r=if Pr.e n_2.p≠0 then([],Pr.e n_2.p) else QOp.op n_2.o n_2.x n_2.y) λn_3=>let v1:=Pr.err n_2.p n_3.2;.side (Pr.m v1=Pr.m n.1) (.side (Pr.d v1=Pr.d n.1) (.ex (q26 [.str n.1.d,.str n.1.m,.ptr 0 0,.ptr 2 0] [.box [.ptr 1 0],.box [.str v1.n,.str v1.m,.str v1.d,.str v1.c,.i v1.e],.box [.fn (QOp.fn n_2.o) [] []]]) λn=>.all (λ(r:L8×Int)=>r=if Pr.e n.p≠0 then([],Pr.e n.p) else QOp.op n.o n.x n.y) λn_4=>let v2:=Pr.err n.p n_4.2;.ex (q27 [.ptr 0 0,.str n_3.1,.str n_4.1] [.box [.str v2.n,.str v2.m,.str v2.d,.str v2.c,.i v2.e]]) λn_5=>.all (λ(r:L8×Int)=>r=if Pr.e n_5.1≠0 then([],Pr.e n_5.1) else jQ n_5.2.1 n_5.2.2) λn_6=>.R [.str n_6.1,.i n_6.2] [.box [.str n_5.1.n,.str n_5.1.m,.str n_5.1.d,.str n_5.1.c,.i n_5.1.e],.box [.ptr 0 0],.box [.fn (QOp.fn n.o) [] []]]))))))))) ?_;simp only [q24,q25,q26,q27,Tree.holds,ze];refine⟨(a,b),⟨⟨rfl,rfl,trivial⟩,trivial,by trivial,by show a.length<_; omega,by show b.length<_; omega⟩,⟨_,rfl⟩,?_⟩;intro p hp;have hc:=wI a b;obtain⟨l1,l2,l3,l4⟩:=kf a b;rw [<- hp] at hc l1 l2 l3 l4;have h0:(decide (p.e=0)=true->0<=1/\(1:Int)<2):=λ_=>by decide
 refine⟨λ_=>by decide,λ_=>⟨λh=> ?_,λh=> ?_⟩⟩
 ·have he:p.e=0:=bM λg=>by rw [aW g] at h; cases h
  rw [aX he] at h;have hm:p.m=[48]:=aB h
  have e:divR a b=([],16):=by
   rcases hc with ⟨g,_⟩ | ⟨_,g1,g2,_,g3,_⟩
   ·exact absurd he g
   ·unfold divR jk;rw [aP g1,g2,aO (by simp),aP (by rw [<- g3]; exact hm)]
  rw [e] at hq;exact RetR.scal hq rfl (by simp [resV])
 have hne:p.e=0->p.m≠[48]:=λhe g=>by
  rw [aX he,aX g] at h;cases h
 refine⟨(p,.mul),⟨kx_k _,kx_b p,by trivial,trivial⟩,⟨(),trivial⟩,?_⟩;intro _ _
 iterate 4 refine⟨by decide,λ_=> ?_⟩
 refine⟨⟨p,.mul,p.n,p.c⟩,⟨kx_l _ _,kx_h (p) _,by trivial,by show(p.n).length<_; omega,⟨by show(p.c).length<_; omega,trivial⟩⟩,⟨_,rfl⟩,?_⟩;intro r1 hr1;have kr1:=qe _ _ _ _ hr1
 iterate 2 refine⟨rfl,λ_=> ?_⟩
 refine⟨⟨p.err r1.2,.mul,p.d,p.m⟩,⟨kx_l _ _,kx_h (p.err r1.2) _,by trivial,by show(p.d).length<_; omega,⟨by show(p.m).length<_; omega,trivial⟩⟩,⟨_,rfl⟩,?_⟩;intro r2 hr2;have kr2:=qe _ _ _ _ hr2;refine⟨((p.err r1.2).err r2.2,r1.1,r2.1),⟨kx_m _ _,kx_b _,by trivial,by show(r1.1).length<_; omega,by show(r2.1).length<_; omega⟩,⟨_,rfl⟩,?_⟩;intro r3 hr3
 have hv:errR a=0->errR b=0->zu p.n p.c=0/\zu p.d p.m=0:=by
  intro ha hb;obtain⟨a1,a2,_⟩:=qg ha;obtain⟨b1,b2,_⟩:=qg hb;rcases hc with ⟨g1,g2⟩ | ⟨_,_,_,g1,g2,g3,g4⟩
  ·exact absurd g2 (by unfold jk; rw [aP ha,hb]; exactλh=>g1 h.symm)
  ·rw [g1,g2,g3,g4]; exact⟨zl.2 ⟨a1,b2⟩,zl.2 ⟨a2,b1⟩⟩
 have hfin:=JV hc hr1 hr2 hr3 hv
 have e:r3=divR a b:=by
  rw [hfin];unfold divR;rcases hc with ⟨g1,g2⟩ | ⟨g0,_,_,g1,g2,g3,g4⟩
  ·rw [aP (by rw [g2]; exact g1),aP (by rw [g2]; exact g1)]
  ·rw [<- g1,<- g2,<- g3,<- g4,aO (hne g0)]
 rw [<- e] at hq;exact RetR.scal hq rfl (by simp [resV])
end Go.Proofs.Tryz
end
section
namespace Go.Sx
variable [Stat]
section
variable {P:Program}
theorem J5(a:AV):eqA0 a a:=by
 cases a<;>simp [eqA0]
 exactλ_ _ _ _=>rfl
theorem u4:∀ l:List AV,eqL0 l l
 | []=>trivial
 | a::l=>⟨J5 a,u4 l⟩
theorem zdw(a:AV):eqA a a:=by
 cases a with
 | agg l=>exact u4 l
 | tup l=>exact u4 l
 | _=>unfold eqA; exact J5 _
theorem ZD:∀ l:List AV,eqL l l
 | []=>trivial
 | a::l=>by
  unfold eqL;split
  ·rename_i h1 h2; cases h1
  ·rename_i h1 h2; cases h1; cases h2; exact ZD l
  ·rename_i h1 h2; cases h1; cases h2; exact⟨zdw _,ZD l⟩
  ·rename_i hx; exact(hx _ _ _ _ rfl rfl).elim
end
end Go.Sx
end
section
namespace Go.Sx
variable [Stat]
section
variable {P:Program} {Γ:Nat->Option Ctr} {fn:Func}
def inlC(P:Program)(Γ:Nat->Option Ctr)(n:Nat)(fn:Func):Ctr where
 fresh:=false
 spec args hc:=match fn.body with
  | some c=>(run P Γ hc.length n [.code c] (vX fn args hc)).bind λlf=>match lf with
   | .ret st=>(resX P st fn.results.toList).bind λrs=>bif decide (hc.length<=st.heap.length) then .leaf (exp2 st.heap (List.range st.heap.length) (resV rs),expH st.heap (List.range st.heap.length)) else .fail
   | _=>.fail
  | none=>.fail
theorem nodup_range':∀ (n s:Nat),w8 (List.range' s n)=true
 | 0,_=>rfl
 | n+1,s=>by
  rw [List.range'_succ];simp only [w8,bA];refine⟨?_,nodup_range' n (s+1)⟩;simp [bX,List.mem_range'_1]
theorem z5(b:Blk):eqB b b:=by
 cases b with
 | dead=>trivial
 | box l=>exact ZD l
 | arr n sz g=>exact⟨rfl,rfl,λ_ _ _ _=>rfl⟩
 | arrI k n f=>exact⟨rfl,λ_ _ _ _=>rfl⟩
 | arrS n f=>exact⟨rfl,λ_ _ _ _=>rfl⟩
 | map ag sh has get pe=>exact⟨⟨rfl,.inr rfl⟩,rfl,λ_=>rfl,λ_ _=>rfl⟩
theorem za4(h:Heap):eqH h h:=by
 induction h with
 | nil=>trivial
 | cons b l ih=>exact⟨z5 b,ih⟩
theorem kE{g n:Nat}(hmix:P.follows .mixedOrders=true)(hΓ:∀ g c,Γ g=some c->zc P g c)(hf:P.funcs[g]?=some fn) (hn:(fn.name == "runtime.NumGoroutine")=false):zc P g (inlC P Γ n fn):=by
 intro args hc Q hq hfr;simp only [inlC] at hq;cases hb:fn.body with
 | none=>rw [hb] at hq; exact hq.elim
 | some c=>
  rw [hb] at hq;simp only [Tree.zo] at hq;refine uj.plain (zi5 hf hb hn hfr λO w0 I0 hl=>Safe.run hmix (λg c h=>(hΓ g c h).x) n (Tree.zU (λlf h=> ?_) hq));cases lf with
  | ret st=>
   simp only [Tree.zo] at h;refine Tree.zU (λrs h=> ?_) h;cases hd:decide (hc.length<=st.heap.length) with
   | false=>rw [hd] at h; exact h.elim
   | true=>
    rw [hd] at h;have h:Q (exp2 st.heap (List.range st.heap.length) (resV rs),expH st.heap (List.range st.heap.length)):=h;have hd:=aB hd;exact⟨List.range st.heap.length,by rw [List.range_eq_range']; exact nodup_range' _ _,λi hi=>List.mem_range.1 hi,λj hj=>by rw [List.getElem?_range (by omega)],λh=>(by cases h),_,_,LeA.refl _,.inl (za4 _),by simp [expH],h⟩
  | _=>exact h.elim
end
end Go.Sx
end
section
namespace Go.Nov
open Go.Sx
def cmpS(s t:L8):Int:=if Op.bytesLess s t then -1 else if s=t then 0 else 1
def cmpI(x y:Int):Int:=if x<y then -1 else if y<x then 1 else 0
def orI:List Int->Int
 | []=>0
 | x::l=>if x=0 then orI l else x
structure Fx where
 name:L8
 date:Int
 value:L8
structure Ch where
 vN:L8
 name:L8
 date:Int
 first:Bool
abbrev Fx.nil:Fx:=⟨[],0,[]⟩
abbrev Ch.nil:Ch:=⟨[],[],0,false⟩
def Fx.cell(f:Fx):Nat->AV
 | 0=>.str f.name
 | 1=>.i f.date
 | 2=>.str f.value
 | _=>.undef
def Ch.cell(c:Ch):Nat->AV
 | 0=>.str c.vN
 | 1=>.str c.name
 | 2=>.i c.date
 | 3=>.bool c.first
 | _=>.undef
def fxG(l:List Fx):Nat->Nat->AV:=λj=>(l.getD j Fx.nil).cell
def chG(l:List Ch):Nat->Nat->AV:=λj=>(l.getD j Ch.nil).cell
def Fx.av(f:Fx):AV:=.agg [.str f.name,.i f.date,.str f.value]
def Ch.av(c:Ch):AV:=.agg [.str c.vN,.str c.name,.i c.date,.bool c.first]
def fxS(l:List Fx):AV:=.sl l.length 3 (fxG l)
def chS(l:List Ch):AV:=.sl l.length 4 (chG l)
def envA(f:List Fx)(c:List Ch):AV:=.agg [fxS f,chS c]
def cmpF(a b:Fx):Int:=if cmpS a.name b.name=0 then cmpI a.date b.date else cmpS a.name b.name
def cmpC(a b:Ch):Int:=if cmpS a.vN b.vN=0 then(if cmpS a.name b.name=0 then cmpI a.date b.date else cmpS a.name b.name) else cmpS a.vN b.vN
end Go.Nov
namespace Go.Nov
def okF(f:Fx):Bool:=jb f.name&&dayB f.date&&decide (errR f.value=0)
def okC(c:Ch):Bool:=jb c.vN&&jb c.name&&dayB c.date
def idxB{α:Type}(p:α->Bool)(l:List α):Int:=if l.findIdx p<l.length then(l.findIdx p:Int) else -1
theorem Kb{α:Type}(p:α->Bool)(l:List α):decide (0<=idxB p l)=l.any p:=by
 unfold idxB;by_cases h:l.findIdx p<l.length
 ·rw [aP h]
  have:l.any p=true:=by
   rw [List.any_eq_true];exact⟨_,bK h,List.findIdx_getElem (w:=h)⟩
  rw [this]; simp
 ·rw [aO h]
  have:l.any p=false:=by
   rw [List.any_eq_false];intro x hx hpx;exact h (List.findIdx_lt_length_of_exists ⟨x,hx,hpx⟩)
  rw [this]; rfl
theorem WR{α:Type}{p:α->Bool}{l:List α}{z:α}{i:Nat}(hi:i<l.length)(h:p (l.getD i z)=true)(hb:∀ j,j<i->p (l.getD j z)=false):idxB p l=i:=by
 have hlt:l.findIdx p<l.length:=List.findIdx_lt_length_of_exists ⟨l[i],bK hi,by simpa [List.getD,hi] using h⟩
 have e:l.findIdx p=i:=by
  rcases Nat.lt_trichotomy (l.findIdx p) i with h1 | h1 | h1
  ·have h2:=List.findIdx_getElem (w:=hlt);have h3:=hb _ h1;simp only [List.getD,aF hlt,Option.getD_some] at h3;rw [h2] at h3; cases h3
  ·exact h1
  ·have h2:=List.not_of_lt_findIdx h1;simp only [List.getD,aF hi,Option.getD_some] at h;exact absurd h (by simpa using h2)
 unfold idxB;rw [aP hlt,e]
theorem u6{α:Type}{p:α->Bool}{l:List α}{z:α}(hb:∀ j,j<l.length->p (l.getD j z)=false):idxB p l = -1:=by
 unfold idxB;rw [aO];intro h;have h2:=List.findIdx_getElem (w:=h);have h3:=hb _ h;simp only [List.getD,aF h,Option.getD_some] at h3;rw [h2] at h3; cases h3
end Go.Nov
namespace Go.Nov
def ordB{α:Type}(c:α->α->Int)(z:α)(l:List α):Bool:=(List.range (l.length - 1)).all λi=>decide (c (l.getD i z) (l.getD (i+1) z)<0)
theorem VB{α:Type}{c:α->α->Int}{z:α}{l:List α}(h:∀ j,j+1<l.length->c (l.getD j z) (l.getD (j+1) z)<0):ordB c z l=true:=by
 simp only [ordB,bG,List.mem_range,aK];exactλj hj=>h j (by omega)
theorem Vf{α:Type}{c:α->α->Int}{z:α}{l:List α}{j:Nat}(hj:j+1<l.length)(h:¬ c (l.getD j z) (l.getD (j+1) z)<0):ordB c z l=false:=by
 simp only [ordB,List.all_eq_false,List.mem_range];exact⟨j,by omega,by simpa using h⟩
def errE(f:List Fx)(c:List Ch):Int:=if 1000<f.length\/1000<c.length then 4 else if(f.all okF&&c.all okC&&ordB cmpF Fx.nil f&&ordB cmpC Ch.nil c)=true then 0 else 8
end Go.Nov
namespace Go.Nov
end Go.Nov
namespace Go.Nov
end Go.Nov
end
section
namespace Go.Nov
open Go.Sx
theorem zbu:∀ s:L8,Op.bytesLess s s=false
 | []=>rfl
 | a::s=>by simp [Op.bytesLess,zbu s]
theorem Y9{s t:L8} : cmpS s t=0↔s=t:=by
 unfold cmpS;cases hb:Op.bytesLess s t with
 | true=>
  simp only [if_true];refine⟨λh=>by omega,λh=> ?_⟩;subst h; rw [zbu] at hb; cases hb
 | false=>by_cases h:s=t<;>simp [h]
theorem zgq{x y:Int} : cmpI x y=0↔x=y:=by
 unfold cmpI;split
 ·exact⟨λh=>by omega,λh=>by omega⟩
 ·split
  ·exact⟨λh=>by omega,λh=>by omega⟩
  ·exact⟨λ_=>by omega,λ_=>rfl⟩
theorem zfz{a b:Fx} : cmpF a b=0↔a.name=b.name/\a.date=b.date:=by
 unfold cmpF;by_cases h:cmpS a.name b.name=0
 ·rw [aP h,zgq]; exact⟨λh2=>⟨Y9.1 h,h2⟩,λh2=>h2.2⟩
 ·rw [aO h]; exact⟨λh2=>absurd h2 h,λh2=>absurd (Y9.2 h2.1) h⟩
section
variable {α:Type} {c:α->α->Int} {z x:α}
end
theorem QQ{f:List Fx}{c:List Ch} : errE f c=0↔¬ (1000<f.length\/1000<c.length)/\f.all okF=true/\c.all okC=true/\ordB cmpF Fx.nil f=true/\ordB cmpC Ch.nil c=true:=by
 unfold errE;by_cases hb:1000<f.length\/1000<c.length
 ·rw [aP hb]; simp [hb]
 ·rw [aO hb];by_cases h:(f.all okF&&c.all okC&&ordB cmpF Fx.nil f&&ordB cmpC Ch.nil c)=true
  ·rw [aP h];simp only [bA] at h;exact⟨λ_=>⟨hb,h.1.1.1,h.1.1.2,h.1.2,h.2⟩,λ_=>rfl⟩
  ·rw [aO h];refine⟨λh2=>by omega,λh2=>absurd ?_ h⟩;simp [h2.2.1,h2.2.2.1,h2.2.2.2.1,h2.2.2.2.2]
def wG(l:List Fx)(a:L8)(d:Int):L8×Bool:=match l.find? λx=>decide (x.name=a)&&decide (x.date=d) with
 | some x=>(x.value,true)
 | none=>([],false)
theorem zhk{α:Type}{p:α->Bool}{l:List α}{z:α}{i:Nat}(hi:i<l.length)(h:p (l.getD i z)=true)(hb:∀ j,j<i->p (l.getD j z)=false):l.find? p=some (l.getD i z):=by
 induction l generalizing i with
 | nil=>simp at hi
 | cons a l ih=>
  cases i with
  | zero=>simp only [List.getD_cons_zero] at h ⊢; simp [h]
  | succ i=>
   have h0:=hb 0 (by omega);simp only [List.getD_cons_zero,List.getD_cons_succ] at h h0 ⊢;rw [List.find?_cons,h0];exact ih (by simpa using hi) h λj hj=>by have:=hb (j+1) (by omega); simpa using this
end Go.Nov
end
section
namespace Go.Nov
theorem zjh{b:L8}(h:allD b)(hn:b≠[])(hz:b.getD 0 0≠48):numD b≠0/\txt (numD b)=b:=by
 have hd:=zja h;have hl:0<b.length:=List.length_pos_iff.2 hn
 have htl:Ten.tlen (dg b)=(dg b).length:=by
  rcases aR (Ten.tlen (dg b)) (dg b).length with h1 | h1
  ·exfalso;have h2:=Ten.jE (dg b) ((dg b).length - 1) (by omega);rw [XQ] at h2
   have e:(dg b).getD (b.length - 1) 0=(b.getD 0 0).toNat - 48:=by
    simp only [dg,List.getD_eq_getElem?_getD];rw [List.getElem?_reverse (by simp; omega)];simp [aF hl,show b.length - 1 - (b.length - 1)=0 by omega]
   rw [e] at h2
   have h3:48<=(b.getD 0 0).toNat:=by
    cases b with
    | nil=>exact absurd rfl hn
    | cons c r=>exact(h c (by simp)).1
   apply hz;apply UInt8.toNat_inj.1;show _=48;omega
  ·exact Nat.le_antisymm (Ten.qp _) h1
 have hc:dec (numD b)=dg b:=by
  rw [<- XA];exact Ten.JF hd htl
 have h0:numD b≠0:=by
  intro h0;rw [h0] at hc;have:dg b=[]:=by rw [<- hc]; exact Ten.zH
  have:=congrArg List.length this;rw [XQ,List.length_nil] at this;omega
 refine⟨h0,?_⟩;rw [yq h0,hc,dg,<- List.map_reverse,List.reverse_reverse,List.map_map]
 conv=>rhs; rw [<- List.map_id b]
 refine List.map_congr_left λc hcm=> ?_
 obtain⟨h1,h2⟩:=h c hcm;apply UInt8.toNat_inj.1;simp only [Function.comp,id];rw [Zh (by omega)];omega
theorem Yr{s:L8}(h:errI s=0):wr (negI s) (numI s)=(s,0):=by
 obtain⟨neg,b,h1,h2,h3,h4,h5,h6⟩:=WE h;have e1:negI s=neg:=by simp [negI,h2]
 have e2:numI s=numD b:=by simp [numI,h2]
 rw [e1,e2];by_cases hz:b.getD 0 0=48
 ·have hb:b=[48]:=by
   cases b with
   | nil=>exact absurd rfl h5
   | cons c r=>
    cases r with
    | nil=>have:c=48:=hz; rw [this]
    | cons d r=>rw [kB hz (by simp)] at h3; cases h3
  subst hb;cases neg with
  | true=>cases h3
  | false=>rw [h1]; rfl
 ·obtain⟨g1,g2⟩:=zjh h4 h5 hz;unfold wr;rw [aO g1,g2,aO,h1];have:=Zq g1;rw [g2] at this;omega
def zI(s:L8):Int:=if negI s then -(numI s:Int) else numI s
theorem jB(s:L8):(zI s).natAbs=numI s:=by unfold zI; split<;>simp
theorem Vd{s:L8}(h:errI s=0):negI s=decide (zI s<0):=by
 unfold zI;cases hn:negI s with
 | false=>simp
 | true=>
  simp only [if_true]
  have:numI s≠0:=by
   intro h0;have:=(kb h).2 h0;rw [this] at hn;cases hn
  exact(aX (by omega)).symm
def wz(z:Int):L8×Int:=wr (decide (z<0)) z.natAbs
theorem yO{s:L8}(h:errI s=0):wz (zI s)=(s,0):=by
 unfold wz;rw [jB,<- Vd h,Yr h]
theorem zkp{neg:Bool}{x:Nat}(h:(wr neg x).2=0):zI (wr neg x).1=if neg then -(x:Int) else x:=by
 obtain⟨h1,h2,h3⟩:=uS h;unfold zI;rw [h2,h3];by_cases h0:x=0
 ·subst h0; simp
 ·cases neg<;>simp [h0]
theorem vd{z:Int}(h:(wz z).2=0):zI (wz z).1=z:=by
 unfold wz at h ⊢;rw [zkp h];by_cases hz:z<0
 ·rw [aX hz]; simp only [if_true]; omega
 ·rw [aW hz]; simp only [Bool.false_eq_true,if_false]; omega
theorem vL{z:Int}(h:(wz z).2=0):errI (wz z).1=0:=(uS h).1
theorem Ke{neg:Bool}{x:Nat} : wr neg x=wz (if neg then -(x:Int) else x):=by
 unfold wz;by_cases h0:x=0
 ·subst h0;cases neg<;>rfl
 ·cases neg with
  | false=>simp only [Bool.false_eq_true,if_false,Int.natAbs_natCast]; rw [aW (by omega)]
  | true=>simp only [if_true,Int.natAbs_neg,Int.natAbs_natCast]; rw [aX (by omega)]
theorem zcj(m:Bool)(x:Nat)(n:Bool)(y:Nat):(if(sumS m x n y).1 then -((sumS m x n y).2:Int) else(sumS m x n y).2)=(if m then -(x:Int) else x)+(if n then -(y:Int) else y):=by
 unfold sumS;by_cases h:m=n
 ·subst h;rw [aP rfl];cases m<;>simp<;>omega
 ·rw [aO h];by_cases h2:y<=x
  ·rw [aP h2];cases m<;>cases n<;>first | exact absurd rfl h | (simp; omega)
  ·rw [aO h2];cases m<;>cases n<;>first | exact absurd rfl h | (simp; omega)
theorem zkj{s t:L8}(h:zu s t=0):addI s t=wz (zI s+zI t):=by
 unfold addI;rw [aP h,Ke,zcj]; rfl
theorem zev{s t:L8}(h:zu s t=0):subI s t=wz (zI s - zI t):=by
 unfold subI;rw [aP h,Ke,zcj];congr 1;unfold zI;cases negI s<;>cases negI t<;>simp<;>omega
theorem v7{s t:L8}(h:zu s t=0):mulI s t=wz (zI s*zI t):=by
 unfold mulI;rw [aP h,Ke];congr 1;unfold zI;cases negI s<;>cases negI t<;>simp [Int.neg_mul,Int.mul_neg]
theorem zjn(m:Bool)(x:Nat)(n:Bool)(y:Nat)(hm:m=true->x≠0)(hn:n=true->y≠0):cmpZ m x n y=cmpI (if m then -(x:Int) else x) (if n then -(y:Int) else y):=by
 unfold cmpZ cmpI cmpN;cases m<;>cases n
 ·simp only [Bool.false_eq_true,false_and,if_false]
  repeat' split
  all_goals first | rfl | omega
 ·have:=hn rfl;simp only [Bool.false_eq_true,false_and,if_false,true_and,and_self,if_true]
  repeat' split
  all_goals first | rfl | omega
 ·have:=hm rfl;simp only [and_self,if_true,Bool.false_eq_true,if_false]
  repeat' split
  all_goals first | rfl | omega
 ·simp only [Bool.true_eq_false,and_false,if_false,if_true]
  repeat' split
  all_goals first | rfl | omega
def qv(a:L8):Rat:=Rat.divInt (zI (numR a)) (zI (denR a))
def qstr(r:Rat):L8:=if r.den=1 then(wz r.num).1 else(wz r.num).1++[47]++(wz r.den).1
def vr(r:Rat):Prop:=room r.num.natAbs/\room r.den
theorem ze8(neg:Bool)(x:Nat):∀ c∈(wr neg x).1,c≠47:=by
 intro c hc h;subst h;unfold wr at hc;split at hc
 ·simp at hc
 ·rename_i h0;split at hc
  ·simp at hc
  ·have ht:¬ (47:UInt8)∈txt x:=λhm=>by
    have:=(Up h0 _ hm).1;have e:(47:UInt8).toNat=47:=rfl;omega
   cases neg<;>simp [sgn] at hc<;>exact ht hc
theorem zd9{u v:L8}(h:∀ c∈u,c≠47):cutR (u++[47]++v)=(u,v,true):=by
 have hs:zE (u++[47]++v)=u.length:=by
  refine zbj (by simp) (by simp [List.getD]) λj hj=> ?_
  rw [List.append_assoc];simp only [List.getD,bL hj,aF hj,Option.getD_some];exact h _ (bK hj)
 rw [Yo (by rw [hs]; simp),hs];simp
theorem UY{u:L8}(h:∀ c∈u,c≠47):cutR u=(u,[],false):=by
 have hs:zE u=u.length:=X9 λj hj=>by
  simp only [List.getD,aF hj,Option.getD_some];exact h _ (bK hj)
 exact zbb (by omega)
theorem Ks(z:Int):∀ c∈(wz z).1,c≠47:=ze8 _ _
theorem x5{z:Int}(h:room z.natAbs):(wz z).2=0:=vU h
theorem zk5:wz 1=([49],0):=ku
theorem xP{r:Rat}(h:vr r):numR (qstr r)=(wz r.num).1/\denR (qstr r)=(wz (r.den:Int)).1/\(cutR (qstr r)).2.2=decide (r.den≠1):=by
 unfold qstr;by_cases h1:r.den=1
 ·rw [aP h1];have:=UY (Ks r.num);unfold numR denR;rw [this,h1];exact⟨rfl,by simp only [Bool.false_eq_true,if_false]; exact(congrArg Prod.fst zk5).symm,by simp⟩
 ·rw [aO h1];have:=zd9 (v:=(wz (r.den:Int)).1) (Ks r.num);unfold numR denR;rw [this];exact⟨rfl,rfl,by simp [h1]⟩
theorem yB{r:Rat}(h:vr r):qv (qstr r)=r:=by
 obtain⟨h1,h2,_⟩:=xP h;unfold qv;rw [h1,h2,vd (x5 h.1),vd (x5 (by rw [Int.natAbs_natCast]; exact h.2)),Rat.divInt_ofNat,Rat.mkRat_self]
theorem kg{r:Rat}(h:vr r):errR (qstr r)=0:=by
 obtain⟨h1,h2,h3⟩:=xP h;have e1:=vL (x5 h.1);have e2:errI (wz (r.den:Int)).1=0:=vL (x5 (by rw [Int.natAbs_natCast]; exact h.2));have z1:=vd (x5 h.1);have z2:zI (wz (r.den:Int)).1=r.den:=vd (x5 (by rw [Int.natAbs_natCast]; exact h.2));unfold errR;by_cases hd:r.den=1
 ·rw [h3,hd];simp only [ne_eq,not_true_eq_false,decide_false,Bool.false_eq_true,if_false];unfold qstr;rw [aP hd];exact e1
 ·have hc:(cutR (qstr r)).2.2=true:=by rw [h3]; simp [hd]
  have n1:(cutR (qstr r)).1=(wz r.num).1:=h1;have n2:(cutR (qstr r)).2.1=(wz (r.den:Int)).1:=by unfold denR at h2; rw [hc] at h2; exact h2
  rw [hc,aP rfl,n1,n2];have hp:=r.den_pos;have hneg:negI (wz (r.den:Int)).1=false:=by rw [Vd e2,z2]; exact aW (by omega)
  have hn48:(wz (r.den:Int)).1≠[48]:=λh=>by
   rw [h] at z2;have:zI [48]=0:=rfl;omega
  have hn49:(wz (r.den:Int)).1≠[49]:=λh=>by
   rw [h] at z2;have:zI [49]=1:=rfl;omega
  rw [aO (by simp [e1,e2,hneg,hn48,hn49]),aO (by simp [e1,e2])]
  have hg:gcdR (wz r.num).1 (wz (r.den:Int)).1=wr false (Nat.gcd r.num.natAbs r.den):=by
   unfold gcdR;rw [aP (zl.2 ⟨e1,e2⟩),<- jB,<- jB,z1,z2,Int.natAbs_natCast]
  have hr:Nat.gcd r.num.natAbs r.den=1:=r.reduced;rw [hg,hr,ku,aO (by simp)]
theorem vI{a:L8}(h:errR a=0):(qv a).num=zI (numR a)/\((qv a).den:Int)=zI (denR a)/\qstr (qv a)=a/\vr (qv a):=by
 obtain⟨e1,e2,e3,e4⟩:=qg h;have hz:zI (denR a)=numI (denR a):=by unfold zI; rw [e3]; rfl
 have hcop:Nat.gcd (numI (numR a)) (numI (denR a))=1:=by
  unfold errR at h;cases hc:(cutR a).2.2 with
  | true=>
   rw [hc,aP rfl] at h;have hd:denR a=(cutR a).2.1:=by unfold denR; rw [hc]; rfl
   rw [hd] at e2 e4 ⊢;unfold numR at e1 ⊢;split at h
   ·cases h
   split at h
   ·cases h
   split at h
   ·cases h
   ·rename_i hg;rw [Classical.not_not] at hg;unfold gcdR at hg;rw [aP (zl.2 ⟨e1,e2⟩)] at hg;exact(XK (Kt e2 e4).2).1 hg
  | false=>
   have:denR a=[49]:=by unfold denR; rw [hc]; rfl
   rw [this];exact Nat.gcd_one_right _
 have hq:qv a=⟨zI (numR a),numI (denR a),e4,by rw [jB]; exact hcop⟩:=by
  unfold qv;rw [hz,Rat.mk_eq_divInt]
 have hroom:vr (qv a):=by
  rw [hq];exact⟨by show room (zI (numR a)).natAbs; rw [jB]; exact j5 e1,j5 e2⟩
 refine⟨by rw [hq],by rw [hq,hz],?_,hroom⟩;rw [hq];unfold qstr;simp only;rw [<- hz,yO e1,yO e2];cases hc:(cutR a).2.2 with
 | true=>
  have hd:denR a=(cutR a).2.1:=by unfold denR; rw [hc]; rfl
  have hn1:numI (denR a)≠1:=by
   intro h1
   have:denR a=[49]:=by
    have:=(Yr e2);rw [e3,h1,ku] at this;exact(congrArg Prod.fst this).symm
   unfold errR at h;rw [hc,aP rfl,aP (by rw [<- hd,this]; simp)] at h;cases h
  rw [aO hn1,hd];simp only [numR];unfold cutR at hc ⊢;split at hc
  ·rename_i hs;rw [aP hs];simp only;have h47:=ZP hs
   have:a=a.take (zE a)++([a.getD (zE a) 0]++a.drop (zE a+1)):=by
    conv=>lhs; rw [<- bU (zE a) a]
    congr 1;rw [List.drop_eq_getElem_cons hs];simp [List.getD,aF hs]
   rw [h47] at this;rw [List.append_assoc];exact this.symm
  ·cases hc
 | false=>
  have hd:denR a=[49]:=by unfold denR; rw [hc]; rfl
  rw [hd];have:numI [49]=1:=rfl;rw [aP this];unfold numR;unfold cutR at hc ⊢;split at hc
  ·cases hc
  ·rename_i hs;rw [aO hs]
theorem Xq{a b:L8}(ha:errR a=0)(hb:errR b=0)(h:qv a=qv b):a=b:=by
 rw [<- (vI ha).2.2.1,<- (vI hb).2.2.1,h]
theorem zhr(a b:Int)(hb:b≠0):b.sign*a=if(decide (a<0) != decide (b<0))=true then -(a.natAbs:Int) else a.natAbs:=by
 by_cases h1:a<0
 ·rw [aX h1];by_cases h2:b<0
  ·rw [aX h2,Int.sign_eq_neg_one_of_neg h2]; simp; omega
  ·rw [aW h2,Int.sign_eq_one_of_pos (by omega)]; simp; omega
 ·rw [aW h1];by_cases h2:b<0
  ·rw [aX h2,Int.sign_eq_neg_one_of_neg h2]; simp; omega
  ·rw [aW h2,Int.sign_eq_one_of_pos (by omega)]; simp; omega
theorem zfh{n d:L8}(hn:errI n=0)(hd:errI d=0)(h0:numI d≠0):jQ n d=(qstr (Rat.divInt (zI n) (zI d)),0)/\vr (Rat.divInt (zI n) (zI d)):=by
 have hz0:zI d≠0:=λh=>h0 (by rw [<- jB,h]; rfl)
 have hg:(zI d).gcd (zI n)=Nat.gcd (numI n) (numI d):=by
  show Nat.gcd _ _=_;rw [jB,jB,Nat.gcd_comm]
 have hden:(Rat.divInt (zI n) (zI d)).den=numI d/Nat.gcd (numI n) (numI d):=by
  rw [Rat.den_divInt,aO hz0,hg,jB]
 have hdv:Nat.gcd (numI n) (numI d) ∣ numI n:=Nat.gcd_dvd_left _ _
 have hnum:(Rat.divInt (zI n) (zI d)).num=if(negI n != negI d)=true then -((numI n/Nat.gcd (numI n) (numI d):Nat):Int) else((numI n/Nat.gcd (numI n) (numI d):Nat):Int):=by
  rw [Rat.num_divInt,hg,zhr _ _ hz0,jB,<- Vd hn,<- Vd hd];split
  ·rw [Int.neg_ediv_of_dvd (Int.natCast_dvd_natCast.2 hdv),Int.natCast_ediv]
  ·rw [Int.natCast_ediv]
 have hroom:vr (Rat.divInt (zI n) (zI d)):=by
  refine⟨?_,by rw [hden]; exact room_le (Nat.div_le_self _ _) (j5 hd)⟩;rw [hnum];have:room (numI n/Nat.gcd (numI n) (numI d)):=room_le (Nat.div_le_self _ _) (j5 hn);split
  ·rw [Int.natAbs_neg,Int.natAbs_natCast]; exact this
  ·rw [Int.natAbs_natCast]; exact this
 refine⟨?_,hroom⟩;unfold jQ;rw [aO (by rw [zl.2 ⟨hn,hd⟩]; simp),aO h0];congr 1;unfold YV qstr;rw [hden,hnum];have e2:(wr false (numI d/Nat.gcd (numI n) (numI d))).1=(wz ((numI d/Nat.gcd (numI n) (numI d):Nat):Int)).1:=by rw [Ke]; rfl
 rw [Ke,e2]
theorem Vc{n d:L8}{e f:Int}{z w:Int}(hw:w≠0)(hz:(n,e)=wz z)(hd:(d,f)=wz w):frac (n,e) (d,f)=([],14)\/(frac (n,e) (d,f)=(qstr (Rat.divInt z w),0)/\vr (Rat.divInt z w)):=by
 unfold frac;by_cases he:e=0
 ·by_cases hf:f=0
  ·subst he; subst hf;have h1:(wz z).2=0:=by rw [<- hz]
   have h2:(wz w).2=0:=by rw [<- hd]
   have n1:n=(wz z).1:=by rw [<- hz]
   have n2:d=(wz w).1:=by rw [<- hd]
   have z1:=vd h1;have z2:=vd h2;have e1:=vL h1;have e2:=vL h2;rw [<- n1] at z1 e1;rw [<- n2] at z2 e2;right;rw [aO (by simp)];have:=zfh e1 e2 (λh=>hw (by rw [<- z2]; have:=jB d; omega));rw [z1,z2] at this;exact this
  ·left; rw [aP (.inr hf)]
 ·left; rw [aP (.inl he)]
section
variable {a b:L8} (ha:errR a=0) (hb:errR b=0)
include ha hb
theorem QB:errI (numR a)=0/\errI (denR a)=0/\errI (numR b)=0/\errI (denR b)=0/\zI (denR a)≠0/\zI (denR b)≠0/\jk a b=0:=by
 obtain⟨a1,a2,_,a4⟩:=qg ha;obtain⟨b1,b2,_,b4⟩:=qg hb;exact⟨a1,a2,b1,b2,λh=>a4 (by rw [<- jB,h]; rfl),λh=>b4 (by rw [<- jB,h]; rfl),by unfold jk; rw [aP ha]; exact hb⟩
theorem W5:zW a b=14\/(zW a b=0/\mulI (numR a) (denR b)=wz (zI (numR a)*zI (denR b))/\mulI (numR b) (denR a)=wz (zI (numR b)*zI (denR a))/\(mulI (numR a) (denR b)).2=0/\(mulI (numR b) (denR a)).2=0):=by
 obtain⟨a1,a2,b1,b2,a4,b4,h2⟩:=QB ha hb;have m1:=v7 (zl.2 ⟨a1,b2⟩);have m2:=v7 (zl.2 ⟨b1,a2⟩);unfold zW;rw [aO (by rw [h2]; simp)];by_cases h:(mulI (numR a) (denR b)).2≠0\/(mulI (numR b) (denR a)).2≠0
 ·left; rw [aP h]
 ·right;rw [aO h];simp only [not_or,Classical.not_not] at h;exact⟨rfl,m1,m2,h.1,h.2⟩
theorem Vb:addR a b=([],14)\/(addR a b=(qstr (qv a+qv b),0)/\vr (qv a+qv b)):=by
 obtain⟨a1,a2,b1,b2,a4,b4,h2⟩:=QB ha hb;unfold addR;rcases W5 ha hb with h | ⟨h,m1,m2,k1,k2⟩
 ·left; rw [h]; rfl
 ·rw [h,aO (by simp)];rw [m1] at k1;rw [m2] at k2;have e1:=vL k1;have e2:=vL k2
  have:=Vc (n:=(addI (mulI (numR a) (denR b)).1 (mulI (numR b) (denR a)).1).1) (e:=(addI (mulI (numR a) (denR b)).1 (mulI (numR b) (denR a)).1).2) (d:=(mulI (denR a) (denR b)).1) (f:=(mulI (denR a) (denR b)).2)
   (z:=zI (numR a)*zI (denR b)+zI (numR b)*zI (denR a)) (w:=zI (denR a)*zI (denR b)) (Int.mul_ne_zero a4 b4) (by rw [m1,m2,zkj (zl.2 ⟨e1,e2⟩),vd k1,vd k2]) (by rw [v7 (zl.2 ⟨a2,b2⟩)])
  unfold qv;rw [Rat.divInt_add_divInt _ _ a4 b4];exact this
theorem Wp:subR a b=([],14)\/(subR a b=(qstr (qv a - qv b),0)/\vr (qv a - qv b)):=by
 obtain⟨a1,a2,b1,b2,a4,b4,h2⟩:=QB ha hb;unfold subR;rcases W5 ha hb with h | ⟨h,m1,m2,k1,k2⟩
 ·left; rw [h]; rfl
 ·rw [h,aO (by simp)];rw [m1] at k1;rw [m2] at k2;have e1:=vL k1;have e2:=vL k2
  have:=Vc (n:=(subI (mulI (numR a) (denR b)).1 (mulI (numR b) (denR a)).1).1) (e:=(subI (mulI (numR a) (denR b)).1 (mulI (numR b) (denR a)).1).2) (d:=(mulI (denR a) (denR b)).1) (f:=(mulI (denR a) (denR b)).2)
   (z:=zI (numR a)*zI (denR b) - zI (numR b)*zI (denR a)) (w:=zI (denR a)*zI (denR b)) (Int.mul_ne_zero a4 b4) (by rw [m1,m2,zev (zl.2 ⟨e1,e2⟩),vd k1,vd k2]) (by rw [v7 (zl.2 ⟨a2,b2⟩)])
  unfold qv;rw [Rat.divInt_sub_divInt _ _ a4 b4];exact this
theorem zdc:mulR a b=([],14)\/(mulR a b=(qstr (qv a*qv b),0)/\vr (qv a*qv b)):=by
 obtain⟨a1,a2,b1,b2,a4,b4,h2⟩:=QB ha hb;unfold mulR;rw [h2,aO (by simp)]
 have:=Vc (n:=(mulI (numR a) (numR b)).1) (e:=(mulI (numR a) (numR b)).2) (d:=(mulI (denR a) (denR b)).1) (f:=(mulI (denR a) (denR b)).2)
  (z:=zI (numR a)*zI (numR b)) (w:=zI (denR a)*zI (denR b)) (Int.mul_ne_zero a4 b4) (by rw [v7 (zl.2 ⟨a1,b1⟩)]) (by rw [v7 (zl.2 ⟨a2,b2⟩)])
 unfold qv;rw [Rat.divInt_mul_divInt];exact this
theorem Yg:(qv b=0/\divR a b=([],16))\/(qv b≠0/\(divR a b=([],14)\/(divR a b=(qstr (qv a/qv b),0)/\vr (qv a/qv b)))):=by
 obtain⟨a1,a2,b1,b2,a4,b4,h2⟩:=QB ha hb
 have hq:qv b=0↔zI (numR b)=0:=by
  rw [<- Rat.num_eq_zero,(vI hb).1]
 have hz:numR b=[48]↔zI (numR b)=0:=by
  rw [kb b1];have:=jB (numR b);omega
 unfold divR;rw [h2,aO (by simp)];by_cases h0:zI (numR b)=0
 ·left;exact⟨hq.2 h0,by rw [aP (hz.2 h0)]⟩
 ·right;refine⟨λh=>h0 (hq.1 h),?_⟩;rw [aO (λh=>h0 (hz.1 h))]
  have:=Vc (n:=(mulI (numR a) (denR b)).1) (e:=(mulI (numR a) (denR b)).2) (d:=(mulI (denR a) (numR b)).1) (f:=(mulI (denR a) (numR b)).2)
   (z:=zI (numR a)*zI (denR b)) (w:=zI (denR a)*zI (numR b)) (Int.mul_ne_zero a4 h0) (by rw [v7 (zl.2 ⟨a1,b2⟩)]) (by rw [v7 (zl.2 ⟨a2,b1⟩)])
  unfold qv;rw [Rat.div_def,Rat.inv_divInt,Rat.divInt_mul_divInt];exact this
theorem zjs:cmpR a b=(0,14)\/cmpR a b=(if qv a<qv b then -1 else if qv b<qv a then 1 else 0,0):=by
 obtain⟨a1,a2,b1,b2,a4,b4,h2⟩:=QB ha hb;obtain⟨p1,p2,_,_⟩:=vI ha;obtain⟨r1,r2,_,_⟩:=vI hb;unfold cmpR;rcases W5 ha hb with h | ⟨h,m1,m2,k1,k2⟩
 ·left; rw [h]; rfl
 ·right;rw [h,aO (by simp)];rw [m1] at k1;rw [m2] at k2;have e1:=vL k1;have e2:=vL k2;rw [m1,m2];unfold Qx;rw [aP (zl.2 ⟨e1,e2⟩)];congr 1
  have hx:∀ s:L8,errI s=0->negI s=true->numI s≠0:=λs he hn h0=>by
   rw [(kb he).2 h0] at hn; cases hn
  rw [zjn _ _ _ _ (hx _ e1) (hx _ e2)];show cmpI (zI (wz (zI (numR a)*zI (denR b))).1) (zI (wz (zI (numR b)*zI (denR a))).1)=_;rw [vd k1,vd k2,<- p1,<- p2,<- r1,<- r2];unfold cmpI;simp only [Rat.lt_iff]
end
theorem x6{a b:L8}(ha:errR a=0)(hb:errR b=0)(h:(addR a b).2=0):errR (addR a b).1=0/\qv (addR a b).1=qv a+qv b:=by
 rcases Vb ha hb with h1 | ⟨h1,h2⟩
 ·rw [h1] at h; cases h
 ·rw [h1]; exact⟨kg h2,yB h2⟩
theorem kJ{a b:L8}(ha:errR a=0)(hb:errR b=0)(h:(subR a b).2=0):errR (subR a b).1=0/\qv (subR a b).1=qv a - qv b:=by
 rcases Wp ha hb with h1 | ⟨h1,h2⟩
 ·rw [h1] at h; cases h
 ·rw [h1]; exact⟨kg h2,yB h2⟩
theorem WL{a b:L8}(ha:errR a=0)(hb:errR b=0)(h:(mulR a b).2=0):errR (mulR a b).1=0/\qv (mulR a b).1=qv a*qv b:=by
 rcases zdc ha hb with h1 | ⟨h1,h2⟩
 ·rw [h1] at h; cases h
 ·rw [h1]; exact⟨kg h2,yB h2⟩
theorem WY{a b:L8}(ha:errR a=0)(hb:errR b=0)(h:(divR a b).2=0):qv b≠0/\errR (divR a b).1=0/\qv (divR a b).1=qv a/qv b:=by
 rcases Yg ha hb with ⟨h0,h1⟩ | ⟨h0,h1 | ⟨h1,h2⟩⟩
 ·rw [h1] at h; cases h
 ·rw [h1] at h; cases h
 ·rw [h1]; exact⟨h0,kg h2,yB h2⟩
end Go.Nov
end
section
namespace Go.Nov
open Go.Sx
def jL(k:Int)(r n:L8)(d:Int)(l:Nat):Bool:=
 decide (l=0)&&(if k=1 then decide (errR r=0)&&decide (n=[])&&decide (d=0) else if k=2 then decide (r=[])&&jb n&&dayB d else if k=3 then decide (r=[])&&jb n&&decide (d=0) else false)
def vQ(k:Int)(r n:L8)(d:Int)(ss:List Int):Int:=
 if jh k=true then(if r=[]/\n=[]/\d=0/\ss=ja k then qV k else 0) else if jL k r n d ss.length=true then 1 else 0
def zi3(r m:L8)(d:Int):Bool:=bif (bif decide (r=[]) then decide (m=[]) else false) then decide (d=0) else false
theorem J9{k:Int}{r m:L8}{d:Int}{l ps:List Int}{w:Int}(h:yx k=some (ps,w)):vQ k r m d l=if zi3 r m d=true/\l=ps then w else 0:=by
 have h1:jh k=true:=by simp [jh,h]
 have h2:ja k=ps:=by simp [ja,h]
 have h3:qV k=w:=by simp [qV,h]
 unfold vQ;rw [aP h1,h2,h3];simp [zi3,and_assoc]
theorem Z8{k:Int}{r m:L8}{d:Int}{l:List Int}(h:jh k=false):vQ k r m d l=if jL k r m d l.length=true then 1 else 0:=by
 unfold vQ;rw [aO (by rw [h]; decide)]
theorem zfu{k:Int}(h:¬ (4<=k/\k<=9))(h2:¬ (11<=k/\k<=15)):jh k=false:=by
 have e:∀ c:Int,(4<=c/\c<=9)\/(11<=c/\c<=15)->(c == k)=false:=λc hc=>by
  rw [beq_eq_false_iff_ne]; omega
 simp only [jh,yx,shpL,List.find?_cons,e 4 (by omega),e 5 (by omega),e 6 (by omega),e 7 (by omega),e 8 (by omega),e 9 (by omega),e 11 (by omega),e 12 (by omega),e 13 (by omega),e 14 (by omega),e 15 (by omega),List.find?_nil];rfl
namespace Ex
mutual
def depth:Ex->Nat
 | mk _ _ _ _ s=>1+zT s
def zT:List Ex->Nat
 | []=>0
 | x::l=>max (depth x) (zT l)
end
mutual
def qH:Ex->Nat
 | mk _ r n _ s=>r.length+n.length+vZ s
def vZ:List Ex->Nat
 | []=>0
 | x::l=>qH x+vZ l
end
mutual
def zz:Ex->Int
 | mk k r n d s=>vQ k r n d (jS s)
def jS:List Ex->List Int
 | []=>[]
 | x::l=>zz x::jS l
end
mutual
def thin:Ex->Prop
 | mk _ r n _ s=>r.length<=2^48/\n.length<=2^48/\xN s
def xN:List Ex->Prop
 | []=>True
 | x::l=>thin x/\xN l
end
theorem xu(x:Ex):x.depth=1+zT x.sub:=by cases x; rw [depth]; rfl
theorem u3(x:Ex):x.qH=x.rat.length+x.name.length+vZ x.sub:=by cases x; rw [qH]; rfl
theorem Qh(x:Ex):x.zz=vQ x.kind x.rat x.name x.date (jS x.sub):=by cases x; rw [zz]; rfl
theorem kZ(s:List Ex)(i:Nat)(h:i<s.length):zT (s.take (i+1))=max (zT (s.take i)) (s.getD i nil).depth:=by
 induction s generalizing i with
 | nil=>simp at h
 | cons x s ih=>
  cases i with
  | zero=>simp [zT]
  | succ i=>
   simp only [List.take_succ_cons,zT,List.getD_cons_succ];rw [ih i (by simpa using h)];omega
theorem Xd{s:List Ex}{i:Nat}(h:i<s.length):(s.getD i nil).depth<=zT s:=by
 induction s generalizing i with
 | nil=>simp at h
 | cons x s ih=>
  cases i with
  | zero=>simp [zT]; omega
  | succ i=>
   simp only [List.getD_cons_succ,zT];have:=ih (i:=i) (by simpa using h);omega
theorem ZL{s:List Ex}{i:Nat}(h:i<s.length):(s.getD i nil).qH<=vZ s:=by
 induction s generalizing i with
 | nil=>simp at h
 | cons x s ih=>
  cases i with
  | zero=>simp [vZ]
  | succ i=>
   simp only [List.getD_cons_succ,vZ];have:=ih (i:=i) (by simpa using h);omega
theorem jT(s:List Ex):(jS s).length=s.length:=by
 induction s with
 | nil=>simp [jS]
 | cons x s ih=>simp [jS,ih]
theorem JB{s:List Ex}{i:Nat}(h:i<s.length):(jS s).getD i 0=(s.getD i nil).zz:=by
 induction s generalizing i with
 | nil=>simp at h
 | cons x s ih=>
  cases i with
  | zero=>simp [jS]
  | succ i=>simpa [jS] using ih (i:=i) (by simpa using h)
theorem yv{s:List Ex}{ps:List Int} : jS s=ps↔s.length=ps.length/\∀ i,i<s.length->(s.getD i nil).zz=ps.getD i 0:=by
 constructor
 ·rintro rfl;exact⟨(jT s).symm,λi hi=>(JB hi).symm⟩
 ·rintro⟨h1,h2⟩;apply List.ext_getElem
  ·rw [jT,h1]
  ·intro i g1 g2;have g3:i<s.length:=by rwa [jT] at g1
   have:=h2 i g3;rw [<- JB g3] at this;simpa [List.getD,g1,g2] using this
mutual
theorem U4:∀ x:Ex,thin x->qH x<=size x*2^49
 | mk k r n d s,h=>by
  rw [thin] at h;have:=J6 s h.2.2;rw [qH,size,bH];omega
theorem J6:∀ l:List Ex,xN l->vZ l<=z6 l*2^49
 | [],_=>by simp [vZ]
 | x::l,h=>by
  rw [xN] at h;have h1:=U4 x h.1;have h2:=J6 l h.2;rw [vZ,z6,bH];omega
end
def errX(x:Ex):Int:=if 500<x.size\/60<x.depth then 4 else if x.zz=0 then 8 else 0
theorem zan(x:Ex):0<x.depth:=by rw [xu]; omega
theorem xG:∀ x:Ex,x.depth<=x.size:=by
 intro x
 have key:∀ (n:Nat) (x:Ex),x.size<=n->x.depth<=x.size:=by
  intro n
  induction n with
  | zero=>intro x h; have:=size_pos x; omega
  | succ n ih=>
   intro x h;rw [size_eq] at h ⊢;rw [xu]
   have:∀ l:List Ex,z6 l<=n->zT l<=z6 l:=by
    intro l
    induction l with
    | nil=>simp [zT]
    | cons y l il=>
     intro hl;simp only [z6,zT] at hl ⊢;have:=ih y (by omega);have:=il (by omega);omega
   have:=this x.sub (by omega);omega
 exact key _ x (aJ _)
end Ex
end Go.Nov
end
section
namespace Go.Nov
theorem orf{a b:Bool} : (bif a then true else b)=false↔a=false/\b=false:=by cases a<;>simp
end Go.Nov
end
section
namespace Go.Nov
open Go.Sx
structure TOp where
 kind:Int
 a:Int
 b:Int
 rat:L8
abbrev TOp.nil:TOp:=⟨0,0,0,[]⟩
def TOp.cell(o:TOp):Nat->AV
 | 0=>.int .u8 o.kind
 | 1=>.i o.a
 | 2=>.i o.b
 | 3=>.str o.rat
 | _=>.undef
def opG(l:List TOp):Nat->Nat->AV:=λj=>(l.getD j TOp.nil).cell
def opS(l:List TOp):AV:=.sl l.length 4 (opG l)
structure Tp where
 n:Int
 ops:List TOp
def Tp.av(t:Tp):AV:=.agg [.i t.n,opS t.ops]
def ratG(l:List L8):Nat->Nat->AV:=λj _=>.str (l.getD j [])
def ratS(l:List L8):AV:=.sl l.length 1 (ratG l)
def okOp(n:Int)(i:Nat)(o:TOp):Bool:=
 if o.kind=1 then decide (0<=o.a)&&decide (o.a<n)&&decide (o.b=0)&&decide (o.rat=[])
 else if o.kind=2 then decide (errR o.rat=0)&&decide (o.a=0)&&decide (o.b=0)
 else if 3<=o.kind/\o.kind<=6 then decide (0<=o.a)&&decide (o.a<i)&&(decide (0<=o.b)&&decide (o.b<i))&&decide (o.rat=[])
 else false
def vu(t:Tp)(i:Nat):Bool:=(List.range i).all λk=>okOp t.n k (t.ops.getD k TOp.nil)
theorem Xg(t:Tp)(i:Nat):vu t (i+1)=(vu t i&&okOp t.n i (t.ops.getD i TOp.nil)):=by
 unfold vu;rw [List.range_succ,List.all_append];simp
theorem Z7{t:Tp}{i k:Nat}(h:vu t i=true)(hk:k<i):okOp t.n k (t.ops.getD k TOp.nil)=true:=by
 unfold vu at h;rw [bG] at h;exact h k (List.mem_range.2 hk)
def uX(t:Tp):Bool:=decide (0<=t.n)&&decide (t.n<=500)&&decide (0<t.ops.length)
def zg(t:Tp):Int:=if 500<t.ops.length then 4 else if uX t&&vu t t.ops.length then 0 else 8
theorem jo{t:Tp} : zg t=0↔t.ops.length<=500/\0<=t.n/\t.n<=500/\0<t.ops.length/\vu t t.ops.length=true:=by
 unfold zg;by_cases h:500<t.ops.length
 ·rw [aP h];constructor
  ·intro g; cases g
  ·intro g; omega
 ·rw [aO h];cases hb:(uX t&&vu t t.ops.length) with
  | true=>
   simp only [if_true];unfold uX at hb;simp only [bA,aK] at hb;exact⟨λ_=>⟨by omega,hb.1.1.1,hb.1.1.2,hb.1.2,hb.2⟩,λ_=>trivial⟩
  | false=>
   constructor
   ·intro g; simp at g
   ·rintro⟨_,g1,g2,g3,g4⟩;unfold uX at hb;rw [g4] at hb;simp [g1,g2,g3] at hb
def arR(k:Int)(a b:L8):L8×Int:=if k=3 then addR a b else if k=4 then subR a b else if k=5 then mulR a b else divR a b
def zP(inp out:List L8)(o:TOp):L8×Int:=
 if o.kind=1 then(inp.getD o.a.toNat [],0) else if o.kind=2 then(o.rat,0) else arR o.kind (out.getD o.a.toNat []) (out.getD o.b.toNat [])
def runF(inp:List L8):List TOp->List L8->List L8×Int
 | [],out=>(out,0)
 | o::l,out=>if(zP inp out o).2≠0 then([],(zP inp out o).2) else runF inp l (out++[(zP inp out o).1])
theorem Uy{inp:List (L8)}{ops:List TOp}{k:Nat}(hk:k<ops.length)(out:List L8):runF inp (ops.drop k) out=if(zP inp out (ops.getD k TOp.nil)).2≠0 then([],(zP inp out (ops.getD k TOp.nil)).2) else runF inp (ops.drop (k+1)) (out++[(zP inp out (ops.getD k TOp.nil)).1]):=by
 rw [List.drop_eq_getElem_cons hk];have e:ops.getD k TOp.nil=ops[k]:=by simp [List.getD,hk]
 rw [e]; rfl
theorem zbs{inp:List (L8)}{ops:List TOp}(out:List L8):runF inp (ops.drop ops.length) out=(out,0):=by
 rw [List.drop_length]; rfl
def xv:List L8->Int
 | []=>0
 | x::l=>if errR x≠0 then errR x else xv l
theorem Xc{l:List (L8)}{k:Nat}(hk:k<l.length):xv (l.drop k)=if errR (l.getD k [])≠0 then errR (l.getD k []) else xv (l.drop (k+1)):=by
 rw [List.drop_eq_getElem_cons hk];have e:l.getD k []=l[k]:=by simp [List.getD,hk]
 rw [e]; rfl
theorem Wo:∀ {l:List (L8)},xv l=0↔∀ x∈l,errR x=0
 | []=>by simp [xv]
 | x::l=>by
  unfold xv;by_cases h:errR x=0
  ·rw [aO (λg=>g h),Wo];simp [h]
  ·rw [aP h];simp [h]
def preT(t:Tp)(inp:List L8):Int:=if zg t≠0 then zg t else if(inp.length:Int)≠t.n then 2 else xv inp
def trun(t:Tp)(inp:List L8):List L8×Int:=if preT t inp≠0 then([],preT t inp) else runF inp t.ops []
def je(r:List L8×Int):L8×Int:=if r.2≠0 then([],r.2) else(r.1.getD (r.1.length - 1) [],0)
def z9(t:Tp)(inp:List L8):L8×Int:=je (trun t inp)
def degS(i:Int)(o:TOp)(out:List Int):Int:=
 if o.kind=1 then(if o.a=i then 1 else 0) else if o.kind=2 then 0
 else if out.getD o.a.toNat 0<0\/out.getD o.b.toNat 0<0 then -1
 else if o.kind=5 then min (out.getD o.a.toNat 0+out.getD o.b.toNat 0) 1000
 else if o.kind=6 then(if 0<out.getD o.b.toNat 0 then -1 else out.getD o.a.toNat 0)
 else max (out.getD o.a.toNat 0) (out.getD o.b.toNat 0)
def degF(i:Int):List TOp->List Int->List Int
 | [],out=>out
 | o::l,out=>degF i l (out++[degS i o out])
theorem zao{i:Int}{ops:List TOp}{k:Nat}(hk:k<ops.length)(out:List Int):degF i (ops.drop k) out=degF i (ops.drop (k+1)) (out++[degS i (ops.getD k TOp.nil) out]):=by
 rw [List.drop_eq_getElem_cons hk];have e:ops.getD k TOp.nil=ops[k]:=by simp [List.getD,hk]
 rw [e]; rfl
theorem zdh{i:Int}{ops:List TOp}(out:List Int):degF i (ops.drop ops.length) out=out:=by
 rw [List.drop_length]; rfl
def degT(t:Tp)(i:Int):Int×Int:=if zg t≠0 then(0,zg t) else if 0<=i/\i<t.n then((degF i t.ops []).getD (t.ops.length - 1) 0,0) else(0,2)
def dgF(l:List Int):Nat->Int:=λj=>l.getD j 0
def rtF(l:List L8):Nat->L8:=λj=>l.getD j []
def degB(d:Int):Prop:= -1<=d/\d<=1000
theorem zkf{i:Int}{o:TOp}{out:List Int}(h:∀ k,degB (out.getD k 0)):degB (degS i o out):=by
 unfold degS;have h1:=h o.a.toNat;have h2:=h o.b.toNat
 revert h1 h2
 generalize out.getD o.a.toNat 0=p;generalize out.getD o.b.toNat 0=q;rintro⟨h1,h2⟩ ⟨h3,h4⟩;unfold degB
 repeat' split
 all_goals (first | omega | (simp only [Int.min_def,Int.max_def]; repeat' split) )
 all_goals omega
structure Ev where
 v:L8
 e:Int
 b:Bool
 g:Int
abbrev Ev.nil:Ev:=⟨[],0,false,0⟩
def wc(k:Int)(a b:L8):L8×Int:=
 if k=7 then(if(cmpR a b).2≠0 then([],(cmpR a b).2) else(if(cmpR a b).1<0 then b else a,0))
 else(if(cmpR b a).2≠0 then([],(cmpR b a).2) else(if(cmpR b a).1<0 then b else a,0))
def opR(k:Int)(a b:L8):L8×Int:=if k=4 then addR a b else if k=5 then subR a b else if k=6 then mulR a b else wc k a b
def fixR(f:List Fx)(a:L8)(d:Int):L8×Int:=if(wG f a d).2=true then((wG f a d).1,0) else([],30)
def kS{α:Type}(z:α)(l0 l1:Ev)(f:L8->L8->α×Int):α×Int:=if l0.e≠0 then(z,l0.e) else if l1.e≠0 then(z,l1.e) else f l0.v l1.v
def valN(f:List Fx)(day k:Int)(r n:L8)(d:Int)(l:List Ev):L8×Int:=
 if k=1 then(r,0) else if k=2 then fixR f n d else if k=3 then fixR f n day
 else if k=9 then(if(l.getD 0 Ev.nil).g≠0 then([],(l.getD 0 Ev.nil).g) else if(l.getD 0 Ev.nil).b then((l.getD 1 Ev.nil).v,(l.getD 1 Ev.nil).e) else((l.getD 2 Ev.nil).v,(l.getD 2 Ev.nil).e))
 else kS [] (l.getD 0 Ev.nil) (l.getD 1 Ev.nil) (opR k)
def V6(k:Int)(a b:L8):Bool×Int:=if(cmpR a b).2≠0 then(false,(cmpR a b).2) else(if k=11 then decide ((cmpR a b).1<0) else decide ((cmpR a b).1=0),0)
def hldN(k:Int)(l:List Ev):Bool×Int:=
 if 13<=k then(if(l.getD 0 Ev.nil).g≠0 then(false,(l.getD 0 Ev.nil).g) else if k=15 then(!(l.getD 0 Ev.nil).b,0)
  else if(l.getD 0 Ev.nil).b=decide (k=14) then((l.getD 0 Ev.nil).b,0) else((l.getD 1 Ev.nil).b,(l.getD 1 Ev.nil).g))
 else kS false (l.getD 0 Ev.nil) (l.getD 1 Ev.nil) (V6 k)
def evN(f:List Fx)(day k:Int)(r n:L8)(d:Int)(l:List Ev):Ev:=⟨(valN f day k r n d l).1,(valN f day k r n d l).2,(hldN k l).1,(hldN k l).2⟩
namespace Ex
mutual
def ev(f:List Fx)(day:Int):Ex->Ev
 | mk k r n d s=>evN f day k r n d (evs f day s)
def evs(f:List Fx)(day:Int):List Ex->List Ev
 | []=>[]
 | x::l=>ev f day x::evs f day l
end
theorem zl1(f:List Fx)(day:Int)(x:Ex):x.ev f day=evN f day x.kind x.rat x.name x.date (evs f day x.sub):=by cases x; rw [ev]; rfl
theorem q8{f:List Fx}{day:Int}{s:List Ex}{i:Nat}(h:i<s.length):(evs f day s).getD i Ev.nil=(s.getD i nil).ev f day:=by
 induction s generalizing i with
 | nil=>simp at h
 | cons x s ih=>
  rw [evs];cases i with
  | zero=>rfl
  | succ i=>exact ih (by simpa using h)
theorem uq{x:Ex}(h:x.zz=1):(x.kind=1/\errR x.rat=0)\/x.kind=2\/x.kind=3 \/
  ((4<=x.kind/\x.kind<=8)/\x.sub.length=2/\(x.sub.getD 0 nil).zz=1/\(x.sub.getD 1 nil).zz=1) \/
  (x.kind=9/\x.sub.length=3/\(x.sub.getD 0 nil).zz=2/\(x.sub.getD 1 nil).zz=1/\(x.sub.getD 2 nil).zz=1):=by
 rw [Qh] at h;by_cases hk:jh x.kind=true
 ·have hk2:(4<=x.kind/\x.kind<=9)\/(11<=x.kind/\x.kind<=15):=by
   by_cases h1:4<=x.kind/\x.kind<=9
   ·exact .inl h1
   ·by_cases h2:11<=x.kind/\x.kind<=15
    ·exact .inr h2
    ·rw [zfu h1 h2] at hk; cases hk
  have two:∀ {k:Int} {ps:List Int} {w:Int},yx k=some (ps,w)->vQ k x.rat x.name x.date (jS x.sub)=1->w=1/\x.sub.length=ps.length/\∀ i,i<x.sub.length->(x.sub.getD i nil).zz=ps.getD i 0:=by
   intro k ps w hs hn;rw [J9 hs] at hn;split at hn
   ·rename_i hc;exact⟨hn,yv.1 hc.2⟩
   ·cases hn
  generalize x.kind=k at h hk2 ⊢;have hk3:k=4\/k=5\/k=6\/k=7\/k=8\/k=9\/k=11\/k=12\/k=13\/k=14\/k=15:=by omega
  right; right; right;rcases hk3 with rfl | rfl | rfl | rfl | rfl | rfl | rfl | rfl | rfl | rfl | rfl
  iterate 5
   ·left;obtain⟨_,h2,h3⟩:=two rfl h;exact⟨by decide,h2,h3 0 (by rw [h2]; decide),h3 1 (by rw [h2]; decide)⟩
  ·right;obtain⟨_,h2,h3⟩:=two rfl h;exact⟨rfl,h2,h3 0 (by rw [h2]; decide),h3 1 (by rw [h2]; decide),h3 2 (by rw [h2]; decide)⟩
  all_goals
   obtain⟨h1,_⟩:=two rfl h;cases h1
 ·have hk:jh x.kind=false:=by simpa using hk
  rw [Z8 hk] at h;split at h
  ·rename_i hl;simp only [jL,bA] at hl;obtain⟨_,hl⟩:=hl;split at hl
   ·rename_i h1;simp only [bA,aK] at hl;exact .inl ⟨h1,hl.1.1⟩
   ·split at hl
    ·rename_i h2; exact .inr (.inl h2)
    ·split at hl
     ·rename_i h3; exact .inr (.inr (.inl h3))
     ·cases hl
  ·cases h
theorem Vx{x:Ex}(h:x.zz=2):((x.kind=11\/x.kind=12)/\x.sub.length=2/\(x.sub.getD 0 nil).zz=1/\(x.sub.getD 1 nil).zz=1) \/
  ((x.kind=13\/x.kind=14)/\x.sub.length=2/\(x.sub.getD 0 nil).zz=2/\(x.sub.getD 1 nil).zz=2)\/(x.kind=15/\x.sub.length=1/\(x.sub.getD 0 nil).zz=2):=by
 rw [Qh] at h;by_cases hk:jh x.kind=true
 ·have hk2:(4<=x.kind/\x.kind<=9)\/(11<=x.kind/\x.kind<=15):=by
   by_cases h1:4<=x.kind/\x.kind<=9
   ·exact .inl h1
   ·by_cases h2:11<=x.kind/\x.kind<=15
    ·exact .inr h2
    ·rw [zfu h1 h2] at hk; cases hk
  have two:∀ {k:Int} {ps:List Int} {w:Int},yx k=some (ps,w)->vQ k x.rat x.name x.date (jS x.sub)=2->w=2/\x.sub.length=ps.length/\∀ i,i<x.sub.length->(x.sub.getD i nil).zz=ps.getD i 0:=by
   intro k ps w hs hn;rw [J9 hs] at hn;split at hn
   ·rename_i hc;exact⟨hn,yv.1 hc.2⟩
   ·cases hn
  generalize x.kind=k at h hk2 ⊢;have hk3:k=4\/k=5\/k=6\/k=7\/k=8\/k=9\/k=11\/k=12\/k=13\/k=14\/k=15:=by omega
  rcases hk3 with rfl | rfl | rfl | rfl | rfl | rfl | rfl | rfl | rfl | rfl | rfl
  iterate 6
   ·obtain⟨h1,_⟩:=two rfl h;cases h1
  ·obtain⟨_,h2,h3⟩:=two rfl h;exact .inl ⟨.inl rfl,h2,h3 0 (by rw [h2]; decide),h3 1 (by rw [h2]; decide)⟩
  ·obtain⟨_,h2,h3⟩:=two rfl h;exact .inl ⟨.inr rfl,h2,h3 0 (by rw [h2]; decide),h3 1 (by rw [h2]; decide)⟩
  ·obtain⟨_,h2,h3⟩:=two rfl h;exact .inr (.inl ⟨.inl rfl,h2,h3 0 (by rw [h2]; decide),h3 1 (by rw [h2]; decide)⟩)
  ·obtain⟨_,h2,h3⟩:=two rfl h;exact .inr (.inl ⟨.inr rfl,h2,h3 0 (by rw [h2]; decide),h3 1 (by rw [h2]; decide)⟩)
  ·obtain⟨_,h2,h3⟩:=two rfl h;exact .inr (.inr ⟨rfl,h2,h3 0 (by rw [h2]; decide)⟩)
 ·have hk:jh x.kind=false:=by simpa using hk
  rw [Z8 hk] at h;split at h<;>cases h
end Ex
theorem zeq{f:List Fx}{a:L8}{d:Int}(h:(wG f a d).2=false):(wG f a d).1=[]:=by
 unfold wG at h ⊢;split
 ·rename_i y hy; rw [hy] at h; cases h
 ·rfl
theorem Un{f:List Fx}(hf:f.all okF=true){a:L8}{d:Int}(h:(fixR f a d).2=0):errR (fixR f a d).1=0:=by
 unfold fixR at h ⊢;split
 ·rename_i h1;unfold wG at h1 ⊢;split at h1
  ·rename_i y hy;have hm:=List.mem_of_find?_eq_some hy;have:=bG.1 hf _ hm;simp only [okF,bA,aK] at this;exact this.2
  ·cases h1
 ·rename_i h1;rw [aO h1] at h;cases h
theorem zcm{k:Int}{a b:L8}(ha:errR a=0)(hb:errR b=0)(h:(wc k a b).2=0):errR (wc k a b).1=0:=by
 unfold wc at h ⊢;split
 ·rename_i h1;rw [aP h1] at h;split
  ·rename_i h2; rw [aP h2] at h; exact absurd h h2
  ·simp only; split<;>assumption
 ·rename_i h1;rw [aO h1] at h;split
  ·rename_i h2; rw [aP h2] at h; exact absurd h h2
  ·simp only; split<;>assumption
theorem zke{k:Int}{a b:L8}(ha:errR a=0)(hb:errR b=0)(h:(opR k a b).2=0):errR (opR k a b).1=0:=by
 unfold opR at h ⊢;split
 ·rename_i h1; rw [aP h1] at h; exact(x6 ha hb h).1
 ·rename_i h1;rw [aO h1] at h;split
  ·rename_i h2; rw [aP h2] at h; exact(kJ ha hb h).1
  ·rename_i h2;rw [aO h2] at h;split
   ·rename_i h3; rw [aP h3] at h; exact(WL ha hb h).1
   ·rename_i h3;rw [aO h3] at h;exact zcm ha hb h
theorem qa{a:L8}(h:errR a=0):a.length<=2003:=by
 have h1:=(vI h).2.2.1;rw [<- h1];unfold qstr wz;have g1:=kC (decide ((qv a).num<0)) (qv a).num.natAbs;have g2:=kC (decide (((qv a).den:Int)<0)) ((qv a).den:Int).natAbs;split
 ·omega
 ·simp only [bO,aL,List.length_nil];omega
theorem Ex.xM{f:List Fx}(hf:f.all okF=true)(day:Int):∀ x:Ex,x.zz=1->(x.ev f day).e=0->errR (x.ev f day).v=0
 | .mk k r n d s,hs,he=>by
  have hc:=Ex.uq hs;simp only [Ex.kind,Ex.rat,Ex.sub] at hc;rw [Ex.ev] at he ⊢;simp only [evN] at he ⊢;unfold valN at he ⊢;rcases hc with ⟨rfl,h1⟩ | rfl | rfl | ⟨⟨h1,h2⟩,h3,h4,h5⟩ | ⟨rfl,h3,h4,h5,h6⟩
  ·simpa using h1
  ·simp only [show ¬ (2:Int)=1 by decide,if_false,if_true] at he ⊢;exact Un hf he
  ·simp only [show ¬ (3:Int)=1 by decide,show ¬ (3:Int)=2 by decide,if_false,if_true] at he ⊢;exact Un hf he
  ·rw [aO (by omega),aO (by omega),aO (by omega),aO (by omega)] at he ⊢;rw [Ex.q8 (by omega),Ex.q8 (by omega)] at he ⊢;unfold kS at he ⊢;have w0:s.getD 0 Ex.nil∈s:=by simp [List.getD,aF (show 0<s.length by omega)]
   have w1:s.getD 1 Ex.nil∈s:=by simp [List.getD,aF (show 1<s.length by omega)]
   split
   ·rename_i g; rw [aP g] at he; exact absurd he g
   ·rename_i g;rw [aO g] at he;split
    ·rename_i g2; rw [aP g2] at he; exact absurd he g2
    ·rename_i g2;rw [aO g2] at he;rw [Classical.not_not] at g g2;exact zke (Ex.xM hf day _ h4 g) (Ex.xM hf day _ h5 g2) he
  ·simp only [show ¬ (9:Int)=1 by decide,show ¬ (9:Int)=2 by decide,show ¬ (9:Int)=3 by decide,if_false,if_true] at he ⊢;rw [Ex.q8 (by omega),Ex.q8 (by omega),Ex.q8 (by omega)] at he ⊢;have w1:s.getD 1 Ex.nil∈s:=by simp [List.getD,aF (show 1<s.length by omega)]
   have w2:s.getD 2 Ex.nil∈s:=by simp [List.getD,aF (show 2<s.length by omega)]
   split
   ·rename_i g; rw [aP g] at he; exact absurd he g
   ·rename_i g;rw [aO g] at he;split
    ·rename_i g2; rw [aP g2] at he; exact Ex.xM hf day _ h5 he
    ·rename_i g2; rw [aO g2] at he; exact Ex.xM hf day _ h6 he
termination_by x=>x.size
decreasing_by
 all_goals
  rw [Ex.size];have a0:=Ex.qf (s:=s) (i:=0);have a1:=Ex.qf (s:=s) (i:=1);have a2:=Ex.qf (s:=s) (i:=2)
  first
  | (have:=a0 (by omega); omega)
  | (have:=a1 (by omega); omega)
  | (have:=a2 (by omega); omega)
end Go.Nov
end
section
namespace Go.Nov
def negS(a:L8):L8:=if a=[48] then a else if a.getD 0 0=45 then a.drop 1 else [45]++a
theorem Kk(z:Int):z=0/\(wz z).1=[48]\/z≠0/\room z.natAbs/\(wz z).1=sgn (decide (z<0)) (txt z.natAbs)\/¬ room z.natAbs:=by
 by_cases h0:z=0
 ·left; subst h0; exact⟨rfl,rfl⟩
 ·right;by_cases hr:room z.natAbs
  ·left;refine⟨h0,hr,?_⟩;unfold wz wr;have hr':(dec z.natAbs).length<=1000:=hr;rw [aO (by omega),aO (by omega)]
  ·exact .inr hr
theorem Kr(b:L8):sgn true b=45::b:=rfl
theorem J1(b:L8):sgn false b=b:=rfl
theorem zaz{r:Rat}(h:vr r):negS (qstr r)=qstr (-r):=by
 have hn:(-r).num = -r.num:=rfl;have hd:(-r).den=r.den:=rfl
 have tail:∀ t:L8,(r.den=1->t=[])->(r.den≠1->t=[47]++(wz (r.den:Int)).1)->qstr r=(wz r.num).1++t/\qstr (-r)=(wz (-r.num)).1++t:=by
  intro t h1 h2;unfold qstr;rw [hn,hd];by_cases hd1:r.den=1
  ·rw [aP hd1,aP hd1,h1 hd1]; simp
  ·rw [aO hd1,aO hd1,h2 hd1]; simp
 obtain⟨t,ht1,ht2⟩:∃ t:L8,(r.den=1->t=[])/\(r.den≠1->t=[47]++(wz (r.den:Int)).1):=by
  by_cases hd1:r.den=1
  ·exact⟨[],λ_=>rfl,λh=>absurd hd1 h⟩
  ·exact⟨_,λh=>absurd h hd1,λ_=>rfl⟩
 obtain⟨e1,e2⟩:=tail t ht1 ht2;rw [e1,e2];rcases Kk r.num with ⟨z0,zs⟩ | ⟨z0,zr,zs⟩ | zr
 ·have hr0:r=0:=Rat.num_eq_zero.1 z0;have ht:t=[]:=ht1 (by rw [hr0]; rfl);rw [z0,ht];rfl
 ·rcases Kk (-r.num) with ⟨z0',_⟩ | ⟨_,_,zs'⟩ | zr'
  ·omega
  ·rw [zs,zs',Int.natAbs_neg];have hx:r.num.natAbs≠0:=by omega
   obtain⟨f1,f2⟩:=u7 hx;have fne:=Xa hx;by_cases hlt:r.num<0
   ·rw [aX hlt,aW (by omega),Kr,J1];unfold negS;rw [aO (by simp),aP (by simp)];rfl
   ·rw [aW hlt,aX (by omega),Kr,J1];generalize txt r.num.natAbs=b at *
    cases b with
    | nil=>exact absurd rfl fne
    | cons c b=>
     simp only [List.getD_cons_zero] at f1 f2;unfold negS;rw [aO (by simp [f1]),aO (by simpa using f2)];rfl
  ·rw [Int.natAbs_neg] at zr'; exact absurd zr zr'
 ·exact absurd h.1 zr
theorem zdr{r:Rat}(h:vr r):vr (-r):=by
 refine⟨?_,h.2⟩;show room (-r.num).natAbs;rw [Int.natAbs_neg]; exact h.1
theorem zgn{a:L8}(h:errR a=0):errR (negS a)=0/\qv (negS a) = -qv a/\numR (negS a)=(wz (-zI (numR a))).1/\denR (negS a)=denR a:=by
 obtain⟨h1,h2,h3,h4⟩:=vI h;have e:negS a=qstr (-qv a):=by rw [<- zaz h4,h3]
 have hr:=zdr h4;obtain⟨p1,p2,_⟩:=xP hr;rw [e];refine⟨kg hr,yB hr,?_,?_⟩
 ·rw [p1];show(wz (-(qv a).num)).1=_;rw [h1]
 ·rw [p2];show(wz ((qv a).den:Int)).1=_;rw [h2,yO (qg h).2.1]
theorem Z4(z:Int):(wz (-z)).2=(wz z).2:=by
 unfold wz wr;rw [Int.natAbs_neg];split
 ·rfl
 ·split<;>rfl
end Go.Nov
end
section
namespace Go.Nov
open Go.Sx
def allQ(l:List L8):Prop:=∀ x∈l,errR x=0
theorem jg{l:List (L8)}(h:allQ l){i:Nat}(hi:i<l.length):errR (l.getD i [])=0:=h _ (by simp [List.getD,hi])
theorem JW{l:List (L8)}(h:allQ l){x:L8}(hx:errR x=0):allQ (l++[x]):=by
 intro y hy;rcases bY.1 hy with g | g
 ·exact h y g
 ·rw [List.mem_singleton.1 g]; exact hx
theorem Xj{k:Int}{a b:L8}(ha:errR a=0)(hb:errR b=0)(h:(arR k a b).2=0):errR (arR k a b).1=0:=by
 unfold arR at h ⊢;split
 ·rename_i g; rw [aP g] at h; exact(x6 ha hb h).1
 ·rename_i g;rw [aO g] at h;split
  ·rename_i g; rw [aP g] at h; exact(kJ ha hb h).1
  ·rename_i g;rw [aO g] at h;split
   ·rename_i g; rw [aP g] at h; exact(WL ha hb h).1
   ·rename_i g;rw [aO g] at h;exact(WY ha hb h).2.1
theorem YF{k:Int}{a b:L8}(ha:errR a=0)(hb:errR b=0)(h:(arR k a b).2≠0):(arR k a b).1=[]:=by
 unfold arR at h ⊢;have h1:=Vb ha hb;have h2:=Wp ha hb;have h3:=zdc ha hb;have h4:=Yg ha hb
 repeat' split
 ·rcases h1 with g | g
  ·rw [g]
  ·rename_i q; rw [aP q,g.1] at h; exact absurd rfl h
 ·rename_i q1 q2;rw [aO q1,aP q2] at h;rcases h2 with g | g
  ·rw [g]
  ·rw [g.1] at h; exact absurd rfl h
 ·rename_i q1 q2 q3;rw [aO q1,aO q2,aP q3] at h;rcases h3 with g | g
  ·rw [g]
  ·rw [g.1] at h; exact absurd rfl h
 ·rename_i q1 q2 q3;rw [aO q1,aO q2,aO q3] at h;rcases h4 with g | ⟨_,g | g⟩
  ·rw [g.2]
  ·rw [g]
  ·rw [g.1] at h; exact absurd rfl h
theorem w4{n:Int}{i:Nat}{o:TOp}(h:okOp n i o=true):(o.kind=1/\0<=o.a/\o.a<n/\o.b=0/\o.rat=[])\/(o.kind=2/\errR o.rat=0/\o.a=0/\o.b=0)\/((o.kind=3\/o.kind=4\/o.kind=5\/o.kind=6)/\0<=o.a/\o.a<i/\0<=o.b/\o.b<i/\o.rat=[]):=by
 unfold okOp at h;split at h
 ·rename_i g;simp only [bA,aK] at h;exact .inl ⟨g,h.1.1.1,h.1.1.2,h.1.2,h.2⟩
 ·split at h
  ·rename_i g;simp only [bA,aK] at h;exact .inr (.inl ⟨g,h.1.1,h.1.2,h.2⟩)
  ·split at h
   ·rename_i g;simp only [bA,aK] at h;exact .inr (.inr ⟨by omega,h.1.1.1,h.1.1.2,h.1.2.1,h.1.2.2,h.2⟩)
   ·cases h
theorem VV{n:Int}{inp out:List (L8)}{o:TOp}(hi:allQ inp)(hn:(inp.length:Int)=n)(ho:allQ out)(h:okOp n out.length o=true)(h2:(zP inp out o).2=0):errR (zP inp out o).1=0:=by
 unfold zP at h2 ⊢;rcases w4 h with ⟨g,g1,g2,_⟩ | ⟨g,g1,_⟩ | ⟨g,g1,g2,g3,g4,_⟩
 ·rw [aP g];exact jg hi (by omega)
 ·rw [aO (by omega),aP g];exact g1
 ·rw [aO (by omega),aO (by omega)] at h2 ⊢;exact Xj (jg ho (by omega)) (jg ho (by omega)) h2
theorem Zu{l:List (L8)}(h:allQ l){x:L8}(hx:errR x=0)(i:Nat):allQ (l.set i x):=by
 intro y hy;rcases List.mem_or_eq_of_mem_set hy with g | g
 ·exact h y g
 ·rw [g]; exact hx
def shL(h:L8):List Int->List L8->List L8×Int
 | [],x=>(x,0)
 | i::l,x=>if(addR (x.getD i.toNat []) h).2≠0 then([],(addR (x.getD i.toNat []) h).2) else shL h l (x.set i.toNat (addR (x.getD i.toNat []) h).1)
def atT(t:Tp)(inp:List L8)(h:L8)(at_:List Int):L8×Int:=if(shL h at_ inp).2≠0 then([],(shL h at_ inp).2) else je (runF (shL h at_ inp).1 t.ops [])
def qJ(t:Tp)(at_:List Int):Bool:=at_.all λi=>decide (0<=i)&&decide (i<t.n)
def begT(t:Tp)(inp:List L8)(at_:List Int)(h:L8):Int:=if(z9 t inp).2≠0 then(z9 t inp).2 else if qJ t at_ then(if errR h≠0 then errR h else if h=[48] then 16 else 0) else 2
def endR(q:L8×Int):L8×Int:=if q.2≠0 then([],q.2) else(q.1,0)
def stpA(e:Int)(r:L8×Int):L8×Int:=if e≠0 then([],e) else r
def yC(t:Tp)(inp:List L8)(i:Int)(h:L8):L8×Int:=stp (atT t inp h [i]).2 subR (atT t inp h [i]).1 (z9 t inp).1
def zF(t:Tp)(inp:List L8)(i:Int)(h:L8):L8×Int:=if begT t inp [i] h≠0 then([],begT t inp [i] h) else endR (stp (yC t inp i h).2 divR (yC t inp i h).1 h)
def cenW(t:Tp)(inp:List L8)(i:Int)(h:L8):L8×Int:=stpA (atT t inp h [i]).2 (atT t inp (negS h) [i])
def cenD(t:Tp)(inp:List L8)(i:Int)(h:L8):L8×Int:=stp (cenW t inp i h).2 subR (atT t inp h [i]).1 (cenW t inp i h).1
def cenH(t:Tp)(inp:List L8)(i:Int)(h:L8):L8×Int:=stp (cenD t inp i h).2 addR h h
def cenT(t:Tp)(inp:List L8)(i:Int)(h:L8):L8×Int:=if begT t inp [i] h≠0 then([],begT t inp [i] h) else endR (stp (cenH t inp i h).2 divR (cenD t inp i h).1 (cenH t inp i h).1)
def croA(t:Tp)(inp:List L8)(i k:Int)(h:L8):L8×Int:=stpA (atT t inp h [i,k]).2 (atT t inp h [i])
def croB(t:Tp)(inp:List L8)(i k:Int)(h:L8):L8×Int:=stpA (croA t inp i k h).2 (atT t inp h [k])
def croC(t:Tp)(inp:List L8)(i k:Int)(h:L8):L8×Int:=stp (croB t inp i k h).2 subR (atT t inp h [i,k]).1 (croA t inp i k h).1
def croD(t:Tp)(inp:List L8)(i k:Int)(h:L8):L8×Int:=stp (croC t inp i k h).2 subR (croC t inp i k h).1 (croB t inp i k h).1
def croE(t:Tp)(inp:List L8)(i k:Int)(h:L8):L8×Int:=stp (croD t inp i k h).2 addR (croD t inp i k h).1 (z9 t inp).1
def croF(t:Tp)(inp:List L8)(i k:Int)(h:L8):L8×Int:=stp (croE t inp i k h).2 mulR h h
def croT(t:Tp)(inp:List L8)(i k:Int)(h:L8):L8×Int:=if begT t inp [i,k] h≠0 then([],begT t inp [i,k] h) else endR (stp (croF t inp i k h).2 divR (croE t inp i k h).1 (croF t inp i k h).1)
def arQ(k:Int)(a b:Rat):Rat:=if k=3 then a+b else if k=4 then a - b else if k=5 then a*b else a/b
def zbk(inp out:List Rat)(o:TOp):Rat:=
 if o.kind=1 then inp.getD o.a.toNat 0 else if o.kind=2 then qv o.rat else arQ o.kind (out.getD o.a.toNat 0) (out.getD o.b.toNat 0)
def runQ(inp:List Rat):List TOp->List Rat->List Rat
 | [],out=>out
 | o::l,out=>runQ inp l (out++[zbk inp out o])
theorem Ue{k:Int}{a b:L8}(ha:errR a=0)(hb:errR b=0)(h:(arR k a b).2=0):qv (arR k a b).1=arQ k (qv a) (qv b):=by
 unfold arR at h ⊢;unfold arQ;split
 ·rename_i g; rw [aP g] at h; exact(x6 ha hb h).2
 ·rename_i g;rw [aO g] at h;split
  ·rename_i g; rw [aP g] at h; exact(kJ ha hb h).2
  ·rename_i g;rw [aO g] at h;split
   ·rename_i g; rw [aP g] at h; exact(WL ha hb h).2
   ·rename_i g;rw [aO g] at h;exact(WY ha hb h).2.2
theorem xy(l:List L8){i:Nat}(hi:i<l.length):(l.map qv).getD i 0=qv (l.getD i []):=by
 simp [List.getD,hi]
theorem zgz{n:Int}{inp out:List (L8)}{o:TOp}(hi:allQ inp)(hn:(inp.length:Int)=n)(ho:allQ out)(h:okOp n out.length o=true)(h2:(zP inp out o).2=0):qv (zP inp out o).1=zbk (inp.map qv) (out.map qv) o:=by
 unfold zP at h2 ⊢;unfold zbk;rcases w4 h with ⟨g,g1,g2,_⟩ | ⟨g,g1,_⟩ | ⟨g,g1,g2,g3,g4,_⟩
 ·rw [aP g,aP g,xy inp (by omega)]
 ·rw [aO (by omega),aP g,aO (by omega),aP g]
 ·rw [aO (by omega),aO (by omega)] at h2 ⊢;rw [aO (by omega),aO (by omega),xy out (by omega),xy out (by omega)];exact Ue (jg ho (by omega)) (jg ho (by omega)) h2
def vy(n:Int):Nat->List TOp->Prop
 | _,[]=>True
 | k,o::l=>okOp n k o=true/\vy n (k+1) l
theorem jJ{t:Tp}(h:vu t t.ops.length=true):∀ (l:List TOp) (k:Nat),t.ops.drop k=l->vy t.n k l
 | [],_,_=>trivial
 | o::l,k,e=>by
  have hk:k<t.ops.length:=by
   rcases aR k t.ops.length with g | g
   ·exact g
   ·rw [List.drop_eq_nil_of_le g] at e; cases e
  rw [List.drop_eq_getElem_cons hk] at e;simp only [List.cons.injEq] at e;refine⟨?_,jJ h l (k+1) e.2⟩;have:=Z7 h hk;rw [show t.ops.getD k TOp.nil=t.ops[k] by simp [List.getD,hk],e.1] at this;exact this
theorem uk{n:Int}{inp:List (L8)}(hi:allQ inp)(hn:(inp.length:Int)=n):∀ (l:List TOp) (out r:List L8),allQ out->vy n out.length l->runF inp l out=(r,0)->allQ r/\r.map qv=runQ (inp.map qv) l (out.map qv)/\r.length=out.length+l.length
 | [],out,r,ho,_,e=>by
  simp only [runF,bE,and_true] at e;subst e;exact⟨ho,rfl,rfl⟩
 | o::l,out,r,ho,hk,e=>by
  rw [runF] at e;by_cases g:(zP inp out o).2=0
  ·rw [aO (λq=>q g)] at e;have h1:=VV hi hn ho hk.1 g;have h2:=zgz hi hn ho hk.1 g;obtain⟨a1,a2,a3⟩:=uk hi hn l (out++[(zP inp out o).1]) r (JW ho h1) (by simpa using hk.2) e;refine⟨a1,?_,?_⟩
   ·rw [a2,List.map_append,List.map_singleton,h2]; rfl
   ·rw [a3]; simp; omega
  ·rw [aP g] at e;simp only [bE] at e;exact absurd e.2 g
def VQ(t:Tp)(X:List Rat):Rat:=(runQ X t.ops []).getD (t.ops.length - 1) 0
theorem Xy{t:Tp}{inp:List (L8)} : preT t inp=0↔zg t=0/\(inp.length:Int)=t.n/\allQ inp:=by
 unfold preT;by_cases h:zg t=0
 ·rw [aO (λg=>g h)];by_cases h1:(inp.length:Int)=t.n
  ·rw [aO (λg=>g h1),Wo];exact⟨λg=>⟨h,h1,g⟩,λg=>g.2.2⟩
  ·rw [aP h1];constructor
   ·intro g; cases g
   ·intro g; exact absurd g.2.1 h1
 ·rw [aP h];exact⟨λg=>absurd g h,λg=>absurd g.1 h⟩
theorem yL{t:Tp}{x:List (L8)}(hc:zg t=0)(hn:(x.length:Int)=t.n)(hx:allQ x)(h:(je (runF x t.ops [])).2=0):errR (je (runF x t.ops [])).1=0/\qv (je (runF x t.ops [])).1=VQ t (x.map qv):=by
 obtain⟨c1,c2,c3,c4,c5⟩:=jo.1 hc;unfold je at h ⊢;by_cases g:(runF x t.ops []).2=0
 ·rw [aO (λq=>q g)];have e:runF x t.ops []=((runF x t.ops []).1,0):=by rw [<- g]
  obtain⟨a1,a2,a3⟩:=uk (n:=t.n) hx hn t.ops [] _ (λy hy=>absurd hy (by simp)) (jJ c5 t.ops 0 (List.drop_zero)) e;simp only [List.length_nil,Nat.zero_add] at a3;have hl:(runF x t.ops []).1.length - 1<(runF x t.ops []).1.length:=by omega
  refine⟨jg a1 hl,?_⟩;unfold VQ;rw [<- xy _ hl,a2,a3];rfl
 ·rw [aP g] at h; exact absurd h g
theorem xB{t:Tp}{inp:List (L8)}(h:(z9 t inp).2=0):zg t=0/\(inp.length:Int)=t.n/\allQ inp/\errR (z9 t inp).1=0/\qv (z9 t inp).1=VQ t (inp.map qv):=by
 unfold z9 trun at h ⊢;by_cases g:preT t inp=0
 ·rw [aO (λq=>q g)] at h ⊢;obtain⟨p1,p2,p3⟩:=Xy.1 g;obtain⟨a,b⟩:=yL p1 p2 p3 h;exact⟨p1,p2,p3,a,b⟩
 ·rw [aP g] at h;unfold je at h;rw [aP g] at h;exact absurd h g
theorem Wd{t:Tp}{inp:List (L8)}(p1:zg t=0)(p2:(inp.length:Int)=t.n)(p3:allQ inp):z9 t inp=je (runF inp t.ops []):=by
 unfold z9 trun;rw [aO (λq=>q (Xy.2 ⟨p1,p2,p3⟩))]
def addX(h:Rat):List Int->List Rat->List Rat
 | [],X=>X
 | i::l,X=>addX h l (X.set i.toNat (X.getD i.toNat 0+h))
theorem YR{h:L8}(hh:errR h=0){n:Int} : ∀ (l:List Int) (x:List L8),allQ x->(x.length:Int)=n->(∀ i∈l,0<=i/\i<n)->(shL h l x).2=0->allQ (shL h l x).1/\((shL h l x).1.length:Int)=n/\(shL h l x).1.map qv=addX (qv h) l (x.map qv)
 | [],x,hx,hn,_,_=>⟨hx,hn,rfl⟩
 | i::l,x,hx,hn,hl,h0=>by
  have hi:=hl i (by simp);have hil:i.toNat<x.length:=by omega
  rw [shL] at h0 ⊢;by_cases g:(addR (x.getD i.toNat []) h).2=0
  ·rw [aO (λq=>q g)] at h0 ⊢;obtain⟨a,b⟩:=x6 (jg hx hil) hh g;obtain⟨c1,c2,c3⟩:=YR hh l _ (Zu hx a i.toNat) (by simpa using hn) (λj hj=>hl j (by simp [hj])) h0;refine⟨c1,c2,?_⟩;rw [c3,addX,List.map_set,b,xy x hil]
  ·rw [aP g] at h0; exact absurd h0 g
theorem uI{t:Tp}{inp:List (L8)}{h:L8}{l:List Int}(hh:errR h=0)(p1:zg t=0)(p2:(inp.length:Int)=t.n)(p3:allQ inp)(hl:∀ i∈l,0<=i/\i<t.n)(h0:(atT t inp h l).2=0) :
  errR (atT t inp h l).1=0/\qv (atT t inp h l).1=VQ t (addX (qv h) l (inp.map qv)):=by
 unfold atT at h0 ⊢;by_cases g:(shL h l inp).2=0
 ·rw [aO (λq=>q g)] at h0 ⊢;obtain⟨a,b,c⟩:=YR hh l inp p3 p2 hl g;obtain⟨d,e⟩:=yL p1 b a h0;exact⟨d,by rw [e,c]⟩
 ·rw [aP g] at h0; exact absurd h0 g
theorem VP:errR [48]=0/\qv [48]=0:=by decide +kernel
theorem zjf{a:L8}(h:errR a=0)(hq:qv a=0):a=[48]:=Xq h VP.1 (by rw [hq,VP.2])
theorem zcx{t:Tp}{inp:List (L8)}{l:List Int}{h:L8}(h0:begT t inp l h=0):(z9 t inp).2=0/\(∀ i∈l,0<=i/\i<t.n)/\errR h=0/\qv h≠0:=by
 unfold begT at h0;by_cases g:(z9 t inp).2=0
 ·rw [aO (λq=>q g)] at h0;by_cases g2:qJ t l=true
  ·rw [aP g2] at h0;by_cases g3:errR h=0
   ·rw [aO (λq=>q g3)] at h0;by_cases g4:h=[48]
    ·rw [aP g4] at h0; cases h0
    ·refine⟨g,λi hi=> ?_,g3,λq=>g4 (zjf g3 q)⟩;unfold qJ at g2;rw [bG] at g2;simpa using g2 i hi
   ·rw [aP g3] at h0; exact absurd h0 g3
  ·rw [aO g2] at h0; cases h0
 ·rw [aP g] at h0; exact absurd h0 g
theorem zic{q:L8×Int}(h:(endR q).2=0):q.2=0/\(endR q).1=q.1:=by
 unfold endR at h ⊢;by_cases g:q.2=0
 ·rw [aO (λk=>k g)]; exact⟨g,rfl⟩
 ·rw [aP g] at h; exact absurd h g
theorem Yt{e:Int}{f:L8->L8->L8×Int}{x y:L8}(h:(stp e f x y).2=0):e=0/\stp e f x y=f x y:=by
 unfold stp at h ⊢;by_cases g:e=0
 ·rw [aO (λk=>k g)]; exact⟨g,rfl⟩
 ·rw [aP g] at h; exact absurd h g
structure Dok(t:Tp)(inp:List L8)(l:List Int)(h:L8):Prop where
 c:zg t=0
 n:(inp.length:Int)=t.n
 q:allQ inp
 l:∀ i∈l,0<=i/\i<t.n
 h0:errR h=0
 hq:qv h≠0
theorem Wb{t:Tp}{inp:List (L8)}{l:List Int}{h:L8}(h0:begT t inp l h=0):Dok t inp l h/\errR (z9 t inp).1=0/\qv (z9 t inp).1=VQ t (inp.map qv):=by
 obtain⟨a,b,c,d⟩:=zcx h0;obtain⟨p1,p2,p3,p4,p5⟩:=xB a;exact⟨⟨p1,p2,p3,b,c,d⟩,p4,p5⟩
theorem ZB{t:Tp}{inp:List (L8)}{i:Int}{h:L8}(h0:(zF t inp i h).2=0):Dok t inp [i] h/\errR (zF t inp i h).1=0/\qv (zF t inp i h).1=(VQ t (addX (qv h) [i] (inp.map qv)) - VQ t (inp.map qv))/qv h:=by
 unfold zF at h0 ⊢;by_cases g:begT t inp [i] h=0
 ·rw [aO (λq=>q g)] at h0 ⊢;obtain⟨D,v1,v2⟩:=Wb g;obtain⟨e1,e2⟩:=zic h0;rw [e2];obtain⟨e3,e4⟩:=Yt e1;rw [e4] at e1 ⊢;unfold yC at e1 e3 ⊢;obtain⟨e5,e6⟩:=Yt e3;rw [e6] at e1 e3 ⊢;obtain⟨a1,a2⟩:=uI D.h0 D.c D.n D.q D.l e5;obtain⟨b1,b2⟩:=kJ a1 v1 e3;obtain⟨_,c1,c2⟩:=WY b1 D.h0 e1;exact⟨D,c1,by rw [c2,b2,a2,v2]⟩
 ·rw [aP g] at h0; exact absurd h0 g
theorem zero_sub{h:L8}(hh:errR h=0):subR [48] h=(negS h,0):=by
 obtain⟨n1,n2,_,_⟩:=zgn hh;obtain⟨z1,z2⟩:=VP;obtain⟨a1,a2,b1,b2,a4,b4,h2⟩:=QB z1 hh;have p1:numR [48]=[48]:=by decide +kernel
 have p2:denR [48]=[49]:=by decide +kernel
 have p3:zI [48]=0:=by decide +kernel
 have p4:zI [49]=1:=by decide +kernel
 have p5:(wz 0).2=0:=by decide +kernel
 have key:(subR [48] h).2=0:=by
  have m1:=v7 (zl.2 ⟨a1,b2⟩);have m2:=v7 (zl.2 ⟨b1,a2⟩);have m3:=v7 (zl.2 ⟨a2,b2⟩);rw [p1,p3,Int.zero_mul] at m1;rw [p2,p4,Int.mul_one] at m2;rw [p2,p4,Int.one_mul] at m3;have s2:=yO b1;have s3:=yO b2;have k1:(mulI (numR [48]) (denR h)).2=0:=by rw [p1,m1]; exact p5
  have k2:(mulI (numR h) (denR [48])).2=0:=by rw [p2,m2,s2]
  have k3:(mulI (denR [48]) (denR h)).2=0:=by rw [p2,m3,s3]
  have hc:zW [48] h=0:=by
   unfold zW;rw [h2,aO (by simp),aO (by rw [k1,k2]; simp)]
  unfold subR;rw [hc,aO (by simp)];have e1:errI (mulI (numR [48]) (denR h)).1=0:=by rw [p1,m1]; exact vL p5
  have e2:errI (mulI (numR h) (denR [48])).1=0:=by rw [p2,m2]; exact vL (by rw [s2])
  have su:=zev (zl.2 ⟨e1,e2⟩);have v1:zI (mulI (numR [48]) (denR h)).1=0:=by rw [p1,m1]; exact vd p5
  have v2:zI (mulI (numR h) (denR [48])).1=zI (numR h):=by rw [p2,m2]; exact vd (by rw [s2])
  rw [v1,v2,Int.zero_sub] at su;have k4:(subI (mulI (numR [48]) (denR h)).1 (mulI (numR h) (denR [48])).1).2=0:=by rw [su,Z4,s2]
  unfold frac;rw [aO (by rw [k4,k3]; simp)];have f1:errI (subI (mulI (numR [48]) (denR h)).1 (mulI (numR h) (denR [48])).1).1=0:=by rw [su]; exact vL (by rw [Z4,s2])
  have f2:errI (mulI (denR [48]) (denR h)).1=0:=by rw [p2,m3]; exact vL (by rw [s3])
  have f3:zI (mulI (denR [48]) (denR h)).1=zI (denR h):=by rw [p2,m3]; exact vd (by rw [s3])
  have:=zfh f1 f2 (λg=>b4 (by rw [<- f3]; have:=jB (mulI (denR [48]) (denR h)).1; omega));rw [this.1]
 obtain⟨c1,c2⟩:=kJ z1 hh key;have:(subR [48] h).1=negS h:=Xq c1 n1 (by rw [c2,n2,z2]; grind);rw [<- this,<- key]
theorem at_one{t:Tp}{inp:List (L8)}{h:L8}{i:Int}(g:(addR (inp.getD i.toNat []) h).2=0):atT t inp h [i]=je (runF (inp.set i.toNat (addR (inp.getD i.toNat []) h).1) t.ops []):=by
 unfold atT
 have e:shL h [i] inp=(inp.set i.toNat (addR (inp.getD i.toNat []) h).1,0):=by
  rw [shL,aO (λq=>q g)]; rfl
 rw [e,aO (by simp)]
theorem zjt{t:Tp}{inp:List (L8)}{h:L8}{i:Int}(g:(addR (inp.getD i.toNat []) h).2=14):atT t inp h [i]=([],14):=by
 unfold atT
 have e:shL h [i] inp=([],14):=by
  rw [shL,aP (by rw [g]; decide),g]
 rw [e,aP (by simp)]
theorem zbe{t:Tp}{inp:List (L8)}{i:Int}{h:L8}(D:Dok t inp [i] h)(hv:(z9 t inp).2=0)(ha:(atT t inp h [i]).2=14\/(atT t inp h [i]).2=0):(zF t inp i h).2=14\/(zF t inp i h).2=0:=by
 obtain⟨_,_,_,v1,v2⟩:=xB hv
 have hb:begT t inp [i] h=0:=by
  unfold begT;rw [aO (λq=>q hv),aP,aO (λq=>q D.h0),aO]
  ·intro g; exact D.hq (by rw [g]; exact VP.2)
  ·unfold qJ;rw [bG];intro j hj;have:=D.l j hj;simp [this.1,this.2]
 unfold zF;rw [aO (λq=>q hb)]
 have he:∀ q:L8×Int,q.2=14\/q.2=0->(endR q).2=14\/(endR q).2=0:=by
  intro q hq;unfold endR;split
  ·rename_i g; exact hq.elim .inl λg2=>absurd g2 g
  ·exact .inr rfl
 refine he _ ?_;rcases ha with g | g
 ·have eD:yC t inp i h=([],14):=by unfold yC stp; rw [aP (by rw [g]; decide),g]
  left;unfold stp;rw [eD];simp
 ·have eD:yC t inp i h=subR (atT t inp h [i]).1 (z9 t inp).1:=by unfold yC stp; rw [aO (λq=>q g)]
  rw [eD];obtain⟨a1,a2⟩:=uI D.h0 D.c D.n D.q D.l g;rcases Wp a1 v1 with g2 | ⟨g2,g3⟩
  ·left; unfold stp; rw [g2]; simp
  ·have s0:(subR (atT t inp h [i]).1 (z9 t inp).1).2=0:=by rw [g2]
   obtain⟨s1,s2⟩:=kJ a1 v1 s0;unfold stp;rw [aO (λq=>q s0)];rcases Yg s1 D.h0 with ⟨g4,_⟩ | ⟨_,g4 | ⟨g4,_⟩⟩
   ·exact absurd g4 D.hq
   ·left; rw [g4]
   ·right; rw [g4]
def shO(n:Int)(o:TOp):TOp:=if 3<=o.kind then⟨o.kind,o.a+n,o.b+n,o.rat⟩ else o
def vP(k:Int)(t u:Tp):Tp:=⟨t.n,t.ops++u.ops.map (shO t.ops.length)++[⟨k,(t.ops.length:Int) - 1,(t.ops.length:Int)+u.ops.length - 1,[]⟩]⟩
theorem Q3{inp:List (L8)} : ∀ (l1 l2:List TOp) (out:List L8),runF inp (l1++l2) out=if(runF inp l1 out).2≠0 then([],(runF inp l1 out).2) else runF inp l2 (runF inp l1 out).1
 | [],l2,out=>by simp [runF]
 | o::l1,l2,out=>by
  by_cases h:(zP inp out o).2=0
  ·have e1:∀ l:List TOp,runF inp (o::l) out=runF inp l (out++[(zP inp out o).1]):=λl=>by rw [runF,aO (λg=>g h)]
   rw [List.cons_append,e1,e1,Q3 l1 l2]
  ·have e1:∀ l:List TOp,runF inp (o::l) out=([],(zP inp out o).2):=λl=>by rw [runF,aP h]
   rw [List.cons_append,e1,e1,aP h]
theorem Yn{inp pre out:List (L8)}{n:Int}{o:TOp}(h:okOp n out.length o=true):zP inp (pre++out) (shO pre.length o)=zP inp out o:=by
 unfold shO;rcases w4 h with ⟨g,_⟩ | ⟨g,_⟩ | ⟨g,g1,g2,g3,g4,_⟩
 ·rw [aO (by omega)]; unfold zP; rw [aP g,aP g]
 ·rw [aO (by omega)]; unfold zP; rw [aO (show ¬ o.kind=1 by omega),aP g,aO (show ¬ o.kind=1 by omega),aP g]
 ·rw [aP (by omega)];unfold zP;simp only;rw [aO (show ¬ o.kind=1 by omega),aO (show ¬ o.kind=2 by omega),aO (show ¬ o.kind=1 by omega),aO (show ¬ o.kind=2 by omega)]
  have e1:(pre++out).getD (o.a+(pre.length:Int)).toNat []=out.getD o.a.toNat []:=by
   have:(o.a+(pre.length:Int)).toNat=pre.length+o.a.toNat:=by omega
   rw [this]; simp only [List.getD]; rw [List.getElem?_append_right (by omega)]; congr 2; omega
  have e2:(pre++out).getD (o.b+(pre.length:Int)).toNat []=out.getD o.b.toNat []:=by
   have:(o.b+(pre.length:Int)).toNat=pre.length+o.b.toNat:=by omega
   rw [this]; simp only [List.getD]; rw [List.getElem?_append_right (by omega)]; congr 2; omega
  rw [e1,e2]
theorem YU{inp pre:List (L8)}{n:Int} : ∀ (l:List TOp) (out:List L8),vy n out.length l->runF inp (l.map (shO pre.length)) (pre++out)=if(runF inp l out).2≠0 then([],(runF inp l out).2) else(pre++(runF inp l out).1,0)
 | [],out,_=>by simp [runF]
 | o::l,out,h=>by
  obtain⟨h1,h2⟩:=h;by_cases g:(zP inp out o).2=0
  ·have e1:runF inp (o::l) out=runF inp l (out++[(zP inp out o).1]):=by rw [runF,aO (λq=>q g)]
   have e2:runF inp ((o::l).map (shO pre.length)) (pre++out)=runF inp (l.map (shO pre.length)) (pre++out++[(zP inp out o).1]):=by rw [List.map_cons,runF,Yn h1,aO (λq=>q g)]
   rw [e1,e2,List.append_assoc,YU l _ (by simpa using h2)]
  ·have e1:runF inp (o::l) out=([],(zP inp out o).2):=by rw [runF,aP g]
   have e2:runF inp ((o::l).map (shO pre.length)) (pre++out)=([],(zP inp out o).2):=by rw [List.map_cons,runF,Yn h1,aP g]
   rw [e1,e2,aP g]
theorem yl{n:Int} : ∀ (l1 l2:List TOp) (k:Nat),vy n k l1->vy n (k+l1.length) l2->vy n k (l1++l2)
 | [],l2,k,_,h=>by simpa using h
 | o::l1,l2,k,h1,h=>by
  refine⟨h1.1,yl l1 l2 (k+1) h1.2 ?_⟩;have:k+1+l1.length=k+(o::l1).length:=by simp; omega
  rw [this]; exact h
theorem zgs{n:Int}{k m:Nat}{o:TOp}(h:okOp n k o=true):okOp n (m+k) (shO m o)=true:=by
 unfold shO;rcases w4 h with ⟨g,g1,g2,g3,g4⟩ | ⟨g,g1,g2,g3⟩ | ⟨g,g1,g2,g3,g4,g5⟩
 ·rw [aO (by omega)]; unfold okOp; rw [aP g]; simp [g1,g2,g3,g4]
 ·rw [aO (by omega)]; unfold okOp; rw [aO (show ¬ o.kind=1 by omega),aP g]; simp [g1,g2,g3]
 ·rw [aP (by omega)]; unfold okOp; simp only; rw [aO (show ¬ o.kind=1 by omega),aO (show ¬ o.kind=2 by omega),aP (show 3<=o.kind/\o.kind<=6 by omega)];simp only [g5,bA,aK];exact⟨⟨⟨by omega,by omega⟩,by omega,by omega⟩,trivial⟩
theorem JZ{n:Int}{m:Nat} : ∀ (l:List TOp) (k:Nat),vy n k l->vy n (m+k) (l.map (shO m))
 | [],_,_=>trivial
 | o::l,k,h=>⟨zgs h.1,JZ l (k+1) h.2⟩
theorem JL{n:Int} : ∀ (l:List TOp) (k j:Nat),vy n k l->j<l.length->okOp n (k+j) (l.getD j TOp.nil)=true
 | [],_,_,_,h=>by simp at h
 | o::l,k,0,h,_=>h.1
 | o::l,k,j+1,h,hj=>by
  have:=JL l (k+1) j h.2 (by simpa using hj);rw [show k+1+j=k+(j+1) by omega] at this;exact this
theorem zf2{t:Tp}(h:vy t.n 0 t.ops):vu t t.ops.length=true:=by
 unfold vu;rw [bG];intro j hj;have:=JL t.ops 0 j h (List.mem_range.1 hj);rw [Nat.zero_add] at this;exact this
theorem Xx{k:Int}{t u:Tp}(hk:k=3\/k=4)(ht:zg t=0)(hu:zg u=0)(hn:t.n=u.n)(hl:t.ops.length+u.ops.length<=400):zg (vP k t u)=0:=by
 obtain⟨a1,a2,a3,a4,a5⟩:=jo.1 ht;obtain⟨b1,b2,b3,b4,b5⟩:=jo.1 hu;refine jo.2 ⟨by simp [vP]; omega,a2,a3,by simp [vP]; omega,zf2 ?_⟩;have f1:=jJ a5 t.ops 0 List.drop_zero;have f2:=jJ b5 u.ops 0 List.drop_zero;rw [<- hn] at f2;refine yl _ _ 0 (yl _ _ 0 f1 ?_) ⟨?_,trivial⟩
 ·have:=JZ (m:=t.ops.length) u.ops 0 f2;rw [Nat.add_zero] at this;rw [Nat.zero_add];exact this
 ·unfold okOp;simp only [bO,List.length_map,Nat.zero_add];rw [aO (show ¬ k=1 by omega),aO (show ¬ k=2 by omega),aP (show 3<=k/\k<=6 by omega)];simp only [bA,aK];exact⟨⟨⟨by omega,by omega⟩,by omega,by omega⟩,trivial⟩
theorem zdf{r:List L8×Int}(h:(je r).2=0):r.2=0/\(je r).1=r.1.getD (r.1.length - 1) []:=by
 unfold je at h ⊢;by_cases g:r.2=0
 ·rw [aO (λq=>q g)]; exact⟨g,rfl⟩
 ·rw [aP g] at h; exact absurd h g
theorem Jf{k:Int}{t u:Tp}{x:List (L8)}(hk:k=3\/k=4)(ht:zg t=0)(hu:zg u=0)(hn:t.n=u.n)(hx:allQ x)(hxl:(x.length:Int)=t.n)(h1:(je (runF x t.ops [])).2=0)(h2:(je (runF x u.ops [])).2=0) :
  je (runF x (vP k t u).ops [])=arR k (je (runF x t.ops [])).1 (je (runF x u.ops [])).1:=by
 obtain⟨a1,a2,a3,a4,a5⟩:=jo.1 ht;obtain⟨b1,b2,b3,b4,b5⟩:=jo.1 hu;obtain⟨q1,_⟩:=yL ht hxl hx h1;obtain⟨q2,_⟩:=yL hu (by rw [<- hn]; exact hxl) hx h2;obtain⟨e1,l1⟩:=zdf h1;obtain⟨e2,l2⟩:=zdf h2;have f1:=jJ a5 t.ops 0 List.drop_zero;have f2:=jJ b5 u.ops 0 List.drop_zero;obtain⟨p1,_,n1⟩:=uk hx hxl t.ops [] _ (λ_ h=>absurd h (by simp)) f1 (show runF x t.ops []=((runF x t.ops []).1,0) by rw [<- e1]);obtain⟨p2,_,n2⟩:=uk hx (by rw [<- hn]; exact hxl) u.ops [] _ (λ_ h=>absurd h (by simp)) f2 (show runF x u.ops []=((runF x u.ops []).1,0) by rw [<- e2]);simp only [List.length_nil,Nat.zero_add] at n1 n2;rw [l1] at q1 ⊢;rw [l2] at q2 ⊢;have f3:=YU (inp:=x) (pre:=(runF x t.ops []).1) u.ops [] f2;rw [aO (λq=>q e2),List.append_nil] at f3;rw [n1] at f3
 have er:runF x (vP k t u).ops []=runF x [⟨k,(t.ops.length:Int) - 1,(t.ops.length:Int)+u.ops.length - 1,[]⟩] ((runF x t.ops []).1++(runF x u.ops []).1):=by
  unfold vP;simp only
  have g:runF x (t.ops++u.ops.map (shO t.ops.length)) []=((runF x t.ops []).1++(runF x u.ops []).1,0):=by
   rw [Q3,aO (λq=>q e1),f3]
  rw [Q3,g,aO (by simp)]
 rw [er];generalize hr:(runF x t.ops []).1=r at *
 generalize hs:(runF x u.ops []).1=s at *
 rw [runF]
 have es:zP x (r++s) ⟨k,(t.ops.length:Int) - 1,(t.ops.length:Int)+u.ops.length - 1,[]⟩=arR k (r.getD (r.length - 1) []) (s.getD (s.length - 1) []):=by
  unfold zP;simp only;rw [aO (show ¬ k=1 by omega),aO (show ¬ k=2 by omega)];have c1:((t.ops.length:Int) - 1).toNat=r.length - 1:=by omega
  have c2:((t.ops.length:Int)+u.ops.length - 1).toNat=r.length+(s.length - 1):=by omega
  rw [c1,c2];congr 1
  ·simp only [List.getD]; rw [bL (by omega)]
  ·simp only [List.getD]; rw [List.getElem?_append_right (by omega)]; congr 2; omega
 rw [es];by_cases g:(arR k (r.getD (r.length - 1) []) (s.getD (s.length - 1) [])).2=0
 ·rw [aO (λq=>q g),runF];unfold je;simp only;rw [aO (by simp)]
  have:(r++s++[(arR k (r.getD (r.length - 1) []) (s.getD (s.length - 1) [])).1]).getD ((r++s++[(arR k (r.getD (r.length - 1) []) (s.getD (s.length - 1) [])).1]).length - 1) []=(arR k (r.getD (r.length - 1) []) (s.getD (s.length - 1) [])).1:=by
   simp [List.getD]
  rw [this,<- g]
 ·rw [aP g];unfold je;simp only;rw [aP g];exact Prod.ext (YF q1 q2 g).symm rfl
theorem VN{k:Int}{a b:L8}(hk:k=3\/k=4)(ha:errR a=0)(hb:errR b=0):(arR k a b).2=14\/(arR k a b).2=0:=by
 unfold arR;rcases hk with g | g
 ·rw [aP g]; rcases Vb ha hb with h | ⟨h,_⟩<;>rw [h]<;>simp
 ·rw [aO (show ¬ k=3 by omega),aP g]; rcases Wp ha hb with h | ⟨h,_⟩<;>rw [h]<;>simp
theorem zfe{k:Int}{t u:Tp}{inp:List (L8)}{i:Int}{h:L8}(hk:k=3\/k=4)(hn:t.n=u.n)(hl:t.ops.length+u.ops.length<=400)(h1:(zF t inp i h).2=0)(h2:(zF u inp i h).2=0)
  (h3:(arR k (zF t inp i h).1 (zF u inp i h).1).2=0):(zF (vP k t u) inp i h).2=14\/(zF (vP k t u) inp i h).2=0/\(zF (vP k t u) inp i h).1=(arR k (zF t inp i h).1 (zF u inp i h).1).1:=by
 obtain⟨D,r1,r2⟩:=ZB h1;obtain⟨E,s1,s2⟩:=ZB h2;have hc:=Xx hk D.c E.c hn hl
 have beg:∀ {v:Tp},(zF v inp i h).2=0->begT v inp [i] h=0/\(atT v inp h [i]).2=0:=by
  intro v hv
  have hb:begT v inp [i] h=0:=by
   refine bM λg=> ?_
   unfold zF at hv;rw [aP g] at hv;exact g hv
  refine⟨hb,?_⟩;unfold zF at hv;rw [aO (λq=>q hb)] at hv;have:=(Yt (zic hv).1).1;unfold yC at this;exact(Yt this).1
 obtain⟨g1,g2⟩:=beg h1;obtain⟨g3,g4⟩:=beg h2;obtain⟨_,v1,v2⟩:=Wb g1;obtain⟨_,w1,w2⟩:=Wb g3;have v0:=(zcx g1).1;have w0:=(zcx g3).1;have DJ:Dok (vP k t u) inp [i] h:=⟨hc,D.n,D.q,D.l,D.h0,D.hq⟩
 have ev:z9 (vP k t u) inp=arR k (z9 t inp).1 (z9 u inp).1:=by
  have x1:=Wd D.c D.n D.q;have x2:=Wd E.c E.n E.q;rw [Wd hc DJ.n DJ.q,x1,x2];exact Jf hk D.c E.c hn D.q D.n (by rw [<- x1]; exact v0) (by rw [<- x2]; exact w0)
 by_cases hv:(z9 (vP k t u) inp).2=0
 ·have il:=D.l i (by simp);have hil:i.toNat<inp.length:=by have:=D.n; omega
  have f0:(addR (inp.getD i.toNat []) h).2=0:=by
   rcases Vb (jg D.q hil) D.h0 with g | ⟨g,_⟩
   ·rw [zjt (by rw [g])] at g2; cases g2
   ·rw [g]
  obtain⟨x1,x2⟩:=x6 (jg D.q hil) D.h0 f0
  have ea:atT (vP k t u) inp h [i]=arR k (atT t inp h [i]).1 (atT u inp h [i]).1:=by
   have y1:atT t inp h [i]=_:=at_one f0;have y2:atT u inp h [i]=_:=at_one f0;rw [at_one f0,y1,y2];exact Jf hk D.c E.c hn (Zu D.q x1 _) (by simpa using D.n) (by rw [<- y1]; exact g2) (by rw [<- y2]; exact g4)
  obtain⟨a1,a2⟩:=uI D.h0 D.c D.n D.q D.l g2;obtain⟨b1,b2⟩:=uI D.h0 E.c E.n E.q E.l g4;rcases zbe DJ hv (by rw [ea]; exact VN hk a1 b1) with g | g
  ·exact .inl g
  ·right;obtain⟨_,z1,z2⟩:=ZB g;obtain⟨g5,g6⟩:=beg g;obtain⟨m1,m2⟩:=uI D.h0 hc DJ.n DJ.q DJ.l g6;obtain⟨_,n1,n2⟩:=Wb g5;have c1:=Ue a1 b1 (k:=k) (by rw [<- ea]; exact g6);have c2:=Ue v1 w1 (k:=k) (by rw [<- ev]; exact hv);have c3:=Ue r1 s1 h3;rw [<- ea,m2,a2,b2] at c1;rw [<- ev,n2,v2,w2] at c2;refine⟨g,Xq z1 (Xj r1 s1 h3) ?_⟩;rw [z2,c1,c2,c3,r2,s2];have:=D.hq;unfold arQ;rcases hk with q | q
   ·simp only [q,if_true]; grind
   ·simp only [q]; simp only [show ¬ ((4:Int)=3) by decide,if_false,if_true]; grind
 ·left
  have hb:begT (vP k t u) inp [i] h=14:=by
   unfold begT;rw [aP hv];rcases VN hk v1 w1 with g | g
   ·rw [ev]; exact g
   ·rw [ev] at hv; exact absurd g hv
  unfold zF;rw [aP (by rw [hb]; decide),hb]
end Go.Nov
end
section
set_option maxRecDepth 100000
open Go Go.Sx Go.Proofs Go.Nov
namespace Go.Proofs.Tryz
attribute [local simp] eqKV eqA eqA0 eqH eqB eqL eqL0
noncomputable def K20:=Go.Sx.aA f20
noncomputable def bwI:Ctr:=inlC prog noG 100 f38
theorem V9:zc prog 38 bwI:=kE hmix zA rfl rfl
def ze5(o:TOp):Prop:=o.rat.length<2^60
def zi(t:Tp):Prop:=t.ops.length<2^60/\∀ j,j<t.ops.length->ze5 (t.ops.getD j TOp.nil)
def Zm:Ctr:=ctrP true (λt:Tp=>[t.av]) zi (λt r=>r=zg t) (λ_ (r:Int)=>(.i r,[]))
def SBc(ops:List TOp)(ok:Bool)(i:Nat):KV:=[(1,.ptr 0 0),(3,.bool ok),(25,opS ops),(26,.i (ops.length:Int)),(27,.i (i:Int)),Z 38,Z 39,Z 40,Z 41,Z 42,Z 45,Z 46,Z 47,Z 48,Z 49,Z 50,Z 51,Z 57,Z 58,Z 59,Z 60,Z 63,Z 64,Z 65,Z 68,Z 69,Z 70,Z 79,Z 80,Z 81,Z 82,Z 85,Z 86,Z 87,Z 88,Z 91,Z 92,Z 93]
def HBc(n:Int)(ops:List TOp):Heap:=[.box [.i n,opS ops]]
noncomputable def GT1:=tb V9 (tb jM tz)
theorem uo:zc prog 20 Zm:=by
 refine zh' f20 λp hp O w0 Q hq=> ?_
 obtain⟨n,ops⟩:=p;obtain⟨h1,h2⟩:=hp;replace hq:=hq _ rfl;simp only at h1 h2 hq;refine zb.n GT1.h [1,3,25,26,27,38,39,40,41,42,45,46,47,48,49,50,51,57,58,59,60,63,64,65,68,69,70,79,80,81,82,85,86,87,88,91,92,93] (let v1:List Blk:=[.box [.i n,.sl ops.length 4 (opG ops)]];.D ((500:Int)<ops.length) (.R [.i 4] v1) (.leaf (.loop (lps K20 0).1 (lps K20 0).2 [(1,.ptr 0 0),(3,.bool (bif bif decide ((0:Int)<=n) then decide (n<=500) else false then decide ((0:Int)<ops.length) else false)),(25,.sl ops.length 4 (opG ops)),(26,.i ops.length),(27,.i 0),Z 38,Z 39,Z 40,Z 41,Z 42,Z 45,Z 46,Z 47,Z 48,Z 49,Z 50,Z 51,Z 57,Z 58,Z 59,Z 60,Z 63,Z 64,Z 65,Z 68,Z 69,Z 70,Z 79,Z 80,Z 81,Z 82,Z 85,Z 86,Z 87,Z 88,Z 91,Z 92,Z 93] v1))) ?_;simp only [Tree.holds,ze];refine⟨λh=> ?_,λh=> ?_⟩
 ·have h:500<ops.length:=by have:=aB h; omega
  have e:zg ⟨n,ops⟩=4:=by unfold zg; rw [aP h]
  rw [e] at hq;exact RetR.scal hq rfl (by simp [resV])
 have hl:¬ 500<ops.length:=by have:=aC h; omega
 refine zb.loop (ι:={i:Nat // i<=ops.length}) (λi=>SBc ops (uX ⟨n,ops⟩&&vu ⟨n,ops⟩ i.1) i.1) (λ_=>HBc n ops) (λi=>ops.length - i.1) ⟨0,aI _⟩ 0 ?_ ?_ (by kernel_rfl)
 ·refine⟨?_,by simp [HBc,opS,za],by kernel_rfl,aI _⟩;simp [SBc,opS,za,uX,vu]
 ·rintro⟨i,hil⟩;obtain⟨ok,hok⟩:∃ ok,(uX ⟨n,ops⟩&&vu ⟨n,ops⟩ i)=ok:=⟨_,rfl⟩;simp only [hok];refine zb.n GT1.h [1,3,25,26,27,38,39,40,41,42,45,46,47,48,49,50,51,57,58,59,60,63,64,65,68,69,70,79,80,81,82,85,86,87,88,91,92,93] (let v6:List AV:=[.i n,.sl ops.length 4 (opG ops)];let v5:=inR .i64 (i+1);let v3:=ops.getD (i:Int).toNat TOp.nil;let v9:=decide (TOp.kind v3=(5:Int));let v8:=decide (TOp.kind v3=(4:Int));let v7:=decide (TOp.kind v3=(3:Int));let v4:List Blk:=[.box v6,.box [.int .u8 v3.kind,.i v3.a,.i v3.b,.str v3.rat]];let v2:we:=.back 0 [(1,.ptr 0 0),(3,.bool false),(25,.sl ops.length 4 (opG ops)),(26,.i ops.length),(27,.i (i+1)),Z 38,Z 39,Z 40,Z 41,Z 42,Z 45,Z 46,Z 47,Z 48,Z 49,Z 50,Z 51,Z 57,Z 58,Z 59,Z 60,Z 63,Z 64,Z 65,Z 68,Z 69,Z 70,Z 79,Z 80,Z 81,Z 82,Z 85,Z 86,Z 87,Z 88,Z 91,Z 92,Z 93] v4;let v1:we:=.back 0 [(1,.ptr 0 0),(3,.bool (bif bif bif ok then bif decide ((0:Int)<=TOp.a v3) then decide (TOp.a v3 <(i:Int)) else false else false then bif decide ((0:Int)<=TOp.b v3) then decide (TOp.b v3 <(i:Int)) else false else false then decide (TOp.rat v3=#[].toList) else false)),(25,.sl ops.length 4 (opG ops)),(26,.i ops.length),(27,.i (i+1)),Z 38,Z 39,Z 40,Z 41,Z 42,Z 45,Z 46,Z 47,Z 48,Z 49,Z 50,Z 51,Z 57,Z 58,Z 59,Z 60,Z 63,Z 64,Z 65,Z 68,Z 69,Z 70,Z 79,Z 80,Z 81,Z 82,Z 85,Z 86,Z 87,Z 88,Z 91,Z 92,Z 93] v4;.D ((i:Int)<ops.length) (.side ((0:Int)<=i/\(i:Int)<ops.length) (.D (TOp.kind v3=(1:Int)) (.side v5 (.leaf (.back 0 [(1,.ptr 0 0),(3,.bool (bif bif ok then bif decide ((0:Int)<=TOp.a v3) then decide (TOp.a v3 <n) else false else false then decide (TOp.kind v3=TOp.kind v3)&&(decide (TOp.a v3=TOp.a v3)&&(decide (TOp.b v3=(0:Int))&&(decide (TOp.rat v3=#[].toList)&&true))) else false)),(25,.sl ops.length 4 (opG ops)),(26,.i ops.length),(27,.i (i+1)),Z 38,Z 39,Z 40,Z 41,Z 42,Z 45,Z 46,Z 47,Z 48,Z 49,Z 50,Z 51,Z 57,Z 58,Z 59,Z 60,Z 63,Z 64,Z 65,Z 68,Z 69,Z 70,Z 79,Z 80,Z 81,Z 82,Z 85,Z 86,Z 87,Z 88,Z 91,Z 92,Z 93] v4))) (.D (TOp.kind v3=(2:Int)) (.ex (λ(x:L8)=>ok=true->q15 [.str v3.rat] x) λn_1=>.all (λ(x:Int)=>ok=true->x=errR n_1) λn_2=>.side v5 (.leaf (.back 0 [(1,.ptr 0 0),(3,.bool (bif bif bif ok then decide (n_2=0) else false then decide (TOp.a v3=(0:Int)) else false then decide (TOp.b v3=(0:Int)) else false)),(25,.sl ops.length 4 (opG ops)),(26,.i ops.length),(27,.i (i+1)),Z 38,Z 39,Z 40,Z 41,Z 42,Z 45,Z 46,Z 47,Z 48,Z 49,Z 50,Z 51,Z 57,Z 58,Z 59,Z 60,Z 63,Z 64,Z 65,Z 68,Z 69,Z 70,Z 79,Z 80,Z 81,Z 82,Z 85,Z 86,Z 87,Z 88,Z 91,Z 92,Z 93] v4))) (.ite v7 (.ite v7 (.side v5 (.leaf v1)) (.side v5 (.leaf v2))) (.ite v8 (.ite v8 (.side v5 (.leaf v1)) (.side v5 (.leaf v2))) (.ite v9 (.ite v9 (.side v5 (.leaf v1)) (.side v5 (.leaf v2))) (.D (TOp.kind v3=(6:Int)) (.side v5 (.leaf v1)) (.side v5 (.leaf v2))))))))) (.ite (!ok) (.R [.i 8] [.box v6]) (.R [.i 0] [.box v6]))) ?_;simp only [q15,Tree.holds,ze,inR,lo,hi,aD];refine⟨λhlt=> ?_,λhge=> ?_⟩
  ·have hlt:i<ops.length:=by have:=aB hlt; omega
   have hsm:=h2 i hlt;have hs:(uX ⟨n,ops⟩&&vu ⟨n,ops⟩ (i+1))=(ok&&okOp n i (ops.getD i TOp.nil)):=by rw [Xg,<- Bool.and_assoc,hok]
   obtain⟨o,ho⟩:∃ o,ops.getD i TOp.nil=o:=⟨_,rfl⟩;rw [ho] at hs hsm;simp only [ho];refine⟨by omega,λ_=> ?_⟩;have hk:(∃ x':{i:Nat // i<=ops.length},x'=⟨i+1,hlt⟩):=⟨_,rfl⟩;refine⟨λk1=> ?_,λk1=>⟨λk2=>⟨o.rat,λ_=>⟨⟨rfl,trivial⟩,by unfold ze5 at hsm; omega⟩,⟨_,λ_=>rfl⟩,λe he=> ?_⟩,λk2=>⟨λk3=>⟨λk3'=> ?_,λk3'=> ?_⟩,λk3=>⟨λk4=>⟨λk4'=> ?_,λk4'=> ?_⟩,λk4=>⟨λk5=>⟨λk5'=> ?_,λk5'=> ?_⟩,λk5=>⟨λk6=> ?_,λk6=> ?_⟩⟩⟩⟩⟩⟩
   all_goals
    refine⟨by omega,λ_=> ?_⟩;rw [aP trivial];refine⟨⟨i+1,hlt⟩,by show ops.length - (i+1)<ops.length - i; omega,?_,by simp [HBc,opS,za],by kernel_rfl,aI _⟩;simp only [hs];clear hs hok hq h2 h1;cases ok<;>simp_all [SBc,opS,za,okOp,Bool.and_assoc]<;>(intros; omega)
  ·have hge:i=ops.length:=by have:=aC hge; omega
   subst hge;have e:zg ⟨n,ops⟩=if ok=true then 0 else 8:=by unfold zg; rw [aO hl,<- hok]
   refine⟨λh=> ?_,λh=> ?_⟩
   ·have h:ok=false:=by simpa using h
    rw [e,h,aO (by decide)] at hq;exact RetR.scal hq rfl (by simp [resV])
   ·have h:ok=true:=by simpa using h
    rw [e,h,aP rfl] at hq;exact RetR.scal hq rfl (by simp [resV])
end Go.Proofs.Tryz
end
