/- Part 4 of the proof. -/
import Derived.Test.YtfiocgnojggdjaaGreatDoorSxa
import Derived.Test.YtfiocgnojggdjaaGreatDoorSxc
import Derived.Control
import Derived.Test.YtfiocgnojggdjaaGreatDoorProg
import Derived.Lib.Strings
import Derived.Lib.Slices
import Derived.Lib.Walk
import Derived.Lib.Bytealg
set_option linter.unusedVariables false
set_option linter.unusedSimpArgs false
set_option linter.unusedSectionVars false
noncomputable def Go.Sx.aA(f:Go.Func):List Go.Sx.Item:=[.code (f.body.getD .skip)]
section
namespace Go.Nov
theorem top2{l:List Nat}{m:Nat}(h:dig l)(hl:l.length=m+2):∃ r,r<B^m/\val l=r+B^m*(l.getD m 0+B*l.getD (m+1) 0):=by
 refine⟨val (l.take m),?_,?_⟩
 ·have:=qu (j3 h m)
  rwa [aH,Nat.min_eq_left (by omega)] at this
 ·have h1:=zq l m;have h2:=zq l (m+1);rw [bF (by omega),h1,Nat.pow_succ] at h2;rw [h2,bN,bI,Nat.add_assoc]
theorem top3{l:List Nat}{m:Nat}(h:dig l)(hl:l.length=m+3):∃ r,r<B^m/\val l=r+B^m*(l.getD m 0+B*(l.getD (m+1) 0+B*l.getD (m+2) 0)):=by
 refine⟨val (l.take m),?_,?_⟩
 ·have:=qu (j3 h m)
  rwa [aH,Nat.min_eq_left (by omega)] at this
 ·have h1:=zq l m;have h2:=zq l (m+1);have h3:=zq l (m+2);rw [bF (by omega),h2,h1,Nat.pow_succ,Nat.pow_succ] at h3;rw [h3,Nat.pow_succ];simp only [bN,bI,Nat.add_assoc]
theorem horner(b t u v:Nat):v+b*(u+b*t)=(t*b+u)*b+v:=by grind
theorem zd2(p b y:Nat):2*(p*(y*b))=p*b*(2*y):=by grind
theorem Uw{r S x V:Nat}(hr:r<S)(h:V=r+S*x):x*S<=V/\V<(x+1)*S:=by
 rw [h,Nat.succ_mul,bJ x S]; omega
theorem xC(u:List Nat)(j k i:Nat)(hi:i<k):((u.drop j).take k).getD i 0=u.getD (j+i) 0:=by
 simp [bR,hi,List.getElem?_drop]
theorem Jh(u:List Nat)(j k:Nat)(h:j+k<=u.length):val u=val (u.take j)+B^j*(val ((u.drop j).take k)+B^k*val (u.drop (j+k))):=by
 have h1:u=u.take j++((u.drop j).take k++u.drop (j+k)):=by
  rw [<- List.drop_drop,bU,bU]
 conv=>lhs; rw [h1]
 rw [zG,zG,aH,Nat.min_eq_left (by omega),aH,List.length_drop,Nat.min_eq_left (by omega)]
theorem zy{x n:Nat}(h:x<B^n):(canon x).length<=n:=by
 rcases aR n (canon x).length with h1 | h1
 ·exfalso;have h2:=zZ (x:=B^n - 1) (y:=x) ?_
  ·omega
  ·have h3:=qu (zj (B^n - 1))
   have:¬ n<(canon (B^n - 1)).length:=by
    intro hlt;have hne:canon (B^n - 1)≠[]:=by intro h0; rw [h0] at hlt; simp at hlt
    have hl:=jd (B^n - 1);have htop:=q9 (canon (B^n - 1)) (by omega);rw [hl] at htop;have h4:=zq (canon (B^n - 1)) ((canon (B^n - 1)).length - 1);rw [Nat.sub_add_cancel (by omega),bD,zm] at h4;have h5:B^n<=B^((canon (B^n - 1)).length - 1):=bW (by decide) (by omega);have h6:B^((canon (B^n - 1)).length - 1)*1<=B^((canon (B^n - 1)).length - 1)*(canon (B^n - 1)).getD ((canon (B^n - 1)).length - 1) 0:=aS _ (by omega);have h7:0<B^n:=Nat.pow_pos (by decide);omega
   omega
 ·exact h1
theorem j8{x n:Nat}(h:B^n<=x):n<(canon x).length:=by
 have:=qu (zj x);rw [zm] at this;rcases aR n (canon x).length with h1 | h1
 ·exact h1
 ·have:B^(canon x).length<=B^n:=bW (by decide) h1;omega
theorem zbo{t s:Nat}(ht:0<t)(hs:s=B/(t+1))(htB:t<B):0<s/\s*(t+1)<=B/\B<=2*(t*s):=by
 have h1:s*(t+1)<=B:=hs▸Nat.div_mul_le_self _ _
 have h2:B<(s+1)*(t+1):=by
  have:=Nat.lt_mul_div_succ B (show 0<t+1 by omega);rw [<- hs,bJ] at this; exact this
 have h3:0<s:=by rw [hs]; exact Nat.div_pos (by omega) (by omega)
 refine⟨h3,h1,?_⟩;obtain⟨a,rfl⟩:∃ a,t=a+1:=⟨t - 1,by omega⟩;obtain⟨b,rfl⟩:∃ b,s=b+1:=⟨s - 1,by omega⟩;have e:(a+1)*(b+1)=a*b+a+b+1:=by simp only [bH,bN]; omega
 have e2:(b+1+1)*(a+1+1)=a*b+2*a+2*b+4:=by simp only [bH,bN,bJ b a]; omega
 rw [e2] at h2;rw [e];have hB:B=1000000000:=rfl;generalize a*b=p at *
 omega
theorem scaled{y n s t r:Nat}(hr:r<B^n)(hy:y=r+B^n*t)(hs:0<s)(h1:s*(t+1)<=B)(h2:B<=2*(t*s)) :
  y*s<B^(n+1)/\B^(n+1)<=2*(y*s):=by
 have h3:y<B^n*(t+1):=by rw [bN]; omega
 constructor
 ·calc y*s<B^n*(t+1)*s:=Nat.mul_lt_mul_of_pos_right h3 hs
   _=B^n*(s*(t+1)):=by rw [bI,bJ (t+1)]
   _<=B^n*B:=aS _ h1
   _=B^(n+1):=(Nat.pow_succ ..).symm
 ·calc B^(n+1)=B^n*B:=Nat.pow_succ ..
   _<=B^n*(2*(t*s)):=aS _ h2
   _=2*(B^n*t*s):=by rw [Nat.mul_left_comm,bI]
   _<=2*(y*s):=aS _ (aT _ (by omega))
theorem ze6{u:List Nat}{j m V W d:Nat}(hd:dig u)(hj:j+(m+2)+1<=u.length)(hVl:(canon V).length=m+2)(hV2:B^(m+2)<=2*V)(hlt:val u<V*B^(j+1))
  (hW:val ((u.drop j).take (m+2+1))=W) (hdd:qW (u.getD (j+m) 0) ((canon V).getD (m+1) 0) ((canon V).getD m 0) 2 ((u.getD (j+(m+2)) 0*B+u.getD (j+(m+1)) 0)/(canon V).getD (m+1) 0) ((u.getD (j+(m+2)) 0*B+u.getD (j+(m+1)) 0)%(canon V).getD (m+1) 0)=d) :
  W<V*B/\B<=2*(canon V).getD (m+1) 0/\u.getD (j+(m+2)) 0<=(canon V).getD (m+1) 0/\W/V<=d/\d<=W/V+1/\d<B:=by
 have hB:B=1000000000:=rfl;have hVB:=qu (zj V);rw [zm,hVl] at hVB;have hP:0<B^m:=Nat.pow_pos (by decide)
 have hWV:W<V*B:=by
  have h1:=Jh u j (m+2+1) (by omega);have h2:B^j*W<=val u:=by rw [h1,bN,hW]; exact bP (Nat.le_add_right _ _) (Nat.le_add_left _ _)
  have h3:B^j*W<B^j*(V*B):=by
   calc B^j*W<=val u:=h2
    _<V*B^(j+1):=hlt
    _=B^j*(V*B):=by rw [Nat.pow_succ,Nat.mul_left_comm]
  exact Nat.lt_of_mul_lt_mul_left h3
 obtain⟨rv,hrv,hv⟩:=top2 (zj V) hVl;rw [zm] at hv;have hwl:((u.drop j).take (m+2+1)).length=m+3:=by simp; omega
 obtain⟨rw',hrw,hw⟩:=top3 (j3 (ZH hd j) (m+2+1)) hwl;rw [xC _ _ _ _ (by omega),xC _ _ _ _ (by omega),xC _ _ _ _ (by omega)] at hw;have hyB:=zL (zj V) (m+1);have hzB:=zL (zj V) m;have hvB:=zL hd (j+m);have huB:=zL hd (j+(m+1));rw [hW] at hw;generalize hyy:(canon V).getD (m+1) 0=y at *
 generalize hzz:(canon V).getD m 0=z at *
 generalize u.getD (j+(m+2)) 0=t at *
 generalize u.getD (j+(m+1)) 0=uu at *
 generalize u.getD (j+m) 0=vv at *
 have ev:z+B*y=y*B+z:=by rw [bJ y B,Nat.add_comm]
 have ew:vv+B*(uu+B*t)=(t*B+uu)*B+vv:=horner B t uu vv;rw [ev] at hv; rw [ew] at hw
 have hy2:B<=2*y:=by
  rcases aR (2*y) B with h1 | h1
  ·exfalso;have h2:V<B^m*(y*B+z+1):=by rw [bN]; omega
   have h3:B^m*(y*B+z+1)<=B^m*((y+1)*B):=aS _ (by rw [bH]; omega)
   have h4:2*(B^m*((y+1)*B))=B^(m+1)*(2*(y+1)):=by
    rw [Nat.pow_succ]; exact zd2 _ _ _
   have h5:B^(m+1)*(2*(y+1))<=B^(m+1)*B:=aS _ (by omega);have h6:B^(m+2)=B^(m+1)*B:=Nat.pow_succ ..;omega
  ·exact h1
 obtain⟨a1,a2⟩:=Uw hrv hv;obtain⟨b1,b2⟩:=Uw hrw hw;obtain⟨g1,g2,g3,g4⟩:=VD (W:=W) (V:=V) (S:=B^m) (t:=t) (u:=uu) (v:=vv) (y:=y) (z:=z) hP a1 a2 b1 b2 hWV hzB hvB hy2 hyB (by omega);rw [hdd] at g1 g2 g3;refine⟨hWV,hy2,?_,g1,g2,g3⟩;rcases aR y t with h1 | h1
 ·exfalso;have h2:(y+1)*B<=t*B:=aT _ h1;rw [bH] at h2;omega
 ·exact h1
theorem step_eq{u u' q:List Nat}{j k V U0:Nat}(hd:dig u)(hj:j+k<=u.length)(hV:V<B^(k - 1))(hk:1<=k)(hV0:0<V)(hlt:val u<V*B^(j+1))(hq:j<q.length)(heq:U0=V*B^(j+1)*val (q.drop (j+1))+val u)
  (hu':val u'=val (u.take j)+B^j*(val ((u.drop j).take k)%V+B^k*val (u.drop (j+k)))) :
  val u'<V*B^j/\U0=V*B^j*val ((q.set j (val ((u.drop j).take k)/V)).drop j)+val u':=by
 have h1:=Jh u j k hj;have h0:=qu (j3 hd j);rw [aH,Nat.min_eq_left (by omega)] at h0;have hP:0<B^j:=Nat.pow_pos (by decide);generalize val ((u.drop j).take k)=W at *
 generalize val (u.take j)=r at *
 have hH:val (u.drop (j+k))=0:=by
  rcases bC (val (u.drop (j+k))) with h | h
  ·exact h
  ·exfalso;have h2:B^k*1<=B^k*val (u.drop (j+k)):=aS _ h
   have h3:B^j*B^k<=val u:=by
    rw [h1];refine bP (aS _ (m:=W+B^k*val (u.drop (j+k))) (by omega)) (Nat.le_add_left _ _)
   have h4:V*B^(j+1)<B^(k - 1)*B^(j+1):=Nat.mul_lt_mul_of_pos_right hV (Nat.pow_pos (by decide));have h5:B^(k - 1)*B^(j+1)=B^j*B^k:=by rw [<- Nat.pow_add,<- Nat.pow_add]; congr 1; omega
   omega
 rw [hH] at h1 hu';simp only [Nat.mul_zero,Nat.add_zero] at h1 hu';have hm:=Nat.mod_lt W hV0;have hdm:=Nat.div_add_mod W V;constructor
 ·rw [hu'];have:B^j*(W%V+1)<=B^j*V:=aS _ hm;rw [bN] at this;rw [bJ V]; omega
 ·have hset:(q.set j (W/V)).drop j=(W/V)::q.drop (j+1):=by
   rw [List.drop_eq_getElem_cons (by simpa using hq)];simp [List.drop_set_of_lt]
  rw [hset,heq,hu',h1];simp only [val];generalize W/V=d at *
  generalize W%V=e at *
  rw [<- hdm,Nat.pow_succ];simp only [bN,<- bI];have e1:V*B^j*B*val (List.drop (j+1) q)=V*B^j*B*val (List.drop (j+1) q):=rfl;have e2:B^j*V*d=V*B^j*d:=by rw [bJ (B^j) V]
  omega
def mixL(u c:List Nat)(j i:Nat):List Nat:=(List.range u.length).map λp=>if j<=p/\p<j+i then c.getD (p - j) 0 else u.getD p 0
theorem VA(u c:List Nat)(j i:Nat):(mixL u c j i).length=u.length:=by simp [mixL]
theorem UX(u c:List Nat)(j:Nat):mixL u c j 0=u:=by
 apply List.ext_getElem (by simp [mixL]);intro p h1 h2;simp only [mixL,List.getElem_map,List.getElem_range];rw [aO (by omega)]; simp [h2]
theorem VF(u c:List Nat)(j i:Nat)(x:Nat):((mixL u c j i).set (j+i) x).set (j+i) (c.getD i 0)=mixL u c j (i+1):=by
 rw [List.set_set];apply List.ext_getElem (by simp [mixL]);intro p h1 h2;simp only [List.getElem_set,mixL,List.getElem_map,List.getElem_range];by_cases hp:j+i=p
 ·subst hp; rw [aP rfl,aP ⟨by omega,by omega⟩]; congr 1; omega
 ·rw [aO hp];by_cases hc:j<=p/\p<j+i
  ·rw [aP hc,aP ⟨hc.1,by omega⟩]
  ·rw [aO hc,aO (by omega)]
theorem zd0{u c:List Nat}(hu:dig u)(hc:dig c)(j i:Nat):dig (mixL u c j i):=by
 intro d hd;simp only [mixL,List.mem_map] at hd;obtain⟨p,_,rfl⟩:=hd;split
 ·exact zL hc _
 ·exact zL hu _
theorem zbq{u:List Nat}{L j k:Nat}(hj:j+k<=u.length)(hL:(canon L).length<=k):val (mixL u (canon L) j k)=val (u.take j)+B^j*(L+B^k*val (u.drop (j+k))):=by
 have h:mixL u (canon L) j k=u.take j++(padN k L++u.drop (j+k)):=by
  apply List.ext_getElem (by simp [mixL,padN]; omega);intro p h1 h2;simp only [mixL,List.getElem_map,List.getElem_range];rw [VA] at h1;by_cases ha:p<j
  ·rw [aO (by omega),List.getElem_append_left (by simp; omega)]; simp [h1]
  ·have hjl:(u.take j).length=j:=by simp; omega
   rw [List.getElem_append_right (by omega)];simp only [hjl];have hpl:(padN k L).length=k:=by simp [padN]; omega
   by_cases hb:p - j<k
   ·rw [aP (by omega),List.getElem_append_left (by omega)];simp only [padN];by_cases hc:p - j<(canon L).length
    ·rw [List.getElem_append_left hc]; simp [hc]
    ·rw [List.getElem_append_right (by omega)]; simp [aZ (Nat.le_of_not_lt hc)]
   ·rw [aO (by omega),List.getElem_append_right (by omega)];simp only [hpl,List.getElem_drop];have:j+k+(p - j - k)=p:=by omega
    simp [this,h1]
 rw [h,zG,zG,aH,Nat.min_eq_left (by omega)];have hpl:(padN k L).length=k:=by simp [padN]; omega
 have hpv:val (padN k L)=L:=by rw [padN,zG,zm,j4]; simp
 rw [hpl,hpv]
def isD(c:UInt8):Bool:=48<=c.toNat&&c.toNat<=57
def allD(l:L8):Prop:=∀ c∈l,48<=c.toNat/\c.toNat<=57
def numD(l:L8):Nat:=l.foldl (λa c=>a*10+(c.toNat - 48)) 0
theorem zl9(l:L8)(a:Nat):l.foldl (λa c=>a*10+(c.toNat - 48)) a=a*10^l.length+numD l:=by
 induction l generalizing a with
 | nil=>simp [numD]
 | cons c l ih=>
  simp only [List.foldl_cons,numD,aL];rw [ih,ih (0*10+(c.toNat - 48)),Nat.pow_succ];generalize 10^l.length=p;generalize numD l=q;generalize c.toNat - 48=d;rw [bH,Nat.zero_mul,Nat.zero_add,bI,bJ 10 p];omega
theorem vM(l m:L8):numD (l++m)=numD l*10^m.length+numD m:=by
 rw [numD,List.foldl_append,zl9]; rfl
theorem zad(l:L8)(c:UInt8):numD (l++[c])=numD l*10+(c.toNat - 48):=by
 simp [numD]
theorem y4{l:L8}(h:allD l):numD l<10^l.length:=by
 induction l with
 | nil=>simp [numD]
 | cons c l ih=>
  have hc:=h c (by simp);have hl:=ih λd hd=>h d (by simp [hd])
  have:numD (c::l)=(c.toNat - 48)*10^l.length+numD l:=by
   rw [show c::l=[c]++l from rfl,vM]; simp [numD]
  rw [this,aL,Nat.pow_succ];have h2:(c.toNat - 48)*10^l.length<=9*10^l.length:=aT _ (by omega);omega
theorem X2(l:L8)(i:Nat)(h:i<l.length):l.take (i+1)=l.take i++[l.getD i 0]:=by
 rw [List.take_succ_eq_append_getElem h]; simp [List.getD,h]
def decB(x:ByteArray):Nat:=numD x.data.toList
theorem zgw{x:ByteArray}(h:allD x.data.toList)(hl:x.size<=9):decB x<B:=by
 have h1:=y4 h;have h2:x.data.toList.length=x.size:=by rw [Array.length_toList]; rfl
 have h3:10^x.data.toList.length<=10^9:=bW (by decide) (by omega);have h4:(10:Nat)^9=B:=by decide
 unfold decB;omega
end Go.Nov
end
section
namespace Go.Nov.Ten
abbrev B:Nat:=10
def val:List Nat->Nat
 | []=>0
 | d::l=>d+B*val l
def dig(l:List Nat):Prop:=∀ d∈l,d<B
def xj:Nat->Nat->List Nat
 | 0,_=>[]
 | n+1,x=>if x=0 then [] else x%B::xj n (x/B)
def canon(x:Nat):List Nat:=xj x x
theorem Jp:∀ (n m x:Nat),x<=n->x<=m->xj n x=xj m x
 | 0,m,x,h,_=>by
  have:x=0:=by omega
  subst this;cases m<;>simp [xj]
 | n+1,0,x,_,h=>by
  have:x=0:=by omega
  subst this;simp [xj]
 | n+1,m+1,x,h1,h2=>by
  simp only [xj];by_cases h:x=0
  ·rw [aP h,aP h]
  ·have:=Nat.div_lt_self (bV h) (show 1<B by decide);rw [aO h,aO h,Jp n m (x/B) (by omega) (by omega)]
theorem zH:canon 0=[]:=rfl
theorem qQ{x:Nat}(h:x≠0):canon x=x%B::canon (x/B):=by
 have:=Nat.div_lt_self (bV h) (show 1<B by decide);obtain⟨n,rfl⟩:∃ n,x=n+1:=⟨x - 1,by omega⟩;unfold canon;rw [xj,aO h,Jp n ((n+1)/B) _ (by omega) (aJ _)]
theorem zm(x:Nat):val (canon x)=x:=by
 induction x using Nat.strongRecOn with
 | _ x ih=>
  by_cases h:x=0
  ·subst h; simp [zH,val]
  ·rw [qQ h,val,ih _ (Nat.div_lt_self (bV h) (by decide))];exact Nat.mod_add_div x B
theorem zj(x:Nat):dig (canon x):=by
 induction x using Nat.strongRecOn with
 | _ x ih=>
  by_cases h:x=0
  ·subst h; simp [zH,dig]
  ·rw [qQ h];intro d hd;rcases aM.1 hd with rfl | hd
   ·exact Nat.mod_lt _ (by decide)
   ·exact ih _ (Nat.div_lt_self (bV h) (by decide)) d hd
theorem qC{d:Nat}{l:List Nat} : dig (d::l)↔d<B/\dig l:=by simp [dig]
theorem ji{l m:List Nat} : dig (l++m)↔dig l/\dig m:=by
 simp only [dig,bY];exact⟨λh=>⟨λd hd=>h d (.inl hd),λd hd=>h d (.inr hd)⟩,λh d hd=>hd.elim (h.1 d) (h.2 d)⟩
theorem zG(l m:List Nat):val (l++m)=val l+B^l.length*val m:=by
 induction l with
 | nil=>simp [val]
 | cons d l ih=>simp only [List.cons_append,val,ih,aL,Nat.pow_succ]; rw [bN,<- bI,bJ B (B^l.length),Nat.add_assoc]
theorem qu{l:List Nat}(h:dig l):val l<B^l.length:=by
 induction l with
 | nil=>simp [val]
 | cons d l ih=>
  obtain⟨h1,h2⟩:=qC.1 h;have:=ih h2;simp only [val,aL,Nat.pow_succ];have h3:B*(val l+1)<=B*B^l.length:=aS _ this;rw [bN] at h3;rw [bJ (B^l.length)];omega
def tlen:List Nat->Nat
 | []=>0
 | d::l=>if d=0/\tlen l=0 then 0 else tlen l+1
def qF(l:List Nat):List Nat:=l.take (tlen l)
theorem qp:∀ l:List Nat,tlen l<=l.length
 | []=>aJ _
 | d::l=>by
  have:=qp l;simp only [tlen,aL];split<;>omega
theorem jE:∀ (l:List Nat) (j:Nat),tlen l<=j->l.getD j 0=0
 | [],j,_=>by simp
 | d::l,j,h=>by
  simp only [tlen] at h;split at h
  ·rename_i hd;cases j with
   | zero=>simp [hd.1]
   | succ j=>simpa using jE l j (by omega)
  ·cases j with
   | zero=>omega
   | succ j=>simpa using jE l j (by omega)
theorem q9:∀ l:List Nat,0<tlen l->l.getD (tlen l - 1) 0≠0
 | [],h=>by simp [tlen] at h
 | d::l,h=>by
  simp only [tlen] at h ⊢;split at h
  ·omega
  ·rename_i hd;rw [aO hd];rcases bC (tlen l) with h0 | h0
   ·rw [h0];simp only [h0,and_true] at hd;simpa using hd
   ·have:=q9 l h0;rw [show tlen l+1 - 1=(tlen l - 1)+1 by omega];simpa using this
theorem val_zero{l:List Nat}(h:tlen l=0):val l=0:=by
 induction l with
 | nil=>rfl
 | cons d l ih=>
  simp only [tlen] at h;split at h
  ·rename_i hd; simp [val,hd.1,ih hd.2]
  ·omega
theorem ZJ{l:List Nat}(h:0<tlen l):0<val l:=by
 induction l with
 | nil=>simp [tlen] at h
 | cons d l ih=>
  simp only [tlen] at h;split at h
  ·omega
  ·rename_i hd;simp only [val];rcases bC (tlen l) with h0 | h0
   ·simp only [h0,and_true] at hd; omega
   ·have:=ih h0;have:0<B*val l:=Nat.mul_pos (by decide) this;omega
theorem zO{l:List Nat}(h:dig l):qF l=canon (val l):=by
 induction l with
 | nil=>simp [qF,tlen,val,zH]
 | cons d l ih=>
  obtain⟨h1,h2⟩:=qC.1 h;have ih:=ih h2;simp only [qF] at ih ⊢;by_cases hz:d=0/\tlen l=0
  ·have:=val_zero hz.2;simp [tlen,hz,val,this,zH]
  ·have hne:d+B*val l≠0:=by
    rcases bC (tlen l) with h0 | h0
    ·simp only [h0,and_true] at hz; omega
    ·have:=Nat.mul_pos (show 0<B by decide) (ZJ h0);omega
   simp only [val,tlen,aO hz,List.take_succ_cons];rw [qQ hne,ih];have e1:(d+B*val l)%B=d:=by rw [Nat.add_mul_mod_self_left,Nat.mod_eq_of_lt h1]
   have e2:(d+B*val l)/B=val l:=by rw [Nat.add_mul_div_left _ _ (by decide),Nat.div_eq_of_lt h1,Nat.zero_add]
   rw [e1,e2]
theorem jd(x:Nat):tlen (canon x)=(canon x).length:=by
 have:=zO (zj x);rw [zm] at this;have h:=congrArg List.length this;simp only [qF,aH] at h;have:=qp (canon x);omega
theorem JF{l:List Nat}(h:dig l)(ht:tlen l=l.length):canon (val l)=l:=by
 rw [<- zO h,qF,ht,bD]
theorem ZF:∀ {l m:List Nat},dig l->dig m->l.length=m.length->val l=val m->l=m
 | [],[],_,_,_,_=>rfl
 | [],_::_,_,_,h,_=>by simp at h
 | _::_,[],_,_,h,_=>by simp at h
 | d::l,e::m,h1,h2,h3,h4=>by
  obtain⟨a1,a2⟩:=qC.1 h1;obtain⟨b1,b2⟩:=qC.1 h2;simp only [val] at h4
  have e1:d=e:=by
   have:=congrArg (· % B) h4;simpa only [Nat.add_mul_mod_self_left,Nat.mod_eq_of_lt a1,Nat.mod_eq_of_lt b1] using this
  subst e1;have e2:val l=val m:=Nat.eq_of_mul_eq_mul_left (show 0<B by decide) (by omega);rw [ZF a2 b2 (by simpa using h3) e2]
theorem uF{i:Nat} : ∀ {l m:List Nat},dig l->l.length=m.length->(∀ j,i<j->l.getD j 0=m.getD j 0)->l.getD i 0<m.getD i 0->val l<val m:=by
 induction i with
 | zero=>
  intro l m h1 h3 h4 h5;cases l with
  | nil=>cases m with
   | nil=>simp at h5
   | cons _ _=>simp at h3
  | cons d l=>cases m with
   | nil=>simp at h3
   | cons e m=>
    simp only [List.getD_cons_zero] at h5
    have:l=m:=by
     apply List.ext_getElem (by simpa using h3);intro j hj hj';have:=h4 (j+1) (by omega);simpa [hj,hj'] using this
    subst this;simp only [val]; omega
 | succ i ih=>
  intro l m h1 h3 h4 h5;cases l with
  | nil=>cases m with
   | nil=>simp at h5
   | cons _ _=>simp at h3
  | cons d l=>cases m with
   | nil=>simp at h3
   | cons e m=>
    simp only [List.getD_cons_succ] at h5;obtain⟨a1,a2⟩:=qC.1 h1;have:=ih a2 (by simpa using h3) (λj hj=>by simpa using h4 (j+1) (by omega)) h5;simp only [val];have h6:B*(val l+1)<=B*val m:=aS _ this;rw [bN] at h6;omega
theorem zZ{x y:Nat}(h:(canon x).length<(canon y).length):x<y:=by
 have h1:=qu (zj x);rw [zm] at h1
 have h2:B^((canon y).length - 1)<=y:=by
  have hl:=jd y;have hpos:0<tlen (canon y):=by omega
  have:=q9 (canon y) hpos;rw [hl] at this;generalize hc:canon y=l at *
  have hy:val l=y:=by rw [<- hc,zm]
  have hsplit:l=l.take (l.length - 1)++[l.getD (l.length - 1) 0]:=by
   have hlt:l.length - 1<l.length:=by omega
   rw [show l.getD (l.length - 1) 0=l[l.length - 1] by simp [List.getD,hlt]];have:=List.take_append_getElem hlt;rw [this,show l.length - 1+1=l.length by omega,bD]
  rw [<- hy]
  conv=>rhs; rw [hsplit]
  rw [zG];simp only [val,aH,Nat.mul_zero,Nat.add_zero];rw [show min (l.length - 1) l.length=l.length - 1 by omega];have:B^(l.length - 1)*1<=B^(l.length - 1)*l.getD (l.length - 1) 0:=aS _ (bV this);omega
 have h3:B^(canon x).length<=B^((canon y).length - 1):=bW (by decide) (by omega);omega
theorem zq:∀ (l:List Nat) (i:Nat),val (l.take (i+1))=val (l.take i)+B^i*l.getD i 0
 | [],i=>by simp [val]
 | d::l,0=>by simp [val]
 | d::l,i+1=>by
  have:=zq l i;simp only [List.take_succ_cons,val,this,List.getD_cons_succ,Nat.pow_succ];rw [bN,Nat.add_assoc,<- bI,bJ B (B^i)]
theorem zL{l:List Nat}(h:dig l)(i:Nat):l.getD i 0<B:=by
 by_cases hi:i<l.length
 ·have:=h l[i] (bK hi);simpa [List.getD,hi] using this
 ·simp [List.getD,aZ (Nat.le_of_not_lt hi)]
theorem uc:∀ (l:List Nat) (p d:Nat),p<l.length->val (l.set p d)+B^p*l.getD p 0=val l+B^p*d
 | [],p,d,h=>by simp at h
 | e::l,0,d,_=>by simp only [List.set_cons_zero,val,List.getD_cons_zero,Nat.pow_zero]; omega
 | e::l,p+1,d,h=>by
  have:=uc l p d (by simpa using h);have h2:=congrArg (B * ·) this;simp only [bN,<- bI] at h2;simp only [List.set_cons_succ,val,List.getD_cons_succ,Nat.pow_succ,bJ (B^p) B];omega
theorem Zn{l:List Nat}(h:dig l)(p:Nat){d:Nat}(hd:d<B):dig (l.set p d):=by
 intro e he;rcases List.mem_or_eq_of_mem_set he with he | rfl
 ·exact h e he
 ·exact hd
theorem j3{l:List Nat}(h:dig l)(n:Nat):dig (l.take n):=λe he=>h e (List.mem_of_mem_take he)
theorem ZH{l:List Nat}(h:dig l)(n:Nat):dig (l.drop n):=λe he=>h e (List.mem_of_mem_drop he)
theorem ZU{l:List Nat}{n:Nat}(hv:val l<B^n){p:Nat}(hp:n<=p):l.getD p 0=0:=by
 rcases bC (l.getD p 0) with h | h
 ·exact h
 exfalso;have h1:=zq l p;have h2:val l=val (l.take (p+1))+B^(l.take (p+1)).length*val (l.drop (p+1)):=by rw [<- zG,bU]
 have h3:B^p*1<=B^p*l.getD p 0:=aS _ h;have h4:B^n<=B^p:=bW (by decide) hp;omega
def padN(n x:Nat):List Nat:=canon x++List.replicate (n - (canon x).length) 0
theorem j4(n:Nat):val (List.replicate n 0)=0:=by
 induction n with
 | zero=>rfl
 | succ n ih=>simp [List.replicate_succ,val,ih]
theorem qT(n:Nat):dig (List.replicate n 0):=by
 intro d hd;rw [List.mem_replicate] at hd;rw [hd.2]; decide
theorem X8{l:List Nat}(h:dig l):l=padN l.length (val l):=by
 have ht:=zO h;have hl:=congrArg List.length ht;have:=qp l;simp only [qF,aH] at hl;refine ZF h (ji.2 ⟨zj _,qT _⟩) ?_ ?_
 ·simp only [padN,bO,List.length_replicate]; omega
 ·rw [padN,zG,zm,j4]; omega
theorem VH{l:List Nat}(h:dig l):tlen l=(canon (val l)).length:=by
 have hl:=congrArg List.length (zO h);have:=qp l;simp only [qF,aH] at hl;omega
end Go.Nov.Ten
end
section
namespace Go.Nov
theorem yN(s:ByteArray)(a b:Nat):(s.extract a b).data.toList=(s.data.toList.take b).drop a:=by
 rw [ByteArray.data_extract,Array.toList_extract];show List.extract s.data.toList a b=_;rw [List.extract_eq_drop_take',List.drop_take]
theorem yh{α:Type}{l m:List α}{p:Nat}{z:α}(h:p<l.length):(l++m).getD p z=l.getD p z:=by
 simp only [List.getD]; rw [bL h]
theorem Qa{α:Type}{l m:List α}{p:Nat}{z:α}(h:l.length<=p):(l++m).getD p z=m.getD (p - l.length) z:=by
 simp only [List.getD]; rw [List.getElem?_append_right h]
theorem UC{α β:Type}{f:α->β}{l:List α}{p:Nat}{z:α}{y:β}(h:p<l.length):(l.map f).getD p y=f (l.getD p z):=by
 simp [List.getD,h]
theorem zf1{α:Type}{n p:Nat}{a z:α}(h:p<n):(List.replicate n a).getD p z=a:=by
 simp [List.getD,h]
theorem zba{α:Type}{l:List α}{p:Nat}{z:α}(h:l.length<=p):l.getD p z=z:=by
 simp [List.getD,aZ h]
theorem YZ{α:Type}{l:List α}{n p:Nat}{z:α}(h:p<n):(l.take n).getD p z=l.getD p z:=by
 simp only [List.getD,bR,aP h]
def decs:Nat->Nat->List Nat
 | 0,_=>[]
 | k+1,x=>x%10::decs k (x/10)
theorem yY:∀ k x,(decs k x).length=k
 | 0,_=>rfl
 | k+1,x=>by simp [decs,yY k]
theorem Vu:∀ k x,Ten.dig (decs k x)
 | 0,_=>by simp [decs,Ten.dig]
 | k+1,x=>Ten.qC.2 ⟨Nat.mod_lt _ (by decide),Vu k _⟩
theorem Ki:∀ k x,x<10^k->Ten.val (decs k x)=x
 | 0,x,h=>by simp [decs,Ten.val] at h ⊢; omega
 | k+1,x,h=>by
  simp only [decs,Ten.val];rw [Ki k (x/10) (Nat.div_lt_of_lt_mul (by rw [Nat.pow_succ,bJ] at h; exact h))];exact Nat.mod_add_div x 10
theorem uV:∀ (a b v w:Nat),v<10^a->decs (a+b) (v+10^a*w)=decs a v++decs b w
 | 0,b,v,w,h=>by simp at h; subst h; simp [decs]
 | a+1,b,v,w,h=>by
  rw [show a+1+b=(a+b)+1 by omega];simp only [decs,List.cons_append];have e1:10^(a+1)*w=10*(10^a*w):=by rw [Nat.pow_succ,bJ (10^a) 10,bI]
  have h2:v/10<10^a:=Nat.div_lt_of_lt_mul (by rw [Nat.pow_succ,bJ] at h; exact h);rw [e1,Nat.add_mul_mod_self_left,Nat.add_mul_div_left _ _ (by decide),uV a b (v/10) w h2]
theorem Jo:∀ (k x:Nat),decs (k+1) x=decs k x++[x/10^k%10]
 | 0,x=>by simp [decs]
 | k+1,x=>by
  rw [decs,Jo k (x/10),decs,List.cons_append];congr 3;rw [Nat.div_div_eq_div_mul,Nat.pow_succ,bJ]
theorem zcz{k x:Nat}(h:x<10^k):decs k x=Ten.padN k x:=by
 have:=Ten.X8 (Vu k x)
 rwa [yY,Ki k x h] at this
def dec(x:Nat):List Nat:=Ten.canon x
def byt(d:Nat):UInt8:=UInt8.ofNat (48+d)
theorem Zv{k x:Nat}(h:x<10^k):(dec x).length<=k:=by
 rcases aR k (dec x).length with h1 | h1
 ·exfalso;have hl:=Ten.jd x;have htop:=Ten.q9 (Ten.canon x) (by simp only [dec] at h1; omega);rw [hl] at htop;have h4:=Ten.zq (Ten.canon x) ((Ten.canon x).length - 1);simp only [dec] at h1;rw [Nat.sub_add_cancel (by omega),bD,Ten.zm] at h4;have h5:10^k<=10^((Ten.canon x).length - 1):=bW (by decide) (by omega);have h6:10^((Ten.canon x).length - 1)*1<=10^((Ten.canon x).length - 1)*(Ten.canon x).getD ((Ten.canon x).length - 1) 0:=aS _ (by omega);have h7:x=Ten.val ((Ten.canon x).take ((Ten.canon x).length - 1))+10^((Ten.canon x).length - 1)*(Ten.canon x).getD ((Ten.canon x).length - 1) 0:=h4;omega
 ·exact h1
theorem Ui{x:Nat}(h:0<(dec x).length):(dec x).getD ((dec x).length - 1) 0≠0:=by
 have hl:=Ten.jd x;have htop:=Ten.q9 (Ten.canon x) (by simp only [dec] at h; omega)
 rwa [hl] at htop
theorem WJ{x:Nat}(h:x≠0):0<(dec x).length:=by
 simp only [dec]; rw [Ten.qQ h]; simp
theorem dec_lt(x i:Nat):(dec x).getD i 0<10:=Ten.zL (Ten.zj x) i
def txt(x:Nat):L8:=if x=0 then [48] else((dec x).map byt).reverse
def parse:L8->Bool×L8
 | []=>(false,[])
 | c::b=>if c=45 then(true,b) else(false,c::b)
def sgn(neg:Bool)(b:L8):L8:=if neg then 45::b else b
theorem UR(s:L8):sgn (parse s).1 (parse s).2=s:=by
 cases s with
 | nil=>rfl
 | cons c b=>
  simp only [parse];split
  ·rename_i h; subst h; rfl
  ·rfl
def wa(neg:Bool)(b:L8):Bool:= !(decide (b=[])) && !(neg&&decide (b=[48])) && !(decide (b.getD 0 0=48)&&decide (1<b.length))&&b.all isD
def errI(s:L8):Int:=if wa (parse s).1 (parse s).2 then(if 1000<(parse s).2.length then 14 else 0) else 12
theorem Uk{b:L8} : b.all isD=true↔allD b:=by
 simp only [bG,allD,isD,bA,aK]
theorem WT{neg:Bool}{b:L8}(h:wa neg b=true):allD b/\b≠[]:=by
 simp only [wa,bA,Bool.not_eq_true',aV] at h;exact⟨Uk.1 h.2,h.1.1.1⟩
theorem kB{neg:Bool}{b:L8}(h:b.getD 0 0=48)(hl:1<b.length):wa neg b=false:=by
 have e:(decide (b.getD 0 0=48)&&decide (1<b.length))=true:=by rw [h]; simp [hl]
 unfold wa;rw [e];simp
theorem Km{c d:UInt8}(h:(c.toNat:Int)=(d.toNat:Int)):c=d:=UInt8.toNat_inj.1 (by omega)
theorem WE{s:L8}(h:errI s=0):∃ neg b,s=sgn neg b/\parse s=(neg,b)/\wa neg b=true/\allD b/\b≠[]/\b.length<=1000:=by
 unfold errI at h;split at h
 ·rename_i hf;split at h
  ·cases h
  ·rename_i hl;obtain⟨h1,h2⟩:=WT hf;exact⟨_,_,(UR s).symm,rfl,hf,h1,h2,by omega⟩
 ·cases h
theorem kG(s:L8):errI s=0\/errI s=12\/errI s=14:=by
 unfold errI;split
 ·split<;>simp
 ·simp
def negI(s:L8):Bool:=(parse s).1
def numI(s:L8):Nat:=numD (parse s).2
theorem Z9{s:L8}(h:errI s=0):s=sgn (negI s) (parse s).2/\allD (parse s).2/\(parse s).2≠[]/\(parse s).2.length<=1000:=by
 obtain⟨neg,b,h1,h2,h3,h4,h5,h6⟩:=WE h;simp only [negI,h2];exact⟨h1,h4,h5,h6⟩
theorem Xs{a b c k:Nat}(h:k=b*c):(a^b)^c=a^k:=by rw [h,Nat.pow_mul]
theorem yg{s:L8}(h:errI s=0):(canon (numI s)).length<=112:=by
 obtain⟨_,h1,_,h2⟩:=Z9 h;refine zy ?_;have h3:=y4 h1;obtain⟨k,hk⟩:∃ k,k=9*112:=⟨_,rfl⟩;have h4:10^(parse s).2.length<=10^k:=bW (by decide) (by omega);have h5:B^112=10^k:=by rw [show B=10^9 by decide]; exact Xs hk
 rw [h5];exact bB h3 h4
def zu(s t:L8):Int:=if errI s=0 then errI t else errI s
theorem zl{s t:L8} : zu s t=0↔errI s=0/\errI t=0:=by
 unfold zu;split
 ·rename_i h; simp [h]
 ·rename_i h; simp [h]
def wr(neg:Bool)(x:Nat):L8×Int:=if x=0 then([48],0) else if 1000<(dec x).length then([],14) else(sgn neg (txt x),0)
def gcdR(s t:L8):L8×Int:=if zu s t=0 then wr false (Nat.gcd (numI s) (numI t)) else([],zu s t)
def dg(b:L8):List Nat:=(b.map λc=>c.toNat - 48).reverse
theorem XQ(b:L8):(dg b).length=b.length:=by simp [dg]
theorem zja{b:L8}(h:allD b):Ten.dig (dg b):=by
 intro d hd;simp only [dg,List.mem_reverse,List.mem_map] at hd;obtain⟨c,hc,rfl⟩:=hd;have:=h c hc;show c.toNat - 48<10;omega
theorem XA:∀ b:L8,Ten.val (dg b)=numD b
 | []=>rfl
 | c::b=>by
  have e:dg (c::b)=dg b++[c.toNat - 48]:=by simp [dg]
  rw [e,Ten.zG,XA b,XQ,show c::b=[c]++b from rfl,vM];simp only [Ten.val,numD,List.foldl_cons,List.foldl_nil];rw [bJ]; simp [Nat.add_comm]
def cmpN(x y:Nat):Int:=if x<y then -1 else if y<x then 1 else 0
def zE(s:L8):Nat:=s.findIdx (· == 47)
def cutR(s:L8):L8×L8×Bool:=if zE s<s.length then(s.take (zE s),s.drop (zE s+1),true) else(s,[],false)
theorem J8(s:L8):zE s<=s.length:=List.findIdx_le_length
theorem ZP{s:L8}(h:zE s<s.length):s.getD (zE s) 0=47:=by
 have:=List.findIdx_getElem (w:=h);simp only [List.getD,aF h,Option.getD_some];exact beq_iff_eq.1 this
theorem Wc{s:L8}{j:Nat}(h:j<zE s):s.getD j 0≠47:=by
 have hl:j<s.length:=bB h (J8 s);have:=List.not_of_lt_findIdx h;simp only [List.getD,aF hl,Option.getD_some];simpa using this
theorem zbj{s:L8}{i:Nat}(hi:i<s.length)(h:s.getD i 0=47)(hb:∀ j,j<i->s.getD j 0≠47):zE s=i:=by
 rcases Nat.lt_trichotomy (zE s) i with h1 | h1 | h1
 ·exact absurd (ZP (Nat.lt_trans h1 hi)) (hb _ h1)
 ·exact h1
 ·exact absurd h (Wc h1)
theorem X9{s:L8}(hb:∀ j,j<s.length->s.getD j 0≠47):zE s=s.length:=by
 rcases aR (zE s) s.length with h | h
 ·exact absurd (ZP h) (hb _ h)
 ·exact Nat.le_antisymm (J8 s) h
def errR(s:L8):Int:=
 if(cutR s).2.2 then
  if errI (cutR s).1=12\/errI (cutR s).2.1=12\/negI (cutR s).2.1=true\/(cutR s).2.1=[48]\/(cutR s).2.1=[49] then 12
  else if errI (cutR s).1≠0\/errI (cutR s).2.1≠0 then 14
  else if(gcdR (cutR s).1 (cutR s).2.1).1≠[49] then 12 else 0
 else errI s
theorem zbb{s:L8}(h:¬ zE s<s.length):cutR s=(s,[],false):=aO h
theorem Yo{s:L8}(h:zE s<s.length):cutR s=(s.take (zE s),s.drop (zE s+1),true):=aP h
theorem WG(s:L8):(cutR s).1.length<=s.length/\(cutR s).2.1.length<=s.length:=by
 unfold cutR;split<;>simp<;>omega
theorem Ju{s:L8}(h:s≠[]):negI s=decide (s.getD 0 0=45):=by
 cases s with
 | nil=>exact absurd rfl h
 | cons c b=>
  simp only [negI,parse];split
  ·rename_i hc; subst hc; rfl
  ·rename_i hc; simp [hc]
theorem KA:errI []=12:=rfl
def isL(c:UInt8):Bool:=(97<=c.toNat&&c.toNat<=122)||(65<=c.toNat&&c.toNat<=90)
def isN(c:UInt8):Bool:=isL c||isD c||c == 95||c == 45
def jb(s:L8):Bool:=decide (0<s.length)&&decide (s.length<=40)&&isL (s.getD 0 0)&&s.all isN
theorem zfm{p:UInt8->Bool}{s:L8}(h:∀ j,j<s.length->p (s.getD j 0)=true):s.all p=true:=by
 rw [bG];intro c hc;obtain⟨j,hj,rfl⟩:=List.getElem_of_mem hc;have:=h j hj;simpa [List.getD,hj] using this
theorem WW{p:UInt8->Bool}{s:L8}{j:Nat}(hj:j<s.length)(h:p (s.getD j 0)=false):s.all p=false:=by
 rw [List.all_eq_false];refine⟨s.getD j 0,by simp [List.getD,hj],by simpa using h⟩
def dayB(d:Int):Bool:=decide (0<=d)&&decide (d<=99999)
end Go.Nov
end
section
namespace Go.Sx
variable [Stat]
open Go.RowKit (Below)
def alive:Blk->Prop
 | .box _=>True
 | .arr n _ _=>0<n
 | .dead=>False
 | .arrI _ n _=>0<n
 | .arrS n _=>0<n
 | .map _ _ _ _ _=>False
theorem Vl{h:Heap}(hl:∀ b∈h,alive b):∀ b∈h,Wq b=false:=by
 intro b hb;have:=hl b hb;cases b<;>first | rfl | exact this.elim
section
variable {O:Nat->Prop} {pin:Nat} {w0:World} {I0:List SE} {w:World} {σ:List SE} {P:Program} {a:Act} {fn:Func}
theorem Qt{h:Heap}{own:Nat->Prop}(hp:HRep own w σ h)(hl:∀ b∈h,alive b){b:Nat}(hb:Mine σ b):∃ cs el fr,w.heap[b]?=some (Obj.cells cs el fr):=by
 obtain⟨i,e,ad,h1,h2,h3⟩:=zw.1 hb;have hi:i<h.length:=by rw [<- hp.len]; exact(aG.1 h1).1
 have hbr:=hp.blk i e _ h1 (aF hi);have ha:=hl _ (bK hi);generalize h[i]=bl at hbr ha;subst h3;cases bl with
 | dead=>exact ha.elim
 | box cells=>
  obtain⟨ad',vs,el,g1,_,g3,_⟩:=hbr;rw [h2] at g1; cases g1;exact⟨_,_,_,g3⟩
 | arr n sz g=>
  obtain⟨_,g⟩:=hbr;rcases g with g | ⟨ad',cs,el,g1,g2,_⟩
  ·simp only [alive] at ha; omega
  ·rw [h2] at g1; cases g1;exact⟨_,_,_,g2⟩
 | arrI _ n _=>
  obtain⟨_,g⟩:=hbr;rcases g with g | ⟨ad',cs,el,g1,g2,_⟩
  ·simp only [alive] at ha; omega
  ·rw [h2] at g1; cases g1;exact⟨_,_,_,g2⟩
 | arrS n _=>
  obtain⟨_,g⟩:=hbr;rcases g with g | ⟨ad',cs,el,g1,g2,_⟩
  ·simp only [alive] at ha; omega
  ·rw [h2] at g1; cases g1;exact⟨_,_,_,g2⟩
 | map _ _ _ _ _=>exact ha.elim
theorem XE{c:Code}{Q:Exit->Act->World->Prop}(n m:Nat)(h:c.wpIn (FM none) n P Q a w):c.wpIn (FM none) m P Q a w:=by
 simp only [FM] at h ⊢;exact wpIn_wide.2 (wpIn_wide.1 h)
def zet(c:Code)(tg tp td:Nat):Bool:=match c with
 | .rangeFunc (.tmp g) ps (.region _ ops false) _=>decide (g=tg)&&decide (ps.toList=[tp])&&match ops.toList with
  | [o]=>decide (o.dst=some td)&&o.guard.isNone&&match o.op with
   | .assign (.tmp t)=>decide (t=tp)
   | _=>false
  | _=>false
 | _=>false
theorem Yh{c:Code}{tg tp td:Nat}(h:zet c tg tp td=true):∃ id o,c = .rangeFunc (.tmp tg) #[tp] (.region id #[o] false) (Wf c)/\o.dst=some td/\o.guard=none/\o.op = .assign (.tmp tp):=by
 unfold zet at h;split at h
 ·rename_i g ps id ops body;simp only [bA,aK] at h;obtain⟨⟨rfl,h2⟩,h3⟩:=h;split at h3
  ·rename_i o ho;simp only [bA,aK,Option.isNone_iff_eq_none] at h3;obtain⟨⟨h4,h5⟩,h6⟩:=h3;split at h6
   ·rename_i t ht;simp only [aK] at h6;subst h6;refine⟨id,o,?_,h4,h5,ht⟩;have e1:ps = #[t]:=by rw [<- Array.toList_inj]; exact h2
    have e2:ops = #[o]:=by rw [<- Array.toList_inj]; exact ho
    rw [e1,e2]; rfl
   ·cases h6
  ·cases h3
 ·cases h
theorem Yb{M:Option Nat}{td tp id:Nat}{o:Oper}(hd:o.dst=some td)(hgd:o.guard=none)(hop:o.op = .assign (.tmp tp)){K:Act->World->Prop}{Qe:Exit->Act->World->Prop}(h:K { a with tmps:=a.tmps.setIfInBounds td (a.tmps.getD tp undef) } w) :
  (Code.region id #[o] false).wpIn (FM M) 0 P (Exit.then K Qe) a w:=by
 refine wpIn_region_list ?_;simp only [Array.toList];refine wpListIn_step λK' hK'=> ?_
 rw [aP (by simp [Region.wanted,hgd])];refine ZV (by simp [hop]) ?_;unfold Oper.wp
 have:(execOp a.eval o).run P w = .ok (.value (a.eval (.tmp tp))) w:=by
  simp [execOp,hop]
 rw [this];have e:a.put o.dst (a.eval (.tmp tp))={ a with tmps:=a.tmps.setIfInBounds td (a.tmps.getD tp undef) } :=by rw [hd]; rfl
 show K' (a.put o.dst (a.eval (.tmp tp))) w;rw [e];exact hK' _ _ h
theorem vK.le{pin pinR:Nat}{w':World}{Z':List SE}(h:vK pinR w σ w' Z')(hp:pin<=pinR):vK pin w σ w' Z':=λi e hi he=>h i e (bB hi hp) he
theorem vK.hold{pinR:Nat}{w':World}{Z':List SE}(h:vK pinR w σ w' Z'):Hold (List.range' pinR σ.length) w σ w' Z':=by
 intro i e he hi;have hlt:=(aG.1 he).1;refine h i e ?_ he;rcases aR i pinR with h1 | h1
 ·exact h1
 ·exact absurd (List.mem_range'_1.2 ⟨h1,by omega⟩) hi
theorem zb.range{α:Type}{Hs:Nat->KV->Heap->Prop}{R:List AV->Heap->Prop}{k:List Item}{c:Code}{kv:KV}{h:Heap}{tg tp td gf:Nat}{cap:List AV}(hc:zet c tg tp td=true)
  (he:∀ args w,(callFunc gf args).run P w = .ok (.enter gf args) w) (av:α->AV) (H Hx:List α->Heap) (X S Sp:List α->Prop) (N pinR:Nat)
  (hg:look kv tg = .fn gf [] cap) (htg:tg<fn.ntmps) (htp:tp<fn.ntmps) (hno:∀ x t b y,av x≠.opt t b y) (hle:LeK pin fn.ntmps kv h kv (H [])) (hlow:(pk fn.ntmps kv).all (lowB pinR)=true) (hpin:pin<=pinR) (halive:∀ pre,∀ b∈H pre,alive b) (halivex:∀ pre,∀ b∈Hx pre,alive b)
  (iter:∀ w σ a,Mod O pin w0 I0 w σ (mk fn.ntmps kv (H [])) a->∀ vb,RepL (Own O σ) w cap σ vb->∃ (Keep:World->Prop) (ev:α->Value),SeqStopsK Fence.wide 0 P gf vb.toArray (λx=> #[ev x]) (λW W'=>Keep W->Keep W') S Sp N w /\
   (∀ pre W Z',Mod O pin w0 I0 W Z' (mk fn.ntmps kv (H pre)) a->Keep W/\∀ x,Rep (Own O Z') W (av x) Z' (ev x)) /\
   (∀ W l o o',w.heap.size<=l->W.heap[l]?=some o->o.isCells=false->Keep W->Keep (W.putObj l o')))
  (round:∀ l pre x,pre.length<N->∀ (W:World) (E1:List SE),jP (some l) P (bare fn) O pinR W E1 (λd kv' h'=>LeK pinR fn.ntmps [] h' [] (H (pre++[x]))) (λ_ h'=>X (pre++[x])/\LeK pinR fn.ntmps [] h' [] (Hx (pre++[x]))) [.code (Wf c),.inLoop] (mk fn.ntmps ((td,av x)::(tp,av x)::kv) (H pre)))
  (done:∀ xs,S xs->zb P fn O pin w0 I0 Hs R k (mk fn.ntmps kv (H xs)))
  (stop:∀ pre,Sp pre->X pre->(resX P (mk fn.ntmps kv (Hx pre)) fn.results.toList).holds λrs=>R rs (Hx pre)) :
  zb P fn O pin w0 I0 Hs R (.code c::k) (mk fn.ntmps kv h):=by
 obtain⟨id,o,hco,hod,hog,hop⟩:=Yh hc;generalize Wf c=body at *
 subst hco;clear hc;intro w σ a hm0;have hm:=hle.le.mod hm0;clear hm0;generalize σ.take (mk fn.ntmps kv (H [])).heap.length=σ at hm;simp only [wpK];have hgt:=hm.tm tg;have hev:(mk fn.ntmps kv (H [])).tmps.getD tg .undef = .fn gf [] cap:=by simp only [mk]; rw [x3 htg]; exact hg
 rw [hev] at hgt;simp only [TRep,Rep] at hgt;obtain⟨va,vb,hval,hva,hvb⟩:=hgt;have hva:va=[]:=by simpa [RepL] using hva
 subst hva;obtain⟨Keep,ev,hseq,hkeep,hstab⟩:=iter w σ a hm vb hvb
 have hB:∀ d∈a.defers,∃ D,d={ target:=.collected D,args:= #[] } /\ D<w.heap.size:=by
  intro d hd;obtain⟨D,h1,_,_,h4⟩:=hm.df.2 d hd;exact⟨D,h1,(aQ.1 h4).1⟩
 have hOB:∀ b,O b->b<w.heap.size:=hm.good.old;have hmarks:∀ (W:World) (Z':List SE),Mod O pin w0 I0 W Z' (mk fn.ntmps kv (H [])) a\/True:=λ_ _=>.inr trivial
 have turnI:∀ (Hh:List α->Heap),(∀ pre,∀ b∈Hh pre,alive b)->OwnFrom w.heap.size (λpre W=>∃ Z',Mod O pin w0 I0 W Z' (mk fn.ntmps kv (Hh pre)) a):=by
  intro Hh hal pre W W' row hI hgr hr;obtain⟨Z',hM⟩:=hI;refine⟨Z',?_⟩
  have:=hM.turn hgr (ds:=a.defers) (λr e=>⟨bP hm.since.ext.size (hr r e).1,(hr r e).2⟩) (.inl (Vl (hal pre))) (hM.df.turn hgr λr e hmem=>by
   obtain⟨D,h1,h2⟩:=hB _ hmem;have:=(hr r e).1;simp only [Deferred.mk.injEq,Target.collected.injEq,and_true] at h1;omega)
  exact this
 have push:∀ (D:Nat) (Hh:Heap) (W:World) (Z':List SE),(∀ b∈Hh,alive b)->w.heap.size<=D->W.heap[D]?=some (.deferred (some []))->Mod O pin w0 I0 W Z' (mk fn.ntmps kv Hh) a->Mod O pin w0 I0 W Z' (mk fn.ntmps kv Hh) { a with defers:={ target:=.collected D,args:= #[] } :: a.defers } :=by
  intro D Hh W Z' hal hD hWD hM;refine⟨hM.good,hM.hp,hM.size,hM.tm,⟨List.nodup_cons.2 ⟨λhmem=> ?_,hM.df.1⟩,λd hd=> ?_⟩,hM.since,hM.lim⟩
  ·obtain⟨D',h1,h2⟩:=hB _ hmem;simp only [Deferred.mk.injEq,Target.collected.injEq,and_true] at h1;omega
  ·rcases aM.1 hd with rfl | hd
   ·refine⟨D,rfl,bP hm.since.ext.size hD,?_,hWD⟩;rintro(hO | hM')
    ·have:=hOB D hO; omega
    ·obtain⟨cs,el,fr,hcs⟩:=Qt hM.hp hal hM';rw [hWD] at hcs; cases hcs
   ·exact hM.df.2 d hd
 refine XE 1 0 ?_
 refine wpIn_rangeFunc_ownG (F:=Fence.wide) rfl (aJ 1) (gf:=gf) (lb:=vb.toArray) (by simp only [Act.eval]; exact hval) trivial he (encs:=λx=> #[ev x]) (Kp:=λW W'=>Keep W->Keep W') (S:=S) (Sp:=Sp) (N:=N) (w0:=w) hseq
  (λh1 h2 h3=>h2 (h1 h3)) (λW l o o' h1 h2 h3 _ h4=>hstab W l o o' h1 h2 h3 h4) (Below.refl _ _) (λ_=>rfl)
  (λpre W=>∃ Z',Mod O pin w0 I0 W Z' (mk fn.ntmps kv (H pre)) a) (λc pre W=>c = .ret/\X pre/\∃ Z',Mod O pin w0 I0 W Z' (mk fn.ntmps kv (Hx pre)) a)
  (turnI H halive) (λc pre W W' row hI hgr hr=>⟨hI.1,hI.2.1,turnI Hx halivex pre W W' row hI.2.2 hgr hr⟩) ⟨σ,hm⟩
  (λx=>{ tmps:=(a.tmps.setIfInBounds tp (ev x)).setIfInBounds td ((a.tmps.setIfInBounds tp (ev x)).getD tp undef),defers:=[] }) ?_ ?_ ?_ ?_
 ·
  intro l x W K hK;refine Yb (M:=some l) hod hog hop ?_;simpa using hK
 ·
  rintro l pre x W ⟨E1,hM⟩ hlen;have hsz:a.tmps.size=fn.ntmps:=by rw [hM.size]; simp [mk,pk]
  have hM2:Mod O pinR W E1 W E1 (mk fn.ntmps ((td,av x)::(tp,av x)::kv) (H pre)) { tmps:=(a.tmps.setIfInBounds tp (ev x)).setIfInBounds td ((a.tmps.setIfInBounds tp (ev x)).getD tp undef),defers:=[] } :=by
   have hx:=(hkeep pre W E1 hM).2 x
   have hxT:∀ T,TRep (Own O E1) W E1 T (av x) (ev x):=by
    intro T;have:=hno x;generalize av x=y at hx this;cases y with
    | opt t b z=>exact absurd rfl (this t b z)
    | _=>simpa only [TRep] using hx
   refine⟨hM.good,hM.hp,by simp [mk,pk,hsz],λt=> ?_,Marks.nil _ _ _,Stp.refl _ _ _ _,hM.good.stat⟩;by_cases ht:t<fn.ntmps
   ·simp only [mk];rw [x3 ht];have htp':(a.tmps.setIfInBounds tp (ev x)).getD tp undef=ev x:=by simp [hsz,htp]
    rw [htp'];by_cases h1:td=t
    ·subst h1;simp only [look,if_true];have:((a.tmps.setIfInBounds tp (ev x)).setIfInBounds td (ev x)).getD td undef=ev x:=by simp [hsz,ht]
     rw [this]; exact hxT _
    ·have e1:((a.tmps.setIfInBounds tp (ev x)).setIfInBounds td (ev x)).getD t undef=(a.tmps.setIfInBounds tp (ev x)).getD t undef:=by
      simp only [bQ];rw [Array.getElem?_setIfInBounds_ne h1]
     rw [e1];by_cases h2:tp=t
     ·subst h2;simp only [look,aO h1,if_true];rw [htp']; exact hxT _
     ·simp only [look,aO h1,aO h2]
      have e2:(a.tmps.setIfInBounds tp (ev x)).getD t undef=a.tmps.getD t undef:=by
       simp only [bQ];rw [Array.getElem?_setIfInBounds_ne h2]
      rw [e2];have:=hM.tm t;simp only [mk] at this;rw [x3 ht] at this;have hl:lowB pinR (look kv t)=true:=bG.1 hlow (look kv t) (by simp only [pk,List.mem_map,List.mem_range]; exact⟨t,ht,rfl⟩);generalize look kv t=y at this hl;cases y with
      | opt u b z=>exact absurd rfl (xY hl u b z)
      | _=>simpa only [TRep] using this
   ·have:(mk fn.ntmps ((td,av x)::(tp,av x)::kv) (H pre)).tmps.getD t .undef = .undef:=by simp [mk,pk,List.getD,ht]
    rw [this]; simp [TRep,Rep]
  have hr:=round l pre x hlen W E1 W E1 _ hM2;simp only [wpK] at hr
  have fin:∀ (Hh:Heap) (st':St) (W':World) (τ:List SE) (a':Act),LeK pinR fn.ntmps [] st'.heap [] Hh->Mod O pinR W E1 W' τ st' a'->KeepsFrom w.heap.size W W'/\∃ Z',Mod O pin w0 I0 W' Z' (mk fn.ntmps kv Hh) a:=by
   intro Hh st' W' τ a' hL hM'
   have h1:Mod O pinR W E1 W' τ (mk fn.ntmps [] st'.heap) { tmps:=Array.replicate fn.ntmps undef,defers:=[] } :=by
    refine⟨hM'.good,hM'.hp,by simp [mk,pk],λt=> ?_,Marks.nil _ _ _,hM'.since,hM'.lim⟩
    have:(mk fn.ntmps [] st'.heap).tmps.getD t .undef = .undef:=by
     simp only [mk,pk,List.getD,aN];cases (List.range fn.ntmps)[t]?<;>simp [look]
    rw [this]; simp [TRep,Rep]
   have h2:=hL.le.mod h1;generalize τ.take (mk fn.ntmps [] Hh).heap.length=τ' at h2;have hx:=h2.since.ext;refine⟨⟨hx.size,λb o hb ho hoc=> ?_⟩,τ',?_⟩
   ·have hlt:=(aQ.1 ho).1;rw [<- ho];by_cases hO:O b
    ·exact h2.since.km b hO hlt
    ·refine hx.keep b hlt ?_;rintro(h3 | h3)
     ·exact hO h3
     ·obtain⟨cs,el,fr,hcs⟩:=Qt hM.hp (halive pre) h3;rw [ho] at hcs; cases hcs; simp [Obj.isCells] at hoc
   ·refine⟨h2.good,h2.hp,hM.size,λt=> ?_,hM.df.ext hx,hM.since.trans ⟨hx,h2.since.km,h2.since.hold.le hpin⟩,hM.lim⟩;have ht:=hM.tm t;by_cases htn:t<fn.ntmps
    ·simp only [mk] at ht ⊢;rw [x3 htn] at ht ⊢;have hl:lowB pinR (look kv t)=true:=bG.1 hlow (look kv t) (by simp only [pk,List.mem_map,List.mem_range]; exact⟨t,htn,rfl⟩);generalize look kv t=y at ht hl;cases y with
     | opt u b z=>exact absurd rfl (xY hl u b z)
     | _=>simp only [TRep] at ht ⊢; exact qi hx h2.since.hold.hold _ _ (QP hl) ht
    ·have:(mk fn.ntmps kv Hh).tmps.getD t .undef = .undef:=by simp [mk,pk,List.getD,htn]
     rw [this]; simp [TRep,Rep]
  refine wpIn_mono hr λe a' W' h=> ?_
  cases e with
  | normal=>
   simp only [wpK] at h;obtain⟨st,τ,⟨kv',h',hL,rfl⟩,hM'⟩:=h;obtain⟨h1,Z',h2⟩:=fin _ (mk fn.ntmps kv' h') _ _ _ hL hM';exact⟨h1,λ_=>(hkeep _ _ _ h2).1,Z',h2⟩
  | ret=>
   simp only [wpK] at h;rcases h with ⟨_,st,τ,⟨hX,hL⟩,hM'⟩ | ⟨_,_,h,_⟩
   rotate_left
   ·exact h.elim
   obtain⟨h1,Z',h2⟩:=fin _ st _ _ _ hL hM';exact⟨h1,rfl,hX,Z',h2⟩
  | exit i=>simp only [wpK] at h; exact absurd h (by simp)
  | goto t=>simp only [wpK] at h; exact absurd h (by simp)
  | panic ch=>simp only [wpK] at h; exact absurd h (by simp)
  | outgrown=>simp only [wpK] at h; exact absurd h (by simp)
 ·
  rintro D xs W hD hS ⟨E1,hM⟩ hWD;exact done xs hS W E1 _ (push D _ W E1 (halive xs) hD hWD hM)
 ·rintro D c pre W hD hSp ⟨rfl,hX,E1,hM⟩ hWD;refine wpIn_ret (yT (.inl ⟨.inl rfl,mk fn.ntmps kv (Hx pre),E1,stop pre hSp hX,push D _ W E1 (halivex pre) hD hWD hM⟩))
def JM(kv:KV)(t:Nat)(a:AV):KV:=kv.map λp=>if p.1=t then(t,a) else p
theorem zd7{kv:KV}{t:Nat}{a:AV} : ∀ u,look (JM kv t a) u=if u=t then(if(kv.any λp=>p.1 == t) then a else .undef) else look kv u:=by
 intro u
 induction kv with
 | nil=>simp [JM,look]
 | cons p l ih=>
  obtain⟨i,x⟩:=p;simp only [JM,List.map_cons,List.any_cons] at ih ⊢;by_cases hit:i=t
  ·subst hit;simp only [if_true,look,beq_self_eq_true,Bool.true_or];by_cases hu:i=u
   ·subst hu; simp
   ·rw [aO hu,aO (λh=>hu h.symm),ih,aO (λh=>hu h.symm),aO hu]
  ·have hb:(i == t)=false:=by simpa using hit
   simp only [aO hit,look,hb,Bool.false_or];by_cases hu:i=u
   ·subst hu; simp [hit]
   ·rw [aO hu,ih,aO hu]
theorem zb.bear{Xp:List PanicEntry->Prop}{M:Option Nat}{Hs:Nat->KV->Heap->Prop}{R:List AV->Heap->Prop}{k:List Item}{kv:KV}{h:Heap}(t sz:Nat)(g:Nat->Nat->AV)(hnil:look kv t = .nils)(ht:t<fn.ntmps)(hno:(pk fn.ntmps kv).all qn=true)
  (H:zS Xp M P fn O pin w0 I0 Hs R k (mk fn.ntmps (JM kv t (.osl h.length sz 0 0)) (h++[.arr 0 sz g]))):zS Xp M P fn O pin w0 I0 Hs R k (mk fn.ntmps kv h):=by
 refine Safe.bear t sz g (by simp only [mk]; rw [x3 ht]; exact hnil) hno ?_
 have e:wT (mk fn.ntmps kv h) t sz g=mk fn.ntmps (JM kv t (.osl h.length sz 0 0)) (h++[.arr 0 sz g]):=by
  simp only [wT,mk];congr 1;apply List.ext_getElem (by simp [pk]);intro u h1 h2;simp only [pk,List.getElem_map,List.getElem_range,List.getElem_set,zd7];by_cases hu:t=u
  ·subst hu;rw [aP rfl,aP rfl]
   have:kv.any (λp=>p.1 == t)=true:=by
    rcases Bool.eq_false_or_eq_true (kv.any λp=>p.1 == t) with hh | hh
    ·exact hh
    ·exfalso
     have:look kv t = .undef:=by
      clear hnil hno H ht h1 h2
      induction kv with
      | nil=>rfl
      | cons p l ih=>
       simp only [List.any_cons,Bool.or_eq_false_iff,beq_eq_false_iff_ne] at hh;simp only [look,aO hh.1];exact ih hh.2
     rw [hnil] at this; cases this
   rw [this]; rfl
  ·rw [aO hu,aO (λhh=>hu hh.symm)]
 rw [e];exact H
end
end Go.Sx
end
section
namespace Go.Sx
variable [Stat]
section
variable {O:Nat->Prop} {pin:Nat} {w0:World} {I0:List SE} {w:World} {σ:List SE} {P:Program} {st:St} {a:Act} {fn:Func} {Xp:List PanicEntry->Prop}
theorem KD(i:Nat){a:AV}(h:qn a=true):qn (zY i a)=true:=by
  cases a with
  | opt _ _ _=>cases h
  | _=>
    simp only [zY]
    try simp only [jm]
    repeat (first | rfl | split)
theorem kO:∀ (K:List Nat) {a:AV},qn a=true->qn (z7 K a)=true
  | [],_,h=>h
  | i::K,_,h=>kO K (KD i h)
theorem U3{h:Heap}{a a':AV}{k:List Nat}(hf:frz h a=some (a',k)):qn a'=true:=by
  cases a with
  | fn f x y=>cases x<;>cases y<;>simp [frz,frz1] at hf; obtain⟨rfl,_⟩:=hf; rfl
  | opt _ _ _=>simp [frz,frz1] at hf
  | osl i sz off n=>
    simp only [frz] at hf;obtain⟨_,_,_,_,rfl,_⟩:=Kl hf;rfl
  | _=>
    simp only [frz,frz1] at hf
    first
    | (simp only [aE,bE] at hf; obtain⟨rfl,_⟩:=hf; rfl)
    | (cases hf; done)
    | (split at hf
       · simp only [aE,bE] at hf; obtain⟨rfl,_⟩:=hf; rfl
       · cases hf)
theorem XH{K:List Nat}{h:Heap}{a:AV}(ha:qn a=true):qn (vH K h a)=true:=by
  unfold vH;split
  · rename_i a' k hf;cases k.all K.contains with
    | false=>exact kO K ha
    | true=>exact U3 hf
  · exact kO K ha
def VE(K:List Nat)(st:St):St:=⟨st.tmps.map (vH K st.heap),jc K (zx K st.heap)⟩
theorem zfw(hm:Mod O pin w0 I0 w σ st a){K:List Nat}(hK:∀ i∈K,pin<=i)(hno:st.tmps.all qn=true):Mod O pin w0 I0 w (frzS K σ) (VE K st) a:=by
  have hx:=jw (O:=O) K w σ;refine⟨xk K hm.good,kj hm.hp K,by simp [VE,hm.size],λt=> ?_,hm.df.ext hx,hm.since.trans ⟨hx,λ_ _ _=>rfl,λi e hi2 he=>xz K w σ i e he λh=>by have:=hK i h; omega⟩,hm.lim⟩;have ht:=hm.tm t
  have e:(VE K st).tmps.getD t .undef=vH K st.heap (st.tmps.getD t .undef)\/(VE K st).tmps.getD t .undef = .undef:=by
    simp only [VE,List.getD,aN];cases st.tmps[t]? with
    | none=>exact .inr rfl
    | some x=>exact .inl rfl
  have hn:qn (st.tmps.getD t .undef)=true:=by
    by_cases hlt:t<st.tmps.length
    · simp only [List.getD,aF hlt,Option.getD_some];exact bG.1 hno _ (bK hlt)
    · simp only [List.getD];rw [aZ (by omega)]; rfl
  rcases e with e | e
  · rw [e]
    have hr:Rep (Own O σ) w (st.tmps.getD t .undef) σ (a.tmps.getD t undef):=by
      generalize st.tmps.getD t .undef=x at ht hn;cases x with
      | opt _ _ _=>cases hn
      | _=>exact ht
    have:=xZ hm.good hm.hp (K:=K) hr;have hno2:=XH (K:=K) (h:=st.heap) hn;generalize vH K st.heap (st.tmps.getD t .undef)=y at this hno2;cases y with
    | opt t b x=>cases hno2
    | _=>exact this
  · rw [e]; simp [TRep,Rep]
def YB(K:List Nat)(h:Heap)(kv:KV):KV:=kv.map λp=>(p.1,vH K h p.2)
theorem zda{K:List Nat}{h:Heap}{kv:KV}(t:Nat):look (YB K h kv) t=vH K h (look kv t):=by
  induction kv with
  | nil=>
    show AV.undef=vH K h .undef;simp only [vH,frz,frz1]
    have:∀ K,z7 K .undef = .undef:=by
      intro K
      induction K with
      | nil=>rfl
      | cons i K ih=>exact ih
    rw [this]
  | cons p l ih=>
    simp only [YB,List.map_cons,look] at ih ⊢;split
    · rfl
    · exact ih
end
end Go.Sx
end
section
namespace Go.Nov
open Go.Sx
inductive Ex where
 | mk (kind:Int) (rat name:L8) (date:Int) (sub:List Ex)
namespace Ex
def kind:Ex->Int | mk k _ _ _ _=>k
def rat:Ex->L8 | mk _ r _ _ _=>r
def name:Ex->L8 | mk _ _ n _ _=>n
def date:Ex->Int | mk _ _ _ d _=>d
def sub:Ex->List Ex | mk _ _ _ _ s=>s
mutual
def size:Ex->Nat
 | mk _ _ _ _ s=>1+z6 s
def z6:List Ex->Nat
 | []=>0
 | x::l=>size x+z6 l
end
abbrev nil:Ex:=mk 0 [] [] 0 []
theorem size_eq(x:Ex):x.size=1+z6 x.sub:=by cases x; rw [size]; rfl
theorem size_pos(x:Ex):0<x.size:=by rw [size_eq]; omega
theorem Qp(s:List Ex)(i:Nat)(h:i<s.length):z6 (s.take (i+1))=z6 (s.take i)+(s.getD i nil).size:=by
 induction s generalizing i with
 | nil=>simp at h
 | cons x s ih=>
  cases i with
  | zero=>simp [z6]
  | succ i=>
   simp only [List.take_succ_cons,z6,List.getD_cons_succ];rw [ih i (by simpa using h)];omega
theorem qf{s:List Ex}{i:Nat}(h:i<s.length):(s.getD i nil).size<=z6 s:=by
 induction s generalizing i with
 | nil=>simp at h
 | cons x s ih=>
  cases i with
  | zero=>simp [z6]
  | succ i=>
   simp only [List.getD_cons_succ,z6];have:=ih (i:=i) (by simpa using h);omega
theorem xF(s:List Ex)(i:Nat):z6 (s.take i)<=z6 s:=by
 induction s generalizing i with
 | nil=>simp [z6]
 | cons x s ih=>
  cases i with
  | zero=>simp [z6]
  | succ i=>simp only [List.take_succ_cons,z6]; have:=ih i; omega
theorem wQ(s:List Ex):s.length<=z6 s:=by
 induction s with
 | nil=>simp [z6]
 | cons x s ih=>simp only [aL,z6]; have:=size_pos x; omega
def cell(k:Int)(r n:L8)(d:Int)(l:Nat)(g:Nat->Nat->AV):Nat->AV
 | 0=>.int .u8 k
 | 1=>.str r
 | 2=>.str n
 | 3=>.i d
 | 4=>.sl l 5 g
 | _=>.undef
def deep:Ex->Nat->Nat->AV
 | mk _ _ _ _ s=>λj=>(s.map λx=>cell x.kind x.rat x.name x.date x.sub.length (deep x)).getD j λ_=>.undef
def exG(s:List Ex):Nat->Nat->AV:=λj=>cell (s.getD j nil).kind (s.getD j nil).rat (s.getD j nil).name (s.getD j nil).date (s.getD j nil).sub.length (deep (s.getD j nil))
def exS(s:List Ex):AV:=.sl s.length 5 (exG s)
def exA(x:Ex):AV:=.agg [.int .u8 x.kind,.str x.rat,.str x.name,.i x.date,exS x.sub]
theorem qY(x:Ex):eqG x.sub.length 5 (deep x) (exG x.sub):=by
 intro j o hj ho;cases x with
 | mk k r n d s=>
  rw [deep];change j<s.length at hj;show _=exG s j o;simp [exG,List.getD,hj]
end Ex
end Go.Nov
end
section
namespace Go.Nov
open Go.Sx
def shpL:List (Int×List Int×Int):=[(4,[1,1],1),(5,[1,1],1),(6,[1,1],1),(7,[1,1],1),(8,[1,1],1),(9,[2,1,1],1),(11,[1,1],2),(12,[1,1],2),(13,[2,2],2),(14,[2,2],2),(15,[2],2)]
def yx(k:Int):Option (List Int×Int):=(shpL.find? λp=>p.1 == k).map (·.2)
def jh(k:Int):Bool:=(yx k).isSome
def ja(k:Int):List Int:=((yx k).getD ([],0)).1
def j1(k:Int):Nat:=(ja k).length
def q7(k:Int)(j:Nat):Int:=(ja k).getD j 0
def qV(k:Int):Int:=((yx k).getD ([],0)).2
end Go.Nov
end
section
open Go Go.Sx Go.Proofs Go.Nov
namespace Go.Proofs.Tryz
noncomputable instance:Go.Sx.Stat:=⟨λg=>
 if g=1 then some (.mp .u8 true 2 [] (λk=>jh k) λk o=>match o with
 | 0=>.sl (j1 k) 1 λj _=>.int .u8 (q7 k j)
 | _=>.int .u8 (qV k)) else
 if g=0 then some (.mp .u8 false 1 [4,5,6,7,8] (λk=>decide (4<=k/\k<=8)) λk _=>
  if k=4 then .fn 190 [] [] else if k=5 then .fn 191 [] [] else if k=6 then .fn 192 [] []
  else if k=7 then .fn 193 [] [] else .fn 194 [] []) else
 none⟩
end Go.Proofs.Tryz
end
section
set_option maxRecDepth 100000
open Go Go.Sx Go.Proofs Go.Nov
namespace Go.Proofs.Tryz
attribute [local simp] eqKV eqA eqA0 eqH eqB eqL eqL0
noncomputable def K142:=Go.Sx.aA f142
theorem hmix:prog.follows .mixedOrders=true:=by decide +kernel
def noG:Nat->Option Ctr:=λ_=>none
theorem zA:∀ g c,noG g=some c->zc prog g c:=λ_ _ h=>by cases h
def ziu:AV->Nat
 | .int _ n=>n.toNat
 | _=>0
def decN(n:Nat)(g:Nat->Nat->AV):List Nat:=(List.range n).map λj=>ziu (g j 0)
theorem xA(k:IntKind)(l:List Nat):decN l.length (natG k l)=l:=by
 apply List.ext_getElem (by simp [decN]);intro j h1 h2;simp [decN,natG,ziu,h2]
theorem za(n sz:Nat)(g:Nat->Nat->AV):eqG n sz g g:=λ_ _ _ _=>rfl
theorem y3{k:IntKind}{l:List Nat}{v:Int}(hv:0<=v):eqG (l.length+1) 1 (appG l.length (natG k l) (zf (zd 1 [.int k v]) 0)) (natG k (l++[v.toNat])):=by
 intro j o hj ho;have ho:o=0:=by omega
 subst ho;simp only [appG,zf,zd,natG];by_cases h:j<l.length
 ·simp [h,bT]
 ·have:j=l.length:=by omega
  subst this;simp [Int.toNat_of_nonneg hv]
theorem vc{k:IntKind}{o:List Nat}{v:Int}{d:Nat}{r:Heap}(hv:v=d):eqH (.arr (o.length+1) 1 (appG o.length (natG k o) (zf (zd 1 [.int k v]) 0))::r) [.arr (o++[d]).length 1 (natG k (o++[d]))]:=by
 subst hv;refine⟨⟨by simp,rfl,?_⟩,by simp [eqH]⟩;have:=y3 (k:=k) (l:=o) (v:=(d:Int)) (by omega);simpa using this
theorem vS{k:IntKind}{l:List Nat}{v:Int}{i:Nat}(hv:0<=v)(hi:i<l.length):eqG l.length 1 (updG (natG k l) i 0 [.int k v]) (natG k (l.set i v.toNat)):=by
 intro j o hj ho;have ho:o=0:=by omega
 subst ho;simp only [updG,natG,aL,List.length_nil];by_cases h:j=i
 ·subst h;simp [hj,Int.toNat_of_nonneg hv]
 ·simp only [h,false_and,if_false];simp [bS (λe=>h e.symm)]
def magS(x:Nat):AV:=natS .u32 (canon x)
def fits(x:Nat):Prop:=(canon x).length<1000000
theorem Vk{m off n:Nat}{k:IntKind}{o:List Nat}{r:Heap} : new0 (.arr m 1 (natG k o)::r) [] (.osl 0 1 off n):=by
 intro _;simp only [exp0,z4,frz1,jI,List.getElem?_cons_zero,if_true];intro j o' _ _;rfl
theorem VY{m off n:Nat}{g:Nat->Nat->AV}{r:Heap} : exp0 (.arr m 1 g::r) [] (.osl 0 1 off n) = .sl n 1 (zf g off):=by
 simp [exp0,z4,frz1,jI]
theorem JJ{k:IntKind}{o l:List Nat}(h:qF o=l):eqA0 (.sl (tlen o) 1 (zf (natG k o) 0)) (natS k l):=by
 subst h;simp only [eqA0,natS,qF,aH,true_and];refine⟨by have:=qp o; omega,?_⟩;intro j o' hj ho';have:o'=0:=by omega
 subst this;simp [zf,natG,bR,hj]
def ctr2{R:Type}(fresh:Bool)(pre:Nat->Nat->Prop)(post:Nat->Nat->R->Prop)(out:Nat->Nat->R->AV×Heap):Ctr:=
 ctrP fresh (λp:Nat×Nat=>[magS p.1,magS p.2]) (λp=>pre p.1 p.2) (λp=>post p.1 p.2) (λp=>out p.1 p.2)
theorem yZ{R:Type}{fresh:Bool}{pre:Nat->Nat->Prop}{post:Nat->Nat->R->Prop}{out:Nat->Nat->R->AV×Heap}{g:Nat}{fn:Func}{c:Code}(hf:prog.funcs[g]?=some fn)(hb:fn.body=some c) (hn:(fn.name == "runtime.NumGoroutine")=false)
  (H:∀ x y,pre x y->∀ (O:Nat->Prop) (w0:World) (Q:AV×Heap->Prop),(∀ r,post x y r->Q (out x y r))->zb prog fn O 0 w0 [] (λ_ _ _=>False) (RetR (ctr2 fresh pre post out) 0 Q) [.code c] (entry fn [magS x,magS y])):zc prog g (ctr2 fresh pre post out):=
 zh hf hb hn λp hp=>H p.1 p.2 hp
def uL:Ctr where
 fresh:=false
 spec args hc:=match args,hc with
  | [.sl n 1 g],[]=>.ex (λl:List Nat=>dig l/\l.length=n/\n<2^62/\eqG n 1 g (natG .u32 l)) λl=>.all (λx=>x=val l) λx=>.leaf (magS x,[])
  | [.osl 0 1 off n],[.arr m 1 g]=>.ex (λu:List Nat=>u.length=m/\off+n<=m/\n<2^62/\eqG m 1 g (natG .u32 u)/\dig ((u.drop off).take n)) λu=>.all (λx=>x=val ((u.drop off).take n)) λx=>.leaf (.osl 0 1 off (canon x).length,[.arr m 1 g])
  | _,_=>.fail
def S75o(off n:Nat):KV:=[(0,.osl 0 1 off n)]
def S75(l:List Nat)(n:Nat):KV:=[(0,.sl n 1 (natG .u32 l))]
theorem Wn:zc prog 142 uL:=by
 intro args hc Q hq hfr;unfold uL at hq
 dsimp only at hq
 split at hq
 ·rename_i n g;obtain⟨l,⟨hdl,hln,hn,hg⟩,_,hq⟩:=hq;obtain⟨x,hv⟩:∃ x,val l=x:=⟨_,rfl⟩;replace hq:=hq x hv.symm;have hcan:qF l=canon x:=by rw [zO hdl,hv]
  simp only [magS,<- hcan] at hq;refine jy.le (args':=[natS .u32 l]) (by simp [natS,hln,hg]) (fn_k (fn:=f142) (c:=f142.body.getD .skip) rfl rfl rfl hfr λO w0 I0 h0=> ?_);refine zb.n zA [0] (.leaf (.loop (lps K142 0).1 (lps K142 0).2 [(0,.sl l.length 1 (natG .u32 l))] [])) ?_;refine zb.loop (ι:={n:Nat // tlen l<=n/\n<=l.length}) (λx=>S75 l x.1) (λ_=>[]) (λx=>x.1) ⟨l.length,qp l,aJ _⟩ 0 ?_ ?_ (by kernel_rfl)
  ·exact⟨by simp [S75,eqG],by simp,by kernel_rfl,aI _⟩
  ·rintro⟨n,h1,h2⟩;refine zb.n zA [0] (.side (decide ((0:Int)<n)=true->inR .i64 (n-1)) (.side (decide ((0:Int)<n)=true->(0:Int)<=n - (1:Int)/\(n:Int) - (1:Int)<n) (.ite (bif decide ((0:Int)<n) then decide ((↑(l.getD (Int.toNat (n-1)) 0):Int)=0) else false) (.S (n-1) (.side ((0:Int)<=n - (1:Int)/\(n:Int) - (1:Int)<=n) (.leaf (.back 0 [(0,.sl (Int.toNat (n-1) - 0) 1 (zf (natG .u32 l) 0))] [])))) (.R [.sl n 1 (natG .u32 l)] [])))) ?_;simp only [Tree.holds,ze,inR,lo,hi,Bool.cond_eq_ite];refine⟨by simp; omega,λ_=>⟨by simp; omega,λ_=>⟨λh=> ?_,λh=> ?_⟩⟩⟩
   ·have hp:0<n:=by
     rcases bC n with rfl | hp
     ·simp at h
     ·exact hp
    have e:((n:Int) - 1).toNat=n - 1:=by omega
    have hz:l.getD (n - 1) 0=0:=by
     rw [aP (by simpa using hp),e] at h;simpa only [aK,Int.natCast_eq_zero] using h
    refine⟨by omega,λ_=>⟨by omega,λ_=> ?_⟩⟩;rw [aP trivial];refine⟨⟨n - 1,?_,by omega⟩,by show n - 1<n; omega,by simp [S75,eqG,zf,e],by simp,by kernel_rfl,aI _⟩;rcases aR (n - 1) (tlen l) with h3 | h3
    ·have h4:tlen l - 1=n - 1:=by omega
     exact absurd (h4▸hz) (q9 l (by omega))
    ·exact h3
   ·have hn:n=tlen l:=by
     rcases aR (tlen l) n with h3 | h3
     ·exfalso;have e:((n:Int) - 1).toNat=n - 1:=by omega
      rw [aP (by simp; omega),e] at h;have:=jE l (n - 1) (by omega);simp only [aV,Int.natCast_eq_zero] at h;exact h this
     ·omega
    subst hn;refine⟨[],rfl,by simp,by simp,by simp [uL],_,[],qw ?_,.inl (by simp),rfl,hq⟩;have:=qp l;simp only [resV,exp2,exp1,exp0,ren0,eqA2,eqA,natS,eqA0,qF,aH,Nat.min_eq_left this,true_and];intro j o hj ho;simp only [natG,List.getD,bR,aP hj]
 ·rename_i off n m g;obtain⟨l,⟨hlm,hm,hn,hg,hdl⟩,_,hq⟩:=hq;obtain⟨x,hv⟩:∃ x,val ((l.drop off).take n)=x:=⟨_,rfl⟩;replace hq:=hq x hv.symm;subst hlm;simp only [<- hv,<- VH hdl] at hq;refine jy.leH (hc':=[.arr l.length 1 (natG .u32 l)]) (by simp [hg]) rfl (fn_k (fn:=f142) (c:=f142.body.getD .skip) rfl rfl rfl (by simp [uL]) λO w0 I0 h0=> ?_);refine zb.n zA [0] (.leaf (.loop (lps K142 0).1 (lps K142 0).2 [(0,.osl 0 1 off n)] [.arr l.length 1 (natG .u32 l)])) ?_
  have hget:∀ j,j<n->((l.drop off).take n).getD j 0=l.getD (off+j) 0:=by
   intro j hj;simp [bR,hj,List.getElem?_drop]
  have htl:tlen ((l.drop off).take n)<=n:=by
   have:=qp ((l.drop off).take n);simp at this; omega
  refine zb.loop (ι:={k:Nat // tlen ((l.drop off).take n)<=k/\k<=n}) (λx=>S75o off x.1) (λ_=>[.arr l.length 1 (natG .u32 l)]) (λx=>x.1) ⟨n,htl,aJ _⟩ 0 ?_ ?_ (by kernel_rfl)
  ·exact⟨by simp [S75o],by simp [eqG],by kernel_rfl,aJ _⟩
  ·rintro⟨k,h1,h2⟩;refine zb.n zA [0] (.side (decide ((0:Int)<k)=true->inR .i64 (k-1)) (.side (decide ((0:Int)<k)=true->(0:Int)<=k - (1:Int)/\(k:Int) - (1:Int)<k) (.ite (bif decide ((0:Int)<k) then decide ((↑(l.getD (off+Int.toNat (k-1)) 0):Int)=0) else false) (.S (k-1) (.side ((0:Int)<=k - (1:Int)/\(k:Int) - (1:Int)<=k) (.leaf (.back 0 [(0,.osl 0 1 (off+0) (Int.toNat (k-1) - 0))] [.arr l.length 1 (natG .u32 l)])))) (.R [.osl 0 1 off k] [.arr l.length 1 (natG .u32 l)])))) ?_;simp only [Tree.holds,ze,inR,lo,hi,Bool.cond_eq_ite];refine⟨by simp; omega,λ_=>⟨by simp; omega,λ_=>⟨λh=> ?_,λh=> ?_⟩⟩⟩
   ·have hp:0<k:=by
     rcases bC k with rfl | hp
     ·simp at h
     ·exact hp
    have e:((k:Int) - 1).toNat=k - 1:=by omega
    have hz:((l.drop off).take n).getD (k - 1) 0=0:=by
     rw [aP (by simpa using hp),e] at h;rw [hget _ (by omega)];simpa only [aK,Int.natCast_eq_zero] using h
    refine⟨by omega,λ_=>⟨by omega,λ_=> ?_⟩⟩;rw [aP trivial];refine⟨⟨k - 1,?_,by omega⟩,by show k - 1<k; omega,by simp [S75o,e],by simp [eqG],by kernel_rfl,aJ _⟩;rcases aR (k - 1) (tlen ((l.drop off).take n)) with h3 | h3
    ·have h4:tlen ((l.drop off).take n) - 1=k - 1:=by omega
     exact absurd (h4▸hz) (q9 _ (by omega))
    ·exact h3
   ·have hn:k=tlen ((l.drop off).take n):=by
     rcases aR (tlen ((l.drop off).take n)) k with h3 | h3
     ·exfalso;have e:((k:Int) - 1).toNat=k - 1:=by omega
      rw [aP (by simp; omega),e] at h;have:=jE ((l.drop off).take n) (k - 1) (by omega);rw [hget _ (by omega)] at this;simp only [aV,Int.natCast_eq_zero] at h;exact h this
     ·omega
    subst hn;exact⟨[0],rfl,by simp,by simp,by simp [uL],_,[.arr l.length 1 g],qw (by simp [resV,exp2,exp1,exp0,z4,eqA2]),.inl ⟨⟨rfl,rfl,λj o hj ho=>(hg j o hj ho).symm⟩,trivial⟩,rfl,hq⟩
 ·exact hq.elim
noncomputable def K121:=Go.Sx.aA f121
noncomputable def K144:=Go.Sx.aA f144
def cmp3(x y:Nat):Int:=if x<y then -1 else if y<x then 1 else 0
def y6:Ctr:=ctr2 true (λx y=>fits x/\fits y) (λx y r=>r=cmp3 x y) (λ_ _ r=>(.i r,[]))
def S73(x y k:Nat):KV:=[(0,magS x),(1,magS y),(5,.i ((k:Int) - 1))]
theorem xX:zc prog 121 y6:=by
 refine yZ (fn:=f121) (c:=f121.body.getD .skip) rfl rfl rfl λx y hp O w0 Q hq=> ?_
 replace hq:=hq _ rfl;obtain⟨hx,hy⟩:=hp;simp only [fits] at hx hy;refine zb.n zA [0,1,5] (.N (((canon x).length:Int)=((canon y).length:Int)) (.S ((canon x).length-(canon y).length) (.R [.i (max (-1:Int) (min (1:Int) (((canon x).length:Int) - ((canon y).length:Int))))] [])) (.S ((canon x).length-1) (.leaf (.loop (lps K121 0).1 (lps K121 0).2 [(0,.sl (canon x).length 1 (natG .u32 (canon x))),(1,.sl (canon y).length 1 (natG .u32 (canon y))),(5,.i ((canon x).length-1))] [])))) ?_;simp only [Tree.holds,ze,inR,lo,hi,Bool.cond_eq_ite];refine⟨λh=>⟨by omega,λ_=>RetR.scal hq rfl ?_⟩,λh=>⟨by omega,λ_=> ?_⟩⟩
 ·simp only [resV,cmp3];congr 1
  have hne:(canon x).length≠(canon y).length:=by
   simp only [Bool.not_eq_true',aV] at h;omega
  rcases Nat.lt_or_gt_of_ne hne with h1 | h1
  ·have:=zZ h1;rw [aP this]; omega
  ·have:=zZ h1;rw [aO (by omega),aP this]; omega
 ·have hlen:(canon x).length=(canon y).length:=by
   simp only [Bool.not_eq_false',aK] at h;omega
  refine zb.loop (ι:={k:Nat // k<=(canon x).length/\∀ j,k<=j->(canon x).getD j 0=(canon y).getD j 0}) (λk=>S73 x y k.1) (λ_=>[]) (λk=>k.1) ⟨(canon x).length,aJ _,λj hj=>by simp [hj,hlen▸hj]⟩ 0 ?_ ?_ (by kernel_rfl)
  ·exact⟨by simp [S73,magS,natS,za],by simp,by kernel_rfl,aI _⟩
  ·rintro⟨k,h1,h2⟩;refine zb.n zA [0,1,5] (let v1:=Int.toNat (k-1);.D ((0:Int)<=k - (1:Int)) (.side ((0:Int)<=k - (1:Int)/\(k:Int) - (1:Int)<((canon x).length:Int)) (.side ((0:Int)<=k - (1:Int)/\(k:Int) - (1:Int)<((canon y).length:Int)) (.N ((↑(List.getD (canon x) v1 0):Int)=(↑(List.getD (canon y) v1 0):Int)) (.side ((0:Int)<=k - (1:Int)/\(k:Int) - (1:Int)<((canon x).length:Int)) (.side ((0:Int)<=k - (1:Int)/\(k:Int) - (1:Int)<((canon y).length:Int)) (.D ((↑(List.getD (canon x) v1 0):Int)<(↑(List.getD (canon y) v1 0):Int)) (.R [.i (-1:Int)] []) (.R [.i 1] [])))) (.S (k-1-1) (.leaf (.back 0 [(0,.sl (canon x).length 1 (natG .u32 (canon x))),(1,.sl (canon y).length 1 (natG .u32 (canon y))),(5,.i (k-1-1))] [])))))) (.R [.i 0] [])) ?_;simp only [Tree.holds,ze,inR,lo,hi,Bool.cond_eq_ite];have e:((k:Int) - 1).toNat=k - 1:=by omega
   rw [e];refine⟨λhk=> ?_,λhk=>RetR.scal hq rfl ?_⟩
   ·have hk:0<k:=by simp at hk; omega
    refine⟨by omega,λ_=>⟨by omega,λ_=>⟨λhne=>⟨by omega,λ_=>⟨by omega,λ_=>⟨λhlt=>RetR.scal hq rfl ?_,λhlt=>RetR.scal hq rfl ?_⟩⟩⟩,λheq=>⟨by omega,λ_=> ?_⟩⟩⟩⟩
    ·have:=uF (zj x) hlen (i:=k - 1) (λj hj=>h2 j (by omega)) (by simpa using hlt);rw [zm,zm] at this;simp [resV,cmp3,this]
    ·have hgt:(canon y).getD (k - 1) 0<(canon x).getD (k - 1) 0:=by
      simp only [Bool.not_eq_true',aV] at hne hlt;omega
     have:=uF (zj y) hlen.symm (i:=k - 1) (λj hj=>(h2 j (by omega)).symm) hgt;rw [zm,zm] at this;simp only [resV,cmp3];rw [aO (by omega),aP this]
    ·rw [aP trivial];refine⟨⟨k - 1,by omega,λj hj=> ?_⟩,by show k - 1<k; omega,by simp [S73,magS,natS,za]; omega,by simp,by kernel_rfl,aI _⟩;rcases aR j k with hj2 | hj2
     ·have:j=k - 1:=by omega
      subst this;simp only [Bool.not_eq_false',aK] at heq;omega
     ·exact h2 j hj2
   ·have hk:k=0:=by simp at hk; omega
    subst hk
    have:canon x=canon y:=by
     apply List.ext_getElem hlen;intro j hj hj';have:=h2 j (aI _);simpa [hj,hj'] using this
    have:x=y:=by rw [<- zm x,this,zm]
    subst this;simp [resV,cmp3]
noncomputable def G1:=tb Wn tz
def Wv:Ctr:=ctr2 true (λx y=>fits x/\y<=x) (λx y d=>d=x - y) (λ_ _ d=>(magS d,[]))
def S78(x y:Nat)(o:List Nat)(c i:Nat):KV:=[(0,magS x),(1,magS y),(5,.osl 0 1 0 o.length),(6,.int .u32 (c:Int)),(13,magS x),(14,.i ((canon x).length:Int)),(15,.i (i:Int))]
structure I78(x y:Nat) where
 o:List Nat
 c:Nat
 i:Nat
 len:o.length=i
 le:i<=(canon x).length
 dg:dig o
 c1:c<=1
 eq:val ((canon x).take i)+B^i*c=val o+val ((canon y).take i)
theorem WO{x y:Nat}(h:x<=y):(canon x).length<=(canon y).length:=by
 rcases aR (canon y).length (canon x).length with h1 | h1
 ·have:=zZ h1; omega
 ·exact h1
theorem zji{x y o c i d c':Nat}{l m:List Nat}(h:val (l.take i)+B^i*c=o+val (m.take i))(he:l.getD i 0+B*c'=d+m.getD i 0+c):val (l.take (i+1))+B^(i+1)*c'=o+B^i*d+val (m.take (i+1)):=by
 rw [zq,zq,Nat.pow_succ];have:=congrArg (B^i * ·) he;simp only [bN] at this;rw [bI];omega
theorem QN(l:List Nat)(d:Nat):val (l++[d])=val l+B^l.length*d:=by rw [zG]; simp [val]
theorem Qj:zc prog 144 Wv:=by
 refine yZ (fn:=f144) (c:=f144.body.getD .skip) rfl rfl rfl λx y hp O w0 Q hq=> ?_
 replace hq:=hq _ rfl;obtain⟨hx,hyx⟩:=hp;simp only [fits] at hx hyx;have hlen:=WO hyx;refine zb.n G1.h [0,1,5,6,13,14,15] (.side ((0:Int)<=0/\(0:Int)<=((canon x).length:Int)/\inR .i64 (canon x).length/\Int.toNat (canon x).length*4<=140737488355328) (.leaf (.loop (lps K144 0).1 (lps K144 0).2 [(0,.sl (canon x).length 1 (natG .u32 (canon x))),(1,.sl (canon y).length 1 (natG .u32 (canon y))),(5,.osl 0 1 0 0),(6,.int .u32 0),(13,.sl (canon x).length 1 (natG .u32 (canon x))),(14,.i (canon x).length),(15,.i 0)] [.arr 0 1 (qb [.int .u32 0])]))) ?_;simp only [Tree.holds,ze,inR,lo,hi];refine⟨by omega,λ_=> ?_⟩;refine zb.loop (ι:=I78 x y) (λs=>S78 x y s.o s.c s.i) (λs=>[.arr s.o.length 1 (natG .u32 s.o)]) (λs=>(canon x).length - s.i) ⟨[],0,0,rfl,aI _,by simp [dig],by omega,by simp [val]⟩ 0 ?_ ?_ (by kernel_rfl)
 ·exact⟨by simp [S78,magS,natS,za],by simp [eqG],by kernel_rfl,aI _⟩
 ·rintro⟨o,c,i,ho,hle,hd,hc,he⟩;subst ho;have hB:B=1000000000:=rfl;refine zb.n G1.h [0,1,5,6,13,14,15] (let v12:=natG .u32 o;let v11:=natG .u32 (canon x);let v7:=o.length+1;let v5:=inR .i64 (o.length+1);let v3:List (Nat×AV):=[(0,.sl (canon x).length 1 v11),(1,.sl (canon y).length 1 (natG .u32 (canon y))),(5,.osl 0 1 0 v7),(6,.int .u32 0),(13,.sl (canon x).length 1 v11),(14,.i (canon x).length),(15,.i (o.length+1))];let v2:List (Nat×AV):=[(0,.sl (canon x).length 1 v11),(1,.sl (canon y).length 1 (natG .u32 (canon y))),(5,.osl 0 1 0 v7),(6,.int .u32 1),(13,.sl (canon x).length 1 v11),(14,.i (canon x).length),(15,.i (o.length+1))];let v1:=Int.toNat o.length;let v10:=zd 1 [.int .u32 ((↑(List.getD (canon x) v1 0):Int) - c)];let v9:=inR .u32 ((↑(List.getD (canon x) v1 0):Int)+(1000000000:Int));let v8:=zd 1 [.int .u32 ((↑(List.getD (canon x) v1 0):Int)+(1000000000:Int) - c)];let v6:=zd 1 [.int .u32 ((↑(List.getD (canon x) v1 0):Int) - ((c:Int)+(↑(List.getD (canon y) v1 0):Int)))];let v4:=zd 1 [.int .u32 ((↑(List.getD (canon x) v1 0):Int)+(1000000000:Int) - ((c:Int)+(↑(List.getD (canon y) v1 0):Int)))];.D ((o.length:Int)<((canon x).length:Int)) (.side ((0:Int)<=o.length/\(o.length:Int)<((canon x).length:Int)) (.D ((o.length:Int)<((canon y).length:Int)) (.side ((0:Int)<=o.length/\(o.length:Int)<((canon y).length:Int)) (.side (inR .u32 ((c:Int)+(↑(List.getD (canon y) v1 0):Int))) (.D ((↑(List.getD (canon x) v1 0):Int)<c+(↑(List.getD (canon y) v1 0):Int)) (.side v9 (.side (inR .u32 ((↑(List.getD (canon x) v1 0):Int)+(1000000000:Int) - ((c:Int)+(↑(List.getD (canon y) v1 0):Int)))) (.side (0=0/\o.length<=o.length/\v7 *4<=140737488355328) (.side v5 (.leaf (.back 0 v2 [.arr v7 1 (appG o.length v12 (zf v4 0)),.arr 1 1 v4])))))) (.side (inR .u32 ((↑(List.getD (canon x) v1 0):Int) - ((c:Int)+(↑(List.getD (canon y) v1 0):Int)))) (.side (0=0/\o.length<=o.length/\v7 *4<=140737488355328) (.side v5 (.leaf (.back 0 v3 [.arr v7 1 (appG o.length v12 (zf v6 0)),.arr 1 1 v6])))))))) (.D ((↑(List.getD (canon x) v1 0):Int)<c) (.side v9 (.side (inR .u32 ((↑(List.getD (canon x) v1 0):Int)+(1000000000:Int) - c)) (.side (0=0/\o.length<=o.length/\v7 *4<=140737488355328) (.side v5 (.leaf (.back 0 v2 [.arr v7 1 (appG o.length v12 (zf v8 0)),.arr 1 1 v8])))))) (.side (inR .u32 ((↑(List.getD (canon x) v1 0):Int) - c)) (.side (0=0/\o.length<=o.length/\v7 *4<=140737488355328) (.side v5 (.leaf (.back 0 v3 [.arr v7 1 (appG o.length v12 (zf v10 0)),.arr 1 1 v10])))))))) (.ex (λ(u:List Nat)=>u.length=o.length/\0+o.length<=o.length/\o.length<4611686018427387904/\eqG o.length 1 v12 (natG .u32 u)/\dig (List.take o.length (List.drop 0 u))) λn=>.all (λ(x:Nat)=>x=val (List.take o.length (List.drop 0 n))) λn=>.R [.osl 0 1 0 (canon n).length] [.arr o.length 1 v12])) ?_;simp only [Tree.holds,ze,inR,lo,hi,aD,xA];have ha:=zL (zj x) o.length;have hb:=zL (zj y) o.length
  have hnext:∀ d c':Nat,d<B->c'<=1->o.length<(canon x).length->(canon x).getD o.length 0+B*c'=d+(canon y).getD o.length 0+c ->
    ∃ s:I78 x y,s.o=o++[d]/\s.c=c'/\s.i=o.length+1:=λd c' h1 h2 h3 h4=>
   ⟨⟨o++[d],c',o.length+1,by simp,h3,ji.2 ⟨hd,by simp [dig,h1]⟩,h2,by rw [QN]; exact zji (x:=x) (y:=y) he h4⟩,rfl,rfl,rfl⟩
  refine⟨λhlt=> ?_,λhge=> ?_⟩
  ·have hlt:o.length<(canon x).length:=by simp at hlt; omega
   refine⟨by omega,λ_=>⟨λhb2=>⟨by simp at hb2; omega,λ_=>⟨by omega,λ_=>⟨λhlt2=> ?_,λhge2=> ?_⟩⟩⟩,λhb2=>⟨λhlt2=> ?_,λhge2=> ?_⟩⟩⟩
   ·simp only [aK] at hlt2;refine⟨by omega,λ_=>⟨by omega,λ_=>⟨⟨trivial,by omega,by omega⟩,λ_=>⟨by omega,λ_=> ?_⟩⟩⟩⟩;obtain⟨s,h1,h2,h3⟩:=hnext ((canon x).getD o.length 0+B - (c+(canon y).getD o.length 0)) 1 (by omega) (by omega) hlt (by omega);rw [aP trivial];refine⟨s,by show _ - s.i<_; omega,by simp [S78,h1,h2,h3,magS,natS,za],by rw [h1]; exact vc (by omega),by kernel_rfl,aI _⟩
   ·simp only [aV] at hge2;refine⟨by omega,λ_=>⟨⟨trivial,by omega,by omega⟩,λ_=>⟨by omega,λ_=> ?_⟩⟩⟩;obtain⟨s,h1,h2,h3⟩:=hnext ((canon x).getD o.length 0 - (c+(canon y).getD o.length 0)) 0 (by omega) (by omega) hlt (by omega);rw [aP trivial];refine⟨s,by show _ - s.i<_; omega,by simp [S78,h1,h2,h3,magS,natS,za],by rw [h1]; exact vc (by omega),by kernel_rfl,aI _⟩
   ·simp only [aK,aV] at hlt2 hb2;have hb0:(canon y).getD o.length 0=0:=by simp [List.getD,aZ (show(canon y).length<=o.length by omega)]
    refine⟨by omega,λ_=>⟨by omega,λ_=>⟨⟨trivial,by omega,by omega⟩,λ_=>⟨by omega,λ_=> ?_⟩⟩⟩⟩;obtain⟨s,h1,h2,h3⟩:=hnext ((canon x).getD o.length 0+B - c) 1 (by omega) (by omega) hlt (by omega);rw [aP trivial];refine⟨s,by show _ - s.i<_; omega,by simp [S78,h1,h2,h3,magS,natS,za],by rw [h1]; exact vc (by omega),by kernel_rfl,aI _⟩
   ·simp only [aV] at hge2 hb2;have hb0:(canon y).getD o.length 0=0:=by simp [List.getD,aZ (show(canon y).length<=o.length by omega)]
    refine⟨by omega,λ_=>⟨⟨trivial,by omega,by omega⟩,λ_=>⟨by omega,λ_=> ?_⟩⟩⟩;obtain⟨s,h1,h2,h3⟩:=hnext ((canon x).getD o.length 0 - c) 0 (by omega) (by omega) hlt (by omega);rw [aP trivial];refine⟨s,by show _ - s.i<_; omega,by simp [S78,h1,h2,h3,magS,natS,za],by rw [h1]; exact vc (by omega),by kernel_rfl,aI _⟩
  ·have hge:o.length=(canon x).length:=by simp at hge; omega
   have hv:val o=x - y:=by
    have h1:=qu hd;rw [hge,bD,bF hlen,zm,zm] at he
    have:c=0:=by
     rcases aR c 1 with h | h
     ·omega
     ·have:c=1:=by omega
      subst this;rw [hge] at h1;omega
    subst this;omega
   refine⟨o,⟨rfl,by omega,by omega,za _ _ _,by simpa using hd⟩,⟨_,rfl⟩,?_⟩;intro X hX;have hX:X=x - y:=by simpa [hv] using hX
   subst hX;have htr:qF o=canon (x - y):=by rw [zO hd,hv]
   have htl:(canon (x - y)).length=tlen o:=by rw [<- htr,qF,aH]; have:=qp o; omega
   rw [htl];refine⟨[],rfl,by simp,by simp,λ_=>⟨Vk,by simp⟩,magS (x - y),[],qw ?_,.inl (by simp [expH]),rfl,hq⟩;simp only [resV,exp2,exp1,VY];exact JJ htr
noncomputable def K141:=Go.Sx.aA f141
noncomputable def K143:=Go.Sx.aA f143
theorem Y7(m n:Nat):Int.tdiv (m:Int) (n:Int)=((m/n:Nat):Int):=rfl
theorem YP(m n:Nat):Int.tmod (m:Int) (n:Int)=((m%n:Nat):Int):=rfl
theorem u9(k:IntKind)(n:Nat):eqG n 1 (qb [.int k 0]) (natG k (List.replicate n 0)):=by
 intro j o hj ho;have:o=0:=by omega
 subst this;simp [qb,natG,hj]
theorem VJ{l:List Nat}{k:Nat}(hk:k<l.length):l.drop k=l.getD k 0::l.drop (k+1):=by
 rw [List.drop_eq_getElem_cons hk];simp [List.getD,hk]
def zd4:Ctr:=ctrP true (λp:Nat×Nat=>[magS p.1,.int .u32 (p.2:Int)]) (λp=>fits p.1/\0<p.2/\p.2<B) (λp (r:Nat×Nat)=>r=(p.1/p.2,p.1%p.2)) (λ_ r=>(.tup [magS r.1,.int .u32 (r.2:Int)],[]))
def S74(x d:Nat)(o:List Nat)(r k:Nat):KV:=[(0,magS x),(1,.int .u32 (d:Int)),(4,.osl 0 1 0 o.length),(6,.int .u64 (r:Int)),(7,.i ((k:Int) - 1))]
structure I74(x d:Nat) where
 o:List Nat
 r:Nat
 k:Nat
 len:o.length=(canon x).length
 le:k<=(canon x).length
 rd:r<d
 dg:dig (o.drop k)
 eq:val ((canon x).drop k)=d*val (o.drop k)+r
theorem zdd:zc prog 141 zd4:=by
 refine zh' f141 λp hp O w0 Q hq=> ?_
 replace hq:=hq _ rfl;obtain⟨x,d⟩:=p;obtain⟨hx,hd0,hdB⟩:=hp;simp only [fits] at hx hd0 hdB hq;have hB:B=1000000000:=rfl;refine zb.n G1.h [0,1,4,6,7] (let v1:=Int.toNat (canon x).length;.side ((0:Int)<=((canon x).length:Int)/\((canon x).length:Int)<=((canon x).length:Int)/\inR .i64 (canon x).length/\Int.toNat (canon x).length*4<=140737488355328) (.S ((canon x).length-1) (.leaf (.loop (lps K141 0).1 (lps K141 0).2 [(0,.sl (canon x).length 1 (natG .u32 (canon x))),(1,.int .u32 d),(4,.osl 0 1 0 v1),(6,.int .u64 0),(7,.i ((canon x).length-1))] [.arr v1 1 (qb [.int .u32 0])])))) ?_;simp only [Tree.holds,ze,inR,lo,hi];refine⟨by omega,λ_=>⟨by omega,λ_=> ?_⟩⟩;refine zb.loop (ι:=I74 x d) (λs=>S74 x d s.o s.r s.k) (λs=>[.arr s.o.length 1 (natG .u32 s.o)]) (λs=>s.k) ⟨List.replicate (canon x).length 0,0,(canon x).length,by simp,aJ _,hd0,by simp [dig],by simp [val]⟩ 0 ?_ ?_ (by kernel_rfl)
 ·exact⟨by simp [S74,magS,natS,za],by simp [u9],by kernel_rfl,aI _⟩
 ·rintro⟨o,r,k,hlen,hle,hr,hdg,he⟩;refine zb.n G1.h [0,1,4,6,7] (let v2:=Int.toNat (k-1);let v1:=Int.tdiv ((r:Int)*(1000000000:Int)+(↑(List.getD (canon x) v2 0):Int)) (d:Int);.D ((0:Int)<=k - (1:Int)) (.side (inR .u64 (r*1000000000)) (.side ((0:Int)<=k - (1:Int)/\(k:Int) - (1:Int)<((canon x).length:Int)) (.side (inR .u64 ↑(List.getD (canon x) v2 0)) (.side (inR .u64 ((r:Int)*(1000000000:Int)+(↑(List.getD (canon x) v2 0):Int))) (.side (inR .u64 d) (.side ((d:Int)≠0/\inR .u64 v1) (.side (inR .u32 v1) (.side (inR .u64 d) (.side ((d:Int)≠0) (.side ((0:Int)<=k - (1:Int)/\(k:Int) - (1:Int)<o.length) (.S (k-1-1) (.leaf (.back 0 [(0,.sl (canon x).length 1 (natG .u32 (canon x))),(1,.int .u32 d),(4,.osl 0 1 0 o.length),(6,.int .u64 (Int.tmod ((r:Int)*(1000000000:Int)+(↑(List.getD (canon x) v2 0):Int)) (d:Int))),(7,.i (k-1-1))] [.arr o.length 1 (updG (natG .u32 o) (0+Int.toNat (k-1)) 0 [.int .u32 v1])]))))))))))))) (.ex (λ(u:List Nat)=>u.length=o.length/\0+o.length<=o.length/\o.length<4611686018427387904/\eqG o.length 1 (natG .u32 o) (natG .u32 u)/\dig (List.take o.length (List.drop 0 u))) λn=>.all (λ(x:Nat)=>x=val (List.take o.length (List.drop 0 n))) λn=>.side (inR .u32 r) (.R [.osl 0 1 0 (canon n).length,.int .u32 r] [.arr o.length 1 (natG .u32 o)]))) ?_;have e:((k:Int) - 1).toNat=k - 1:=by omega
  have ha:=zL (zj x) (k - 1);have ev:((r:Int)*1000000000+((canon x).getD (k - 1) 0:Nat))=((r*B+(canon x).getD (k - 1) 0:Nat):Int):=by simp
  simp only [Tree.holds,ze,inR,lo,hi,e,ev,Y7,YP,xA];generalize hv:r*B+(canon x).getD (k - 1) 0=v
  have hvd:v<d*B:=by
   have:(r+1)*B<=d*B:=aT _ hr;rw [bH] at this;omega
  have hq1:v/d<B:=Nat.div_lt_of_lt_mul hvd;have hr1:v%d<d:=Nat.mod_lt _ hd0;have hdm:=Nat.div_add_mod v d;generalize v/d=q at hq1 hdm ⊢;generalize v%d=rr at hr1 hdm ⊢;have hdB2:d*B<B*B:=Nat.mul_lt_mul_of_pos_right hdB (by decide);rw [hB] at hdB2;refine⟨λhk=> ?_,λhk=> ?_⟩
  ·have hk:0<k:=by simp at hk; omega
   refine⟨by omega,λ_=>⟨by omega,λ_=>⟨by omega,λ_=>⟨by omega,λ_=>⟨by omega,λ_=>⟨⟨by omega,by omega,by omega⟩,λ_=>⟨by omega,λ_=>⟨by omega,λ_=>⟨by omega,λ_=>⟨by omega,λ_=>⟨by omega,λ_=> ?_⟩⟩⟩⟩⟩⟩⟩⟩⟩⟩⟩;rw [aP trivial];have hkl:k - 1<o.length:=by omega
   have hdr:(o.set (k - 1) (q)).drop (k - 1)=(q)::o.drop k:=by
    rw [VJ (by simpa using hkl)];rw [show k - 1+1=k by omega,List.drop_set_of_lt (by omega)];simp [hkl]
   refine⟨⟨o.set (k - 1) (q),rr,k - 1,by simpa using hlen,by omega,hr1,by rw [hdr]; exact qC.2 ⟨hq1,hdg⟩,?_⟩,by show k - 1<k; omega,by simp [S74,magS,natS,za]; omega,?_,by kernel_rfl,aI _⟩
   ·rw [hdr,VJ (by omega),show k - 1+1=k by omega];simp only [val,he];rw [bN,bN,<- bI,<- bI,bJ d B];have h5:B*r=r*B:=bJ _ _;omega
   ·refine⟨⟨by simp,rfl,?_⟩,trivial⟩;have:=vS (k:=.u32) (l:=o) (v:=((q:Nat):Int)) (i:=k - 1) (by omega) hkl;simpa using this
  ·have hk:k=0:=by simp at hk; omega
   subst hk;simp only [List.drop_zero] at he hdg;rw [zm] at he
   have hqv:val o=x/d:=by
    rw [he,Nat.mul_add_div hd0,Nat.div_eq_of_lt hr,Nat.add_zero]
   have hrv:r=x%d:=by rw [he,Nat.mul_add_mod,Nat.mod_eq_of_lt hr]
   have htr:qF o=canon (x/d):=by rw [zO hdg,hqv]
   refine⟨o,⟨rfl,by omega,by omega,za _ _ _,by simpa using hdg⟩,⟨_,rfl⟩,?_⟩;intro X hX;have hX:X=x/d:=by simpa [hqv] using hX
   subst hX;have htl:(canon (x/d)).length=tlen o:=by rw [<- htr,qF,aH]; have:=qp o; omega
   rw [htl];refine⟨by omega,λ_=> ?_⟩;refine⟨[],rfl,by simp,by simp,λ_=>⟨?_,by simp⟩,_,[],qw ?_,.inl (by simp [expH]),rfl,hq⟩
   ·simp only [resV,new2];intro a ha;rcases aM.1 ha with rfl | ha
    ·exact Vk
    ·simp only [List.mem_singleton] at ha; subst ha; rfl
   ·simp only [resV,exp2,List.map_cons,List.map_nil,exp1,VY,eqA2,eqL1];exact⟨JJ htr,by simp [eqA,exp0,ren0,hrv],trivial⟩
structure D5 where
 t:Nat
 u:Nat
 v:Nat
 y:Nat
 z:Nat
def zco:Ctr:=ctrP true (λp:D5=>[.int .u64 (p.t:Int),.int .u64 (p.u:Int),.int .u64 (p.v:Int),.int .u64 (p.y:Int),.int .u64 (p.z:Int)])
 (λp=>p.t<=p.y/\p.u<B/\p.v<B/\p.y<B/\p.z<B/\B<=2*p.y) (λp n=>n=qW p.v p.y p.z 2 ((p.t*B+p.u)/p.y) ((p.t*B+p.u)%p.y)) (λ_ n=>(.int .u64 (n:Int),[]))
def S77(v y z q r:Nat):KV:=[(2,.int .u64 (v:Int)),(3,.int .u64 (y:Int)),(4,.int .u64 (z:Int)),(12,.int .u64 (q:Int)),(13,.int .u64 (r:Int))]
structure I77(v y z R:Nat) where
 q:Nat
 r:Nat
 n:Nat
 rB:r<B
 qB:q<=B+1
 nB:B<=r+n*y
 eq:qW v y z n q r=R
theorem ze3:zc prog 143 zco:=by
 refine zh' f143 λp hp O w0 Q hq=> ?_
 replace hq:=hq _ rfl;obtain⟨t,u,v,y,z⟩:=p;simp only at hq;obtain⟨h1,h2,h3,h4,h5,h6⟩:=hp;simp only at h1 h2 h3 h4 h5 h6;have hB:B=1000000000:=rfl;refine zb.n zA [2,3,4,12,13] (let v1:=Int.tdiv ((t:Int)*(1000000000:Int)+u) (y:Int);.side (inR .u64 (t*1000000000)) (.side (inR .u64 ((t:Int)*(1000000000:Int)+u)) (.side ((y:Int)≠0/\inR .u64 v1) (.side ((y:Int)≠0) (.leaf (.loop (lps K143 0).1 (lps K143 0).2 [(2,.int .u64 v),(3,.int .u64 y),(4,.int .u64 z),(12,.int .u64 v1),(13,.int .u64 (Int.tmod ((t:Int)*(1000000000:Int)+u) (y:Int)))] [])))))) ?_;have ev:((t:Int)*1000000000+(u:Int))=((t*B+u:Nat):Int):=by simp
 simp only [Tree.holds,ze,inR,lo,hi,ev,Y7,YP];have hy:0<y:=by omega
 have hr:(t*B+u)%y<y:=Nat.mod_lt _ hy
 have hq1:(t*B+u)/y<=B+1:=by
  have h7:t*B<=y*B:=aT _ h1
  have:(t*B+u)/y<B+2:=by
   apply Nat.div_lt_of_lt_mul;rw [bN];omega
  omega
 have hst:t*1000000000<=1000000000*1000000000:=aT _ (by omega);generalize hR:qW v y z 2 ((t*B+u)/y) ((t*B+u)%y)=R at hq;generalize hqq:(t*B+u)/y=q at hq1 hR ⊢;generalize hrr:(t*B+u)%y=r at hr hR ⊢;refine⟨by omega,λ_=>⟨by omega,λ_=>⟨⟨by omega,by omega,by omega⟩,λ_=>⟨by omega,λ_=> ?_⟩⟩⟩⟩;refine zb.loop (ι:=I77 v y z R) (λs=>S77 v y z s.q s.r) (λ_=>[]) (λs=>s.n) ⟨q,r,2,by omega,hq1,by omega,hR⟩ 0 ?_ ?_ (by kernel_rfl)
 ·exact⟨by simp [S77],by simp,by kernel_rfl,aI _⟩
 ·rintro⟨q,r,n,hrB,hqB,hnB,hR⟩;refine zb.n zA [2,3,4,12,13] (.side (decide ((1000000000:Int)<=q)=false->inR .u64 ((q:Int)*z)) (.side (decide ((1000000000:Int)<=q)=false->inR .u64 (r*1000000000)) (.side (decide ((1000000000:Int)<=q)=false->inR .u64 ((r:Int)*(1000000000:Int)+v)) (.ite (bif decide ((1000000000:Int)<=q) then true else decide ((r:Int)*(1000000000:Int)+v<(q:Int)*z)) (.side (inR .u64 (q-1)) (.side (inR .u64 ((r:Int)+y)) (.D ((1000000000:Int)<=r+(y:Int)) (.R [.int .u64 (q-1)] []) (.leaf (.back 0 [(2,.int .u64 v),(3,.int .u64 y),(4,.int .u64 z),(12,.int .u64 (q-1)),(13,.int .u64 ((r:Int)+y))] []))))) (.R [.int .u64 q] []))))) ?_;simp only [Tree.holds,ze,inR,lo,hi,Bool.cond_eq_ite];have hqz:q*z<=1000000001*1000000000:=Nat.mul_le_mul (by omega) (by omega);have eqz:((q:Int)*(z:Int))=((q*z:Nat):Int):=by simp
  rw [eqz];have hrb:r*B=1000000000*r:=bJ _ _;generalize hp:q*z=p at hqz ⊢;refine⟨λ_=>by omega,λ_=>⟨λ_=>by omega,λ_=>⟨λ_=>by omega,λ_=>⟨λhc=> ?_,λhc=> ?_⟩⟩⟩⟩
  ·have hcond:B<=q\/r*B+v<q*z:=by
    rw [hp];split at hc
    ·rename_i h; simp only [aK] at h; left; omega
    ·simp only [aK] at hc; right; omega
   have hq0:0<q:=by
    rcases bC q with rfl | h
    ·simp at hcond
    ·exact h
   cases n with
   | zero=>omega
   | succ n=>
    simp only [qW,aP hcond] at hR;refine⟨by omega,λ_=>⟨by omega,λ_=>⟨λhb=> ?_,λhb=> ?_⟩⟩⟩
    ·rw [aP (by simp at hb; omega)] at hR;refine RetR.scal hq rfl ?_;simp only [resV]; congr 1; omega
    ·rw [aO (by simp at hb; omega)] at hR;rw [aP trivial];refine⟨⟨q - 1,r+y,n,by simp at hb; omega,by omega,by rw [bH] at hnB; omega,hR⟩,by show n<n+1; omega,by simp [S77]; omega,by simp,by kernel_rfl,aI _⟩
  ·have hcond:¬ (B<=q\/r*B+v<q*z):=by
    rw [hp];split at hc
    ·cases hc
    ·rename_i h; simp only [aK,aV] at h hc; omega
   refine RetR.scal hq rfl ?_
   have:qW v y z n q r=q:=by
    cases n with
    | zero=>rfl
    | succ n=>simp only [qW,aO hcond]
   simp only [resV]; congr 1; omega
noncomputable def K118:=Go.Sx.aA f118
theorem heap_set{k:IntKind}{o:List Nat}{v:Int}{i d i':Nat}(hv:v=d)(hi:i<o.length)(hi':i'=i):eqH [.arr o.length 1 (updG (natG k o) i' 0 [.int k v])] [.arr (o.set i d).length 1 (natG k (o.set i d))]:=by
 subst hv;subst hi';refine⟨⟨by simp,rfl,?_⟩,by simp [eqH]⟩;have:=vS (k:=k) (l:=o) (v:=(d:Int)) (by omega) hi;simpa using this
def Xu:Ctr:=ctr2 true (λx y=>fits x/\fits y)
 (λx y p=>p=x*y) (λx y p=>(.osl 0 1 0 (canon p).length,[.arr ((canon x).length+(canon y).length) 1 (natG .u32 (padN ((canon x).length+(canon y).length) p))]))
def S76(x y i:Nat)(o:List Nat):KV:=[(0,magS x),(1,magS y),(5,.osl 0 1 0 o.length),Z 6,Z 7,Z 8,(18,magS x),(19,.i ((canon x).length:Nat)),(20,.i (i:Int)),Z 25,Z 26,Z 27]
def S76b(x y i j c:Nat)(o:List Nat):KV:=[(0,magS x),(1,magS y),(5,.osl 0 1 0 o.length),(6,.i (i:Int)),(7,.int .u32 ((canon x).getD i 0:Nat)),(8,.int .u64 (c:Int)),(18,magS x),(19,.i ((canon x).length:Nat)),(20,.i (i:Int)),(25,magS y),(26,.i ((canon y).length:Nat)),(27,.i (j:Int))]
structure I76(x y:Nat) where
 o:List Nat
 i:Nat
 len:o.length=(canon x).length+(canon y).length
 le:i<=(canon x).length
 dg:dig o
 eq:val o=val ((canon x).take i)*y
structure I76b(x y i V:Nat) where
 o:List Nat
 c:Nat
 j:Nat
 len:o.length=(canon x).length+(canon y).length
 le:j<=(canon y).length
 dg:dig o
 cB:c<B
 z:∀ p,i+(canon y).length<=p->o.getD p 0=0
 eq:val o+B^i*B^j*c=V+B^i*(canon x).getD i 0*val ((canon y).take j)
theorem X1{o' Pi Pj op d v a b' c c' V vt vo:Nat}(h1:o'+Pi*Pj*op=vo+Pi*Pj*d)(h2:vo+Pi*Pj*c=V+Pi*a*vt)(h3:B*c'+d=v)(h4:v=a*b'+op+c):o'+Pi*(Pj*B)*c'=V+Pi*a*(vt+Pj*b'):=by grind
theorem V5:zc prog 118 Xu:=by
 refine yZ (fn:=f118) (c:=f118.body.getD .skip) rfl rfl rfl λx y hp O w0 Q hq=> ?_
 replace hq:=hq _ rfl;obtain⟨hx,hy⟩:=hp;simp only [fits] at hx hy hq;have hB:B=1000000000:=rfl;refine zb.n G1.h [0,1,5,6,7,8,18,19,20,25,26,27] (let v1:=Int.toNat ((canon x).length+(canon y).length);.S ((canon x).length+(canon y).length) (.side ((0:Int)<=((canon x).length:Int)+((canon y).length:Int)/\((canon x).length:Int)+((canon y).length:Int)<=((canon x).length:Int)+((canon y).length:Int)/\inR .i64 ((canon x).length+(canon y).length)/\Int.toNat ((canon x).length+(canon y).length)*4<=140737488355328) (.leaf (.loop (lps K118 0).1 (lps K118 0).2 [(0,.sl (canon x).length 1 (natG .u32 (canon x))),(1,.sl (canon y).length 1 (natG .u32 (canon y))),(5,.osl 0 1 0 v1),Z 6,Z 7,Z 8,(18,.sl (canon x).length 1 (natG .u32 (canon x))),(19,.i (canon x).length),(20,.i 0),Z 25,Z 26,Z 27] [.arr v1 1 (qb [.int .u32 0])])))) ?_;simp only [Tree.holds,ze,inR,lo,hi];have esum:((canon x).length:Int)+((canon y).length:Int)=(((canon x).length+(canon y).length:Nat):Int):=by omega
 simp only [esum,aD];refine⟨by omega,λ_=>⟨by omega,λ_=> ?_⟩⟩;refine zb.loop (ι:=I76 x y) (λs=>S76 x y s.i s.o) (λs=>[.arr s.o.length 1 (natG .u32 s.o)]) (λs=>(canon x).length - s.i) ⟨List.replicate ((canon x).length+(canon y).length) 0,0,by simp,aI _,qT _,by simp [j4,val]⟩ 0 ?_ ?_ (by kernel_rfl)
 ·exact⟨by simp [S76,magS,natS,za],by simp [u9],by kernel_rfl,aI _⟩
 ·rintro⟨o,i,hlen,hle,hd,he⟩;refine zb.n G1.h [0,1,5,6,7,8,18,19,20,25,26,27] (.D ((i:Int)<((canon x).length:Int)) (.side ((0:Int)<=i/\(i:Int)<((canon x).length:Int)) (.leaf (.loop (lps (inside K118 0) 0).1 (lps (inside K118 0) 0).2 [(0,.sl (canon x).length 1 (natG .u32 (canon x))),(1,.sl (canon y).length 1 (natG .u32 (canon y))),(5,.osl 0 1 0 o.length),(6,.i i),(7,.int .u32 ↑(List.getD (canon x) (i:Int).toNat 0)),(8,.int .u64 0),(18,.sl (canon x).length 1 (natG .u32 (canon x))),(19,.i (canon x).length),(20,.i i),(25,.sl (canon y).length 1 (natG .u32 (canon y))),(26,.i (canon y).length),(27,.i 0)] [.arr o.length 1 (natG .u32 o)]))) (.ex (λ(u:List Nat)=>u.length=o.length/\0+o.length<=o.length/\o.length<4611686018427387904/\eqG o.length 1 (natG .u32 o) (natG .u32 u)/\dig (List.take o.length (List.drop 0 u))) λn=>.all (λ(x:Nat)=>x=val (List.take o.length (List.drop 0 n))) λn=>.R [.osl 0 1 0 (canon n).length] [.arr o.length 1 (natG .u32 o)])) ?_;simp only [Tree.holds,ze,inR,lo,hi,aD,xA]
  have hz:∀ p,i+(canon y).length<=p->o.getD p 0=0:=by
   intro p hp;refine ZU (n:=i+(canon y).length) ?_ hp;rw [he,Nat.pow_add];have h1:=qu (j3 (zj x) i);have h2:=qu (zj y);rw [zm] at h2;have h3:B^((canon x).take i).length=B^i:=by rw [aH,Nat.min_eq_left hle]
   rw [h3] at h1;exact Nat.mul_lt_mul_of_lt_of_le h1 (Nat.le_of_lt h2) (Nat.pow_pos (by decide))
  refine⟨λhlt=>⟨by simp at hlt; omega,λ_=> ?_⟩,λhge=> ?_⟩
  ·have hlt:i<(canon x).length:=by simp at hlt; omega
   refine zb.loop (ι:=I76b x y i (val o)) (λs=>S76b x y i s.j s.c s.o) (λs=>[.arr s.o.length 1 (natG .u32 s.o)]) (λs=>(canon y).length - s.j) ⟨o,0,0,hlen,aI _,hd,by decide,hz,by simp [val]⟩ 1 ?_ ?_ (by kernel_rfl)
   ·exact⟨by simp [S76b,magS,natS,za],by simp [za],by kernel_rfl,aI _⟩
   ·rintro⟨o2,c,j,hlen2,hle2,hd2,hcB,hz2,he2⟩;refine zb.n G1.h [0,1,5,6,7,8,18,19,20,25,26,27] (let v4:=natG .u32 (canon y);let v3:=natG .u32 (canon x);let v2:=Int.tdiv ((↑(List.getD (canon x) i 0):Int)*(↑(List.getD (canon y) (j:Int).toNat 0):Int)+(↑(o2.getD (0+Int.toNat ((i:Int)+j)) 0):Int)+c) (1000000000:Int);let v1:=Int.tmod ((↑(List.getD (canon x) i 0):Int)*(↑(List.getD (canon y) (j:Int).toNat 0):Int)+(↑(o2.getD (0+Int.toNat ((i:Int)+j)) 0):Int)+c) (1000000000:Int);.D ((j:Int)<((canon y).length:Int)) (.side ((0:Int)<=j/\(j:Int)<((canon y).length:Int)) (.side (inR .u64 ↑(List.getD (canon x) i 0)) (.side (inR .u64 ↑(List.getD (canon y) (j:Int).toNat 0)) (.side (inR .u64 ((↑(List.getD (canon x) i 0):Int)*(↑(List.getD (canon y) (j:Int).toNat 0):Int))) (.S ((i:Int)+j) (.side ((0:Int)<=i+(j:Int)/\(i:Int)+j<(o2.length:Int)) (.side (inR .u64 ↑(o2.getD (0+Int.toNat ((i:Int)+j)) 0)) (.side (inR .u64 ((↑(List.getD (canon x) i 0):Int)*(↑(List.getD (canon y) (j:Int).toNat 0):Int)+(↑(o2.getD (0+Int.toNat ((i:Int)+j)) 0):Int))) (.side (inR .u64 ((↑(List.getD (canon x) i 0):Int)*(↑(List.getD (canon y) (j:Int).toNat 0):Int)+(↑(o2.getD (0+Int.toNat ((i:Int)+j)) 0):Int)+c)) (.S ((i:Int)+j) (.side ((1000000000:Int)≠0) (.side (inR .u32 v1) (.side ((1000000000:Int)≠0/\inR .u64 v2) (.side ((0:Int)<=i+(j:Int)/\(i:Int)+j<(o2.length:Int)) (.S (j+1) (.leaf (.back 1 [(0,.sl (canon x).length 1 v3),(1,.sl (canon y).length 1 v4),(5,.osl 0 1 0 o2.length),(6,.i i),(7,.int .u32 ↑(List.getD (canon x) i 0)),(8,.int .u64 v2),(18,.sl (canon x).length 1 v3),(19,.i (canon x).length),(20,.i i),(25,.sl (canon y).length 1 v4),(26,.i (canon y).length),(27,.i (j+1))] [.arr o2.length 1 (updG (natG .u32 o2) (0+Int.toNat ((i:Int)+j)) 0 [.int .u32 v1])]))))))))))))))))) (.S (i+(canon y).length) (.side ((0:Int)<=i+((canon y).length:Int)/\(i:Int)+((canon y).length:Int)<o2.length) (.side (inR .u32 c) (.side (inR .u32 ((↑(o2.getD (0+Int.toNat (i+(canon y).length)) 0):Int)+c)) (.side ((0:Int)<=i+((canon y).length:Int)/\(i:Int)+((canon y).length:Int)<o2.length) (.S (i+1) (.leaf (.back 0 [(0,.sl (canon x).length 1 v3),(1,.sl (canon y).length 1 v4),(5,.osl 0 1 0 o2.length),(6,.i i),(7,.int .u32 ↑(List.getD (canon x) i 0)),(8,.int .u64 c),(18,.sl (canon x).length 1 v3),(19,.i (canon x).length),(20,.i (i+1)),(25,.sl (canon y).length 1 v4),(26,.i (canon y).length),(27,.i j)] [.arr o2.length 1 (updG (natG .u32 o2) (0+Int.toNat (i+(canon y).length)) 0 [.int .u32 ((↑(o2.getD (0+Int.toNat (i+(canon y).length)) 0):Int)+c)])]))))))))) ?_;have ha:=zL (zj x) i;have hb:=zL (zj y) j;have ho:=zL hd2 (i+j);have e1:((i:Int)+(j:Int))=((i+j:Nat):Int):=by omega
    have e2:((i:Int)+((canon y).length:Int))=((i+(canon y).length:Nat):Int):=by omega
    simp only [Tree.holds,ze,inR,lo,hi,e1,e2,aD,Nat.zero_add];have e3:(((canon x).getD i 0:Nat):Int)*(((canon y).getD j 0:Nat):Int)=(((canon x).getD i 0*(canon y).getD j 0:Nat):Int):=by simp
    have hab:(canon x).getD i 0*(canon y).getD j 0<=999999999*999999999:=Nat.mul_le_mul (by omega) (by omega);generalize hv:(canon x).getD i 0*(canon y).getD j 0+o2.getD (i+j) 0+c=v;have e4:(((canon x).getD i 0:Nat):Int)*(((canon y).getD j 0:Nat):Int)+((o2.getD (i+j) 0:Nat):Int)+(c:Int)=(v:Int):=by rw [e3,<- hv]; omega
    have e5:(1000000000:Int)=((B:Nat):Int):=rfl;have hvB:v<1000000000*1000000000:=by omega
    have hdm:=Nat.div_add_mod v B;have hmod:v%B<B:=Nat.mod_lt _ (by decide);have hdiv:v/B<B:=Nat.div_lt_of_lt_mul hvB;rw [e4,e5,Y7,YP];generalize v/B=c' at hdm hdiv ⊢;generalize v%B=d at hdm hmod ⊢;rw [e3];generalize hab2:(canon x).getD i 0*(canon y).getD j 0=ab at hab hv ⊢;refine⟨λhj=> ?_,λhj=> ?_⟩
    ·have hj:j<(canon y).length:=by simp at hj; omega
     have hp:i+j<o2.length:=by omega
     refine⟨by omega,λ_=>⟨by omega,λ_=>⟨by omega,λ_=>⟨by omega,λ_=>⟨by omega,λ_=>⟨by omega,λ_=>⟨by omega,λ_=>⟨by omega,λ_=>⟨by omega,λ_=>⟨by omega,λ_=>⟨by omega,λ_=>⟨by omega,λ_=>⟨by omega,λ_=>⟨by omega,λ_=>⟨by omega,λ_=> ?_⟩⟩⟩⟩⟩⟩⟩⟩⟩⟩⟩⟩⟩⟩⟩;rw [aP trivial];have hs:=uc o2 (i+j) d hp;refine⟨⟨o2.set (i+j) d,c',j+1,by simpa using hlen2,by omega,Zn hd2 _ hmod,hdiv,λp hp2=> ?_,?_⟩,by show _ - (j+1)<_ - j; omega,by simp [S76b,magS,natS,za],heap_set rfl hp rfl,by kernel_rfl,aI _⟩
     ·have:=hz2 p hp2;simp only [List.getD] at this ⊢;rw [bS (by omega)]; exact this
     ·rw [Nat.pow_add] at hs;rw [Nat.pow_succ,zq];exact X1 hs he2 hdm (by rw [hab2]; omega)
    ·have hj:j=(canon y).length:=by simp at hj; omega
     subst hj;have h0:=hz2 (i+(canon y).length) (aJ _);have hp:i+(canon y).length<o2.length:=by omega
     have hs:=uc o2 (i+(canon y).length) c hp;refine⟨by omega,λ_=>⟨by omega,λ_=>⟨by omega,λ_=>⟨by omega,λ_=>⟨by omega,λ_=>⟨by omega,λ_=> ?_⟩⟩⟩⟩⟩⟩;rw [aO (by decide),aP trivial];refine⟨⟨o2.set (i+(canon y).length) c,i+1,by simpa using hlen2,by omega,Zn hd2 _ hcB,?_⟩,by show _ - (i+1)<_ - i; omega,by simp [S76,magS,natS,za],heap_set (by omega) hp rfl,by kernel_rfl,aI _⟩;rw [h0,Nat.pow_add] at hs;rw [bD,zm] at he2;rw [zq,bH,<- he];simp only [Nat.mul_zero,Nat.add_zero] at hs;rw [hs,he2]
  ·have hge:i=(canon x).length:=by simp at hge; omega
   subst hge;rw [bD,zm] at he;refine⟨o,⟨rfl,by omega,by omega,za _ _ _,by simpa using hd⟩,⟨_,rfl⟩,?_⟩;intro X hX;have hX:X=x*y:=by simpa [he] using hX
   subst hX;refine⟨[0],rfl,by simp,by simp,λ_=>⟨?_,?_⟩,_,_,qw ?_,.inl ?_,rfl,hq⟩
   ·simp [resV,new2,new1,new0,z4]
   ·intro k hk;simp only [List.mem_singleton] at hk;subst hk;intro j o' _ _;rfl
   ·simp [resV,exp2,exp1,exp0,z4,eqA2,eqA]
   ·have hpad:=X8 hd;rw [he,hlen] at hpad;rw [<- hpad];simp [expH,expB,hlen,za]
noncomputable def K114:=Go.Sx.aA f114
noncomputable def G2:=tb xX (tb zdd (tb Wn (tb V5 (tb ze3 (tb Qj tz)))))
theorem jC{k:IntKind}{u:List Nat}{off n X:Nat}(hd:dig ((u.drop off).take n))(hX:val ((u.drop off).take n)=X):eqG (canon X).length 1 (zf (natG k u) off) (natG k (canon X)):=by
 have h:=zO hd;rw [hX] at h;have hl:=qp ((u.drop off).take n);intro j o hj ho;simp only [zf,natG,AV.int.injEq,true_and];rw [<- h] at hj ⊢;simp only [qF,aH] at hj ⊢;have hjn:j<n:=by simp at hj hl; omega
 have e:(List.take (tlen ((u.drop off).take n)) ((u.drop off).take n)).getD j 0=((u.drop off).take n).getD j 0:=by
  simp only [List.getD,bR];rw [aP (by omega)]
 rw [e,xC _ _ _ _ hjn]
theorem x9(k:IntKind)(n:Nat):eqG 1 1 (zd 1 [.int k (n:Int)]) (natG k [n]):=by
 intro j o hj ho;have:j=0:=by omega
 have:o=0:=by omega
 subst_vars; rfl
theorem zar{k:IntKind}{n:Nat}{g:Nat->Nat->AV}{u:List Nat}{off m:Nat}(h:eqG m 1 g (natG k u))(hm:off+n<=m):eqG n 1 (zf g off) (zf (natG k u) off):=by
 intro j o hj ho;exact h (off+j) o (by omega) ho
theorem u0{n sz:Nat}{f g h:Nat->Nat->AV}(h1:eqG n sz f g)(h2:eqG n sz g h):eqG n sz f h:=λj o hj ho=>(h1 j o hj ho).trans (h2 j o hj ho)
theorem wL{d:Nat}(hd:d<B):eqG (canon d).length 1 (zf (zd 1 [.int .u32 (d:Int)]) 0) (natG .u32 (canon d)):=by
 have h1:dig (([d].drop 0).take 1):=by simpa [dig] using hd
 have h2:val (([d].drop 0).take 1)=d:=by simp [val]
 have h3:=jC (k:=.u32) h1 h2;refine u0 (zar (x9 .u32 d) ?_) h3;have:=zy (x:=d) (n:=1) (by simpa using hd);omega
theorem yM{N p:Nat}(hN:(canon p).length<=N):eqG (canon p).length 1 (zf (natG .u32 (padN N p)) 0) (natG .u32 (canon p)):=by
 intro j o hj ho;simp only [zf,natG,Nat.zero_add,padN,AV.int.injEq,true_and];congr 1;simp only [List.getD];rw [bL hj]
theorem zdk(N p i:Nat):(padN N p).getD i 0=(canon p).getD i 0:=by
 simp only [padN,List.getD];by_cases h:i<(canon p).length
 ·rw [bL h]
 ·rw [List.getElem?_append_right (by omega),aZ (show(canon p).length<=i by omega)];cases hh:(List.replicate (N - (canon p).length) 0)[i - (canon p).length]? with
  | none=>rfl
  | some z=>have:=aY hh; simp at this; simp [this.2]
theorem Wm{N p:Nat}(h:(canon p).length<=N):(padN N p).length=N:=by simp [padN]; omega
theorem zfy(N p:Nat):dig (padN N p):=ji.2 ⟨zj _,qT _⟩
theorem xI(x y:Nat):(canon (x*y)).length<=(canon x).length+(canon y).length:=by
 have h1:=qu (zj x);have h2:=qu (zj y);rw [zm] at h1 h2;exact zy (by rw [Nat.pow_add]; exact Nat.mul_lt_mul'' h1 h2)
theorem QY{d:Nat}(h0:0<d)(hB:d<B):(canon d).length=1:=by
 have h1:=zy (x:=d) (n:=1) (by simpa using hB);have h2:=j8 (x:=d) (n:=0) (by simp; omega);omega
def yE:Ctr:=ctr2 false (λx y=>(canon x).length<100000/\(canon y).length<100000/\0<y) (λx y (r:Nat×Nat)=>r=(x/y,x%y)) (λ_ _ r=>(.tup [magS r.1,magS r.2],[]))
def SG(x y s k:Nat):KV:=[(0,magS x),(1,magS y),(4,.nils),(8,.int .u32 (s:Int)),(9,.i (((canon y).length:Nat):Int)),(10,.osl 1 1 0 k),Z 11,Z 12,Z 13,Z 15,Z 151,Z 152]
structure IG(x U:Nat) where
 k:Nat
 o:List Nat
 ko:k<=o.length
 le:o.length<=(canon x).length+1
 dg:dig (o.take k)
 eq:val (o.take k)=U
def SD(y s V ul ql j:Nat):KV:=[Z 0,Z 1,(4,.osl 4 1 0 ql),(8,.int .u32 (s:Int)),(9,.i (((canon y).length:Nat):Int)),(10,.osl 1 1 0 ul),(11,.osl 3 1 0 (canon V).length),(12,.i ((j:Int) - 1)),Z 13,Z 15,Z 151,Z 152]
def HD(y V:Nat)(u q:List Nat):Heap:=[.dead,.arr u.length 1 (natG .u32 u),.dead,.arr ((canon y).length+1) 1 (natG .u32 (padN ((canon y).length+1) V)),.arr q.length 1 (natG .u32 q)]
structure ID(x y V U:Nat) where
 u:List Nat
 q:List Nat
 j:Nat
 ul:u.length=(canon x).length+1
 ql:q.length+(canon y).length=(canon x).length+1
 jq:j<=q.length
 du:dig u
 dq:dig q
 eq:U=V*B^j*val (q.drop j)+val u
 lt:val u<V*B^j
def SC(y s V ul ql j d L i:Nat):KV:=[Z 0,Z 1,(4,.osl 4 1 0 ql),(8,.int .u32 (s:Int)),(9,.i (((canon y).length:Nat):Int)),(10,.osl 1 1 0 ul),(11,.osl 3 1 0 (canon V).length),(12,.i (j:Int)),(13,.int .u64 (d:Int)),(15,magS L),(151,.i (((canon y).length+1:Nat):Int)),(152,.i (i:Int))]
theorem V1{x y s V U m i:Nat}{u q:List Nat}{O:Nat->Prop}{w0:World}{Q:AV×Heap->Prop}{Hs0:Nat->KV->Heap->Prop}(hm:(canon y).length=m+2)(hx:(canon x).length<100000)(hs0:0<s)(hsB:s<B)(hV1:V<B^(m+2))(hV2:B^(m+2)<=2*V)(hVl:(canon V).length=m+2)(hV0:0<V)
  (hul:u.length=(canon x).length+1) (hql:q.length+(canon y).length=(canon x).length+1) (hjq:i+1<=q.length) (hdu:dig u) (hdq:dig q) (heq:U=V*B^(i+1)*val (q.drop (i+1))+val u) (hlt:val u<V*B^(i+1)) {W:Nat} (hW:val ((u.drop i).take (m+2+1))=W) (hWB:W/V<B) (kv:KV) (h:Heap) (hle:LeK 0 f114.ntmps kv h (SC y s V u.length q.length i (W/V) (W%V) 0) (HD y V u q)) :
  zb prog f114 O 0 w0 [] (λd kv h=>if d=0 then ∃ x':ID x y V U,x'.j<i+1/\LeK 0 f114.ntmps kv h (SD y s V x'.u.length x'.q.length x'.j) (HD y V x'.u x'.q) else Hs0 d kv h) (RetR yE 0 Q)
   (.code (.loop (lps (inside (inside K114 0) 0) 0).1)::(lps (inside (inside K114 0) 0) 0).2) (mk f114.ntmps kv h):=by
 have hB:B=1000000000:=rfl;have c2:0+(i:Int).toNat=i:=by omega
 have hLV:=Nat.mod_lt W hV0;have hLl:(canon (W%V)).length<=m+2:=zy (by omega);refine zb.loop (ι:={k:Nat // k<=m+2+1}) (λk=>SC y s V u.length q.length i (W/V) (W%V) k.1) (λk=>HD y V (mixL u (canon (W%V)) i k.1) q) (λk=>m+2+1 - k.1) ⟨0,aI _⟩ 1 ?_ ?_ (by kernel_rfl)
 ·simpa only [UX] using hle
 ·rintro⟨k,hk⟩;obtain⟨L,hL⟩:∃ L,W%V=L:=⟨_,rfl⟩;obtain⟨d,hd⟩:∃ d,W/V=d:=⟨_,rfl⟩;simp only [hL,hd];obtain⟨u',hu'⟩:∃ u',mixL u (canon L) i k=u':=⟨_,rfl⟩;have hu'l:u'.length=u.length:=by rw [<- hu',VA]
  simp only [hu',<- hu'l];rw [hL] at hLl hLV;refine zb.n G2.h [0,1,4,8,9,10,11,12,13,15,151,152] (let v5:=inR .i64 (k+1);let v3:=updG (natG .u32 u') (0+Int.toNat ((i:Int)+k)) 0 [.int .u32 0];let v2:=List.length (canon y)+1;let v4:=natG .u32 (padN v2 V);let v1:List (Nat×AV):=[Z 0,Z 1,(4,.osl 4 1 0 q.length),(8,.int .u32 s),(9,.i (canon y).length),(10,.osl 1 1 0 u'.length),(11,.osl 3 1 0 (canon V).length),(12,.i i),(13,.int .u64 d),(15,.sl (canon L).length 1 (natG .u32 (canon L))),(151,.int .i64 ↑(List.length (canon y)+1)),(152,.i (k+1))];.D ((k:Int)<(↑(List.length (canon y)+1):Int)) (.S ((i:Int)+k) (.side ((0:Int)<=i+(k:Int)/\(i:Int)+k<(u'.length:Int)) (.D ((k:Int)<((canon L).length:Int)) (.S ((i:Int)+k) (.side ((0:Int)<=k/\(k:Int)<((canon L).length:Int)) (.side ((0:Int)<=i+(k:Int)/\(i:Int)+k<(u'.length:Int)) (.side v5 (.leaf (.back 1 v1 [.dead,.arr u'.length 1 (updG v3 (0+Int.toNat ((i:Int)+k)) 0 [.int .u32 ↑(List.getD (canon L) (k:Int).toNat 0)]),.dead,.arr v2 1 v4,.arr q.length 1 (natG .u32 q)])))))) (.side v5 (.leaf (.back 1 v1 [.dead,.arr u'.length 1 v3,.dead,.arr v2 1 v4,.arr q.length 1 (natG .u32 q)])))))) (.side (inR .u32 d) (.side ((0:Int)<=i/\(i:Int)<q.length) (.S (i-1) (.leaf (.back 0 [Z 0,Z 1,(4,.osl 4 1 0 q.length),(8,.int .u32 s),(9,.i (canon y).length),(10,.osl 1 1 0 u'.length),(11,.osl 3 1 0 (canon V).length),(12,.i (i-1)),(13,.int .u64 d),(15,.sl (canon L).length 1 (natG .u32 (canon L))),(151,.int .i64 ↑(List.length (canon y)+1)),(152,.i k)] [.dead,.arr u'.length 1 (natG .u32 u'),.dead,.arr v2 1 v4,.arr q.length 1 (updG (natG .u32 q) (0+Int.toNat i) 0 [.int .u32 d])])))))) ?_;have ek:0+((i:Int)+(k:Int)).toNat=i+k:=by omega
  have ek1:((k:Int)+1)=((k+1:Nat):Int):=by omega
  simp only [Tree.holds,ze,inR,lo,hi,ek,ek1,c2,aD];refine⟨λhlt=> ?_,λhge=> ?_⟩
  ·have hlt:k<m+2+1:=by simp at hlt; omega
   have hik:i+k<u'.length:=by omega
   refine⟨by omega,λ_=>⟨by omega,λ_=>⟨λhin=> ?_,λhout=> ?_⟩⟩⟩
   ·have hin:k<(canon L).length:=by simp at hin; omega
    iterate 4 refine⟨by omega,λ_=> ?_⟩
    rw [aP trivial];refine⟨⟨k+1,by omega⟩,by show m+2+1 - (k+1)<m+2+1 - k; omega,by simp [SC,magS,natS,za],?_,by kernel_rfl,aI _⟩;have hs2:=VF u (canon L) i k 0;rw [hu'] at hs2;simp only [<- hs2];refine⟨trivial,⟨by simp,rfl,?_⟩,trivial,by simp [za],by simp [za],trivial⟩;have h1:=vS (k:=.u32) (l:=u') (v:=0) (i:=i+k) (by omega) hik;have h2:=vS (k:=.u32) (l:=u'.set (i+k) 0) (v:=((canon L).getD k 0:Nat)) (i:=i+k) (by omega) (by simpa using hik);simp only [List.length_set,aD] at h2;refine u0 ?_ h2;intro p o hp ho;have:=h1 p o hp ho;simp only [updG] at this ⊢;split
    ·rfl
    ·exact this
   ·have hout:(canon L).length<=k:=by simp at hout; omega
    refine⟨by omega,λ_=> ?_⟩;rw [aP trivial];refine⟨⟨k+1,by omega⟩,by show m+2+1 - (k+1)<m+2+1 - k; omega,by simp [SC,magS,natS,za],?_,by kernel_rfl,aI _⟩;have hs2:=VF u (canon L) i k 0;rw [hu'] at hs2;have hz:(canon L).getD k 0=0:=by simp [List.getD,aZ hout]
    rw [hz,List.set_set] at hs2;simp only [<- hs2];refine⟨trivial,⟨by simp,rfl,?_⟩,trivial,by simp [za],by simp [za],trivial⟩;exact vS (k:=.u32) (l:=u') (v:=0) (i:=i+k) (by omega) hik
  ·have hk:k=m+2+1:=by simp at hge; omega
   subst hk;have hdB:d<B:=hd▸hWB
   iterate 3 refine⟨by omega,λ_=> ?_⟩
   rw [aO (by decide),aP trivial];have hval:=zbq (u:=u) (L:=L) (j:=i) (k:=m+2+1) (by omega) (by omega);rw [hu'] at hval;have hst:=step_eq (u:=u) (u':=u') (q:=q) (j:=i) (k:=m+2+1) (V:=V) (U0:=U) hdu (by omega) (by simpa using hV1) (by omega) hV0 hlt (by omega) heq (by rw [hW,hL]; exact hval);rw [hW,hd] at hst;refine⟨⟨u',q.set i d,i,by omega,by simpa using hql,by simp; omega,?_,Zn hdq _ hdB,hst.2,hst.1⟩,Nat.lt_succ_self _,by simp [SD,za],?_,by kernel_rfl,aI _⟩
   ·rw [<- hu']; exact zd0 hdu (zj _) _ _
   ·refine⟨trivial,⟨rfl,rfl,za _ _ _⟩,trivial,⟨rfl,rfl,za _ _ _⟩,⟨by simp,rfl,?_⟩,trivial⟩;have:=vS (k:=.u32) (l:=q) (v:=(d:Int)) (i:=i) (by omega) (by omega);simpa using this
abbrev q13(A:List AV)(x:Nat×Nat):Prop:=eqL A [.sl (canon x.1).length 1 (natG .u32 (canon x.1)),.int .u32 x.2]/\fits x.1/\0<x.2/\x.2<1000000000
abbrev q12(A:List AV)(x:Nat×Nat):Prop:=eqL A [.sl (canon x.1).length 1 (natG .u32 (canon x.1)),.sl (canon x.2).length 1 (natG .u32 (canon x.2))]/\fits x.1/\x.2<=x.1
abbrev q11(A:List AV)(x:Nat×Nat):Prop:=eqL A [.sl (canon x.1).length 1 (natG .u32 (canon x.1)),.sl (canon x.2).length 1 (natG .u32 (canon x.2))]/\fits x.1/\fits x.2
abbrev q10(A:List AV)(x:D5):Prop:=eqL A [.int .u64 ↑x.t,.int .u64 ↑x.u,.int .u64 ↑x.v,.int .u64 ↑x.y,.int .u64 ↑x.z]/\D5.t x<=D5.y x/\D5.u x<1000000000/\D5.v x<1000000000/\D5.y x<1000000000/\D5.z x<1000000000/\1000000000<=2*D5.y x
set_option maxHeartbeats 2000000 in
theorem Wz{x y s V U m i:Nat}{u q:List Nat}{O:Nat->Prop}{w0:World}{Q:AV×Heap->Prop}{Hs0:Nat->KV->Heap->Prop}(hm:(canon y).length=m+2)(hx:(canon x).length<100000)(hs0:0<s)(hsB:s<B)(hV1:V<B^(m+2))(hV2:B^(m+2)<=2*V)(hVl:(canon V).length=m+2)(hV0:0<V)
  (hul:u.length=(canon x).length+1) (hql:q.length+(canon y).length=(canon x).length+1) (hjq:i+1<=q.length) (hdu:dig u) (hdq:dig q) (heq:U=V*B^(i+1)*val (q.drop (i+1))+val u) (hlt:val u<V*B^(i+1)) :
  zb prog f114 O 0 w0 [] (λd kv h=>if d=0 then ∃ x':ID x y V U,x'.j<i+1/\LeK 0 f114.ntmps kv h (SD y s V x'.u.length x'.q.length x'.j) (HD y V x'.u x'.q) else Hs0 d kv h) (RetR yE 0 Q) (inside (inside K114 0) 0) (mk f114.ntmps (SD y s V u.length q.length (i+1)) (HD y V u q)):=by
 have hB:B=1000000000:=rfl;refine zb.n G2.h [0,1,4,8,9,10,11,12,13,15,151,152] (let v15:=natG .u32 q;let v13:=inR .i64 ((canon y).length+1);let v10:=List.length (canon y)+1;let v9:=natG .u32 u;let v8:=lps (inside (inside K114 0) 0) 0;let v6:=zf v9 (0+Int.toNat ((↑(i+1):Int) - (1:Int)));let v5:=inR .i64 ((↑(i+1):Int) - (1:Int)+((canon y).length:Int)+(1:Int));let v4:=padN v10 V;let v12:=natG .u32 v4;let v2:=inR .i64 ((↑(i+1):Int) - (1:Int)+((canon y).length:Int));let v1:=Int.toNat ((↑(i+1):Int) - (1:Int)+((canon y).length:Int)+(1:Int)) - Int.toNat ((↑(i+1):Int) - (1:Int));.D ((0:Int)<=(↑(i+1):Int) - (1:Int)) (.side v2 (.side ((0:Int)<=(↑(i+1):Int) - (1:Int)+((canon y).length:Int)/\(↑(i+1):Int) - (1:Int)+((canon y).length:Int)<u.length) (.side (inR .u64 ↑(u.getD (0+Int.toNat ((↑(i+1):Int) - (1:Int)+((canon y).length:Int))) 0)) (.side v2 (.S ((↑(i+1):Int) - (1:Int)+((canon y).length:Int) - (1:Int)) (.side ((0:Int)<=(↑(i+1):Int) - (1:Int)+((canon y).length:Int) - (1:Int)/\(↑(i+1):Int) - (1:Int)+((canon y).length:Int) - (1:Int)<u.length) (.side (inR .u64 ↑(u.getD (0+Int.toNat ((↑(i+1):Int) - (1:Int)+((canon y).length:Int) - (1:Int))) 0)) (.side v2 (.S ((↑(i+1):Int) - (1:Int)+((canon y).length:Int) - (2:Int)) (.side ((0:Int)<=(↑(i+1):Int) - (1:Int)+((canon y).length:Int) - (2:Int)/\(↑(i+1):Int) - (1:Int)+((canon y).length:Int) - (2:Int)<u.length) (.side (inR .u64 ↑(u.getD (0+Int.toNat ((↑(i+1):Int) - (1:Int)+((canon y).length:Int) - (2:Int))) 0)) (.S ((canon y).length-1) (.side ((0:Int)<=((canon y).length:Int) - (1:Int)/\((canon y).length:Int) - (1:Int)<((canon V).length:Int)) (.side (inR .u64 ↑(List.getD v4 (0+Int.toNat ((canon y).length-1)) 0)) (.S ((canon y).length-2) (.side ((0:Int)<=((canon y).length:Int) - (2:Int)/\((canon y).length:Int) - (2:Int)<((canon V).length:Int)) (.side (inR .u64 ↑(List.getD v4 (0+Int.toNat ((canon y).length-2)) 0)) (.ex (q10 [.int .u64 ↑(u.getD (0+Int.toNat ((↑(i+1):Int) - (1:Int)+((canon y).length:Int))) 0),.int .u64 ↑(u.getD (0+Int.toNat ((↑(i+1):Int) - (1:Int)+((canon y).length:Int) - (1:Int))) 0),.int .u64 ↑(u.getD (0+Int.toNat ((↑(i+1):Int) - (1:Int)+((canon y).length:Int) - (2:Int))) 0),.int .u64 ↑(List.getD v4 (0+Int.toNat ((canon y).length-1)) 0),.int .u64 ↑(List.getD v4 (0+Int.toNat ((canon y).length-2)) 0)]) λn=>.all (λ(n_1:Nat)=>n_1=qW n.v n.y n.z 2 ((D5.t n*1000000000+D5.u n)/D5.y n) ((D5.t n*1000000000+D5.u n)%D5.y n)) λn=>let v14:=zd 1 [.int .u32 (n-1)];.side (inR .u32 n) (.ex (λ(u:List Nat)=>u.length=1/\1<=1/\1<4611686018427387904/\eqG 1 1 (zd 1 [.int .u32 n]) (natG .u32 u)/\dig (List.take 1 (List.drop 0 u))) λn_1=>.all (λ(x:Nat)=>x=val (List.take 1 (List.drop 0 n_1))) λn_2=>.ex (q11 [.sl (canon V).length 1 (zf v12 0),.sl (canon n_2).length 1 (zf (zd 1 [.int .u32 n]) 0)]) λn_3=>let v3:=List.length (canon n_3.1)+List.length (canon n_3.2);.all (λ(p:Nat)=>p=n_3.1*n_3.2) λn_4=>let v11:=natG .u32 (padN v3 n_4);.side v2 (.side v5 (.side ((0:Int)<=(↑(i+1):Int) - (1:Int)/\(↑(i+1):Int) - (1:Int)<=(↑(i+1):Int) - (1:Int)+((canon y).length:Int)+(1:Int)/\(↑(i+1):Int) - (1:Int)+((canon y).length:Int)+(1:Int)<=u.length) (.ex (λ(u_1:List Nat)=>u_1.length=u.length/\0+Int.toNat ((↑(i+1):Int) - (1:Int))+(Int.toNat ((↑(i+1):Int) - (1:Int)+((canon y).length:Int)+(1:Int)) - Int.toNat ((↑(i+1):Int) - (1:Int)))<=u.length/\Int.toNat ((↑(i+1):Int) - (1:Int)+((canon y).length:Int)+(1:Int)) - Int.toNat ((↑(i+1):Int) - (1:Int))<4611686018427387904/\eqG u.length 1 v9 (natG .u32 u_1)/\dig (List.take v1 (List.drop (0+Int.toNat ((↑(i+1):Int) - (1:Int))) u_1))) λn_5=>.all (λ(x:Nat)=>x=val (List.take v1 (List.drop (0+Int.toNat ((↑(i+1):Int) - (1:Int))) n_5))) λn_6=>.ex (q11 [.sl (canon n_6).length 1 v6,.sl (canon n_4).length 1 (zf v11 0)]) λn_7=>.all (λ(r:Int)=>r=cmp3 n_7.1 n_7.2) λn_8=>.D (n_8<0) (.side (inR .u64 (n-1)) (.side (inR .u32 (n-1)) (.ex (λ(u:List Nat)=>u.length=1/\1<=1/\1<4611686018427387904/\eqG 1 1 v14 (natG .u32 u)/\dig (List.take 1 (List.drop 0 u))) λn_9=>.all (λ(x:Nat)=>x=val (List.take 1 (List.drop 0 n_9))) λn_10=>.ex (q11 [.sl (canon V).length 1 (zf v12 0),.sl (canon n_10).length 1 (zf v14 0)]) λn_11=>let v7:=List.length (canon n_11.1)+List.length (canon n_11.2);.all (λ(p:Nat)=>p=n_11.1*n_11.2) λn_12=>.side v2 (.side v5 (.side ((0:Int)<=(↑(i+1):Int) - (1:Int)/\(↑(i+1):Int) - (1:Int)<=(↑(i+1):Int) - (1:Int)+((canon y).length:Int)+(1:Int)/\(↑(i+1):Int) - (1:Int)+((canon y).length:Int)+(1:Int)<=u.length) (.ex (λ(u_1:List Nat)=>u_1.length=u.length/\0+Int.toNat ((↑(i+1):Int) - (1:Int))+(Int.toNat ((↑(i+1):Int) - (1:Int)+((canon y).length:Int)+(1:Int)) - Int.toNat ((↑(i+1):Int) - (1:Int)))<=u.length/\Int.toNat ((↑(i+1):Int) - (1:Int)+((canon y).length:Int)+(1:Int)) - Int.toNat ((↑(i+1):Int) - (1:Int))<4611686018427387904/\eqG u.length 1 v9 (natG .u32 u_1)/\dig (List.take v1 (List.drop (0+Int.toNat ((↑(i+1):Int) - (1:Int))) u_1))) λn_13=>.all (λ(x:Nat)=>x=val (List.take v1 (List.drop (0+Int.toNat ((↑(i+1):Int) - (1:Int))) n_13))) λn_14=>.ex (q12 [.sl (canon n_14).length 1 v6,.sl (canon n_12).length 1 (zf (natG .u32 (padN v7 n_12)) 0)]) λn_15=>.all (λ(d:Nat)=>d=n_15.1 - n_15.2) λn_16=>.side v13 (.leaf (.loop v8.1 v8.2 [Z 0,Z 1,(4,.osl 4 1 0 q.length),(8,.int .u32 s),(9,.i (canon y).length),(10,.osl 1 1 0 u.length),(11,.osl 3 1 0 (canon V).length),(12,.i ((↑(i+1):Int) - (1:Int))),(13,.int .u64 (n-1)),(15,.sl (canon n_16).length 1 (natG .u32 (canon n_16))),(151,.i ((canon y).length+1)),(152,.i 0)] [.dead,.arr u.length 1 v9,.dead,.arr v10 1 v12,.arr q.length 1 v15,.arr 1 1 (zd 1 [.int .u32 n]),.arr v3 1 v11,.arr 1 1 (zd 1 [.int .u32 (n-1)]),.arr v7 1 (natG .u32 (padN v7 n_12))])))))))) (.side v2 (.side v5 (.side ((0:Int)<=(↑(i+1):Int) - (1:Int)/\(↑(i+1):Int) - (1:Int)<=(↑(i+1):Int) - (1:Int)+((canon y).length:Int)+(1:Int)/\(↑(i+1):Int) - (1:Int)+((canon y).length:Int)+(1:Int)<=u.length) (.ex (λ(u_1:List Nat)=>u_1.length=u.length/\0+Int.toNat ((↑(i+1):Int) - (1:Int))+(Int.toNat ((↑(i+1):Int) - (1:Int)+((canon y).length:Int)+(1:Int)) - Int.toNat ((↑(i+1):Int) - (1:Int)))<=u.length/\Int.toNat ((↑(i+1):Int) - (1:Int)+((canon y).length:Int)+(1:Int)) - Int.toNat ((↑(i+1):Int) - (1:Int))<4611686018427387904/\eqG u.length 1 v9 (natG .u32 u_1)/\dig (List.take v1 (List.drop (0+Int.toNat ((↑(i+1):Int) - (1:Int))) u_1))) λn_9=>.all (λ(x:Nat)=>x=val (List.take v1 (List.drop (0+Int.toNat ((↑(i+1):Int) - (1:Int))) n_9))) λn_10=>.ex (q12 [.sl (canon n_10).length 1 v6,.sl (canon n_4).length 1 (zf v11 0)]) λn_11=>.all (λ(d:Nat)=>d=n_11.1 - n_11.2) λn_12=>.side v13 (.leaf (.loop v8.1 v8.2 [Z 0,Z 1,(4,.osl 4 1 0 q.length),(8,.int .u32 s),(9,.i (canon y).length),(10,.osl 1 1 0 u.length),(11,.osl 3 1 0 (canon V).length),(12,.i ((↑(i+1):Int) - (1:Int))),(13,.int .u64 n),(15,.sl (canon n_12).length 1 (natG .u32 (canon n_12))),(151,.i ((canon y).length+1)),(152,.i 0)] [.dead,.arr u.length 1 v9,.dead,.arr v10 1 v12,.arr q.length 1 v15,.arr 1 1 (zd 1 [.int .u32 n]),.arr v3 1 v11])))))))))))))))))))))))))))) (.ex (λ(u_1:List Nat)=>u_1.length=u.length/\0+u.length<=u.length/\u.length<4611686018427387904/\eqG u.length 1 v9 (natG .u32 u_1)/\dig (List.take u.length (List.drop 0 u_1))) λn=>.all (λ(x:Nat)=>x=val (List.take u.length (List.drop 0 n))) λn=>.ex (q13 [.sl (canon n).length 1 (zf v9 0),.int .u32 s]) λn=>.all (λ(r:Nat×Nat)=>r=(n.1/n.2,n.1%n.2)) λn=>.ex (λ(u:List Nat)=>u.length=q.length/\0+q.length<=q.length/\q.length<4611686018427387904/\eqG q.length 1 v15 (natG .u32 u)/\dig (List.take q.length (List.drop 0 u))) λn_1=>.all (λ(x:Nat)=>x=val (List.take q.length (List.drop 0 n_1))) λn_2=>.R [.osl 4 1 0 (canon n_2).length,.sl (canon n.1).length 1 (natG .u32 (canon n.1))] [.dead,.arr u.length 1 v9,.dead,.arr v10 1 v12,.arr q.length 1 v15])) ?_;simp only [q10,q11,q12,q13,Tree.holds,ze,inR,lo,hi];refine⟨λhj=> ?_,λhj=>by simp at hj⟩;have ej:(((i+1:Nat):Int) - 1)=(i:Int):=by omega
 have a1:0+((i:Int)+((canon y).length:Int)).toNat=i+(m+2):=by omega
 have a2:0+((i:Int)+((canon y).length:Int) - 1).toNat=i+(m+1):=by omega
 have a3:0+((i:Int)+((canon y).length:Int) - 2).toNat=i+m:=by omega
 have b1:0+(((canon y).length:Int) - 1).toNat=m+1:=by omega
 have b2:0+(((canon y).length:Int) - 2).toNat=m:=by omega
 have c1:((i:Int)+((canon y).length:Int)+1).toNat - (i:Int).toNat=m+2+1:=by omega
 have c2:0+(i:Int).toNat=i:=by omega
 simp only [ej,a1,a2,a3,b1,b2,c1,c2,zdk];have hu1:=zL hdu (i+(m+2));have hu2:=zL hdu (i+(m+1));have hu3:=zL hdu (i+m);have hv1:=zL (zj V) (m+1);have hv2:=zL (zj V) m
 iterate 17 refine⟨by omega,λ_=> ?_⟩
 obtain⟨W,hW⟩:∃ W,val ((u.drop i).take (m+2+1))=W:=⟨_,rfl⟩;have hdw:dig ((u.drop i).take (m+2+1)):=j3 (ZH hdu _) _
 have hWl:(canon W).length<=m+2+1:=by
  refine zy ?_;have:=qu hdw;rw [hW,aH] at this;exact bB this (bW (by decide) (Nat.min_le_left _ _))
 obtain⟨g1,g2,g3,g4,g5,g6⟩:=ze6 hdu (by omega) hVl hV2 hlt hW rfl;refine⟨⟨u.getD (i+(m+2)) 0,u.getD (i+(m+1)) 0,u.getD (i+m) 0,(canon V).getD (m+1) 0,(canon V).getD m 0⟩,⟨by simp,g3,hu2,hu3,hv1,hv2,g2⟩,⟨_,rfl⟩,?_⟩;intro d hd;simp only at hd;rw [<- hd] at g4 g5 g6;clear hd;have hWVB:W/V<B:=by omega
 have fin:=V1 (x:=x) (y:=y) (s:=s) (V:=V) (U:=U) (O:=O) (w0:=w0) (Q:=Q) (Hs0:=Hs0) hm hx hs0 hsB hV1 hV2 hVl hV0 hul hql hjq hdu hdq heq hlt hW hWVB;have hdm:=Nat.div_add_mod W V;have hmlt:=Nat.mod_lt W hV0;have hul2:i+(m+2+1)<=u.length:=by omega
 have hul3:u.length<100002:=by omega
 clear heq hlt hul hql hjq hdq hx hs0 hsB hV2 g1 g2 g3 hu1 hu2 hu3 hv1 hv2 hj a1 a2 a3 b1 b2;generalize W/V=qd at *
 generalize W%V=rm at *
 refine⟨by omega,λ_=> ?_⟩;refine⟨[d],⟨rfl,by omega,by omega,x9 _ _,by simpa [dig] using g6⟩,⟨_,rfl⟩,?_⟩;intro D hD;have hD:D=d:=by simpa [val] using hD
 subst hD;have hdl:=zy (x:=D) (n:=1) (by simpa using g6);refine⟨(V,D),⟨?_,by simp only [fits]; omega,by simp only [fits]; omega⟩,⟨_,rfl⟩,?_⟩
 ·simp only [eqL,eqA,eqA0,true_and,and_true];exact⟨yM (by omega),wL g6⟩
 intro p hp;simp only at hp ⊢;have hpl:=xI V D;rw [<- hp] at hpl
 iterate 3 refine⟨by omega,λ_=> ?_⟩
 refine⟨u,⟨rfl,hul2,by omega,za _ _ _,hdw⟩,⟨_,rfl⟩,?_⟩;intro W' hW';have hW':W'=W:=hW'.trans hW;subst hW';refine⟨(W',p),⟨?_,by simp only [fits]; omega,by simp only [fits]; omega⟩,⟨_,rfl⟩,?_⟩
 ·simp only [eqL,eqA,eqA0,true_and,and_true];exact⟨jC hdw hW,yM hpl⟩
 rintro c rfl;refine⟨λhlt2=> ?_,λhge2=> ?_⟩
 ·have hlt2:W'<p:=by
   simp only [cmp3,aK] at hlt2;rcases aR W' p with h | h
   ·exact h
   ·rw [aO (by omega)] at hlt2; split at hlt2<;>omega
  have hDQ:D=qd+1:=by
   rcases aR qd D with h | h
   ·omega
   ·have:V*D<=V*qd:=aS _ h;omega
  have e3:((D:Int) - 1)=((qd:Nat):Int):=by omega
  simp only [e3];have hQl:=zy (x:=qd) (n:=1) (by simpa using hWVB)
  iterate 2 refine⟨by omega,λ_=> ?_⟩
  refine⟨[qd],⟨rfl,by omega,by omega,x9 _ _,by simpa [dig] using hWVB⟩,⟨_,rfl⟩,?_⟩;intro E hE;have hE:E=qd:=by simpa [val] using hE
  subst hE;refine⟨(V,E),⟨?_,by simp only [fits]; omega,by simp only [fits]; omega⟩,⟨_,rfl⟩,?_⟩
  ·simp only [eqL,eqA,eqA0,true_and,and_true];exact⟨yM (by omega),wL hWVB⟩
  intro p2 hp2;simp only at hp2 ⊢;have hp2l:=xI V E;rw [<- hp2] at hp2l
  iterate 3 refine⟨by omega,λ_=> ?_⟩
  refine⟨u,⟨rfl,hul2,by omega,za _ _ _,hdw⟩,⟨_,rfl⟩,?_⟩;intro W2 hW2;have hW2:W2=W':=hW2.trans hW;subst hW2;refine⟨(W2,p2),⟨?_,by simp only [fits]; omega,by simp only; omega⟩,⟨_,rfl⟩,?_⟩
  ·simp only [eqL,eqA,eqA0,true_and,and_true];exact⟨jC hdw hW,yM hp2l⟩
  intro L hL;simp only at hL ⊢;have hL:L=rm:=by omega
  subst hL;refine⟨by omega,λ_=> ?_⟩;refine fin _ _ ⟨by simp [SC,magS,natS,za,hVl],?_,by kernel_rfl,aI _⟩;simp [HD,za]
 ·have hge2:p<=W':=by
   simp only [cmp3,aV] at hge2;rcases aR W' p with h | h
   ·rw [aP h] at hge2; omega
   ·exact h
  have hDQ:D=qd:=by
   rcases aR qd D with h | h
   ·have:V*(qd+1)<=V*D:=aS _ h;rw [bN] at this;omega
   ·omega
  subst hDQ
  iterate 3 refine⟨by omega,λ_=> ?_⟩
  refine⟨u,⟨rfl,hul2,by omega,za _ _ _,hdw⟩,⟨_,rfl⟩,?_⟩;intro W2 hW2;have hW2:W2=W':=hW2.trans hW;subst hW2;refine⟨(W2,p),⟨?_,by simp only [fits]; omega,hge2⟩,⟨_,rfl⟩,?_⟩
  ·simp only [eqL,eqA,eqA0,true_and,and_true];exact⟨jC hdw hW,yM hpl⟩
  intro L hL;simp only at hL ⊢;have hL:L=rm:=by omega
  subst hL;refine⟨by omega,λ_=> ?_⟩;refine fin _ _ ⟨by simp [SC,magS,natS,za,hVl],?_,by kernel_rfl,aI _⟩;simp [HD,za]
set_option maxHeartbeats 4000000 in
theorem J7:zc prog 114 yE:=by
 refine yZ (fn:=f114) (c:=f114.body.getD .skip) rfl rfl rfl λx y hp O w0 Q hq=> ?_
 replace hq:=hq _ rfl;obtain⟨hx,hy,hy0⟩:=hp;simp only at hq;have hB:B=1000000000:=rfl;refine zb.n G2.h [0,1,4,8,9,10,11,12,13,15,151,152] (let v3:=natG .u32 (canon x);let v2:=Int.toNat ((canon y).length-1);let v1:=Int.tdiv (1000000000:Int) ((↑(List.getD (canon y) v2 0):Int)+(1:Int));.ex (q11 [.sl (canon x).length 1 v3,.sl (canon y).length 1 (natG .u32 (canon y))]) λn=>.all (λ(r:Int)=>r=cmp3 n.1 n.2) λn=>.D (n<0) (.R [.nils,.sl (canon x).length 1 v3] []) (.D (((canon y).length:Int)=1) (.side ((0:Int)<=0/\(0:Int)<((canon y).length:Int)) (.ex (q13 [.sl (canon x).length 1 v3,.int .u32 ↑(List.getD (canon y) 0 0)]) λn=>.all (λ(r:Nat×Nat)=>r=(n.1/n.2,n.1%n.2)) λn=>.ex (λ(u:List Nat)=>u.length=1/\1<=1/\1<4611686018427387904/\eqG 1 1 (zd 1 [.int .u32 n.2]) (natG .u32 u)/\dig (List.take 1 (List.drop 0 u))) λn_1=>.all (λ(x:Nat)=>x=val (List.take 1 (List.drop 0 n_1))) λn_2=>.R [.sl (canon n.1).length 1 (natG .u32 (canon n.1)),.osl 0 1 0 (canon n_2).length] [.arr 1 1 (zd 1 [.int .u32 n.2])])) (.S ((canon y).length-1) (.side ((0:Int)<=((canon y).length:Int) - (1:Int)/\((canon y).length:Int) - (1:Int)<((canon y).length:Int)) (.side (inR .u64 ↑(List.getD (canon y) v2 0)) (.side (inR .u64 ((↑(List.getD (canon y) v2 0):Int)+(1:Int))) (.side ((↑(List.getD (canon y) v2 0):Int)+(1:Int)≠0/\inR .u64 v1) (.side (inR .u32 v1) (.ex (q11 [.sl (canon x).length 1 v3,.sl 1 1 (zf (zd 1 [.int .u32 v1]) 0)]) λn=>let v4:=List.length (canon n.1)+List.length (canon n.2);.all (λ(p:Nat)=>p=n.1*n.2) λn_1=>.leaf (.loop (lps K114 0).1 (lps K114 0).2 [(0,.sl (canon x).length 1 v3),(1,.sl (canon y).length 1 (natG .u32 (canon y))),(4,.nils),(8,.int .u32 v1),(9,.i (canon y).length),(10,.osl 1 1 0 (canon n_1).length),Z 11,Z 12,Z 13,Z 15,Z 151,Z 152] [.arr 1 1 (zd 1 [.int .u32 v1]),.arr v4 1 (natG .u32 (padN v4 n_1))])))))))))) ?_;simp only [q11,q13,Tree.holds,ze,inR,lo,hi];refine⟨(x,y),⟨by simp [za],by simp only [fits]; omega,by simp only [fits]; omega⟩,⟨_,rfl⟩,?_⟩;rintro c rfl;have hyl:0<(canon y).length:=j8 (n:=0) (by simp; omega);refine⟨λhlt=> ?_,λhge=>⟨λh1=>⟨by omega,λ_=> ?_⟩,λhn=> ?_⟩⟩
 ·have hxy:x<y:=by
   simp only [cmp3,aK] at hlt;rcases aR x y with h | h
   ·exact h
   ·rw [aO (by omega)] at hlt; split at hlt<;>omega
  rw [Nat.div_eq_of_lt hxy,Nat.mod_eq_of_lt hxy] at hq;refine RetR.out0 hq (λh=>by cases h) ?_;simp [resV,exp2,exp1,exp0,ren0,eqA2,eqL1,magS,natS,zH,za]
 ·have h1:(canon y).length=1:=by simp at h1; omega
  have hyd:y=(canon y).getD 0 0:=by
   have:=zm y;obtain⟨a,ha⟩:=List.length_eq_one_iff.1 h1;rw [ha] at this ⊢;simp [val] at this ⊢; omega
  have hyB:y<B:=hyd▸zL (zj y) 0;rw [<- hyd];refine⟨(x,y),⟨by simp [za],by simp only [fits]; omega,hy0,hyB⟩,⟨_,rfl⟩,?_⟩;rintro r rfl;have hm:=Nat.mod_lt x hy0;have hmB:x%y<B:=by omega
  refine⟨[x%y],⟨rfl,by omega,by omega,x9 _ _,by simpa [dig] using hmB⟩,⟨_,rfl⟩,?_⟩;intro X hX;have hX:X=x%y:=by simpa [val] using hX
  subst hX;refine RetR.out0 hq (λh=>by cases h) ?_;simp only [resV,exp2,List.map_cons,List.map_nil,exp1,exp0,ren0,z4,frz1,jI,List.getElem?_cons_zero,if_true,eqA2,eqL1,eqA,eqA0,magS,natS,true_and,and_true];exact⟨za _ _ _,wL hmB⟩
 ·have hn:2<=(canon y).length:=by simp at hn; omega
  obtain⟨m,hm⟩:∃ m,(canon y).length=m+2:=⟨(canon y).length - 2,by omega⟩;have e1:((((canon y).length:Nat):Int) - 1).toNat=m+1:=by omega
  have hty:=zL (zj y) (m+1)
  have htop:(canon y).getD (m+1) 0≠0:=by
   have:=q9 (canon y) (by rw [jd]; omega);rw [jd,hm] at this;exact this
  have hyv:∃ r,r<B^(m+1)/\y=r+B^(m+1)*(canon y).getD (m+1) 0:=by
   refine⟨val ((canon y).take (m+1)),?_,?_⟩
   ·have:=qu (j3 (zj y) (m+1))
    rwa [aH,Nat.min_eq_left (by omega)] at this
   ·have:=zq (canon y) (m+1)
    rwa [bF (by omega),zm] at this
  rw [e1];generalize (canon y).getD (m+1) 0=t at hty htop hyv ⊢
  have e2:Int.tdiv 1000000000 ((t:Int)+1)=((B/(t+1):Nat):Int):=by
   have:((t:Int)+1)=((t+1:Nat):Int):=by omega
   rw [this]; rfl
  rw [e2];obtain⟨s,hs⟩:∃ s,B/(t+1)=s:=⟨_,rfl⟩;obtain⟨hs0,hs1,hs2⟩:=zbo (by omega) hs.symm hty;rw [hs]
  have hsB:s<B:=by
   have:s*2<=s*(t+1):=aS _ (by omega);omega
  obtain⟨r0,hr0,hyr⟩:=hyv;obtain⟨hV1,hV2⟩:=scaled hr0 hyr hs0 hs1 hs2;refine⟨by omega,λ_=>⟨by omega,λ_=>⟨by omega,λ_=>⟨by omega,λ_=>⟨by omega,λ_=>⟨by omega,λ_=> ?_⟩⟩⟩⟩⟩⟩;have hsl:=QY hs0 hsB;refine⟨(x,s),⟨?_,by simp only [fits]; omega,by simp only [fits]; omega⟩,⟨_,rfl⟩,?_⟩
  ·simp only [eqL,eqA,eqA0,true_and,and_true];refine⟨za _ _ _,hsl.symm,?_⟩;have:=wL hsB
   rwa [hsl] at this
  intro U hU;simp only at hU ⊢;rw [hsl]
  have hxs:U<B^((canon x).length+1):=by
   have h1:=qu (zj x);rw [zm] at h1;rw [hU,Nat.pow_succ];exact Nat.mul_lt_mul'' h1 hsB
  have hUl:=zy hxs
  have hcan:(canon x).length+1≥m+2:=by
   rcases aR (canon x).length (m+1) with h | h
   ·exfalso;have:=zZ (x:=x) (y:=y) (by omega);simp [cmp3,this] at hge
   ·omega
  have hylx:(canon y).length<=(canon x).length:=by
   rcases aR (canon x).length (canon y).length with h | h
   ·exfalso;have:=zZ h;simp [cmp3,this] at hge
   ·exact h
  refine zb.loop (ι:=IG x U) (λi=>SG x y s i.k) (λi=>[.dead,.arr i.o.length 1 (natG .u32 i.o)]) (λi=>(canon x).length+1 - i.k)
   ⟨(canon U).length,padN ((canon x).length+1) U,by rw [Wm hUl]; exact hUl,by rw [Wm hUl]; omega,j3 (zfy _ _) _,by simp [padN,zm]⟩ 0 ?_ ?_ (by kernel_rfl)
  ·exact⟨by simp [SG,magS,natS,za],by simp [za,Wm hUl],by kernel_rfl,aI _⟩
  ·rintro⟨k,o,hko,hol,hdo,hvo⟩;refine zb.n G2.h [0,1,4,8,9,10,11,12,13,15,151,152] (let v4:=natG .u32 (canon y);let v2:=inR .i64 (k-(canon y).length);let v1:=Int.toNat (k-(canon y).length);.D ((k:Int)<=((canon x).length:Int)) (.side (0=0/\k<=o.length/\(k+1)*4<=140737488355328) (.leaf (.back 0 [(0,.sl (canon x).length 1 (natG .u32 (canon x))),(1,.sl (canon y).length 1 v4),(4,.nils),(8,.int .u32 s),(9,.i (canon y).length),(10,.osl 1 1 0 (k+1)),Z 11,Z 12,Z 13,Z 15,Z 151,Z 152] [.dead,.arr (k+1) 1 (appG k (natG .u32 o) (zf (zd 1 [.int .u32 0]) 0)),.arr 1 1 (zd 1 [.int .u32 0])]))) (.ex (q11 [.sl (canon y).length 1 v4,.sl 1 1 (zf (zd 1 [.int .u32 s]) 0)]) λn=>let v3:=List.length (canon n.1)+List.length (canon n.2);.all (λ(p:Nat)=>p=n.1*n.2) λn_1=>.side v2 (.side ((0:Int)<=k - ((canon y).length:Int)/\(k:Int) - ((canon y).length:Int)<=k - ((canon y).length:Int)/\inR .i64 (k-(canon y).length)/\Int.toNat (k-(canon y).length)*4<=140737488355328) (.side v2 (.S (k-(canon y).length-1) (.leaf (.loop (lps (inside K114 0) 0).1 (lps (inside K114 0) 0).2 [(0,.sl (canon x).length 1 (natG .u32 (canon x))),(1,.sl (canon y).length 1 v4),(4,.osl 4 1 0 v1),(8,.int .u32 s),(9,.i (canon y).length),(10,.osl 1 1 0 k),(11,.osl 3 1 0 (canon n_1).length),(12,.i (k-(canon y).length-1)),Z 13,Z 15,Z 151,Z 152] [.dead,.arr o.length 1 (natG .u32 o),.arr 1 1 (zd 1 [.int .u32 s]),.arr v3 1 (natG .u32 (padN v3 n_1)),.arr v1 1 (qb [.int .u32 0])]))))))) ?_;simp only [q11,Tree.holds,ze,inR,lo,hi];refine⟨λhk=> ?_,λhk=> ?_⟩
   ·have hk:k<=(canon x).length:=by simp at hk; omega
    refine⟨⟨trivial,hko,by omega⟩,λ_=> ?_⟩;rw [aP trivial];have hkl:(o.take k).length=k:=by rw [aH]; omega
    refine⟨⟨k+1,o.take k++[0],by simp [hkl],by simp [hkl]; omega,?_,?_⟩,by show _ - (k+1)<_ - k; omega,by simp [SG,magS,natS,za],?_,by kernel_rfl,aI _⟩
    ·rw [bF (by simp [hkl])]; exact ji.2 ⟨hdo,by simp [dig]⟩
    ·rw [bF (by simp [hkl]),zG]; simp [val,hvo]
    ·refine⟨trivial,⟨by simp [hkl],rfl,?_⟩,trivial⟩;intro j o' hj ho';have:o'=0:=by omega
     subst this;simp only [appG,zf,zd,natG];by_cases h:j<k
     ·rw [aP h];simp only [List.getD];rw [bL (by omega),bR,aP h]
     ·have:j=k:=by omega
      subst this;rw [aO h];simp [List.getElem?_append_right,hkl]
   ·have hk:k=(canon x).length+1:=by simp at hk; omega
    have hok:o.length=(canon x).length+1:=by omega
    rw [bF (by omega)] at hdo hvo;refine⟨(y,s),⟨?_,by simp only [fits]; omega,by simp only [fits]; omega⟩,⟨_,rfl⟩,?_⟩
    ·simp only [eqL,eqA,eqA0,true_and,and_true];refine⟨za _ _ _,hsl.symm,?_⟩;have:=wL hsB
     rwa [hsl] at this
    intro V hV;simp only at hV ⊢;rw [hsl];rw [<- hV] at hV1 hV2
    have hVl:(canon V).length=m+2:=by
     have h1:=zy hV1
     have h2:B^(m+1)<=V:=by
      have:B^(m+1+1)=B^(m+1)*B:=Nat.pow_succ ..;rw [this] at hV2;have:B^(m+1)*2<=B^(m+1)*B:=aS _ (by decide);omega
     have:=j8 h2;omega
    have hV0:0<V:=by
     rcases bC V with h | h
     ·rw [h,zH] at hVl; simp at hVl
     ·exact h
    have eq0:((k:Int) - ((canon y).length:Int)).toNat=k - (canon y).length:=by omega
    rw [eq0];refine⟨by omega,λ_=>⟨by omega,λ_=>⟨by omega,λ_=>⟨by omega,λ_=> ?_⟩⟩⟩⟩
    have hqe:U/V=x/y/\U%V=x%y*s:=by
     rw [hU,hV];exact⟨Nat.mul_div_mul_right _ _ hs0,Nat.mul_mod_mul_right _ _ _⟩
    refine zb.loop (ι:=ID x y V U) (λi=>SD y s V i.u.length i.q.length i.j) (λi=>HD y V i.u i.q) (λi=>i.j)
     ⟨o,List.replicate (k - (canon y).length) 0,k - (canon y).length,hok,by simp; omega,by simp,hdo,qT _,by simp [val,hvo],?_⟩ 0 ?_ ?_ (by kernel_rfl)
    ·rw [hvo]
     have h1:U*2<=x*B:=by
      rw [hU,bI];refine aS _ ?_;have:s*2<=s*(t+1):=aS _ (by omega);omega
     have h2:x<B^(canon x).length:=by have:=qu (zj x); rwa [zm] at this
     have h3:B^(m+1+1)*B^(k - (canon y).length)<=2*V*B^(k - (canon y).length):=aT _ hV2;rw [<- Nat.pow_add,show m+1+1+(k - (canon y).length)=(canon x).length+1 by omega,Nat.pow_succ] at h3;have h4:x*B<B^(canon x).length*B:=Nat.mul_lt_mul_of_pos_right h2 (by decide);rw [bI] at h3;omega
    ·refine⟨?_,?_,by kernel_rfl,aI _⟩
     ·simp [SD,hVl,hm,hok,hk,za]; omega
     ·simp [HD,za,u9]
    ·rintro⟨u,q,j,hul,hql,hjq,hdu,hdq,heq,hlt⟩;rcases j with _ | i
     ·refine zb.n G2.h [0,1,4,8,9,10,11,12,13,15,151,152] (let v14:=natG .u32 q;let v12:=inR .i64 ((canon y).length+1);let v9:=List.length (canon y)+1;let v8:=lps (inside (inside K114 0) 0) 0;let v7:=natG .u32 u;let v5:=inR .i64 ((-1:Int)+((canon y).length:Int)+(1:Int));let v4:=inR .i64 ((-1:Int)+((canon y).length:Int));let v3:=padN v9 V;let v11:=natG .u32 v3;let v1:=Int.toNat ((-1:Int)+((canon y).length:Int)+(1:Int)) - 0;.ite false (.side v4 (.side ((0:Int)<=(-1:Int)+((canon y).length:Int)/\(-1:Int)+((canon y).length:Int)<u.length) (.side (inR .u64 ↑(u.getD (0+Int.toNat ((-1:Int)+((canon y).length:Int))) 0)) (.side v4 (.S ((-1:Int)+((canon y).length:Int) - (1:Int)) (.side ((0:Int)<=(-1:Int)+((canon y).length:Int) - (1:Int)/\(-1:Int)+((canon y).length:Int) - (1:Int)<u.length) (.side (inR .u64 ↑(u.getD (0+Int.toNat ((-1:Int)+((canon y).length:Int) - (1:Int))) 0)) (.side v4 (.S ((-1:Int)+((canon y).length:Int) - (2:Int)) (.side ((0:Int)<=(-1:Int)+((canon y).length:Int) - (2:Int)/\(-1:Int)+((canon y).length:Int) - (2:Int)<u.length) (.side (inR .u64 ↑(u.getD (0+Int.toNat ((-1:Int)+((canon y).length:Int) - (2:Int))) 0)) (.S ((canon y).length-1) (.side ((0:Int)<=((canon y).length:Int) - (1:Int)/\((canon y).length:Int) - (1:Int)<((canon V).length:Int)) (.side (inR .u64 ↑(List.getD v3 (0+Int.toNat ((canon y).length-1)) 0)) (.S ((canon y).length-2) (.side ((0:Int)<=((canon y).length:Int) - (2:Int)/\((canon y).length:Int) - (2:Int)<((canon V).length:Int)) (.side (inR .u64 ↑(List.getD v3 (0+Int.toNat ((canon y).length-2)) 0)) (.ex (q10 [.int .u64 ↑(u.getD (0+Int.toNat ((-1:Int)+((canon y).length:Int))) 0),.int .u64 ↑(u.getD (0+Int.toNat ((-1:Int)+((canon y).length:Int) - (1:Int))) 0),.int .u64 ↑(u.getD (0+Int.toNat ((-1:Int)+((canon y).length:Int) - (2:Int))) 0),.int .u64 ↑(List.getD v3 (0+Int.toNat ((canon y).length-1)) 0),.int .u64 ↑(List.getD v3 (0+Int.toNat ((canon y).length-2)) 0)]) λn=>.all (λ(n_1:Nat)=>n_1=qW n.v n.y n.z 2 ((D5.t n*1000000000+D5.u n)/D5.y n) ((D5.t n*1000000000+D5.u n)%D5.y n)) λn=>let v13:=zd 1 [.int .u32 (n-1)];.side (inR .u32 n) (.ex (λ(u:List Nat)=>u.length=1/\1<=1/\1<4611686018427387904/\eqG 1 1 (zd 1 [.int .u32 n]) (natG .u32 u)/\dig (List.take 1 (List.drop 0 u))) λn_1=>.all (λ(x:Nat)=>x=val (List.take 1 (List.drop 0 n_1))) λn_2=>.ex (q11 [.sl (canon V).length 1 (zf v11 0),.sl (canon n_2).length 1 (zf (zd 1 [.int .u32 n]) 0)]) λn_3=>let v2:=List.length (canon n_3.1)+List.length (canon n_3.2);.all (λ(p:Nat)=>p=n_3.1*n_3.2) λn_4=>let v10:=natG .u32 (padN v2 n_4);.side v4 (.side v5 (.side ((0:Int)<=(-1:Int)/\(-1:Int)<=(-1:Int)+((canon y).length:Int)+(1:Int)/\(-1:Int)+((canon y).length:Int)+(1:Int)<=u.length) (.ex (λ(u_1:List Nat)=>u_1.length=u.length/\0+(Int.toNat ((-1:Int)+((canon y).length:Int)+(1:Int)) - 0)<=u.length/\Int.toNat ((-1:Int)+((canon y).length:Int)+(1:Int)) - 0<4611686018427387904/\eqG u.length 1 v7 (natG .u32 u_1)/\dig (List.take v1 (List.drop 0 u_1))) λn_5=>.all (λ(x:Nat)=>x=val (List.take v1 (List.drop 0 n_5))) λn_6=>.ex (q11 [.sl (canon n_6).length 1 (zf v7 0),.sl (canon n_4).length 1 (zf v10 0)]) λn_7=>.all (λ(r:Int)=>r=cmp3 n_7.1 n_7.2) λn_8=>.D (n_8<0) (.side (inR .u64 (n-1)) (.side (inR .u32 (n-1)) (.ex (λ(u:List Nat)=>u.length=1/\1<=1/\1<4611686018427387904/\eqG 1 1 v13 (natG .u32 u)/\dig (List.take 1 (List.drop 0 u))) λn_9=>.all (λ(x:Nat)=>x=val (List.take 1 (List.drop 0 n_9))) λn_10=>.ex (q11 [.sl (canon V).length 1 (zf v11 0),.sl (canon n_10).length 1 (zf v13 0)]) λn_11=>let v6:=List.length (canon n_11.1)+List.length (canon n_11.2);.all (λ(p:Nat)=>p=n_11.1*n_11.2) λn_12=>.side v4 (.side v5 (.side ((0:Int)<=(-1:Int)/\(-1:Int)<=(-1:Int)+((canon y).length:Int)+(1:Int)/\(-1:Int)+((canon y).length:Int)+(1:Int)<=u.length) (.ex (λ(u_1:List Nat)=>u_1.length=u.length/\0+(Int.toNat ((-1:Int)+((canon y).length:Int)+(1:Int)) - 0)<=u.length/\Int.toNat ((-1:Int)+((canon y).length:Int)+(1:Int)) - 0<4611686018427387904/\eqG u.length 1 v7 (natG .u32 u_1)/\dig (List.take v1 (List.drop 0 u_1))) λn_13=>.all (λ(x:Nat)=>x=val (List.take v1 (List.drop 0 n_13))) λn_14=>.ex (q12 [.sl (canon n_14).length 1 (zf v7 0),.sl (canon n_12).length 1 (zf (natG .u32 (padN v6 n_12)) 0)]) λn_15=>.all (λ(d:Nat)=>d=n_15.1 - n_15.2) λn_16=>.side v12 (.leaf (.loop v8.1 v8.2 [Z 0,Z 1,(4,.osl 4 1 0 q.length),(8,.int .u32 s),(9,.i (canon y).length),(10,.osl 1 1 0 u.length),(11,.osl 3 1 0 (canon V).length),(12,.i (-1:Int)),(13,.int .u64 (n-1)),(15,.sl (canon n_16).length 1 (natG .u32 (canon n_16))),(151,.i ((canon y).length+1)),(152,.i 0)] [.dead,.arr u.length 1 v7,.dead,.arr v9 1 v11,.arr q.length 1 v14,.arr 1 1 (zd 1 [.int .u32 n]),.arr v2 1 v10,.arr 1 1 (zd 1 [.int .u32 (n-1)]),.arr v6 1 (natG .u32 (padN v6 n_12))])))))))) (.side v4 (.side v5 (.side ((0:Int)<=(-1:Int)/\(-1:Int)<=(-1:Int)+((canon y).length:Int)+(1:Int)/\(-1:Int)+((canon y).length:Int)+(1:Int)<=u.length) (.ex (λ(u_1:List Nat)=>u_1.length=u.length/\0+(Int.toNat ((-1:Int)+((canon y).length:Int)+(1:Int)) - 0)<=u.length/\Int.toNat ((-1:Int)+((canon y).length:Int)+(1:Int)) - 0<4611686018427387904/\eqG u.length 1 v7 (natG .u32 u_1)/\dig (List.take v1 (List.drop 0 u_1))) λn_9=>.all (λ(x:Nat)=>x=val (List.take v1 (List.drop 0 n_9))) λn_10=>.ex (q12 [.sl (canon n_10).length 1 (zf v7 0),.sl (canon n_4).length 1 (zf v10 0)]) λn_11=>.all (λ(d:Nat)=>d=n_11.1 - n_11.2) λn_12=>.side v12 (.leaf (.loop v8.1 v8.2 [Z 0,Z 1,(4,.osl 4 1 0 q.length),(8,.int .u32 s),(9,.i (canon y).length),(10,.osl 1 1 0 u.length),(11,.osl 3 1 0 (canon V).length),(12,.i (-1:Int)),(13,.int .u64 n),(15,.sl (canon n_12).length 1 (natG .u32 (canon n_12))),(151,.i ((canon y).length+1)),(152,.i 0)] [.dead,.arr u.length 1 v7,.dead,.arr v9 1 v11,.arr q.length 1 v14,.arr 1 1 (zd 1 [.int .u32 n]),.arr v2 1 v10])))))))))))))))))))))))))))) (.ex (λ(u_1:List Nat)=>u_1.length=u.length/\0+u.length<=u.length/\u.length<4611686018427387904/\eqG u.length 1 v7 (natG .u32 u_1)/\dig (List.take u.length (List.drop 0 u_1))) λn=>.all (λ(x:Nat)=>x=val (List.take u.length (List.drop 0 n))) λn=>.ex (q13 [.sl (canon n).length 1 (zf v7 0),.int .u32 s]) λn=>.all (λ(r:Nat×Nat)=>r=(n.1/n.2,n.1%n.2)) λn=>.ex (λ(u:List Nat)=>u.length=q.length/\0+q.length<=q.length/\q.length<4611686018427387904/\eqG q.length 1 v14 (natG .u32 u)/\dig (List.take q.length (List.drop 0 u))) λn_1=>.all (λ(x:Nat)=>x=val (List.take q.length (List.drop 0 n_1))) λn_2=>.R [.osl 4 1 0 (canon n_2).length,.sl (canon n.1).length 1 (natG .u32 (canon n.1))] [.dead,.arr u.length 1 v7,.dead,.arr v9 1 v11,.arr q.length 1 v14])) ?_;simp only [q10,q11,q12,q13,Tree.holds,ze,inR,lo,hi];refine⟨λhj=>by simp at hj,λhj=> ?_⟩;simp only [List.drop_zero,Nat.pow_zero,Nat.mul_one] at heq hlt
      have hdiv:U/V=val q/\U%V=val u:=by
       rw [heq];exact⟨by rw [Nat.mul_add_div hV0,Nat.div_eq_of_lt hlt,Nat.add_zero],by rw [Nat.mul_add_mod,Nat.mod_eq_of_lt hlt]⟩
      have hqv:val q=x/y:=by rw [<- hdiv.1,hqe.1]
      have huv:val u=x%y*s:=by rw [<- hdiv.2,hqe.2]
      refine⟨u,⟨rfl,by omega,by omega,za _ _ _,by simpa using hdu⟩,⟨_,rfl⟩,?_⟩;intro X hX;have hX:X=x%y*s:=by simpa [huv] using hX
      have hw:val ((u.drop 0).take u.length)=X:=by simp [huv,hX]
      have hXl:=jC (k:=.u32) (u:=u) (off:=0) (n:=u.length) (by simpa using hdu) hw;have hmy:=Nat.mod_lt x hy0
      have hXlen:(canon X).length<=u.length:=by
       refine zy ?_;rw [hX,<- huv]; exact qu hdu
      refine⟨(X,s),⟨?_,by simp only [fits]; omega,hs0,hsB⟩,⟨_,rfl⟩,?_⟩
      ·simp only [eqL,eqA,eqA0,true_and,and_true];exact hXl
      rintro r rfl;have hXs:X/s=x%y:=by rw [hX]; exact Nat.mul_div_cancel _ hs0
      simp only [hXs];refine⟨q,⟨rfl,by omega,by omega,za _ _ _,by simpa using hdq⟩,⟨_,rfl⟩,?_⟩;intro Y hY;have hY:Y=x/y:=by simpa [hqv] using hY
      subst hY;refine RetR.out0 hq (λh=>by cases h) ?_;have hw2:val ((q.drop 0).take q.length)=x/y:=by simp [hqv]
      simp only [resV,exp2,List.map_cons,List.map_nil,exp1,exp0,ren0,z4,frz1,jI,List.getElem?_cons_zero,List.getElem?_cons_succ,if_true,eqA2,eqL1,eqA,eqA0,magS,natS,true_and,and_true];exact⟨jC (by simpa using hdq) hw2,za _ _ _⟩
     ·exact Wz hm hx hs0 hsB hV1 hV2 hVl hV0 hul hql hjq hdu hdq heq hlt
noncomputable def K140:=Go.Sx.aA f140
def Um:Ctr:=ctrT false false (λs:L8=>[.str s]) (λ_=>[]) (λ_=>True) (λ_ (_:Unit)=>True) (λs _=>(.fn 170 [] [.ptr 0 0],[.box [.str s]]))
theorem UO:zc prog 160 Um:=by
 refine zD (fn:=f160) (c:=f160.body.getD .skip) rfl rfl rfl (λh=>by cases h) λs hp O w0 I0 Q hl hq=> ?_
 have h0:I0=[]:=aU.1 (by simpa using hl);subst h0;refine zb.n zA [0] (.R [.fn 170 [] [.ptr 0 0]] [.box [.str s]]) ?_;simp only [Tree.holds,ze];exact RetR.out1 0 (by simp) (hq () trivial) (λh=>by cases h) (by simp [resV,exp2,exp1,exp0,z4,ren0,eqA2]) (by simp [expB,exp1,exp0,ren0])
noncomputable def G3:=tb UO (tb Wn tz)
def KR:KV:=[(2,.ptr 0 0),(3,.ptr 1 0),Z 5,Z 6,(16,.fn 170 [] [.ptr 2 0]),Z 17,Z 19,Z 20]
def HR(neg:Bool)(b:L8):List Nat->Heap
 | []=>[.box [.bool false,.nils],.box [.bool neg,.nils],.box [.str b]]
 | d::o=>[.box [.bool false,.nils],.box [.bool neg,.osl 4 1 0 (o.length+1)],.box [.str b],.arr 1 1 (natG .u32 [d]),.arr (o.length+1) 1 (natG .u32 (d::o))]
theorem XL(s:ByteArray):∀ e,e<=s.size->val ((chunks s e).map decB)=numD (s.data.toList.take e):=by
 intro e
 induction e using Nat.strongRecOn with
 | _ e ih=>
  intro he;rcases bC e with h | h
  ·subst h; simp [vO,val,numD]
  ·rw [vJ s h,List.map_cons,val,ih (e - 9) (by omega) (by omega)];have hl:s.data.toList.length=s.size:=by rw [Array.length_toList]; rfl
   have h1:s.data.toList.take e=s.data.toList.take (e - 9)++(s.data.toList.take e).drop (e - 9):=by
    conv=>lhs; rw [<- bU (e - 9) (s.data.toList.take e)]
    rw [List.take_take,Nat.min_eq_left (by omega)]
   rw [h1,vM,decB,yN,Nat.add_comm,bJ];congr 1;rcases aR e 9 with h9 | h9
   ·rw [show e - 9=0 by omega]; simp [numD]
   ·congr 1;have:((s.data.toList.take e).drop (e - 9)).length=9:=by simp; omega
    rw [this]
theorem Ym(s:ByteArray)(hd:allD s.data.toList):∀ e,e<=s.size->∀ x∈chunks s e,x.size<=9/\allD x.data.toList:=by
 intro e
 induction e using Nat.strongRecOn with
 | _ e ih=>
  intro he x hx;rcases bC e with h | h
  ·subst h; simp [vO] at hx
  ·rw [vJ s h] at hx;rcases aM.1 hx with rfl | hx
   ·refine⟨by rw [ByteArray.size_extract]; omega,?_⟩;rw [yN];intro c hc;exact hd c (List.mem_of_mem_take (List.mem_of_mem_drop hc))
   ·exact ih (e - 9) (by omega) (by omega) x hx
theorem Qm(s:ByteArray):∀ e,(chunks s e).length<=e:=by
 intro e
 induction e using Nat.strongRecOn with
 | _ e ih=>
  rcases bC e with h | h
  ·subst h; simp [vO]
  ·rw [vJ s h,aL];have:=ih (e - 9) (by omega);omega
abbrev Grp:Type:={x:ByteArray // x.size<=9/\allD x.data.toList}
def zbh:Ctr:=ctrP false (λp:Bool×L8=>[.str (sgn p.1 p.2)]) (λp=>allD p.2/\p.2≠[]/\p.2.length<=1000000) (λp r=>r=numD p.2) (λp r=>(.agg [.bool p.1,magS r],[]))
def SR(x:L8)(v i:Nat):KV:=[(2,.ptr 0 0),(3,.ptr 1 0),(5,.str x),(6,.int .u32 (v:Int)),Z 16,Z 17,(19,.i (x.length:Int)),(20,.i (i:Int))]
theorem UU{O:Nat->Prop}{W:World}{E1:List SE}(l:Nat)(neg:Bool)(b:L8)(o:List Nat)(ho:o.length<=1000000)(y:L8)(hxd:allD y)(hx9:y.length<=9)(X:Prop)(Hx:Heap) :
  jP (some l) prog (bare f140) O 3 W E1 (λd kv' h'=>LeK 3 f140.ntmps [] h' [] (HR neg b (o++[numD y]))) (λ_ h'=>X/\LeK 3 f140.ntmps [] h' [] Hx) (.code (.loop (lps (roundOf K140 0) 0).1)::(lps (roundOf K140 0) 0).2)
   (mk f140.ntmps [(2,.ptr 0 0),(3,.ptr 1 0),(5,.str y),(6,.int .u32 0),(16,.fn 170 [] [.ptr 2 0]),(17,.str y),(19,.i (y.length:Int)),(20,.i 0)] (HR neg b o)):=by
 refine zb.loop (ι:={i:Nat // i<=y.length}) (λi=>SR y (numD (y.take i.1)) i.1) (λ_=>HR neg b o) (λi=>y.length - i.1) ⟨0,aI _⟩ 1 ?_ ?_ (by kernel_rfl)
 ·refine⟨by simp [SR,numD],?_,?_,?_⟩
  ·cases o<;>simp [HR,za]
  ·cases o<;>kernel_rfl
  ·cases o<;>simp [HR]
 ·rintro⟨i,hil⟩
  have hbound:numD (y.take i)<1000000000:=by
   have h1:=y4 (l:=y.take i) λc hc=>hxd c (List.mem_of_mem_take hc)
   have h2:10^(y.take i).length<=10^9:=bW (by decide) (by rw [aH]; omega);have h4:(10:Nat)^9=1000000000:=by decide
   omega
  have hnext:∀ h:i<y.length,numD (y.take (i+1))=numD (y.take i)*10+((y.getD i 0).toNat - 48):=by
   intro h; rw [X2 y i h,zad]
  have hdig:i<y.length->48<=(y.getD i 0).toNat/\(y.getD i 0).toNat<=57:=by
   intro h;have:=hxd (y.getD i 0) (by simp [List.getD,h]);exact this
  have hnb:i<y.length->numD (y.take (i+1))<1000000000:=by
   intro h;have h1:=y4 (l:=y.take (i+1)) λc hc=>hxd c (List.mem_of_mem_take hc)
   have h2:10^(y.take (i+1)).length<=10^9:=bW (by decide) (by rw [aH]; omega);have h4:(10:Nat)^9=1000000000:=by decide
   omega
  obtain⟨v,hv⟩:∃ v,numD (y.take i)=v:=⟨_,rfl⟩;simp only [hv] at hbound hnext ⊢;have ei:((i:Int)+1)=((i+1:Nat):Int):=by omega
  cases o with
  | nil=>
   refine zb.n G3.h [2,3,5,6,16,17,19,20] (let v1:=y.getD (i:Int).toNat (0:UInt8);.D ((i:Int)<y.length) (.side (inR .u32 (v*10)) (.side ((0:Int)<=i/\(i:Int)<y.length) (.side (inR .u8 ((↑(UInt8.toNat v1):Int) - (48:Int))) (.side (inR .u32 ((↑(UInt8.toNat v1):Int) - (48:Int))) (.side (inR .u32 ((v:Int)*(10:Int)+((↑(UInt8.toNat v1):Int) - (48:Int)))) (.S (i+1) (.leaf (.back 1 [(2,.ptr 0 0),(3,.ptr 1 0),(5,.str y),(6,.int .u32 ((v:Int)*(10:Int)+((↑(UInt8.toNat v1):Int) - (48:Int)))),Z 16,Z 17,(19,.i y.length),(20,.i (i+1))] [.box [.bool false,.nils],.box [.bool neg,.nils],.box [.str b]])))))))) (.side (4<=140737488355328) (.leaf (.back 0 [(2,.ptr 0 0),(3,.ptr 1 0),(5,.str y),(6,.int .u32 v),Z 16,Z 17,(19,.i y.length),(20,.i i)] [.box [.bool false,.nils],.box [.bool neg,.osl 4 1 0 1],.box [.str b],.arr 1 1 (zd 1 [.int .u32 v]),.arr 1 1 (zf (zd 1 [.int .u32 v]) 0)])))) ?_;simp only [Tree.holds,ze,inR,lo,hi,aD,ei];refine⟨λhlt=> ?_,λhge=> ?_⟩
   ·have hlt:i<y.length:=by simp at hlt; omega
    have h1:=hdig hlt;have h2:=hnb hlt;have h3:=hnext hlt;generalize (y.getD i 0).toNat=c at h1 h3 ⊢
    iterate 6 refine⟨by omega,λ_=> ?_⟩
    rw [aP trivial];refine⟨⟨i+1,hlt⟩,by show y.length - (i+1)<y.length - i; omega,?_,by simp [HR],by kernel_rfl,by simp [HR]⟩;simp [SR,h3]; omega
   ·have hge:i=y.length:=by simp at hge; omega
    subst hge;rw [bD] at hv;refine⟨by omega,λ_=> ?_⟩;rw [aO (by decide),hv];refine⟨by simp,?_,by kernel_rfl,by simp [HR]⟩;simp only [List.nil_append,HR];refine⟨by simp,by simp,by simp,⟨rfl,rfl,x9 _ _⟩,⟨rfl,rfl,?_⟩,trivial⟩;exactλj o hj ho=>by simpa [zf] using x9 .u32 v j o hj ho
  | cons d o=>
   refine zb.n G3.h [2,3,5,6,16,17,19,20] (let v1:=y.getD (i:Int).toNat (0:UInt8);.D ((i:Int)<y.length) (.side (inR .u32 (v*10)) (.side ((0:Int)<=i/\(i:Int)<y.length) (.side (inR .u8 ((↑(UInt8.toNat v1):Int) - (48:Int))) (.side (inR .u32 ((↑(UInt8.toNat v1):Int) - (48:Int))) (.side (inR .u32 ((v:Int)*(10:Int)+((↑(UInt8.toNat v1):Int) - (48:Int)))) (.S (i+1) (.leaf (.back 1 [(2,.ptr 0 0),(3,.ptr 1 0),(5,.str y),(6,.int .u32 ((v:Int)*(10:Int)+((↑(UInt8.toNat v1):Int) - (48:Int)))),Z 16,Z 17,(19,.i y.length),(20,.i (i+1))] [.box [.bool false,.nils],.box [.bool neg,.osl 4 1 0 (o.length+1)],.box [.str b],.arr 1 1 (natG .u32 [d]),.arr (o.length+1) 1 (natG .u32 (d::o))])))))))) (.side (0=0/\o.length+1<=o.length+1/\(o.length+1+1)*4<=140737488355328) (.leaf (.back 0 [(2,.ptr 0 0),(3,.ptr 1 0),(5,.str y),(6,.int .u32 v),Z 16,Z 17,(19,.i y.length),(20,.i i)] [.box [.bool false,.nils],.box [.bool neg,.osl 4 1 0 (o.length+1+1)],.box [.str b],.arr 1 1 (natG .u32 [d]),.arr (o.length+1+1) 1 (appG (o.length+1) (natG .u32 (d::o)) (zf (zd 1 [.int .u32 v]) 0)),.arr 1 1 (zd 1 [.int .u32 v])])))) ?_;simp only [Tree.holds,ze,inR,lo,hi,aD,ei];refine⟨λhlt=> ?_,λhge=> ?_⟩
   ·have hlt:i<y.length:=by simp at hlt; omega
    have h1:=hdig hlt;have h2:=hnb hlt;have h3:=hnext hlt;generalize (y.getD i 0).toNat=c at h1 h3 ⊢
    iterate 6 refine⟨by omega,λ_=> ?_⟩
    rw [aP trivial];refine⟨⟨i+1,hlt⟩,by show y.length - (i+1)<y.length - i; omega,?_,by simp [HR,za],by kernel_rfl,by simp [HR]⟩;simp [SR,h3]; omega
   ·have hge:i=y.length:=by simp at hge; omega
    subst hge;rw [bD] at hv;refine⟨⟨trivial,aJ _,by simp only [aL] at ho; omega⟩,λ_=> ?_⟩;rw [aO (by decide),hv];refine⟨by simp,?_,by kernel_rfl,by simp [HR]⟩;simp only [List.cons_append,HR];refine⟨by simp,by simp,by simp,⟨rfl,rfl,za _ _ _⟩,⟨by simp,rfl,?_⟩,trivial⟩;have:=y3 (k:=.u32) (l:=d::o) (v:=((v:Nat):Int)) (by omega);simpa using this
theorem Ye{O:Nat->Prop}{W:World}{E1:List SE}(l:Nat)(neg:Bool)(b:L8)(o:List Nat)(ho:o.length<=1000000)(x:Grp)(X:Prop)(Hx:Heap) :
  jP (some l) prog (bare f140) O 3 W E1 (λd kv' h'=>LeK 3 f140.ntmps [] h' [] (HR neg b (o++[decB x.1]))) (λ_ h'=>X/\LeK 3 f140.ntmps [] h' [] Hx) (roundOf K140 0) (mk f140.ntmps ((5,.str x.1.data.toList)::(17,.str x.1.data.toList)::KR) (HR neg b o)):=by
 obtain⟨x,hx9,hxd⟩:=x;simp only;have hxl:x.data.toList.length=x.size:=by rw [Array.length_toList]; rfl
 have hdB:decB x=numD x.data.toList:=rfl;rw [hdB];generalize x.data.toList=y at hxd hxl
 have core:jP (some l) prog (bare f140) O 3 W E1 (λd kv' h'=>LeK 3 f140.ntmps [] h' [] (HR neg b (o++[numD y]))) (λ_ h'=>X/\LeK 3 f140.ntmps [] h' [] Hx) (.code (.loop (lps (roundOf K140 0) 0).1)::(lps (roundOf K140 0) 0).2)
   (mk f140.ntmps [(2,.ptr 0 0),(3,.ptr 1 0),(5,.str y),(6,.int .u32 0),(16,.fn 170 [] [.ptr 2 0]),(17,.str y),(19,.i (y.length:Int)),(20,.i 0)] (HR neg b o)):=by
  exact UU l neg b o ho y hxd (by omega) X Hx
 cases o with
 | nil=>
  refine zb.n G3.h [2,3,5,6,16,17,19,20] (.leaf (.loop (lps (roundOf K140 0) 0).1 (lps (roundOf K140 0) 0).2 [(2,.ptr 0 0),(3,.ptr 1 0),(5,.str y),(6,.int .u32 0),(16,.fn 170 [] [.ptr 2 0]),(17,.str y),(19,.i y.length),(20,.i 0)] [.box [.bool false,.nils],.box [.bool neg,.nils],.box [.str b]])) ?_;simp only [Tree.holds,ze];exact core
 | cons d o=>
  refine zb.n G3.h [2,3,5,6,16,17,19,20] (.leaf (.loop (lps (roundOf K140 0) 0).1 (lps (roundOf K140 0) 0).2 [(2,.ptr 0 0),(3,.ptr 1 0),(5,.str y),(6,.int .u32 0),(16,.fn 170 [] [.ptr 2 0]),(17,.str y),(19,.i y.length),(20,.i 0)] [.box [.bool false,.nils],.box [.bool neg,.osl 4 1 0 (o.length+1)],.box [.str b],.arr 1 1 (natG .u32 [d]),.arr (o.length+1) 1 (natG .u32 (d::o))])) ?_;simp only [Tree.holds,ze];exact core
theorem zeb(neg:Bool)(b:L8)(o:List Nat):∀ x∈HR neg b o,alive x:=by
 cases o with
 | nil=>simp [HR,alive]
 | cons d o=>simp [HR,alive]
theorem zac{O:Nat->Prop}{w0:World}{Q:AV×Heap->Prop}(neg:Bool)(b:L8)(hb:allD b)(hb0:b≠[])(hbl:b.length<=1000000)(hq:Q (.agg [.bool neg,magS (numD b)],[])) :
  zb prog f140 O 0 w0 [] (λ_ _ _=>False) (RetR zbh 0 Q) (.code (rfs K140 0).1::(rfs K140 0).2) (mk f140.ntmps KR (HR neg b [])):=by
 let s:ByteArray:=⟨b.toArray⟩
 have hsl:s.data.toList=b:=rfl;have hss:s.size=b.length:=by simp [s,ByteArray.size]
 refine zb.range (tg:=16) (tp:=17) (td:=5) (α:=Grp) (by kernel_rfl) (cap:=[.ptr 2 0]) (enters_of Tryz.func170 (by kernel_rfl) rfl) (λx=>.str x.1.data.toList) (λpre=>HR neg b (pre.map λx=>decB x.1)) (λ_=>[]) (λ_=>False) (λxs=>xs.map (·.1)=chunks s s.size) (λpre=>pre.map (·.1) <+: chunks s s.size) (chunks s s.size).length 3
  (by kernel_rfl) (by decide +kernel) (by decide +kernel) (λx t c y h=>by cases h) ⟨by simp [KR],by simp [HR],by kernel_rfl,aI _⟩ (by kernel_rfl) (aI _) (λpre=>zeb _ _ _) (λpre c hc=>by cases hc) ?_ ?_ ?_ (λ_ _ h=>h.elim)
 ·
  intro w σ a hm vb hvb;simp only [RepL] at hvb;obtain⟨v,r,rfl,hv,rfl⟩:=hvb;simp only [Rep] at hv;obtain⟨e,ad,he,had,rfl⟩:=hv
  have hcell:∀ (W:World) (Z':List SE) (o:List Nat),HRep (Go.Sx.Own O Z') W Z' (HR neg b o)->∀ e' ad,Z'[2]?=some e'->e'.ad=some ad->W.cell? ⟨ad.block,ad.off+0,none⟩=some (.string s):=by
   intro W Z' o hp e' ad he' had';have hb2:(HR neg b o)[2]?=some (.box [.str b]):=by cases o<;>rfl
   obtain⟨ad',vs,el,h1,h2,h3,h4⟩:=hp.blk 2 e' _ he' hb2;rw [had'] at h1; cases h1;simp only [RepL,Rep] at h4;obtain⟨v,r,rfl,rfl,rfl⟩:=h4;simp [World.cell?,h3,h2,s]
  refine⟨λW=>W.cell? ⟨ad.block,ad.off+0,none⟩=some (.string s),λx=>.string x.1,?_,?_,?_⟩
  ·exact Tryz.QX (λx=>x.size<=9/\allD x.data.toList) ⟨ad.block,ad.off+0,none⟩ s (Ym s (hsl▸hb) s.size (aJ _)) (by omega) w (hcell w σ [] hm.hp e ad he had)
  ·intro pre W Z' hM;refine⟨?_,λx=>by simp [Rep]⟩;have ht:=hM.tm 16;have h16:(mk f140.ntmps KR (HR neg b (pre.map λx=>decB x.1))).tmps.getD 16 .undef = .fn 170 [] [.ptr 2 0]:=by kernel_rfl
   have ht0:=hm.tm 16;have h160:(mk f140.ntmps KR (HR neg b (([]:List Grp).map λx=>decB x.1))).tmps.getD 16 .undef = .fn 170 [] [.ptr 2 0]:=by kernel_rfl
   rw [h16] at ht;rw [h160] at ht0;simp only [TRep,Rep,RepL] at ht ht0;obtain⟨va,vb',h1,_,v,r,h2,⟨e1,ad1,h3,h4,h5⟩,h6⟩:=ht;obtain⟨va',vb2,g1,_,v',r',g2,⟨e2,ad2,g3,g4,g5⟩,g6⟩:=ht0;rw [he] at g3; cases g3;rw [had] at g4; cases g4;rw [g1] at h1;simp only [Value.func.injEq] at h1
   have h7:vb2=vb':=by
    have:=h1.2.2;simpa using this
   rw [g2,h2,g5,h5] at h7;simp only [List.cons.injEq,Value.pointer.injEq,aE] at h7;have h8:=hcell W Z' _ hM.hp e1 ad1 h3 h4;rw [<- h7.1] at h8;exact h8
  ·intro W l o o' hl ho hoc hK;exact KO (grownBy_putObj' W l o') (λr e=>by cases e; exact⟨o,ho,hoc⟩) hK
 ·
  intro l pre x hlen W E1
  have hpl:(pre.map λx=>decB x.1).length<=1000000:=by
   have:=Qm s s.size;simp; omega
  have:=Ye (O:=O) (W:=W) (E1:=E1) l neg b (pre.map λx=>decB x.1) hpl x False [];simp only [List.map_append,List.map_cons,List.map_nil];exact this
 ·
  intro xs hxs;have ho:xs.map (λx=>decB x.1)=(chunks s s.size).map decB:=by rw [<- hxs,List.map_map]; rfl
  have hv:val (xs.map λx=>decB x.1)=numD b:=by
   rw [ho,XL s s.size (aJ _),bF (by rw [Array.length_toList]; exact aJ _)]
  have hdg:dig (xs.map λx=>decB x.1):=by
   intro d hd;obtain⟨x,_,rfl⟩:=List.mem_map.1 hd;exact zgw x.2.2 x.2.1
  have hpos:0<s.size:=by rw [hss]; exact List.length_pos_iff.2 hb0
  have hle:(xs.map λx=>decB x.1).length<=1000000:=by
   rw [ho,List.length_map];have:=Qm s s.size;omega
  have hne:xs.map (λx=>decB x.1)≠[]:=by
   rw [ho,vJ s hpos]; simp
  generalize xs.map (λx=>decB x.1)=l at hv hdg hle hne;cases l with
  | nil=>exact absurd rfl hne
  | cons d o=>
   simp only [aL] at hle;refine zb.n G3.h [2,3,5,6,16,17,19,20] (let v2:=o.length+1;.ex (λ(u:List Nat)=>u.length=o.length+1/\0+(o.length+1)<=o.length+1/\o.length+1<4611686018427387904/\eqG v2 1 (natG .u32 (d::o)) (natG .u32 u)/\dig (List.take v2 (List.drop 0 u))) λn=>.all (λ(x:Nat)=>x=val (List.take v2 (List.drop 0 n))) λn=>let v1:List AV:=[.bool neg,.osl 4 1 0 (canon n).length];.R [.agg v1] [.box v1,.box v1,.box [.str b],.arr 1 1 (natG .u32 [d]),.arr v2 1 (natG .u32 (d::o))]) ?_;simp only [Tree.holds,ze];have htk:(List.take (o.length+1) (List.drop 0 (d::o)))=d::o:=by simp
   refine⟨d::o,⟨rfl,by omega,by omega,za _ _ _,by rw [htk]; exact hdg⟩,⟨_,rfl⟩,?_⟩;intro X hX;have hX:X=numD b:=by rw [htk,hv] at hX; exact hX
   subst hX;refine RetR.out0 hq (λh=>by cases h) ?_;simp only [resV,exp2,exp1,List.map_cons,List.map_nil,exp0,ren0,z4,frz1,jI,List.getElem?_cons_zero,List.getElem?_cons_succ,if_true,eqA2,eqA,eqL0,eqA0,magS,natS,true_and,and_true];exact jC (u:=d::o) (off:=0) (n:=o.length+1) (by simpa using hdg) (by simpa using hv)
theorem zhp:zc prog 140 zbh:=by
 refine zh' f140 λp hp O w0 Q hq=> ?_
 obtain⟨neg,b⟩:=p;obtain⟨hb,hb0,hbl⟩:=hp;replace hq:=hq _ rfl;simp only at hb hb0 hbl hq;obtain⟨s,hs⟩:∃ s,sgn neg b=s:=⟨_,rfl⟩;simp only [hs];refine zb.n G3.h [2,3,5,6,16,17,19,20] (let v2:=rfs K140 0;let v1:List (Nat×AV):=[(2,.ptr 0 0),(3,.ptr 1 0),Z 5,Z 6,(16,.fn 170 [] [.ptr 2 0]),Z 17,Z 19,Z 20];.side ((0:Int)<=0/\(0:Int)<s.length) (.D ((↑(UInt8.toNat (s.getD 0 (0:UInt8))):Int)=45) (.side ((0:Int)<=1/\(1:Int)<=s.length) (.ex (λ(x:L8)=>eqL [.str (List.drop 1 (List.take s.length s))] [.str x]/\eqH [] []/\0=0/\True) λn=>.A λn_1=>.leaf (.range v2.1 v2.2 v1 [.box [.bool false,.nils],.box [.bool true,.nils],.box [.str n]]))) (.ex (λ(x:L8)=>eqL [.str s] [.str x]/\eqH [] []/\0=0/\True) λn=>.A λn_1=>.leaf (.range v2.1 v2.2 v1 [.box [.bool false,.nils],.box [.bool false,.nils],.box [.str n]])))) ?_;subst hs;have hmain:=zac (O:=O) (w0:=w0) neg b hb hb0 hbl hq;obtain⟨c,b',rfl⟩:=List.exists_cons_of_ne_nil hb0;have hc:=hb c (by simp);simp only [Tree.holds,ze];cases neg with
 | true=>
  simp only [sgn,if_true];refine⟨by simp; omega,λ_=>⟨λ_=>⟨by simp; omega,λ_=> ?_⟩,λh=>by simp at h⟩⟩;refine⟨c::b',⟨by simp,by simp,by simp⟩,⟨(),trivial⟩,λ_ _=>hmain⟩
 | false=>
  simp only [sgn,Bool.false_eq_true,if_false];refine⟨by simp,λ_=>⟨λh=> ?_,λ_=> ?_⟩⟩
  ·simp at h; omega
  ·refine⟨c::b',⟨by simp,by simp,by simp⟩,⟨(),trivial⟩,λ_ _=>hmain⟩
noncomputable def K145:=Go.Sx.aA f145
noncomputable def K115:=Go.Sx.aA f115
def wg(l:List Nat)(n i:Nat):List Nat:=(List.range l.length).map λp=>if p<n/\(p<i\/n - i<=p) then l.getD (n - 1 - p) 0 else l.getD p 0
theorem uA(l:List Nat)(n i:Nat):(wg l n i).length=l.length:=by simp [wg]
theorem JO{l:List Nat}{n i p:Nat}(h:p<l.length):(wg l n i).getD p 0=if p<n/\(p<i\/n - i<=p) then l.getD (n - 1 - p) 0 else l.getD p 0:=by
 simp [wg,List.getD,h]
theorem KI(l:List Nat)(n:Nat):wg l n 0=l:=by
 apply List.ext_getElem (by simp [wg]);intro p h1 h2;simp only [wg,List.getElem_map,List.getElem_range];rw [aO (by omega)]; simp [h2]
theorem XF{l:List Nat}{n i:Nat}(hn:n<=l.length)(hi2:i<n - 1 - i):((wg l n i).set i ((wg l n i).getD (n - 1 - i) 0)).set (n - 1 - i) ((wg l n i).getD i 0)=wg l n (i+1):=by
 rw [JO (by omega),JO (by omega),aO (by omega),aO (by omega)];apply List.ext_getElem (by simp [wg]);intro p h1 h2;rw [uA] at h2;simp only [List.getElem_set,wg,List.getElem_map,List.getElem_range];by_cases ha:n - 1 - i=p
 ·rw [aP ha,aP (by omega)]; congr 1; omega
 ·rw [aO ha];by_cases hb:i=p
  ·subst hb; rw [aP rfl,aP (by omega)]
  ·rw [aO hb];by_cases hc:p<n/\(p<i\/n - i<=p)
   ·rw [aP hc,aP (by omega)]
   ·rw [aO hc,aO (by omega)]
theorem zaj{l:List Nat}{n i:Nat}(hn:n<=l.length)(hi2:n - 1 - i<=i):wg l n i=(l.take n).reverse++l.drop n:=by
 apply List.ext_getElem (by simp [wg]; omega);intro p h1 h2;rw [uA] at h1;simp only [wg,List.getElem_map,List.getElem_range];have hl:(l.take n).reverse.length=n:=by simp; omega
 by_cases ha:p<n
 ·rw [List.getElem_append_left (by omega),List.getElem_reverse,List.getElem_take];have e:(l.take n).length - 1 - p=n - 1 - p:=by simp; omega
  simp only [e];by_cases hc:p<i\/n - i<=p
  ·rw [aP ⟨ha,hc⟩]; simp [show n - 1 - p<l.length by omega]
  ·rw [aO (λh=>hc h.2)];have:n - 1 - p=p:=by omega
   simp [this,h1]
 ·rw [aO (λh=>ha h.1),List.getElem_append_right (by omega)];simp only [hl,List.getElem_drop];have:n+(p - n)=p:=by omega
  simp [this,h1]
def Qr:Ctr:=ctrT false false (λp:List Nat×Nat=>[.osl 0 1 0 p.2]) (λp=>[.arr p.1.length 1 (natG .u8 p.1)]) (λp=>p.2<=p.1.length/\p.1.length<2^62) (λ_ (_:Unit)=>True) (λp _=>(.tup [],[.arr p.1.length 1 (natG .u8 ((p.1.take p.2).reverse++p.1.drop p.2))]))
def SV(n i:Nat):KV:=[(0,.osl 0 1 0 n),(2,.i (i:Int)),(3,.i ((n:Int) - 1 - i))]
theorem X3:zc prog 145 Qr:=by
 refine zD (fn:=f145) (c:=f145.body.getD .skip) rfl rfl rfl (λh=>by cases h) λp hp O w0 I0 Q hl0 hq=> ?_
 obtain⟨l,n⟩:=p;obtain⟨hn,hl⟩:=hp;replace hq:=hq () trivial;simp only at hn hl hq;refine zb.n zA [0,2,3] (Tree.side (inR IntKind.i64 ((n:Int) - (1:Int))) (Tree.leaf (we.loop (Prod.fst (lps K145 (0:Nat))) (Prod.snd (lps K145 (0:Nat))) [((0:Nat),AV.osl (0:Nat) (1:Nat) (0:Nat) n),((2:Nat),AV.i 0),((3:Nat),AV.i (n-1))] [Blk.arr l.length (1:Nat) (natG .u8 l)]))) ?_;simp only [Tree.holds,ze,inR,lo,hi];refine⟨by omega,λ_=> ?_⟩;refine zb.loop (ι:={i:Nat // i<=n}) (λi=>SV n i.1) (λi=>[.arr l.length 1 (natG .u8 (wg l n i.1))]) (λi=>n - i.1) ⟨0,aI _⟩ 0 ?_ ?_ (by kernel_rfl)
 ·exact⟨by simp [SV],by simp [KI,za],by kernel_rfl,aJ _⟩
 ·rintro⟨i,hin⟩;obtain⟨u,hu⟩:∃ u,wg l n i=u:=⟨_,rfl⟩;have hul:u.length=l.length:=by rw [<- hu,uA]
  simp only [hu,<- hul];refine zb.n zA [0,2,3] (Tree.ite (decide ((i:Int)<(n:Int) - (1:Int) - (i:Int))) (Tree.side ((0:Int)<=(n:Int) - (1:Int) - (i:Int)/\(n:Int) - (1:Int) - (i:Int)<(n:Int)) (Tree.side ((0:Int)<=(i:Int)/\(i:Int)<(n:Int)) (Tree.side ((0:Int)<=(i:Int)/\(i:Int)<(n:Int)) (Tree.side ((0:Int)<=(n:Int) - (1:Int) - (i:Int)/\(n:Int) - (1:Int) - (i:Int)<(n:Int)) (Tree.side (inR IntKind.i64 ((i:Int)+(1:Int))) (Tree.side (inR IntKind.i64 ((n:Int) - (1:Int) - (i:Int) - (1:Int))) (Tree.leaf (we.back (0:Nat) [((0:Nat),AV.osl (0:Nat) (1:Nat) (0:Nat) n),((2:Nat),AV.i (i+1)),((3:Nat),AV.i (n-1-i-1))] [Blk.arr u.length (1:Nat) (updG (updG (natG .u8 u) ((0:Nat)+Int.toNat i) (0:Nat) [.int .u8 ↑(u.getD ((0:Nat)+Int.toNat (n-1-i)) (0:Nat))]) ((0:Nat)+Int.toNat (n-1-i)) (0:Nat) [.int .u8 ↑(u.getD ((0:Nat)+Int.toNat i) (0:Nat))])])))))))) (Tree.leaf (we.ret [] [Blk.arr u.length (1:Nat) (natG .u8 u)]))) ?_;simp only [Tree.holds,ze,inR,lo,hi,aD];refine⟨λhlt=> ?_,λhge=> ?_⟩
  ·have hlt:i<n - 1 - i:=by simp at hlt; omega
   have ej:((n:Int) - 1 - i).toNat=n - 1 - i:=by omega
   rw [ej]
   iterate 6 refine⟨by omega,λ_=> ?_⟩
   rw [aP trivial];have hs:=XF (l:=l) hn hlt;rw [hu] at hs;refine⟨⟨i+1,by omega⟩,by show n - (i+1)<n - i; omega,by simp [SV]; omega,?_,by kernel_rfl,aJ _⟩;rw [<- hs];refine⟨⟨rfl,rfl,?_⟩,trivial⟩;have h1:=vS (k:=.u8) (l:=u) (v:=(u.getD (n - 1 - i) 0:Nat)) (i:=i) (by omega) (by omega);have h2:=vS (k:=.u8) (l:=u.set i (u.getD (n - 1 - i) 0)) (v:=(u.getD i 0:Nat)) (i:=n - 1 - i) (by omega) (by simp; omega);simp only [List.length_set,aD] at h1 h2;refine u0 ?_ h2;intro p o hp ho;have:=h1 p o hp ho;simp only [updG,Nat.zero_add] at this ⊢;split
   ·rfl
   ·exact this
  ·have hge:n - 1 - i<=i:=by simp at hge; omega
   have hr:=zaj (l:=l) hn hge;rw [hu] at hr;refine⟨[0],rfl,by simp,by simp,by simp [Qr,ctrT],.tup [],_,qw (by simp [resV,exp2,eqA2,eqL1]),.inl ?_,rfl,hq⟩;simp [expH,expB,hr,za];omega
def vY(neg:Bool)(x:Nat):Blk:=.box [.bool neg,magS x]
def SW(x i n:Nat):KV:=[(1,.ptr 0 0),(4,.osl 1 1 0 n),Z 6,(12,magS x),(13,.i ((canon x).length:Int)),(14,.i (i:Int)),Z 18]
def SW2(x i n g k:Nat):KV:=[(1,.ptr 0 0),(4,.osl 1 1 0 n),(6,.int .u32 (g:Int)),(12,magS x),(13,.i ((canon x).length:Int)),(14,.i (i:Int)),(18,.i (k:Int))]
noncomputable def G4:=tb X3 tz
theorem Q0(k:IntKind)(l:List Nat)(n:Nat)(hn:n<=l.length):xl n (zf (natG k l) 0)=(l.take n).map UInt8.ofNat:=by
 apply List.ext_getElem (by simp [xl]; omega);intro j h1 h2;have hj:j<n:=by simpa [xl] using h1
 simp [xl,zf,natG,Sx.byteOf,show j<l.length by omega]
def wb(x i:Nat):List Nat:=(decs (9*i) (val ((canon x).take i))).map (48 + ·)
theorem WD(x i:Nat):(wb x i).length=9*i:=by simp [wb,yY]
theorem Us(i:Nat):B^i=10^(9*i):=by rw [Nat.pow_mul]
theorem zg6{x i:Nat}(h:i<(canon x).length):wb x i++(decs 9 ((canon x).getD i 0)).map (48 + ·)=wb x (i+1):=by
 have h1:=qu (j3 (zj x) i);rw [aH,Nat.min_eq_left (by omega),Us] at h1;simp only [wb];rw [<- List.map_append,<- uV _ _ _ _ h1,zq,Us];rfl
theorem Ya(x:Nat):wb x (canon x).length=(dec x).map (48 + ·)++List.replicate (9*(canon x).length - (dec x).length) 48:=by
 have h:x<10^(9*(canon x).length):=by
  have:=qu (zj x)
  rwa [zm,Us] at this
 simp only [wb,bD,zm,zcz h,Ten.padN,List.map_append,List.map_replicate,dec]
def ZX:Ctr:=ctrP true (λp:Bool×Nat=>[.agg [.bool p.1,magS p.2]]) (λp=>(canon p.2).length<1000000) (λp r=>r=wr p.1 p.2) (λ_ r=>(.tup [.str r.1,.i r.2],[]))
abbrev q14(A:List AV)(H:Heap)(x:List Nat×Nat):Prop:=eqL A [.osl (0:Nat) (1:Nat) (0:Nat) x.2]/\eqH H [Blk.arr x.1.length (1:Nat) (natG .u8 x.1)]/\(1:Nat)=(1:Nat)/\Prod.snd x<=List.length x.1/\List.length x.1<(4611686018427387904:Nat)
theorem za0{O:Nat->Prop}{w0:World}{Q:AV×Heap->Prop}{Hs:Nat->KV->Heap->Prop}(neg:Bool)(x:Nat)(hx:(canon x).length<1000000)(hx0:x≠0)(hq:Q (.tup [.str (wr neg x).1,.i (wr neg x).2],[]))(b:List Nat)(hb:b=wb x (canon x).length) :
  zb prog f115 O 0 w0 [] Hs (RetR ZX 0 Q) (.code (.loop (lps (inside K115 0) 1).1)::(lps (inside K115 0) 1).2) (mk f115.ntmps (SW x (canon x).length b.length) [vY neg x,.arr b.length 1 (natG .u8 b)]):=by
 have hdl:=WJ hx0
 have hle:(dec x).length<=9*(canon x).length:=by
  have:=qu (zj x);rw [zm,Us] at this;exact Zv this
 have hbl:b.length=9*(canon x).length:=by rw [hb,WD]
 have hget:∀ p,p<b.length->b.getD p 0=48+(dec x).getD p 0:=by
  intro p hp;rw [hb,Ya];by_cases h:p<(dec x).length
  ·rw [yh (by simpa using h),UC (z:=0) h]
  ·rw [Qa (by simpa using Nat.le_of_not_lt h),zf1 (by simp; omega),zba (Nat.le_of_not_lt h)]
 have htake:b.take (dec x).length=(dec x).map (48 + ·):=by
  rw [hb,Ya,List.take_append_of_le_length (by simp),bF (by simp)]
 refine zb.loop (ι:={n:Nat // (dec x).length<=n/\n<=b.length}) (λn=>SW x (canon x).length n.1) (λ_=>[vY neg x,.arr b.length 1 (natG .u8 b)]) (λn=>n.1) ⟨b.length,by omega,aJ _⟩ 0 ?_ ?_ (by kernel_rfl)
 ·exact⟨by simp [SW,magS,natS,za],by simp [vY,magS,natS,za],by kernel_rfl,aI _⟩
 ·rintro⟨n,hn1,hn2⟩;obtain⟨L,hL⟩:∃ L,(canon x).length=L:=⟨_,rfl⟩;simp only [hL];refine zb.n G4.h [1,4,6,12,13,14,18] (let v6:=natG .u8 b;let v5:=zd (1:Nat) [.int .u8 45];let v4:=inR IntKind.i64 ((n:Int) - (1:Int));let v1:=[AV.bool neg,AV.sl (canon x).length (1:Nat) (natG .u32 (canon x))];Tree.side v4 (Tree.side ((0:Int)<=(n:Int) - (1:Int)/\(n:Int) - (1:Int)<(n:Int)) (Tree.ite (decide ((↑(b.getD ((0:Nat)+Int.toNat (n-1)) (0:Nat)):Int)=(48:Int))) (Tree.side v4 (Tree.side ((0:Int)<=(n:Int) - (1:Int)/\(n:Int) - (1:Int)<=(n:Int)) (Tree.leaf (we.back (0:Nat) [((1:Nat),AV.ptr (0:Nat) (0:Nat)),((4:Nat),AV.osl (1:Nat) (1:Nat) (0:Nat) (Int.toNat (n-1) - (0:Nat))),((6:Nat),AV.undef),((12:Nat),AV.sl (canon x).length (1:Nat) (natG .u32 (canon x))),((13:Nat),AV.i (canon x).length),((14:Nat),AV.i L),((18:Nat),AV.undef)] [Blk.box v1,Blk.arr b.length (1:Nat) v6])))) (Tree.ite (decide ((1000:Int)<(n:Int))) (Tree.leaf (we.ret [.str #[].toList,.i 14] [Blk.box v1,Blk.arr b.length (1:Nat) v6])) (Tree.ite neg (Tree.side ((0:Nat)=(0:Nat)/\n<=List.length b/\(n+(1:Nat))*(1:Nat)<=(140737488355328:Nat)) (Tree.ex (q14 [.osl (0:Nat) (1:Nat) (0:Nat) (n+(1:Nat))] [Blk.arr (n+(1:Nat)) (1:Nat) (appG n v6 (zf v5 (0:Nat)))]) λ(n_1:List Nat×Nat)=>let v2:=List.reverse (List.take n_1.2 n_1.1)++List.drop n_1.2 n_1.1;Tree.A λ(n_2:Unit)=>Tree.side (∀ (j:Nat),j<n+(1:Nat)->∃ (b:UInt8),AV.int .u8 ↑(List.getD v2 ((0:Nat)+j) (0:Nat))=AV.int .u8 ↑(UInt8.toNat b)) (Tree.leaf (we.ret [.str (xl (n+(1:Nat)) (zf (natG .u8 v2) (0:Nat))),.i 0] [Blk.box v1,Blk.arr n_1.1.length (1:Nat) (natG .u8 v2),Blk.arr (1:Nat) (1:Nat) v5])))) (Tree.ex (q14 [.osl (0:Nat) (1:Nat) (0:Nat) n] [Blk.arr b.length (1:Nat) v6]) λ(n_1:List Nat×Nat)=>let v3:=List.reverse (List.take n_1.2 n_1.1)++List.drop n_1.2 n_1.1;Tree.A λ(n_2:Unit)=>Tree.side (∀ (j:Nat),j<n->∃ (b:UInt8),AV.int .u8 ↑(List.getD v3 ((0:Nat)+j) (0:Nat))=AV.int .u8 ↑(UInt8.toNat b)) (Tree.leaf (we.ret [.str (xl n (zf (natG .u8 v3) (0:Nat))),.i 0] [Blk.box v1,Blk.arr n_1.1.length (1:Nat) (natG .u8 v3)])))))))) ?_;have e1:((n:Int) - 1).toNat=n - 1:=by omega
  have e2:0+(n - 1)=n - 1:=by omega
  have e3:n - 1 - 0=n - 1:=by omega
  simp only [Tree.holds,ze,inR,lo,hi,e1,e2,e3];have hg:=hget (n - 1) (by omega);rw [hg]
  iterate 2 refine⟨by omega,λ_=> ?_⟩
  refine⟨λhz=> ?_,λhnz=>⟨λhbig=> ?_,λhsm=> ?_⟩⟩
  ·have hz:(dec x).getD (n - 1) 0=0:=by simp at hz ⊢; omega
   have hne:n≠(dec x).length:=by
    rintro rfl;exact Ui hdl hz
   iterate 2 refine⟨by omega,λ_=> ?_⟩
   rw [aP trivial];exact⟨⟨n - 1,by omega,by omega⟩,by show n - 1<n; omega,by simp [SW,magS,natS,za],by simp [vY,magS,natS,za],by kernel_rfl,aI _⟩
  ·have hn:n=(dec x).length:=by
    rcases aR (dec x).length n with h | h
    ·have:(dec x).getD (n - 1) 0=0:=by simp [List.getD,aZ (show(dec x).length<=n - 1 by omega)]
     rw [this] at hnz; simp at hnz
    ·omega
   subst hn;have hbig:1000<(dec x).length:=by simp at hbig; omega
   simp only [wr,aO hx0,aP hbig] at hq;exact RetR.scal hq rfl rfl
  ·have hn:n=(dec x).length:=by
    rcases aR (dec x).length n with h | h
    ·have:(dec x).getD (n - 1) 0=0:=by simp [List.getD,aZ (show(dec x).length<=n - 1 by omega)]
     rw [this] at hnz; simp at hnz
    ·omega
   subst hn;have hsm:¬ 1000<(dec x).length:=by simp at hsm; omega
   simp only [wr,aO hx0,aO hsm] at hq
   have hbyte:∀ (l:List Nat) (k:Nat),(∀ d∈l,d<256)->∀ j,j<k->∃ c:UInt8,AV.int .u8 ((l.getD (0+j) 0:Nat):Int) = .int .u8 (c.toNat:Int):=by
    intro l k hl j hj;rw [Nat.zero_add]
    have:l.getD j 0<256:=by
     by_cases h:j<l.length
     ·have:=hl l[j] (bK h);simpa [List.getD,h] using this
     ·simp [List.getD,aZ (Nat.le_of_not_lt h)]
    refine⟨UInt8.ofNat (l.getD j 0),?_⟩;simp only [AV.int.injEq,true_and];rw [UInt8.toNat_ofNat',Nat.mod_eq_of_lt this]
   have hb256:∀ d∈b,d<256:=by
    intro d hd;rw [hb,Ya] at hd;rcases bY.1 hd with hd | hd
    ·obtain⟨y,hy,rfl⟩:=List.mem_map.1 hd;have:=Ten.zj x y hy;simp only [Ten.B] at this;omega
    ·have:=(List.mem_replicate.1 hd).2; omega
   have htx:((b.take (dec x).length).reverse).map UInt8.ofNat=txt x:=by
    rw [htake,txt,aO hx0,List.map_reverse,List.map_map]; rfl
   refine⟨λhneg=> ?_,λhneg=> ?_⟩
   ·subst hneg;refine⟨⟨trivial,hn2,by omega⟩,λ_=> ?_⟩;have hal:(b.take (dec x).length++[45]).length=(dec x).length+1:=by simp; omega
    refine⟨(b.take (dec x).length++[45],(dec x).length+1),⟨by simp,?_,by simp,by simp only [hal]; omega,by simp only [hal]; omega⟩,⟨(),trivial⟩,λ_ _=>⟨?_,λ_=> ?_⟩⟩
    ·simp only [eqH,eqB,hal];refine⟨⟨trivial,trivial,?_⟩,trivial⟩;intro j o hj ho;have:o=0:=by omega
     subst this;simp only [appG,zf,zd,natG];have hl:(b.take (dec x).length).length=(dec x).length:=by simp; omega
     by_cases h:j<(dec x).length
     ·rw [aP h,yh (by omega),YZ h]
     ·have:j=(dec x).length:=by omega
      subst this;rw [aO (by omega),Qa (by omega),hl,Nat.sub_self];rfl
    ·refine hbyte _ _ ?_;intro d hd;simp only [bY,List.mem_reverse] at hd;rcases hd with hd | hd
     ·have:=List.mem_of_mem_take hd;rcases bY.1 this with h | h
      ·exact hb256 d (List.mem_of_mem_take h)
      ·simp at h; omega
     ·have:=List.mem_of_mem_drop hd;rcases bY.1 this with h | h
      ·exact hb256 d (List.mem_of_mem_take h)
      ·simp at h; omega
    ·refine RetR.scal hq rfl ?_;simp only [resV];rw [Q0 _ _ _ (by simp; omega)];have ht:List.take ((dec x).length+1) (b.take (dec x).length++[45])=b.take (dec x).length++[45]:=bF (by omega);rw [ht,List.take_append_of_le_length (by simp; omega),bF (by simp; omega),List.reverse_append,List.map_append,htx];simp [sgn]
   ·subst hneg;refine⟨(b,(dec x).length),⟨by simp,by simp [za],by simp,hn2,by simp only [hbl]; omega⟩,⟨(),trivial⟩,λ_ _=>⟨?_,λ_=> ?_⟩⟩
    ·refine hbyte _ _ ?_;intro d hd;simp only [bY,List.mem_reverse] at hd;rcases hd with hd | hd
     ·exact hb256 d (List.mem_of_mem_take hd)
     ·exact hb256 d (List.mem_of_mem_drop hd)
    ·refine RetR.scal hq rfl ?_;simp only [resV];have hrl:((b.take (dec x).length).reverse).length=(dec x).length:=by simp; omega
     rw [Q0 _ _ _ (by rw [bO,hrl]; omega),List.take_append_of_le_length (by omega),bF (by omega),htx];simp [sgn]
theorem Q2:zc prog 115 ZX:=by
 refine zh' f115 λp hp O w0 Q hq=> ?_
 obtain⟨neg,x⟩:=p;replace hq:=hq _ rfl;simp only at hp hq;refine zb.n G4.h [1,4,6,12,13,14,18] (let v1:=[AV.bool neg,AV.sl (canon x).length (1:Nat) (natG .u32 (canon x))];Tree.ite (decide (((canon x).length:Int)=(0:Int))) (Tree.leaf (we.ret [.str #[(48:UInt8)].toList,.i 0] [Blk.box v1])) (Tree.leaf (we.loop (Prod.fst (lps K115 (0:Nat))) (Prod.snd (lps K115 (0:Nat))) [((1:Nat),AV.ptr (0:Nat) (0:Nat)),((4:Nat),AV.nils),((6:Nat),AV.undef),((12:Nat),AV.sl (canon x).length (1:Nat) (natG .u32 (canon x))),((13:Nat),AV.i (canon x).length),((14:Nat),AV.i 0),((18:Nat),AV.undef)] [Blk.box v1]))) ?_;simp only [Tree.holds,ze,inR,lo,hi];refine⟨λh0=> ?_,λh0=> ?_⟩
 ·have h0:x=0:=by
   rcases bC x with h | h
   ·exact h
   ·have:=j8 (x:=x) (n:=0) (by simp; omega);simp at h0; rw [h0] at this; simp at this
  subst h0;refine RetR.scal hq rfl ?_;simp [resV,wr]
 ·have hx0:x≠0:=by
   rintro rfl;simp [zH] at h0
  refine zb.bear 4 1 (natG .u8 []) (by kernel_rfl) (by decide +kernel) (by kernel_rfl) ?_;refine zb.loop (ι:={i:Nat // i<=(canon x).length}) (λi=>SW x i.1 (wb x i.1).length) (λi=>[vY neg x,.arr (wb x i.1).length 1 (natG .u8 (wb x i.1))]) (λi=>(canon x).length - i.1) ⟨0,aI _⟩ 0 ?_ ?_ (by kernel_rfl)
  ·exact⟨by simp [JM,SW,magS,natS,za,WD],by simp [vY,magS,natS,za,WD,eqG],by kernel_rfl,aI _⟩
  ·rintro⟨i,hil⟩;obtain⟨b,hb⟩:∃ b,wb x i=b:=⟨_,rfl⟩;simp only [hb];refine zb.n G4.h [1,4,6,12,13,14,18] (let v3:=natG .u32 (canon x);let v2:=inside K115 (0:Nat);let v1:=[AV.bool neg,AV.sl (canon x).length (1:Nat) v3];Tree.ite (decide ((i:Int)<((canon x).length:Int))) (Tree.side ((0:Int)<=(i:Int)/\(i:Int)<((canon x).length:Int)) (Tree.leaf (we.loop (Prod.fst (lps v2 (0:Nat))) (Prod.snd (lps v2 (0:Nat))) [((1:Nat),AV.ptr (0:Nat) (0:Nat)),((4:Nat),AV.osl (1:Nat) (1:Nat) (0:Nat) b.length),((6:Nat),AV.int .u32 ↑(List.getD (canon x) (i:Int).toNat (0:Nat))),((12:Nat),AV.sl (canon x).length (1:Nat) v3),((13:Nat),AV.i (canon x).length),((14:Nat),AV.i i),((18:Nat),AV.i 0)] [Blk.box v1,Blk.arr b.length (1:Nat) (natG .u8 b)]))) (Tree.leaf (we.loop (Prod.fst (lps v2 (1:Nat))) (Prod.snd (lps v2 (1:Nat))) [((1:Nat),AV.ptr (0:Nat) (0:Nat)),((4:Nat),AV.osl (1:Nat) (1:Nat) (0:Nat) b.length),((6:Nat),AV.undef),((12:Nat),AV.sl (canon x).length (1:Nat) v3),((13:Nat),AV.i (canon x).length),((14:Nat),AV.i i),((18:Nat),AV.undef)] [Blk.box v1,Blk.arr b.length (1:Nat) (natG .u8 b)]))) ?_;simp only [Tree.holds,ze,inR,lo,hi,aD];refine⟨λhlt=>⟨by simp at hlt; omega,λ_=> ?_⟩,λhge=> ?_⟩
   ·have hlt:i<(canon x).length:=by simp at hlt; omega
    obtain⟨g,hg⟩:∃ g,(canon x).getD i 0=g:=⟨_,rfl⟩;have hgB:g<1000000000:=hg▸zL (zj x) i;have hstep:=zg6 hlt;have hbl:b.length=9*i:=by rw [<- hb,WD]
    rw [hb,hg] at hstep;rw [hg];refine zb.loop (ι:={k:Nat // k<=9}) (λk=>SW2 x i (b++(decs k.1 g).map (48 + ·)).length (g/10^k.1) k.1) (λk=>[vY neg x,.arr (b++(decs k.1 g).map (48 + ·)).length 1 (natG .u8 (b++(decs k.1 g).map (48 + ·)))]) (λk=>9 - k.1) ⟨0,aI _⟩ 1 ?_ ?_ (by kernel_rfl)
    ·exact⟨by simp [SW2,magS,natS,za,decs],by simp [vY,magS,natS,za,decs],by kernel_rfl,aI _⟩
    ·rintro⟨k,hk⟩;obtain⟨c,hc⟩:∃ c,b++(decs k g).map (48 + ·)=c:=⟨_,rfl⟩;obtain⟨q,hqv⟩:∃ q,g/10^k=q:=⟨_,rfl⟩;have hqB:q<1000000000:=by rw [<- hqv]; exact Nat.lt_of_le_of_lt (Nat.div_le_self _ _) hgB
     have hcl:c.length=9*i+k:=by rw [<- hc]; simp [yY,hbl]
     have hnext:b++(decs (k+1) g).map (48 + ·)=c++[48+q%10]:=by
      rw [Jo,List.map_append,<- List.append_assoc,hc,hqv]; rfl
     have hqn:g/10^(k+1)=q/10:=by rw [Nat.pow_succ,<- Nat.div_div_eq_div_mul,hqv]
     simp only [hc,hqv];refine zb.n G4.h [1,4,6,12,13,14,18] (let v5:=Int.tdiv (q:Int) (10:Int);let v4:=natG .u32 (canon x);let v3:=List.length c+(1:Nat);let v2:=zd (1:Nat) [.int .u8 ((48:Int)+Int.tmod (q:Int) (10:Int))];let v1:=[AV.bool neg,AV.sl (canon x).length (1:Nat) v4];Tree.ite (decide ((k:Int)<(9:Int))) (Tree.side ((10:Int)≠(0:Int)) (Tree.side (inR IntKind.u32 ((48:Int)+Int.tmod (q:Int) (10:Int))) (Tree.side (inR IntKind.u8 ((48:Int)+Int.tmod (q:Int) (10:Int))) (Tree.side ((0:Nat)=(0:Nat)/\List.length c<=List.length c/\v3 *(1:Nat)<=(140737488355328:Nat)) (Tree.side ((10:Int)≠(0:Int)/\inR IntKind.u32 v5) (Tree.side (inR IntKind.i64 ((k:Int)+(1:Int))) (Tree.leaf (we.back (1:Nat) [((1:Nat),AV.ptr (0:Nat) (0:Nat)),((4:Nat),AV.osl (1:Nat) (1:Nat) (0:Nat) v3),((6:Nat),AV.int .u32 v5),((12:Nat),AV.sl (canon x).length (1:Nat) v4),((13:Nat),AV.i (canon x).length),((14:Nat),AV.i i),((18:Nat),AV.i (k+1))] [Blk.box v1,Blk.arr v3 (1:Nat) (appG c.length (natG .u8 c) (zf v2 (0:Nat))),Blk.arr (1:Nat) (1:Nat) v2])))))))) (Tree.side (inR IntKind.i64 ((i:Int)+(1:Int))) (Tree.leaf (we.back (0:Nat) [((1:Nat),AV.ptr (0:Nat) (0:Nat)),((4:Nat),AV.osl (1:Nat) (1:Nat) (0:Nat) c.length),((6:Nat),AV.int .u32 q),((12:Nat),AV.sl (canon x).length (1:Nat) v4),((13:Nat),AV.i (canon x).length),((14:Nat),AV.i (i+1)),((18:Nat),AV.i k)] [Blk.box v1,Blk.arr c.length (1:Nat) (natG .u8 c)])))) ?_;have e10:(10:Int)=((10:Nat):Int):=rfl;have em:Int.tmod (q:Int) 10=((q%10:Nat):Int):=by rw [e10,YP]
     have ed:Int.tdiv (q:Int) 10=((q/10:Nat):Int):=by rw [e10,Y7]
     simp only [Tree.holds,ze,inR,lo,hi,em,ed];refine⟨λhlt2=> ?_,λhge2=> ?_⟩
     ·have hlt2:k<9:=by simp at hlt2; omega
      refine⟨by decide,λ_=>⟨by omega,λ_=>⟨by omega,λ_=>⟨⟨trivial,aJ _,by omega⟩,λ_=>⟨⟨by decide,by omega,by omega⟩,λ_=>⟨by omega,λ_=> ?_⟩⟩⟩⟩⟩⟩;rw [aP trivial];refine⟨⟨k+1,by omega⟩,by show 9 - (k+1)<9 - k; omega,?_,?_,by kernel_rfl,aI _⟩
      ·simp [SW2,hnext,hqn,magS,natS,za]
      ·simp only [hnext];refine⟨by simp [vY,magS,natS,za],⟨by simp,rfl,?_⟩,trivial⟩;have:=y3 (k:=.u8) (l:=c) (v:=48+((q%10:Nat):Int)) (by omega);rw [show(48+((q%10:Nat):Int)).toNat=48+q%10 by omega] at this;exact this
     ·have hge2:k=9:=by simp at hge2; omega
      subst hge2;refine⟨by omega,λ_=> ?_⟩;rw [aO (by decide),aP trivial];have hcw:c=wb x (i+1):=by rw [<- hc,hstep]
      exact⟨⟨i+1,hlt⟩,by show _ - (i+1)<_ - i; omega,by simp [SW,hcw,magS,natS,za],by simp [hcw,vY,magS,natS,za],by kernel_rfl,aI _⟩
   ·have hge:i=(canon x).length:=by simp at hge; omega
    subst hge;exact za0 neg x hp hx0 hq b hb.symm
noncomputable def K74:=Go.Sx.aA f74
noncomputable def K75:=Go.Sx.aA f75
theorem Qz(c:UInt8):(if decide ((c.toNat:Int)<48)=true then true else decide (57<(c.toNat:Int))) = !isD c:=by
 simp only [isD];by_cases h:c.toNat<48
 ·rw [aP (by simp; omega)]; simp; omega
 ·rw [aO (by simp; omega)];by_cases h2:c.toNat<=57
  ·have:decide (57<(c.toNat:Int))=false:=by simp; omega
   rw [this]; simp; omega
  ·have:decide (57<(c.toNat:Int))=true:=by simp; omega
   rw [this]; simp; omega
def ZN:Ctr:=ctrP true (λs:L8=>[.str s]) (λs=>s.length<2^62) (λs r=>r=errI s) (λ_ r=>(.i r,[]))
def SCk(b:L8)(i:Nat):KV:=[(3,.str b),(31,.i (b.length:Int)),(32,.i (i:Int)),Z 40,Z 41,Z 42,Z 43]
theorem ZT{O:Nat->Prop}{w0:World}{Q:AV×Heap->Prop}{neg:Bool}(b:L8)(hb:b.length<2^62)(hf:b.all isD=true->wa neg b=true)
  (hq:Q (.i (if wa neg b then(if 1000<b.length then 14 else 0) else 12),[])) :
  zb prog f74 O 0 w0 [] (λ_ _ _=>False) (RetR ZN 0 Q) (.code (.loop (lps K74 0).1)::(lps K74 0).2) (mk f74.ntmps (SCk b 0) []):=by
 refine zb.loop (ι:={i:Nat // i<=b.length/\∀ j,j<i->isD (b.getD j 0)=true}) (λi=>SCk b i.1) (λ_=>[]) (λi=>b.length - i.1) ⟨0,aI _,λj hj=>by omega⟩ 0 ?_ ?_ (by kernel_rfl)
 ·exact⟨by simp [SCk],by simp,by kernel_rfl,aI _⟩
 ·rintro⟨i,hil,hid⟩;refine zb.n zA [3,31,32,40,41,42,43] (let v1:=b.getD (i:Int).toNat (0:UInt8);.D ((i:Int)<b.length) (.side ((0:Int)<=i/\(i:Int)<b.length) (.side (decide ((↑(UInt8.toNat v1):Int)<48)=false->(0:Int)<=i/\(i:Int)<b.length) (.ite (bif decide ((↑(UInt8.toNat v1):Int)<48) then true else decide ((57:Int)<(↑(UInt8.toNat v1):Int))) (.R [.i 12] []) (.S (i+1) (.leaf (.back 0 [(3,.str b),(31,.i b.length),(32,.i (i+1)),Z 40,Z 41,Z 42,Z 43] [])))))) (.D ((1000:Int)<b.length) (.R [.i 14] []) (.R [.i 0] []))) ?_;simp only [Tree.holds,ze,inR,lo,hi,aD,Bool.cond_eq_ite];refine⟨λhlt=> ?_,λhge=>⟨λhbig=> ?_,λhsm=> ?_⟩⟩
  ·have hlt:i<b.length:=by simp at hlt; omega
   refine⟨by omega,λ_=>⟨λ_=>by omega,λ_=>⟨λhbad=> ?_,λhgood=>⟨by omega,λ_=> ?_⟩⟩⟩⟩
   ·have hnd:isD (b.getD i 0)=false:=by
     rw [Qz] at hbad;simpa using hbad
    have hnf:wa neg b=false:=by
     have:b.all isD=false:=by
      rw [List.all_eq_false];refine⟨b.getD i 0,by simp [List.getD,hlt],by simpa using hnd⟩
     simp [wa,this]
    rw [hnf] at hq;exact RetR.scal hq rfl (by simp [resV])
   ·have hd:isD (b.getD i 0)=true:=by
     rw [Qz] at hgood;simpa using hgood
    rw [aP trivial];refine⟨⟨i+1,hlt,λj hj=> ?_⟩,by show b.length - (i+1)<b.length - i; omega,by simp [SCk],by simp,by kernel_rfl,aI _⟩;rcases aR j i with h | h
    ·exact hid j h
    ·have:j=i:=by omega
     subst this; exact hd
  all_goals
   have hge:i=b.length:=by simp at hge; omega
   have hall:b.all isD=true:=by
    rw [bG];intro c hc;obtain⟨j,hj,rfl⟩:=List.getElem_of_mem hc;have:=hid j (by omega);simpa [List.getD,hj] using this
   rw [hf hall] at hq
  ·rw [aP rfl,aP (by simp at hbig; omega)] at hq;exact RetR.scal hq rfl (by simp [resV])
  ·rw [aP rfl,aO (by simp at hsm; omega)] at hq;exact RetR.scal hq rfl (by simp [resV])
theorem Q6:zc prog 74 ZN:=by
 refine zh' f74 λs hs O w0 Q hq=> ?_
 replace hq:=hq _ rfl;refine zb.n zA [3,31,32,40,41,42,43] (let v3:we:=.ret [.i 12] [];let v1:=List.take s.length s;let v2:=List.drop 1 v1;.side (decide ((0:Int)<s.length)=true->(0:Int)<=0/\(0:Int)<s.length) (.ite (bif decide ((0:Int)<s.length) then decide ((↑(UInt8.toNat (s.getD 0 (0:UInt8))):Int)=45) else false) (.side ((0:Int)<=1/\(1:Int)<=s.length) (.D (List.drop 1 v1=#[(48:UInt8)].toList) (.leaf v3) (.side (decide (List.drop 1 v1=#[].toList)=false->(0:Int)<=0/\(0:Int)<(↑(List.length v2):Int)) (.ite (bif decide (List.drop 1 v1=#[].toList) then true else bif decide ((↑(UInt8.toNat (List.getD v2 0 (0:UInt8))):Int)=48) then decide ((1:Int)<(↑(List.length v2):Int)) else false) (.leaf v3) (.leaf (.loop (lps K74 0).1 (lps K74 0).2 [(3,.str v2),(31,.int .i64 ↑(List.length v2)),(32,.i 0),Z 40,Z 41,Z 42,Z 43] [])))))) (.side (decide (s=#[].toList)=false->(0:Int)<=0/\(0:Int)<s.length) (.ite (bif decide (s=#[].toList) then true else bif decide ((↑(UInt8.toNat (s.getD 0 (0:UInt8))):Int)=48) then decide ((1:Int)<s.length) else false) (.leaf v3) (.leaf (.loop (lps K74 0).1 (lps K74 0).2 [(3,.str s),(31,.i s.length),(32,.i 0),Z 40,Z 41,Z 42,Z 43] [])))))) ?_;simp only [Tree.holds,ze,inR,lo,hi,Bool.cond_eq_ite];cases s with
 | nil=>
  simp only [errI,parse,wa] at hq;refine⟨by simp,λ_=>⟨λh=>by simp at h,λ_=>⟨by simp,λ_=>⟨λ_=> ?_,λh=>by simp at h⟩⟩⟩⟩;exact RetR.scal hq rfl (by simp [resV])
 | cons c b=>
  refine⟨by simp,λ_=>⟨λh=> ?_,λh=> ?_⟩⟩
  ·have hc:c=45:=by
    simp at h;have:c.toNat=45:=by omega
    exact UInt8.toNat_inj.1 this
   subst hc;have hp:parse (45::b)=(true,b):=rfl;have hd:List.drop 1 (List.take (45::b).length (45::b))=b:=by simp
   rw [hd];simp only [errI,hp] at hq;refine⟨by simp; omega,λ_=>⟨λh0=> ?_,λh0=>⟨λhne=> ?_,λ_=>⟨λhbad=> ?_,λhgood=> ?_⟩⟩⟩⟩
   ·have hb:b=[48]:=by simpa using h0
    subst hb;exact RetR.scal hq rfl rfl
   ·have:b≠[]:=by simpa using hne
    have:=List.length_pos_iff.2 this;omega
   ·have hnf:wa true b=false:=by
     by_cases hb:b=[]
     ·subst hb; rfl
     ·rw [aO (by simpa using hb)] at hbad;split at hbad
      ·rename_i h48;have:b.getD 0 0=48:=Km (aB h48);have hl:1<b.length:=by simp at hbad; omega
       exact kB this hl
      ·cases hbad
    rw [hnf] at hq;exact RetR.scal hq rfl (by simp [resV])
   ·have hf:b.all isD=true->wa true b=true:=by
     intro hall
     have hb:b≠[]:=by
      intro hb; subst hb; simp at hgood
     have hb2:b≠[48]:=by simpa using h0
     rw [aO (by simpa using hb)] at hgood
     have h3:¬ (b.getD 0 0=48/\1<b.length):=by
      rintro⟨g1,g2⟩;rw [g1] at hgood;rw [aP (by decide)] at hgood;simp at hgood; omega
     simp only [wa,hall,hb,hb2,Bool.and_true];simp only [decide_false,Bool.not_false,Bool.and_false,Bool.true_and,Bool.not_eq_true',Bool.and_eq_false_iff,aV];by_cases g1:b.getD 0 0=48
     ·exact .inr λg2=>h3 ⟨g1,g2⟩
     ·exact .inl g1
    exact ZT b (by simp at hs; omega) hf hq
  ·have hc:c≠45:=by
    rintro rfl;simp at h
   have hp:parse (c::b)=(false,c::b):=by simp [parse,hc]
   simp only [errI,hp] at hq;obtain⟨s,hs'⟩:∃ s,c::b=s:=⟨_,rfl⟩;have hne:s≠[]:=by rw [<- hs']; simp
   rw [hs'] at hq hs ⊢;refine⟨λ_=>⟨by omega,by have:=List.length_pos_iff.2 hne; omega⟩,λ_=>⟨λhbad=> ?_,λhgood=> ?_⟩⟩
   ·have hnf:wa false s=false:=by
     rw [aO (by simpa using hne)] at hbad;split at hbad
     ·rename_i h48;have:s.getD 0 0=48:=Km (aB h48);have hl:1<s.length:=by simp at hbad; omega
      exact kB this hl
     ·cases hbad
    rw [hnf] at hq;exact RetR.scal hq rfl (by simp [resV])
   ·have hf:s.all isD=true->wa false s=true:=by
     intro hall;rw [aO (by simpa using hne)] at hgood
     have h3:¬ (s.getD 0 0=48/\1<s.length):=by
      rintro⟨g1,g2⟩;rw [g1] at hgood;rw [aP (by decide)] at hgood;simp at hgood; omega
     simp only [wa,hall,hne,Bool.and_true];simp only [decide_false,Bool.not_false,Bool.false_and,Bool.true_and,Bool.not_eq_true',Bool.and_eq_false_iff,aV];by_cases g1:s.getD 0 0=48
     ·exact .inr λg2=>h3 ⟨g1,g2⟩
     ·exact .inl g1
    exact ZT s hs hf hq
def numV(neg:Bool)(x:Nat):AV:=.agg [.bool neg,magS x]
def uT:Ctr:=ctrP false (λp:L8×L8=>[.str p.1,.str p.2]) (λp=>p.1.length<2^62/\p.2.length<2^62) (λp (r:Int×(Bool×Nat)×(Bool×Nat))=>r=if zu p.1 p.2=0 then(0,(negI p.1,numI p.1),(negI p.2,numI p.2)) else(zu p.1 p.2,(false,0),(false,0)))
 (λ_ r=>(.tup [numV r.2.1.1 r.2.1.2,numV r.2.2.1 r.2.2.2,.i r.1],[]))
noncomputable def G5:=tb Q6 (tb zhp tz)
theorem zjz:canon 0=[]:=by simp [canon]
abbrev q16(A:List AV)(x:Bool×L8):Prop:=eqL A [.str (sgn x.1 x.2)]/\allD x.2/\x.2≠[]/\x.2.length<=1000000
abbrev q15(A:List AV)(x:L8):Prop:=eqL A [.str x]/\x.length<4611686018427387904
theorem Wu:zc prog 113 uT:=by
 refine zh' f113 λp hp O w0 Q hq=> ?_
 obtain⟨s,t⟩:=p;obtain⟨hs,ht⟩:=hp;replace hq:=hq _ rfl;simp only at hs ht hq;refine zb.n G5.h [] (let v1:List AV:=[.bool false,.nils];.ex (q15 [.str s]) λn=>.all (λ(r:Int)=>r=errI n) λn=>.D (n=0) (.ex (q15 [.str t]) λn=>.all (λ(r:Int)=>r=errI n) λn=>.N (n=0) (.R [.agg v1,.agg v1,.i n] [.box v1,.box v1]) (.ex (q16 [.str s]) λn=>.all (λ(r:Nat)=>r=numD n.2) λn_1=>let v4:List AV:=[.bool n.1,.sl (canon n_1).length 1 (natG .u32 (canon n_1))];.ex (q16 [.str t]) λn_2=>.all (λ(r:Nat)=>r=numD n_2.2) λn_3=>let v2:List AV:=[.bool n_2.1,.sl (canon n_3).length 1 (natG .u32 (canon n_3))];.R [.agg v4,.agg v2,.i 0] [.box v4,.box v2])) (.N (n=0) (.R [.agg v1,.agg v1,.i n] [.box v1,.box v1]) (.ex (q16 [.str s]) λn=>.all (λ(r:Nat)=>r=numD n.2) λn_1=>let v5:List AV:=[.bool n.1,.sl (canon n_1).length 1 (natG .u32 (canon n_1))];.ex (q16 [.str t]) λn_2=>.all (λ(r:Nat)=>r=numD n_2.2) λn_3=>let v3:List AV:=[.bool n_2.1,.sl (canon n_3).length 1 (natG .u32 (canon n_3))];.R [.agg v5,.agg v3,.i 0] [.box v5,.box v3]))) ?_
 have bad:∀ h,zu s t≠0->RetR uT 0 Q [.agg [.bool false,.nils],.agg [.bool false,.nils],.i (zu s t)] h:=by
  intro h he;rw [aO he] at hq;refine RetR.out0 hq (λh=>by simp [uT,ctrP] at h) ?_;simp [resV,exp2,exp1,exp0,ren0,eqA2,eqL1,eqA,eqL0,eqA0,numV,magS,natS,zjz]
 have good:∀ h,zu s t=0->RetR uT 0 Q [.agg [.bool (negI s),magS (numI s)],.agg [.bool (negI t),magS (numI t)],.i 0] h:=by
  intro h he;rw [aP he] at hq;refine RetR.out0 hq (λh=>by simp [uT,ctrP] at h) ?_;simp [resV,exp2,exp1,exp0,ren0,eqA2,eqL1,eqA,eqL0,eqA0,numV,magS,natS,za]
 have rd:∀ u,errI u=0->eqL [.str u] [.str (sgn (negI u) (parse u).2)]/\allD (parse u).2/\(parse u).2≠[]/\(parse u).2.length<=1000000:=by
  intro u hu;obtain⟨h1,h2,h3,h4⟩:=Z9 hu;exact⟨by simpa using h1,h2,h3,by omega⟩
 simp only [Tree.holds,ze];refine⟨s,⟨by simp,by omega⟩,?_⟩;refine⟨⟨_,rfl⟩,?_⟩;rintro _ rfl;refine⟨λh1=> ?_,λh1=> ?_⟩
 ·have h1:errI s=0:=by simpa using h1
  refine⟨t,⟨by simp,by omega⟩,?_⟩;refine⟨⟨_,rfl⟩,?_⟩;rintro _ rfl;refine⟨λh2=> ?_,λh2=> ?_⟩
  ·have h2:errI t≠0:=by simpa using h2
   have e:zu s t=errI t:=by simp [zu,h1]
   rw [<- e];exact bad _ (by rw [e]; exact h2)
  ·have h2:errI t=0:=by simpa using h2
   refine⟨(negI s,(parse s).2),rd s h1,?_⟩;refine⟨⟨_,rfl⟩,?_⟩;rintro _ rfl;refine⟨(negI t,(parse t).2),rd t h2,?_⟩;refine⟨⟨_,rfl⟩,?_⟩;rintro _ rfl;exact good _ (zl.2 ⟨h1,h2⟩)
 ·have h1:errI s≠0:=by simpa using h1
  have e:zu s t=errI s:=by simp [zu,h1]
  refine⟨λh2=> ?_,λh2=>absurd (by simpa using h2) h1⟩;rw [<- e];exact bad _ (by rw [e]; exact h1)
noncomputable def G6:=tb Wu (tb J7 (tb Q2 tz))
def gcdC:Ctr:=ctrP true (λp:L8×L8=>[.str p.1,.str p.2]) (λp=>p.1.length<2^62/\p.2.length<2^62) (λp r=>r=gcdR p.1 p.2) (λ_ r=>(.tup [.str r.1,.i r.2],[]))
def SGc:KV:=[(6,.ptr 0 0),(7,.ptr 1 0)]
def HGc(m n:Bool)(x y:Nat):Heap:=[.box [.bool m,magS x],.box [.bool n,magS y]]
theorem jF{x:Nat} : x<B^112↔(canon x).length<=112:=by
 refine⟨λh=>zy h,λh=> ?_⟩;have h1:=qu (zj x);rw [zm] at h1;exact bB h1 (bW (by decide) h)
theorem xD{x:Nat} : (canon x).length=0↔x=0:=by
 constructor
 ·intro h;have:=zm x;rw [aU.1 h] at this;exact this.symm
 ·rintro rfl; simp [canon]
abbrev q19(A:List AV)(x:Bool×Nat):Prop:=eqL A [.agg [.bool x.1,.sl (canon x.2).length 1 (natG .u32 (canon x.2))]]/\List.length (canon x.2)<1000000
abbrev q18(A:List AV)(x:Nat×Nat):Prop:=eqL A [.sl (canon x.1).length 1 (natG .u32 (canon x.1)),.sl (canon x.2).length 1 (natG .u32 (canon x.2))]/\List.length (canon x.1)<100000/\List.length (canon x.2)<100000/\0<x.2
abbrev q17(A:List AV)(x:L8×L8):Prop:=eqL A [.str x.1,.str x.2]/\x.1.length<4611686018427387904/\x.2.length<4611686018427387904
theorem zd5:zc prog 75 gcdC:=by
 refine zh' f75 λp hp O w0 Q hq=> ?_
 obtain⟨s,t⟩:=p;obtain⟨hs,ht⟩:=hp;replace hq:=hq _ rfl;simp only at hs ht hq;refine zb.n G6.h [6,7] (.ex (q17 [.str s,.str t]) λn=>.all (λ(r:Int×(Bool×Nat)×Bool×Nat)=>r=if zu n.1 n.2=0 then((0:Int),(negI n.1,numI n.1),negI n.2,numI n.2) else(zu n.1 n.2,(false,0),false,0)) λn=>let v1:List Blk:=[.box [.bool n.2.1.1,.sl (canon n.2.1.2).length 1 (natG .u32 (canon n.2.1.2))],.box [.bool n.2.2.1,.sl (canon n.2.2.2).length 1 (natG .u32 (canon n.2.2.2))]];.N (n.1=0) (.R [.str #[].toList,.i n.1] v1) (.leaf (.loop (lps K75 0).1 (lps K75 0).2 [(6,.ptr 0 0),(7,.ptr 1 0)] v1))) ?_;simp only [q17,Tree.holds,ze];refine⟨(s,t),⟨by simp,hs,ht⟩,⟨_,rfl⟩,?_⟩;rintro _ rfl;refine⟨λhe=> ?_,λhe=> ?_⟩
 ·have he:zu s t≠0:=by
   intro h; simp [h] at he
  have e:gcdR s t=([],zu s t):=by simp [gcdR,he]
  simp only [aO he];rw [e] at hq;exact RetR.scal hq rfl (by simp [resV])
 ·have he:zu s t=0:=by
   refine bM λh=> ?_
   simp [h] at he
  simp only [aP he];have e:gcdR s t=wr false (Nat.gcd (numI s) (numI t)):=by simp [gcdR,he]
  rw [e] at hq;obtain⟨h1,h2⟩:=zl.1 he;have b1:=jF.2 (yg h1);have b2:=jF.2 (yg h2);clear e he h1 h2 hs ht;generalize numI s=x0 at *
  generalize numI t=y0 at *
  refine zb.loop (ι:={z:Bool×Bool×Nat×Nat // Nat.gcd z.2.2.1 z.2.2.2=Nat.gcd x0 y0/\z.2.2.1<B^112/\z.2.2.2<B^112}) (λ_=>SGc) (λz=>HGc z.1.1 z.1.2.1 z.1.2.2.1 z.1.2.2.2) (λz=>z.1.2.2.2) ⟨(negI s,negI t,x0,y0),rfl,b1,b2⟩ 0 ?_ ?_ (by kernel_rfl)
  ·exact⟨by simp [SGc],by simp [HGc,magS,natS,za],by kernel_rfl,aI _⟩
  ·rintro⟨⟨m,n,x,y⟩,hg,hx,hy⟩;simp only at hg hx hy;refine zb.n G6.h [6,7] (let v2:=natG .u32 (canon y);let v1:=natG .u32 (canon x);.D ((0:Int)<((canon y).length:Int)) (.ex (q18 [.sl (canon x).length 1 v1,.sl (canon y).length 1 v2]) λn_1=>.all (λ(r:Nat×Nat)=>r=(n_1.1/n_1.2,n_1.1%n_1.2)) λn_2=>.leaf (.back 0 [(6,.ptr 0 0),(7,.ptr 1 0)] [.box [.bool m,.sl (canon y).length 1 v2],.box [.bool n,.sl (canon n_2.2).length 1 (natG .u32 (canon n_2.2))]])) (.ex (q19 [.agg [.bool false,.sl (canon x).length 1 v1]]) λn_1=>.all (λ(r:L8×Int)=>r=wr n_1.1 n_1.2) λn_2=>.R [.str n_2.1,.i n_2.2] [.box [.bool m,.sl (canon x).length 1 v1],.box [.bool n,.sl (canon y).length 1 v2]])) ?_;simp only [q18,q19,Tree.holds,ze,inR,lo,hi];refine⟨λh0=> ?_,λh0=> ?_⟩
   ·have hy0:0<y:=by
     rcases bC y with h | h
     ·rw [h] at h0; simp [canon] at h0
     ·exact h
    refine⟨(x,y),⟨by simp [za],?_,?_,hy0⟩,⟨_,rfl⟩,?_⟩
    ·have:=jF.1 hx; show(canon x).length<100000; omega
    ·have:=jF.1 hy; show(canon y).length<100000; omega
    rintro _ rfl;simp only;rw [aP trivial];refine⟨⟨(m,n,y,x%y),?_,hy,Nat.lt_trans (Nat.mod_lt x hy0) hy⟩,Nat.mod_lt x hy0,by simp [SGc],by simp [HGc,magS,natS,za],by kernel_rfl,aI _⟩;show Nat.gcd y (x%y)=Nat.gcd x0 y0;rw [<- hg,Nat.gcd_comm x y,Nat.gcd_rec y x,Nat.gcd_comm]
   ·have hy0:y=0:=xD.1 (by have h0:=aC h0; omega);subst hy0;refine⟨(false,x),⟨by simp [za],?_⟩,⟨_,rfl⟩,?_⟩
    ·have:=jF.1 hx; show(canon x).length<1000000; omega
    rintro _ rfl;rw [Nat.gcd_zero_right] at hg;rw [<- hg] at hq;exact RetR.scal hq rfl (by simp [resV])
theorem Vv{h:Heap}{i sz off n n':Nat}{g:Nat->Nat->AV}(hb:h[i]?=some (.arr n' sz g))(hn:off+n<=n'):exp0 h [] (.osl i sz off n) = .sl n sz (zf g off):=by
 simp [exp0,z4,frz1,jI,hb,hn]
theorem zcy{h:Heap}{i sz off n n':Nat}{g:Nat->Nat->AV}(hb:h[i]?=some (.arr n' sz g))(hn:off+n<=n')(hs:∀ j o,j<n->o<sz->qk (zf g off j o)=true):new0 h [] (.osl i sz off n):=by
 simp only [new0];intro _;rw [Vv hb hn];exact hs
theorem zko(g:Nat->Nat->AV):zf g 0=g:=by
 funext j o; simp [zf]
def big:Nat:=1000
end Go.Proofs.Tryz
end
section
namespace Go.Proofs
set_option maxHeartbeats 1000000 in
set_option maxRecDepth 100000 in
theorem Tryz.K7(s:ByteArray)(c:Int)(w:World) :
  Calls Tryz.prog 166 #[.string s,.int .u8 c] w λe w'=>e = .returned (.i (Lib.indexByte s.data.toList c.toNat.toUInt8))/\w'=w:=by
 go_enter Tryz.func166,Tryz.ntmps166
 go_wp2
 rw [run_callFunc_extern Tryz.func171 (by kernel_rfl) (by kernel_rfl) (by kernel_rfl) (e:=Extern.BytealgIndexByte.indexByte) (by kernel_rfl),Lib.run_indexByteString];simp only [Result.andThen];rw [Oper.upon_value]
 go_wp2
 go_ret
 exact⟨rfl,rfl⟩
set_option maxHeartbeats 2000000 in
set_option maxRecDepth 100000 in
theorem Tryz.Xl(s:ByteArray)(c:UInt8)(w:World) :
  Calls Tryz.prog 159 #[.string s,.string ⟨#[c]⟩] w λe w'=>e = .returned (.i (Lib.indexByte s.data.toList c))/\w'=w:=by
 go_enter Tryz.func159,Tryz.ntmps159
 go_wp2_with (go_at_call 166; refine(Tryz.K7 _ _ _).mono ?_; rintro e w' ⟨rfl,rfl⟩)
 ·have h:([c] == s.toList)=true:=by assumption
  go_ret
  refine⟨?_,rfl⟩;have e:s.data.toList=[c]:=by rw [<- Lib.toList_data]; exact(beq_iff_eq.1 h).symm
  rw [e];simp [Lib.indexByte]
 ·go_ret
  exact⟨rfl,rfl⟩
end Go.Proofs
end
section
set_option maxRecDepth 100000
open Go Go.Sx Go.Proofs Go.Nov
namespace Go.Proofs.Tryz
attribute [local simp] eqKV eqA eqA0 eqH eqB eqL eqL0
theorem Ze(s:L8):Lib.indexByte s 47=if zE s<s.length then(zE s:Int) else -1:=by
 induction s with
 | nil=>rfl
 | cons c s ih=>
  simp only [Lib.indexByte,zE,List.findIdx_cons];cases h:(c == 47) with
  | true=>simp
  | false=>
   simp only [Bool.false_eq_true,if_false,ih,cond_false,aL];show _=if zE s+1<s.length+1 then((zE s+1:Nat):Int) else -1
   by_cases h2:zE s<s.length
   ·rw [aP h2,aO (by simp),aP (by omega)]; omega
   ·rw [aO h2,aP (by rfl),aO (by omega)]
def XZ:Ctr:=ctrP true (λs:L8=>[.str s,.str [47]]) (λs=>True) (λs r=>r=if zE s<s.length then(zE s:Int) else -1) (λ_ (r:Int)=>(.i r,[]))
theorem zc7:zc prog 159 XZ:=by
 intro args hc Q hq _;simp only [XZ,ctrP] at hq;split at hq
 ·obtain⟨s,⟨h1,_⟩,_,h3⟩:=hq;have hq:=h3 _ rfl;simp only [Tree.holds] at hq;refine jy.le h1 ?_;intro O w σ vals hg hh hr;simp only [RepL,Rep] at hr;obtain⟨v1,r1,rfl,rfl,v2,r2,rfl,rfl,rfl⟩:=hr;refine .inl ⟨enters_of Tryz.func159 (by kernel_rfl) rfl ..,?_⟩;refine(Tryz.Xl ⟨s.toArray⟩ 47 w).mono ?_;rintro e w' ⟨rfl,rfl⟩;have hx:=Ze s;have h0:σ=[]:=aU.1 hh.len;subst h0;refine⟨_,rfl,_,[],[],hq,?_,⟨rfl,λi j e f a b h=>by simp at h,λi e a h=>by simp at h,λi e b h=>by simp at h⟩,hg,aJ _,Hold.refl _ _ _,Ext.refl _ _⟩;simp only [Rep];rw [<- hx]
 ·exact hq.elim
def cutC:Ctr:=ctrP true (λs:L8=>[.str s,.str [47]]) (λs=>s.length<2^62) (λs r=>r=cutR s) (λ_ r=>(.tup [.str r.1,.str r.2.1,.bool r.2.2],[]))
noncomputable def GC1:=tb zc7 tz
theorem zhe:zc prog 139 cutC:=by
 refine zh' f139 λs hs O w0 Q hq=> ?_
 replace hq:=hq _ rfl;refine zb.n GC1.h [] (.ex (λ(x:L8)=>eqL [.str s,.str [(47:UInt8)]] [.str x,.str [(47:UInt8)]]/\True) λn=>.all (λ(r:Int)=>r=if zE n<n.length then(↑(zE n):Int) else(-1:Int)) λn=>.D ((0:Int)<=n) (.side ((0:Int)<=n/\n<=(s.length:Int)) (.S (n+(1:Int)) (.side ((0:Int)<=n+(1:Int)/\n+(1:Int)<=s.length) (.R [.str (List.drop 0 (List.take (Int.toNat n) s)),.str (List.drop (Int.toNat (n+(1:Int))) (List.take s.length s)),.bool true] [])))) (.R [.str s,.str #[].toList,.bool false] [])) ?_;simp only [Tree.holds,ze,inR,lo,hi];refine⟨s,⟨by simp,trivial⟩,⟨_,rfl⟩,?_⟩;rintro _ rfl;by_cases h:zE s<s.length
 ·simp only [aP h];rw [Yo h] at hq;refine⟨λ_=>⟨by omega,λ_=>⟨by omega,λ_=>⟨by omega,λ_=> ?_⟩⟩⟩,λhn=> ?_⟩
  ·refine RetR.scal hq rfl ?_;simp [resV]
  ·have:=aC hn; omega
 ·simp only [aO h];rw [zbb h] at hq;refine⟨λhn=> ?_,λ_=>RetR.scal hq rfl (by simp [resV])⟩;have:=aB hn; omega
noncomputable def GC2:=tb zhe tz
abbrev q20(A:List AV)(x:L8):Prop:=eqL A [.str x,.str [(47:UInt8)]]/\x.length<4611686018427387904
theorem zj4:zc prog 112 cutC:=by
 refine zh' f112 λs hs O w0 Q hq=> ?_
 replace hq:=hq _ rfl;refine zb.n GC2.h [] (.ex (q20 [.str s,.str [(47:UInt8)]]) λn=>.all (λ(r:L8×L8×Bool)=>r=cutR n) λn=>.R [.str n.1,.str n.2.1,.bool n.2.2] []) ?_;simp only [q20,Tree.holds,ze,inR,lo,hi];refine⟨s,⟨by simp,hs⟩,⟨_,rfl⟩,?_⟩;rintro _ rfl;exact RetR.scal hq rfl (by simp [resV])
def Xn:Ctr:=ctrP true (λs:L8=>[.str s]) (λs=>s.length<2^62) (λs r=>r=cutR s) (λ_ r=>(.tup [.str r.1,.str r.2.1,.bool r.2.2],[]))
noncomputable def GC3:=tb zj4 (tb Q6 tz)
theorem V4:zc prog 72 Xn:=by
 refine zh' f72 λs hs O w0 Q hq=> ?_
 replace hq:=hq _ rfl;refine zb.n GC3.h [] (.ex (q20 [.str s,.str #[(47:UInt8)].toList]) λn=>.all (λ(r:L8×L8×Bool)=>r=cutR n) λn=>.R [.str n.1,.str n.2.1,.bool n.2.2] []) ?_;simp only [q20,Tree.holds,ze,inR,lo,hi];refine⟨s,⟨by simp,hs⟩,⟨_,rfl⟩,?_⟩;rintro _ rfl;exact RetR.scal hq rfl (by simp [resV])
def ziw:Ctr:=ctrP true (λs:L8=>[.str s]) (λs=>s.length<2^62) (λs r=>r=if errI s=12 then 12 else 0) (λ_ (r:Int)=>(.i r,[]))
theorem zh3:zc prog 73 ziw:=by
 refine zh' f73 λs hs O w0 Q hq=> ?_
 replace hq:=hq _ rfl;refine zb.n GC3.h [] (.ex (q15 [.str s]) λn=>.all (λ(r:Int)=>r=errI n) λn=>.N (n=14) (.R [.i n] []) (.R [.i 0] [])) ?_;simp only [q15,Tree.holds,ze,inR,lo,hi];refine⟨s,⟨by simp,hs⟩,⟨_,rfl⟩,?_⟩;rintro _ rfl;rcases kG s with h | h | h<;>simp only [h] at hq ⊢
 all_goals
  refine⟨λh=> ?_,λh=> ?_⟩
  all_goals first
   | (exfalso; revert h; decide)
   | exact RetR.scal hq rfl (by simp [resV])
def wV:Ctr:=ctrP true (λs:L8=>[.str s]) (λs=>s.length<2^62) (λs r=>r=errR s) (λ_ (r:Int)=>(.i r,[]))
noncomputable def GC4:=tb V4 (tb zh3 (tb Q6 (tb zd5 tz)))
theorem jM:zc prog 39 wV:=by
 refine zh' f39 λs hs O w0 Q hq=> ?_
 replace hq:=hq _ rfl;refine zb.n GC4.h [] (.ex (q15 [.str s]) λn=>.all (λ(r:L8×L8×Bool)=>r=cutR n) λn=>.ex (q15 [.str n.1]) λn_1=>.all (λ(r:Int)=>r=if errI n_1=12 then(12:Int) else(0:Int)) λn_2=>.ex (λ(x:L8)=>(!decide (n_2=0))=false/\n.2.2=true->q15 [.str n.2.1] x) λn_3=>.all (λ(x:Int)=>(!decide (n_2=0))=false/\n.2.2=true->x=if errI n_3=12 then(12:Int) else(0:Int)) λn_4=>.side (((!decide (n_2=0))=false/\n.2.2=true)/\(!decide (n_4=0))=false->(0:Int)<=0/\(0:Int)<n.2.1.length) (.ite (bif !decide (n_2=0) then true else bif n.2.2 then bif bif bif !decide (n_4=0) then true else decide ((↑(UInt8.toNat (List.getD n.2.1 0 (0:UInt8))):Int)=45) then true else decide (n.2.1=#[(48:UInt8)].toList) then true else decide (n.2.1=#[(49:UInt8)].toList) else false) (.R [.i 12] []) (.ex (q15 [.str n.1]) λn_5=>.all (λ(r:Int)=>r=errI n_5) λn_6=>.ex (λ(x:L8)=>(!decide (n_6=0))=false/\n.2.2=true->q15 [.str n.2.1] x) λn_7=>.all (λ(x:Int)=>(!decide (n_6=0))=false/\n.2.2=true->x=errI n_7) λn_8=>.ite (bif !decide (n_6=0) then true else bif n.2.2 then !decide (n_8=0) else false) (.R [.i 14] []) (.ite n.2.2 (.ex (q17 [.str n.1,.str n.2.1]) λn=>.all (λ(r:L8×Int)=>r=gcdR n.1 n.2) λn=>.N (n.1=#[(49:UInt8)].toList) (.R [.i 12] []) (.R [.i 0] [])) (.R [.i 0] []))))) ?_;simp only [q15,q17,Tree.holds,ze,inR,lo,hi];refine⟨s,⟨by simp,hs⟩,⟨_,rfl⟩,?_⟩;rintro _ rfl;have hlen:=WG s
 have hno:(cutR s).2.2=false->(cutR s).1=s:=by
  intro h;unfold cutR at h ⊢;split at h
  ·cases h
  ·rename_i hn; rw [aO hn]
 simp only [errR] at hq;generalize cutR s=c at hq hlen hno ⊢;obtain⟨n,d,f⟩:=c;simp only at hq hlen hno ⊢;refine⟨n,⟨by simp,by omega⟩,⟨_,rfl⟩,?_⟩;rintro _ rfl;refine⟨d,λ_=>⟨by simp,by omega⟩,⟨_,λ_=>rfl⟩,?_⟩;intro fd hfd;cases f with
 | false=>
  have hn:=hno rfl;subst hn;rw [aO (by decide)] at hq;refine⟨λh=>by simp at h,λ_=>⟨λh=> ?_,λh=> ?_⟩⟩
  ·rcases kG n with e | e | e<;>rw [e] at hq h
   ·simp at h
   ·exact RetR.scal hq rfl (by simp [resV])
   ·simp at h
  ·have hn12:errI n≠12:=by
    intro e; rw [e] at h; simp at h
   refine⟨n,⟨by simp,by omega⟩,⟨_,rfl⟩,?_⟩;rintro _ rfl;refine⟨d,λ_=>⟨by simp,by omega⟩,⟨_,λ_=>rfl⟩,?_⟩;intro fd2 _;refine⟨λh=> ?_,λh=>⟨λh=>(by cases h),λ_=> ?_⟩⟩
   ·rcases kG n with e | e | e
    ·rw [e] at h; simp at h
    ·exact absurd e hn12
    ·rw [e] at hq; exact RetR.scal hq rfl (by simp [resV])
   ·rcases kG n with e | e | e
    ·rw [e] at hq; exact RetR.scal hq rfl (by simp [resV])
    ·exact absurd e hn12
    ·rw [e] at h; simp at h
 | true=>
  rw [aP rfl] at hq;by_cases hn:errI n=12
  ·rw [aP (.inl hn)] at hq;simp only [hn];refine⟨λh=>by simp at h,λ_=>⟨λ_=>RetR.scal hq rfl (by simp [resV]),λh=>by simp at h⟩⟩
  ·rw [aO hn] at hfd ⊢;have hfd:=hfd ⟨by simp,rfl⟩;subst hfd;by_cases hd:errI d=12
   ·rw [aP (.inr (.inl hd))] at hq;rw [aP hd];refine⟨λh=>by simp at h,λ_=>⟨λ_=>RetR.scal hq rfl (by simp [resV]),λh=>by simp at h⟩⟩
   ·rw [aO hd];have hd0:d≠[]:=by rintro rfl; exact hd KA
    have hneg:=Ju hd0
    have hneg2:decide (((d.getD 0 0).toNat:Int)=45)=negI d:=by
     rw [hneg];by_cases h:d.getD 0 0=45
     ·rw [h]; rfl
     ·rw [aW h];refine aW λh2=>h (Km ?_)
      rw [h2]; rfl
    rw [hneg2];refine⟨λ_=>by have:=List.length_pos_iff.2 hd0; omega,λ_=>⟨λh=> ?_,λh=> ?_⟩⟩
    ·have:negI d=true\/d=[48]\/d=[49]:=by
      revert h
      cases negI d<;>simp
     rw [aP (.inr (.inr this))] at hq;exact RetR.scal hq rfl (by simp [resV])
    ·have:¬ (errI n=12\/errI d=12\/negI d=true\/d=[48]\/d=[49]):=by
      revert h
      cases negI d<;>simp [hn,hd]
     rw [aO this] at hq;refine⟨n,⟨by simp,by omega⟩,⟨_,rfl⟩,?_⟩;rintro _ rfl;refine⟨d,λ_=>⟨by simp,by omega⟩,⟨_,λ_=>rfl⟩,?_⟩;intro ed hed;by_cases hn0:errI n=0
     ·have hed:=hed ⟨by simp [hn0],rfl⟩;subst hed;by_cases hd0:errI d=0
      ·rw [aO (by simp [hn0,hd0])] at hq;refine⟨λh=>by simp [hn0,hd0] at h,λ_=>⟨λ_=> ?_,λh=>by cases h⟩⟩;refine⟨(n,d),⟨by simp,by simp only; omega,by simp only; omega⟩,⟨_,rfl⟩,?_⟩;rintro _ rfl;refine⟨λh=> ?_,λh=> ?_⟩
       ·rw [aP (by simpa using h)] at hq;exact RetR.scal hq rfl (by simp [resV])
       ·rw [aO (by simpa using h)] at hq;exact RetR.scal hq rfl (by simp [resV])
      ·rw [aP (.inr hd0)] at hq;refine⟨λ_=>RetR.scal hq rfl (by simp [resV]),λh=>by simp [hn0,hd0] at h⟩
     ·rw [aP (.inl hn0)] at hq;refine⟨λ_=>RetR.scal hq rfl (by simp [resV]),λh=>by simp [hn0] at h⟩
end Go.Proofs.Tryz
end
