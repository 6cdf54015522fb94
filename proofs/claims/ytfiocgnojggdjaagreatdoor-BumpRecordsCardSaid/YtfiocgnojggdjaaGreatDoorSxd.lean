/- Part 4 of the proof. -/
import Derived.Test.YtfiocgnojggdjaaGreatDoorSxc
import Derived.Control
import Derived.Test.YtfiocgnojggdjaaGreatDoorProg
set_option linter.unusedVariables false
set_option linter.unusedSimpArgs false
set_option linter.unusedSectionVars false
noncomputable def Go.Sx.aA(f:Go.Func):List Go.Sx.Item:=[.code (f.body.getD .skip)]
section
namespace Go.Nov
theorem top2{l:List Nat}{m:Nat}(h:dig l)(hl:l.length=m+2):∃ r,r<B^m/\val l=r+B^m*(l.getD m 0+B*l.getD (m+1) 0):=by
 refine⟨val (l.take m),?_,?_⟩
 ·have:=qp (j3 h m)
  rwa [aH,Nat.min_eq_left (by omega)] at this
 ·have h1:=zp l m;have h2:=zp l (m+1);rw [bF (by omega),h1,Nat.pow_succ] at h2;rw [h2,bN,bI,Nat.add_assoc]
theorem top3{l:List Nat}{m:Nat}(h:dig l)(hl:l.length=m+3):∃ r,r<B^m/\val l=r+B^m*(l.getD m 0+B*(l.getD (m+1) 0+B*l.getD (m+2) 0)):=by
 refine⟨val (l.take m),?_,?_⟩
 ·have:=qp (j3 h m)
  rwa [aH,Nat.min_eq_left (by omega)] at this
 ·have h1:=zp l m;have h2:=zp l (m+1);have h3:=zp l (m+2);rw [bF (by omega),h2,h1,Nat.pow_succ,Nat.pow_succ] at h3;rw [h3,Nat.pow_succ];simp only [bN,bI,Nat.add_assoc]
theorem horner(b t u v:Nat):v+b*(u+b*t)=(t*b+u)*b+v:=by grind
theorem zd5(p b y:Nat):2*(p*(y*b))=p*b*(2*y):=by grind
theorem Uz{r S x V:Nat}(hr:r<S)(h:V=r+S*x):x*S<=V/\V<(x+1)*S:=by
 rw [h,Nat.succ_mul,bJ x S]; omega
theorem xJ(u:List Nat)(j k i:Nat)(hi:i<k):((u.drop j).take k).getD i 0=u.getD (j+i) 0:=by
 simp [bR,hi,List.getElem?_drop]
theorem Jk(u:List Nat)(j k:Nat)(h:j+k<=u.length):val u=val (u.take j)+B^j*(val ((u.drop j).take k)+B^k*val (u.drop (j+k))):=by
 have h1:u=u.take j++((u.drop j).take k++u.drop (j+k)):=by
  rw [<- List.drop_drop,bU,bU]
 conv=>lhs; rw [h1]
 rw [zD,zD,aH,Nat.min_eq_left (by omega),aH,List.length_drop,Nat.min_eq_left (by omega)]
theorem zw{x n:Nat}(h:x<B^n):(canon x).length<=n:=by
 rcases aR n (canon x).length with h1 | h1
 ·exfalso;have h2:=zU (x:=B^n - 1) (y:=x) ?_
  ·omega
  ·have h3:=qp (zi (B^n - 1))
   have:¬ n<(canon (B^n - 1)).length:=by
    intro hlt;have hne:canon (B^n - 1)≠[]:=by intro h0; rw [h0] at hlt; simp at hlt
    have hl:=jb (B^n - 1);have htop:=q7 (canon (B^n - 1)) (by omega);rw [hl] at htop;have h4:=zp (canon (B^n - 1)) ((canon (B^n - 1)).length - 1);rw [Nat.sub_add_cancel (by omega),bD,zk] at h4;have h5:B^n<=B^((canon (B^n - 1)).length - 1):=bW (by decide) (by omega);have h6:B^((canon (B^n - 1)).length - 1)*1<=B^((canon (B^n - 1)).length - 1)*(canon (B^n - 1)).getD ((canon (B^n - 1)).length - 1) 0:=aS _ (by omega);have h7:0<B^n:=Nat.pow_pos (by decide);omega
   omega
 ·exact h1
theorem j8{x n:Nat}(h:B^n<=x):n<(canon x).length:=by
 have:=qp (zi x);rw [zk] at this;rcases aR n (canon x).length with h1 | h1
 ·exact h1
 ·have:B^(canon x).length<=B^n:=bW (by decide) h1;omega
theorem zbo{t s:Nat}(ht:0<t)(hs:s=B/(t+1))(htB:t<B):0<s/\s*(t+1)<=B/\B<=2*(t*s):=by
 have h1:s*(t+1)<=B:=hs▸Nat.div_mul_le_self _ _
 have h2:B<(s+1)*(t+1):=by
  have:=Nat.lt_mul_div_succ B (show 0<t+1 by omega);rw [<- hs,bJ] at this; exact this
 have h3:0<s:=by rw [hs]; exact Nat.div_pos (by omega) (by omega)
 refine⟨h3,h1,?_⟩;obtain⟨a,rfl⟩:∃ a,t=a+1:=⟨t - 1,by omega⟩;obtain⟨b,rfl⟩:∃ b,s=b+1:=⟨s - 1,by omega⟩;have e:(a+1)*(b+1)=a*b+a+b+1:=by simp only [bH,bN]; omega
 have e2:(b+1+1)*(a+1+1)=a*b+2*a+2*b+4:=by simp only [bH,bN,bJ b a]; omega
 rw [e2] at h2;rw [e];have hB:B=1000000000:=rfl;generalize a*b=p at *
 omega
theorem scaled{y n s t r:Nat}(hr:r<B^n)(hy:y=r+B^n*t)(hs:0<s)(h1:s*(t+1)<=B)(h2:B<=2*(t*s)) :
  y*s<B^(n+1)/\B^(n+1)<=2*(y*s):=by
 have h3:y<B^n*(t+1):=by rw [bN]; omega
 constructor
 ·calc y*s<B^n*(t+1)*s:=Nat.mul_lt_mul_of_pos_right h3 hs
   _=B^n*(s*(t+1)):=by rw [bI,bJ (t+1)]
   _<=B^n*B:=aS _ h1
   _=B^(n+1):=(Nat.pow_succ ..).symm
 ·calc B^(n+1)=B^n*B:=Nat.pow_succ ..
   _<=B^n*(2*(t*s)):=aS _ h2
   _=2*(B^n*t*s):=by rw [Nat.mul_left_comm,bI]
   _<=2*(y*s):=aS _ (aT _ (by omega))
theorem ze8{u:List Nat}{j m V W d:Nat}(hd:dig u)(hj:j+(m+2)+1<=u.length)(hVl:(canon V).length=m+2)(hV2:B^(m+2)<=2*V)(hlt:val u<V*B^(j+1))
  (hW:val ((u.drop j).take (m+2+1))=W) (hdd:qT (u.getD (j+m) 0) ((canon V).getD (m+1) 0) ((canon V).getD m 0) 2 ((u.getD (j+(m+2)) 0*B+u.getD (j+(m+1)) 0)/(canon V).getD (m+1) 0) ((u.getD (j+(m+2)) 0*B+u.getD (j+(m+1)) 0)%(canon V).getD (m+1) 0)=d) :
  W<V*B/\B<=2*(canon V).getD (m+1) 0/\u.getD (j+(m+2)) 0<=(canon V).getD (m+1) 0/\W/V<=d/\d<=W/V+1/\d<B:=by
 have hB:B=1000000000:=rfl;have hVB:=qp (zi V);rw [zk,hVl] at hVB;have hP:0<B^m:=Nat.pow_pos (by decide)
 have hWV:W<V*B:=by
  have h1:=Jk u j (m+2+1) (by omega);have h2:B^j*W<=val u:=by rw [h1,bN,hW]; exact bP (Nat.le_add_right _ _) (Nat.le_add_left _ _)
  have h3:B^j*W<B^j*(V*B):=by
   calc B^j*W<=val u:=h2
    _<V*B^(j+1):=hlt
    _=B^j*(V*B):=by rw [Nat.pow_succ,Nat.mul_left_comm]
  exact Nat.lt_of_mul_lt_mul_left h3
 obtain⟨rv,hrv,hv⟩:=top2 (zi V) hVl;rw [zk] at hv;have hwl:((u.drop j).take (m+2+1)).length=m+3:=by simp; omega
 obtain⟨rw',hrw,hw⟩:=top3 (j3 (ZS hd j) (m+2+1)) hwl;rw [xJ _ _ _ _ (by omega),xJ _ _ _ _ (by omega),xJ _ _ _ _ (by omega)] at hw;have hyB:=zH (zi V) (m+1);have hzB:=zH (zi V) m;have hvB:=zH hd (j+m);have huB:=zH hd (j+(m+1));rw [hW] at hw;generalize hyy:(canon V).getD (m+1) 0=y at *
 generalize hzz:(canon V).getD m 0=z at *
 generalize u.getD (j+(m+2)) 0=t at *
 generalize u.getD (j+(m+1)) 0=uu at *
 generalize u.getD (j+m) 0=vv at *
 have ev:z+B*y=y*B+z:=by rw [bJ y B,Nat.add_comm]
 have ew:vv+B*(uu+B*t)=(t*B+uu)*B+vv:=horner B t uu vv;rw [ev] at hv; rw [ew] at hw
 have hy2:B<=2*y:=by
  rcases aR (2*y) B with h1 | h1
  ·exfalso;have h2:V<B^m*(y*B+z+1):=by rw [bN]; omega
   have h3:B^m*(y*B+z+1)<=B^m*((y+1)*B):=aS _ (by rw [bH]; omega)
   have h4:2*(B^m*((y+1)*B))=B^(m+1)*(2*(y+1)):=by
    rw [Nat.pow_succ]; exact zd5 _ _ _
   have h5:B^(m+1)*(2*(y+1))<=B^(m+1)*B:=aS _ (by omega);have h6:B^(m+2)=B^(m+1)*B:=Nat.pow_succ ..;omega
  ·exact h1
 obtain⟨a1,a2⟩:=Uz hrv hv;obtain⟨b1,b2⟩:=Uz hrw hw;obtain⟨g1,g2,g3,g4⟩:=VD (W:=W) (V:=V) (S:=B^m) (t:=t) (u:=uu) (v:=vv) (y:=y) (z:=z) hP a1 a2 b1 b2 hWV hzB hvB hy2 hyB (by omega);rw [hdd] at g1 g2 g3;refine⟨hWV,hy2,?_,g1,g2,g3⟩;rcases aR y t with h1 | h1
 ·exfalso;have h2:(y+1)*B<=t*B:=aT _ h1;rw [bH] at h2;omega
 ·exact h1
theorem step_eq{u u' q:List Nat}{j k V U0:Nat}(hd:dig u)(hj:j+k<=u.length)(hV:V<B^(k - 1))(hk:1<=k)(hV0:0<V)(hlt:val u<V*B^(j+1))(hq:j<q.length)(heq:U0=V*B^(j+1)*val (q.drop (j+1))+val u)
  (hu':val u'=val (u.take j)+B^j*(val ((u.drop j).take k)%V+B^k*val (u.drop (j+k)))) :
  val u'<V*B^j/\U0=V*B^j*val ((q.set j (val ((u.drop j).take k)/V)).drop j)+val u':=by
 have h1:=Jk u j k hj;have h0:=qp (j3 hd j);rw [aH,Nat.min_eq_left (by omega)] at h0;have hP:0<B^j:=Nat.pow_pos (by decide);generalize val ((u.drop j).take k)=W at *
 generalize val (u.take j)=r at *
 have hH:val (u.drop (j+k))=0:=by
  rcases bC (val (u.drop (j+k))) with h | h
  ·exact h
  ·exfalso;have h2:B^k*1<=B^k*val (u.drop (j+k)):=aS _ h
   have h3:B^j*B^k<=val u:=by
    rw [h1];refine bP (aS _ (m:=W+B^k*val (u.drop (j+k))) (by omega)) (Nat.le_add_left _ _)
   have h4:V*B^(j+1)<B^(k - 1)*B^(j+1):=Nat.mul_lt_mul_of_pos_right hV (Nat.pow_pos (by decide));have h5:B^(k - 1)*B^(j+1)=B^j*B^k:=by rw [<- Nat.pow_add,<- Nat.pow_add]; congr 1; omega
   omega
 rw [hH] at h1 hu';simp only [Nat.mul_zero,Nat.add_zero] at h1 hu';have hm:=Nat.mod_lt W hV0;have hdm:=Nat.div_add_mod W V;constructor
 ·rw [hu'];have:B^j*(W%V+1)<=B^j*V:=aS _ hm;rw [bN] at this;rw [bJ V]; omega
 ·have hset:(q.set j (W/V)).drop j=(W/V)::q.drop (j+1):=by
   rw [List.drop_eq_getElem_cons (by simpa using hq)];simp [List.drop_set_of_lt]
  rw [hset,heq,hu',h1];simp only [val];generalize W/V=d at *
  generalize W%V=e at *
  rw [<- hdm,Nat.pow_succ];simp only [bN,<- bI];have e1:V*B^j*B*val (List.drop (j+1) q)=V*B^j*B*val (List.drop (j+1) q):=rfl;have e2:B^j*V*d=V*B^j*d:=by rw [bJ (B^j) V]
  omega
def mixL(u c:List Nat)(j i:Nat):List Nat:=(List.range u.length).map λp=>if j<=p/\p<j+i then c.getD (p - j) 0 else u.getD p 0
theorem VA(u c:List Nat)(j i:Nat):(mixL u c j i).length=u.length:=by simp [mixL]
theorem za1(u c:List Nat)(j:Nat):mixL u c j 0=u:=by
 apply List.ext_getElem (by simp [mixL]);intro p h1 h2;simp only [mixL,List.getElem_map,List.getElem_range];rw [aO (by omega)]; simp [h2]
theorem VF(u c:List Nat)(j i:Nat)(x:Nat):((mixL u c j i).set (j+i) x).set (j+i) (c.getD i 0)=mixL u c j (i+1):=by
 rw [List.set_set];apply List.ext_getElem (by simp [mixL]);intro p h1 h2;simp only [List.getElem_set,mixL,List.getElem_map,List.getElem_range];by_cases hp:j+i=p
 ·subst hp; rw [aP rfl,aP ⟨by omega,by omega⟩]; congr 1; omega
 ·rw [aO hp];by_cases hc:j<=p/\p<j+i
  ·rw [aP hc,aP ⟨hc.1,by omega⟩]
  ·rw [aO hc,aO (by omega)]
theorem zd3{u c:List Nat}(hu:dig u)(hc:dig c)(j i:Nat):dig (mixL u c j i):=by
 intro d hd;simp only [mixL,List.mem_map] at hd;obtain⟨p,_,rfl⟩:=hd;split
 ·exact zH hc _
 ·exact zH hu _
theorem zbq{u:List Nat}{L j k:Nat}(hj:j+k<=u.length)(hL:(canon L).length<=k):val (mixL u (canon L) j k)=val (u.take j)+B^j*(L+B^k*val (u.drop (j+k))):=by
 have h:mixL u (canon L) j k=u.take j++(padN k L++u.drop (j+k)):=by
  apply List.ext_getElem (by simp [mixL,padN]; omega);intro p h1 h2;simp only [mixL,List.getElem_map,List.getElem_range];rw [VA] at h1;by_cases ha:p<j
  ·rw [aO (by omega),List.getElem_append_left (by simp; omega)]; simp [h1]
  ·have hjl:(u.take j).length=j:=by simp; omega
   rw [List.getElem_append_right (by omega)];simp only [hjl];have hpl:(padN k L).length=k:=by simp [padN]; omega
   by_cases hb:p - j<k
   ·rw [aP (by omega),List.getElem_append_left (by omega)];simp only [padN];by_cases hc:p - j<(canon L).length
    ·rw [List.getElem_append_left hc]; simp [hc]
    ·rw [List.getElem_append_right (by omega)]; simp [aZ (Nat.le_of_not_lt hc)]
   ·rw [aO (by omega),List.getElem_append_right (by omega)];simp only [hpl,List.getElem_drop];have:j+k+(p - j - k)=p:=by omega
    simp [this,h1]
 rw [h,zD,zD,aH,Nat.min_eq_left (by omega)];have hpl:(padN k L).length=k:=by simp [padN]; omega
 have hpv:val (padN k L)=L:=by rw [padN,zD,zk,j4]; simp
 rw [hpl,hpv]
def isD(c:UInt8):Bool:=48<=c.toNat&&c.toNat<=57
def allD(l:L8):Prop:=∀ c∈l,48<=c.toNat/\c.toNat<=57
def numD(l:L8):Nat:=l.foldl (λa c=>a*10+(c.toNat - 48)) 0
theorem zl6(l:L8)(a:Nat):l.foldl (λa c=>a*10+(c.toNat - 48)) a=a*10^l.length+numD l:=by
 induction l generalizing a with
 | nil=>simp [numD]
 | cons c l ih=>
  simp only [List.foldl_cons,numD,aL];rw [ih,ih (0*10+(c.toNat - 48)),Nat.pow_succ];generalize 10^l.length=p;generalize numD l=q;generalize c.toNat - 48=d;rw [bH,Nat.zero_mul,Nat.zero_add,bI,bJ 10 p];omega
theorem vL(l m:L8):numD (l++m)=numD l*10^m.length+numD m:=by
 rw [numD,List.foldl_append,zl6]; rfl
theorem zai(l:L8)(c:UInt8):numD (l++[c])=numD l*10+(c.toNat - 48):=by
 simp [numD]
theorem y9{l:L8}(h:allD l):numD l<10^l.length:=by
 induction l with
 | nil=>simp [numD]
 | cons c l ih=>
  have hc:=h c (by simp);have hl:=ih λd hd=>h d (by simp [hd])
  have:numD (c::l)=(c.toNat - 48)*10^l.length+numD l:=by
   rw [show c::l=[c]++l from rfl,vL]; simp [numD]
  rw [this,aL,Nat.pow_succ];have h2:(c.toNat - 48)*10^l.length<=9*10^l.length:=aT _ (by omega);omega
theorem X9(l:L8)(i:Nat)(h:i<l.length):l.take (i+1)=l.take i++[l.getD i 0]:=by
 rw [List.take_succ_eq_append_getElem h]; simp [List.getD,h]
def decB(x:ByteArray):Nat:=numD x.data.toList
theorem zgz{x:ByteArray}(h:allD x.data.toList)(hl:x.size<=9):decB x<B:=by
 have h1:=y9 h;have h2:x.data.toList.length=x.size:=by rw [Array.length_toList]; rfl
 have h3:10^x.data.toList.length<=10^9:=bW (by decide) (by omega);have h4:(10:Nat)^9=B:=by decide
 unfold decB;omega
end Go.Nov
end
section
namespace Go.Nov.Ten
abbrev B:Nat:=10
def val:List Nat->Nat
 | []=>0
 | d::l=>d+B*val l
def dig(l:List Nat):Prop:=∀ d∈l,d<B
def xn:Nat->Nat->List Nat
 | 0,_=>[]
 | n+1,x=>if x=0 then [] else x%B::xn n (x/B)
def canon(x:Nat):List Nat:=xn x x
theorem Ju:∀ (n m x:Nat),x<=n->x<=m->xn n x=xn m x
 | 0,m,x,h,_=>by
  have:x=0:=by omega
  subst this;cases m<;>simp [xn]
 | n+1,0,x,_,h=>by
  have:x=0:=by omega
  subst this;simp [xn]
 | n+1,m+1,x,h1,h2=>by
  simp only [xn];by_cases h:x=0
  ·rw [aP h,aP h]
  ·have:=Nat.div_lt_self (bV h) (show 1<B by decide);rw [aO h,aO h,Ju n m (x/B) (by omega) (by omega)]
theorem zE:canon 0=[]:=rfl
theorem qN{x:Nat}(h:x≠0):canon x=x%B::canon (x/B):=by
 have:=Nat.div_lt_self (bV h) (show 1<B by decide);obtain⟨n,rfl⟩:∃ n,x=n+1:=⟨x - 1,by omega⟩;unfold canon;rw [xn,aO h,Ju n ((n+1)/B) _ (by omega) (aJ _)]
theorem zk(x:Nat):val (canon x)=x:=by
 induction x using Nat.strongRecOn with
 | _ x ih=>
  by_cases h:x=0
  ·subst h; simp [zE,val]
  ·rw [qN h,val,ih _ (Nat.div_lt_self (bV h) (by decide))];exact Nat.mod_add_div x B
theorem zi(x:Nat):dig (canon x):=by
 induction x using Nat.strongRecOn with
 | _ x ih=>
  by_cases h:x=0
  ·subst h; simp [zE,dig]
  ·rw [qN h];intro d hd;rcases aM.1 hd with rfl | hd
   ·exact Nat.mod_lt _ (by decide)
   ·exact ih _ (Nat.div_lt_self (bV h) (by decide)) d hd
theorem q8{d:Nat}{l:List Nat} : dig (d::l)↔d<B/\dig l:=by simp [dig]
theorem jf{l m:List Nat} : dig (l++m)↔dig l/\dig m:=by
 simp only [dig,bY];exact⟨λh=>⟨λd hd=>h d (.inl hd),λd hd=>h d (.inr hd)⟩,λh d hd=>hd.elim (h.1 d) (h.2 d)⟩
theorem zD(l m:List Nat):val (l++m)=val l+B^l.length*val m:=by
 induction l with
 | nil=>simp [val]
 | cons d l ih=>simp only [List.cons_append,val,ih,aL,Nat.pow_succ]; rw [bN,<- bI,bJ B (B^l.length),Nat.add_assoc]
theorem qp{l:List Nat}(h:dig l):val l<B^l.length:=by
 induction l with
 | nil=>simp [val]
 | cons d l ih=>
  obtain⟨h1,h2⟩:=q8.1 h;have:=ih h2;simp only [val,aL,Nat.pow_succ];have h3:B*(val l+1)<=B*B^l.length:=aS _ this;rw [bN] at h3;rw [bJ (B^l.length)];omega
def tlen:List Nat->Nat
 | []=>0
 | d::l=>if d=0/\tlen l=0 then 0 else tlen l+1
def qD(l:List Nat):List Nat:=l.take (tlen l)
theorem qj:∀ l:List Nat,tlen l<=l.length
 | []=>aJ _
 | d::l=>by
  have:=qj l;simp only [tlen,aL];split<;>omega
theorem jF:∀ (l:List Nat) (j:Nat),tlen l<=j->l.getD j 0=0
 | [],j,_=>by simp
 | d::l,j,h=>by
  simp only [tlen] at h;split at h
  ·rename_i hd;cases j with
   | zero=>simp [hd.1]
   | succ j=>simpa using jF l j (by omega)
  ·cases j with
   | zero=>omega
   | succ j=>simpa using jF l j (by omega)
theorem q7:∀ l:List Nat,0<tlen l->l.getD (tlen l - 1) 0≠0
 | [],h=>by simp [tlen] at h
 | d::l,h=>by
  simp only [tlen] at h ⊢;split at h
  ·omega
  ·rename_i hd;rw [aO hd];rcases bC (tlen l) with h0 | h0
   ·rw [h0];simp only [h0,and_true] at hd;simpa using hd
   ·have:=q7 l h0;rw [show tlen l+1 - 1=(tlen l - 1)+1 by omega];simpa using this
theorem val_zero{l:List Nat}(h:tlen l=0):val l=0:=by
 induction l with
 | nil=>rfl
 | cons d l ih=>
  simp only [tlen] at h;split at h
  ·rename_i hd; simp [val,hd.1,ih hd.2]
  ·omega
theorem ZU{l:List Nat}(h:0<tlen l):0<val l:=by
 induction l with
 | nil=>simp [tlen] at h
 | cons d l ih=>
  simp only [tlen] at h;split at h
  ·omega
  ·rename_i hd;simp only [val];rcases bC (tlen l) with h0 | h0
   ·simp only [h0,and_true] at hd; omega
   ·have:=ih h0;have:0<B*val l:=Nat.mul_pos (by decide) this;omega
theorem zL{l:List Nat}(h:dig l):qD l=canon (val l):=by
 induction l with
 | nil=>simp [qD,tlen,val,zE]
 | cons d l ih=>
  obtain⟨h1,h2⟩:=q8.1 h;have ih:=ih h2;simp only [qD] at ih ⊢;by_cases hz:d=0/\tlen l=0
  ·have:=val_zero hz.2;simp [tlen,hz,val,this,zE]
  ·have hne:d+B*val l≠0:=by
    rcases bC (tlen l) with h0 | h0
    ·simp only [h0,and_true] at hz; omega
    ·have:=Nat.mul_pos (show 0<B by decide) (ZU h0);omega
   simp only [val,tlen,aO hz,List.take_succ_cons];rw [qN hne,ih];have e1:(d+B*val l)%B=d:=by rw [Nat.add_mul_mod_self_left,Nat.mod_eq_of_lt h1]
   have e2:(d+B*val l)/B=val l:=by rw [Nat.add_mul_div_left _ _ (by decide),Nat.div_eq_of_lt h1,Nat.zero_add]
   rw [e1,e2]
theorem jb(x:Nat):tlen (canon x)=(canon x).length:=by
 have:=zL (zi x);rw [zk] at this;have h:=congrArg List.length this;simp only [qD,aH] at h;have:=qj (canon x);omega
theorem JJ{l:List Nat}(h:dig l)(ht:tlen l=l.length):canon (val l)=l:=by
 rw [<- zL h,qD,ht,bD]
theorem ZQ:∀ {l m:List Nat},dig l->dig m->l.length=m.length->val l=val m->l=m
 | [],[],_,_,_,_=>rfl
 | [],_::_,_,_,h,_=>by simp at h
 | _::_,[],_,_,h,_=>by simp at h
 | d::l,e::m,h1,h2,h3,h4=>by
  obtain⟨a1,a2⟩:=q8.1 h1;obtain⟨b1,b2⟩:=q8.1 h2;simp only [val] at h4
  have e1:d=e:=by
   have:=congrArg (· % B) h4;simpa only [Nat.add_mul_mod_self_left,Nat.mod_eq_of_lt a1,Nat.mod_eq_of_lt b1] using this
  subst e1;have e2:val l=val m:=Nat.eq_of_mul_eq_mul_left (show 0<B by decide) (by omega);rw [ZQ a2 b2 (by simpa using h3) e2]
theorem uN{i:Nat} : ∀ {l m:List Nat},dig l->l.length=m.length->(∀ j,i<j->l.getD j 0=m.getD j 0)->l.getD i 0<m.getD i 0->val l<val m:=by
 induction i with
 | zero=>
  intro l m h1 h3 h4 h5;cases l with
  | nil=>cases m with
   | nil=>simp at h5
   | cons _ _=>simp at h3
  | cons d l=>cases m with
   | nil=>simp at h3
   | cons e m=>
    simp only [List.getD_cons_zero] at h5
    have:l=m:=by
     apply List.ext_getElem (by simpa using h3);intro j hj hj';have:=h4 (j+1) (by omega);simpa [hj,hj'] using this
    subst this;simp only [val]; omega
 | succ i ih=>
  intro l m h1 h3 h4 h5;cases l with
  | nil=>cases m with
   | nil=>simp at h5
   | cons _ _=>simp at h3
  | cons d l=>cases m with
   | nil=>simp at h3
   | cons e m=>
    simp only [List.getD_cons_succ] at h5;obtain⟨a1,a2⟩:=q8.1 h1;have:=ih a2 (by simpa using h3) (λj hj=>by simpa using h4 (j+1) (by omega)) h5;simp only [val];have h6:B*(val l+1)<=B*val m:=aS _ this;rw [bN] at h6;omega
theorem zU{x y:Nat}(h:(canon x).length<(canon y).length):x<y:=by
 have h1:=qp (zi x);rw [zk] at h1
 have h2:B^((canon y).length - 1)<=y:=by
  have hl:=jb y;have hpos:0<tlen (canon y):=by omega
  have:=q7 (canon y) hpos;rw [hl] at this;generalize hc:canon y=l at *
  have hy:val l=y:=by rw [<- hc,zk]
  have hsplit:l=l.take (l.length - 1)++[l.getD (l.length - 1) 0]:=by
   have hlt:l.length - 1<l.length:=by omega
   rw [show l.getD (l.length - 1) 0=l[l.length - 1] by simp [List.getD,hlt]];have:=List.take_append_getElem hlt;rw [this,show l.length - 1+1=l.length by omega,bD]
  rw [<- hy]
  conv=>rhs; rw [hsplit]
  rw [zD];simp only [val,aH,Nat.mul_zero,Nat.add_zero];rw [show min (l.length - 1) l.length=l.length - 1 by omega];have:B^(l.length - 1)*1<=B^(l.length - 1)*l.getD (l.length - 1) 0:=aS _ (bV this);omega
 have h3:B^(canon x).length<=B^((canon y).length - 1):=bW (by decide) (by omega);omega
theorem zp:∀ (l:List Nat) (i:Nat),val (l.take (i+1))=val (l.take i)+B^i*l.getD i 0
 | [],i=>by simp [val]
 | d::l,0=>by simp [val]
 | d::l,i+1=>by
  have:=zp l i;simp only [List.take_succ_cons,val,this,List.getD_cons_succ,Nat.pow_succ];rw [bN,Nat.add_assoc,<- bI,bJ B (B^i)]
theorem zH{l:List Nat}(h:dig l)(i:Nat):l.getD i 0<B:=by
 by_cases hi:i<l.length
 ·have:=h l[i] (bK hi);simpa [List.getD,hi] using this
 ·simp [List.getD,aZ (Nat.le_of_not_lt hi)]
theorem uh:∀ (l:List Nat) (p d:Nat),p<l.length->val (l.set p d)+B^p*l.getD p 0=val l+B^p*d
 | [],p,d,h=>by simp at h
 | e::l,0,d,_=>by simp only [List.set_cons_zero,val,List.getD_cons_zero,Nat.pow_zero]; omega
 | e::l,p+1,d,h=>by
  have:=uh l p d (by simpa using h);have h2:=congrArg (B * ·) this;simp only [bN,<- bI] at h2;simp only [List.set_cons_succ,val,List.getD_cons_succ,Nat.pow_succ,bJ (B^p) B];omega
theorem Zx{l:List Nat}(h:dig l)(p:Nat){d:Nat}(hd:d<B):dig (l.set p d):=by
 intro e he;rcases List.mem_or_eq_of_mem_set he with he | rfl
 ·exact h e he
 ·exact hd
theorem j3{l:List Nat}(h:dig l)(n:Nat):dig (l.take n):=λe he=>h e (List.mem_of_mem_take he)
theorem ZS{l:List Nat}(h:dig l)(n:Nat):dig (l.drop n):=λe he=>h e (List.mem_of_mem_drop he)
theorem Qd{l:List Nat}{n:Nat}(hv:val l<B^n){p:Nat}(hp:n<=p):l.getD p 0=0:=by
 rcases bC (l.getD p 0) with h | h
 ·exact h
 exfalso;have h1:=zp l p;have h2:val l=val (l.take (p+1))+B^(l.take (p+1)).length*val (l.drop (p+1)):=by rw [<- zD,bU]
 have h3:B^p*1<=B^p*l.getD p 0:=aS _ h;have h4:B^n<=B^p:=bW (by decide) hp;omega
def padN(n x:Nat):List Nat:=canon x++List.replicate (n - (canon x).length) 0
theorem j4(n:Nat):val (List.replicate n 0)=0:=by
 induction n with
 | zero=>rfl
 | succ n ih=>simp [List.replicate_succ,val,ih]
theorem qQ(n:Nat):dig (List.replicate n 0):=by
 intro d hd;rw [List.mem_replicate] at hd;rw [hd.2]; decide
theorem XE{l:List Nat}(h:dig l):l=padN l.length (val l):=by
 have ht:=zL h;have hl:=congrArg List.length ht;have:=qj l;simp only [qD,aH] at hl;refine ZQ h (jf.2 ⟨zi _,qQ _⟩) ?_ ?_
 ·simp only [padN,bO,List.length_replicate]; omega
 ·rw [padN,zD,zk,j4]; omega
theorem VH{l:List Nat}(h:dig l):tlen l=(canon (val l)).length:=by
 have hl:=congrArg List.length (zL h);have:=qj l;simp only [qD,aH] at hl;omega
end Go.Nov.Ten
end
section
namespace Go.Nov
theorem yR(s:ByteArray)(a b:Nat):(s.extract a b).data.toList=(s.data.toList.take b).drop a:=by
 rw [ByteArray.data_extract,Array.toList_extract];show List.extract s.data.toList a b=_;rw [List.extract_eq_drop_take',List.drop_take]
theorem yn{α:Type}{l m:List α}{p:Nat}{z:α}(h:p<l.length):(l++m).getD p z=l.getD p z:=by
 simp only [List.getD]; rw [bL h]
theorem Qk{α:Type}{l m:List α}{p:Nat}{z:α}(h:l.length<=p):(l++m).getD p z=m.getD (p - l.length) z:=by
 simp only [List.getD]; rw [List.getElem?_append_right h]
theorem UH{α β:Type}{f:α->β}{l:List α}{p:Nat}{z:α}{y:β}(h:p<l.length):(l.map f).getD p y=f (l.getD p z):=by
 simp [List.getD,h]
theorem zf1{α:Type}{n p:Nat}{a z:α}(h:p<n):(List.replicate n a).getD p z=a:=by
 simp [List.getD,h]
theorem zb7{α:Type}{l:List α}{p:Nat}{z:α}(h:l.length<=p):l.getD p z=z:=by
 simp [List.getD,aZ h]
theorem Uc{α:Type}{l:List α}{n p:Nat}{z:α}(h:p<n):(l.take n).getD p z=l.getD p z:=by
 simp only [List.getD,bR,aP h]
def decs:Nat->Nat->List Nat
 | 0,_=>[]
 | k+1,x=>x%10::decs k (x/10)
theorem ud:∀ k x,(decs k x).length=k
 | 0,_=>rfl
 | k+1,x=>by simp [decs,ud k]
theorem Vw:∀ k x,Ten.dig (decs k x)
 | 0,_=>by simp [decs,Ten.dig]
 | k+1,x=>Ten.q8.2 ⟨Nat.mod_lt _ (by decide),Vw k _⟩
theorem Kk:∀ k x,x<10^k->Ten.val (decs k x)=x
 | 0,x,h=>by simp [decs,Ten.val] at h ⊢; omega
 | k+1,x,h=>by
  simp only [decs,Ten.val];rw [Kk k (x/10) (Nat.div_lt_of_lt_mul (by rw [Nat.pow_succ,bJ] at h; exact h))];exact Nat.mod_add_div x 10
theorem Zg:∀ (a b v w:Nat),v<10^a->decs (a+b) (v+10^a*w)=decs a v++decs b w
 | 0,b,v,w,h=>by simp at h; subst h; simp [decs]
 | a+1,b,v,w,h=>by
  rw [show a+1+b=(a+b)+1 by omega];simp only [decs,List.cons_append];have e1:10^(a+1)*w=10*(10^a*w):=by rw [Nat.pow_succ,bJ (10^a) 10,bI]
  have h2:v/10<10^a:=Nat.div_lt_of_lt_mul (by rw [Nat.pow_succ,bJ] at h; exact h);rw [e1,Nat.add_mul_mod_self_left,Nat.add_mul_div_left _ _ (by decide),Zg a b (v/10) w h2]
theorem Js:∀ (k x:Nat),decs (k+1) x=decs k x++[x/10^k%10]
 | 0,x=>by simp [decs]
 | k+1,x=>by
  rw [decs,Js k (x/10),decs,List.cons_append];congr 3;rw [Nat.div_div_eq_div_mul,Nat.pow_succ,bJ]
theorem zd2{k x:Nat}(h:x<10^k):decs k x=Ten.padN k x:=by
 have:=Ten.XE (Vw k x)
 rwa [ud,Kk k x h] at this
def dec(x:Nat):List Nat:=Ten.canon x
def byt(d:Nat):UInt8:=UInt8.ofNat (48+d)
theorem Z5{k x:Nat}(h:x<10^k):(dec x).length<=k:=by
 rcases aR k (dec x).length with h1 | h1
 ·exfalso;have hl:=Ten.jb x;have htop:=Ten.q7 (Ten.canon x) (by simp only [dec] at h1; omega);rw [hl] at htop;have h4:=Ten.zp (Ten.canon x) ((Ten.canon x).length - 1);simp only [dec] at h1;rw [Nat.sub_add_cancel (by omega),bD,Ten.zk] at h4;have h5:10^k<=10^((Ten.canon x).length - 1):=bW (by decide) (by omega);have h6:10^((Ten.canon x).length - 1)*1<=10^((Ten.canon x).length - 1)*(Ten.canon x).getD ((Ten.canon x).length - 1) 0:=aS _ (by omega);have h7:x=Ten.val ((Ten.canon x).take ((Ten.canon x).length - 1))+10^((Ten.canon x).length - 1)*(Ten.canon x).getD ((Ten.canon x).length - 1) 0:=h4;omega
 ·exact h1
theorem Ul{x:Nat}(h:0<(dec x).length):(dec x).getD ((dec x).length - 1) 0≠0:=by
 have hl:=Ten.jb x;have htop:=Ten.q7 (Ten.canon x) (by simp only [dec] at h; omega)
 rwa [hl] at htop
theorem WR{x:Nat}(h:x≠0):0<(dec x).length:=by
 simp only [dec]; rw [Ten.qN h]; simp
theorem dec_lt(x i:Nat):(dec x).getD i 0<10:=Ten.zH (Ten.zi x) i
def txt(x:Nat):L8:=if x=0 then [48] else((dec x).map byt).reverse
def parse:L8->Bool×L8
 | []=>(false,[])
 | c::b=>if c=45 then(true,b) else(false,c::b)
def sgn(neg:Bool)(b:L8):L8:=if neg then 45::b else b
theorem UW(s:L8):sgn (parse s).1 (parse s).2=s:=by
 cases s with
 | nil=>rfl
 | cons c b=>
  simp only [parse];split
  ·rename_i h; subst h; rfl
  ·rfl
def jZ(neg:Bool)(b:L8):Bool:= !(decide (b=[])) && !(neg&&decide (b=[48])) && !(decide (b.getD 0 0=48)&&decide (1<b.length))&&b.all isD
def errI(s:L8):Int:=if jZ (parse s).1 (parse s).2 then(if 1000<(parse s).2.length then 14 else 0) else 12
theorem Un{b:L8} : b.all isD=true↔allD b:=by
 simp only [bG,allD,isD,bA,aK]
theorem Va{neg:Bool}{b:L8}(h:jZ neg b=true):allD b/\b≠[]:=by
 simp only [jZ,bA,Bool.not_eq_true',aV] at h;exact⟨Un.1 h.2,h.1.1.1⟩
theorem kD{neg:Bool}{b:L8}(h:b.getD 0 0=48)(hl:1<b.length):jZ neg b=false:=by
 have e:(decide (b.getD 0 0=48)&&decide (1<b.length))=true:=by rw [h]; simp [hl]
 unfold jZ;rw [e];simp
theorem Ko{c d:UInt8}(h:(c.toNat:Int)=(d.toNat:Int)):c=d:=UInt8.toNat_inj.1 (by omega)
theorem WM{s:L8}(h:errI s=0):∃ neg b,s=sgn neg b/\parse s=(neg,b)/\jZ neg b=true/\allD b/\b≠[]/\b.length<=1000:=by
 unfold errI at h;split at h
 ·rename_i hf;split at h
  ·cases h
  ·rename_i hl;obtain⟨h1,h2⟩:=Va hf;exact⟨_,_,(UW s).symm,rfl,hf,h1,h2,by omega⟩
 ·cases h
theorem kH(s:L8):errI s=0\/errI s=12\/errI s=14:=by
 unfold errI;split
 ·split<;>simp
 ·simp
def negI(s:L8):Bool:=(parse s).1
def numI(s:L8):Nat:=numD (parse s).2
theorem ZK{s:L8}(h:errI s=0):s=sgn (negI s) (parse s).2/\allD (parse s).2/\(parse s).2≠[]/\(parse s).2.length<=1000:=by
 obtain⟨neg,b,h1,h2,h3,h4,h5,h6⟩:=WM h;simp only [negI,h2];exact⟨h1,h4,h5,h6⟩
theorem Xz{a b c k:Nat}(h:k=b*c):(a^b)^c=a^k:=by rw [h,Nat.pow_mul]
theorem ym{s:L8}(h:errI s=0):(canon (numI s)).length<=112:=by
 obtain⟨_,h1,_,h2⟩:=ZK h;refine zw ?_;have h3:=y9 h1;obtain⟨k,hk⟩:∃ k,k=9*112:=⟨_,rfl⟩;have h4:10^(parse s).2.length<=10^k:=bW (by decide) (by omega);have h5:B^112=10^k:=by rw [show B=10^9 by decide]; exact Xz hk
 rw [h5];exact bB h3 h4
def zr(s t:L8):Int:=if errI s=0 then errI t else errI s
theorem zl{s t:L8} : zr s t=0↔errI s=0/\errI t=0:=by
 unfold zr;split
 ·rename_i h; simp [h]
 ·rename_i h; simp [h]
def wr(neg:Bool)(x:Nat):L8×Int:=if x=0 then([48],0) else if 1000<(dec x).length then([],14) else(sgn neg (txt x),0)
def gcdR(s t:L8):L8×Int:=if zr s t=0 then wr false (Nat.gcd (numI s) (numI t)) else([],zr s t)
def dg(b:L8):List Nat:=(b.map λc=>c.toNat - 48).reverse
theorem XW(b:L8):(dg b).length=b.length:=by simp [dg]
theorem zj5{b:L8}(h:allD b):Ten.dig (dg b):=by
 intro d hd;simp only [dg,List.mem_reverse,List.mem_map] at hd;obtain⟨c,hc,rfl⟩:=hd;have:=h c hc;show c.toNat - 48<10;omega
theorem XG:∀ b:L8,Ten.val (dg b)=numD b
 | []=>rfl
 | c::b=>by
  have e:dg (c::b)=dg b++[c.toNat - 48]:=by simp [dg]
  rw [e,Ten.zD,XG b,XW,show c::b=[c]++b from rfl,vL];simp only [Ten.val,numD,List.foldl_cons,List.foldl_nil];rw [bJ]; simp [Nat.add_comm]
def cmpN(x y:Nat):Int:=if x<y then -1 else if y<x then 1 else 0
def zB(s:L8):Nat:=s.findIdx (· == 47)
def cutR(s:L8):L8×L8×Bool:=if zB s<s.length then(s.take (zB s),s.drop (zB s+1),true) else(s,[],false)
theorem JC(s:L8):zB s<=s.length:=List.findIdx_le_length
theorem ZZ{s:L8}(h:zB s<s.length):s.getD (zB s) 0=47:=by
 have:=List.findIdx_getElem (w:=h);simp only [List.getD,aF h,Option.getD_some];exact beq_iff_eq.1 this
theorem Wi{s:L8}{j:Nat}(h:j<zB s):s.getD j 0≠47:=by
 have hl:j<s.length:=bB h (JC s);have:=List.not_of_lt_findIdx h;simp only [List.getD,aF hl,Option.getD_some];simpa using this
theorem zbh{s:L8}{i:Nat}(hi:i<s.length)(h:s.getD i 0=47)(hb:∀ j,j<i->s.getD j 0≠47):zB s=i:=by
 rcases Nat.lt_trichotomy (zB s) i with h1 | h1 | h1
 ·exact absurd (ZZ (Nat.lt_trans h1 hi)) (hb _ h1)
 ·exact h1
 ·exact absurd h (Wi h1)
theorem XF{s:L8}(hb:∀ j,j<s.length->s.getD j 0≠47):zB s=s.length:=by
 rcases aR (zB s) s.length with h | h
 ·exact absurd (ZZ h) (hb _ h)
 ·exact Nat.le_antisymm (JC s) h
def errR(s:L8):Int:=
 if(cutR s).2.2 then
  if errI (cutR s).1=12\/errI (cutR s).2.1=12\/negI (cutR s).2.1=true\/(cutR s).2.1=[48]\/(cutR s).2.1=[49] then 12
  else if errI (cutR s).1≠0\/errI (cutR s).2.1≠0 then 14
  else if(gcdR (cutR s).1 (cutR s).2.1).1≠[49] then 12 else 0
 else errI s
theorem zb8{s:L8}(h:¬ zB s<s.length):cutR s=(s,[],false):=aO h
theorem Yv{s:L8}(h:zB s<s.length):cutR s=(s.take (zB s),s.drop (zB s+1),true):=aP h
theorem WN(s:L8):(cutR s).1.length<=s.length/\(cutR s).2.1.length<=s.length:=by
 unfold cutR;split<;>simp<;>omega
theorem Jz{s:L8}(h:s≠[]):negI s=decide (s.getD 0 0=45):=by
 cases s with
 | nil=>exact absurd rfl h
 | cons c b=>
  simp only [negI,parse];split
  ·rename_i hc; subst hc; rfl
  ·rename_i hc; simp [hc]
theorem KF:errI []=12:=rfl
def isL(c:UInt8):Bool:=(97<=c.toNat&&c.toNat<=122)||(65<=c.toNat&&c.toNat<=90)
def isN(c:UInt8):Bool:=isL c||isD c||c == 95||c == 45
def wR(s:L8):Bool:=decide (0<s.length)&&decide (s.length<=40)&&isL (s.getD 0 0)&&s.all isN
theorem zfk{p:UInt8->Bool}{s:L8}(h:∀ j,j<s.length->p (s.getD j 0)=true):s.all p=true:=by
 rw [bG];intro c hc;obtain⟨j,hj,rfl⟩:=List.getElem_of_mem hc;have:=h j hj;simpa [List.getD,hj] using this
theorem Vd{p:UInt8->Bool}{s:L8}{j:Nat}(hj:j<s.length)(h:p (s.getD j 0)=false):s.all p=false:=by
 rw [List.all_eq_false];refine⟨s.getD j 0,by simp [List.getD,hj],by simpa using h⟩
def dayB(d:Int):Bool:=decide (0<=d)&&decide (d<=99999)
end Go.Nov
end
section
namespace Go.Sx
variable [Stat]
open Go.RowKit (Below)
def alive:Blk->Prop
 | .box _=>True
 | .arr n _ _=>0<n
 | .dead=>False
 | .arrI _ n _=>0<n
 | .arrS n _=>0<n
 | .map _ _ _ _ _=>False
theorem Vp{h:Heap}(hl:∀ b∈h,alive b):∀ b∈h,Wv b=false:=by
 intro b hb;have:=hl b hb;cases b<;>first | rfl | exact this.elim
section
variable {O:Nat->Prop} {pin:Nat} {w0:World} {I0:List SE} {w:World} {σ:List SE} {P:Program} {a:Act} {fn:Func}
theorem Q0{h:Heap}{own:Nat->Prop}(hp:HRep own w σ h)(hl:∀ b∈h,alive b){b:Nat}(hb:Mine σ b):∃ cs el fr,w.heap[b]?=some (Obj.cells cs el fr):=by
 obtain⟨i,e,ad,h1,h2,h3⟩:=zt.1 hb;have hi:i<h.length:=by rw [<- hp.len]; exact(aG.1 h1).1
 have hbr:=hp.blk i e _ h1 (aF hi);have ha:=hl _ (bK hi);generalize h[i]=bl at hbr ha;subst h3;cases bl with
 | dead=>exact ha.elim
 | box cells=>
  obtain⟨ad',vs,el,g1,_,g3,_⟩:=hbr;rw [h2] at g1; cases g1;exact⟨_,_,_,g3⟩
 | arr n sz g=>
  obtain⟨_,g⟩:=hbr;rcases g with g | ⟨ad',cs,el,g1,g2,_⟩
  ·simp only [alive] at ha; omega
  ·rw [h2] at g1; cases g1;exact⟨_,_,_,g2⟩
 | arrI _ n _=>
  obtain⟨_,g⟩:=hbr;rcases g with g | ⟨ad',cs,el,g1,g2,_⟩
  ·simp only [alive] at ha; omega
  ·rw [h2] at g1; cases g1;exact⟨_,_,_,g2⟩
 | arrS n _=>
  obtain⟨_,g⟩:=hbr;rcases g with g | ⟨ad',cs,el,g1,g2,_⟩
  ·simp only [alive] at ha; omega
  ·rw [h2] at g1; cases g1;exact⟨_,_,_,g2⟩
 | map _ _ _ _ _=>exact ha.elim
theorem XL{c:Code}{Q:Exit->Act->World->Prop}(n m:Nat)(h:c.wpIn (FM none) n P Q a w):c.wpIn (FM none) m P Q a w:=by
 simp only [FM] at h ⊢;exact wpIn_wide.2 (wpIn_wide.1 h)
def zev(c:Code)(tg tp td:Nat):Bool:=match c with
 | .rangeFunc (.tmp g) ps (.region _ ops false) _=>decide (g=tg)&&decide (ps.toList=[tp])&&match ops.toList with
  | [o]=>decide (o.dst=some td)&&o.guard.isNone&&match o.op with
   | .assign (.tmp t)=>decide (t=tp)
   | _=>false
  | _=>false
 | _=>false
theorem Ym{c:Code}{tg tp td:Nat}(h:zev c tg tp td=true):∃ id o,c = .rangeFunc (.tmp tg) #[tp] (.region id #[o] false) (Wk c)/\o.dst=some td/\o.guard=none/\o.op = .assign (.tmp tp):=by
 unfold zev at h;split at h
 ·rename_i g ps id ops body;simp only [bA,aK] at h;obtain⟨⟨rfl,h2⟩,h3⟩:=h;split at h3
  ·rename_i o ho;simp only [bA,aK,Option.isNone_iff_eq_none] at h3;obtain⟨⟨h4,h5⟩,h6⟩:=h3;split at h6
   ·rename_i t ht;simp only [aK] at h6;subst h6;refine⟨id,o,?_,h4,h5,ht⟩;have e1:ps = #[t]:=by rw [<- Array.toList_inj]; exact h2
    have e2:ops = #[o]:=by rw [<- Array.toList_inj]; exact ho
    rw [e1,e2]; rfl
   ·cases h6
  ·cases h3
 ·cases h
theorem Yg{M:Option Nat}{td tp id:Nat}{o:Oper}(hd:o.dst=some td)(hgd:o.guard=none)(hop:o.op = .assign (.tmp tp)){K:Act->World->Prop}{Qe:Exit->Act->World->Prop}(h:K { a with tmps:=a.tmps.setIfInBounds td (a.tmps.getD tp undef) } w) :
  (Code.region id #[o] false).wpIn (FM M) 0 P (Exit.then K Qe) a w:=by
 refine wpIn_region_list ?_;simp only [Array.toList];refine wpListIn_step λK' hK'=> ?_
 rw [aP (by simp [Region.wanted,hgd])];refine Qf (by simp [hop]) ?_;unfold Oper.wp
 have:(execOp a.eval o).run P w = .ok (.value (a.eval (.tmp tp))) w:=by
  simp [execOp,hop]
 rw [this];have e:a.put o.dst (a.eval (.tmp tp))={ a with tmps:=a.tmps.setIfInBounds td (a.tmps.getD tp undef) } :=by rw [hd]; rfl
 show K' (a.put o.dst (a.eval (.tmp tp))) w;rw [e];exact hK' _ _ h
theorem vJ.le{pin pinR:Nat}{w':World}{Z':List SE}(h:vJ pinR w σ w' Z')(hp:pin<=pinR):vJ pin w σ w' Z':=λi e hi he=>h i e (bB hi hp) he
theorem vJ.hold{pinR:Nat}{w':World}{Z':List SE}(h:vJ pinR w σ w' Z'):Hold (List.range' pinR σ.length) w σ w' Z':=by
 intro i e he hi;have hlt:=(aG.1 he).1;refine h i e ?_ he;rcases aR i pinR with h1 | h1
 ·exact h1
 ·exact absurd (List.mem_range'_1.2 ⟨h1,by omega⟩) hi
theorem zb.range{α:Type}{Hs:Nat->KV->Heap->Prop}{R:List AV->Heap->Prop}{k:List Item}{c:Code}{kv:KV}{h:Heap}{tg tp td gf:Nat}{cap:List AV}(hc:zev c tg tp td=true)
  (he:∀ args w,(callFunc gf args).run P w = .ok (.enter gf args) w) (av:α->AV) (H Hx:List α->Heap) (X S Sp:List α->Prop) (N pinR:Nat)
  (hg:look kv tg = .fn gf [] cap) (htg:tg<fn.ntmps) (htp:tp<fn.ntmps) (hno:∀ x t b y,av x≠.opt t b y) (hle:LeK pin fn.ntmps kv h kv (H [])) (hlow:(pk fn.ntmps kv).all (lowB pinR)=true) (hpin:pin<=pinR) (halive:∀ pre,∀ b∈H pre,alive b) (halivex:∀ pre,∀ b∈Hx pre,alive b)
  (iter:∀ w σ a,Mod O pin w0 I0 w σ (mk fn.ntmps kv (H [])) a->∀ vb,RepL (Own O σ) w cap σ vb->∃ (Keep:World->Prop) (ev:α->Value),SeqStopsK Fence.wide 0 P gf vb.toArray (λx=> #[ev x]) (λW W'=>Keep W->Keep W') S Sp N w /\
   (∀ pre W Z',Mod O pin w0 I0 W Z' (mk fn.ntmps kv (H pre)) a->Keep W/\∀ x,Rep (Own O Z') W (av x) Z' (ev x)) /\
   (∀ W l o o',w.heap.size<=l->W.heap[l]?=some o->o.isCells=false->Keep W->Keep (W.putObj l o')))
  (round:∀ l pre x,pre.length<N->∀ (W:World) (E1:List SE),xc (some l) P (bare fn) O pinR W E1 (λd kv' h'=>LeK pinR fn.ntmps [] h' [] (H (pre++[x]))) (λ_ h'=>X (pre++[x])/\LeK pinR fn.ntmps [] h' [] (Hx (pre++[x]))) [.code (Wk c),.inLoop] (mk fn.ntmps ((td,av x)::(tp,av x)::kv) (H pre)))
  (done:∀ xs,S xs->zb P fn O pin w0 I0 Hs R k (mk fn.ntmps kv (H xs)))
  (stop:∀ pre,Sp pre->X pre->(resX P (mk fn.ntmps kv (Hx pre)) fn.results.toList).holds λrs=>R rs (Hx pre)) :
  zb P fn O pin w0 I0 Hs R (.code c::k) (mk fn.ntmps kv h):=by
 obtain⟨id,o,hco,hod,hog,hop⟩:=Ym hc;generalize Wk c=body at *
 subst hco;clear hc;intro w σ a hm0;have hm:=hle.le.mod hm0;clear hm0;generalize σ.take (mk fn.ntmps kv (H [])).heap.length=σ at hm;simp only [wpK];have hgt:=hm.tm tg;have hev:(mk fn.ntmps kv (H [])).tmps.getD tg .undef = .fn gf [] cap:=by simp only [mk]; rw [x8 htg]; exact hg
 rw [hev] at hgt;simp only [TRep,Rep] at hgt;obtain⟨va,vb,hval,hva,hvb⟩:=hgt;have hva:va=[]:=by simpa [RepL] using hva
 subst hva;obtain⟨Keep,ev,hseq,hkeep,hstab⟩:=iter w σ a hm vb hvb
 have hB:∀ d∈a.defers,∃ D,d={ target:=.collected D,args:= #[] } /\ D<w.heap.size:=by
  intro d hd;obtain⟨D,h1,_,_,h4⟩:=hm.df.2 d hd;exact⟨D,h1,(aQ.1 h4).1⟩
 have hOB:∀ b,O b->b<w.heap.size:=hm.good.old;have hmarks:∀ (W:World) (Z':List SE),Mod O pin w0 I0 W Z' (mk fn.ntmps kv (H [])) a\/True:=λ_ _=>.inr trivial
 have turnI:∀ (Hh:List α->Heap),(∀ pre,∀ b∈Hh pre,alive b)->OwnFrom w.heap.size (λpre W=>∃ Z',Mod O pin w0 I0 W Z' (mk fn.ntmps kv (Hh pre)) a):=by
  intro Hh hal pre W W' row hI hgr hr;obtain⟨Z',hM⟩:=hI;refine⟨Z',?_⟩
  have:=hM.turn hgr (ds:=a.defers) (λr e=>⟨bP hm.since.ext.size (hr r e).1,(hr r e).2⟩) (.inl (Vp (hal pre))) (hM.df.turn hgr λr e hmem=>by
   obtain⟨D,h1,h2⟩:=hB _ hmem;have:=(hr r e).1;simp only [Deferred.mk.injEq,Target.collected.injEq,and_true] at h1;omega)
  exact this
 have push:∀ (D:Nat) (Hh:Heap) (W:World) (Z':List SE),(∀ b∈Hh,alive b)->w.heap.size<=D->W.heap[D]?=some (.deferred (some []))->Mod O pin w0 I0 W Z' (mk fn.ntmps kv Hh) a->Mod O pin w0 I0 W Z' (mk fn.ntmps kv Hh) { a with defers:={ target:=.collected D,args:= #[] } :: a.defers } :=by
  intro D Hh W Z' hal hD hWD hM;refine⟨hM.good,hM.hp,hM.size,hM.tm,⟨List.nodup_cons.2 ⟨λhmem=> ?_,hM.df.1⟩,λd hd=> ?_⟩,hM.since,hM.lim⟩
  ·obtain⟨D',h1,h2⟩:=hB _ hmem;simp only [Deferred.mk.injEq,Target.collected.injEq,and_true] at h1;omega
  ·rcases aM.1 hd with rfl | hd
   ·refine⟨D,rfl,bP hm.since.ext.size hD,?_,hWD⟩;rintro(hO | hM')
    ·have:=hOB D hO; omega
    ·obtain⟨cs,el,fr,hcs⟩:=Q0 hM.hp hal hM';rw [hWD] at hcs; cases hcs
   ·exact hM.df.2 d hd
 refine XL 1 0 ?_
 refine wpIn_rangeFunc_ownG (F:=Fence.wide) rfl (aJ 1) (gf:=gf) (lb:=vb.toArray) (by simp only [Act.eval]; exact hval) trivial he (encs:=λx=> #[ev x]) (Kp:=λW W'=>Keep W->Keep W') (S:=S) (Sp:=Sp) (N:=N) (w0:=w) hseq
  (λh1 h2 h3=>h2 (h1 h3)) (λW l o o' h1 h2 h3 _ h4=>hstab W l o o' h1 h2 h3 h4) (Below.refl _ _) (λ_=>rfl)
  (λpre W=>∃ Z',Mod O pin w0 I0 W Z' (mk fn.ntmps kv (H pre)) a) (λc pre W=>c = .ret/\X pre/\∃ Z',Mod O pin w0 I0 W Z' (mk fn.ntmps kv (Hx pre)) a)
  (turnI H halive) (λc pre W W' row hI hgr hr=>⟨hI.1,hI.2.1,turnI Hx halivex pre W W' row hI.2.2 hgr hr⟩) ⟨σ,hm⟩
  (λx=>{ tmps:=(a.tmps.setIfInBounds tp (ev x)).setIfInBounds td ((a.tmps.setIfInBounds tp (ev x)).getD tp undef),defers:=[] }) ?_ ?_ ?_ ?_
 ·
  intro l x W K hK;refine Yg (M:=some l) hod hog hop ?_;simpa using hK
 ·
  rintro l pre x W ⟨E1,hM⟩ hlen;have hsz:a.tmps.size=fn.ntmps:=by rw [hM.size]; simp [mk,pk]
  have hM2:Mod O pinR W E1 W E1 (mk fn.ntmps ((td,av x)::(tp,av x)::kv) (H pre)) { tmps:=(a.tmps.setIfInBounds tp (ev x)).setIfInBounds td ((a.tmps.setIfInBounds tp (ev x)).getD tp undef),defers:=[] } :=by
   have hx:=(hkeep pre W E1 hM).2 x
   have hxT:∀ T,TRep (Own O E1) W E1 T (av x) (ev x):=by
    intro T;have:=hno x;generalize av x=y at hx this;cases y with
    | opt t b z=>exact absurd rfl (this t b z)
    | _=>simpa only [TRep] using hx
   refine⟨hM.good,hM.hp,by simp [mk,pk,hsz],λt=> ?_,Marks.nil _ _ _,Stp.refl _ _ _ _,hM.good.stat⟩;by_cases ht:t<fn.ntmps
   ·simp only [mk];rw [x8 ht];have htp':(a.tmps.setIfInBounds tp (ev x)).getD tp undef=ev x:=by simp [hsz,htp]
    rw [htp'];by_cases h1:td=t
    ·subst h1;simp only [look,if_true];have:((a.tmps.setIfInBounds tp (ev x)).setIfInBounds td (ev x)).getD td undef=ev x:=by simp [hsz,ht]
     rw [this]; exact hxT _
    ·have e1:((a.tmps.setIfInBounds tp (ev x)).setIfInBounds td (ev x)).getD t undef=(a.tmps.setIfInBounds tp (ev x)).getD t undef:=by
      simp only [bQ];rw [Array.getElem?_setIfInBounds_ne h1]
     rw [e1];by_cases h2:tp=t
     ·subst h2;simp only [look,aO h1,if_true];rw [htp']; exact hxT _
     ·simp only [look,aO h1,aO h2]
      have e2:(a.tmps.setIfInBounds tp (ev x)).getD t undef=a.tmps.getD t undef:=by
       simp only [bQ];rw [Array.getElem?_setIfInBounds_ne h2]
      rw [e2];have:=hM.tm t;simp only [mk] at this;rw [x8 ht] at this;have hl:lowB pinR (look kv t)=true:=bG.1 hlow (look kv t) (by simp only [pk,List.mem_map,List.mem_range]; exact⟨t,ht,rfl⟩);generalize look kv t=y at this hl;cases y with
      | opt u b z=>exact absurd rfl (ye hl u b z)
      | _=>simpa only [TRep] using this
   ·have:(mk fn.ntmps ((td,av x)::(tp,av x)::kv) (H pre)).tmps.getD t .undef = .undef:=by simp [mk,pk,List.getD,ht]
    rw [this]; simp [TRep,Rep]
  have hr:=round l pre x hlen W E1 W E1 _ hM2;simp only [wpK] at hr
  have fin:∀ (Hh:Heap) (st':St) (W':World) (τ:List SE) (a':Act),LeK pinR fn.ntmps [] st'.heap [] Hh->Mod O pinR W E1 W' τ st' a'->KeepsFrom w.heap.size W W'/\∃ Z',Mod O pin w0 I0 W' Z' (mk fn.ntmps kv Hh) a:=by
   intro Hh st' W' τ a' hL hM'
   have h1:Mod O pinR W E1 W' τ (mk fn.ntmps [] st'.heap) { tmps:=Array.replicate fn.ntmps undef,defers:=[] } :=by
    refine⟨hM'.good,hM'.hp,by simp [mk,pk],λt=> ?_,Marks.nil _ _ _,hM'.since,hM'.lim⟩
    have:(mk fn.ntmps [] st'.heap).tmps.getD t .undef = .undef:=by
     simp only [mk,pk,List.getD,aN];cases (List.range fn.ntmps)[t]?<;>simp [look]
    rw [this]; simp [TRep,Rep]
   have h2:=hL.le.mod h1;generalize τ.take (mk fn.ntmps [] Hh).heap.length=τ' at h2;have hx:=h2.since.ext;refine⟨⟨hx.size,λb o hb ho hoc=> ?_⟩,τ',?_⟩
   ·have hlt:=(aQ.1 ho).1;rw [<- ho];by_cases hO:O b
    ·exact h2.since.km b hO hlt
    ·refine hx.keep b hlt ?_;rintro(h3 | h3)
     ·exact hO h3
     ·obtain⟨cs,el,fr,hcs⟩:=Q0 hM.hp (halive pre) h3;rw [ho] at hcs; cases hcs; simp [Obj.isCells] at hoc
   ·refine⟨h2.good,h2.hp,hM.size,λt=> ?_,hM.df.ext hx,hM.since.trans ⟨hx,h2.since.km,h2.since.hold.le hpin⟩,hM.lim⟩;have ht:=hM.tm t;by_cases htn:t<fn.ntmps
    ·simp only [mk] at ht ⊢;rw [x8 htn] at ht ⊢;have hl:lowB pinR (look kv t)=true:=bG.1 hlow (look kv t) (by simp only [pk,List.mem_map,List.mem_range]; exact⟨t,htn,rfl⟩);generalize look kv t=y at ht hl;cases y with
     | opt u b z=>exact absurd rfl (ye hl u b z)
     | _=>simp only [TRep] at ht ⊢; exact qb hx h2.since.hold.hold _ _ (QT hl) ht
    ·have:(mk fn.ntmps kv Hh).tmps.getD t .undef = .undef:=by simp [mk,pk,List.getD,htn]
     rw [this]; simp [TRep,Rep]
  refine wpIn_mono hr λe a' W' h=> ?_
  cases e with
  | normal=>
   simp only [wpK] at h;obtain⟨st,τ,⟨kv',h',hL,rfl⟩,hM'⟩:=h;obtain⟨h1,Z',h2⟩:=fin _ (mk fn.ntmps kv' h') _ _ _ hL hM';exact⟨h1,λ_=>(hkeep _ _ _ h2).1,Z',h2⟩
  | ret=>
   simp only [wpK] at h;rcases h with ⟨_,st,τ,⟨hX,hL⟩,hM'⟩ | ⟨_,_,h,_⟩
   rotate_left
   ·exact h.elim
   obtain⟨h1,Z',h2⟩:=fin _ st _ _ _ hL hM';exact⟨h1,rfl,hX,Z',h2⟩
  | exit i=>simp only [wpK] at h; exact absurd h (by simp)
  | goto t=>simp only [wpK] at h; exact absurd h (by simp)
  | panic ch=>simp only [wpK] at h; exact absurd h (by simp)
  | outgrown=>simp only [wpK] at h; exact absurd h (by simp)
 ·
  rintro D xs W hD hS ⟨E1,hM⟩ hWD;exact done xs hS W E1 _ (push D _ W E1 (halive xs) hD hWD hM)
 ·rintro D c pre W hD hSp ⟨rfl,hX,E1,hM⟩ hWD;refine wpIn_ret (yW (.inl ⟨.inl rfl,mk fn.ntmps kv (Hx pre),E1,stop pre hSp hX,push D _ W E1 (halivex pre) hD hWD hM⟩))
def QH(kv:KV)(t:Nat)(a:AV):KV:=kv.map λp=>if p.1=t then(t,a) else p
theorem zdb{kv:KV}{t:Nat}{a:AV} : ∀ u,look (QH kv t a) u=if u=t then(if(kv.any λp=>p.1 == t) then a else .undef) else look kv u:=by
 intro u
 induction kv with
 | nil=>simp [QH,look]
 | cons p l ih=>
  obtain⟨i,x⟩:=p;simp only [QH,List.map_cons,List.any_cons] at ih ⊢;by_cases hit:i=t
  ·subst hit;simp only [if_true,look,beq_self_eq_true,Bool.true_or];by_cases hu:i=u
   ·subst hu; simp
   ·rw [aO hu,aO (λh=>hu h.symm),ih,aO (λh=>hu h.symm),aO hu]
  ·have hb:(i == t)=false:=by simpa using hit
   simp only [aO hit,look,hb,Bool.false_or];by_cases hu:i=u
   ·subst hu; simp [hit]
   ·rw [aO hu,ih,aO hu]
theorem zb.bear{Xp:List PanicEntry->Prop}{M:Option Nat}{Hs:Nat->KV->Heap->Prop}{R:List AV->Heap->Prop}{k:List Item}{kv:KV}{h:Heap}(t sz:Nat)(g:Nat->Nat->AV)(hnil:look kv t = .nils)(ht:t<fn.ntmps)(hno:(pk fn.ntmps kv).all qg=true)
  (H:zZ Xp M P fn O pin w0 I0 Hs R k (mk fn.ntmps (QH kv t (.osl h.length sz 0 0)) (h++[.arr 0 sz g]))):zZ Xp M P fn O pin w0 I0 Hs R k (mk fn.ntmps kv h):=by
 refine Safe.bear t sz g (by simp only [mk]; rw [x8 ht]; exact hnil) hno ?_
 have e:wU (mk fn.ntmps kv h) t sz g=mk fn.ntmps (QH kv t (.osl h.length sz 0 0)) (h++[.arr 0 sz g]):=by
  simp only [wU,mk];congr 1;apply List.ext_getElem (by simp [pk]);intro u h1 h2;simp only [pk,List.getElem_map,List.getElem_range,List.getElem_set,zdb];by_cases hu:t=u
  ·subst hu;rw [aP rfl,aP rfl]
   have:kv.any (λp=>p.1 == t)=true:=by
    rcases Bool.eq_false_or_eq_true (kv.any λp=>p.1 == t) with hh | hh
    ·exact hh
    ·exfalso
     have:look kv t = .undef:=by
      clear hnil hno H ht h1 h2
      induction kv with
      | nil=>rfl
      | cons p l ih=>
       simp only [List.any_cons,Bool.or_eq_false_iff,beq_eq_false_iff_ne] at hh;simp only [look,aO hh.1];exact ih hh.2
     rw [hnil] at this; cases this
   rw [this]; rfl
  ·rw [aO hu,aO (λhh=>hu hh.symm)]
 rw [e];exact H
end
end Go.Sx
end
section
namespace Go.Sx
variable [Stat]
section
variable {O:Nat->Prop} {pin:Nat} {w0:World} {I0:List SE} {w:World} {σ:List SE} {P:Program} {st:St} {a:Act} {fn:Func} {Xp:List PanicEntry->Prop}
theorem KI(i:Nat){a:AV}(h:qg a=true):qg (zS i a)=true:=by
  cases a with
  | opt _ _ _=>cases h
  | _=>
    simp only [zS]
    try simp only [jh]
    repeat (first | rfl | split)
theorem kP:∀ (K:List Nat) {a:AV},qg a=true->qg (z3 K a)=true
  | [],_,h=>h
  | i::K,_,h=>kP K (KI i h)
theorem U8{h:Heap}{a a':AV}{k:List Nat}(hf:frz h a=some (a',k)):qg a'=true:=by
  cases a with
  | fn f x y=>cases x<;>cases y<;>simp [frz,frz1] at hf; obtain⟨rfl,_⟩:=hf; rfl
  | opt _ _ _=>simp [frz,frz1] at hf
  | osl i sz off n=>
    simp only [frz] at hf;obtain⟨_,_,_,_,rfl,_⟩:=Kn hf;rfl
  | _=>
    simp only [frz,frz1] at hf
    first
    | (simp only [aE,bE] at hf; obtain⟨rfl,_⟩:=hf; rfl)
    | (cases hf; done)
    | (split at hf
       · simp only [aE,bE] at hf; obtain⟨rfl,_⟩:=hf; rfl
       · cases hf)
theorem XO{K:List Nat}{h:Heap}{a:AV}(ha:qg a=true):qg (vG K h a)=true:=by
  unfold vG;split
  · rename_i a' k hf;cases k.all K.contains with
    | false=>exact kP K ha
    | true=>exact U8 hf
  · exact kP K ha
def VE(K:List Nat)(st:St):St:=⟨st.tmps.map (vG K st.heap),ja K (zu K st.heap)⟩
theorem zfw(hm:Mod O pin w0 I0 w σ st a){K:List Nat}(hK:∀ i∈K,pin<=i)(hno:st.tmps.all qg=true):Mod O pin w0 I0 w (frzS K σ) (VE K st) a:=by
  have hx:=jt (O:=O) K w σ;refine⟨xp K hm.good,kj hm.hp K,by simp [VE,hm.size],λt=> ?_,hm.df.ext hx,hm.since.trans ⟨hx,λ_ _ _=>rfl,λi e hi2 he=>x7 K w σ i e he λh=>by have:=hK i h; omega⟩,hm.lim⟩;have ht:=hm.tm t
  have e:(VE K st).tmps.getD t .undef=vG K st.heap (st.tmps.getD t .undef)\/(VE K st).tmps.getD t .undef = .undef:=by
    simp only [VE,List.getD,aN];cases st.tmps[t]? with
    | none=>exact .inr rfl
    | some x=>exact .inl rfl
  have hn:qg (st.tmps.getD t .undef)=true:=by
    by_cases hlt:t<st.tmps.length
    · simp only [List.getD,aF hlt,Option.getD_some];exact bG.1 hno _ (bK hlt)
    · simp only [List.getD];rw [aZ (by omega)]; rfl
  rcases e with e | e
  · rw [e]
    have hr:Rep (Own O σ) w (st.tmps.getD t .undef) σ (a.tmps.getD t undef):=by
      generalize st.tmps.getD t .undef=x at ht hn;cases x with
      | opt _ _ _=>cases hn
      | _=>exact ht
    have:=yf hm.good hm.hp (K:=K) hr;have hno2:=XO (K:=K) (h:=st.heap) hn;generalize vG K st.heap (st.tmps.getD t .undef)=y at this hno2;cases y with
    | opt t b x=>cases hno2
    | _=>exact this
  · rw [e]; simp [TRep,Rep]
def YG(K:List Nat)(h:Heap)(kv:KV):KV:=kv.map λp=>(p.1,vG K h p.2)
theorem zde{K:List Nat}{h:Heap}{kv:KV}(t:Nat):look (YG K h kv) t=vG K h (look kv t):=by
  induction kv with
  | nil=>
    show AV.undef=vG K h .undef;simp only [vG,frz,frz1]
    have:∀ K,z3 K .undef = .undef:=by
      intro K
      induction K with
      | nil=>rfl
      | cons i K ih=>exact ih
    rw [this]
  | cons p l ih=>
    simp only [YG,List.map_cons,look] at ih ⊢;split
    · rfl
    · exact ih
end
end Go.Sx
end
section
namespace Go.Nov
open Go.Sx
inductive Ex where
 | mk (kind:Int) (rat name:L8) (date:Int) (sub:List Ex)
namespace Ex
def kind:Ex->Int | mk k _ _ _ _=>k
def rat:Ex->L8 | mk _ r _ _ _=>r
def name:Ex->L8 | mk _ _ n _ _=>n
def date:Ex->Int | mk _ _ _ d _=>d
def sub:Ex->List Ex | mk _ _ _ _ s=>s
mutual
def size:Ex->Nat
 | mk _ _ _ _ s=>1+zR s
def zR:List Ex->Nat
 | []=>0
 | x::l=>size x+zR l
end
abbrev nil:Ex:=mk 0 [] [] 0 []
theorem size_eq(x:Ex):x.size=1+zR x.sub:=by cases x; rw [size]; rfl
theorem size_pos(x:Ex):0<x.size:=by rw [size_eq]; omega
theorem Qx(s:List Ex)(i:Nat)(h:i<s.length):zR (s.take (i+1))=zR (s.take i)+(s.getD i nil).size:=by
 induction s generalizing i with
 | nil=>simp at h
 | cons x s ih=>
  cases i with
  | zero=>simp [zR]
  | succ i=>
   simp only [List.take_succ_cons,zR,List.getD_cons_succ];rw [ih i (by simpa using h)];omega
theorem zQ{s:List Ex}{i:Nat}(h:i<s.length):(s.getD i nil).size<=zR s:=by
 induction s generalizing i with
 | nil=>simp at h
 | cons x s ih=>
  cases i with
  | zero=>simp [zR]
  | succ i=>
   simp only [List.getD_cons_succ,zR];have:=ih (i:=i) (by simpa using h);omega
theorem xO(s:List Ex)(i:Nat):zR (s.take i)<=zR s:=by
 induction s generalizing i with
 | nil=>simp [zR]
 | cons x s ih=>
  cases i with
  | zero=>simp [zR]
  | succ i=>simp only [List.take_succ_cons,zR]; have:=ih i; omega
theorem j9(s:List Ex):s.length<=zR s:=by
 induction s with
 | nil=>simp [zR]
 | cons x s ih=>simp only [aL,zR]; have:=size_pos x; omega
def cell(k:Int)(r n:L8)(d:Int)(l:Nat)(g:Nat->Nat->AV):Nat->AV
 | 0=>.int .u8 k
 | 1=>.str r
 | 2=>.str n
 | 3=>.i d
 | 4=>.sl l 5 g
 | _=>.undef
def deep:Ex->Nat->Nat->AV
 | mk _ _ _ _ s=>λj=>(s.map λx=>cell x.kind x.rat x.name x.date x.sub.length (deep x)).getD j λ_=>.undef
def exG(s:List Ex):Nat->Nat->AV:=λj=>cell (s.getD j nil).kind (s.getD j nil).rat (s.getD j nil).name (s.getD j nil).date (s.getD j nil).sub.length (deep (s.getD j nil))
def exS(s:List Ex):AV:=.sl s.length 5 (exG s)
def exA(x:Ex):AV:=.agg [.int .u8 x.kind,.str x.rat,.str x.name,.i x.date,exS x.sub]
theorem qW(x:Ex):eqG x.sub.length 5 (deep x) (exG x.sub):=by
 intro j o hj ho;cases x with
 | mk k r n d s=>
  rw [deep];change j<s.length at hj;show _=exG s j o;simp [exG,List.getD,hj]
end Ex
end Go.Nov
end
section
namespace Go.Nov
open Go.Sx
def shpL:List (Int×List Int×Int):=[(4,[1,1],1),(5,[1,1],1),(6,[1,1],1),(7,[1,1],1),(8,[1,1],1),(9,[2,1,1],1),(11,[1,1],2),(12,[1,1],2),(13,[2,2],2),(14,[2,2],2),(15,[2],2)]
def y6(k:Int):Option (List Int×Int):=(shpL.find? λp=>p.1 == k).map (·.2)
def je(k:Int):Bool:=(y6 k).isSome
def qY(k:Int):List Int:=((y6 k).getD ([],0)).1
def jz(k:Int):Nat:=(qY k).length
def q6(k:Int)(j:Nat):Int:=(qY k).getD j 0
def qS(k:Int):Int:=((y6 k).getD ([],0)).2
end Go.Nov
end
section
open Go Go.Sx Go.Proofs Go.Nov
namespace Go.Proofs.Tryz
noncomputable instance:Go.Sx.Stat:=⟨λg=>
 if g=1 then some (.mp .u8 true 2 [] (λk=>je k) λk o=>match o with
 | 0=>.sl (jz k) 1 λj _=>.int .u8 (q6 k j)
 | _=>.int .u8 (qS k)) else
 if g=0 then some (.mp .u8 false 1 [4,5,6,7,8] (λk=>decide (4<=k/\k<=8)) λk _=>
  if k=4 then .fn 190 [] [] else if k=5 then .fn 191 [] [] else if k=6 then .fn 192 [] []
  else if k=7 then .fn 193 [] [] else .fn 194 [] []) else
 none⟩
end Go.Proofs.Tryz
end
section
set_option maxRecDepth 100000
open Go Go.Sx Go.Proofs Go.Nov
namespace Go.Proofs.Tryz
attribute [local simp] eqKV eqA eqA0 eqH eqB eqL eqL0
noncomputable def K142:=Go.Sx.aA f142
theorem hmix:prog.follows .mixedOrders=true:=by decide +kernel
def noG:Nat->Option Ctr:=λ_=>none
theorem z6:∀ g c,noG g=some c->zc prog g c:=λ_ _ h=>by cases h
def zir:AV->Nat
 | .int _ n=>n.toNat
 | _=>0
def decN(n:Nat)(g:Nat->Nat->AV):List Nat:=(List.range n).map λj=>zir (g j 0)
theorem xH(k:IntKind)(l:List Nat):decN l.length (natG k l)=l:=by
 apply List.ext_getElem (by simp [decN]);intro j h1 h2;simp [decN,natG,zir,h2]
theorem za(n sz:Nat)(g:Nat->Nat->AV):eqG n sz g g:=λ_ _ _ _=>rfl
theorem y8{k:IntKind}{l:List Nat}{v:Int}(hv:0<=v):eqG (l.length+1) 1 (appG l.length (natG k l) (zf (ze 1 [.int k v]) 0)) (natG k (l++[v.toNat])):=by
 intro j o hj ho;have ho:o=0:=by omega
 subst ho;simp only [appG,zf,ze,natG];by_cases h:j<l.length
 ·simp [h,bT]
 ·have:j=l.length:=by omega
  subst this;simp [Int.toNat_of_nonneg hv]
theorem vd{k:IntKind}{o:List Nat}{v:Int}{d:Nat}{r:Heap}(hv:v=d):eqH (.arr (o.length+1) 1 (appG o.length (natG k o) (zf (ze 1 [.int k v]) 0))::r) [.arr (o++[d]).length 1 (natG k (o++[d]))]:=by
 subst hv;refine⟨⟨by simp,rfl,?_⟩,by simp [eqH]⟩;have:=y8 (k:=k) (l:=o) (v:=(d:Int)) (by omega);simpa using this
theorem vR{k:IntKind}{l:List Nat}{v:Int}{i:Nat}(hv:0<=v)(hi:i<l.length):eqG l.length 1 (updG (natG k l) i 0 [.int k v]) (natG k (l.set i v.toNat)):=by
 intro j o hj ho;have ho:o=0:=by omega
 subst ho;simp only [updG,natG,aL,List.length_nil];by_cases h:j=i
 ·subst h;simp [hj,Int.toNat_of_nonneg hv]
 ·simp only [h,false_and,if_false];simp [bS (λe=>h e.symm)]
def magS(x:Nat):AV:=natS .u32 (canon x)
def fits(x:Nat):Prop:=(canon x).length<1000000
theorem Vo{m off n:Nat}{k:IntKind}{o:List Nat}{r:Heap} : new0 (.arr m 1 (natG k o)::r) [] (.osl 0 1 off n):=by
 intro _;simp only [exp0,zz,frz1,wi,List.getElem?_cons_zero,if_true];intro j o' _ _;rfl
theorem VZ{m off n:Nat}{g:Nat->Nat->AV}{r:Heap} : exp0 (.arr m 1 g::r) [] (.osl 0 1 off n) = .sl n 1 (zf g off):=by
 simp [exp0,zz,frz1,wi]
theorem JN{k:IntKind}{o l:List Nat}(h:qD o=l):eqA0 (.sl (tlen o) 1 (zf (natG k o) 0)) (natS k l):=by
 subst h;simp only [eqA0,natS,qD,aH,true_and];refine⟨by have:=qj o; omega,?_⟩;intro j o' hj ho';have:o'=0:=by omega
 subst this;simp [zf,natG,bR,hj]
def ctr2{R:Type}(fresh:Bool)(pre:Nat->Nat->Prop)(post:Nat->Nat->R->Prop)(out:Nat->Nat->R->AV×Heap):Ctr:=
 ctrP fresh (λp:Nat×Nat=>[magS p.1,magS p.2]) (λp=>pre p.1 p.2) (λp=>post p.1 p.2) (λp=>out p.1 p.2)
theorem ue{R:Type}{fresh:Bool}{pre:Nat->Nat->Prop}{post:Nat->Nat->R->Prop}{out:Nat->Nat->R->AV×Heap}{g:Nat}{fn:Func}{c:Code}(hf:prog.funcs[g]?=some fn)(hb:fn.body=some c) (hn:(fn.name == "runtime.NumGoroutine")=false)
  (H:∀ x y,pre x y->∀ (O:Nat->Prop) (w0:World) (Q:AV×Heap->Prop),(∀ r,post x y r->Q (out x y r))->zb prog fn O 0 w0 [] (λ_ _ _=>False) (RetR (ctr2 fresh pre post out) 0 Q) [.code c] (entry fn [magS x,magS y])):zc prog g (ctr2 fresh pre post out):=
 zg hf hb hn λp hp=>H p.1 p.2 hp
def uU:Ctr where
 fresh:=false
 spec args hc:=match args,hc with
  | [.sl n 1 g],[]=>.ex (λl:List Nat=>dig l/\l.length=n/\n<2^62/\eqG n 1 g (natG .u32 l)) λl=>.all (λx=>x=val l) λx=>.leaf (magS x,[])
  | [.osl 0 1 off n],[.arr m 1 g]=>.ex (λu:List Nat=>u.length=m/\off+n<=m/\n<2^62/\eqG m 1 g (natG .u32 u)/\dig ((u.drop off).take n)) λu=>.all (λx=>x=val ((u.drop off).take n)) λx=>.leaf (.osl 0 1 off (canon x).length,[.arr m 1 g])
  | _,_=>.fail
def S75o(off n:Nat):KV:=[(0,.osl 0 1 off n)]
def S75(l:List Nat)(n:Nat):KV:=[(0,.sl n 1 (natG .u32 l))]
theorem Ws:zc prog 142 uU:=by
 intro args hc Q hq hfr;unfold uU at hq
 dsimp only at hq
 split at hq
 ·rename_i n g;obtain⟨l,⟨hdl,hln,hn,hg⟩,_,hq⟩:=hq;obtain⟨x,hv⟩:∃ x,val l=x:=⟨_,rfl⟩;replace hq:=hq x hv.symm;have hcan:qD l=canon x:=by rw [zL hdl,hv]
  simp only [magS,<- hcan] at hq;refine jv.le (args':=[natS .u32 l]) (by simp [natS,hln,hg]) (fn_k (fn:=f142) (c:=f142.body.getD .skip) rfl rfl rfl hfr λO w0 I0 h0=> ?_);refine zb.n z6 [0] (.leaf (.loop (lps K142 0).1 (lps K142 0).2 [(0,.sl l.length 1 (natG .u32 l))] [])) ?_;refine zb.loop (ι:={n:Nat // tlen l<=n/\n<=l.length}) (λx=>S75 l x.1) (λ_=>[]) (λx=>x.1) ⟨l.length,qj l,aJ _⟩ 0 ?_ ?_ (by kernel_rfl)
  ·exact⟨by simp [S75,eqG],by simp,by kernel_rfl,aI _⟩
  ·rintro⟨n,h1,h2⟩;refine zb.n z6 [0] (.side (decide ((0:Int)<n)=true->inR .i64 (n-1)) (.side (decide ((0:Int)<n)=true->(0:Int)<=n - (1:Int)/\(n:Int) - (1:Int)<n) (.ite (bif decide ((0:Int)<n) then decide ((↑(l.getD (Int.toNat (n-1)) 0):Int)=0) else false) (.S (n-1) (.side ((0:Int)<=n - (1:Int)/\(n:Int) - (1:Int)<=n) (.leaf (.back 0 [(0,.sl (Int.toNat (n-1) - 0) 1 (zf (natG .u32 l) 0))] [])))) (.R [.sl n 1 (natG .u32 l)] [])))) ?_;simp only [Tree.holds,zd,inR,lo,hi,Bool.cond_eq_ite];refine⟨by simp; omega,λ_=>⟨by simp; omega,λ_=>⟨λh=> ?_,λh=> ?_⟩⟩⟩
   ·have hp:0<n:=by
     rcases bC n with rfl | hp
     ·simp at h
     ·exact hp
    have e:((n:Int) - 1).toNat=n - 1:=by omega
    have hz:l.getD (n - 1) 0=0:=by
     rw [aP (by simpa using hp),e] at h;simpa only [aK,Int.natCast_eq_zero] using h
    refine⟨by omega,λ_=>⟨by omega,λ_=> ?_⟩⟩;rw [aP trivial];refine⟨⟨n - 1,?_,by omega⟩,by show n - 1<n; omega,by simp [S75,eqG,zf,e],by simp,by kernel_rfl,aI _⟩;rcases aR (n - 1) (tlen l) with h3 | h3
    ·have h4:tlen l - 1=n - 1:=by omega
     exact absurd (h4▸hz) (q7 l (by omega))
    ·exact h3
   ·have hn:n=tlen l:=by
     rcases aR (tlen l) n with h3 | h3
     ·exfalso;have e:((n:Int) - 1).toNat=n - 1:=by omega
      rw [aP (by simp; omega),e] at h;have:=jF l (n - 1) (by omega);simp only [aV,Int.natCast_eq_zero] at h;exact h this
     ·omega
    subst hn;refine⟨[],rfl,by simp,by simp,by simp [uU],_,[],q5 ?_,.inl (by simp),rfl,hq⟩;have:=qj l;simp only [resV,exp2,exp1,exp0,ren0,eqA2,eqA,natS,eqA0,qD,aH,Nat.min_eq_left this,true_and];intro j o hj ho;simp only [natG,List.getD,bR,aP hj]
 ·rename_i off n m g;obtain⟨l,⟨hlm,hm,hn,hg,hdl⟩,_,hq⟩:=hq;obtain⟨x,hv⟩:∃ x,val ((l.drop off).take n)=x:=⟨_,rfl⟩;replace hq:=hq x hv.symm;subst hlm;simp only [<- hv,<- VH hdl] at hq;refine jv.leH (hc':=[.arr l.length 1 (natG .u32 l)]) (by simp [hg]) rfl (fn_k (fn:=f142) (c:=f142.body.getD .skip) rfl rfl rfl (by simp [uU]) λO w0 I0 h0=> ?_);refine zb.n z6 [0] (.leaf (.loop (lps K142 0).1 (lps K142 0).2 [(0,.osl 0 1 off n)] [.arr l.length 1 (natG .u32 l)])) ?_
  have hget:∀ j,j<n->((l.drop off).take n).getD j 0=l.getD (off+j) 0:=by
   intro j hj;simp [bR,hj,List.getElem?_drop]
  have htl:tlen ((l.drop off).take n)<=n:=by
   have:=qj ((l.drop off).take n);simp at this; omega
  refine zb.loop (ι:={k:Nat // tlen ((l.drop off).take n)<=k/\k<=n}) (λx=>S75o off x.1) (λ_=>[.arr l.length 1 (natG .u32 l)]) (λx=>x.1) ⟨n,htl,aJ _⟩ 0 ?_ ?_ (by kernel_rfl)
  ·exact⟨by simp [S75o],by simp [eqG],by kernel_rfl,aJ _⟩
  ·rintro⟨k,h1,h2⟩;refine zb.n z6 [0] (.side (decide ((0:Int)<k)=true->inR .i64 (k-1)) (.side (decide ((0:Int)<k)=true->(0:Int)<=k - (1:Int)/\(k:Int) - (1:Int)<k) (.ite (bif decide ((0:Int)<k) then decide ((↑(l.getD (off+Int.toNat (k-1)) 0):Int)=0) else false) (.S (k-1) (.side ((0:Int)<=k - (1:Int)/\(k:Int) - (1:Int)<=k) (.leaf (.back 0 [(0,.osl 0 1 (off+0) (Int.toNat (k-1) - 0))] [.arr l.length 1 (natG .u32 l)])))) (.R [.osl 0 1 off k] [.arr l.length 1 (natG .u32 l)])))) ?_;simp only [Tree.holds,zd,inR,lo,hi,Bool.cond_eq_ite];refine⟨by simp; omega,λ_=>⟨by simp; omega,λ_=>⟨λh=> ?_,λh=> ?_⟩⟩⟩
   ·have hp:0<k:=by
     rcases bC k with rfl | hp
     ·simp at h
     ·exact hp
    have e:((k:Int) - 1).toNat=k - 1:=by omega
    have hz:((l.drop off).take n).getD (k - 1) 0=0:=by
     rw [aP (by simpa using hp),e] at h;rw [hget _ (by omega)];simpa only [aK,Int.natCast_eq_zero] using h
    refine⟨by omega,λ_=>⟨by omega,λ_=> ?_⟩⟩;rw [aP trivial];refine⟨⟨k - 1,?_,by omega⟩,by show k - 1<k; omega,by simp [S75o,e],by simp [eqG],by kernel_rfl,aJ _⟩;rcases aR (k - 1) (tlen ((l.drop off).take n)) with h3 | h3
    ·have h4:tlen ((l.drop off).take n) - 1=k - 1:=by omega
     exact absurd (h4▸hz) (q7 _ (by omega))
    ·exact h3
   ·have hn:k=tlen ((l.drop off).take n):=by
     rcases aR (tlen ((l.drop off).take n)) k with h3 | h3
     ·exfalso;have e:((k:Int) - 1).toNat=k - 1:=by omega
      rw [aP (by simp; omega),e] at h;have:=jF ((l.drop off).take n) (k - 1) (by omega);rw [hget _ (by omega)] at this;simp only [aV,Int.natCast_eq_zero] at h;exact h this
     ·omega
    subst hn;exact⟨[0],rfl,by simp,by simp,by simp [uU],_,[.arr l.length 1 g],q5 (by simp [resV,exp2,exp1,exp0,zz,eqA2]),.inl ⟨⟨rfl,rfl,λj o hj ho=>(hg j o hj ho).symm⟩,trivial⟩,rfl,hq⟩
 ·exact hq.elim
end Go.Proofs.Tryz
end
section
namespace Go.Sx
variable [Stat]
section
variable {own own' O:Nat->Prop} {w w':World} {σ Z':List SE} {P:Program} {fn:Func} {Xp:List PanicEntry->Prop}
def upA0(d k:Nat):AV->AV->Prop
 | .nils,.osl i _ off n=>(d<=i/\i<d+k)/\off=0/\n=0
 | a,b=>a=b
def upL0(d k:Nat):List AV->List AV->Prop
 | [],[]=>True
 | a::l,b::m=>upA0 d k a b/\upL0 d k l m
 | _,_=>False
def upA1(d k:Nat):AV->AV->Prop
 | .agg l,.agg m=>upL0 d k l m
 | a,b=>upA0 d k a b
def upL1(d k:Nat):List AV->List AV->Prop
 | [],[]=>True
 | a::l,b::m=>upA1 d k a b/\upL1 d k l m
 | _,_=>False
def upA2(d k:Nat):AV->AV->Prop
 | .tup l,.tup m=>upL1 d k l m
 | a,b=>upA1 d k a b
def vp(k:Nat):List SE:=List.replicate k ⟨none,0⟩
theorem Zc.mono{g:Nat}{vals:Array Value}{R R':Value->World->Prop}(hR:∀ v w',R v w'->R' v w')(h:Zc P g vals w R):Zc P g vals w R':=by
 rcases h with ⟨h1,h2⟩ | ⟨v,w',h1,h2⟩
 ·exact .inl ⟨h1,h2.mono λe w' ⟨v,he,hv⟩=>⟨v,he,hR v w' hv⟩⟩
 ·exact .inr ⟨v,w',h1,hR v w' h2⟩
theorem kh{k i:Nat}{e:SE}(h:(σ++vp k)[i]?=some e):(i<σ.length/\σ[i]?=some e)\/(σ.length<=i/\e=⟨none,0⟩):=by
 rw [bT] at h;split at h
 ·rename_i hi; exact .inl ⟨hi,h⟩
 ·rename_i hi;right;refine⟨by omega,?_⟩;simp only [vp,List.getElem?_replicate] at h;split at h
  ·cases h; rfl
  ·cases h
theorem QE{k b:Nat}(h:Mine (σ++vp k) b):Mine σ b:=by
 obtain⟨e,he,ad,h1,h2⟩:=h;rcases bY.1 he with he | he
 ·exact⟨e,he,ad,h1,h2⟩
 ·have:=List.eq_of_mem_replicate he;subst this;cases h1
theorem JX{k b:Nat}(h:Own O (σ++vp k) b):Own O σ b:=by
 rcases h with h | h
 ·exact .inl h
 ·exact .inr (QE h)
theorem yo(K:List Nat)(w:World)(σ:List SE)(k:Nat):Hold K w σ w (σ++vp k):=λi e he _=>by
 have hi:=(aG.1 he).1;exact⟨by rw [bL hi]; exact he,λad _ cs el h=>⟨cs,el,h,rfl⟩⟩
theorem We{k:Nat}(hx:Ext own w own' w){a b:AV}{v:Value}(hu:upA0 σ.length k a b)(ha:Rep own w a σ v):Rep own' w b (σ++vp k) v:=by
 unfold upA0 at hu;split at hu
 ·obtain⟨⟨h1,h2⟩,rfl,rfl⟩:=hu;rename_i i sz _ _;simp only [Rep] at ha ⊢;refine⟨⟨none,0⟩,?_,by simp,none,0,ha,aJ _,.inl rfl⟩;rw [List.getElem?_append_right h1,vp,List.getElem?_replicate,aP (by omega)]
 ·subst hu;exact qb (K:=[]) hx (yo [] w σ k) _ _ (j6 _) ha
theorem ZA{k:Nat}(hx:Ext own w own' w):∀ {l m:List AV} {vs:List Value},upL0 σ.length k l m->RepL own w l σ vs->RepL own' w m (σ++vp k) vs
 | [],[],vs,_,h=>by simpa [RepL] using h
 | a::l,b::m,vs,hl,h=>by
  simp only [RepL] at h ⊢;obtain⟨v,r,hv,h1,h2⟩:=h;exact⟨v,r,hv,We hx hl.1 h1,ZA hx hl.2 h2⟩
 | [],_::_,_,hl,_=>hl.elim
 | _::_,[],_,hl,_=>hl.elim
theorem Jo{k:Nat}(hx:Ext own w own' w){a b:AV}{v:Value}(hu:upA1 σ.length k a b)(ha:Rep own w a σ v):Rep own' w b (σ++vp k) v:=by
 unfold upA1 at hu;split at hu
 ·simp only [Rep] at ha ⊢;obtain⟨vs,hv,hr⟩:=ha;exact⟨vs,hv,ZA hx hu hr⟩
 ·exact We hx hu ha
theorem ZC{k:Nat}(hx:Ext own w own' w):∀ {l m:List AV} {vs:List Value},upL1 σ.length k l m->RepL own w l σ vs->RepL own' w m (σ++vp k) vs
 | [],[],vs,_,h=>by simpa [RepL] using h
 | a::l,b::m,vs,hl,h=>by
  simp only [RepL] at h ⊢;obtain⟨v,r,hv,h1,h2⟩:=h;exact⟨v,r,hv,Jo hx hl.1 h1,ZC hx hl.2 h2⟩
 | [],_::_,_,hl,_=>hl.elim
 | _::_,[],_,hl,_=>hl.elim
theorem zae{k:Nat}(hx:Ext own w own' w){a b:AV}{v:Value}(hu:upA2 σ.length k a b)(ha:Rep own w a σ v):Rep own' w b (σ++vp k) v:=by
 unfold upA2 at hu;split at hu
 ·simp only [Rep] at ha ⊢;obtain⟨vs,hv,hr⟩:=ha;exact⟨vs,hv,ZC hx hu hr⟩
 ·exact Jo hx hu ha
def Kz(szs:List (Nat×(Nat->Nat->AV))):Heap:=szs.map λs=>.arr 0 s.1 s.2
theorem zgr(hx:Ext own w own' w){hs:Heap}(hh:HRep own w σ hs)(szs:List (Nat×(Nat->Nat->AV))):HRep own' w (σ++vp szs.length) (hs++Kz szs):=by
 have hl:=hh.len;refine⟨by simp [vp,Kz,hl],λi j e f a b he hf ha hb hij=> ?_,λi e a he ha=> ?_,λi e b he hb=> ?_⟩
 ·rcases kh he with ⟨_,he⟩ | ⟨_,rfl⟩
  ·rcases kh hf with ⟨_,hf⟩ | ⟨_,rfl⟩
   ·exact hh.inj i j e f a b he hf ha hb hij
   ·cases hb
  ·cases ha
 ·rcases kh he with ⟨_,he⟩ | ⟨_,rfl⟩
  ·exact hh.lt i e a he ha
  ·cases ha
 ·rcases kh he with ⟨hi,he⟩ | ⟨hi,rfl⟩
  ·rw [bL (by omega)] at hb;have:=jn (K:=[]) hx (yo [] w σ szs.length) (hh.blk i e b he hb) (λ_ _=>rfl)
   rwa [jA] at this
  ·rw [List.getElem?_append_right (by omega)] at hb;simp only [Kz,aN] at hb;cases hz:szs[i - hs.length]? with
   | none=>simp [hz] at hb
   | some s=>
    simp only [hz,Option.map_some,aE] at hb;subst hb;exact⟨rfl,.inl rfl⟩
def upQ(Q:AV×Heap->Prop)(p:AV×Heap):Prop:=Q p\/∃ (r:AV) (szs:List (Nat×(Nat->Nat->AV))),upA2 p.2.length szs.length p.1 r/\Q (r,p.2++Kz szs)
theorem jv.up{g:Nat}{c:Ctr}{args:List AV}{hc:Heap}{Q:AV×Heap->Prop}(h:jv P g c args hc (upQ Q)):jv P g c args hc Q:=by
 intro O w σ vals hg hh hr;refine Zc.mono ?_ (h O w σ vals hg hh hr);rintro v w' ⟨r,hs,Z',hq,h1,h2,h3,h4,h5,h6⟩;rcases hq with hq | ⟨r',szs,hu,hq⟩
 ·exact⟨r,hs,Z',hq,h1,h2,h3,h4,h5,h6⟩
 ·have hx:Ext (λb=>Own O Z' b\/(c.fresh=true/\b<w.heap.size)) w' (λb=>Own O (Z'++vp szs.length) b\/(c.fresh=true/\b<w.heap.size)) w':=
   ⟨rfl,rfl,rfl,aJ _,λ_ _ _=>rfl,λb hb=>.inl (hb.imp JX id)⟩
  have hl:hs.length=Z'.length:=h2.len.symm;refine⟨r',hs++Kz szs,Z'++vp szs.length,hq,zae hx (by rw [<- hl]; exact hu) h1,zgr hx h2 szs,⟨h3.old,λi e ad he had=> ?_,h3.stat.own λb hb=>JX hb⟩,by simp; omega,h5.X3 (yo [] w' Z' _),?_⟩
  ·rcases kh he with ⟨_,he⟩ | ⟨_,rfl⟩
   ·exact h3.dis i e ad he had
   ·cases had
  ·exact⟨h6.os,h6.tape,h6.output,h6.size,h6.keep,λb hb=>h6.grow b (QE hb)⟩
theorem Vq{X R:Type}{fresh:Bool}{inp:X->List AV}{pre:X->Prop}{post:X->R->Prop}{out:X->R->AV×Heap}{g:Nat}{c:Code}(hf:P.funcs[g]?=some fn)(hb:fn.body=some c) (hn:(fn.name == "runtime.NumGoroutine")=false)
  (H:∀ x,pre x->∀ (O:Nat->Prop) (w0:World) (Q:AV×Heap->Prop),(∀ r,post x r->Q (out x r)) ->
   zb P fn O 0 w0 [] (λ_ _ _=>False) (RetR (ctrP fresh inp pre post out) 0 (upQ Q)) [.code c] (entry fn (inp x))):zc P g (ctrP fresh inp pre post out):=by
 intro args hc Q hq _;simp only [ctrP] at hq;split at hq
 ·obtain⟨x,⟨h1,h4⟩,h5,h6⟩:=hq;refine jv.le h1 (jv.up (fn_k hf hb hn (λh=>rfl) λO w0 I0 hl=> ?_));have h0:I0=[]:=aU.1 (by simpa using hl);subst h0;exact H x h4 O w0 Q h6
 ·exact hq.elim
variable {pin:Nat} {w0:World} {I0:List SE} {a:Act}
theorem RetR.outs{ctr:Ctr}{Q:AV×Heap->Prop}{rs:List AV}{h:Heap}{r:AV}{hs:Heap}(L:List Nat)(hnd:w9 L=true)(hlt:(L.all λi=>decide (i<h.length))=true)(hq:Q (r,hs))(hn:ctr.fresh=true->new2 h L (resV rs)/\∀ i∈L,newB (h.getD i .dead))
  (he:eqA2 (exp2 h L (resV rs)) r) (hb:eqH (expH h L) hs) (hl:hs.length=L.length):RetR ctr 0 Q rs h:=
 ⟨L,hnd,λi hi=>by have:=bG.1 hlt i hi; simpa using this,by simp,hn,r,hs,q5 he,.inl hb,hl,hq⟩
theorem RetR.keep{ctr:Ctr}{m:Nat}{Q:AV×Heap->Prop}{rs:List AV}{h:Heap}{r:AV}{hs:Heap}(L:List Nat)(hnd:w9 L=true)(hlt:(L.all λi=>decide (i<h.length))=true)(hj:∀ j,j<m->L[j]?=some j)(hf:ctr.fresh=false)(hq:Q (r,hs))
  (he:eqA2 (exp2 h L (resV rs)) r) (hb:eqH (expH h L) hs) (hl:hs.length=L.length):RetR ctr m Q rs h:=
 ⟨L,hnd,λi hi=>by have:=bG.1 hlt i hi; simpa using this,hj,(λhh=>absurd hh (by rw [hf]; decide)),r,hs,q5 he,.inl hb,hl,hq⟩
end
end Go.Sx
end
section
namespace Go.Sx
variable [Stat]
section
variable {O:Nat->Prop} {pin:Nat} {w0:World} {I0:List SE} {w:World} {σ:List SE} {P:Program} {st:St} {a:Act} {fn:Func} {Xp:List PanicEntry->Prop}
theorem Jp{own:Nat->Prop}{i sz:Nat}(he:σ[i]?=some ⟨none,0⟩):∀ (cs:List AV) (j:Nat) (vs:List Value),cs[j]?=some .nils->RepL own w cs σ vs->RepL own w (cs.set j (.osl i sz 0 0)) σ vs
 | [],j,_,h,_=>by simp at h
 | b::l,0,vs,h,hr=>by
  simp only [List.getElem?_cons_zero,aE] at h;subst h;simp only [RepL] at hr;obtain⟨v,r,rfl,h1,h2⟩:=hr;simp only [Rep] at h1;simp only [List.set_cons_zero,RepL];refine⟨v,r,rfl,?_,h2⟩;rw [h1];simp only [Rep];exact⟨⟨none,0⟩,he,by simp,none,0,rfl,aJ _,.inl rfl⟩
 | b::l,j+1,vs,h,hr=>by
  simp only [List.getElem?_cons_succ] at h;simp only [RepL] at hr;obtain⟨v,r,rfl,h1,h2⟩:=hr;simp only [List.set_cons_succ,RepL];exact⟨v,r,rfl,h1,Jp he l j r h h2⟩
def Ur(st:St)(i j sz:Nat)(g:Nat->Nat->AV)(cs:List AV):St:=⟨st.tmps,st.heap.set i (.box (cs.set j (.osl st.heap.length sz 0 0)))++[.arr 0 sz g]⟩
theorem UF(hm:Mod O pin w0 I0 w σ st a){i j sz:Nat}{g:Nat->Nat->AV}{cs:List AV}(hb:st.heap[i]?=some (.box cs))(hj:cs[j]?=some .nils)(hno:st.tmps.all qg=true):Mod O pin w0 I0 w (σ++[⟨none,0⟩]) (Ur st i j sz g cs) a:=by
 obtain⟨k1,k2,k3⟩:=Ys hm.good hm.hp sz g;have hx:=ext_nil (O:=O) w σ 0;have hlt:=(aG.1 hb).1
 have hp:HRep (Own O (σ++[⟨none,0⟩])) w (σ++[⟨none,0⟩]) ((st.heap++[Blk.arr 0 sz g]).set i (Blk.box (cs.set j (.osl st.heap.length sz 0 0)))):=by
  refine WA k1 λe he=> ?_
  have h1:=k1.blk i e (.box cs) he (by rw [bL hlt]; exact hb);simp only [BRep] at h1 ⊢;obtain⟨ad,vs,el,q1,q2,q3,q4⟩:=h1;exact⟨ad,vs,el,q1,q2,q3,Jp (by rw [<- hm.hp.len]; simp) cs j vs hj q4⟩
 rw [List.set_append_left _ _ hlt] at hp;refine⟨k2,hp,by simp [Ur,hm.size],λu=> ?_,hm.df.ext hx,hm.since.trans ⟨hx,λ_ _ _=>rfl,vJ.of k3 (by simp)⟩,hm.lim⟩;have hu:=hm.tm u;show TRep _ _ _ _ (st.tmps.getD u .undef) _
 have hn:qg (st.tmps.getD u .undef)=true:=by
  by_cases hlt:u<st.tmps.length
  ·simp only [List.getD,aF hlt,Option.getD_some];exact bG.1 hno _ (bK hlt)
  ·simp only [List.getD];rw [aZ (by omega)]; rfl
 generalize st.tmps.getD u .undef=x at hu hn;cases x with
 | opt _ _ _=>simp [qg] at hn
 | _=>simp only [TRep] at hu ⊢; exact qb hx k3 _ _ (j6 _) hu
theorem zb.zix{M:Option Nat}{Hs:Nat->KV->Heap->Prop}{R:List AV->Heap->Prop}{k:List Item}{kv:KV}{h:Heap}(i j sz:Nat)(g:Nat->Nat->AV){cs:List AV}(hb:h[i]?=some (.box cs))(hj:cs[j]?=some .nils)(hno:(pk fn.ntmps kv).all qg=true)
  (H:zZ Xp M P fn O pin w0 I0 Hs R k (mk fn.ntmps kv (h.set i (.box (cs.set j (.osl h.length sz 0 0)))++[.arr 0 sz g]))):zZ Xp M P fn O pin w0 I0 Hs R k (mk fn.ntmps kv h):=
 λw σ a hm=>H w _ a (UF hm hb hj hno)
end
end Go.Sx
end
section
namespace Go.Nov
def sumS(m:Bool)(x:Nat)(n:Bool)(y:Nat):Bool×Nat:=if m=n then(m,x+y) else if y<=x then(m,x - y) else(n,y - x)
def addI(s t:L8):L8×Int:=if zr s t=0 then wr (sumS (negI s) (numI s) (negI t) (numI t)).1 (sumS (negI s) (numI s) (negI t) (numI t)).2 else([],zr s t)
def subI(s t:L8):L8×Int:=if zr s t=0 then wr (sumS (negI s) (numI s) (!negI t) (numI t)).1 (sumS (negI s) (numI s) (!negI t) (numI t)).2 else([],zr s t)
def mulI(s t:L8):L8×Int:=if zr s t=0 then wr (negI s != negI t) (numI s*numI t) else([],zr s t)
def cmpZ(m:Bool)(x:Nat)(n:Bool)(y:Nat):Int:=if m=true/\n=false then -1 else if n=true/\m=false then 1 else if m=true then cmpN y x else cmpN x y
def xU(s t:L8):Int×Int:=if zr s t=0 then(cmpZ (negI s) (numI s) (negI t) (numI t),0) else(0,zr s t)
theorem Zq{d:Nat}(h:d<10):(byt d).toNat=48+d:=by
 unfold byt;rw [UInt8.toNat_ofNat'];omega
theorem yy{x:Nat}(h:x≠0):txt x=((dec x).map byt).reverse:=aO h
theorem Z0{x:Nat}(h:x≠0):(txt x).length=(dec x).length:=by rw [yy h]; simp
theorem Us{x:Nat}(h:x≠0):allD (txt x):=by
 intro c hc;rw [yy h] at hc;simp only [List.mem_reverse,List.mem_map] at hc;obtain⟨d,hd,rfl⟩:=hc;have:d<10:=Ten.zi x d hd;rw [Zq this];omega
theorem zj3{x:Nat}(h:x≠0):dg (txt x)=dec x:=by
 rw [yy h,dg,List.map_reverse,List.reverse_reverse,List.map_map]
 conv=>rhs; rw [<- List.map_id (dec x)]
 refine List.map_congr_left λd hd=> ?_
 have:d<10:=Ten.zi x d hd;simp only [Function.comp,Zq this,id];omega
theorem zgt{x:Nat}(h:x≠0):numD (txt x)=x:=by
 rw [<- XG,zj3 h];exact Ten.zk x
theorem JI{x:Nat}(h:x≠0):(txt x).getD 0 0≠48/\(txt x).getD 0 0≠45:=by
 have hl:=WR h;have ht:=Ul hl;have hlt:=dec_lt x ((dec x).length - 1)
 have e:(txt x).getD 0 0=byt ((dec x).getD ((dec x).length - 1) 0):=by
  rw [yy h];simp only [List.getD_eq_getElem?_getD];rw [List.getElem?_reverse (by simpa using hl)];simp [aF (show(dec x).length - 1<(dec x).length by omega)]
 rw [e];have hb:=Zq hlt;constructor
 ·intro h2;rw [h2] at hb;have:(48:UInt8).toNat=48:=rfl;omega
 ·intro h2;rw [h2] at hb;have:(45:UInt8).toNat=45:=rfl;omega
theorem zbm{x:Nat}(h:x≠0):txt x≠[]:=by
 intro h2;have:=Z0 h;rw [h2] at this;have:=WR h;simp at *; omega
theorem UU{x:Nat}(h:x≠0)(neg:Bool):parse (sgn neg (txt x))=(neg,txt x):=by
 cases neg with
 | true=>rfl
 | false=>
  simp only [sgn,Bool.false_eq_true,if_false];have h1:=(JI h).2;cases ht:txt x with
  | nil=>exact absurd ht (zbm h)
  | cons c b=>
   rw [ht] at h1;have:c≠45:=h1;simp [parse,this]
theorem zda{x:Nat}(h:x≠0)(neg:Bool):jZ neg (txt x)=true:=by
 have h1:=(JI h).1
 have h2:txt x≠[48]:=by
  intro h2;rw [h2] at h1;exact h1 rfl
 have h3:=zbm h;have h4:(txt x).all isD=true:=Un.2 (Us h);simp only [List.getD_eq_getElem?_getD] at h1;simp [jZ,h3,h2,h1,h4]
theorem Za{neg:Bool}{x:Nat}(h:(wr neg x).2=0):errI (wr neg x).1=0/\numI (wr neg x).1=x/\negI (wr neg x).1=(neg&&decide (x≠0)):=by
 unfold wr at h ⊢;by_cases h0:x=0
 ·subst h0;simp only [if_true];refine⟨rfl,rfl,?_⟩;simp [negI,parse]
 ·rw [aO h0] at h ⊢;by_cases h1:1000<(dec x).length
  ·rw [aP h1] at h; cases h
  ·rw [aO h1];simp only [errI,numI,negI,UU h0,zda h0,if_true];rw [Z0 h0,aO h1];exact⟨rfl,zgt h0,by simp [h0]⟩
theorem Ya(neg:Bool)(x:Nat):(wr neg x).2=0\/wr neg x=([],14):=by
 unfold wr;split
 ·exact .inl rfl
 ·split
  ·exact .inr rfl
  ·exact .inl rfl
theorem zgj(neg:Bool)(b:L8):(sgn neg b).length<=b.length+1:=by
 unfold sgn; split<;>simp
theorem kE(neg:Bool)(x:Nat):(wr neg x).1.length<=1001:=by
 unfold wr;split
 ·simp
 ·rename_i h0;split
  ·simp
  ·rename_i h1;have:=zgj neg (txt x);rw [Z0 h0] at this;simp only;omega
theorem zcj(s t:L8):(addI s t).1.length<=1001:=by
 unfold addI;split
 ·exact kE _ _
 ·simp
theorem zcb(s t:L8):(subI s t).1.length<=1001:=by
 unfold subI;split
 ·exact kE _ _
 ·simp
theorem zf6(s t:L8):(mulI s t).1.length<=1001:=by
 unfold mulI;split
 ·exact kE _ _
 ·simp
theorem YH(b:Bool)(x:Nat):wr (b&&decide (0<x)) x=wr b x:=by
 unfold wr;by_cases h:x=0
 ·rw [aP h,aP h]
 ·rw [aO h,aO h];have:decide (0<x)=true:=aX (bV h);rw [this,Bool.and_true]
theorem J4(m:Bool)(x:Nat)(n:Bool):sumS m x n 0=(m,x):=by
 unfold sumS;split
 ·rfl
 ·simp
theorem UQ(m:Bool)(x:Nat)(n:Bool)(y:Nat):sumS m x (n&&decide (0<y)) y=sumS m x n y:=by
 by_cases h:y=0
 ·subst h; rw [J4,J4]
 ·have:decide (0<y)=true:=aX (bV h);rw [this,Bool.and_true]
theorem YA(m:Bool)(x:Nat)(n:Bool)(y:Nat):(sumS m x n y).2<=x+y:=by
 unfold sumS;split
 ·exact aJ _
 ·split
  ·simp only; omega
  ·simp only; omega
end Go.Nov
end
section
namespace Go.Nov
def YW(neg:Bool)(x y:Nat):L8:=
 if y/Nat.gcd x y=1 then(wr neg (x/Nat.gcd x y)).1 else(wr neg (x/Nat.gcd x y)).1++[47]++(wr false (y/Nat.gcd x y)).1
def jO(n d:L8):L8×Int:=if zr n d≠0 then([],zr n d) else if numI d=0 then([],16) else(YW (negI n != negI d) (numI n) (numI d),0)
def qA(a b:L8):Int:=if errR a=0 then errR b else errR a
def numR(a:L8):L8:=(cutR a).1
def denR(a:L8):L8:=if(cutR a).2.2 then(cutR a).2.1 else [49]
def frac(z w:L8×Int):L8×Int:=if z.2≠0\/w.2≠0 then([],14) else jO z.1 w.1
def z8(a b:L8):Int:=if qA a b≠0 then qA a b else if(mulI (numR a) (denR b)).2≠0\/(mulI (numR b) (denR a)).2≠0 then 14 else 0
def addR(a b:L8):L8×Int:=if z8 a b≠0 then([],z8 a b) else frac (addI (mulI (numR a) (denR b)).1 (mulI (numR b) (denR a)).1) (mulI (denR a) (denR b))
def subR(a b:L8):L8×Int:=if z8 a b≠0 then([],z8 a b) else frac (subI (mulI (numR a) (denR b)).1 (mulI (numR b) (denR a)).1) (mulI (denR a) (denR b))
def mulR(a b:L8):L8×Int:=if qA a b≠0 then([],qA a b) else frac (mulI (numR a) (numR b)) (mulI (denR a) (denR b))
def divR(a b:L8):L8×Int:=if qA a b≠0 then([],qA a b) else if numR b=[48] then([],16) else frac (mulI (numR a) (denR b)) (mulI (denR a) (numR b))
def cmpR(a b:L8):Int×Int:=if z8 a b≠0 then(0,z8 a b) else xU (mulI (numR a) (denR b)).1 (mulI (numR b) (denR a)).1
end Go.Nov
namespace Go.Nov
def dmQ(s t:L8):Nat:=if negI s=true/\0<numI s%numI t then numI s/numI t+1 else numI s/numI t
def dmM(s t:L8):Nat:=if negI s=true/\0<numI s%numI t then numI t - numI s%numI t else numI s%numI t
def dmI(s t:L8):L8×L8×Int:=
 if zr s t≠0 then([],[],zr s t) else if numI t=0 then([],[],16) else((wr (negI s != negI t) (dmQ s t)).1,(wr false (dmM s t)).1,0)
theorem zft{s:L8}(h:errI s=0):∃ k,k<=1000/\numI s<10^k:=by
 obtain⟨_,h1,_,h2⟩:=ZK h;exact⟨_,h2,y9 h1⟩
def room(x:Nat):Prop:=(dec x).length<=1000
theorem room_le{x y:Nat}(h:x<=y)(hy:room y):room x:=by
 rcases aR (dec y).length (dec x).length with h1 | h1
 ·have:=Ten.zU h1;omega
 ·exact bP h1 hy
theorem j5{s:L8}(h:errI s=0):room (numI s):=by
 obtain⟨k,h1,h2⟩:=zft h;exact bP (Z5 h2) h1
theorem vS{neg:Bool}{x:Nat}(h:room x):(wr neg x).2=0:=by
 unfold wr;split
 ·rfl
 ·rw [aO (by have:(dec x).length<=1000:=h; omega)]
theorem zct{s t:L8}(hs:errI s=0)(ht:numI t≠0):room (dmQ s t):=by
 have h:=j5 hs;unfold dmQ;split
 ·rename_i hc;by_cases h1:numI t=1
  ·rw [h1,Nat.mod_one] at hc; omega
  ·refine room_le ?_ h;have h2:numI s/numI t<=numI s/2:=Nat.div_le_div_left (by omega) (by omega);have h3:numI s≠0:=λh0=>by rw [h0,Nat.zero_mod] at hc; omega
   by_cases h4:numI s=1
   ·have:numI s/numI t=0:=Nat.div_eq_of_lt (by omega);omega
   ·omega
 ·exact room_le (Nat.div_le_self _ _) h
theorem zel{s t:L8}(ht:errI t=0)(h0:numI t≠0):room (dmM s t):=by
 have h:=j5 ht;have hm:=Nat.mod_lt (numI s) (bV h0);unfold dmM;split
 ·exact room_le (Nat.sub_le _ _) h
 ·exact room_le (by omega) h
end Go.Nov
namespace Go.Nov
theorem kx:wr false 1=([49],0):=by
 have h:dec 1=[1]:=by
  show Ten.canon 1=[1];rw [Ten.qN (by decide)];exact congrArg (1 :: ·) Ten.zE
 simp [wr,h,txt,sgn,byt]
theorem XQ{x:Nat}(h:room x):(wr false x).1=[49]↔x=1:=by
 constructor
 ·intro e;have:=(Za (vS (neg:=false) h)).2.1;rw [e] at this;exact this.symm
 ·rintro rfl;rw [kx]
theorem zcw{x:Nat}(h0:x≠0)(h:room x):[45]++(wr false x).1=(wr true x).1:=by
 unfold wr;rw [aO h0,aO h0,aO (by have:(dec x).length<=1000:=h; omega),aO (by have:(dec x).length<=1000:=h; omega)];rfl
theorem kb{t:L8}(h:errI t=0):t=[48]↔numI t=0:=by
 constructor
 ·rintro rfl; rfl
 ·intro h0;obtain⟨neg,b,h1,h2,h3,h4,h5,h6⟩:=WM h;have hb:numD b=0:=by simpa [numI,h2] using h0
  cases b with
  | nil=>exact absurd rfl h5
  | cons c r=>
   have hc:=h4 c (by simp)
   have e:numD (c::r)=(c.toNat - 48)*10^r.length+numD r:=by
    have:=vL [c] r;simp only [List.singleton_append] at this;rw [this];simp [numD]
   rw [e] at hb
   have hc0:c.toNat=48:=by
    rcases bC (c.toNat - 48) with h7 | h7
    ·omega
    ·have:=Nat.mul_pos h7 (Nat.pow_pos (n:=r.length) (show 0<10 by decide));omega
   have hc1:c=48:=UInt8.toNat_inj.1 (by rw [hc0]; rfl);subst hc1
   have hr:r=[]:=by
    cases r with
    | nil=>rfl
    | cons d r=>
     have:=kD (neg:=neg) (b:=48::d::r) rfl (by simp);rw [this] at h3; cases h3
   subst hr;cases neg with
   | true=>cases h3
   | false=>simpa [sgn] using h1
theorem VM{s:L8}{b:Bool}{g:Nat}(hs:errI s=0)(h0:g≠0)(hg:room g)(hd:g ∣ numI s):dmI s (wr b g).1=((wr (negI s != b) (numI s/g)).1,[48],0):=by
 obtain⟨h1,h2,h3⟩:=Za (vS (neg:=b) hg);have hb:negI (wr b g).1=b:=by rw [h3]; simp [h0]
 have he:zr s (wr b g).1=0:=zl.2 ⟨hs,h1⟩;have hm:numI s%g=0:=Nat.mod_eq_zero_of_dvd hd;unfold dmI;rw [aO (by rw [he]; decide),h2,aO h0,hb]
 have hq:dmQ s (wr b g).1=numI s/g:=by
  unfold dmQ;rw [h2,hm,aO (by omega)]
 have hr:dmM s (wr b g).1=0:=by
  unfold dmM;rw [h2,hm,aO (by omega)]
 rw [hq,hr];rfl
theorem Ku{s t:L8}(ht:errI t=0)(h0:numI t≠0):Nat.gcd (numI s) (numI t)≠0/\room (Nat.gcd (numI s) (numI t)):=by
 have hp:=bV h0;refine⟨λh=> ?_,room_le (Nat.le_of_dvd hp (Nat.gcd_dvd_right _ _)) (j5 ht)⟩;have:=Nat.eq_zero_of_gcd_eq_zero_right h;exact h0 this
end Go.Nov
namespace Go.Nov
theorem zc5:errI [49]=0:=rfl
theorem qo{a:L8}(h:errR a=0):errI (numR a)=0/\errI (denR a)=0/\negI (denR a)=false/\numI (denR a)≠0:=by
 unfold errR at h;unfold numR denR;cases hc:(cutR a).2.2 with
 | true=>
  rw [hc] at h;simp only [if_true] at h ⊢;split at h
  ·cases h
  ·rename_i h1;simp only [not_or] at h1;split at h
   ·cases h
   ·rename_i h2;simp only [not_or,Classical.not_not] at h2;refine⟨h2.1,h2.2,by simpa using h1.2.2.1,λh0=> ?_⟩;exact h1.2.2.2.1 ((kb h2.2).2 h0)
 | false=>
  rw [hc] at h;simp only [Bool.false_eq_true,if_false] at h ⊢
  have:(cutR a).1=a:=by
   unfold cutR at hc ⊢;split at hc
   ·cases hc
   ·rename_i hn; rw [aO hn]
  rw [this];exact⟨h,zc5,rfl,by decide⟩
theorem VY(a:L8):(numR a).length<=a.length:=(WN a).1
theorem VT(a:L8):(denR a).length<=a.length+1:=by
 unfold denR;split
 ·exact bP (WN a).2 (Nat.le_succ _)
 ·simp
theorem vF{s t:L8}(h:zr s t=0):(mulI s t).2=0/\errI (mulI s t).1=0\/mulI s t=([],14):=by
 unfold mulI;rw [aP h];exact(Ya _ _).imp (λh=>⟨h,(Za h).1⟩) id
theorem zbg{s t:L8}(h:zr s t=0):(addI s t).2=0/\errI (addI s t).1=0\/addI s t=([],14):=by
 unfold addI;rw [aP h];exact(Ya _ _).imp (λh=>⟨h,(Za h).1⟩) id
theorem zfq{s t:L8}(h:zr s t=0):(subI s t).2=0/\errI (subI s t).1=0\/subI s t=([],14):=by
 unfold subI;rw [aP h];exact(Ya _ _).imp (λh=>⟨h,(Za h).1⟩) id
end Go.Nov
namespace Go.Nov
def stp(e:Int)(f:L8->L8->L8×Int)(x y:L8):L8×Int:=if e≠0 then([],e) else f x y
theorem zhg{e:Int}{f:L8->L8->L8×Int}{x y:L8}(h:(f x y).1.length<=1001):(stp e f x y).1.length<=1001:=by
 unfold stp;split
 ·simp
 ·exact h
theorem qh{e:Int}(h:e≠0)(f:L8->L8->L8×Int)(x y:L8):stp e f x y=([],e):=aP h
theorem wC(f:L8->L8->L8×Int)(x y:L8):stp 0 f x y=f x y:=aO (by simp)
def Qz(f:L8->L8->L8×Int)(a b:L8):L8×Int:=
 if z8 a b≠0 then([],z8 a b) else frac (f (mulI (numR a) (denR b)).1 (mulI (numR b) (denR a)).1) (mulI (denR a) (denR b))
section
variable {a b n m d c:L8} {e:Int} (hp:(e≠0/\qA a b=e)\/(e=0/\errR a=0/\errR b=0/\n=numR a/\m=numR b/\d=denR a/\c=denR b))
include hp
theorem Zf{f:L8->L8->L8×Int}(hf:∀ {s t:L8},zr s t=0->(f s t).2=0/\errI (f s t).1=0\/f s t=([],14)){r1 r2 r3 r4 r5:L8×Int}
  (h1:r1=stp e mulI n c) (h2:r2=stp r1.2 mulI m d) (h3:r3=stp r2.2 f r1.1 r2.1) (h4:r4=stp r3.2 mulI d c) (h5:r5=stp r4.2 jO r3.1 r4.1):r5=Qz f a b:=by
 rcases hp with ⟨he,h2e⟩ | ⟨rfl,ha,hb,rfl,rfl,rfl,rfl⟩
 ·have hc:z8 a b=e:=by unfold z8; rw [aP (by rw [h2e]; exact he)]; exact h2e
  unfold Qz;rw [hc,aP he];rw [qh he] at h1;subst h1;rw [qh he] at h2;subst h2;rw [qh he] at h3;subst h3;rw [qh he] at h4;subst h4;rw [h5,qh he]
 ·obtain⟨a1,a2,_⟩:=qo ha;obtain⟨b1,b2,_⟩:=qo hb;have he2:qA a b=0:=by unfold qA; rw [aP ha]; exact hb
  have e14:(14:Int)≠0:=by decide
  rw [wC] at h1;have hc:z8 a b=if(mulI (numR a) (denR b)).2≠0\/(mulI (numR b) (denR a)).2≠0 then 14 else 0:=by unfold z8; rw [aO (by rw [he2]; simp)]
  rcases vF (zl.2 ⟨a1,b2⟩) with ⟨g1,k1⟩ | g1
  ·rw [<- h1] at g1 k1;rw [g1,wC] at h2;rcases vF (zl.2 ⟨b1,a2⟩) with ⟨g2,k2⟩ | g2
   ·rw [<- h2] at g2 k2;rw [g2,wC] at h3;have hc0:z8 a b=0:=by rw [hc,aO]; rw [<- h1,<- h2,g1,g2]; simp
    unfold Qz;rw [hc0,aO (by simp),<- h1,<- h2,<- h3];rcases hf (zl.2 ⟨k1,k2⟩) with ⟨g3,k3⟩ | g3
    ·rw [<- h3] at g3 k3;rw [g3,wC] at h4;unfold frac;rw [<- h4,h5];rcases vF (zl.2 ⟨a2,b2⟩) with ⟨g4,k4⟩ | g4
     ·rw [<- h4] at g4;rw [g3,g4,aO (by simp),wC]
     ·rw [<- h4] at g4;rw [g4,aP (by simp),qh e14]
    ·rw [<- h3] at g3;have q4:r4=([],14):=by rw [h4,g3]; exact qh e14 _ _ _
     unfold frac;rw [aP (by rw [g3]; simp),h5,q4,qh e14]
   ·rw [<- h2] at g2;have hc0:z8 a b=14:=by rw [hc,aP]; rw [<- h2,g2]; simp
    unfold Qz;rw [hc0,aP e14];have q3:r3=([],14):=by rw [h3,g2]; exact qh e14 _ _ _
    have q4:r4=([],14):=by rw [h4,q3]; exact qh e14 _ _ _
    rw [h5,q4,qh e14]
  ·rw [<- h1] at g1;have hc0:z8 a b=14:=by rw [hc,aP]; rw [<- h1,g1]; simp
   unfold Qz;rw [hc0,aP e14];have q2:r2=([],14):=by rw [h2,g1]; exact qh e14 _ _ _
   have q3:r3=([],14):=by rw [h3,q2]; exact qh e14 _ _ _
   have q4:r4=([],14):=by rw [h4,q3]; exact qh e14 _ _ _
   rw [h5,q4,qh e14]
theorem Wb{x y z w:L8}{r1 r2 r3:L8×Int}(h1:r1=stp e mulI x y)(h2:r2=stp r1.2 mulI z w)(h3:r3=stp r2.2 jO r1.1 r2.1)
  (hv:errR a=0->errR b=0->zr x y=0/\zr z w=0):r3=if qA a b≠0 then([],qA a b) else frac (mulI x y) (mulI z w):=by
 rcases hp with ⟨he,h2e⟩ | ⟨rfl,ha,hb,_⟩
 ·rw [h2e,aP he];rw [qh he] at h1;subst h1;rw [qh he] at h2;subst h2;rw [h3,qh he]
 ·obtain⟨v1,v2⟩:=hv ha hb;have he2:qA a b=0:=by unfold qA; rw [aP ha]; exact hb
  have e14:(14:Int)≠0:=by decide
  rw [he2,aO (by simp)];rw [wC] at h1;unfold frac;rcases vF v1 with ⟨g1,_⟩ | g1
  ·rw [<- h1] at g1 ⊢;rw [g1,wC] at h2;rcases vF v2 with ⟨g2,_⟩ | g2
   ·rw [<- h2] at g2 ⊢;rw [g1,g2,aO (by simp),h3,g2,wC]
   ·rw [<- h2] at g2 ⊢;rw [g2,aP (by simp),h3,g2,qh e14]
  ·rw [<- h1] at g1 ⊢;have q2:r2=([],14):=by rw [h2,g1]; exact qh e14 _ _ _
   rw [g1,aP (by simp),h3,q2,qh e14]
theorem za5{r1 r2:L8×Int}(h1:r1=stp e mulI n c)(h2:r2=stp r1.2 mulI m d):(if r2.2≠0 then(0,r2.2) else xU r1.1 r2.1)=cmpR a b:=by
 unfold cmpR;rcases hp with ⟨he,h2e⟩ | ⟨rfl,ha,hb,rfl,rfl,rfl,rfl⟩
 ·have hc:z8 a b=e:=by unfold z8; rw [aP (by rw [h2e]; exact he)]; exact h2e
  rw [qh he] at h1;subst h1;rw [qh he] at h2;subst h2;rw [hc,aP he,aP he]
 ·obtain⟨a1,a2,_⟩:=qo ha;obtain⟨b1,b2,_⟩:=qo hb;have he2:qA a b=0:=by unfold qA; rw [aP ha]; exact hb
  have e14:(14:Int)≠0:=by decide
  have hc:z8 a b=if(mulI (numR a) (denR b)).2≠0\/(mulI (numR b) (denR a)).2≠0 then 14 else 0:=by unfold z8; rw [aO (by rw [he2]; simp)]
  rw [wC] at h1;rcases vF (zl.2 ⟨a1,b2⟩) with ⟨g1,k1⟩ | g1
  ·rw [<- h1] at g1;rw [g1,wC] at h2;rcases vF (zl.2 ⟨b1,a2⟩) with ⟨g2,k2⟩ | g2
   ·rw [<- h2] at g2;have hc0:z8 a b=0:=by rw [hc,aO]; rw [<- h1,<- h2,g1,g2]; simp
    rw [hc0,aO (by rw [g2]; simp),aO (by simp),<- h1,<- h2]
   ·rw [<- h2] at g2;have hc0:z8 a b=14:=by rw [hc,aP]; rw [<- h2,g2]; simp
    rw [hc0,g2,aP e14,aP e14]
  ·rw [<- h1] at g1;have hc0:z8 a b=14:=by rw [hc,aP]; rw [<- h1,g1]; simp
   have q2:r2=([],14):=by rw [h2,g1]; exact qh e14 _ _ _
   rw [hc0,q2,aP e14,aP e14]
end
end Go.Nov
end
section
namespace Go.Nov
open Go.Sx
def cmpS(s t:L8):Int:=if Op.bytesLess s t then -1 else if s=t then 0 else 1
def cmpI(x y:Int):Int:=if x<y then -1 else if y<x then 1 else 0
def orI:List Int->Int
 | []=>0
 | x::l=>if x=0 then orI l else x
structure Fx where
 name:L8
 date:Int
 value:L8
structure Ch where
 qU:L8
 name:L8
 date:Int
 first:Bool
abbrev Fx.nil:Fx:=⟨[],0,[]⟩
abbrev Ch.nil:Ch:=⟨[],[],0,false⟩
def Fx.cell(f:Fx):Nat->AV
 | 0=>.str f.name
 | 1=>.i f.date
 | 2=>.str f.value
 | _=>.undef
def Ch.cell(c:Ch):Nat->AV
 | 0=>.str c.qU
 | 1=>.str c.name
 | 2=>.i c.date
 | 3=>.bool c.first
 | _=>.undef
def fxG(l:List Fx):Nat->Nat->AV:=λj=>(l.getD j Fx.nil).cell
def chG(l:List Ch):Nat->Nat->AV:=λj=>(l.getD j Ch.nil).cell
def Fx.av(f:Fx):AV:=.agg [.str f.name,.i f.date,.str f.value]
def Ch.av(c:Ch):AV:=.agg [.str c.qU,.str c.name,.i c.date,.bool c.first]
def fxS(l:List Fx):AV:=.sl l.length 3 (fxG l)
def chS(l:List Ch):AV:=.sl l.length 4 (chG l)
def envA(f:List Fx)(c:List Ch):AV:=.agg [fxS f,chS c]
def cmpF(a b:Fx):Int:=if cmpS a.name b.name=0 then cmpI a.date b.date else cmpS a.name b.name
def cmpC(a b:Ch):Int:=if cmpS a.qU b.qU=0 then(if cmpS a.name b.name=0 then cmpI a.date b.date else cmpS a.name b.name) else cmpS a.qU b.qU
end Go.Nov
namespace Go.Nov
def okF(f:Fx):Bool:=wR f.name&&dayB f.date&&decide (errR f.value=0)
def okC(c:Ch):Bool:=wR c.qU&&wR c.name&&dayB c.date
def idxB{α:Type}(p:α->Bool)(l:List α):Int:=if l.findIdx p<l.length then(l.findIdx p:Int) else -1
theorem Ke{α:Type}(p:α->Bool)(l:List α):decide (0<=idxB p l)=l.any p:=by
 unfold idxB;by_cases h:l.findIdx p<l.length
 ·rw [aP h]
  have:l.any p=true:=by
   rw [List.any_eq_true];exact⟨_,bK h,List.findIdx_getElem (w:=h)⟩
  rw [this]; simp
 ·rw [aO h]
  have:l.any p=false:=by
   rw [List.any_eq_false];intro x hx hpx;exact h (List.findIdx_lt_length_of_exists ⟨x,hx,hpx⟩)
  rw [this]; rfl
theorem WZ{α:Type}{p:α->Bool}{l:List α}{z:α}{i:Nat}(hi:i<l.length)(h:p (l.getD i z)=true)(hb:∀ j,j<i->p (l.getD j z)=false):idxB p l=i:=by
 have hlt:l.findIdx p<l.length:=List.findIdx_lt_length_of_exists ⟨l[i],bK hi,by simpa [List.getD,hi] using h⟩
 have e:l.findIdx p=i:=by
  rcases Nat.lt_trichotomy (l.findIdx p) i with h1 | h1 | h1
  ·have h2:=List.findIdx_getElem (w:=hlt);have h3:=hb _ h1;simp only [List.getD,aF hlt,Option.getD_some] at h3;rw [h2] at h3; cases h3
  ·exact h1
  ·have h2:=List.not_of_lt_findIdx h1;simp only [List.getD,aF hi,Option.getD_some] at h;exact absurd h (by simpa using h2)
 unfold idxB;rw [aP hlt,e]
theorem uF{α:Type}{p:α->Bool}{l:List α}{z:α}(hb:∀ j,j<l.length->p (l.getD j z)=false):idxB p l = -1:=by
 unfold idxB;rw [aO];intro h;have h2:=List.findIdx_getElem (w:=h);have h3:=hb _ h;simp only [List.getD,aF h,Option.getD_some] at h3;rw [h2] at h3; cases h3
end Go.Nov
namespace Go.Nov
def ordB{α:Type}(c:α->α->Int)(z:α)(l:List α):Bool:=(List.range (l.length - 1)).all λi=>decide (c (l.getD i z) (l.getD (i+1) z)<0)
theorem VB{α:Type}{c:α->α->Int}{z:α}{l:List α}(h:∀ j,j+1<l.length->c (l.getD j z) (l.getD (j+1) z)<0):ordB c z l=true:=by
 simp only [ordB,bG,List.mem_range,aK];exactλj hj=>h j (by omega)
theorem Vl{α:Type}{c:α->α->Int}{z:α}{l:List α}{j:Nat}(hj:j+1<l.length)(h:¬ c (l.getD j z) (l.getD (j+1) z)<0):ordB c z l=false:=by
 simp only [ordB,List.all_eq_false,List.mem_range];exact⟨j,by omega,by simpa using h⟩
def errE(f:List Fx)(c:List Ch):Int:=if 1000<f.length\/1000<c.length then 4 else if(f.all okF&&c.all okC&&ordB cmpF Fx.nil f&&ordB cmpC Ch.nil c)=true then 0 else 8
end Go.Nov
namespace Go.Nov
end Go.Nov
namespace Go.Nov
end Go.Nov
end
section
namespace Go.Nov
open Go.Sx
theorem zbv:∀ s:L8,Op.bytesLess s s=false
 | []=>rfl
 | a::s=>by simp [Op.bytesLess,zbv s]
theorem YE{s t:L8} : cmpS s t=0↔s=t:=by
 unfold cmpS;cases hb:Op.bytesLess s t with
 | true=>
  simp only [if_true];refine⟨λh=>by omega,λh=> ?_⟩;subst h; rw [zbv] at hb; cases hb
 | false=>by_cases h:s=t<;>simp [h]
theorem zgs{x y:Int} : cmpI x y=0↔x=y:=by
 unfold cmpI;split
 ·exact⟨λh=>by omega,λh=>by omega⟩
 ·split
  ·exact⟨λh=>by omega,λh=>by omega⟩
  ·exact⟨λ_=>by omega,λ_=>rfl⟩
theorem zfz{a b:Fx} : cmpF a b=0↔a.name=b.name/\a.date=b.date:=by
 unfold cmpF;by_cases h:cmpS a.name b.name=0
 ·rw [aP h,zgs]; exact⟨λh2=>⟨YE.1 h,h2⟩,λh2=>h2.2⟩
 ·rw [aO h]; exact⟨λh2=>absurd h2 h,λh2=>absurd (YE.2 h2.1) h⟩
section
variable {α:Type} {c:α->α->Int} {z x:α}
end
theorem uS{f:List Fx}{c:List Ch} : errE f c=0↔¬ (1000<f.length\/1000<c.length)/\f.all okF=true/\c.all okC=true/\ordB cmpF Fx.nil f=true/\ordB cmpC Ch.nil c=true:=by
 unfold errE;by_cases hb:1000<f.length\/1000<c.length
 ·rw [aP hb]; simp [hb]
 ·rw [aO hb];by_cases h:(f.all okF&&c.all okC&&ordB cmpF Fx.nil f&&ordB cmpC Ch.nil c)=true
  ·rw [aP h];simp only [bA] at h;exact⟨λ_=>⟨hb,h.1.1.1,h.1.1.2,h.1.2,h.2⟩,λ_=>rfl⟩
  ·rw [aO h];refine⟨λh2=>by omega,λh2=>absurd ?_ h⟩;simp [h2.2.1,h2.2.2.1,h2.2.2.2.1,h2.2.2.2.2]
def qk(l:List Fx)(a:L8)(d:Int):L8×Bool:=match l.find? λx=>decide (x.name=a)&&decide (x.date=d) with
 | some x=>(x.value,true)
 | none=>([],false)
theorem zhm{α:Type}{p:α->Bool}{l:List α}{z:α}{i:Nat}(hi:i<l.length)(h:p (l.getD i z)=true)(hb:∀ j,j<i->p (l.getD j z)=false):l.find? p=some (l.getD i z):=by
 induction l generalizing i with
 | nil=>simp at hi
 | cons a l ih=>
  cases i with
  | zero=>simp only [List.getD_cons_zero] at h ⊢; simp [h]
  | succ i=>
   have h0:=hb 0 (by omega);simp only [List.getD_cons_zero,List.getD_cons_succ] at h h0 ⊢;rw [List.find?_cons,h0];exact ih (by simpa using hi) h λj hj=>by have:=hb (j+1) (by omega); simpa using this
end Go.Nov
end
section
namespace Go.Nov
theorem zje{b:L8}(h:allD b)(hn:b≠[])(hz:b.getD 0 0≠48):numD b≠0/\txt (numD b)=b:=by
 have hd:=zj5 h;have hl:0<b.length:=List.length_pos_iff.2 hn
 have htl:Ten.tlen (dg b)=(dg b).length:=by
  rcases aR (Ten.tlen (dg b)) (dg b).length with h1 | h1
  ·exfalso;have h2:=Ten.jF (dg b) ((dg b).length - 1) (by omega);rw [XW] at h2
   have e:(dg b).getD (b.length - 1) 0=(b.getD 0 0).toNat - 48:=by
    simp only [dg,List.getD_eq_getElem?_getD];rw [List.getElem?_reverse (by simp; omega)];simp [aF hl,show b.length - 1 - (b.length - 1)=0 by omega]
   rw [e] at h2
   have h3:48<=(b.getD 0 0).toNat:=by
    cases b with
    | nil=>exact absurd rfl hn
    | cons c r=>exact(h c (by simp)).1
   apply hz;apply UInt8.toNat_inj.1;show _=48;omega
  ·exact Nat.le_antisymm (Ten.qj _) h1
 have hc:dec (numD b)=dg b:=by
  rw [<- XG];exact Ten.JJ hd htl
 have h0:numD b≠0:=by
  intro h0;rw [h0] at hc;have:dg b=[]:=by rw [<- hc]; exact Ten.zE
  have:=congrArg List.length this;rw [XW,List.length_nil] at this;omega
 refine⟨h0,?_⟩;rw [yy h0,hc,dg,<- List.map_reverse,List.reverse_reverse,List.map_map]
 conv=>rhs; rw [<- List.map_id b]
 refine List.map_congr_left λc hcm=> ?_
 obtain⟨h1,h2⟩:=h c hcm;apply UInt8.toNat_inj.1;simp only [Function.comp,id];rw [Zq (by omega)];omega
theorem Yz{s:L8}(h:errI s=0):wr (negI s) (numI s)=(s,0):=by
 obtain⟨neg,b,h1,h2,h3,h4,h5,h6⟩:=WM h;have e1:negI s=neg:=by simp [negI,h2]
 have e2:numI s=numD b:=by simp [numI,h2]
 rw [e1,e2];by_cases hz:b.getD 0 0=48
 ·have hb:b=[48]:=by
   cases b with
   | nil=>exact absurd rfl h5
   | cons c r=>
    cases r with
    | nil=>have:c=48:=hz; rw [this]
    | cons d r=>rw [kD hz (by simp)] at h3; cases h3
  subst hb;cases neg with
  | true=>cases h3
  | false=>rw [h1]; rfl
 ·obtain⟨g1,g2⟩:=zje h4 h5 hz;unfold wr;rw [aO g1,g2,aO,h1];have:=Z0 g1;rw [g2] at this;omega
def zI(s:L8):Int:=if negI s then -(numI s:Int) else numI s
theorem jV(s:L8):(zI s).natAbs=numI s:=by unfold zI; split<;>simp
theorem Vk{s:L8}(h:errI s=0):negI s=decide (zI s<0):=by
 unfold zI;cases hn:negI s with
 | false=>simp
 | true=>
  simp only [if_true]
  have:numI s≠0:=by
   intro h0;have:=(kb h).2 h0;rw [this] at hn;cases hn
  exact(aX (by omega)).symm
def wz(z:Int):L8×Int:=wr (decide (z<0)) z.natAbs
theorem Ua{s:L8}(h:errI s=0):wz (zI s)=(s,0):=by
 unfold wz;rw [jV,<- Vk h,Yz h]
theorem zkp{neg:Bool}{x:Nat}(h:(wr neg x).2=0):zI (wr neg x).1=if neg then -(x:Int) else x:=by
 obtain⟨h1,h2,h3⟩:=Za h;unfold zI;rw [h2,h3];by_cases h0:x=0
 ·subst h0; simp
 ·cases neg<;>simp [h0]
theorem kR{z:Int}(h:(wz z).2=0):zI (wz z).1=z:=by
 unfold wz at h ⊢;rw [zkp h];by_cases hz:z<0
 ·rw [aX hz]; simp only [if_true]; omega
 ·rw [aW hz]; simp only [Bool.false_eq_true,if_false]; omega
theorem vK{z:Int}(h:(wz z).2=0):errI (wz z).1=0:=(Za h).1
theorem Kg{neg:Bool}{x:Nat} : wr neg x=wz (if neg then -(x:Int) else x):=by
 unfold wz;by_cases h0:x=0
 ·subst h0;cases neg<;>rfl
 ·cases neg with
  | false=>simp only [Bool.false_eq_true,if_false,Int.natAbs_natCast]; rw [aW (by omega)]
  | true=>simp only [if_true,Int.natAbs_neg,Int.natAbs_natCast]; rw [aX (by omega)]
theorem zci(m:Bool)(x:Nat)(n:Bool)(y:Nat):(if(sumS m x n y).1 then -((sumS m x n y).2:Int) else(sumS m x n y).2)=(if m then -(x:Int) else x)+(if n then -(y:Int) else y):=by
 unfold sumS;by_cases h:m=n
 ·subst h;rw [aP rfl];cases m<;>simp<;>omega
 ·rw [aO h];by_cases h2:y<=x
  ·rw [aP h2];cases m<;>cases n<;>first | exact absurd rfl h | (simp; omega)
  ·rw [aO h2];cases m<;>cases n<;>first | exact absurd rfl h | (simp; omega)
theorem zki{s t:L8}(h:zr s t=0):addI s t=wz (zI s+zI t):=by
 unfold addI;rw [aP h,Kg,zci]; rfl
theorem zkg{s t:L8}(h:zr s t=0):subI s t=wz (zI s - zI t):=by
 unfold subI;rw [aP h,Kg,zci];congr 1;unfold zI;cases negI s<;>cases negI t<;>simp<;>omega
theorem xo{s t:L8}(h:zr s t=0):mulI s t=wz (zI s*zI t):=by
 unfold mulI;rw [aP h,Kg];congr 1;unfold zI;cases negI s<;>cases negI t<;>simp [Int.neg_mul,Int.mul_neg]
theorem zjk(m:Bool)(x:Nat)(n:Bool)(y:Nat)(hm:m=true->x≠0)(hn:n=true->y≠0):cmpZ m x n y=cmpI (if m then -(x:Int) else x) (if n then -(y:Int) else y):=by
 unfold cmpZ cmpI cmpN;cases m<;>cases n
 ·simp only [Bool.false_eq_true,false_and,if_false]
  repeat' split
  all_goals first | rfl | omega
 ·have:=hn rfl;simp only [Bool.false_eq_true,false_and,if_false,true_and,and_self,if_true]
  repeat' split
  all_goals first | rfl | omega
 ·have:=hm rfl;simp only [and_self,if_true,Bool.false_eq_true,if_false]
  repeat' split
  all_goals first | rfl | omega
 ·simp only [Bool.true_eq_false,and_false,if_false,if_true]
  repeat' split
  all_goals first | rfl | omega
def qv(a:L8):Rat:=Rat.divInt (zI (numR a)) (zI (denR a))
def qstr(r:Rat):L8:=if r.den=1 then(wz r.num).1 else(wz r.num).1++[47]++(wz r.den).1
def kT(r:Rat):Prop:=room r.num.natAbs/\room r.den
theorem zec(neg:Bool)(x:Nat):∀ c∈(wr neg x).1,c≠47:=by
 intro c hc h;subst h;unfold wr at hc;split at hc
 ·simp at hc
 ·rename_i h0;split at hc
  ·simp at hc
  ·have ht:¬ (47:UInt8)∈txt x:=λhm=>by
    have:=(Us h0 _ hm).1;have e:(47:UInt8).toNat=47:=rfl;omega
   cases neg<;>simp [sgn] at hc<;>exact ht hc
theorem zdd{u v:L8}(h:∀ c∈u,c≠47):cutR (u++[47]++v)=(u,v,true):=by
 have hs:zB (u++[47]++v)=u.length:=by
  refine zbh (by simp) (by simp [List.getD]) λj hj=> ?_
  rw [List.append_assoc];simp only [List.getD,bL hj,aF hj,Option.getD_some];exact h _ (bK hj)
 rw [Yv (by rw [hs]; simp),hs];simp
theorem za2{u:L8}(h:∀ c∈u,c≠47):cutR u=(u,[],false):=by
 have hs:zB u=u.length:=XF λj hj=>by
  simp only [List.getD,aF hj,Option.getD_some];exact h _ (bK hj)
 exact zb8 (by omega)
theorem Kt(z:Int):∀ c∈(wz z).1,c≠47:=zec _ _
theorem xB{z:Int}(h:room z.natAbs):(wz z).2=0:=vS h
theorem zk2:wz 1=([49],0):=kx
theorem Z7{r:Rat}(h:kT r):numR (qstr r)=(wz r.num).1/\denR (qstr r)=(wz (r.den:Int)).1/\(cutR (qstr r)).2.2=decide (r.den≠1):=by
 unfold qstr;by_cases h1:r.den=1
 ·rw [aP h1];have:=za2 (Kt r.num);unfold numR denR;rw [this,h1];exact⟨rfl,by simp only [Bool.false_eq_true,if_false]; exact(congrArg Prod.fst zk2).symm,by simp⟩
 ·rw [aO h1];have:=zdd (v:=(wz (r.den:Int)).1) (Kt r.num);unfold numR denR;rw [this];exact⟨rfl,rfl,by simp [h1]⟩
theorem Zu{r:Rat}(h:kT r):qv (qstr r)=r:=by
 obtain⟨h1,h2,_⟩:=Z7 h;unfold qv;rw [h1,h2,kR (xB h.1),kR (xB (by rw [Int.natAbs_natCast]; exact h.2)),Rat.divInt_ofNat,Rat.mkRat_self]
theorem xG{r:Rat}(h:kT r):errR (qstr r)=0:=by
 obtain⟨h1,h2,h3⟩:=Z7 h;have e1:=vK (xB h.1);have e2:errI (wz (r.den:Int)).1=0:=vK (xB (by rw [Int.natAbs_natCast]; exact h.2));have z1:=kR (xB h.1);have z2:zI (wz (r.den:Int)).1=r.den:=kR (xB (by rw [Int.natAbs_natCast]; exact h.2));unfold errR;by_cases hd:r.den=1
 ·rw [h3,hd];simp only [ne_eq,not_true_eq_false,decide_false,Bool.false_eq_true,if_false];unfold qstr;rw [aP hd];exact e1
 ·have hc:(cutR (qstr r)).2.2=true:=by rw [h3]; simp [hd]
  have n1:(cutR (qstr r)).1=(wz r.num).1:=h1;have n2:(cutR (qstr r)).2.1=(wz (r.den:Int)).1:=by unfold denR at h2; rw [hc] at h2; exact h2
  rw [hc,aP rfl,n1,n2];have hp:=r.den_pos;have hneg:negI (wz (r.den:Int)).1=false:=by rw [Vk e2,z2]; exact aW (by omega)
  have hn48:(wz (r.den:Int)).1≠[48]:=λh=>by
   rw [h] at z2;have:zI [48]=0:=rfl;omega
  have hn49:(wz (r.den:Int)).1≠[49]:=λh=>by
   rw [h] at z2;have:zI [49]=1:=rfl;omega
  rw [aO (by simp [e1,e2,hneg,hn48,hn49]),aO (by simp [e1,e2])]
  have hg:gcdR (wz r.num).1 (wz (r.den:Int)).1=wr false (Nat.gcd r.num.natAbs r.den):=by
   unfold gcdR;rw [aP (zl.2 ⟨e1,e2⟩),<- jV,<- jV,z1,z2,Int.natAbs_natCast]
  have hr:Nat.gcd r.num.natAbs r.den=1:=r.reduced;rw [hg,hr,kx,aO (by simp)]
theorem ku{a:L8}(h:errR a=0):(qv a).num=zI (numR a)/\((qv a).den:Int)=zI (denR a)/\qstr (qv a)=a/\kT (qv a):=by
 obtain⟨e1,e2,e3,e4⟩:=qo h;have hz:zI (denR a)=numI (denR a):=by unfold zI; rw [e3]; rfl
 have hcop:Nat.gcd (numI (numR a)) (numI (denR a))=1:=by
  unfold errR at h;cases hc:(cutR a).2.2 with
  | true=>
   rw [hc,aP rfl] at h;have hd:denR a=(cutR a).2.1:=by unfold denR; rw [hc]; rfl
   rw [hd] at e2 e4 ⊢;unfold numR at e1 ⊢;split at h
   ·cases h
   split at h
   ·cases h
   split at h
   ·cases h
   ·rename_i hg;rw [Classical.not_not] at hg;unfold gcdR at hg;rw [aP (zl.2 ⟨e1,e2⟩)] at hg;exact(XQ (Ku e2 e4).2).1 hg
  | false=>
   have:denR a=[49]:=by unfold denR; rw [hc]; rfl
   rw [this];exact Nat.gcd_one_right _
 have hq:qv a=⟨zI (numR a),numI (denR a),e4,by rw [jV]; exact hcop⟩:=by
  unfold qv;rw [hz,Rat.mk_eq_divInt]
 have hroom:kT (qv a):=by
  rw [hq];exact⟨by show room (zI (numR a)).natAbs; rw [jV]; exact j5 e1,j5 e2⟩
 refine⟨by rw [hq],by rw [hq,hz],?_,hroom⟩;rw [hq];unfold qstr;simp only;rw [<- hz,Ua e1,Ua e2];cases hc:(cutR a).2.2 with
 | true=>
  have hd:denR a=(cutR a).2.1:=by unfold denR; rw [hc]; rfl
  have hn1:numI (denR a)≠1:=by
   intro h1
   have:denR a=[49]:=by
    have:=(Yz e2);rw [e3,h1,kx] at this;exact(congrArg Prod.fst this).symm
   unfold errR at h;rw [hc,aP rfl,aP (by rw [<- hd,this]; simp)] at h;cases h
  rw [aO hn1,hd];simp only [numR];unfold cutR at hc ⊢;split at hc
  ·rename_i hs;rw [aP hs];simp only;have h47:=ZZ hs
   have:a=a.take (zB a)++([a.getD (zB a) 0]++a.drop (zB a+1)):=by
    conv=>lhs; rw [<- bU (zB a) a]
    congr 1;rw [List.drop_eq_getElem_cons hs];simp [List.getD,aF hs]
   rw [h47] at this;rw [List.append_assoc];exact this.symm
  ·cases hc
 | false=>
  have hd:denR a=[49]:=by unfold denR; rw [hc]; rfl
  rw [hd];have:numI [49]=1:=rfl;rw [aP this];unfold numR;unfold cutR at hc ⊢;split at hc
  ·cases hc
  ·rename_i hs;rw [aO hs]
theorem zcr{a b:L8}(ha:errR a=0)(hb:errR b=0)(h:qv a=qv b):a=b:=by
 rw [<- (ku ha).2.2.1,<- (ku hb).2.2.1,h]
theorem zht(a b:Int)(hb:b≠0):b.sign*a=if(decide (a<0) != decide (b<0))=true then -(a.natAbs:Int) else a.natAbs:=by
 by_cases h1:a<0
 ·rw [aX h1];by_cases h2:b<0
  ·rw [aX h2,Int.sign_eq_neg_one_of_neg h2]; simp; omega
  ·rw [aW h2,Int.sign_eq_one_of_pos (by omega)]; simp; omega
 ·rw [aW h1];by_cases h2:b<0
  ·rw [aX h2,Int.sign_eq_neg_one_of_neg h2]; simp; omega
  ·rw [aW h2,Int.sign_eq_one_of_pos (by omega)]; simp; omega
theorem zkk{n d:L8}(hn:errI n=0)(hd:errI d=0)(h0:numI d≠0):jO n d=(qstr (Rat.divInt (zI n) (zI d)),0)/\kT (Rat.divInt (zI n) (zI d)):=by
 have hz0:zI d≠0:=λh=>h0 (by rw [<- jV,h]; rfl)
 have hg:(zI d).gcd (zI n)=Nat.gcd (numI n) (numI d):=by
  show Nat.gcd _ _=_;rw [jV,jV,Nat.gcd_comm]
 have hden:(Rat.divInt (zI n) (zI d)).den=numI d/Nat.gcd (numI n) (numI d):=by
  rw [Rat.den_divInt,aO hz0,hg,jV]
 have hdv:Nat.gcd (numI n) (numI d) ∣ numI n:=Nat.gcd_dvd_left _ _
 have hnum:(Rat.divInt (zI n) (zI d)).num=if(negI n != negI d)=true then -((numI n/Nat.gcd (numI n) (numI d):Nat):Int) else((numI n/Nat.gcd (numI n) (numI d):Nat):Int):=by
  rw [Rat.num_divInt,hg,zht _ _ hz0,jV,<- Vk hn,<- Vk hd];split
  ·rw [Int.neg_ediv_of_dvd (Int.natCast_dvd_natCast.2 hdv),Int.natCast_ediv]
  ·rw [Int.natCast_ediv]
 have hroom:kT (Rat.divInt (zI n) (zI d)):=by
  refine⟨?_,by rw [hden]; exact room_le (Nat.div_le_self _ _) (j5 hd)⟩;rw [hnum];have:room (numI n/Nat.gcd (numI n) (numI d)):=room_le (Nat.div_le_self _ _) (j5 hn);split
  ·rw [Int.natAbs_neg,Int.natAbs_natCast]; exact this
  ·rw [Int.natAbs_natCast]; exact this
 refine⟨?_,hroom⟩;unfold jO;rw [aO (by rw [zl.2 ⟨hn,hd⟩]; simp),aO h0];congr 1;unfold YW qstr;rw [hden,hnum];have e2:(wr false (numI d/Nat.gcd (numI n) (numI d))).1=(wz ((numI d/Nat.gcd (numI n) (numI d):Nat):Int)).1:=by rw [Kg]; rfl
 rw [Kg,e2]
theorem Vj{n d:L8}{e f:Int}{z w:Int}(hw:w≠0)(hz:(n,e)=wz z)(hd:(d,f)=wz w):frac (n,e) (d,f)=([],14)\/(frac (n,e) (d,f)=(qstr (Rat.divInt z w),0)/\kT (Rat.divInt z w)):=by
 unfold frac;by_cases he:e=0
 ·by_cases hf:f=0
  ·subst he; subst hf;have h1:(wz z).2=0:=by rw [<- hz]
   have h2:(wz w).2=0:=by rw [<- hd]
   have n1:n=(wz z).1:=by rw [<- hz]
   have n2:d=(wz w).1:=by rw [<- hd]
   have z1:=kR h1;have z2:=kR h2;have e1:=vK h1;have e2:=vK h2;rw [<- n1] at z1 e1;rw [<- n2] at z2 e2;right;rw [aO (by simp)];have:=zkk e1 e2 (λh=>hw (by rw [<- z2]; have:=jV d; omega));rw [z1,z2] at this;exact this
  ·left; rw [aP (.inr hf)]
 ·left; rw [aP (.inl he)]
section
variable {a b:L8} (ha:errR a=0) (hb:errR b=0)
include ha hb
theorem JQ:errI (numR a)=0/\errI (denR a)=0/\errI (numR b)=0/\errI (denR b)=0/\zI (denR a)≠0/\zI (denR b)≠0/\qA a b=0:=by
 obtain⟨a1,a2,_,a4⟩:=qo ha;obtain⟨b1,b2,_,b4⟩:=qo hb;exact⟨a1,a2,b1,b2,λh=>a4 (by rw [<- jV,h]; rfl),λh=>b4 (by rw [<- jV,h]; rfl),by unfold qA; rw [aP ha]; exact hb⟩
theorem yC:z8 a b=14\/(z8 a b=0/\mulI (numR a) (denR b)=wz (zI (numR a)*zI (denR b))/\mulI (numR b) (denR a)=wz (zI (numR b)*zI (denR a))/\(mulI (numR a) (denR b)).2=0/\(mulI (numR b) (denR a)).2=0):=by
 obtain⟨a1,a2,b1,b2,a4,b4,h2⟩:=JQ ha hb;have m1:=xo (zl.2 ⟨a1,b2⟩);have m2:=xo (zl.2 ⟨b1,a2⟩);unfold z8;rw [aO (by rw [h2]; simp)];by_cases h:(mulI (numR a) (denR b)).2≠0\/(mulI (numR b) (denR a)).2≠0
 ·left; rw [aP h]
 ·right;rw [aO h];simp only [not_or,Classical.not_not] at h;exact⟨rfl,m1,m2,h.1,h.2⟩
theorem Vi:addR a b=([],14)\/(addR a b=(qstr (qv a+qv b),0)/\kT (qv a+qv b)):=by
 obtain⟨a1,a2,b1,b2,a4,b4,h2⟩:=JQ ha hb;unfold addR;rcases yC ha hb with h | ⟨h,m1,m2,k1,k2⟩
 ·left; rw [h]; rfl
 ·rw [h,aO (by simp)];rw [m1] at k1;rw [m2] at k2;have e1:=vK k1;have e2:=vK k2
  have:=Vj (n:=(addI (mulI (numR a) (denR b)).1 (mulI (numR b) (denR a)).1).1) (e:=(addI (mulI (numR a) (denR b)).1 (mulI (numR b) (denR a)).1).2) (d:=(mulI (denR a) (denR b)).1) (f:=(mulI (denR a) (denR b)).2)
   (z:=zI (numR a)*zI (denR b)+zI (numR b)*zI (denR a)) (w:=zI (denR a)*zI (denR b)) (Int.mul_ne_zero a4 b4) (by rw [m1,m2,zki (zl.2 ⟨e1,e2⟩),kR k1,kR k2]) (by rw [xo (zl.2 ⟨a2,b2⟩)])
  unfold qv;rw [Rat.divInt_add_divInt _ _ a4 b4];exact this
theorem Wu:subR a b=([],14)\/(subR a b=(qstr (qv a - qv b),0)/\kT (qv a - qv b)):=by
 obtain⟨a1,a2,b1,b2,a4,b4,h2⟩:=JQ ha hb;unfold subR;rcases yC ha hb with h | ⟨h,m1,m2,k1,k2⟩
 ·left; rw [h]; rfl
 ·rw [h,aO (by simp)];rw [m1] at k1;rw [m2] at k2;have e1:=vK k1;have e2:=vK k2
  have:=Vj (n:=(subI (mulI (numR a) (denR b)).1 (mulI (numR b) (denR a)).1).1) (e:=(subI (mulI (numR a) (denR b)).1 (mulI (numR b) (denR a)).1).2) (d:=(mulI (denR a) (denR b)).1) (f:=(mulI (denR a) (denR b)).2)
   (z:=zI (numR a)*zI (denR b) - zI (numR b)*zI (denR a)) (w:=zI (denR a)*zI (denR b)) (Int.mul_ne_zero a4 b4) (by rw [m1,m2,zkg (zl.2 ⟨e1,e2⟩),kR k1,kR k2]) (by rw [xo (zl.2 ⟨a2,b2⟩)])
  unfold qv;rw [Rat.divInt_sub_divInt _ _ a4 b4];exact this
theorem zdf:mulR a b=([],14)\/(mulR a b=(qstr (qv a*qv b),0)/\kT (qv a*qv b)):=by
 obtain⟨a1,a2,b1,b2,a4,b4,h2⟩:=JQ ha hb;unfold mulR;rw [h2,aO (by simp)]
 have:=Vj (n:=(mulI (numR a) (numR b)).1) (e:=(mulI (numR a) (numR b)).2) (d:=(mulI (denR a) (denR b)).1) (f:=(mulI (denR a) (denR b)).2)
  (z:=zI (numR a)*zI (numR b)) (w:=zI (denR a)*zI (denR b)) (Int.mul_ne_zero a4 b4) (by rw [xo (zl.2 ⟨a1,b1⟩)]) (by rw [xo (zl.2 ⟨a2,b2⟩)])
 unfold qv;rw [Rat.divInt_mul_divInt];exact this
theorem Yl:(qv b=0/\divR a b=([],16))\/(qv b≠0/\(divR a b=([],14)\/(divR a b=(qstr (qv a/qv b),0)/\kT (qv a/qv b)))):=by
 obtain⟨a1,a2,b1,b2,a4,b4,h2⟩:=JQ ha hb
 have hq:qv b=0↔zI (numR b)=0:=by
  rw [<- Rat.num_eq_zero,(ku hb).1]
 have hz:numR b=[48]↔zI (numR b)=0:=by
  rw [kb b1];have:=jV (numR b);omega
 unfold divR;rw [h2,aO (by simp)];by_cases h0:zI (numR b)=0
 ·left;exact⟨hq.2 h0,by rw [aP (hz.2 h0)]⟩
 ·right;refine⟨λh=>h0 (hq.1 h),?_⟩;rw [aO (λh=>h0 (hz.1 h))]
  have:=Vj (n:=(mulI (numR a) (denR b)).1) (e:=(mulI (numR a) (denR b)).2) (d:=(mulI (denR a) (numR b)).1) (f:=(mulI (denR a) (numR b)).2)
   (z:=zI (numR a)*zI (denR b)) (w:=zI (denR a)*zI (numR b)) (Int.mul_ne_zero a4 h0) (by rw [xo (zl.2 ⟨a1,b2⟩)]) (by rw [xo (zl.2 ⟨a2,b1⟩)])
  unfold qv;rw [Rat.div_def,Rat.inv_divInt,Rat.divInt_mul_divInt];exact this
theorem Xs:cmpR a b=(0,14)\/cmpR a b=(if qv a<qv b then -1 else if qv b<qv a then 1 else 0,0):=by
 obtain⟨a1,a2,b1,b2,a4,b4,h2⟩:=JQ ha hb;obtain⟨p1,p2,_,_⟩:=ku ha;obtain⟨r1,r2,_,_⟩:=ku hb;unfold cmpR;rcases yC ha hb with h | ⟨h,m1,m2,k1,k2⟩
 ·left; rw [h]; rfl
 ·right;rw [h,aO (by simp)];rw [m1] at k1;rw [m2] at k2;have e1:=vK k1;have e2:=vK k2;rw [m1,m2];unfold xU;rw [aP (zl.2 ⟨e1,e2⟩)];congr 1
  have hx:∀ s:L8,errI s=0->negI s=true->numI s≠0:=λs he hn h0=>by
   rw [(kb he).2 h0] at hn; cases hn
  rw [zjk _ _ _ _ (hx _ e1) (hx _ e2)];show cmpI (zI (wz (zI (numR a)*zI (denR b))).1) (zI (wz (zI (numR b)*zI (denR a))).1)=_;rw [kR k1,kR k2,<- p1,<- p2,<- r1,<- r2];unfold cmpI;simp only [Rat.lt_iff]
end
theorem xC{a b:L8}(ha:errR a=0)(hb:errR b=0)(h:(addR a b).2=0):errR (addR a b).1=0/\qv (addR a b).1=qv a+qv b:=by
 rcases Vi ha hb with h1 | ⟨h1,h2⟩
 ·rw [h1] at h; cases h
 ·rw [h1]; exact⟨xG h2,Zu h2⟩
theorem yU{a b:L8}(ha:errR a=0)(hb:errR b=0)(h:(subR a b).2=0):errR (subR a b).1=0/\qv (subR a b).1=qv a - qv b:=by
 rcases Wu ha hb with h1 | ⟨h1,h2⟩
 ·rw [h1] at h; cases h
 ·rw [h1]; exact⟨xG h2,Zu h2⟩
theorem WT{a b:L8}(ha:errR a=0)(hb:errR b=0)(h:(mulR a b).2=0):errR (mulR a b).1=0/\qv (mulR a b).1=qv a*qv b:=by
 rcases zdf ha hb with h1 | ⟨h1,h2⟩
 ·rw [h1] at h; cases h
 ·rw [h1]; exact⟨xG h2,Zu h2⟩
theorem Vf{a b:L8}(ha:errR a=0)(hb:errR b=0)(h:(divR a b).2=0):qv b≠0/\errR (divR a b).1=0/\qv (divR a b).1=qv a/qv b:=by
 rcases Yl ha hb with ⟨h0,h1⟩ | ⟨h0,h1 | ⟨h1,h2⟩⟩
 ·rw [h1] at h; cases h
 ·rw [h1] at h; cases h
 ·rw [h1]; exact⟨h0,xG h2,Zu h2⟩
end Go.Nov
end
section
namespace Go.Nov
open Go.Sx
def jL(k:Int)(r n:L8)(d:Int)(l:Nat):Bool:=
 decide (l=0)&&(if k=1 then decide (errR r=0)&&decide (n=[])&&decide (d=0) else if k=2 then decide (r=[])&&wR n&&dayB d else if k=3 then decide (r=[])&&wR n&&decide (d=0) else false)
def vP(k:Int)(r n:L8)(d:Int)(ss:List Int):Int:=
 if je k=true then(if r=[]/\n=[]/\d=0/\ss=qY k then qS k else 0) else if jL k r n d ss.length=true then 1 else 0
def zi5(r m:L8)(d:Int):Bool:=bif (bif decide (r=[]) then decide (m=[]) else false) then decide (d=0) else false
theorem JD{k:Int}{r m:L8}{d:Int}{l ps:List Int}{w:Int}(h:y6 k=some (ps,w)):vP k r m d l=if zi5 r m d=true/\l=ps then w else 0:=by
 have h1:je k=true:=by simp [je,h]
 have h2:qY k=ps:=by simp [qY,h]
 have h3:qS k=w:=by simp [qS,h]
 unfold vP;rw [aP h1,h2,h3];simp [zi5,and_assoc]
theorem ZJ{k:Int}{r m:L8}{d:Int}{l:List Int}(h:je k=false):vP k r m d l=if jL k r m d l.length=true then 1 else 0:=by
 unfold vP;rw [aO (by rw [h]; decide)]
theorem zfu{k:Int}(h:¬ (4<=k/\k<=9))(h2:¬ (11<=k/\k<=15)):je k=false:=by
 have e:∀ c:Int,(4<=c/\c<=9)\/(11<=c/\c<=15)->(c == k)=false:=λc hc=>by
  rw [beq_eq_false_iff_ne]; omega
 simp only [je,y6,shpL,List.find?_cons,e 4 (by omega),e 5 (by omega),e 6 (by omega),e 7 (by omega),e 8 (by omega),e 9 (by omega),e 11 (by omega),e 12 (by omega),e 13 (by omega),e 14 (by omega),e 15 (by omega),List.find?_nil];rfl
namespace Ex
mutual
def depth:Ex->Nat
 | mk _ _ _ _ s=>1+jx s
def jx:List Ex->Nat
 | []=>0
 | x::l=>max (depth x) (jx l)
end
mutual
def zA:Ex->Nat
 | mk _ r n _ s=>r.length+n.length+qt s
def qt:List Ex->Nat
 | []=>0
 | x::l=>zA x+qt l
end
mutual
def zx:Ex->Int
 | mk k r n d s=>vP k r n d (jQ s)
def jQ:List Ex->List Int
 | []=>[]
 | x::l=>zx x::jQ l
end
mutual
def thin:Ex->Prop
 | mk _ r n _ s=>r.length<=2^48/\n.length<=2^48/\Q8 s
def Q8:List Ex->Prop
 | []=>True
 | x::l=>thin x/\Q8 l
end
theorem ua(x:Ex):x.depth=1+jx x.sub:=by cases x; rw [depth]; rfl
theorem xI(x:Ex):x.zA=x.rat.length+x.name.length+qt x.sub:=by cases x; rw [zA]; rfl
theorem Qp(x:Ex):x.zx=vP x.kind x.rat x.name x.date (jQ x.sub):=by cases x; rw [zx]; rfl
theorem Vm(s:List Ex)(i:Nat)(h:i<s.length):jx (s.take (i+1))=max (jx (s.take i)) (s.getD i nil).depth:=by
 induction s generalizing i with
 | nil=>simp at h
 | cons x s ih=>
  cases i with
  | zero=>simp [jx]
  | succ i=>
   simp only [List.take_succ_cons,jx,List.getD_cons_succ];rw [ih i (by simpa using h)];omega
theorem Xj{s:List Ex}{i:Nat}(h:i<s.length):(s.getD i nil).depth<=jx s:=by
 induction s generalizing i with
 | nil=>simp at h
 | cons x s ih=>
  cases i with
  | zero=>simp [jx]; omega
  | succ i=>
   simp only [List.getD_cons_succ,jx];have:=ih (i:=i) (by simpa using h);omega
theorem Vr(s:List Ex)(i:Nat)(h:i<s.length):qt (s.take (i+1))=qt (s.take i)+(s.getD i nil).zA:=by
 induction s generalizing i with
 | nil=>simp at h
 | cons x s ih=>
  cases i with
  | zero=>simp [qt]
  | succ i=>
   simp only [List.take_succ_cons,qt,List.getD_cons_succ];rw [ih i (by simpa using h)];omega
theorem yg{s:List Ex}{i:Nat}(h:i<s.length):(s.getD i nil).zA<=qt s:=by
 induction s generalizing i with
 | nil=>simp at h
 | cons x s ih=>
  cases i with
  | zero=>simp [qt]
  | succ i=>
   simp only [List.getD_cons_succ,qt];have:=ih (i:=i) (by simpa using h);omega
theorem xb(s:List Ex)(i:Nat):qt (s.take i)<=qt s:=by
 induction s generalizing i with
 | nil=>simp [qt]
 | cons x s ih=>
  cases i with
  | zero=>simp [qt]
  | succ i=>simp only [List.take_succ_cons,qt]; have:=ih i; omega
theorem jR(s:List Ex):(jQ s).length=s.length:=by
 induction s with
 | nil=>simp [jQ]
 | cons x s ih=>simp [jQ,ih]
theorem JF{s:List Ex}{i:Nat}(h:i<s.length):(jQ s).getD i 0=(s.getD i nil).zx:=by
 induction s generalizing i with
 | nil=>simp at h
 | cons x s ih=>
  cases i with
  | zero=>simp [jQ]
  | succ i=>simpa [jQ] using ih (i:=i) (by simpa using h)
theorem y4{s:List Ex}{ps:List Int} : jQ s=ps↔s.length=ps.length/\∀ i,i<s.length->(s.getD i nil).zx=ps.getD i 0:=by
 constructor
 ·rintro rfl;exact⟨(jR s).symm,λi hi=>(JF hi).symm⟩
 ·rintro⟨h1,h2⟩;apply List.ext_getElem
  ·rw [jR,h1]
  ·intro i g1 g2;have g3:i<s.length:=by rwa [jR] at g1
   have:=h2 i g3;rw [<- JF g3] at this;simpa [List.getD,g1,g2] using this
mutual
theorem Jq:∀ x:Ex,thin x->zA x<=size x*2^49
 | mk k r n d s,h=>by
  rw [thin] at h;have:=J9 s h.2.2;rw [zA,size,bH];omega
theorem J9:∀ l:List Ex,Q8 l->qt l<=zR l*2^49
 | [],_=>by simp [qt]
 | x::l,h=>by
  rw [Q8] at h;have h1:=Jq x h.1;have h2:=J9 l h.2;rw [qt,zR,bH];omega
end
def errX(x:Ex):Int:=if 500<x.size\/60<x.depth then 4 else if x.zx=0 then 8 else 0
theorem zao(x:Ex):0<x.depth:=by rw [ua]; omega
theorem QX:∀ x:Ex,x.depth<=x.size:=by
 intro x
 have key:∀ (n:Nat) (x:Ex),x.size<=n->x.depth<=x.size:=by
  intro n
  induction n with
  | zero=>intro x h; have:=size_pos x; omega
  | succ n ih=>
   intro x h;rw [size_eq] at h ⊢;rw [ua]
   have:∀ l:List Ex,zR l<=n->jx l<=zR l:=by
    intro l
    induction l with
    | nil=>simp [jx]
    | cons y l il=>
     intro hl;simp only [zR,jx] at hl ⊢;have:=ih y (by omega);have:=il (by omega);omega
   have:=this x.sub (by omega);omega
 exact key _ x (aJ _)
end Ex
end Go.Nov
end
section
namespace Go.Nov
theorem orf{a b:Bool} : (bif a then true else b)=false↔a=false/\b=false:=by cases a<;>simp
end Go.Nov
end
section
namespace Go.Nov
open Go.Sx
structure TOp where
 kind:Int
 a:Int
 b:Int
 rat:L8
abbrev TOp.nil:TOp:=⟨0,0,0,[]⟩
def TOp.cell(o:TOp):Nat->AV
 | 0=>.int .u8 o.kind
 | 1=>.i o.a
 | 2=>.i o.b
 | 3=>.str o.rat
 | _=>.undef
def opG(l:List TOp):Nat->Nat->AV:=λj=>(l.getD j TOp.nil).cell
def opS(l:List TOp):AV:=.sl l.length 4 (opG l)
structure Tp where
 n:Int
 ops:List TOp
def Tp.av(t:Tp):AV:=.agg [.i t.n,opS t.ops]
def ratG(l:List L8):Nat->Nat->AV:=λj _=>.str (l.getD j [])
def ratS(l:List L8):AV:=.sl l.length 1 (ratG l)
def okOp(n:Int)(i:Nat)(o:TOp):Bool:=
 if o.kind=1 then decide (0<=o.a)&&decide (o.a<n)&&decide (o.b=0)&&decide (o.rat=[])
 else if o.kind=2 then decide (errR o.rat=0)&&decide (o.a=0)&&decide (o.b=0)
 else if 3<=o.kind/\o.kind<=6 then decide (0<=o.a)&&decide (o.a<i)&&(decide (0<=o.b)&&decide (o.b<i))&&decide (o.rat=[])
 else false
def wS(t:Tp)(i:Nat):Bool:=(List.range i).all λk=>okOp t.n k (t.ops.getD k TOp.nil)
theorem Xm(t:Tp)(i:Nat):wS t (i+1)=(wS t i&&okOp t.n i (t.ops.getD i TOp.nil)):=by
 unfold wS;rw [List.range_succ,List.all_append];simp
theorem ZI{t:Tp}{i k:Nat}(h:wS t i=true)(hk:k<i):okOp t.n k (t.ops.getD k TOp.nil)=true:=by
 unfold wS at h;rw [bG] at h;exact h k (List.mem_range.2 hk)
def Zi(t:Tp):Bool:=decide (0<=t.n)&&decide (t.n<=500)&&decide (0<t.ops.length)
def zh(t:Tp):Int:=if 500<t.ops.length then 4 else if Zi t&&wS t t.ops.length then 0 else 8
theorem qF{t:Tp} : zh t=0↔t.ops.length<=500/\0<=t.n/\t.n<=500/\0<t.ops.length/\wS t t.ops.length=true:=by
 unfold zh;by_cases h:500<t.ops.length
 ·rw [aP h];constructor
  ·intro g; cases g
  ·intro g; omega
 ·rw [aO h];cases hb:(Zi t&&wS t t.ops.length) with
  | true=>
   simp only [if_true];unfold Zi at hb;simp only [bA,aK] at hb;exact⟨λ_=>⟨by omega,hb.1.1.1,hb.1.1.2,hb.1.2,hb.2⟩,λ_=>trivial⟩
  | false=>
   constructor
   ·intro g; simp at g
   ·rintro⟨_,g1,g2,g3,g4⟩;unfold Zi at hb;rw [g4] at hb;simp [g1,g2,g3] at hb
def arR(k:Int)(a b:L8):L8×Int:=if k=3 then addR a b else if k=4 then subR a b else if k=5 then mulR a b else divR a b
def z9(inp out:List L8)(o:TOp):L8×Int:=
 if o.kind=1 then(inp.getD o.a.toNat [],0) else if o.kind=2 then(o.rat,0) else arR o.kind (out.getD o.a.toNat []) (out.getD o.b.toNat [])
def runF(inp:List L8):List TOp->List L8->List L8×Int
 | [],out=>(out,0)
 | o::l,out=>if(z9 inp out o).2≠0 then([],(z9 inp out o).2) else runF inp l (out++[(z9 inp out o).1])
theorem U1{inp:List (L8)}{ops:List TOp}{k:Nat}(hk:k<ops.length)(out:List L8):runF inp (ops.drop k) out=if(z9 inp out (ops.getD k TOp.nil)).2≠0 then([],(z9 inp out (ops.getD k TOp.nil)).2) else runF inp (ops.drop (k+1)) (out++[(z9 inp out (ops.getD k TOp.nil)).1]):=by
 rw [List.drop_eq_getElem_cons hk];have e:ops.getD k TOp.nil=ops[k]:=by simp [List.getD,hk]
 rw [e]; rfl
theorem zbs{inp:List (L8)}{ops:List TOp}(out:List L8):runF inp (ops.drop ops.length) out=(out,0):=by
 rw [List.drop_length]; rfl
def xz:List L8->Int
 | []=>0
 | x::l=>if errR x≠0 then errR x else xz l
theorem Xi{l:List (L8)}{k:Nat}(hk:k<l.length):xz (l.drop k)=if errR (l.getD k [])≠0 then errR (l.getD k []) else xz (l.drop (k+1)):=by
 rw [List.drop_eq_getElem_cons hk];have e:l.getD k []=l[k]:=by simp [List.getD,hk]
 rw [e]; rfl
theorem Wt:∀ {l:List (L8)},xz l=0↔∀ x∈l,errR x=0
 | []=>by simp [xz]
 | x::l=>by
  unfold xz;by_cases h:errR x=0
  ·rw [aO (λg=>g h),Wt];simp [h]
  ·rw [aP h];simp [h]
def preT(t:Tp)(inp:List L8):Int:=if zh t≠0 then zh t else if(inp.length:Int)≠t.n then 2 else xz inp
def trun(t:Tp)(inp:List L8):List L8×Int:=if preT t inp≠0 then([],preT t inp) else runF inp t.ops []
def qJ(r:List L8×Int):L8×Int:=if r.2≠0 then([],r.2) else(r.1.getD (r.1.length - 1) [],0)
def z5(t:Tp)(inp:List L8):L8×Int:=qJ (trun t inp)
def degS(i:Int)(o:TOp)(out:List Int):Int:=
 if o.kind=1 then(if o.a=i then 1 else 0) else if o.kind=2 then 0
 else if out.getD o.a.toNat 0<0\/out.getD o.b.toNat 0<0 then -1
 else if o.kind=5 then min (out.getD o.a.toNat 0+out.getD o.b.toNat 0) 1000
 else if o.kind=6 then(if 0<out.getD o.b.toNat 0 then -1 else out.getD o.a.toNat 0)
 else max (out.getD o.a.toNat 0) (out.getD o.b.toNat 0)
def degF(i:Int):List TOp->List Int->List Int
 | [],out=>out
 | o::l,out=>degF i l (out++[degS i o out])
theorem zap{i:Int}{ops:List TOp}{k:Nat}(hk:k<ops.length)(out:List Int):degF i (ops.drop k) out=degF i (ops.drop (k+1)) (out++[degS i (ops.getD k TOp.nil) out]):=by
 rw [List.drop_eq_getElem_cons hk];have e:ops.getD k TOp.nil=ops[k]:=by simp [List.getD,hk]
 rw [e]; rfl
theorem zdj{i:Int}{ops:List TOp}(out:List Int):degF i (ops.drop ops.length) out=out:=by
 rw [List.drop_length]; rfl
def degT(t:Tp)(i:Int):Int×Int:=if zh t≠0 then(0,zh t) else if 0<=i/\i<t.n then((degF i t.ops []).getD (t.ops.length - 1) 0,0) else(0,2)
def dgF(l:List Int):Nat->Int:=λj=>l.getD j 0
def rtF(l:List L8):Nat->L8:=λj=>l.getD j []
def degB(d:Int):Prop:= -1<=d/\d<=1000
theorem zke{i:Int}{o:TOp}{out:List Int}(h:∀ k,degB (out.getD k 0)):degB (degS i o out):=by
 unfold degS;have h1:=h o.a.toNat;have h2:=h o.b.toNat
 revert h1 h2
 generalize out.getD o.a.toNat 0=p;generalize out.getD o.b.toNat 0=q;rintro⟨h1,h2⟩ ⟨h3,h4⟩;unfold degB
 repeat' split
 all_goals (first | omega | (simp only [Int.min_def,Int.max_def]; repeat' split) )
 all_goals omega
structure Ev where
 v:L8
 e:Int
 b:Bool
 g:Int
abbrev Ev.nil:Ev:=⟨[],0,false,0⟩
def wa(k:Int)(a b:L8):L8×Int:=
 if k=7 then(if(cmpR a b).2≠0 then([],(cmpR a b).2) else(if(cmpR a b).1<0 then b else a,0))
 else(if(cmpR b a).2≠0 then([],(cmpR b a).2) else(if(cmpR b a).1<0 then b else a,0))
def opR(k:Int)(a b:L8):L8×Int:=if k=4 then addR a b else if k=5 then subR a b else if k=6 then mulR a b else wa k a b
def fixR(f:List Fx)(a:L8)(d:Int):L8×Int:=if(qk f a d).2=true then((qk f a d).1,0) else([],30)
def ka{α:Type}(z:α)(l0 l1:Ev)(f:L8->L8->α×Int):α×Int:=if l0.e≠0 then(z,l0.e) else if l1.e≠0 then(z,l1.e) else f l0.v l1.v
def valN(f:List Fx)(day k:Int)(r n:L8)(d:Int)(l:List Ev):L8×Int:=
 if k=1 then(r,0) else if k=2 then fixR f n d else if k=3 then fixR f n day
 else if k=9 then(if(l.getD 0 Ev.nil).g≠0 then([],(l.getD 0 Ev.nil).g) else if(l.getD 0 Ev.nil).b then((l.getD 1 Ev.nil).v,(l.getD 1 Ev.nil).e) else((l.getD 2 Ev.nil).v,(l.getD 2 Ev.nil).e))
 else ka [] (l.getD 0 Ev.nil) (l.getD 1 Ev.nil) (opR k)
def V7(k:Int)(a b:L8):Bool×Int:=if(cmpR a b).2≠0 then(false,(cmpR a b).2) else(if k=11 then decide ((cmpR a b).1<0) else decide ((cmpR a b).1=0),0)
def hldN(k:Int)(l:List Ev):Bool×Int:=
 if 13<=k then(if(l.getD 0 Ev.nil).g≠0 then(false,(l.getD 0 Ev.nil).g) else if k=15 then(!(l.getD 0 Ev.nil).b,0)
  else if(l.getD 0 Ev.nil).b=decide (k=14) then((l.getD 0 Ev.nil).b,0) else((l.getD 1 Ev.nil).b,(l.getD 1 Ev.nil).g))
 else ka false (l.getD 0 Ev.nil) (l.getD 1 Ev.nil) (V7 k)
def evN(f:List Fx)(day k:Int)(r n:L8)(d:Int)(l:List Ev):Ev:=⟨(valN f day k r n d l).1,(valN f day k r n d l).2,(hldN k l).1,(hldN k l).2⟩
namespace Ex
mutual
def ev(f:List Fx)(day:Int):Ex->Ev
 | mk k r n d s=>evN f day k r n d (evs f day s)
def evs(f:List Fx)(day:Int):List Ex->List Ev
 | []=>[]
 | x::l=>ev f day x::evs f day l
end
theorem zl0(f:List Fx)(day:Int)(x:Ex):x.ev f day=evN f day x.kind x.rat x.name x.date (evs f day x.sub):=by cases x; rw [ev]; rfl
theorem zT{f:List Fx}{day:Int}{s:List Ex}{i:Nat}(h:i<s.length):(evs f day s).getD i Ev.nil=(s.getD i nil).ev f day:=by
 induction s generalizing i with
 | nil=>simp at h
 | cons x s ih=>
  rw [evs];cases i with
  | zero=>rfl
  | succ i=>exact ih (by simpa using h)
theorem xE{x:Ex}(h:x.zx=1):(x.kind=1/\errR x.rat=0)\/x.kind=2\/x.kind=3 \/
  ((4<=x.kind/\x.kind<=8)/\x.sub.length=2/\(x.sub.getD 0 nil).zx=1/\(x.sub.getD 1 nil).zx=1) \/
  (x.kind=9/\x.sub.length=3/\(x.sub.getD 0 nil).zx=2/\(x.sub.getD 1 nil).zx=1/\(x.sub.getD 2 nil).zx=1):=by
 rw [Qp] at h;by_cases hk:je x.kind=true
 ·have hk2:(4<=x.kind/\x.kind<=9)\/(11<=x.kind/\x.kind<=15):=by
   by_cases h1:4<=x.kind/\x.kind<=9
   ·exact .inl h1
   ·by_cases h2:11<=x.kind/\x.kind<=15
    ·exact .inr h2
    ·rw [zfu h1 h2] at hk; cases hk
  have two:∀ {k:Int} {ps:List Int} {w:Int},y6 k=some (ps,w)->vP k x.rat x.name x.date (jQ x.sub)=1->w=1/\x.sub.length=ps.length/\∀ i,i<x.sub.length->(x.sub.getD i nil).zx=ps.getD i 0:=by
   intro k ps w hs hn;rw [JD hs] at hn;split at hn
   ·rename_i hc;exact⟨hn,y4.1 hc.2⟩
   ·cases hn
  generalize x.kind=k at h hk2 ⊢;have hk3:k=4\/k=5\/k=6\/k=7\/k=8\/k=9\/k=11\/k=12\/k=13\/k=14\/k=15:=by omega
  right; right; right;rcases hk3 with rfl | rfl | rfl | rfl | rfl | rfl | rfl | rfl | rfl | rfl | rfl
  iterate 5
   ·left;obtain⟨_,h2,h3⟩:=two rfl h;exact⟨by decide,h2,h3 0 (by rw [h2]; decide),h3 1 (by rw [h2]; decide)⟩
  ·right;obtain⟨_,h2,h3⟩:=two rfl h;exact⟨rfl,h2,h3 0 (by rw [h2]; decide),h3 1 (by rw [h2]; decide),h3 2 (by rw [h2]; decide)⟩
  all_goals
   obtain⟨h1,_⟩:=two rfl h;cases h1
 ·have hk:je x.kind=false:=by simpa using hk
  rw [ZJ hk] at h;split at h
  ·rename_i hl;simp only [jL,bA] at hl;obtain⟨_,hl⟩:=hl;split at hl
   ·rename_i h1;simp only [bA,aK] at hl;exact .inl ⟨h1,hl.1.1⟩
   ·split at hl
    ·rename_i h2; exact .inr (.inl h2)
    ·split at hl
     ·rename_i h3; exact .inr (.inr (.inl h3))
     ·cases hl
  ·cases h
theorem Vz{x:Ex}(h:x.zx=2):((x.kind=11\/x.kind=12)/\x.sub.length=2/\(x.sub.getD 0 nil).zx=1/\(x.sub.getD 1 nil).zx=1) \/
  ((x.kind=13\/x.kind=14)/\x.sub.length=2/\(x.sub.getD 0 nil).zx=2/\(x.sub.getD 1 nil).zx=2)\/(x.kind=15/\x.sub.length=1/\(x.sub.getD 0 nil).zx=2):=by
 rw [Qp] at h;by_cases hk:je x.kind=true
 ·have hk2:(4<=x.kind/\x.kind<=9)\/(11<=x.kind/\x.kind<=15):=by
   by_cases h1:4<=x.kind/\x.kind<=9
   ·exact .inl h1
   ·by_cases h2:11<=x.kind/\x.kind<=15
    ·exact .inr h2
    ·rw [zfu h1 h2] at hk; cases hk
  have two:∀ {k:Int} {ps:List Int} {w:Int},y6 k=some (ps,w)->vP k x.rat x.name x.date (jQ x.sub)=2->w=2/\x.sub.length=ps.length/\∀ i,i<x.sub.length->(x.sub.getD i nil).zx=ps.getD i 0:=by
   intro k ps w hs hn;rw [JD hs] at hn;split at hn
   ·rename_i hc;exact⟨hn,y4.1 hc.2⟩
   ·cases hn
  generalize x.kind=k at h hk2 ⊢;have hk3:k=4\/k=5\/k=6\/k=7\/k=8\/k=9\/k=11\/k=12\/k=13\/k=14\/k=15:=by omega
  rcases hk3 with rfl | rfl | rfl | rfl | rfl | rfl | rfl | rfl | rfl | rfl | rfl
  iterate 6
   ·obtain⟨h1,_⟩:=two rfl h;cases h1
  ·obtain⟨_,h2,h3⟩:=two rfl h;exact .inl ⟨.inl rfl,h2,h3 0 (by rw [h2]; decide),h3 1 (by rw [h2]; decide)⟩
  ·obtain⟨_,h2,h3⟩:=two rfl h;exact .inl ⟨.inr rfl,h2,h3 0 (by rw [h2]; decide),h3 1 (by rw [h2]; decide)⟩
  ·obtain⟨_,h2,h3⟩:=two rfl h;exact .inr (.inl ⟨.inl rfl,h2,h3 0 (by rw [h2]; decide),h3 1 (by rw [h2]; decide)⟩)
  ·obtain⟨_,h2,h3⟩:=two rfl h;exact .inr (.inl ⟨.inr rfl,h2,h3 0 (by rw [h2]; decide),h3 1 (by rw [h2]; decide)⟩)
  ·obtain⟨_,h2,h3⟩:=two rfl h;exact .inr (.inr ⟨rfl,h2,h3 0 (by rw [h2]; decide)⟩)
 ·have hk:je x.kind=false:=by simpa using hk
  rw [ZJ hk] at h;split at h<;>cases h
end Ex
theorem zes{f:List Fx}{a:L8}{d:Int}(h:(qk f a d).2=false):(qk f a d).1=[]:=by
 unfold qk at h ⊢;split
 ·rename_i y hy; rw [hy] at h; cases h
 ·rfl
theorem Uq{f:List Fx}(hf:f.all okF=true){a:L8}{d:Int}(h:(fixR f a d).2=0):errR (fixR f a d).1=0:=by
 unfold fixR at h ⊢;split
 ·rename_i h1;unfold qk at h1 ⊢;split at h1
  ·rename_i y hy;have hm:=List.mem_of_find?_eq_some hy;have:=bG.1 hf _ hm;simp only [okF,bA,aK] at this;exact this.2
  ·cases h1
 ·rename_i h1;rw [aO h1] at h;cases h
theorem zcm{k:Int}{a b:L8}(ha:errR a=0)(hb:errR b=0)(h:(wa k a b).2=0):errR (wa k a b).1=0:=by
 unfold wa at h ⊢;split
 ·rename_i h1;rw [aP h1] at h;split
  ·rename_i h2; rw [aP h2] at h; exact absurd h h2
  ·simp only; split<;>assumption
 ·rename_i h1;rw [aO h1] at h;split
  ·rename_i h2; rw [aP h2] at h; exact absurd h h2
  ·simp only; split<;>assumption
theorem zkd{k:Int}{a b:L8}(ha:errR a=0)(hb:errR b=0)(h:(opR k a b).2=0):errR (opR k a b).1=0:=by
 unfold opR at h ⊢;split
 ·rename_i h1; rw [aP h1] at h; exact(xC ha hb h).1
 ·rename_i h1;rw [aO h1] at h;split
  ·rename_i h2; rw [aP h2] at h; exact(yU ha hb h).1
  ·rename_i h2;rw [aO h2] at h;split
   ·rename_i h3; rw [aP h3] at h; exact(WT ha hb h).1
   ·rename_i h3;rw [aO h3] at h;exact zcm ha hb h
theorem zV{a:L8}(h:errR a=0):a.length<=2003:=by
 have h1:=(ku h).2.2.1;rw [<- h1];unfold qstr wz;have g1:=kE (decide ((qv a).num<0)) (qv a).num.natAbs;have g2:=kE (decide (((qv a).den:Int)<0)) ((qv a).den:Int).natAbs;split
 ·omega
 ·simp only [bO,aL,List.length_nil];omega
theorem Ex.kX{f:List Fx}(hf:f.all okF=true)(day:Int):∀ x:Ex,x.zx=1->(x.ev f day).e=0->errR (x.ev f day).v=0
 | .mk k r n d s,hs,he=>by
  have hc:=Ex.xE hs;simp only [Ex.kind,Ex.rat,Ex.sub] at hc;rw [Ex.ev] at he ⊢;simp only [evN] at he ⊢;unfold valN at he ⊢;rcases hc with ⟨rfl,h1⟩ | rfl | rfl | ⟨⟨h1,h2⟩,h3,h4,h5⟩ | ⟨rfl,h3,h4,h5,h6⟩
  ·simpa using h1
  ·simp only [show ¬ (2:Int)=1 by decide,if_false,if_true] at he ⊢;exact Uq hf he
  ·simp only [show ¬ (3:Int)=1 by decide,show ¬ (3:Int)=2 by decide,if_false,if_true] at he ⊢;exact Uq hf he
  ·rw [aO (by omega),aO (by omega),aO (by omega),aO (by omega)] at he ⊢;rw [Ex.zT (by omega),Ex.zT (by omega)] at he ⊢;unfold ka at he ⊢;have w0:s.getD 0 Ex.nil∈s:=by simp [List.getD,aF (show 0<s.length by omega)]
   have w1:s.getD 1 Ex.nil∈s:=by simp [List.getD,aF (show 1<s.length by omega)]
   split
   ·rename_i g; rw [aP g] at he; exact absurd he g
   ·rename_i g;rw [aO g] at he;split
    ·rename_i g2; rw [aP g2] at he; exact absurd he g2
    ·rename_i g2;rw [aO g2] at he;rw [Classical.not_not] at g g2;exact zkd (Ex.kX hf day _ h4 g) (Ex.kX hf day _ h5 g2) he
  ·simp only [show ¬ (9:Int)=1 by decide,show ¬ (9:Int)=2 by decide,show ¬ (9:Int)=3 by decide,if_false,if_true] at he ⊢;rw [Ex.zT (by omega),Ex.zT (by omega),Ex.zT (by omega)] at he ⊢;have w1:s.getD 1 Ex.nil∈s:=by simp [List.getD,aF (show 1<s.length by omega)]
   have w2:s.getD 2 Ex.nil∈s:=by simp [List.getD,aF (show 2<s.length by omega)]
   split
   ·rename_i g; rw [aP g] at he; exact absurd he g
   ·rename_i g;rw [aO g] at he;split
    ·rename_i g2; rw [aP g2] at he; exact Ex.kX hf day _ h5 he
    ·rename_i g2; rw [aO g2] at he; exact Ex.kX hf day _ h6 he
termination_by x=>x.size
decreasing_by
 all_goals
  rw [Ex.size];have a0:=Ex.zQ (s:=s) (i:=0);have a1:=Ex.zQ (s:=s) (i:=1);have a2:=Ex.zQ (s:=s) (i:=2)
  first
  | (have:=a0 (by omega); omega)
  | (have:=a1 (by omega); omega)
  | (have:=a2 (by omega); omega)
theorem zah{a b:L8}(ha:errR a=0)(hb:errR b=0):z8 b a=z8 a b:=by
 have h1:qA a b=0:=by unfold qA; rw [aP ha]; exact hb
 have h2:qA b a=0:=by unfold qA; rw [aP hb]; exact ha
 unfold z8;have n0:¬ (0:Int)≠0:=by simp
 rw [h1,h2,aO n0,aO n0];by_cases h:(mulI (numR a) (denR b)).2≠0\/(mulI (numR b) (denR a)).2≠0
 ·rw [aP h,aP h.symm]
 ·rw [aO h,aO λh2=>h h2.symm]
theorem zb6{a b:L8}(ha:errR a=0)(hb:errR b=0):(cmpR b a).2=(cmpR a b).2/\((cmpR b a).1<0↔0<(cmpR a b).1):=by
 have hs:=zah ha hb;rcases Xs ha hb with h1 | h1
 ·have hc:z8 a b≠0:=λh0=>by
   have:cmpR a b=xU (mulI (numR a) (denR b)).1 (mulI (numR b) (denR a)).1:=by unfold cmpR; rw [h0]; rfl
   rcases yC ha hb with h | ⟨_,m1,m2,k1,k2⟩
   ·rw [h] at h0; cases h0
   ·rw [m1] at k1; rw [m2] at k2;rw [this,m1,m2] at h1;unfold xU at h1;rw [aP (zl.2 ⟨vK k1,vK k2⟩)] at h1;exact absurd (show(0:Int)=14 from congrArg Prod.snd h1) (by decide)
  have:cmpR b a=(0,z8 b a):=by unfold cmpR; rw [aP (by rw [hs]; exact hc)]
  have h2:cmpR a b=(0,z8 a b):=by unfold cmpR; rw [aP hc]
  rw [this,h2,hs];exact⟨rfl,Iff.rfl⟩
 ·rcases Xs hb ha with h2 | h2
  ·have hc:z8 a b=0:=by
    by_cases h0:z8 a b=0
    ·exact h0
    ·have:cmpR a b=(0,z8 a b):=by unfold cmpR; rw [aP h0]
     rw [this] at h1;exact absurd (congrArg Prod.snd h1) h0
   rcases yC hb ha with h | ⟨_,m1,m2,k1,k2⟩
   ·rw [hs,hc] at h; cases h
   ·rw [m1] at k1; rw [m2] at k2;unfold cmpR at h2;rw [hs,hc,aO (by simp),m1,m2] at h2;unfold xU at h2;rw [aP (zl.2 ⟨vK k1,vK k2⟩)] at h2;exact absurd (show(0:Int)=14 from congrArg Prod.snd h2) (by decide)
  ·rw [h1,h2];refine⟨rfl,?_⟩;simp only;by_cases g1:qv a<qv b
   ·have g2:¬ qv b<qv a:=λg=>(Rat.lt_iff_le_and_not_ge.1 g1).2 (Rat.le_of_lt g)
    rw [aP g1,aO g2,aP g1]; decide
   ·rw [aO g1,aO g1];by_cases g2:qv b<qv a
    ·rw [aP g2,aP g2]; decide
    ·rw [aO g2,aO g2]
end Go.Nov
end
section
namespace Go.Nov
end Go.Nov
end
section
namespace Go.Nov
open Go.Sx
def allQ(l:List L8):Prop:=∀ x∈l,errR x=0
theorem jd{l:List (L8)}(h:allQ l){i:Nat}(hi:i<l.length):errR (l.getD i [])=0:=h _ (by simp [List.getD,hi])
theorem Wc{l:List (L8)}(h:allQ l){x:L8}(hx:errR x=0):allQ (l++[x]):=by
 intro y hy;rcases bY.1 hy with g | g
 ·exact h y g
 ·rw [List.mem_singleton.1 g]; exact hx
theorem Xr{k:Int}{a b:L8}(ha:errR a=0)(hb:errR b=0)(h:(arR k a b).2=0):errR (arR k a b).1=0:=by
 unfold arR at h ⊢;split
 ·rename_i g; rw [aP g] at h; exact(xC ha hb h).1
 ·rename_i g;rw [aO g] at h;split
  ·rename_i g; rw [aP g] at h; exact(yU ha hb h).1
  ·rename_i g;rw [aO g] at h;split
   ·rename_i g; rw [aP g] at h; exact(WT ha hb h).1
   ·rename_i g;rw [aO g] at h;exact(Vf ha hb h).2.1
theorem YJ{k:Int}{a b:L8}(ha:errR a=0)(hb:errR b=0)(h:(arR k a b).2≠0):(arR k a b).1=[]:=by
 unfold arR at h ⊢;have h1:=Vi ha hb;have h2:=Wu ha hb;have h3:=zdf ha hb;have h4:=Yl ha hb
 repeat' split
 ·rcases h1 with g | g
  ·rw [g]
  ·rename_i q; rw [aP q,g.1] at h; exact absurd rfl h
 ·rename_i q1 q2;rw [aO q1,aP q2] at h;rcases h2 with g | g
  ·rw [g]
  ·rw [g.1] at h; exact absurd rfl h
 ·rename_i q1 q2 q3;rw [aO q1,aO q2,aP q3] at h;rcases h3 with g | g
  ·rw [g]
  ·rw [g.1] at h; exact absurd rfl h
 ·rename_i q1 q2 q3;rw [aO q1,aO q2,aO q3] at h;rcases h4 with g | ⟨_,g | g⟩
  ·rw [g.2]
  ·rw [g]
  ·rw [g.1] at h; exact absurd rfl h
theorem w4{n:Int}{i:Nat}{o:TOp}(h:okOp n i o=true):(o.kind=1/\0<=o.a/\o.a<n/\o.b=0/\o.rat=[])\/(o.kind=2/\errR o.rat=0/\o.a=0/\o.b=0)\/((o.kind=3\/o.kind=4\/o.kind=5\/o.kind=6)/\0<=o.a/\o.a<i/\0<=o.b/\o.b<i/\o.rat=[]):=by
 unfold okOp at h;split at h
 ·rename_i g;simp only [bA,aK] at h;exact .inl ⟨g,h.1.1.1,h.1.1.2,h.1.2,h.2⟩
 ·split at h
  ·rename_i g;simp only [bA,aK] at h;exact .inr (.inl ⟨g,h.1.1,h.1.2,h.2⟩)
  ·split at h
   ·rename_i g;simp only [bA,aK] at h;exact .inr (.inr ⟨by omega,h.1.1.1,h.1.1.2,h.1.2.1,h.1.2.2,h.2⟩)
   ·cases h
theorem VW{n:Int}{inp out:List (L8)}{o:TOp}(hi:allQ inp)(hn:(inp.length:Int)=n)(ho:allQ out)(h:okOp n out.length o=true)(h2:(z9 inp out o).2=0):errR (z9 inp out o).1=0:=by
 unfold z9 at h2 ⊢;rcases w4 h with ⟨g,g1,g2,_⟩ | ⟨g,g1,_⟩ | ⟨g,g1,g2,g3,g4,_⟩
 ·rw [aP g];exact jd hi (by omega)
 ·rw [aO (by omega),aP g];exact g1
 ·rw [aO (by omega),aO (by omega)] at h2 ⊢;exact Xr (jd ho (by omega)) (jd ho (by omega)) h2
theorem Z4{l:List (L8)}(h:allQ l){x:L8}(hx:errR x=0)(i:Nat):allQ (l.set i x):=by
 intro y hy;rcases List.mem_or_eq_of_mem_set hy with g | g
 ·exact h y g
 ·rw [g]; exact hx
def shL(h:L8):List Int->List L8->List L8×Int
 | [],x=>(x,0)
 | i::l,x=>if(addR (x.getD i.toNat []) h).2≠0 then([],(addR (x.getD i.toNat []) h).2) else shL h l (x.set i.toNat (addR (x.getD i.toNat []) h).1)
def atT(t:Tp)(inp:List L8)(h:L8)(at_:List Int):L8×Int:=if(shL h at_ inp).2≠0 then([],(shL h at_ inp).2) else qJ (runF (shL h at_ inp).1 t.ops [])
def jl(t:Tp)(at_:List Int):Bool:=at_.all λi=>decide (0<=i)&&decide (i<t.n)
def begT(t:Tp)(inp:List L8)(at_:List Int)(h:L8):Int:=if(z5 t inp).2≠0 then(z5 t inp).2 else if jl t at_ then(if errR h≠0 then errR h else if h=[48] then 16 else 0) else 2
def endR(q:L8×Int):L8×Int:=if q.2≠0 then([],q.2) else(q.1,0)
def stpA(e:Int)(r:L8×Int):L8×Int:=if e≠0 then([],e) else r
def yH(t:Tp)(inp:List L8)(i:Int)(h:L8):L8×Int:=stp (atT t inp h [i]).2 subR (atT t inp h [i]).1 (z5 t inp).1
def qq(t:Tp)(inp:List L8)(i:Int)(h:L8):L8×Int:=if begT t inp [i] h≠0 then([],begT t inp [i] h) else endR (stp (yH t inp i h).2 divR (yH t inp i h).1 h)
def croA(t:Tp)(inp:List L8)(i k:Int)(h:L8):L8×Int:=stpA (atT t inp h [i,k]).2 (atT t inp h [i])
def croB(t:Tp)(inp:List L8)(i k:Int)(h:L8):L8×Int:=stpA (croA t inp i k h).2 (atT t inp h [k])
def croC(t:Tp)(inp:List L8)(i k:Int)(h:L8):L8×Int:=stp (croB t inp i k h).2 subR (atT t inp h [i,k]).1 (croA t inp i k h).1
def croD(t:Tp)(inp:List L8)(i k:Int)(h:L8):L8×Int:=stp (croC t inp i k h).2 subR (croC t inp i k h).1 (croB t inp i k h).1
def croE(t:Tp)(inp:List L8)(i k:Int)(h:L8):L8×Int:=stp (croD t inp i k h).2 addR (croD t inp i k h).1 (z5 t inp).1
def croF(t:Tp)(inp:List L8)(i k:Int)(h:L8):L8×Int:=stp (croE t inp i k h).2 mulR h h
def croT(t:Tp)(inp:List L8)(i k:Int)(h:L8):L8×Int:=if begT t inp [i,k] h≠0 then([],begT t inp [i,k] h) else endR (stp (croF t inp i k h).2 divR (croE t inp i k h).1 (croF t inp i k h).1)
def arQ(k:Int)(a b:Rat):Rat:=if k=3 then a+b else if k=4 then a - b else if k=5 then a*b else a/b
def zbi(inp out:List Rat)(o:TOp):Rat:=
 if o.kind=1 then inp.getD o.a.toNat 0 else if o.kind=2 then qv o.rat else arQ o.kind (out.getD o.a.toNat 0) (out.getD o.b.toNat 0)
def runQ(inp:List Rat):List TOp->List Rat->List Rat
 | [],out=>out
 | o::l,out=>runQ inp l (out++[zbi inp out o])
theorem Uh{k:Int}{a b:L8}(ha:errR a=0)(hb:errR b=0)(h:(arR k a b).2=0):qv (arR k a b).1=arQ k (qv a) (qv b):=by
 unfold arR at h ⊢;unfold arQ;split
 ·rename_i g; rw [aP g] at h; exact(xC ha hb h).2
 ·rename_i g;rw [aO g] at h;split
  ·rename_i g; rw [aP g] at h; exact(yU ha hb h).2
  ·rename_i g;rw [aO g] at h;split
   ·rename_i g; rw [aP g] at h; exact(WT ha hb h).2
   ·rename_i g;rw [aO g] at h;exact(Vf ha hb h).2.2
theorem x6(l:List L8){i:Nat}(hi:i<l.length):(l.map qv).getD i 0=qv (l.getD i []):=by
 simp [List.getD,hi]
theorem zh1{n:Int}{inp out:List (L8)}{o:TOp}(hi:allQ inp)(hn:(inp.length:Int)=n)(ho:allQ out)(h:okOp n out.length o=true)(h2:(z9 inp out o).2=0):qv (z9 inp out o).1=zbi (inp.map qv) (out.map qv) o:=by
 unfold z9 at h2 ⊢;unfold zbi;rcases w4 h with ⟨g,g1,g2,_⟩ | ⟨g,g1,_⟩ | ⟨g,g1,g2,g3,g4,_⟩
 ·rw [aP g,aP g,x6 inp (by omega)]
 ·rw [aO (by omega),aP g,aO (by omega),aP g]
 ·rw [aO (by omega),aO (by omega)] at h2 ⊢;rw [aO (by omega),aO (by omega),x6 out (by omega),x6 out (by omega)];exact Uh (jd ho (by omega)) (jd ho (by omega)) h2
def jC(n:Int):Nat->List TOp->Prop
 | _,[]=>True
 | k,o::l=>okOp n k o=true/\jC n (k+1) l
theorem jJ{t:Tp}(h:wS t t.ops.length=true):∀ (l:List TOp) (k:Nat),t.ops.drop k=l->jC t.n k l
 | [],_,_=>trivial
 | o::l,k,e=>by
  have hk:k<t.ops.length:=by
   rcases aR k t.ops.length with g | g
   ·exact g
   ·rw [List.drop_eq_nil_of_le g] at e; cases e
  rw [List.drop_eq_getElem_cons hk] at e;simp only [List.cons.injEq] at e;refine⟨?_,jJ h l (k+1) e.2⟩;have:=ZI h hk;rw [show t.ops.getD k TOp.nil=t.ops[k] by simp [List.getD,hk],e.1] at this;exact this
theorem uw{n:Int}{inp:List (L8)}(hi:allQ inp)(hn:(inp.length:Int)=n):∀ (l:List TOp) (out r:List L8),allQ out->jC n out.length l->runF inp l out=(r,0)->allQ r/\r.map qv=runQ (inp.map qv) l (out.map qv)/\r.length=out.length+l.length
 | [],out,r,ho,_,e=>by
  simp only [runF,bE,and_true] at e;subst e;exact⟨ho,rfl,rfl⟩
 | o::l,out,r,ho,hk,e=>by
  rw [runF] at e;by_cases g:(z9 inp out o).2=0
  ·rw [aO (λq=>q g)] at e;have h1:=VW hi hn ho hk.1 g;have h2:=zh1 hi hn ho hk.1 g;obtain⟨a1,a2,a3⟩:=uw hi hn l (out++[(z9 inp out o).1]) r (Wc ho h1) (by simpa using hk.2) e;refine⟨a1,?_,?_⟩
   ·rw [a2,List.map_append,List.map_singleton,h2]; rfl
   ·rw [a3]; simp; omega
  ·rw [aP g] at e;simp only [bE] at e;exact absurd e.2 g
def VQ(t:Tp)(X:List Rat):Rat:=(runQ X t.ops []).getD (t.ops.length - 1) 0
theorem X5{t:Tp}{inp:List (L8)} : preT t inp=0↔zh t=0/\(inp.length:Int)=t.n/\allQ inp:=by
 unfold preT;by_cases h:zh t=0
 ·rw [aO (λg=>g h)];by_cases h1:(inp.length:Int)=t.n
  ·rw [aO (λg=>g h1),Wt];exact⟨λg=>⟨h,h1,g⟩,λg=>g.2.2⟩
  ·rw [aP h1];constructor
   ·intro g; cases g
   ·intro g; exact absurd g.2.1 h1
 ·rw [aP h];exact⟨λg=>absurd g h,λg=>absurd g.1 h⟩
theorem yP{t:Tp}{x:List (L8)}(hc:zh t=0)(hn:(x.length:Int)=t.n)(hx:allQ x)(h:(qJ (runF x t.ops [])).2=0):errR (qJ (runF x t.ops [])).1=0/\qv (qJ (runF x t.ops [])).1=VQ t (x.map qv):=by
 obtain⟨c1,c2,c3,c4,c5⟩:=qF.1 hc;unfold qJ at h ⊢;by_cases g:(runF x t.ops []).2=0
 ·rw [aO (λq=>q g)];have e:runF x t.ops []=((runF x t.ops []).1,0):=by rw [<- g]
  obtain⟨a1,a2,a3⟩:=uw (n:=t.n) hx hn t.ops [] _ (λy hy=>absurd hy (by simp)) (jJ c5 t.ops 0 (List.drop_zero)) e;simp only [List.length_nil,Nat.zero_add] at a3;have hl:(runF x t.ops []).1.length - 1<(runF x t.ops []).1.length:=by omega
  refine⟨jd a1 hl,?_⟩;unfold VQ;rw [<- x6 _ hl,a2,a3];rfl
 ·rw [aP g] at h; exact absurd h g
theorem yZ{t:Tp}{inp:List (L8)}(h:(z5 t inp).2=0):zh t=0/\(inp.length:Int)=t.n/\allQ inp/\errR (z5 t inp).1=0/\qv (z5 t inp).1=VQ t (inp.map qv):=by
 unfold z5 trun at h ⊢;by_cases g:preT t inp=0
 ·rw [aO (λq=>q g)] at h ⊢;obtain⟨p1,p2,p3⟩:=X5.1 g;obtain⟨a,b⟩:=yP p1 p2 p3 h;exact⟨p1,p2,p3,a,b⟩
 ·rw [aP g] at h;unfold qJ at h;rw [aP g] at h;exact absurd h g
theorem Zp{t:Tp}{inp:List (L8)}(p1:zh t=0)(p2:(inp.length:Int)=t.n)(p3:allQ inp):z5 t inp=qJ (runF inp t.ops []):=by
 unfold z5 trun;rw [aO (λq=>q (X5.2 ⟨p1,p2,p3⟩))]
def addX(h:Rat):List Int->List Rat->List Rat
 | [],X=>X
 | i::l,X=>addX h l (X.set i.toNat (X.getD i.toNat 0+h))
theorem YT{h:L8}(hh:errR h=0){n:Int} : ∀ (l:List Int) (x:List L8),allQ x->(x.length:Int)=n->(∀ i∈l,0<=i/\i<n)->(shL h l x).2=0->allQ (shL h l x).1/\((shL h l x).1.length:Int)=n/\(shL h l x).1.map qv=addX (qv h) l (x.map qv)
 | [],x,hx,hn,_,_=>⟨hx,hn,rfl⟩
 | i::l,x,hx,hn,hl,h0=>by
  have hi:=hl i (by simp);have hil:i.toNat<x.length:=by omega
  rw [shL] at h0 ⊢;by_cases g:(addR (x.getD i.toNat []) h).2=0
  ·rw [aO (λq=>q g)] at h0 ⊢;obtain⟨a,b⟩:=xC (jd hx hil) hh g;obtain⟨c1,c2,c3⟩:=YT hh l _ (Z4 hx a i.toNat) (by simpa using hn) (λj hj=>hl j (by simp [hj])) h0;refine⟨c1,c2,?_⟩;rw [c3,addX,List.map_set,b,x6 x hil]
  ·rw [aP g] at h0; exact absurd h0 g
theorem uQ{t:Tp}{inp:List (L8)}{h:L8}{l:List Int}(hh:errR h=0)(p1:zh t=0)(p2:(inp.length:Int)=t.n)(p3:allQ inp)(hl:∀ i∈l,0<=i/\i<t.n)(h0:(atT t inp h l).2=0) :
  errR (atT t inp h l).1=0/\qv (atT t inp h l).1=VQ t (addX (qv h) l (inp.map qv)):=by
 unfold atT at h0 ⊢;by_cases g:(shL h l inp).2=0
 ·rw [aO (λq=>q g)] at h0 ⊢;obtain⟨a,b,c⟩:=YT hh l inp p3 p2 hl g;obtain⟨d,e⟩:=yP p1 b a h0;exact⟨d,by rw [e,c]⟩
 ·rw [aP g] at h0; exact absurd h0 g
theorem zcz:errR [48]=0/\qv [48]=0:=by decide +kernel
theorem zja{a:L8}(h:errR a=0)(hq:qv a=0):a=[48]:=zcr h zcz.1 (by rw [hq,zcz.2])
theorem zcy{t:Tp}{inp:List (L8)}{l:List Int}{h:L8}(h0:begT t inp l h=0):(z5 t inp).2=0/\(∀ i∈l,0<=i/\i<t.n)/\errR h=0/\qv h≠0:=by
 unfold begT at h0;by_cases g:(z5 t inp).2=0
 ·rw [aO (λq=>q g)] at h0;by_cases g2:jl t l=true
  ·rw [aP g2] at h0;by_cases g3:errR h=0
   ·rw [aO (λq=>q g3)] at h0;by_cases g4:h=[48]
    ·rw [aP g4] at h0; cases h0
    ·refine⟨g,λi hi=> ?_,g3,λq=>g4 (zja g3 q)⟩;unfold jl at g2;rw [bG] at g2;simpa using g2 i hi
   ·rw [aP g3] at h0; exact absurd h0 g3
  ·rw [aO g2] at h0; cases h0
 ·rw [aP g] at h0; exact absurd h0 g
theorem zif{q:L8×Int}(h:(endR q).2=0):q.2=0/\(endR q).1=q.1:=by
 unfold endR at h ⊢;by_cases g:q.2=0
 ·rw [aO (λk=>k g)]; exact⟨g,rfl⟩
 ·rw [aP g] at h; exact absurd h g
theorem Y1{e:Int}{f:L8->L8->L8×Int}{x y:L8}(h:(stp e f x y).2=0):e=0/\stp e f x y=f x y:=by
 unfold stp at h ⊢;by_cases g:e=0
 ·rw [aO (λk=>k g)]; exact⟨g,rfl⟩
 ·rw [aP g] at h; exact absurd h g
structure Dok(t:Tp)(inp:List L8)(l:List Int)(h:L8):Prop where
 c:zh t=0
 n:(inp.length:Int)=t.n
 q:allQ inp
 l:∀ i∈l,0<=i/\i<t.n
 h0:errR h=0
 hq:qv h≠0
theorem Wh{t:Tp}{inp:List (L8)}{l:List Int}{h:L8}(h0:begT t inp l h=0):Dok t inp l h/\errR (z5 t inp).1=0/\qv (z5 t inp).1=VQ t (inp.map qv):=by
 obtain⟨a,b,c,d⟩:=zcy h0;obtain⟨p1,p2,p3,p4,p5⟩:=yZ a;exact⟨⟨p1,p2,p3,b,c,d⟩,p4,p5⟩
theorem ZM{t:Tp}{inp:List (L8)}{i:Int}{h:L8}(h0:(qq t inp i h).2=0):Dok t inp [i] h/\errR (qq t inp i h).1=0/\qv (qq t inp i h).1=(VQ t (addX (qv h) [i] (inp.map qv)) - VQ t (inp.map qv))/qv h:=by
 unfold qq at h0 ⊢;by_cases g:begT t inp [i] h=0
 ·rw [aO (λq=>q g)] at h0 ⊢;obtain⟨D,v1,v2⟩:=Wh g;obtain⟨e1,e2⟩:=zif h0;rw [e2];obtain⟨e3,e4⟩:=Y1 e1;rw [e4] at e1 ⊢;unfold yH at e1 e3 ⊢;obtain⟨e5,e6⟩:=Y1 e3;rw [e6] at e1 e3 ⊢;obtain⟨a1,a2⟩:=uQ D.h0 D.c D.n D.q D.l e5;obtain⟨b1,b2⟩:=yU a1 v1 e3;obtain⟨_,c1,c2⟩:=Vf b1 D.h0 e1;exact⟨D,c1,by rw [c2,b2,a2,v2]⟩
 ·rw [aP g] at h0; exact absurd h0 g
theorem at_one{t:Tp}{inp:List (L8)}{h:L8}{i:Int}(g:(addR (inp.getD i.toNat []) h).2=0):atT t inp h [i]=qJ (runF (inp.set i.toNat (addR (inp.getD i.toNat []) h).1) t.ops []):=by
 unfold atT
 have e:shL h [i] inp=(inp.set i.toNat (addR (inp.getD i.toNat []) h).1,0):=by
  rw [shL,aO (λq=>q g)]; rfl
 rw [e,aO (by simp)]
theorem zjp{t:Tp}{inp:List (L8)}{h:L8}{i:Int}(g:(addR (inp.getD i.toNat []) h).2=14):atT t inp h [i]=([],14):=by
 unfold atT
 have e:shL h [i] inp=([],14):=by
  rw [shL,aP (by rw [g]; decide),g]
 rw [e,aP (by simp)]
theorem zba{t:Tp}{inp:List (L8)}{i:Int}{h:L8}(D:Dok t inp [i] h)(hv:(z5 t inp).2=0)(ha:(atT t inp h [i]).2=14\/(atT t inp h [i]).2=0):(qq t inp i h).2=14\/(qq t inp i h).2=0:=by
 obtain⟨_,_,_,v1,v2⟩:=yZ hv
 have hb:begT t inp [i] h=0:=by
  unfold begT;rw [aO (λq=>q hv),aP,aO (λq=>q D.h0),aO]
  ·intro g; exact D.hq (by rw [g]; exact zcz.2)
  ·unfold jl;rw [bG];intro j hj;have:=D.l j hj;simp [this.1,this.2]
 unfold qq;rw [aO (λq=>q hb)]
 have he:∀ q:L8×Int,q.2=14\/q.2=0->(endR q).2=14\/(endR q).2=0:=by
  intro q hq;unfold endR;split
  ·rename_i g; exact hq.elim .inl λg2=>absurd g2 g
  ·exact .inr rfl
 refine he _ ?_;rcases ha with g | g
 ·have eD:yH t inp i h=([],14):=by unfold yH stp; rw [aP (by rw [g]; decide),g]
  left;unfold stp;rw [eD];simp
 ·have eD:yH t inp i h=subR (atT t inp h [i]).1 (z5 t inp).1:=by unfold yH stp; rw [aO (λq=>q g)]
  rw [eD];obtain⟨a1,a2⟩:=uQ D.h0 D.c D.n D.q D.l g;rcases Wu a1 v1 with g2 | ⟨g2,g3⟩
  ·left; unfold stp; rw [g2]; simp
  ·have s0:(subR (atT t inp h [i]).1 (z5 t inp).1).2=0:=by rw [g2]
   obtain⟨s1,s2⟩:=yU a1 v1 s0;unfold stp;rw [aO (λq=>q s0)];rcases Yl s1 D.h0 with ⟨g4,_⟩ | ⟨_,g4 | ⟨g4,_⟩⟩
   ·exact absurd g4 D.hq
   ·left; rw [g4]
   ·right; rw [g4]
def shO(n:Int)(o:TOp):TOp:=if 3<=o.kind then⟨o.kind,o.a+n,o.b+n,o.rat⟩ else o
def vO(k:Int)(t u:Tp):Tp:=⟨t.n,t.ops++u.ops.map (shO t.ops.length)++[⟨k,(t.ops.length:Int) - 1,(t.ops.length:Int)+u.ops.length - 1,[]⟩]⟩
theorem xy{inp:List (L8)} : ∀ (l1 l2:List TOp) (out:List L8),runF inp (l1++l2) out=if(runF inp l1 out).2≠0 then([],(runF inp l1 out).2) else runF inp l2 (runF inp l1 out).1
 | [],l2,out=>by simp [runF]
 | o::l1,l2,out=>by
  by_cases h:(z9 inp out o).2=0
  ·have e1:∀ l:List TOp,runF inp (o::l) out=runF inp l (out++[(z9 inp out o).1]):=λl=>by rw [runF,aO (λg=>g h)]
   rw [List.cons_append,e1,e1,xy l1 l2]
  ·have e1:∀ l:List TOp,runF inp (o::l) out=([],(z9 inp out o).2):=λl=>by rw [runF,aP h]
   rw [List.cons_append,e1,e1,aP h]
theorem Yu{inp pre out:List (L8)}{n:Int}{o:TOp}(h:okOp n out.length o=true):z9 inp (pre++out) (shO pre.length o)=z9 inp out o:=by
 unfold shO;rcases w4 h with ⟨g,_⟩ | ⟨g,_⟩ | ⟨g,g1,g2,g3,g4,_⟩
 ·rw [aO (by omega)]; unfold z9; rw [aP g,aP g]
 ·rw [aO (by omega)]; unfold z9; rw [aO (show ¬ o.kind=1 by omega),aP g,aO (show ¬ o.kind=1 by omega),aP g]
 ·rw [aP (by omega)];unfold z9;simp only;rw [aO (show ¬ o.kind=1 by omega),aO (show ¬ o.kind=2 by omega),aO (show ¬ o.kind=1 by omega),aO (show ¬ o.kind=2 by omega)]
  have e1:(pre++out).getD (o.a+(pre.length:Int)).toNat []=out.getD o.a.toNat []:=by
   have:(o.a+(pre.length:Int)).toNat=pre.length+o.a.toNat:=by omega
   rw [this]; simp only [List.getD]; rw [List.getElem?_append_right (by omega)]; congr 2; omega
  have e2:(pre++out).getD (o.b+(pre.length:Int)).toNat []=out.getD o.b.toNat []:=by
   have:(o.b+(pre.length:Int)).toNat=pre.length+o.b.toNat:=by omega
   rw [this]; simp only [List.getD]; rw [List.getElem?_append_right (by omega)]; congr 2; omega
  rw [e1,e2]
theorem YV{inp pre:List (L8)}{n:Int} : ∀ (l:List TOp) (out:List L8),jC n out.length l->runF inp (l.map (shO pre.length)) (pre++out)=if(runF inp l out).2≠0 then([],(runF inp l out).2) else(pre++(runF inp l out).1,0)
 | [],out,_=>by simp [runF]
 | o::l,out,h=>by
  obtain⟨h1,h2⟩:=h;by_cases g:(z9 inp out o).2=0
  ·have e1:runF inp (o::l) out=runF inp l (out++[(z9 inp out o).1]):=by rw [runF,aO (λq=>q g)]
   have e2:runF inp ((o::l).map (shO pre.length)) (pre++out)=runF inp (l.map (shO pre.length)) (pre++out++[(z9 inp out o).1]):=by rw [List.map_cons,runF,Yu h1,aO (λq=>q g)]
   rw [e1,e2,List.append_assoc,YV l _ (by simpa using h2)]
  ·have e1:runF inp (o::l) out=([],(z9 inp out o).2):=by rw [runF,aP g]
   have e2:runF inp ((o::l).map (shO pre.length)) (pre++out)=([],(z9 inp out o).2):=by rw [List.map_cons,runF,Yu h1,aP g]
   rw [e1,e2,aP g]
theorem vI{n:Int} : ∀ (l1 l2:List TOp) (k:Nat),jC n k l1->jC n (k+l1.length) l2->jC n k (l1++l2)
 | [],l2,k,_,h=>by simpa using h
 | o::l1,l2,k,h1,h=>by
  refine⟨h1.1,vI l1 l2 (k+1) h1.2 ?_⟩;have:k+1+l1.length=k+(o::l1).length:=by simp; omega
  rw [this]; exact h
theorem zgu{n:Int}{k m:Nat}{o:TOp}(h:okOp n k o=true):okOp n (m+k) (shO m o)=true:=by
 unfold shO;rcases w4 h with ⟨g,g1,g2,g3,g4⟩ | ⟨g,g1,g2,g3⟩ | ⟨g,g1,g2,g3,g4,g5⟩
 ·rw [aO (by omega)]; unfold okOp; rw [aP g]; simp [g1,g2,g3,g4]
 ·rw [aO (by omega)]; unfold okOp; rw [aO (show ¬ o.kind=1 by omega),aP g]; simp [g1,g2,g3]
 ·rw [aP (by omega)]; unfold okOp; simp only; rw [aO (show ¬ o.kind=1 by omega),aO (show ¬ o.kind=2 by omega),aP (show 3<=o.kind/\o.kind<=6 by omega)];simp only [g5,bA,aK];exact⟨⟨⟨by omega,by omega⟩,by omega,by omega⟩,trivial⟩
theorem Wf{n:Int}{m:Nat} : ∀ (l:List TOp) (k:Nat),jC n k l->jC n (m+k) (l.map (shO m))
 | [],_,_=>trivial
 | o::l,k,h=>⟨zgu h.1,Wf l (k+1) h.2⟩
theorem JP{n:Int} : ∀ (l:List TOp) (k j:Nat),jC n k l->j<l.length->okOp n (k+j) (l.getD j TOp.nil)=true
 | [],_,_,_,h=>by simp at h
 | o::l,k,0,h,_=>h.1
 | o::l,k,j+1,h,hj=>by
  have:=JP l (k+1) j h.2 (by simpa using hj);rw [show k+1+j=k+(j+1) by omega] at this;exact this
theorem KA{t:Tp}(h:jC t.n 0 t.ops):wS t t.ops.length=true:=by
 unfold wS;rw [bG];intro j hj;have:=JP t.ops 0 j h (List.mem_range.1 hj);rw [Nat.zero_add] at this;exact this
theorem X4{k:Int}{t u:Tp}(hk:k=3\/k=4)(ht:zh t=0)(hu:zh u=0)(hn:t.n=u.n)(hl:t.ops.length+u.ops.length<=400):zh (vO k t u)=0:=by
 obtain⟨a1,a2,a3,a4,a5⟩:=qF.1 ht;obtain⟨b1,b2,b3,b4,b5⟩:=qF.1 hu;refine qF.2 ⟨by simp [vO]; omega,a2,a3,by simp [vO]; omega,KA ?_⟩;have f1:=jJ a5 t.ops 0 List.drop_zero;have f2:=jJ b5 u.ops 0 List.drop_zero;rw [<- hn] at f2;refine vI _ _ 0 (vI _ _ 0 f1 ?_) ⟨?_,trivial⟩
 ·have:=Wf (m:=t.ops.length) u.ops 0 f2;rw [Nat.add_zero] at this;rw [Nat.zero_add];exact this
 ·unfold okOp;simp only [bO,List.length_map,Nat.zero_add];rw [aO (show ¬ k=1 by omega),aO (show ¬ k=2 by omega),aP (show 3<=k/\k<=6 by omega)];simp only [bA,aK];exact⟨⟨⟨by omega,by omega⟩,by omega,by omega⟩,trivial⟩
theorem zdh{r:List L8×Int}(h:(qJ r).2=0):r.2=0/\(qJ r).1=r.1.getD (r.1.length - 1) []:=by
 unfold qJ at h ⊢;by_cases g:r.2=0
 ·rw [aO (λq=>q g)]; exact⟨g,rfl⟩
 ·rw [aP g] at h; exact absurd h g
theorem Ji{k:Int}{t u:Tp}{x:List (L8)}(hk:k=3\/k=4)(ht:zh t=0)(hu:zh u=0)(hn:t.n=u.n)(hx:allQ x)(hxl:(x.length:Int)=t.n)(h1:(qJ (runF x t.ops [])).2=0)(h2:(qJ (runF x u.ops [])).2=0) :
  qJ (runF x (vO k t u).ops [])=arR k (qJ (runF x t.ops [])).1 (qJ (runF x u.ops [])).1:=by
 obtain⟨a1,a2,a3,a4,a5⟩:=qF.1 ht;obtain⟨b1,b2,b3,b4,b5⟩:=qF.1 hu;obtain⟨q1,_⟩:=yP ht hxl hx h1;obtain⟨q2,_⟩:=yP hu (by rw [<- hn]; exact hxl) hx h2;obtain⟨e1,l1⟩:=zdh h1;obtain⟨e2,l2⟩:=zdh h2;have f1:=jJ a5 t.ops 0 List.drop_zero;have f2:=jJ b5 u.ops 0 List.drop_zero;obtain⟨p1,_,n1⟩:=uw hx hxl t.ops [] _ (λ_ h=>absurd h (by simp)) f1 (show runF x t.ops []=((runF x t.ops []).1,0) by rw [<- e1]);obtain⟨p2,_,n2⟩:=uw hx (by rw [<- hn]; exact hxl) u.ops [] _ (λ_ h=>absurd h (by simp)) f2 (show runF x u.ops []=((runF x u.ops []).1,0) by rw [<- e2]);simp only [List.length_nil,Nat.zero_add] at n1 n2;rw [l1] at q1 ⊢;rw [l2] at q2 ⊢;have f3:=YV (inp:=x) (pre:=(runF x t.ops []).1) u.ops [] f2;rw [aO (λq=>q e2),List.append_nil] at f3;rw [n1] at f3
 have er:runF x (vO k t u).ops []=runF x [⟨k,(t.ops.length:Int) - 1,(t.ops.length:Int)+u.ops.length - 1,[]⟩] ((runF x t.ops []).1++(runF x u.ops []).1):=by
  unfold vO;simp only
  have g:runF x (t.ops++u.ops.map (shO t.ops.length)) []=((runF x t.ops []).1++(runF x u.ops []).1,0):=by
   rw [xy,aO (λq=>q e1),f3]
  rw [xy,g,aO (by simp)]
 rw [er];generalize hr:(runF x t.ops []).1=r at *
 generalize hs:(runF x u.ops []).1=s at *
 rw [runF]
 have es:z9 x (r++s) ⟨k,(t.ops.length:Int) - 1,(t.ops.length:Int)+u.ops.length - 1,[]⟩=arR k (r.getD (r.length - 1) []) (s.getD (s.length - 1) []):=by
  unfold z9;simp only;rw [aO (show ¬ k=1 by omega),aO (show ¬ k=2 by omega)];have c1:((t.ops.length:Int) - 1).toNat=r.length - 1:=by omega
  have c2:((t.ops.length:Int)+u.ops.length - 1).toNat=r.length+(s.length - 1):=by omega
  rw [c1,c2];congr 1
  ·simp only [List.getD]; rw [bL (by omega)]
  ·simp only [List.getD]; rw [List.getElem?_append_right (by omega)]; congr 2; omega
 rw [es];by_cases g:(arR k (r.getD (r.length - 1) []) (s.getD (s.length - 1) [])).2=0
 ·rw [aO (λq=>q g),runF];unfold qJ;simp only;rw [aO (by simp)]
  have:(r++s++[(arR k (r.getD (r.length - 1) []) (s.getD (s.length - 1) [])).1]).getD ((r++s++[(arR k (r.getD (r.length - 1) []) (s.getD (s.length - 1) [])).1]).length - 1) []=(arR k (r.getD (r.length - 1) []) (s.getD (s.length - 1) [])).1:=by
   simp [List.getD]
  rw [this,<- g]
 ·rw [aP g];unfold qJ;simp only;rw [aP g];exact Prod.ext (YJ q1 q2 g).symm rfl
theorem VN{k:Int}{a b:L8}(hk:k=3\/k=4)(ha:errR a=0)(hb:errR b=0):(arR k a b).2=14\/(arR k a b).2=0:=by
 unfold arR;rcases hk with g | g
 ·rw [aP g]; rcases Vi ha hb with h | ⟨h,_⟩<;>rw [h]<;>simp
 ·rw [aO (show ¬ k=3 by omega),aP g]; rcases Wu ha hb with h | ⟨h,_⟩<;>rw [h]<;>simp
theorem zfd{k:Int}{t u:Tp}{inp:List (L8)}{i:Int}{h:L8}(hk:k=3\/k=4)(hn:t.n=u.n)(hl:t.ops.length+u.ops.length<=400)(h1:(qq t inp i h).2=0)(h2:(qq u inp i h).2=0)
  (h3:(arR k (qq t inp i h).1 (qq u inp i h).1).2=0):(qq (vO k t u) inp i h).2=14\/(qq (vO k t u) inp i h).2=0/\(qq (vO k t u) inp i h).1=(arR k (qq t inp i h).1 (qq u inp i h).1).1:=by
 obtain⟨D,r1,r2⟩:=ZM h1;obtain⟨E,s1,s2⟩:=ZM h2;have hc:=X4 hk D.c E.c hn hl
 have beg:∀ {v:Tp},(qq v inp i h).2=0->begT v inp [i] h=0/\(atT v inp h [i]).2=0:=by
  intro v hv
  have hb:begT v inp [i] h=0:=by
   refine bM λg=> ?_
   unfold qq at hv;rw [aP g] at hv;exact g hv
  refine⟨hb,?_⟩;unfold qq at hv;rw [aO (λq=>q hb)] at hv;have:=(Y1 (zif hv).1).1;unfold yH at this;exact(Y1 this).1
 obtain⟨g1,g2⟩:=beg h1;obtain⟨g3,g4⟩:=beg h2;obtain⟨_,v1,v2⟩:=Wh g1;obtain⟨_,w1,w2⟩:=Wh g3;have v0:=(zcy g1).1;have w0:=(zcy g3).1;have DJ:Dok (vO k t u) inp [i] h:=⟨hc,D.n,D.q,D.l,D.h0,D.hq⟩
 have ev:z5 (vO k t u) inp=arR k (z5 t inp).1 (z5 u inp).1:=by
  have x1:=Zp D.c D.n D.q;have x2:=Zp E.c E.n E.q;rw [Zp hc DJ.n DJ.q,x1,x2];exact Ji hk D.c E.c hn D.q D.n (by rw [<- x1]; exact v0) (by rw [<- x2]; exact w0)
 by_cases hv:(z5 (vO k t u) inp).2=0
 ·have il:=D.l i (by simp);have hil:i.toNat<inp.length:=by have:=D.n; omega
  have f0:(addR (inp.getD i.toNat []) h).2=0:=by
   rcases Vi (jd D.q hil) D.h0 with g | ⟨g,_⟩
   ·rw [zjp (by rw [g])] at g2; cases g2
   ·rw [g]
  obtain⟨x1,x2⟩:=xC (jd D.q hil) D.h0 f0
  have ea:atT (vO k t u) inp h [i]=arR k (atT t inp h [i]).1 (atT u inp h [i]).1:=by
   have y1:atT t inp h [i]=_:=at_one f0;have y2:atT u inp h [i]=_:=at_one f0;rw [at_one f0,y1,y2];exact Ji hk D.c E.c hn (Z4 D.q x1 _) (by simpa using D.n) (by rw [<- y1]; exact g2) (by rw [<- y2]; exact g4)
  obtain⟨a1,a2⟩:=uQ D.h0 D.c D.n D.q D.l g2;obtain⟨b1,b2⟩:=uQ D.h0 E.c E.n E.q E.l g4;rcases zba DJ hv (by rw [ea]; exact VN hk a1 b1) with g | g
  ·exact .inl g
  ·right;obtain⟨_,z1,z2⟩:=ZM g;obtain⟨g5,g6⟩:=beg g;obtain⟨m1,m2⟩:=uQ D.h0 hc DJ.n DJ.q DJ.l g6;obtain⟨_,n1,n2⟩:=Wh g5;have c1:=Uh a1 b1 (k:=k) (by rw [<- ea]; exact g6);have c2:=Uh v1 w1 (k:=k) (by rw [<- ev]; exact hv);have c3:=Uh r1 s1 h3;rw [<- ea,m2,a2,b2] at c1;rw [<- ev,n2,v2,w2] at c2;refine⟨g,zcr z1 (Xr r1 s1 h3) ?_⟩;rw [z2,c1,c2,c3,r2,s2];have:=D.hq;unfold arQ;rcases hk with q | q
   ·simp only [q,if_true]; grind
   ·simp only [q]; simp only [show ¬ ((4:Int)=3) by decide,if_false,if_true]; grind
 ·left
  have hb:begT (vO k t u) inp [i] h=14:=by
   unfold begT;rw [aP hv];rcases VN hk v1 w1 with g | g
   ·rw [ev]; exact g
   ·rw [ev] at hv; exact absurd g hv
  unfold qq;rw [aP (by rw [hb]; decide),hb]
end Go.Nov
end
section
namespace Go.Nov
def askE(x:Ex)(want day:Int)(f:List Fx)(c:List Ch):Int:=if x.errX≠0 then x.errX else if x.zx≠want then 32 else if errE f c≠0 then errE f c else if dayB day then 0 else 2
def zW(x:Ex)(day:Int)(f:List Fx)(c:List Ch):L8×Int:=if askE x 1 day f c≠0 then([],askE x 1 day f c) else if(x.ev f day).e≠0 then([],(x.ev f day).e) else((x.ev f day).v,0)
def uj(x:Ex)(day:Int)(f:List Fx)(c:List Ch):Bool×Int:=if askE x 2 day f c≠0 then(false,askE x 2 day f c) else if(x.ev f day).g≠0 then(false,(x.ev f day).g) else((x.ev f day).b,0)
theorem zkz{x:Ex}{want day:Int}{f:List Fx}{c:List Ch}(h:x.errX≠0):askE x want day f c=x.errX:=by unfold askE; rw [aP h]
theorem zl3{x:Ex}{want day:Int}{f:List Fx}{c:List Ch}(h:x.errX=0)(h2:¬ x.zx=want):askE x want day f c=32:=by unfold askE; rw [aO (by rw [h]; simp),aP h2]
theorem zd4{x:Ex}{want day:Int}{f:List Fx}{c:List Ch}(h:x.errX=0)(h2:x.zx=want):askE x want day f c=if errE f c=0 then(if dayB day=true then 0 else 2) else errE f c:=by
 unfold askE;rw [aO (by rw [h]; simp),aO (by rw [h2]; simp)];by_cases g:errE f c=0
 ·rw [aP g,aO (by rw [g]; simp)]
 ·rw [aO g,aP g]
theorem QB{x:Ex}{want day:Int}{f:List Fx}{c:List Ch}(h:askE x want day f c=0):x.errX=0/\x.zx=want/\errE f c=0/\dayB day=true:=by
 unfold askE at h;split at h
 ·rename_i g; exact absurd h g
 ·rename_i g1;split at h
  ·cases h
  ·rename_i g2;split at h
   ·rename_i g; exact absurd h g
   ·rename_i g3;split at h
    ·rename_i g4;exact⟨Classical.not_not.1 g1,Classical.not_not.1 g2,Classical.not_not.1 g3,g4⟩
    ·cases h
end Go.Nov
end
section
namespace Go.Nov
open Go.Sx
structure Pt(x y:Ex):Prop where
 x0:x.errX=0
 x1:x.zx=1
 y0:y.errX=0
 y1:y.zx=1
 s:x.size+y.size<500
 d1:x.depth<60
 d2:y.depth<60
section
variable {x y:Ex} {day:Int} {f:List Fx} {c:List Ch} (h:Pt x y)
include h
end
end Go.Nov
end
section
namespace Go.Nov
open Go.Sx
structure RS where
 ops:List TOp
 inp:List Fx
namespace RS
def put(s:RS)(o:TOp):RS:=⟨s.ops++[o],s.inp⟩
def idx(s:RS)(n:L8)(d:Int):Nat:=s.inp.findIdx λx=>decide (x.name=n)&&decide (x.date=d)
def fix(f:List Fx)(n:L8)(d:Int)(s:RS):RS:=if s.idx n d<s.inp.length then s.put ⟨1,s.idx n d,0,[]⟩ else⟨s.ops++[⟨1,s.inp.length,0,[]⟩],s.inp++[⟨n,d,(qk f n d).1⟩]⟩
end RS
def rcN(f:List Fx)(day k:Int)(r n:L8)(d:Int)(l:List Ev)(L:List (RS->RS))(s:RS):RS:=
 if k=1 then s.put ⟨2,0,0,r⟩ else if k=2 then s.fix f n d else if k=3 then s.fix f n day
 else if k=9 then(if(l.getD 0 Ev.nil).b then L.getD 1 id s else L.getD 2 id s)
 else if k=7 then(if(cmpR (l.getD 0 Ev.nil).v (l.getD 1 Ev.nil).v).1<0 then L.getD 1 id s else L.getD 0 id s)
 else if k=8 then(if 0<(cmpR (l.getD 0 Ev.nil).v (l.getD 1 Ev.nil).v).1 then L.getD 1 id s else L.getD 0 id s)
 else(L.getD 1 id (L.getD 0 id s)).put ⟨k - 1,((L.getD 0 id s).ops.length:Int) - 1,((L.getD 1 id (L.getD 0 id s)).ops.length:Int) - 1,[]⟩
namespace Ex
mutual
def rc(f:List Fx)(day:Int):Ex->RS->RS
 | mk k r n d s=>rcN f day k r n d (evs f day s) (rcs f day s)
def rcs(f:List Fx)(day:Int):List Ex->List (RS->RS)
 | []=>[]
 | x::l=>rc f day x::rcs f day l
end
theorem zdx(f:List Fx)(day:Int)(x:Ex):x.rc f day=rcN f day x.kind x.rat x.name x.date (evs f day x.sub) (rcs f day x.sub):=by cases x; rw [rc]; rfl
theorem x9{f:List Fx}{day:Int}{s:List Ex}{i:Nat}(h:i<s.length):(rcs f day s).getD i id=(s.getD i nil).rc f day:=by
 induction s generalizing i with
 | nil=>simp at h
 | cons x s ih=>
  rw [rcs];cases i with
  | zero=>rfl
  | succ i=>exact ih (by simpa using h)
end Ex
def InvR(f:List Fx)(s:RS):Prop:=(∀ i j,i<j->j<s.inp.length->¬ ((s.inp.getD i Fx.nil).name=(s.inp.getD j Fx.nil).name/\(s.inp.getD i Fx.nil).date=(s.inp.getD j Fx.nil).date))/\∀ j,j<s.inp.length->qk f (s.inp.getD j Fx.nil).name (s.inp.getD j Fx.nil).date=((s.inp.getD j Fx.nil).value,true)
structure SemR(v:L8)(m:Nat)(s s':RS)(new:List TOp)(ext:List Fx):Prop where
 ops:s'.ops=s.ops++new
 inp:s'.inp=s.inp++ext
 pos:0<new.length
 le:new.length<=m
 ext:ext.length<=new.length
 ok:jC (s'.inp.length:Int) s.ops.length new
 run:∀ X out:List L8,(∀ j,j<s'.inp.length->X.getD j []=(s'.inp.getD j Fx.nil).value)->out.length=s.ops.length->∃ vals,runF X new out=(out++vals,0)/\vals.length=new.length/\(out++vals).getD (s.ops.length+new.length - 1) []=v
theorem U5{n m:Int}{k:Nat}{o:TOp}(h:okOp n k o=true)(hm:n<=m):okOp m k o=true:=by
 unfold okOp at h ⊢;split
 ·rename_i g; rw [aP g] at h;simp only [bA,aK] at h ⊢;exact⟨⟨⟨h.1.1.1,by omega⟩,h.1.2⟩,h.2⟩
 ·rename_i g; rw [aO g] at h; exact h
theorem Zd{n m:Int}(hm:n<=m):∀ (l:List TOp) (k:Nat),jC n k l->jC m k l
 | [],_,_=>trivial
 | o::l,k,h=>⟨U5 h.1 hm,Zd hm l (k+1) h.2⟩
theorem vY{α:Type}{a b:List α}{z:α}{i:Nat}(h:i<a.length):(a++b).getD i z=a.getD i z:=by
 simp only [List.getD,bL h]
theorem WD{v:L8}{s:RS}{o:TOp}{ext:List Fx}(hx:ext.length<=1)(h:okOp ((s.inp++ext).length:Int) s.ops.length o=true)
  (hv:∀ X out:List L8,(∀ j,j<(s.inp++ext).length->X.getD j []=((s.inp++ext).getD j Fx.nil).value)->out.length=s.ops.length->z9 X out o=(v,0)):SemR v 1 s ⟨s.ops++[o],s.inp++ext⟩ [o] ext:=by
 refine⟨rfl,rfl,by simp,by simp,hx,⟨h,trivial⟩,λX out hX ho=>⟨[v],?_,rfl,?_⟩⟩
 ·simp only [runF,hv X out hX ho]; rfl
 ·simp [List.getD,ho]
theorem YM{f:List Fx}{n:L8}{d:Int}{v:L8}{s:RS}(hs:InvR f s)(hv:qk f n d=(v,true)):∃ new ext,SemR v 1 s (s.fix f n d) new ext/\InvR f (s.fix f n d):=by
 unfold RS.fix;split
 ·rename_i g;have hp:=List.findIdx_getElem (w:=g);simp only [bA,aK] at hp;have e:s.inp.getD (s.idx n d) Fx.nil=s.inp[s.idx n d]:=by simp [List.getD,g]
  refine⟨[⟨1,s.idx n d,0,[]⟩],[],?_,hs⟩;have:=WD (v:=v) (s:=s) (o:=⟨1,s.idx n d,0,[]⟩) (ext:=[]) (by simp) ?_ ?_
  ·simpa [RS.put] using this
  ·unfold okOp;simp;exact g
  ·intro X out hX ho;unfold z9;rw [aP rfl];have h1:=hX (s.idx n d) (by simpa using g);have h2:=hs.2 (s.idx n d) g;rw [e] at h2;rw [List.append_nil,e] at h1;have hp1:s.inp[s.idx n d].name=n:=hp.1;have hp2:s.inp[s.idx n d].date=d:=hp.2;rw [hp1,hp2,hv] at h2;have h3:v=s.inp[s.idx n d].value:=congrArg Prod.fst h2;show(X.getD ((s.idx n d:Int)).toNat [],(0:Int))=(v,0);rw [aD,h1,<- h3]
 ·rename_i g;refine⟨[⟨1,s.inp.length,0,[]⟩],[⟨n,d,(qk f n d).1⟩],?_,?_,?_⟩
  ·refine WD (by simp) ?_ ?_
   ·unfold okOp;simp;omega
   ·intro X out hX ho;unfold z9;rw [aP rfl];have h1:=hX s.inp.length (by simp);show(X.getD ((s.inp.length:Int)).toNat [],(0:Int))=(v,0);rw [aD,h1,hv];simp [List.getD]
  ·intro i j hij hj;simp only [bO,aL,List.length_nil] at hj;rcases aR j s.inp.length with q | q
   ·rw [vY (by omega),vY q]; exact hs.1 i j hij q
   ·obtain rfl:j=s.inp.length:=by omega
    rw [vY hij];have e:(s.inp++[(⟨n,d,(qk f n d).1⟩:Fx)]).getD s.inp.length Fx.nil=⟨n,d,(qk f n d).1⟩:=by simp [List.getD]
    rw [e];intro w;have hi2:¬ i<s.idx n d->False:=λhh=>by omega
    have:i<s.idx n d:=bM λhh=>by omega
    have:=List.not_of_lt_findIdx this;have e2:s.inp.getD i Fx.nil=s.inp[i]:=by simp [List.getD,hij]
    rw [e2] at w;simp [w.1,w.2] at this
  ·intro j hj;simp only [bO,aL,List.length_nil] at hj;rcases aR j s.inp.length with q | q
   ·rw [vY q]; exact hs.2 j q
   ·obtain rfl:j=s.inp.length:=by omega
    have e:(s.inp++[(⟨n,d,(qk f n d).1⟩:Fx)]).getD s.inp.length Fx.nil=⟨n,d,(qk f n d).1⟩:=by simp [List.getD]
    rw [e];show qk f n d=_;rw [hv]
theorem zhi{v0 v1 v:L8}{m0 m1:Nat}{s s1 s2:RS}{n0 n1:List TOp}{e0 e1:List Fx}{k:Int}(h0:SemR v0 m0 s s1 n0 e0)(h1:SemR v1 m1 s1 s2 n1 e1)(hk:3<=k/\k<=5)(hv:arR k v0 v1=(v,0)) :
  SemR v (1+m0+m1) s (s2.put ⟨k,(s1.ops.length:Int) - 1,(s2.ops.length:Int) - 1,[]⟩) (n0++n1++[⟨k,(s1.ops.length:Int) - 1,(s2.ops.length:Int) - 1,[]⟩]) (e0++e1):=by
 have l1:s1.ops.length=s.ops.length+n0.length:=by rw [h0.ops]; simp
 have l2:s2.ops.length=s.ops.length+n0.length+n1.length:=by rw [h1.ops,bO,l1]
 have p0:=h0.pos;have p1:=h1.pos;have i2:s2.inp.length=s1.inp.length+e1.length:=by rw [h1.inp]; simp
 refine⟨?_,?_,by simp; omega,?_,by have:=h0.ext; have:=h1.ext; simp only [bO,aL,List.length_nil]; omega,?_,?_⟩
 ·have e:s2.ops=s.ops++(n0++n1):=by rw [h1.ops,h0.ops,List.append_assoc]
  show s2.ops++[_]=s.ops++(n0++n1++[_]);rw [<- List.append_assoc,<- e]
 ·simp only [RS.put,h1.inp,h0.inp,List.append_assoc]
 ·have:=h0.le; have:=h1.le;simp only [bO,aL,List.length_nil]; omega
 ·refine vI _ _ _ (vI _ _ _ ?_ ?_) ⟨?_,trivial⟩
  ·exact Zd (by show(s1.inp.length:Int)<=(s2.inp.length:Int); omega) _ _ h0.ok
  ·rw [<- l1]; exact h1.ok
  ·unfold okOp;rw [aO (by show ¬ k=1; omega),aO (by show ¬ k=2; omega),aP (by show 3<=k/\k<=6; omega)];simp only [bO,bA,aK];refine⟨⟨⟨by omega,by omega⟩,by omega,by omega⟩,trivial⟩
 ·intro X out hX ho;have hX2:∀ j,j<s2.inp.length->X.getD j []=(s2.inp.getD j Fx.nil).value:=hX;obtain⟨w0,r0,q0,z0⟩:=h0.run X out (λj hj=>by rw [hX2 j (by omega),h1.inp,vY hj]) ho;obtain⟨w1,r1,q1,z1⟩:=h1.run X (out++w0) hX2 (by rw [bO,ho,q0,l1]);refine⟨w0++w1++[v],?_,by simp [q0,q1],?_⟩
  ·rw [xy,xy,r0];simp only [ne_eq,not_true_eq_false,if_false];rw [r1];simp only [ne_eq,not_true_eq_false,if_false]
   have a1:(out++w0++w1).getD (((s1.ops.length:Int) - 1).toNat) []=v0:=by
    rw [show((s1.ops.length:Int) - 1).toNat=s.ops.length+n0.length - 1 by omega,vY (by rw [bO,ho,q0]; omega)];exact z0
   have a2:(out++w0++w1).getD (((s2.ops.length:Int) - 1).toNat) []=v1:=by
    rw [show((s2.ops.length:Int) - 1).toNat=s1.ops.length+n1.length - 1 by omega];exact z1
   have a3:z9 X (out++w0++w1) ⟨k,(s1.ops.length:Int) - 1,(s2.ops.length:Int) - 1,[]⟩=(v,0):=by
    unfold z9;rw [aO (by show ¬ k=1; omega),aO (by show ¬ k=2; omega)];show arR k _ _=_;rw [a1,a2,hv]
   simp only [runF,a3,ne_eq,not_true_eq_false,if_false];simp [List.append_assoc]
  ·have e:s.ops.length+(n0++n1++[(⟨k,(s1.ops.length:Int) - 1,(s2.ops.length:Int) - 1,[]⟩:TOp)]).length - 1=(out++(w0++w1)).length:=by
    simp only [bO,aL,List.length_nil]; omega
   rw [e,<- List.append_assoc];simp [List.getD]
theorem SemR.mono{v:L8}{m m':Nat}{s s':RS}{new:List TOp}{ext:List Fx}(h:SemR v m s s' new ext)(hm:m<=m'):SemR v m' s s' new ext:=⟨h.ops,h.inp,h.pos,bP h.le hm,h.ext,h.ok,h.run⟩
theorem zcc{f:List Fx}{n:L8}{d:Int}(h:(fixR f n d).2=0):qk f n d=((fixR f n d).1,true):=by
 unfold fixR at h ⊢;by_cases g:(qk f n d).2=true
 ·rw [aP g,<- g]
 ·rw [aO g] at h; cases h
theorem Xq{l0 l1:Ev}{g:L8->L8->L8×Int}(h:(ka [] l0 l1 g).2=0):l0.e=0/\l1.e=0/\ka [] l0 l1 g=g l0.v l1.v:=by
 unfold ka at h ⊢;by_cases a:l0.e=0
 ·by_cases b:l1.e=0
  ·rw [aO (λq=>q a),aO (λq=>q b)]; exact⟨a,b,rfl⟩
  ·rw [aO (λq=>q a),aP b] at h; exact absurd h b
 ·rw [aP a] at h; exact absurd h a
theorem ev_v(f:List Fx)(day:Int)(x:Ex):(x.ev f day).v=(valN f day x.kind x.rat x.name x.date (Ex.evs f day x.sub)).1/\(x.ev f day).e=(valN f day x.kind x.rat x.name x.date (Ex.evs f day x.sub)).2:=by
 rw [Ex.zl0]; exact⟨rfl,rfl⟩
theorem vZ{x:Ex}{i:Nat}(h:i<x.sub.length):(x.sub.getD i Ex.nil).size<x.size:=by
 have:=Ex.zQ h;rw [Ex.size_eq x]; omega
theorem JW{s:List Ex}(h:s.length=2):(s.getD 0 Ex.nil).size+(s.getD 1 Ex.nil).size=Ex.zR s:=by
 match s,h with
 | [a,b],_=>simp [Ex.zR]
theorem zjr{f:List Fx}(hf:f.all okF=true){day:Int} : ∀ (N:Nat) (x:Ex),x.size<=N->x.zx=1->(x.ev f day).e=0->∀ s:RS,InvR f s->∃ new ext,SemR (x.ev f day).v x.size s (x.rc f day s) new ext/\InvR f (x.rc f day s):=by
 intro N
 induction N with
 | zero=>intro x h; have:=Ex.size_pos x; omega
 | succ N ih=>
  intro x hN hs he s hI;obtain⟨e1,e2⟩:=ev_v f day x;rw [e2] at he;rw [e1,Ex.zdx];have hpos:=Ex.size_pos x;rcases Ex.xE hs with ⟨hk,hr⟩ | hk | hk | ⟨hk,hl,s0,s1⟩ | ⟨hk,hl,s0,s1,s2⟩
  ·have ev:valN f day x.kind x.rat x.name x.date (Ex.evs f day x.sub)=(x.rat,0):=by unfold valN; rw [aP hk]
   have er:rcN f day x.kind x.rat x.name x.date (Ex.evs f day x.sub) (Ex.rcs f day x.sub) s=⟨s.ops++[⟨2,0,0,x.rat⟩],s.inp++[]⟩:=by unfold rcN; rw [aP hk]; simp [RS.put]
   rw [ev,er];refine⟨[⟨2,0,0,x.rat⟩],[],(WD (by simp) ?_ ?_).mono hpos,by simpa [InvR] using hI⟩
   ·unfold okOp; simp [hr]
   ·intro X out _ _; unfold z9; rfl
  ·have ev:valN f day x.kind x.rat x.name x.date (Ex.evs f day x.sub)=fixR f x.name x.date:=by unfold valN; rw [aO (by omega),aP hk]
   have er:rcN f day x.kind x.rat x.name x.date (Ex.evs f day x.sub) (Ex.rcs f day x.sub) s=s.fix f x.name x.date:=by unfold rcN; rw [aO (by omega),aP hk]
   rw [ev] at he;rw [ev,er];obtain⟨new,ext,h1,h2⟩:=YM hI (zcc he);exact⟨new,ext,h1.mono hpos,h2⟩
  ·have ev:valN f day x.kind x.rat x.name x.date (Ex.evs f day x.sub)=fixR f x.name day:=by unfold valN; rw [aO (by omega),aO (by omega),aP hk]
   have er:rcN f day x.kind x.rat x.name x.date (Ex.evs f day x.sub) (Ex.rcs f day x.sub) s=s.fix f x.name day:=by unfold rcN; rw [aO (by omega),aO (by omega),aP hk]
   rw [ev] at he;rw [ev,er];obtain⟨new,ext,h1,h2⟩:=YM hI (zcc he);exact⟨new,ext,h1.mono hpos,h2⟩
  ·have z0:=vZ (x:=x) (i:=0) (by omega);have z1:=vZ (x:=x) (i:=1) (by omega);have w:=JW hl;have wx:=Ex.size_eq x;have g0:=Ex.zT (f:=f) (day:=day) (s:=x.sub) (i:=0) (by omega);have g1:=Ex.zT (f:=f) (day:=day) (s:=x.sub) (i:=1) (by omega);have r0:=Ex.x9 (f:=f) (day:=day) (s:=x.sub) (i:=0) (by omega);have r1:=Ex.x9 (f:=f) (day:=day) (s:=x.sub) (i:=1) (by omega)
   have ev:valN f day x.kind x.rat x.name x.date (Ex.evs f day x.sub)=ka [] ((x.sub.getD 0 Ex.nil).ev f day) ((x.sub.getD 1 Ex.nil).ev f day) (opR x.kind):=by
    unfold valN; rw [aO (by omega),aO (by omega),aO (by omega),aO (by omega),g0,g1]
   rw [ev] at he;obtain⟨b0,b1,b2⟩:=Xq he;rw [ev,b2];rw [b2] at he;have i0:=ih _ (by omega) s0 b0;have i1:=ih _ (by omega) s1 b1;generalize hx0:x.sub.getD 0 Ex.nil=x0 at *
   generalize hx1:x.sub.getD 1 Ex.nil=x1 at *
   unfold rcN;rw [aO (by omega),aO (by omega),aO (by omega),aO (by omega),g0,g1,r0,r1];by_cases k7:x.kind=7
   ·rw [aP k7];rw [k7] at he ⊢;have o:opR 7 (x0.ev f day).v (x1.ev f day).v=if(cmpR (x0.ev f day).v (x1.ev f day).v).2≠0 then([],(cmpR (x0.ev f day).v (x1.ev f day).v).2) else(if(cmpR (x0.ev f day).v (x1.ev f day).v).1<0 then(x1.ev f day).v else(x0.ev f day).v,0):=rfl
    by_cases c:(cmpR (x0.ev f day).v (x1.ev f day).v).2=0
    ·rw [o,aO (λq=>q c)];by_cases d:(cmpR (x0.ev f day).v (x1.ev f day).v).1<0
     ·rw [aP d,aP d];obtain⟨new,ext,h1,h2⟩:=i1 s hI;exact⟨new,ext,h1.mono (by omega),h2⟩
     ·rw [aO d,aO d];obtain⟨new,ext,h1,h2⟩:=i0 s hI;exact⟨new,ext,h1.mono (by omega),h2⟩
    ·rw [o,aP c] at he; exact absurd he c
   rw [aO k7];by_cases k8:x.kind=8
   ·rw [aP k8];rw [k8] at he ⊢;have q0:=Ex.kX hf day x0 s0 b0;have q1:=Ex.kX hf day x1 s1 b1;obtain⟨p1,p2⟩:=zb6 q0 q1;have o:opR 8 (x0.ev f day).v (x1.ev f day).v=if(cmpR (x1.ev f day).v (x0.ev f day).v).2≠0 then([],(cmpR (x1.ev f day).v (x0.ev f day).v).2) else(if(cmpR (x1.ev f day).v (x0.ev f day).v).1<0 then(x1.ev f day).v else(x0.ev f day).v,0):=rfl
    by_cases c:(cmpR (x1.ev f day).v (x0.ev f day).v).2=0
    ·rw [o,aO (λq=>q c)];by_cases d:(cmpR (x1.ev f day).v (x0.ev f day).v).1<0
     ·rw [aP d,aP (p2.1 d)];obtain⟨new,ext,h1,h2⟩:=i1 s hI;exact⟨new,ext,h1.mono (by omega),h2⟩
     ·rw [aO d,aO (λq=>d (p2.2 q))];obtain⟨new,ext,h1,h2⟩:=i0 s hI;exact⟨new,ext,h1.mono (by omega),h2⟩
    ·rw [o,aP c] at he; exact absurd he c
   rw [aO k8]
   have o:opR x.kind (x0.ev f day).v (x1.ev f day).v=arR (x.kind - 1) (x0.ev f day).v (x1.ev f day).v:=by
    unfold opR arR;rcases(show x.kind=4\/x.kind=5\/x.kind=6 by omega) with q | q | q<;>rw [q]<;>simp
   obtain⟨n0,t0,h0,j0⟩:=i0 s hI;obtain⟨n1,t1,h1,j1⟩:=i1 _ j0;refine⟨_,_,(zhi h0 h1 (k:=x.kind - 1) (by omega) ?_).mono (by omega),j1⟩;rw [<- o,<- he]
  ·have z1:=vZ (x:=x) (i:=1) (by omega);have z2:=vZ (x:=x) (i:=2) (by omega);have g0:=Ex.zT (f:=f) (day:=day) (s:=x.sub) (i:=0) (by omega);have g1:=Ex.zT (f:=f) (day:=day) (s:=x.sub) (i:=1) (by omega);have g2:=Ex.zT (f:=f) (day:=day) (s:=x.sub) (i:=2) (by omega);have r1:=Ex.x9 (f:=f) (day:=day) (s:=x.sub) (i:=1) (by omega);have r2:=Ex.x9 (f:=f) (day:=day) (s:=x.sub) (i:=2) (by omega);unfold rcN;rw [aO (by omega),aO (by omega),aO (by omega),aP hk,g0,r1,r2];unfold valN at he ⊢;rw [aO (by omega),aO (by omega),aO (by omega),aP hk,g0,g1,g2] at he ⊢;by_cases c:((x.sub.getD 0 Ex.nil).ev f day).g=0
   ·rw [aO (λq=>q c)] at he ⊢;by_cases d:((x.sub.getD 0 Ex.nil).ev f day).b=true
    ·rw [aP d] at he ⊢;rw [aP d];obtain⟨new,ext,h1,h2⟩:=ih _ (by omega) s1 he s hI;exact⟨new,ext,h1.mono (by omega),h2⟩
    ·rw [aO d] at he ⊢;rw [aO d];obtain⟨new,ext,h1,h2⟩:=ih _ (by omega) s2 he s hI;exact⟨new,ext,h1.mono (by omega),h2⟩
   ·rw [aP c] at he; exact absurd he c
end Go.Nov
end
section
set_option maxRecDepth 100000
open Go Go.Sx Go.Proofs Go.Nov
namespace Go.Proofs.Tryz
attribute [local simp] eqKV eqA eqA0 eqH eqB eqL eqL0
def Jm(l:List Fx):List Sc->Bool:=λk=>l.any λx=>decide (k=[.inr x.name,.inl x.date])
def zat(l:List Fx):List Sc->AV:=λk=>.i (l.findIdx λx=>decide (k=[.inr x.name,.inl x.date]):Nat)
def HRc(s:RS)(day:Int)(f:List Fx)(c:List Ch):Heap:=[.box [.i 0,.osl 1 4 0 s.ops.length,.osl 2 3 0 s.inp.length,.omap 3,.i day,fxS f,chS c],.arr s.ops.length 4 (opG s.ops),.arr s.inp.length 3 (fxG s.inp),.map true [.inr false,.inl .i64] (Jm s.inp) (zat s.inp)]
theorem zfh{l:List TOp}{o:TOp} : eqG (l.length+1) 4 (appG l.length (opG l) (zf (ze 4 [.int .u8 o.kind,.i o.a,.i o.b,.str o.rat]) 0)) (opG (l++[o])):=by
 intro j p hj hp;simp only [appG,opG,zf,ze];by_cases q:j<l.length
 ·rw [aP q];simp only [List.getD,bL q]
 ·rw [aO q];obtain rfl:j=l.length:=by omega
  have e:(l++[o]).getD l.length TOp.nil=o:=by simp [List.getD]
  rw [e];rcases(show p=0\/p=1\/p=2\/p=3 by omega) with rfl | rfl | rfl | rfl<;>simp [TOp.cell]
structure XRc where
 s:RS
 day:Int
 f:List Fx
 c:List Ch
 o:TOp
def ze5:Ctr:=ctrM 1 (λp:XRc=>[.ptr 0 0,.agg [.int .u8 p.o.kind,.i p.o.a,.i p.o.b,.str p.o.rat]]) (λp=>HRc p.s p.day p.f p.c)
 (λp=>p.s.ops.length<2^40) (λ_ (_:Unit)=>True) (λp _=>(.i (p.s.ops.length:Nat),HRc (p.s.put p.o) p.day p.f p.c))
theorem YZ:zc prog 50 ze5:=by
 refine Wy (fn:=f50) (c:=f50.body.getD .skip) rfl rfl rfl λp hp O w0 I0 Q hl0 hq=> ?_
 obtain⟨⟨ops,inp⟩,day,f,c,⟨ok,oa,ob,orat⟩⟩:=p;replace hq:=hq () trivial;simp only at hp hq;refine zb.n z6 [] (let v1:List AV:=[.int .u8 ok,.i oa,.i ob,.str orat];.side (0=0/\ops.length<=ops.length/\(ops.length+1)*40<=140737488355328) (.S ((↑(ops.length+1):Int) - (1:Int)) (.R [.i ((↑(ops.length+1):Int) - (1:Int))] [.box [.i 0,.osl 1 4 0 (ops.length+1),.osl 2 3 0 inp.length,.omap 3,.i day,.sl f.length 3 (fxG f),.sl c.length 4 (chG c)],.arr (ops.length+1) 4 (appG ops.length (opG ops) (zf (ze 4 v1) 0)),.arr inp.length 3 (fxG inp),Blk.map true [Sum.inr false,Sum.inl .i64] (λ(k:List Sc)=>List.any inp λ(x:Fx)=>decide (k=[Sum.inr x.name,Sum.inl x.date])) λk=>.int .i64 ↑(List.findIdx (λ(x:Fx)=>decide (k=[Sum.inr x.name,Sum.inl x.date])) inp),.box v1,.arr 1 4 (ze 4 v1)]))) ?_;simp only [Tree.holds,zd];have e1:((ops.length+1:Nat):Int) - 1=ops.length:=by omega
 refine⟨⟨trivial,aJ _,by omega⟩,λ_=>⟨by simp only [inR,lo,hi]; omega,λ_=> ?_⟩⟩;rw [e1];refine RetR.keep [0,1,2,3] rfl (by simp) (by show ∀ j,j<4->_; decide) rfl hq (by simp [resV,exp2,exp1,exp0,ren0,eqA2,eqL1]) ?_ rfl;refine⟨?_,⟨by simp [RS.put],rfl,zfh (o:=⟨ok,oa,ob,orat⟩)⟩,⟨rfl,rfl,za _ _ _⟩,⟨⟨rfl,.inl rfl⟩,rfl,λ_=>rfl,λ_ _=>rfl⟩,trivial⟩;simp [expB,exp1,exp0,ren0,zz,RS.put,fxS,chS,za]
noncomputable def K121:=Go.Sx.aA f121
noncomputable def K144:=Go.Sx.aA f144
def cmp3(x y:Nat):Int:=if x<y then -1 else if y<x then 1 else 0
def yB:Ctr:=ctr2 true (λx y=>fits x/\fits y) (λx y r=>r=cmp3 x y) (λ_ _ r=>(.i r,[]))
def S73(x y k:Nat):KV:=[(0,magS x),(1,magS y),(5,.i ((k:Int) - 1))]
theorem yd:zc prog 121 yB:=by
 refine ue (fn:=f121) (c:=f121.body.getD .skip) rfl rfl rfl λx y hp O w0 Q hq=> ?_
 replace hq:=hq _ rfl;obtain⟨hx,hy⟩:=hp;simp only [fits] at hx hy;refine zb.n z6 [0,1,5] (.N (((canon x).length:Int)=((canon y).length:Int)) (.S ((canon x).length-(canon y).length) (.R [.i (max (-1:Int) (min (1:Int) (((canon x).length:Int) - ((canon y).length:Int))))] [])) (.S ((canon x).length-1) (.leaf (.loop (lps K121 0).1 (lps K121 0).2 [(0,.sl (canon x).length 1 (natG .u32 (canon x))),(1,.sl (canon y).length 1 (natG .u32 (canon y))),(5,.i ((canon x).length-1))] [])))) ?_;simp only [Tree.holds,zd,inR,lo,hi,Bool.cond_eq_ite];refine⟨λh=>⟨by omega,λ_=>RetR.scal hq rfl ?_⟩,λh=>⟨by omega,λ_=> ?_⟩⟩
 ·simp only [resV,cmp3];congr 1
  have hne:(canon x).length≠(canon y).length:=by
   simp only [Bool.not_eq_true',aV] at h;omega
  rcases Nat.lt_or_gt_of_ne hne with h1 | h1
  ·have:=zU h1;rw [aP this]; omega
  ·have:=zU h1;rw [aO (by omega),aP this]; omega
 ·have hlen:(canon x).length=(canon y).length:=by
   simp only [Bool.not_eq_false',aK] at h;omega
  refine zb.loop (ι:={k:Nat // k<=(canon x).length/\∀ j,k<=j->(canon x).getD j 0=(canon y).getD j 0}) (λk=>S73 x y k.1) (λ_=>[]) (λk=>k.1) ⟨(canon x).length,aJ _,λj hj=>by simp [hj,hlen▸hj]⟩ 0 ?_ ?_ (by kernel_rfl)
  ·exact⟨by simp [S73,magS,natS,za],by simp,by kernel_rfl,aI _⟩
  ·rintro⟨k,h1,h2⟩;refine zb.n z6 [0,1,5] (let v1:=Int.toNat (k-1);.D ((0:Int)<=k - (1:Int)) (.side ((0:Int)<=k - (1:Int)/\(k:Int) - (1:Int)<((canon x).length:Int)) (.side ((0:Int)<=k - (1:Int)/\(k:Int) - (1:Int)<((canon y).length:Int)) (.N ((↑(List.getD (canon x) v1 0):Int)=(↑(List.getD (canon y) v1 0):Int)) (.side ((0:Int)<=k - (1:Int)/\(k:Int) - (1:Int)<((canon x).length:Int)) (.side ((0:Int)<=k - (1:Int)/\(k:Int) - (1:Int)<((canon y).length:Int)) (.D ((↑(List.getD (canon x) v1 0):Int)<(↑(List.getD (canon y) v1 0):Int)) (.R [.i (-1:Int)] []) (.R [.i 1] [])))) (.S (k-1-1) (.leaf (.back 0 [(0,.sl (canon x).length 1 (natG .u32 (canon x))),(1,.sl (canon y).length 1 (natG .u32 (canon y))),(5,.i (k-1-1))] [])))))) (.R [.i 0] [])) ?_;simp only [Tree.holds,zd,inR,lo,hi,Bool.cond_eq_ite];have e:((k:Int) - 1).toNat=k - 1:=by omega
   rw [e];refine⟨λhk=> ?_,λhk=>RetR.scal hq rfl ?_⟩
   ·have hk:0<k:=by simp at hk; omega
    refine⟨by omega,λ_=>⟨by omega,λ_=>⟨λhne=>⟨by omega,λ_=>⟨by omega,λ_=>⟨λhlt=>RetR.scal hq rfl ?_,λhlt=>RetR.scal hq rfl ?_⟩⟩⟩,λheq=>⟨by omega,λ_=> ?_⟩⟩⟩⟩
    ·have:=uN (zi x) hlen (i:=k - 1) (λj hj=>h2 j (by omega)) (by simpa using hlt);rw [zk,zk] at this;simp [resV,cmp3,this]
    ·have hgt:(canon y).getD (k - 1) 0<(canon x).getD (k - 1) 0:=by
      simp only [Bool.not_eq_true',aV] at hne hlt;omega
     have:=uN (zi y) hlen.symm (i:=k - 1) (λj hj=>(h2 j (by omega)).symm) hgt;rw [zk,zk] at this;simp only [resV,cmp3];rw [aO (by omega),aP this]
    ·rw [aP trivial];refine⟨⟨k - 1,by omega,λj hj=> ?_⟩,by show k - 1<k; omega,by simp [S73,magS,natS,za]; omega,by simp,by kernel_rfl,aI _⟩;rcases aR j k with hj2 | hj2
     ·have:j=k - 1:=by omega
      subst this;simp only [Bool.not_eq_false',aK] at heq;omega
     ·exact h2 j hj2
   ·have hk:k=0:=by simp at hk; omega
    subst hk
    have:canon x=canon y:=by
     apply List.ext_getElem hlen;intro j hj hj';have:=h2 j (aI _);simpa [hj,hj'] using this
    have:x=y:=by rw [<- zk x,this,zk]
    subst this;simp [resV,cmp3]
noncomputable def G1:=tb Ws tz
def W0:Ctr:=ctr2 true (λx y=>fits x/\y<=x) (λx y d=>d=x - y) (λ_ _ d=>(magS d,[]))
def S78(x y:Nat)(o:List Nat)(c i:Nat):KV:=[(0,magS x),(1,magS y),(5,.osl 0 1 0 o.length),(6,.int .u32 (c:Int)),(13,magS x),(14,.i ((canon x).length:Int)),(15,.i (i:Int))]
structure I78(x y:Nat) where
 o:List Nat
 c:Nat
 i:Nat
 len:o.length=i
 le:i<=(canon x).length
 dg:dig o
 c1:c<=1
 eq:val ((canon x).take i)+B^i*c=val o+val ((canon y).take i)
theorem WX{x y:Nat}(h:x<=y):(canon x).length<=(canon y).length:=by
 rcases aR (canon y).length (canon x).length with h1 | h1
 ·have:=zU h1; omega
 ·exact h1
theorem zjf{x y o c i d c':Nat}{l m:List Nat}(h:val (l.take i)+B^i*c=o+val (m.take i))(he:l.getD i 0+B*c'=d+m.getD i 0+c):val (l.take (i+1))+B^(i+1)*c'=o+B^i*d+val (m.take (i+1)):=by
 rw [zp,zp,Nat.pow_succ];have:=congrArg (B^i * ·) he;simp only [bN] at this;rw [bI];omega
theorem QR(l:List Nat)(d:Nat):val (l++[d])=val l+B^l.length*d:=by rw [zD]; simp [val]
theorem Qr:zc prog 144 W0:=by
 refine ue (fn:=f144) (c:=f144.body.getD .skip) rfl rfl rfl λx y hp O w0 Q hq=> ?_
 replace hq:=hq _ rfl;obtain⟨hx,hyx⟩:=hp;simp only [fits] at hx hyx;have hlen:=WX hyx;refine zb.n G1.h [0,1,5,6,13,14,15] (.side ((0:Int)<=0/\(0:Int)<=((canon x).length:Int)/\inR .i64 (canon x).length/\Int.toNat (canon x).length*4<=140737488355328) (.leaf (.loop (lps K144 0).1 (lps K144 0).2 [(0,.sl (canon x).length 1 (natG .u32 (canon x))),(1,.sl (canon y).length 1 (natG .u32 (canon y))),(5,.osl 0 1 0 0),(6,.int .u32 0),(13,.sl (canon x).length 1 (natG .u32 (canon x))),(14,.i (canon x).length),(15,.i 0)] [.arr 0 1 (wO [.int .u32 0])]))) ?_;simp only [Tree.holds,zd,inR,lo,hi];refine⟨by omega,λ_=> ?_⟩;refine zb.loop (ι:=I78 x y) (λs=>S78 x y s.o s.c s.i) (λs=>[.arr s.o.length 1 (natG .u32 s.o)]) (λs=>(canon x).length - s.i) ⟨[],0,0,rfl,aI _,by simp [dig],by omega,by simp [val]⟩ 0 ?_ ?_ (by kernel_rfl)
 ·exact⟨by simp [S78,magS,natS,za],by simp [eqG],by kernel_rfl,aI _⟩
 ·rintro⟨o,c,i,ho,hle,hd,hc,he⟩;subst ho;have hB:B=1000000000:=rfl;refine zb.n G1.h [0,1,5,6,13,14,15] (let v12:=natG .u32 o;let v11:=natG .u32 (canon x);let v7:=o.length+1;let v5:=inR .i64 (o.length+1);let v3:List (Nat×AV):=[(0,.sl (canon x).length 1 v11),(1,.sl (canon y).length 1 (natG .u32 (canon y))),(5,.osl 0 1 0 v7),(6,.int .u32 0),(13,.sl (canon x).length 1 v11),(14,.i (canon x).length),(15,.i (o.length+1))];let v2:List (Nat×AV):=[(0,.sl (canon x).length 1 v11),(1,.sl (canon y).length 1 (natG .u32 (canon y))),(5,.osl 0 1 0 v7),(6,.int .u32 1),(13,.sl (canon x).length 1 v11),(14,.i (canon x).length),(15,.i (o.length+1))];let v1:=Int.toNat o.length;let v10:=ze 1 [.int .u32 ((↑(List.getD (canon x) v1 0):Int) - c)];let v9:=inR .u32 ((↑(List.getD (canon x) v1 0):Int)+(1000000000:Int));let v8:=ze 1 [.int .u32 ((↑(List.getD (canon x) v1 0):Int)+(1000000000:Int) - c)];let v6:=ze 1 [.int .u32 ((↑(List.getD (canon x) v1 0):Int) - ((c:Int)+(↑(List.getD (canon y) v1 0):Int)))];let v4:=ze 1 [.int .u32 ((↑(List.getD (canon x) v1 0):Int)+(1000000000:Int) - ((c:Int)+(↑(List.getD (canon y) v1 0):Int)))];.D ((o.length:Int)<((canon x).length:Int)) (.side ((0:Int)<=o.length/\(o.length:Int)<((canon x).length:Int)) (.D ((o.length:Int)<((canon y).length:Int)) (.side ((0:Int)<=o.length/\(o.length:Int)<((canon y).length:Int)) (.side (inR .u32 ((c:Int)+(↑(List.getD (canon y) v1 0):Int))) (.D ((↑(List.getD (canon x) v1 0):Int)<c+(↑(List.getD (canon y) v1 0):Int)) (.side v9 (.side (inR .u32 ((↑(List.getD (canon x) v1 0):Int)+(1000000000:Int) - ((c:Int)+(↑(List.getD (canon y) v1 0):Int)))) (.side (0=0/\o.length<=o.length/\v7 *4<=140737488355328) (.side v5 (.leaf (.back 0 v2 [.arr v7 1 (appG o.length v12 (zf v4 0)),.arr 1 1 v4])))))) (.side (inR .u32 ((↑(List.getD (canon x) v1 0):Int) - ((c:Int)+(↑(List.getD (canon y) v1 0):Int)))) (.side (0=0/\o.length<=o.length/\v7 *4<=140737488355328) (.side v5 (.leaf (.back 0 v3 [.arr v7 1 (appG o.length v12 (zf v6 0)),.arr 1 1 v6])))))))) (.D ((↑(List.getD (canon x) v1 0):Int)<c) (.side v9 (.side (inR .u32 ((↑(List.getD (canon x) v1 0):Int)+(1000000000:Int) - c)) (.side (0=0/\o.length<=o.length/\v7 *4<=140737488355328) (.side v5 (.leaf (.back 0 v2 [.arr v7 1 (appG o.length v12 (zf v8 0)),.arr 1 1 v8])))))) (.side (inR .u32 ((↑(List.getD (canon x) v1 0):Int) - c)) (.side (0=0/\o.length<=o.length/\v7 *4<=140737488355328) (.side v5 (.leaf (.back 0 v3 [.arr v7 1 (appG o.length v12 (zf v10 0)),.arr 1 1 v10])))))))) (.ex (λ(u:List Nat)=>u.length=o.length/\0+o.length<=o.length/\o.length<4611686018427387904/\eqG o.length 1 v12 (natG .u32 u)/\dig (List.take o.length (List.drop 0 u))) λn=>.all (λ(x:Nat)=>x=val (List.take o.length (List.drop 0 n))) λn=>.R [.osl 0 1 0 (canon n).length] [.arr o.length 1 v12])) ?_;simp only [Tree.holds,zd,inR,lo,hi,aD,xH];have ha:=zH (zi x) o.length;have hb:=zH (zi y) o.length
  have hnext:∀ d c':Nat,d<B->c'<=1->o.length<(canon x).length->(canon x).getD o.length 0+B*c'=d+(canon y).getD o.length 0+c ->
    ∃ s:I78 x y,s.o=o++[d]/\s.c=c'/\s.i=o.length+1:=λd c' h1 h2 h3 h4=>
   ⟨⟨o++[d],c',o.length+1,by simp,h3,jf.2 ⟨hd,by simp [dig,h1]⟩,h2,by rw [QR]; exact zjf (x:=x) (y:=y) he h4⟩,rfl,rfl,rfl⟩
  refine⟨λhlt=> ?_,λhge=> ?_⟩
  ·have hlt:o.length<(canon x).length:=by simp at hlt; omega
   refine⟨by omega,λ_=>⟨λhb2=>⟨by simp at hb2; omega,λ_=>⟨by omega,λ_=>⟨λhlt2=> ?_,λhge2=> ?_⟩⟩⟩,λhb2=>⟨λhlt2=> ?_,λhge2=> ?_⟩⟩⟩
   ·simp only [aK] at hlt2;refine⟨by omega,λ_=>⟨by omega,λ_=>⟨⟨trivial,by omega,by omega⟩,λ_=>⟨by omega,λ_=> ?_⟩⟩⟩⟩;obtain⟨s,h1,h2,h3⟩:=hnext ((canon x).getD o.length 0+B - (c+(canon y).getD o.length 0)) 1 (by omega) (by omega) hlt (by omega);rw [aP trivial];refine⟨s,by show _ - s.i<_; omega,by simp [S78,h1,h2,h3,magS,natS,za],by rw [h1]; exact vd (by omega),by kernel_rfl,aI _⟩
   ·simp only [aV] at hge2;refine⟨by omega,λ_=>⟨⟨trivial,by omega,by omega⟩,λ_=>⟨by omega,λ_=> ?_⟩⟩⟩;obtain⟨s,h1,h2,h3⟩:=hnext ((canon x).getD o.length 0 - (c+(canon y).getD o.length 0)) 0 (by omega) (by omega) hlt (by omega);rw [aP trivial];refine⟨s,by show _ - s.i<_; omega,by simp [S78,h1,h2,h3,magS,natS,za],by rw [h1]; exact vd (by omega),by kernel_rfl,aI _⟩
   ·simp only [aK,aV] at hlt2 hb2;have hb0:(canon y).getD o.length 0=0:=by simp [List.getD,aZ (show(canon y).length<=o.length by omega)]
    refine⟨by omega,λ_=>⟨by omega,λ_=>⟨⟨trivial,by omega,by omega⟩,λ_=>⟨by omega,λ_=> ?_⟩⟩⟩⟩;obtain⟨s,h1,h2,h3⟩:=hnext ((canon x).getD o.length 0+B - c) 1 (by omega) (by omega) hlt (by omega);rw [aP trivial];refine⟨s,by show _ - s.i<_; omega,by simp [S78,h1,h2,h3,magS,natS,za],by rw [h1]; exact vd (by omega),by kernel_rfl,aI _⟩
   ·simp only [aV] at hge2 hb2;have hb0:(canon y).getD o.length 0=0:=by simp [List.getD,aZ (show(canon y).length<=o.length by omega)]
    refine⟨by omega,λ_=>⟨⟨trivial,by omega,by omega⟩,λ_=>⟨by omega,λ_=> ?_⟩⟩⟩;obtain⟨s,h1,h2,h3⟩:=hnext ((canon x).getD o.length 0 - c) 0 (by omega) (by omega) hlt (by omega);rw [aP trivial];refine⟨s,by show _ - s.i<_; omega,by simp [S78,h1,h2,h3,magS,natS,za],by rw [h1]; exact vd (by omega),by kernel_rfl,aI _⟩
  ·have hge:o.length=(canon x).length:=by simp at hge; omega
   have hv:val o=x - y:=by
    have h1:=qp hd;rw [hge,bD,bF hlen,zk,zk] at he
    have:c=0:=by
     rcases aR c 1 with h | h
     ·omega
     ·have:c=1:=by omega
      subst this;rw [hge] at h1;omega
    subst this;omega
   refine⟨o,⟨rfl,by omega,by omega,za _ _ _,by simpa using hd⟩,⟨_,rfl⟩,?_⟩;intro X hX;have hX:X=x - y:=by simpa [hv] using hX
   subst hX;have htr:qD o=canon (x - y):=by rw [zL hd,hv]
   have htl:(canon (x - y)).length=tlen o:=by rw [<- htr,qD,aH]; have:=qj o; omega
   rw [htl];refine⟨[],rfl,by simp,by simp,λ_=>⟨Vo,by simp⟩,magS (x - y),[],q5 ?_,.inl (by simp [expH]),rfl,hq⟩;simp only [resV,exp2,exp1,VZ];exact JN htr
noncomputable def K141:=Go.Sx.aA f141
noncomputable def K143:=Go.Sx.aA f143
theorem YC(m n:Nat):Int.tdiv (m:Int) (n:Int)=((m/n:Nat):Int):=rfl
theorem YR(m n:Nat):Int.tmod (m:Int) (n:Int)=((m%n:Nat):Int):=rfl
theorem uG(k:IntKind)(n:Nat):eqG n 1 (wO [.int k 0]) (natG k (List.replicate n 0)):=by
 intro j o hj ho;have:o=0:=by omega
 subst this;simp [wO,natG,hj]
theorem VJ{l:List Nat}{k:Nat}(hk:k<l.length):l.drop k=l.getD k 0::l.drop (k+1):=by
 rw [List.drop_eq_getElem_cons hk];simp [List.getD,hk]
def zd8:Ctr:=ctrP true (λp:Nat×Nat=>[magS p.1,.int .u32 (p.2:Int)]) (λp=>fits p.1/\0<p.2/\p.2<B) (λp (r:Nat×Nat)=>r=(p.1/p.2,p.1%p.2)) (λ_ r=>(.tup [magS r.1,.int .u32 (r.2:Int)],[]))
def S74(x d:Nat)(o:List Nat)(r k:Nat):KV:=[(0,magS x),(1,.int .u32 (d:Int)),(4,.osl 0 1 0 o.length),(6,.int .u64 (r:Int)),(7,.i ((k:Int) - 1))]
structure I74(x d:Nat) where
 o:List Nat
 r:Nat
 k:Nat
 len:o.length=(canon x).length
 le:k<=(canon x).length
 rd:r<d
 dg:dig (o.drop k)
 eq:val ((canon x).drop k)=d*val (o.drop k)+r
theorem zdg:zc prog 141 zd8:=by
 refine zg' f141 λp hp O w0 Q hq=> ?_
 replace hq:=hq _ rfl;obtain⟨x,d⟩:=p;obtain⟨hx,hd0,hdB⟩:=hp;simp only [fits] at hx hd0 hdB hq;have hB:B=1000000000:=rfl;refine zb.n G1.h [0,1,4,6,7] (let v1:=Int.toNat (canon x).length;.side ((0:Int)<=((canon x).length:Int)/\((canon x).length:Int)<=((canon x).length:Int)/\inR .i64 (canon x).length/\Int.toNat (canon x).length*4<=140737488355328) (.S ((canon x).length-1) (.leaf (.loop (lps K141 0).1 (lps K141 0).2 [(0,.sl (canon x).length 1 (natG .u32 (canon x))),(1,.int .u32 d),(4,.osl 0 1 0 v1),(6,.int .u64 0),(7,.i ((canon x).length-1))] [.arr v1 1 (wO [.int .u32 0])])))) ?_;simp only [Tree.holds,zd,inR,lo,hi];refine⟨by omega,λ_=>⟨by omega,λ_=> ?_⟩⟩;refine zb.loop (ι:=I74 x d) (λs=>S74 x d s.o s.r s.k) (λs=>[.arr s.o.length 1 (natG .u32 s.o)]) (λs=>s.k) ⟨List.replicate (canon x).length 0,0,(canon x).length,by simp,aJ _,hd0,by simp [dig],by simp [val]⟩ 0 ?_ ?_ (by kernel_rfl)
 ·exact⟨by simp [S74,magS,natS,za],by simp [uG],by kernel_rfl,aI _⟩
 ·rintro⟨o,r,k,hlen,hle,hr,hdg,he⟩;refine zb.n G1.h [0,1,4,6,7] (let v2:=Int.toNat (k-1);let v1:=Int.tdiv ((r:Int)*(1000000000:Int)+(↑(List.getD (canon x) v2 0):Int)) (d:Int);.D ((0:Int)<=k - (1:Int)) (.side (inR .u64 (r*1000000000)) (.side ((0:Int)<=k - (1:Int)/\(k:Int) - (1:Int)<((canon x).length:Int)) (.side (inR .u64 ↑(List.getD (canon x) v2 0)) (.side (inR .u64 ((r:Int)*(1000000000:Int)+(↑(List.getD (canon x) v2 0):Int))) (.side (inR .u64 d) (.side ((d:Int)≠0/\inR .u64 v1) (.side (inR .u32 v1) (.side (inR .u64 d) (.side ((d:Int)≠0) (.side ((0:Int)<=k - (1:Int)/\(k:Int) - (1:Int)<o.length) (.S (k-1-1) (.leaf (.back 0 [(0,.sl (canon x).length 1 (natG .u32 (canon x))),(1,.int .u32 d),(4,.osl 0 1 0 o.length),(6,.int .u64 (Int.tmod ((r:Int)*(1000000000:Int)+(↑(List.getD (canon x) v2 0):Int)) (d:Int))),(7,.i (k-1-1))] [.arr o.length 1 (updG (natG .u32 o) (0+Int.toNat (k-1)) 0 [.int .u32 v1])]))))))))))))) (.ex (λ(u:List Nat)=>u.length=o.length/\0+o.length<=o.length/\o.length<4611686018427387904/\eqG o.length 1 (natG .u32 o) (natG .u32 u)/\dig (List.take o.length (List.drop 0 u))) λn=>.all (λ(x:Nat)=>x=val (List.take o.length (List.drop 0 n))) λn=>.side (inR .u32 r) (.R [.osl 0 1 0 (canon n).length,.int .u32 r] [.arr o.length 1 (natG .u32 o)]))) ?_;have e:((k:Int) - 1).toNat=k - 1:=by omega
  have ha:=zH (zi x) (k - 1);have ev:((r:Int)*1000000000+((canon x).getD (k - 1) 0:Nat))=((r*B+(canon x).getD (k - 1) 0:Nat):Int):=by simp
  simp only [Tree.holds,zd,inR,lo,hi,e,ev,YC,YR,xH];generalize hv:r*B+(canon x).getD (k - 1) 0=v
  have hvd:v<d*B:=by
   have:(r+1)*B<=d*B:=aT _ hr;rw [bH] at this;omega
  have hq1:v/d<B:=Nat.div_lt_of_lt_mul hvd;have hr1:v%d<d:=Nat.mod_lt _ hd0;have hdm:=Nat.div_add_mod v d;generalize v/d=q at hq1 hdm ⊢;generalize v%d=rr at hr1 hdm ⊢;have hdB2:d*B<B*B:=Nat.mul_lt_mul_of_pos_right hdB (by decide);rw [hB] at hdB2;refine⟨λhk=> ?_,λhk=> ?_⟩
  ·have hk:0<k:=by simp at hk; omega
   refine⟨by omega,λ_=>⟨by omega,λ_=>⟨by omega,λ_=>⟨by omega,λ_=>⟨by omega,λ_=>⟨⟨by omega,by omega,by omega⟩,λ_=>⟨by omega,λ_=>⟨by omega,λ_=>⟨by omega,λ_=>⟨by omega,λ_=>⟨by omega,λ_=> ?_⟩⟩⟩⟩⟩⟩⟩⟩⟩⟩⟩;rw [aP trivial];have hkl:k - 1<o.length:=by omega
   have hdr:(o.set (k - 1) (q)).drop (k - 1)=(q)::o.drop k:=by
    rw [VJ (by simpa using hkl)];rw [show k - 1+1=k by omega,List.drop_set_of_lt (by omega)];simp [hkl]
   refine⟨⟨o.set (k - 1) (q),rr,k - 1,by simpa using hlen,by omega,hr1,by rw [hdr]; exact q8.2 ⟨hq1,hdg⟩,?_⟩,by show k - 1<k; omega,by simp [S74,magS,natS,za]; omega,?_,by kernel_rfl,aI _⟩
   ·rw [hdr,VJ (by omega),show k - 1+1=k by omega];simp only [val,he];rw [bN,bN,<- bI,<- bI,bJ d B];have h5:B*r=r*B:=bJ _ _;omega
   ·refine⟨⟨by simp,rfl,?_⟩,trivial⟩;have:=vR (k:=.u32) (l:=o) (v:=((q:Nat):Int)) (i:=k - 1) (by omega) hkl;simpa using this
  ·have hk:k=0:=by simp at hk; omega
   subst hk;simp only [List.drop_zero] at he hdg;rw [zk] at he
   have hqv:val o=x/d:=by
    rw [he,Nat.mul_add_div hd0,Nat.div_eq_of_lt hr,Nat.add_zero]
   have hrv:r=x%d:=by rw [he,Nat.mul_add_mod,Nat.mod_eq_of_lt hr]
   have htr:qD o=canon (x/d):=by rw [zL hdg,hqv]
   refine⟨o,⟨rfl,by omega,by omega,za _ _ _,by simpa using hdg⟩,⟨_,rfl⟩,?_⟩;intro X hX;have hX:X=x/d:=by simpa [hqv] using hX
   subst hX;have htl:(canon (x/d)).length=tlen o:=by rw [<- htr,qD,aH]; have:=qj o; omega
   rw [htl];refine⟨by omega,λ_=> ?_⟩;refine⟨[],rfl,by simp,by simp,λ_=>⟨?_,by simp⟩,_,[],q5 ?_,.inl (by simp [expH]),rfl,hq⟩
   ·simp only [resV,new2];intro a ha;rcases aM.1 ha with rfl | ha
    ·exact Vo
    ·simp only [List.mem_singleton] at ha; subst ha; rfl
   ·simp only [resV,exp2,List.map_cons,List.map_nil,exp1,VZ,eqA2,eqL1];exact⟨JN htr,by simp [eqA,exp0,ren0,hrv],trivial⟩
structure D5 where
 t:Nat
 u:Nat
 v:Nat
 y:Nat
 z:Nat
def zco:Ctr:=ctrP true (λp:D5=>[.int .u64 (p.t:Int),.int .u64 (p.u:Int),.int .u64 (p.v:Int),.int .u64 (p.y:Int),.int .u64 (p.z:Int)])
 (λp=>p.t<=p.y/\p.u<B/\p.v<B/\p.y<B/\p.z<B/\B<=2*p.y) (λp n=>n=qT p.v p.y p.z 2 ((p.t*B+p.u)/p.y) ((p.t*B+p.u)%p.y)) (λ_ n=>(.int .u64 (n:Int),[]))
def S77(v y z q r:Nat):KV:=[(2,.int .u64 (v:Int)),(3,.int .u64 (y:Int)),(4,.int .u64 (z:Int)),(12,.int .u64 (q:Int)),(13,.int .u64 (r:Int))]
structure I77(v y z R:Nat) where
 q:Nat
 r:Nat
 n:Nat
 rB:r<B
 qB:q<=B+1
 nB:B<=r+n*y
 eq:qT v y z n q r=R
theorem ze6:zc prog 143 zco:=by
 refine zg' f143 λp hp O w0 Q hq=> ?_
 replace hq:=hq _ rfl;obtain⟨t,u,v,y,z⟩:=p;simp only at hq;obtain⟨h1,h2,h3,h4,h5,h6⟩:=hp;simp only at h1 h2 h3 h4 h5 h6;have hB:B=1000000000:=rfl;refine zb.n z6 [2,3,4,12,13] (let v1:=Int.tdiv ((t:Int)*(1000000000:Int)+u) (y:Int);.side (inR .u64 (t*1000000000)) (.side (inR .u64 ((t:Int)*(1000000000:Int)+u)) (.side ((y:Int)≠0/\inR .u64 v1) (.side ((y:Int)≠0) (.leaf (.loop (lps K143 0).1 (lps K143 0).2 [(2,.int .u64 v),(3,.int .u64 y),(4,.int .u64 z),(12,.int .u64 v1),(13,.int .u64 (Int.tmod ((t:Int)*(1000000000:Int)+u) (y:Int)))] [])))))) ?_;have ev:((t:Int)*1000000000+(u:Int))=((t*B+u:Nat):Int):=by simp
 simp only [Tree.holds,zd,inR,lo,hi,ev,YC,YR];have hy:0<y:=by omega
 have hr:(t*B+u)%y<y:=Nat.mod_lt _ hy
 have hq1:(t*B+u)/y<=B+1:=by
  have h7:t*B<=y*B:=aT _ h1
  have:(t*B+u)/y<B+2:=by
   apply Nat.div_lt_of_lt_mul;rw [bN];omega
  omega
 have hst:t*1000000000<=1000000000*1000000000:=aT _ (by omega);generalize hR:qT v y z 2 ((t*B+u)/y) ((t*B+u)%y)=R at hq;generalize hqq:(t*B+u)/y=q at hq1 hR ⊢;generalize hrr:(t*B+u)%y=r at hr hR ⊢;refine⟨by omega,λ_=>⟨by omega,λ_=>⟨⟨by omega,by omega,by omega⟩,λ_=>⟨by omega,λ_=> ?_⟩⟩⟩⟩;refine zb.loop (ι:=I77 v y z R) (λs=>S77 v y z s.q s.r) (λ_=>[]) (λs=>s.n) ⟨q,r,2,by omega,hq1,by omega,hR⟩ 0 ?_ ?_ (by kernel_rfl)
 ·exact⟨by simp [S77],by simp,by kernel_rfl,aI _⟩
 ·rintro⟨q,r,n,hrB,hqB,hnB,hR⟩;refine zb.n z6 [2,3,4,12,13] (.side (decide ((1000000000:Int)<=q)=false->inR .u64 ((q:Int)*z)) (.side (decide ((1000000000:Int)<=q)=false->inR .u64 (r*1000000000)) (.side (decide ((1000000000:Int)<=q)=false->inR .u64 ((r:Int)*(1000000000:Int)+v)) (.ite (bif decide ((1000000000:Int)<=q) then true else decide ((r:Int)*(1000000000:Int)+v<(q:Int)*z)) (.side (inR .u64 (q-1)) (.side (inR .u64 ((r:Int)+y)) (.D ((1000000000:Int)<=r+(y:Int)) (.R [.int .u64 (q-1)] []) (.leaf (.back 0 [(2,.int .u64 v),(3,.int .u64 y),(4,.int .u64 z),(12,.int .u64 (q-1)),(13,.int .u64 ((r:Int)+y))] []))))) (.R [.int .u64 q] []))))) ?_;simp only [Tree.holds,zd,inR,lo,hi,Bool.cond_eq_ite];have hqz:q*z<=1000000001*1000000000:=Nat.mul_le_mul (by omega) (by omega);have eqz:((q:Int)*(z:Int))=((q*z:Nat):Int):=by simp
  rw [eqz];have hrb:r*B=1000000000*r:=bJ _ _;generalize hp:q*z=p at hqz ⊢;refine⟨λ_=>by omega,λ_=>⟨λ_=>by omega,λ_=>⟨λ_=>by omega,λ_=>⟨λhc=> ?_,λhc=> ?_⟩⟩⟩⟩
  ·have hcond:B<=q\/r*B+v<q*z:=by
    rw [hp];split at hc
    ·rename_i h; simp only [aK] at h; left; omega
    ·simp only [aK] at hc; right; omega
   have hq0:0<q:=by
    rcases bC q with rfl | h
    ·simp at hcond
    ·exact h
   cases n with
   | zero=>omega
   | succ n=>
    simp only [qT,aP hcond] at hR;refine⟨by omega,λ_=>⟨by omega,λ_=>⟨λhb=> ?_,λhb=> ?_⟩⟩⟩
    ·rw [aP (by simp at hb; omega)] at hR;refine RetR.scal hq rfl ?_;simp only [resV]; congr 1; omega
    ·rw [aO (by simp at hb; omega)] at hR;rw [aP trivial];refine⟨⟨q - 1,r+y,n,by simp at hb; omega,by omega,by rw [bH] at hnB; omega,hR⟩,by show n<n+1; omega,by simp [S77]; omega,by simp,by kernel_rfl,aI _⟩
  ·have hcond:¬ (B<=q\/r*B+v<q*z):=by
    rw [hp];split at hc
    ·cases hc
    ·rename_i h; simp only [aK,aV] at h hc; omega
   refine RetR.scal hq rfl ?_
   have:qT v y z n q r=q:=by
    cases n with
    | zero=>rfl
    | succ n=>simp only [qT,aO hcond]
   simp only [resV]; congr 1; omega
noncomputable def K118:=Go.Sx.aA f118
theorem heap_set{k:IntKind}{o:List Nat}{v:Int}{i d i':Nat}(hv:v=d)(hi:i<o.length)(hi':i'=i):eqH [.arr o.length 1 (updG (natG k o) i' 0 [.int k v])] [.arr (o.set i d).length 1 (natG k (o.set i d))]:=by
 subst hv;subst hi';refine⟨⟨by simp,rfl,?_⟩,by simp [eqH]⟩;have:=vR (k:=k) (l:=o) (v:=(d:Int)) (by omega) hi;simpa using this
def X1:Ctr:=ctr2 true (λx y=>fits x/\fits y)
 (λx y p=>p=x*y) (λx y p=>(.osl 0 1 0 (canon p).length,[.arr ((canon x).length+(canon y).length) 1 (natG .u32 (padN ((canon x).length+(canon y).length) p))]))
def S76(x y i:Nat)(o:List Nat):KV:=[(0,magS x),(1,magS y),(5,.osl 0 1 0 o.length),Z 6,Z 7,Z 8,(18,magS x),(19,.i ((canon x).length:Nat)),(20,.i (i:Int)),Z 25,Z 26,Z 27]
def S76b(x y i j c:Nat)(o:List Nat):KV:=[(0,magS x),(1,magS y),(5,.osl 0 1 0 o.length),(6,.i (i:Int)),(7,.int .u32 ((canon x).getD i 0:Nat)),(8,.int .u64 (c:Int)),(18,magS x),(19,.i ((canon x).length:Nat)),(20,.i (i:Int)),(25,magS y),(26,.i ((canon y).length:Nat)),(27,.i (j:Int))]
structure I76(x y:Nat) where
 o:List Nat
 i:Nat
 len:o.length=(canon x).length+(canon y).length
 le:i<=(canon x).length
 dg:dig o
 eq:val o=val ((canon x).take i)*y
structure I76b(x y i V:Nat) where
 o:List Nat
 c:Nat
 j:Nat
 len:o.length=(canon x).length+(canon y).length
 le:j<=(canon y).length
 dg:dig o
 cB:c<B
 z:∀ p,i+(canon y).length<=p->o.getD p 0=0
 eq:val o+B^i*B^j*c=V+B^i*(canon x).getD i 0*val ((canon y).take j)
theorem X8{o' Pi Pj op d v a b' c c' V vt vo:Nat}(h1:o'+Pi*Pj*op=vo+Pi*Pj*d)(h2:vo+Pi*Pj*c=V+Pi*a*vt)(h3:B*c'+d=v)(h4:v=a*b'+op+c):o'+Pi*(Pj*B)*c'=V+Pi*a*(vt+Pj*b'):=by grind
theorem V6:zc prog 118 X1:=by
 refine ue (fn:=f118) (c:=f118.body.getD .skip) rfl rfl rfl λx y hp O w0 Q hq=> ?_
 replace hq:=hq _ rfl;obtain⟨hx,hy⟩:=hp;simp only [fits] at hx hy hq;have hB:B=1000000000:=rfl;refine zb.n G1.h [0,1,5,6,7,8,18,19,20,25,26,27] (let v1:=Int.toNat ((canon x).length+(canon y).length);.S ((canon x).length+(canon y).length) (.side ((0:Int)<=((canon x).length:Int)+((canon y).length:Int)/\((canon x).length:Int)+((canon y).length:Int)<=((canon x).length:Int)+((canon y).length:Int)/\inR .i64 ((canon x).length+(canon y).length)/\Int.toNat ((canon x).length+(canon y).length)*4<=140737488355328) (.leaf (.loop (lps K118 0).1 (lps K118 0).2 [(0,.sl (canon x).length 1 (natG .u32 (canon x))),(1,.sl (canon y).length 1 (natG .u32 (canon y))),(5,.osl 0 1 0 v1),Z 6,Z 7,Z 8,(18,.sl (canon x).length 1 (natG .u32 (canon x))),(19,.i (canon x).length),(20,.i 0),Z 25,Z 26,Z 27] [.arr v1 1 (wO [.int .u32 0])])))) ?_;simp only [Tree.holds,zd,inR,lo,hi];have esum:((canon x).length:Int)+((canon y).length:Int)=(((canon x).length+(canon y).length:Nat):Int):=by omega
 simp only [esum,aD];refine⟨by omega,λ_=>⟨by omega,λ_=> ?_⟩⟩;refine zb.loop (ι:=I76 x y) (λs=>S76 x y s.i s.o) (λs=>[.arr s.o.length 1 (natG .u32 s.o)]) (λs=>(canon x).length - s.i) ⟨List.replicate ((canon x).length+(canon y).length) 0,0,by simp,aI _,qQ _,by simp [j4,val]⟩ 0 ?_ ?_ (by kernel_rfl)
 ·exact⟨by simp [S76,magS,natS,za],by simp [uG],by kernel_rfl,aI _⟩
 ·rintro⟨o,i,hlen,hle,hd,he⟩;refine zb.n G1.h [0,1,5,6,7,8,18,19,20,25,26,27] (.D ((i:Int)<((canon x).length:Int)) (.side ((0:Int)<=i/\(i:Int)<((canon x).length:Int)) (.leaf (.loop (lps (inside K118 0) 0).1 (lps (inside K118 0) 0).2 [(0,.sl (canon x).length 1 (natG .u32 (canon x))),(1,.sl (canon y).length 1 (natG .u32 (canon y))),(5,.osl 0 1 0 o.length),(6,.i i),(7,.int .u32 ↑(List.getD (canon x) (i:Int).toNat 0)),(8,.int .u64 0),(18,.sl (canon x).length 1 (natG .u32 (canon x))),(19,.i (canon x).length),(20,.i i),(25,.sl (canon y).length 1 (natG .u32 (canon y))),(26,.i (canon y).length),(27,.i 0)] [.arr o.length 1 (natG .u32 o)]))) (.ex (λ(u:List Nat)=>u.length=o.length/\0+o.length<=o.length/\o.length<4611686018427387904/\eqG o.length 1 (natG .u32 o) (natG .u32 u)/\dig (List.take o.length (List.drop 0 u))) λn=>.all (λ(x:Nat)=>x=val (List.take o.length (List.drop 0 n))) λn=>.R [.osl 0 1 0 (canon n).length] [.arr o.length 1 (natG .u32 o)])) ?_;simp only [Tree.holds,zd,inR,lo,hi,aD,xH]
  have hz:∀ p,i+(canon y).length<=p->o.getD p 0=0:=by
   intro p hp;refine Qd (n:=i+(canon y).length) ?_ hp;rw [he,Nat.pow_add];have h1:=qp (j3 (zi x) i);have h2:=qp (zi y);rw [zk] at h2;have h3:B^((canon x).take i).length=B^i:=by rw [aH,Nat.min_eq_left hle]
   rw [h3] at h1;exact Nat.mul_lt_mul_of_lt_of_le h1 (Nat.le_of_lt h2) (Nat.pow_pos (by decide))
  refine⟨λhlt=>⟨by simp at hlt; omega,λ_=> ?_⟩,λhge=> ?_⟩
  ·have hlt:i<(canon x).length:=by simp at hlt; omega
   refine zb.loop (ι:=I76b x y i (val o)) (λs=>S76b x y i s.j s.c s.o) (λs=>[.arr s.o.length 1 (natG .u32 s.o)]) (λs=>(canon y).length - s.j) ⟨o,0,0,hlen,aI _,hd,by decide,hz,by simp [val]⟩ 1 ?_ ?_ (by kernel_rfl)
   ·exact⟨by simp [S76b,magS,natS,za],by simp [za],by kernel_rfl,aI _⟩
   ·rintro⟨o2,c,j,hlen2,hle2,hd2,hcB,hz2,he2⟩;refine zb.n G1.h [0,1,5,6,7,8,18,19,20,25,26,27] (let v4:=natG .u32 (canon y);let v3:=natG .u32 (canon x);let v2:=Int.tdiv ((↑(List.getD (canon x) i 0):Int)*(↑(List.getD (canon y) (j:Int).toNat 0):Int)+(↑(o2.getD (0+Int.toNat ((i:Int)+j)) 0):Int)+c) (1000000000:Int);let v1:=Int.tmod ((↑(List.getD (canon x) i 0):Int)*(↑(List.getD (canon y) (j:Int).toNat 0):Int)+(↑(o2.getD (0+Int.toNat ((i:Int)+j)) 0):Int)+c) (1000000000:Int);.D ((j:Int)<((canon y).length:Int)) (.side ((0:Int)<=j/\(j:Int)<((canon y).length:Int)) (.side (inR .u64 ↑(List.getD (canon x) i 0)) (.side (inR .u64 ↑(List.getD (canon y) (j:Int).toNat 0)) (.side (inR .u64 ((↑(List.getD (canon x) i 0):Int)*(↑(List.getD (canon y) (j:Int).toNat 0):Int))) (.S ((i:Int)+j) (.side ((0:Int)<=i+(j:Int)/\(i:Int)+j<(o2.length:Int)) (.side (inR .u64 ↑(o2.getD (0+Int.toNat ((i:Int)+j)) 0)) (.side (inR .u64 ((↑(List.getD (canon x) i 0):Int)*(↑(List.getD (canon y) (j:Int).toNat 0):Int)+(↑(o2.getD (0+Int.toNat ((i:Int)+j)) 0):Int))) (.side (inR .u64 ((↑(List.getD (canon x) i 0):Int)*(↑(List.getD (canon y) (j:Int).toNat 0):Int)+(↑(o2.getD (0+Int.toNat ((i:Int)+j)) 0):Int)+c)) (.S ((i:Int)+j) (.side ((1000000000:Int)≠0) (.side (inR .u32 v1) (.side ((1000000000:Int)≠0/\inR .u64 v2) (.side ((0:Int)<=i+(j:Int)/\(i:Int)+j<(o2.length:Int)) (.S (j+1) (.leaf (.back 1 [(0,.sl (canon x).length 1 v3),(1,.sl (canon y).length 1 v4),(5,.osl 0 1 0 o2.length),(6,.i i),(7,.int .u32 ↑(List.getD (canon x) i 0)),(8,.int .u64 v2),(18,.sl (canon x).length 1 v3),(19,.i (canon x).length),(20,.i i),(25,.sl (canon y).length 1 v4),(26,.i (canon y).length),(27,.i (j+1))] [.arr o2.length 1 (updG (natG .u32 o2) (0+Int.toNat ((i:Int)+j)) 0 [.int .u32 v1])]))))))))))))))))) (.S (i+(canon y).length) (.side ((0:Int)<=i+((canon y).length:Int)/\(i:Int)+((canon y).length:Int)<o2.length) (.side (inR .u32 c) (.side (inR .u32 ((↑(o2.getD (0+Int.toNat (i+(canon y).length)) 0):Int)+c)) (.side ((0:Int)<=i+((canon y).length:Int)/\(i:Int)+((canon y).length:Int)<o2.length) (.S (i+1) (.leaf (.back 0 [(0,.sl (canon x).length 1 v3),(1,.sl (canon y).length 1 v4),(5,.osl 0 1 0 o2.length),(6,.i i),(7,.int .u32 ↑(List.getD (canon x) i 0)),(8,.int .u64 c),(18,.sl (canon x).length 1 v3),(19,.i (canon x).length),(20,.i (i+1)),(25,.sl (canon y).length 1 v4),(26,.i (canon y).length),(27,.i j)] [.arr o2.length 1 (updG (natG .u32 o2) (0+Int.toNat (i+(canon y).length)) 0 [.int .u32 ((↑(o2.getD (0+Int.toNat (i+(canon y).length)) 0):Int)+c)])]))))))))) ?_;have ha:=zH (zi x) i;have hb:=zH (zi y) j;have ho:=zH hd2 (i+j);have e1:((i:Int)+(j:Int))=((i+j:Nat):Int):=by omega
    have e2:((i:Int)+((canon y).length:Int))=((i+(canon y).length:Nat):Int):=by omega
    simp only [Tree.holds,zd,inR,lo,hi,e1,e2,aD,Nat.zero_add];have e3:(((canon x).getD i 0:Nat):Int)*(((canon y).getD j 0:Nat):Int)=(((canon x).getD i 0*(canon y).getD j 0:Nat):Int):=by simp
    have hab:(canon x).getD i 0*(canon y).getD j 0<=999999999*999999999:=Nat.mul_le_mul (by omega) (by omega);generalize hv:(canon x).getD i 0*(canon y).getD j 0+o2.getD (i+j) 0+c=v;have e4:(((canon x).getD i 0:Nat):Int)*(((canon y).getD j 0:Nat):Int)+((o2.getD (i+j) 0:Nat):Int)+(c:Int)=(v:Int):=by rw [e3,<- hv]; omega
    have e5:(1000000000:Int)=((B:Nat):Int):=rfl;have hvB:v<1000000000*1000000000:=by omega
    have hdm:=Nat.div_add_mod v B;have hmod:v%B<B:=Nat.mod_lt _ (by decide);have hdiv:v/B<B:=Nat.div_lt_of_lt_mul hvB;rw [e4,e5,YC,YR];generalize v/B=c' at hdm hdiv ⊢;generalize v%B=d at hdm hmod ⊢;rw [e3];generalize hab2:(canon x).getD i 0*(canon y).getD j 0=ab at hab hv ⊢;refine⟨λhj=> ?_,λhj=> ?_⟩
    ·have hj:j<(canon y).length:=by simp at hj; omega
     have hp:i+j<o2.length:=by omega
     refine⟨by omega,λ_=>⟨by omega,λ_=>⟨by omega,λ_=>⟨by omega,λ_=>⟨by omega,λ_=>⟨by omega,λ_=>⟨by omega,λ_=>⟨by omega,λ_=>⟨by omega,λ_=>⟨by omega,λ_=>⟨by omega,λ_=>⟨by omega,λ_=>⟨by omega,λ_=>⟨by omega,λ_=>⟨by omega,λ_=> ?_⟩⟩⟩⟩⟩⟩⟩⟩⟩⟩⟩⟩⟩⟩⟩;rw [aP trivial];have hs:=uh o2 (i+j) d hp;refine⟨⟨o2.set (i+j) d,c',j+1,by simpa using hlen2,by omega,Zx hd2 _ hmod,hdiv,λp hp2=> ?_,?_⟩,by show _ - (j+1)<_ - j; omega,by simp [S76b,magS,natS,za],heap_set rfl hp rfl,by kernel_rfl,aI _⟩
     ·have:=hz2 p hp2;simp only [List.getD] at this ⊢;rw [bS (by omega)]; exact this
     ·rw [Nat.pow_add] at hs;rw [Nat.pow_succ,zp];exact X8 hs he2 hdm (by rw [hab2]; omega)
    ·have hj:j=(canon y).length:=by simp at hj; omega
     subst hj;have h0:=hz2 (i+(canon y).length) (aJ _);have hp:i+(canon y).length<o2.length:=by omega
     have hs:=uh o2 (i+(canon y).length) c hp;refine⟨by omega,λ_=>⟨by omega,λ_=>⟨by omega,λ_=>⟨by omega,λ_=>⟨by omega,λ_=>⟨by omega,λ_=> ?_⟩⟩⟩⟩⟩⟩;rw [aO (by decide),aP trivial];refine⟨⟨o2.set (i+(canon y).length) c,i+1,by simpa using hlen2,by omega,Zx hd2 _ hcB,?_⟩,by show _ - (i+1)<_ - i; omega,by simp [S76,magS,natS,za],heap_set (by omega) hp rfl,by kernel_rfl,aI _⟩;rw [h0,Nat.pow_add] at hs;rw [bD,zk] at he2;rw [zp,bH,<- he];simp only [Nat.mul_zero,Nat.add_zero] at hs;rw [hs,he2]
  ·have hge:i=(canon x).length:=by simp at hge; omega
   subst hge;rw [bD,zk] at he;refine⟨o,⟨rfl,by omega,by omega,za _ _ _,by simpa using hd⟩,⟨_,rfl⟩,?_⟩;intro X hX;have hX:X=x*y:=by simpa [he] using hX
   subst hX;refine⟨[0],rfl,by simp,by simp,λ_=>⟨?_,?_⟩,_,_,q5 ?_,.inl ?_,rfl,hq⟩
   ·simp [resV,new2,new1,new0,zz]
   ·intro k hk;simp only [List.mem_singleton] at hk;subst hk;intro j o' _ _;rfl
   ·simp [resV,exp2,exp1,exp0,zz,eqA2,eqA]
   ·have hpad:=XE hd;rw [he,hlen] at hpad;rw [<- hpad];simp [expH,expB,hlen,za]
end Go.Proofs.Tryz
end
